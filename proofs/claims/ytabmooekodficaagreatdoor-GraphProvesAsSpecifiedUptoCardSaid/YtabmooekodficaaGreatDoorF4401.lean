import Derived.Laws.BytesArg
import Derived.Laws.MakeOwn
import Derived.Laws.StructEq
import Derived.Lib.ConvBytes
import Derived.Test.YtabmooekodficaaGreatDoorF4400
set_option linter.all false
section
namespace Aq
open Go Go.RowKit
theorem JO {K T w} {v:Value} {z:V} (h:dx v=some z):Rel K T w z v:=by
 cases v with
 |bool b=>simp only[dx,iE] at h;subst h;exact .bool b
 |int k n=>simp only[dx,iE] at h;subst h;exact .int k n
 |string s=>simp only[dx,iE] at h;subst h;exact .str _ s rfl
 |pointer a=>
  cases a with
  |none=>simp only[dx,iE] at h;subst h;exact .nilp
  |some a=>simp[dx] at h
 |slice a n c=>
  cases a with
  |none=>
   cases n with
   |zero=>
    cases c with
    |zero=>simp only[dx,iE] at h;subst h;exact .aT .nil none (fun _=>rfl) trivial
    |succ c=>simp[dx] at h
   |succ n=>simp[dx] at h
  |some a=>simp[dx] at h
 |map r=>
  cases r with
  |none=>simp only[dx,iE] at h;subst h;exact .nilm
  |some a=>simp[dx] at h
 |nilFunc=>simp only[dx,iE] at h;subst h;exact .nilf
 |nilIface=>simp only[dx,iE] at h;subst h;exact .nili
 |_=>simp[dx] at h
theorem R5 {v:Value} {z:V} (h:dx v=some z):notRaw z=true:=by
 cases z with
 |raw x=>cases v with
  |slice a n c=>cases a<;>cases n<;>cases c<;>simp[dx] at h
  |pointer a=>cases a<;>simp[dx] at h
  |map a=>cases a<;>simp[dx] at h
  |_=>simp[dx] at h
 |_=>rfl
theorem R6 {v:Value} {z:V} (h:ofValue v=some z):notRaw z=true:=by
 cases v with
 |agg cs=>simp only[ofValue,aat] at h;obtain⟨r,_,rfl⟩:=h;rfl
 |tuple cs=>simp only[ofValue,aat] at h;obtain⟨r,_,rfl⟩:=h;rfl
 |_=>exact R5 (v:=_) (by unfold ofValue at h;exact h)
theorem mapM_some {α β:Type} {f:α->Option β}:∀{l:List α} {r:List β},l.mapM f=some r->l.length=r.length/\∀i (h:i<l.length),∃(h':i<r.length),f l[i]=some r[i]
 | [],r,h=>by simp at h;subst h;exact⟨rfl,fun i hi=>absurd hi (ab2 i)⟩
 |a::l,r,h=>by
  simp only[aew,Option.pure_def,Option.bind_eq_bind] at h
  cases ha:f a with
  |none=>simp[ha] at h
  |some x=>
   cases hl:l.mapM f with
   |none=>simp[ha,hl] at h
   |some r'=>
    simp only[ha,hl,Option.bind_some,iE] at h
    subst h
    obtain⟨h1,h2⟩:=mapM_some hl
    refine⟨by simp[h1],fun i hi=>?_⟩
    cases i with
    |zero=>exact⟨by simp,ha⟩
    |succ i=>
     obtain⟨h3,h4⟩:=h2 i (by simpa using hi)
     exact⟨by simpa using h3,by simpa using h4⟩
theorem cB {α:Type} {l:List α} {i:Nat} (h:i<l.length) (d:α):l.getD i d=l[i]:=by simp[List.getD,h]
theorem rC {α:Type} {l:Array α} {i:Nat} (h:i<l.size) (d:α):l.getD i d=l[i]:=by simp[Array.getD,h]
theorem Af {K T w} {v:Value} {z:V} (h:ofValue v=some z):Rel K T w z v:=by
 have hsc:∀(cs:Array Value) (r:List V),cs.toList.mapM dx=some r->r.length=cs.size/\∀i,i<r.length->Rel K T w (r.getD i undefV) (cs.getD i undef):=by
  intro cs r hr
  obtain⟨h1,h2⟩:=mapM_some hr
  have h1':r.length=cs.size:=by rw[<-h1];simp
  refine⟨h1',fun i hi=>?_⟩
  obtain⟨h3,h4⟩:=h2 i (by omega)
  rw[cB h3,rC (by omega)]
  exact JO (by simpa using h4)
 cases v with
 |agg cs=>
  simp only[ofValue,aat] at h
  obtain⟨r,hr,rfl⟩:=h
  obtain⟨h1,h2⟩:=hsc cs r hr
  exact .agg r cs h1 h2
 |tuple cs=>
  simp only[ofValue,aat] at h
  obtain⟨r,hr,rfl⟩:=h
  obtain⟨h1,h2⟩:=hsc cs r hr
  exact .tup r cs h1 h2
 |_=>exact JO h
theorem mo {E B0 σ K w} (h:aC E B0 σ K w) {fr:Fr} {a:Act} (hf:dK K σ.top w fr a.tmps) (x:Operand):Rel K σ.top w (fr.ev E x) (a.eval x):=by
 cases x with
 |tmp t=>exact hf t
 |const v=>
  simp only[Fr.ev,Act.eval]
  cases hv:ofValue v with
  |none=>exact .raw v
  |some z=>exact Af hv
 |global g=>
  simp only[Fr.ev,Act.eval]
  cases hg:E.glob g with
  |none=>exact .raw _
  |some cs=>exact h.glob g cs hg
 |func f=>exact .fn f [] [] #[] #[] rfl rfl (fun i hi=>absurd hi (ab2 i)) (fun i hi=>absurd hi (ab2 i))
theorem mq {K T w} {v:V} {c:Value} (h:Rel K T w v c) (hr:notRaw v=true):
 v.cells.length=c.cells.size/\∀i,i<v.cells.length->Rel K T w (v.cells.getD i undefV) (c.cells.getD i undef):=by
 have one:∀{v:V} {c:Value},Rel K T w v c->v.cells=[v]->c.cells= #[c]->v.cells.length=c.cells.size/\∀i,i<v.cells.length->Rel K T w (v.cells.getD i undefV) (c.cells.getD i undef):=by
  intro v c h h1 h2
  rw[h1,h2]
  refine⟨rfl,fun i hi=>?_⟩
  obtain rfl:i=0:=by simp at hi;omega
  exact h
 cases h with
 |agg cs vs hl h=>exact⟨hl,h⟩
 |raw v=>simp[notRaw] at hr
 |tup cs vs hl h=>exact one (.tup cs vs hl h) rfl rfl
 |int k n=>exact one (.int k n) rfl rfl
 |bool b=>exact one (.bool b) rfl rfl
 |str s b h=>exact one (.str s b h) rfl rfl
 |nilp=>exact one .nilp rfl rfl
 |nilf=>exact one .nilf rfl rfl
 |nilm=>exact one .nilm rfl rfl
 |nili=>exact one .nili rfl rfl
 |aT c a ha hc=>exact one (.aT c a ha hc) rfl rfl
 |lst c l b o n cap val h1 h2 h3 h4 h5=>exact one (.lst c l b o n cap val h1 h2 h3 h4 h5) rfl rfl
 |vw loc s off len cap aA ag aL h1 h2 h3 h4=>exact one (.vw loc s off len cap aA ag aL h1 h2 h3 h4) rfl rfl
 |dR loc s aA ag h1=>exact one (.dR loc s aA ag h1) rfl rfl
 |cref cs off b o val h1 h2=>exact one (.cref cs off b o val h1 h2) rfl rfl
 |ref loc s off h1=>exact one (.ref loc s off h1) rfl rfl
 |fn f a b av bv h1 h2 h3 h4=>exact one (.fn f a b av bv h1 h2 h3 h4) rfl rfl
 |yield l h1=>exact one (.yield l h1) rfl rfl
 |mapr loc s h1=>exact one (.mapr loc s h1) rfl rfl
 |mapc ks vs b es aH h1 h2 h3 h4 h5 h6=>exact one (.mapc ks vs b es aH h1 h2 h3 h4 h5 h6) rfl rfl
 |iface t v c h=>exact one (.iface t v c h) rfl rfl
theorem JQ {K T w} {v:V} {c:Value} (h:Rel K T w v c) (ho:oneCell v=true):c.oneCell'=true/\c.cells= #[c]/\v.cells=[v]:=by
 cases h<;>first| (simp[oneCell] at ho;done)|exact⟨rfl,rfl,rfl⟩
section types
variable {P:Program} {t:TypeId} (w:World)
theorem JR {i:TypeInfo} (h:P.info? t=some i):(typeInfo t).run P w= .ok i w:=by simp[typeInfo,h]
theorem dH {n:Nat} (h:szT P t=some n):(Go.sizeOf t).run P w= .ok n w:=by
 simp only[szT,aat] at h
 obtain⟨i,hi,rfl⟩:=h
 simp[Go.sizeOf,JR w hi]
theorem JU {b:Bool} (h:isAggT P t=some b):(isAgg t).run P w= .ok b w:=by
 simp only[isAggT,aat] at h
 obtain⟨d,hd,rfl⟩:=h
 simp only[isAgg,Sem.run_bind,run_underlying hd,Result.andThen_ok]
 cases d<;>rfl
theorem mD {z:V} (h:zeroT P t=some z):∃c,(zeroValue t).run P w= .ok c w/\∀K T,Rel K T w z c:=by
 simp only[zeroT,iR] at h
 obtain⟨v,⟨i,hi,hz⟩,hv⟩:=h
 exact⟨v,by simp[zeroValue,JR w hi,hz],fun K T=>Af hv⟩
theorem pK {z:V} (h:zeroT P t=some z):notRaw z=true:=by
 simp only[zeroT,iR] at h
 obtain⟨v,_,hv⟩:=h
 exact R6 hv
theorem pO {e:TypeId} (h:elemT P t=some e):P.underlying t=some (.slice e):=by
 unfold elemT at h
 split at h<;>simp_all
theorem JV {n:Nat} {e:TypeId} (h:arrT P t=some (n,e)):P.underlying t=some (.array n e):=by
 unfold arrT at h
 split at h<;>simp_all
theorem JW {k e:TypeId} (h:mapT P t=some (k,e)):P.underlying t=some (.map k e):=by
 unfold mapT at h
 split at h<;>simp_all
theorem JX {f o:Nat} {u:TypeId} (h:fieldT P t f=some (o,u)):∃fs g n,P.underlying t=some (.struct fs)/\fs[f]? =some g/\g.offset=o/\g.type=u/\szT P u=some (n+1):=by
 unfold fieldT at h
 split at h
 ·rename_i fs hu
  simp only[iR] at h
  obtain⟨g,hg,h⟩:=h
  split at h
  ·rename_i n hn
   simp only[iE,mF] at h
   exact⟨fs,g,n,hu,hg,h.1,h.2,by rw[<-h.2];exact hn⟩
  ·simp at h
 ·simp at h
end types
theorem addr_add (b o n:Nat):(at_ b o).add n=at_ b (o+n):=by
 unfold Addr.add
 split
 ·subst_vars;rfl
 ·rfl
theorem Eu {P:Program} {K T} {w:World} {t:TypeId} {cs:List V} {off:Nat} {v:V} {b o:Nat} (val:Nat->Value)
 (hc:∀i,i<cs.length->w.cell? (at_ b (o+i))=some (val i)) (hr:∀i,i<cs.length->Rel K T w (cs.getD i undefV) (val i)) (h:ldT P t cs off=some v):
 ∃c,(loadVar t (at_ b (o+off))).run P w= .ok c w/\Rel K T w v c:=by
 simp only[ldT,iR] at h
 obtain⟨ag,hag,n,hn,h⟩:=h
 simp only[loadVar,Sem.run_bind,JU w hag,Result.andThen_ok]
 cases ag with
 |true=>
  simp only[gu,if_true] at h
  split at h
  ·rename_i hle
   simp only[iE] at h
   subst h
   have hl:=run_loadCells (P:=P) w (at_ b (o+off)) n (fun j=>val (off+j)) (fun j hj=>by
    rw[addr_add,ae9];exact hc _ (by omega))
   refine⟨.agg ((List.range n).map fun j=>val (off+j)).toArray,by simp[dH w hn,hl],?_⟩
   refine .agg _ _ (by simp;omega) (fun i hi=>?_)
   simp only[aev,aex] at hi
   have hi':i<n:=by omega
   have e1:((cs.drop off).take n).getD i undefV=cs.getD (off+i) undefV:=by
    simp[List.getD,hi',List.getElem?_drop]
   have e2:(((List.range n).map fun j=>val (off+j)).toArray).getD i undef=val (off+i):=by
    simp[Array.getD,hi']
   rw[e1,e2]
   exact hr _ (by omega)
  ·simp at h
 |false=>
  simp only[gu,aaB,if_false] at h
  have hlt:off<cs.length:=(afn.1 h).1
  have hv:cs[off]=v:=(afn.1 h).2
  refine⟨val off,by simp[hc off hlt],?_⟩
  have:=hr off hlt
  rwa[cB hlt,hv] at this
theorem rD {P:Program} {K T} {w:World} {t:TypeId} {cs:List V} {vs:Array Value} {off:Nat} {v:V} (hl:cs.length=vs.size)
 (hr:∀i,i<cs.length->Rel K T w (cs.getD i undefV) (vs.getD i undef)) (h:ldT P t cs off=some v):
 ∃c,(part t vs off).run P w= .ok c w/\Rel K T w v c:=by
 simp only[ldT,iR] at h
 obtain⟨ag,hag,n,hn,h⟩:=h
 simp only[part,Sem.run_bind,JU w hag,Result.andThen_ok]
 cases ag with
 |true=>
  simp only[gu,if_true] at h
  split at h
  ·rename_i hle
   simp only[iE] at h
   subst h
   refine⟨.agg (vs.extract off (off+n)),by simp[dH w hn],?_⟩
   refine .agg _ _ (by simp;omega) (fun i hi=>?_)
   simp only[aev,aex] at hi
   have hi':i<n:=by omega
   have e1:((cs.drop off).take n).getD i undefV=cs.getD (off+i) undefV:=by
    simp[List.getD,hi',List.getElem?_drop]
   have e2:(vs.extract off (off+n)).getD i undef=vs.getD (off+i) undef:=by
    have:off+i<vs.size:=by omega
    simp[Array.getD,this,show i<min (off+n) vs.size-off by omega]
   rw[e1,e2]
   exact hr _ (by omega)
  ·simp at h
 |false=>
  simp only[gu,aaB,if_false] at h
  have hlt:off<cs.length:=(afn.1 h).1
  have hv:cs[off]=v:=(afn.1 h).2
  have hlt':off<vs.size:=by omega
  refine⟨vs.getD off undef,by simp[hlt',Array.getD],?_⟩
  have:=hr off hlt
  rwa[cB hlt,hv] at this
end Aq
end
section
namespace Aq
open Go Go.RowKit
theorem Ev {a b:ByteArray}:(a.data.toList==b.data.toList)=(a==b):=by
 rw[beq_toListBytes,ByteArray.toList_eq,ByteArray.toList_eq]
section eq
variable {P:Program} {K:aB} {T:Nat->Nat} (w:World)
def wB (d:Nat) (e:TypeId) (n:Nat) (xs ys:Array Value):List Nat->Sem Bool
 | []=>pure true
 |i::is=>do
  let a<-part e xs (i*n)
  let b<-part e ys (i*n)
  let r<-Go.Op.equalIn d e a b
  if (!r)=true then pure false else wB d e n xs ys is
theorem run_equalIn_array (d:Nat) (t e:TypeId) (len n:Nat) (xs ys:Array Value) (ht:P.underlying t=some (.array len e)) (hn:szT P e=some n):
 (Go.Op.equalIn (d+1) t (.agg xs) (.agg ys)).run P w=(wB d e n xs ys (List.range len)).run P w:=by
 simp only[Go.Op.equalIn,Sem.run_bind,run_underlying ht,Result.andThen_ok,dH w hn]
 rw[Std.Legacy.Range.forIn_eq_forIn_range']
 simp only[Std.Legacy.Range.size,Nat.sub_zero,Nat.add_sub_cancel,Nat.div_one,<-List.range_eq_range']
 generalize List.range len=is
 clear ht
 induction is generalizing w with
 |nil=>simp[wB]
 |cons i is ih=>
  simp only[List.forIn_cons,wB,Sem.run_bind,Sem.run_ite]
  generalize (part e xs (i*n)).run P w=r1
  cases r1 with
  |ok a w1=>
   simp only[Result.andThen_ok]
   generalize (part e ys (i*n)).run P w1=r2
   cases r2 with
   |ok b w2=>
    simp only[Result.andThen_ok]
    generalize (Go.Op.equalIn d e a b).run P w2=r3
    cases r3 with
    |ok r w3=>
     cases r
     ·simp only[Result.andThen_ok,Bool.not_false,if_true,Sem.run_pure]
     ·simp only[Result.andThen_ok,Bool.not_true,aaB,if_false,Sem.run_pure]
      exact ih w3
    |halt x w3=>simp[Result.andThen]
   |halt x w2=>simp[Result.andThen]
  |halt x w1=>simp[Result.andThen]
theorem Ew:∀(d n:Nat),d<=n->∀(t:TypeId) (x y:V) (cx cy:Value) (r:Bool),Rel K T w x cx->Rel K T w y cy->nG P d t x y=some r->
 (Go.Op.equalIn n t cx cy).run P w= .ok r w
 |0,_,_,_,_,_,_,_,_,_,_,h=>by simp[nG] at h
 |d+1,0,hd,_,_,_,_,_,_,_,_,_=>by omega
 |d+1,n+1,hd,t,x,y,cx,cy,r,hx,hy,h=>by
  have ih:=Ew d n (by omega)
  unfold nG at h
  split at h
  ·rename_i a b hu
   cases hx;cases hy
   simp only[iE] at h;subst h
   simp[Go.Op.equalIn,run_underlying hu]
  ·rename_i kk k a k' b hu
   cases hx;cases hy
   split at h
   ·rename_i hk
    subst hk
    simp only[iE] at h;subst h
    simp[Go.Op.equalIn,run_underlying hu]
   ·simp at h
  ·rename_i a b hu
   cases hx with|str _ ba ha=>cases hy with|str _ bb hb=>
   simp only[iE] at h;subst h
   subst ha;subst hb
   simp only[Go.Op.equalIn,Sem.run_bind,run_underlying hu,Result.andThen_ok,Sem.run_pure,Ev]
  ·rename_i fs xs ys hu
   split at h
   ·simp at h
   ·rename_i hsi
    cases hx with|agg _ vx hlx hrx=>cases hy with|agg _ vy Ey Ez=>
    have hf:P.fieldsOf t=fs:=by simp[Program.fieldsOf,hu]
    rw[run_equalIn_struct w n t vx vy (by rw[hf];exact hu) (by simpa using hsi),hf]
    generalize fs.toList=l at h⊢
    clear hf hu
    induction l generalizing r with
    |nil=>simp only[pz,iE] at h;subst h;rfl
    |cons f l ihl=>
     simp only[pz] at h
     simp only[Op.eqFields]
     split at h
     ·rename_i hn
      simp only[hn,ne_eq,not_true_eq_false,if_false]
      exact ihl r h
     ·rename_i hn
      simp only[iR,aat] at h
      obtain⟨a,ha,b,hb,q,hq,r',hr',rfl⟩:=h
      obtain⟨ca,ra,EA⟩:=rD hlx hrx ha
      obtain⟨cb,rb,EB⟩:=rD Ey Ez hb
      simp only[hn,ne_eq,not_false_eq_true,if_true,Sem.run_bind,ra,rb,Result.andThen_ok,ih f.type a b ca cb q EA EB hq,Sem.run_ite]
      cases q
      ·simp
      ·simpa using ihl r' hr'
  ·rename_i len e xs ys hu
   simp only[iR] at h
   obtain⟨sz,hsz,h⟩:=h
   cases hx with|agg _ vx hlx hrx=>cases hy with|agg _ vy Ey Ez=>
   rw[run_equalIn_array w n t e len sz vx vy hu hsz]
   generalize List.range len=l at h⊢
   clear hu
   induction l generalizing r with
   |nil=>simp only[qX,iE] at h;subst h;rfl
   |cons i l ihl=>
    simp only[qX] at h
    simp only[wB]
    simp only[iR,aat] at h
    obtain⟨a,ha,b,hb,q,hq,r',hr',rfl⟩:=h
    obtain⟨ca,ra,EA⟩:=rD hlx hrx ha
    obtain⟨cb,rb,EB⟩:=rD Ey Ez hb
    simp only[Sem.run_bind,ra,rb,Result.andThen_ok,ih e a b ca cb q EA EB hq,Sem.run_ite]
    cases q
    ·simp
    ·simpa using ihl r' hr'
  ·simp at h
theorem R7 (op:BinOp) (t:TypeId) (ox oy:Operand) {ms} (hu:P.underlying t=some (.interface ms)) (hms:ms.isEmpty=true):(eqGuard op t ox oy .nilIface .nilIface).run P w= .ok () w:=by
 have hg0:∀d,(Go.Op.eqGuardIn (d+1) t .nilIface .nilIface).run P w= .ok false w:=fun d=>by
  simp[Go.Op.eqGuardIn,run_underlying hu,hms]
 have hg:(Go.Op.eqGuardIn Go.Op.maxDepth t .nilIface .nilIface).run P w= .ok false w:=hg0 9999
 unfold eqGuard
 generalize Go.Op.eqGuardIn Go.Op.maxDepth t .nilIface .nilIface=s at hg⊢
 cases op<;>first|rfl| (cases ox<;>cases oy<;>first|rfl|simp[hg])
theorem eq_nil (n:Nat) (t:TypeId) {ms} (hu:P.underlying t=some (.interface ms)):(Go.Op.equalIn (n+1) t .nilIface .nilIface).run P w= .ok true w:=by
 simp[Go.Op.equalIn,run_underlying hu]
theorem R8 (n:Nat) (t:TypeId) {ms} {u c} (hu:P.underlying t=some (.interface ms)):(Go.Op.equalIn (n+1) t .nilIface (.iface u c)).run P w= .ok false w:=by
 simp[Go.Op.equalIn,run_underlying hu]
theorem R9 (n:Nat) (t:TypeId) {ms} {u c} (hu:P.underlying t=some (.interface ms)):(Go.Op.equalIn (n+1) t (.iface u c) .nilIface).run P w= .ok false w:=by
 simp[Go.Op.equalIn,run_underlying hu]
theorem Sb {op:BinOp} (n:Nat) (hn:8<=n+1) (t:TypeId) (x y:V) (cx cy:Value) (r:Bool) (ox oy:Operand) (hx:Rel K T w x cx) (hy:Rel K T w y cy) (h:fO P t x y=some r):
 (eqGuard op t ox oy cx cy).run P w= .ok () w/\(Go.Op.equalIn (n+1) t cx cy).run P w= .ok r w:=by
 unfold fO at h
 split at h
 ·rename_i hu
  cases hx;cases hy;simp only[iE] at h;subst h
  exact⟨by cases op<;>rfl,by simp[Go.Op.equalIn,run_underlying hu]⟩
 ·rename_i hu
  cases hx;cases hy<;>(simp only[iE] at h;subst h;exact⟨by cases op<;>rfl,by simp[Go.Op.equalIn,run_underlying hu]⟩)
 ·rename_i hu
  cases hy;cases hx<;>(simp only[iE] at h;subst h;exact⟨by cases op<;>rfl,by simp[Go.Op.equalIn,run_underlying hu]⟩)
 ·rename_i hu
  cases hx;cases hy;simp only[iE] at h;subst h
  exact⟨by cases op<;>rfl,by simp[Go.Op.equalIn,run_underlying hu]⟩
 ·rename_i hu
  cases hx;cases hy;simp only[iE] at h;subst h
  exact⟨by cases op<;>rfl,by simp[Go.Op.equalIn,run_underlying hu]⟩
 ·rename_i hu
  cases hx;cases hy;simp only[iE] at h;subst h
  exact⟨by cases op<;>rfl,by simp[Go.Op.equalIn,run_underlying hu]⟩
 ·rename_i hu
  cases hx;cases hy;simp only[iE] at h;subst h
  exact⟨by cases op<;>rfl,by simp[Go.Op.equalIn,run_underlying hu]⟩
 ·rename_i hu
  cases hx;cases hy;simp only[iE] at h;subst h
  exact⟨by cases op<;>rfl,by simp[Go.Op.equalIn,run_underlying hu]⟩
 ·rename_i hu
  simp only[iE] at h;subst h
  cases hx with
  |lst _ _ _ _ _ _ _ _ _ _ _ hc=>exact hc.elim
  |aT _ a ha _=>cases hy with
   |lst _ _ _ _ _ _ _ _ _ _ _ hc=>exact hc.elim
   |aT _ a' ha' _=>
    cases ha rfl
    cases ha' rfl
    exact⟨by cases op<;>rfl,by simp[Go.Op.equalIn,run_underlying hu]⟩
 ·rename_i hu
  simp only[iE] at h;subst h
  cases hx with
  |lst _ _ _ _ _ _ _ _ _ _ _ hc=>exact hc.elim
  |aT _ a ha _=>cases ha rfl;cases hy with
   |lst _ _ _ _ _ _ _ _ _ _ _ hc=>exact⟨by cases op<;>rfl,by simp[Go.Op.equalIn,run_underlying hu]⟩
 ·rename_i hu
  simp only[iE] at h;subst h
  cases hy with
  |lst _ _ _ _ _ _ _ _ _ _ _ hc=>exact hc.elim
  |aT _ a ha _=>cases ha rfl;cases hx with
   |lst _ _ _ _ _ _ _ _ _ _ _ hc=>exact⟨by cases op<;>rfl,by simp[Go.Op.equalIn,run_underlying hu]⟩
 ·rename_i hu
  cases hx;cases hy;simp only[iE] at h;subst h
  exact⟨by cases op<;>rfl,by simp[Go.Op.equalIn,run_underlying hu]⟩
 ·rename_i hu
  cases hx;cases hy;simp only[iE] at h;subst h
  exact⟨by cases op<;>rfl,by simp[Go.Op.equalIn,run_underlying hu]⟩
 ·rename_i hu
  cases hx;cases hy;simp only[iE] at h;subst h
  exact⟨by cases op<;>rfl,by simp[Go.Op.equalIn,run_underlying hu]⟩
 ·rename_i hu
  cases hx;cases hy;simp only[iE] at h;subst h
  exact⟨by cases op<;>rfl,by simp[Go.Op.equalIn,run_underlying hu]⟩
 ·rename_i hu
  cases hx;cases hy;simp only[iE] at h;subst h
  exact⟨by cases op<;>rfl,by simp[Go.Op.equalIn,run_underlying hu]⟩
 ·rename_i hu
  split at h
  ·simp at h
  ·rename_i hg
   refine⟨?_,Ew w 8 (n+1) hn t _ _ cx cy r hx hy h⟩
   cases hx;cases hy
   exact run_eqGuard_agg w op t ox oy _ _ (by simpa using hg)
 ·rename_i hu
  split at h
  ·simp at h
  ·rename_i hg
   refine⟨?_,Ew w 8 (n+1) hn t _ _ cx cy r hx hy h⟩
   cases hx;cases hy
   exact run_eqGuard_agg w op t ox oy _ _ (by simpa using hg)
 ·rename_i hu
  cases hx;cases hy;simp only[iE] at h;subst h
  exact⟨by cases op<;>rfl,by simp[Go.Op.equalIn,run_underlying hu]⟩
 ·rename_i ms hu
  split at h
  ·rename_i hms
   cases hx;cases hy;simp only[iE] at h;subst h
   exact⟨R7 w op t ox oy hu hms,eq_nil w n t hu⟩
  ·cases h
 ·rename_i hu
  cases hx;cases hy;simp only[iE] at h;subst h
  exact⟨by cases op<;>rfl,R8 w n t hu⟩
 ·rename_i hu
  cases hx;cases hy;simp only[iE] at h;subst h
  exact⟨by cases op<;>rfl,R9 w n t hu⟩
 ·simp at h
theorem JY {op:BinOp} (t:TypeId) (x y:V) (cx cy:Value) (r:Bool) (ox oy:Operand) (hx:Rel K T w x cx) (hy:Rel K T w y cy) (h:fO P t x y=some r):
 (eqGuard op t ox oy cx cy).run P w= .ok () w/\(Go.Op.equal t cx cy).run P w= .ok r w:=
 Sb w 9999 (by omega) t x y cx cy r ox oy hx hy h
end eq
end Aq
end
section
namespace Aq
open Go Go.RowKit
section
variable {P:Program} {K:aB} {T:Nat->Nat} (w:World)
theorem Sc {op:BinOp} {t:TypeId} {k:IntKind} {a b:Int} {v:V} (h:dO op k a b=some v):
 ∃c,(binOp op t (.int k a) (.int k b)).run P w= .ok c w/\Rel K T w v c:=by
 cases op with
 |quo=>
  simp only[dO] at h
  split at h
  ·simp at h
  ·rename_i hb
   simp only[iE] at h;subst h
   exact⟨_,by simp only[binOp_quo,Op.intDiv,hb,if_false,Sem.run_pure],.int _ _⟩
 |rem=>
  simp only[dO] at h
  split at h
  ·simp at h
  ·rename_i hb
   simp only[iE] at h;subst h
   exact⟨_,by simp only[binOp_rem,Op.intDiv,hb,if_false,Sem.run_pure],.int _ _⟩
 |shl=>simp[dO] at h
 |shr=>simp[dO] at h
 |add=>simp only[dO,iE] at h;subst h;exact⟨_,by simp only[binOp_add,Op.intArith,Sem.run_pure],.int _ _⟩
 |sub=>simp only[dO,iE] at h;subst h;exact⟨_,by simp only[binOp_sub,Op.intArith,Sem.run_pure],.int _ _⟩
 |mul=>simp only[dO,iE] at h;subst h;exact⟨_,by simp only[binOp_mul,Op.intArith,Sem.run_pure],.int _ _⟩
 |and=>simp only[dO,iE] at h;subst h;exact⟨_,by simp only[binOp_and,Op.intBits,Sem.run_pure],.int _ _⟩
 |or=>simp only[dO,iE] at h;subst h;exact⟨_,by simp only[binOp_or,Op.intBits,Sem.run_pure],.int _ _⟩
 |xor=>simp only[dO,iE] at h;subst h;exact⟨_,by simp only[binOp_xor,Op.intBits,Sem.run_pure],.int _ _⟩
 |andNot=>simp only[dO,iE] at h;subst h;exact⟨_,by simp only[binOp_andNot,Op.intBits,Sem.run_pure],.int _ _⟩
 |eql=>simp only[dO,iE] at h;subst h;exact⟨_,by simp only[binOp_eql,Sem.run_pure],.bool _⟩
 |neq=>simp only[dO,iE] at h;subst h;exact⟨_,by simp only[binOp_neq,Sem.run_pure],.bool _⟩
 |lss=>simp only[dO,iE] at h;subst h;exact⟨_,by simp only[binOp_lss,Sem.run_pure],.bool _⟩
 |leq=>simp only[dO,iE] at h;subst h;exact⟨_,by simp only[binOp_leq,Sem.run_pure],.bool _⟩
 |gtr=>simp only[dO,iE] at h;subst h;exact⟨_,by simp only[binOp_gtr,Sem.run_pure],.bool _⟩
 |geq=>simp only[dO,iE] at h;subst h;exact⟨_,by simp only[binOp_geq,Sem.run_pure],.bool _⟩
theorem Si {op:BinOp} {t:TypeId} {x y:List UInt8} {a b:ByteArray} {v:V} (ha:a.data.toList=x) (hb:b.data.toList=y) (h:nH op x y=some v):
 ∃c,(binOp op t (.string a) (.string b)).run P w= .ok c w/\Rel K T w v c:=by
 have e:binOp op t (.string a) (.string b)=Op.stringOp op a b:=by cases op<;>rfl
 rw[e]
 subst ha;subst hb
 cases op with
 |add=>
  simp only[nH] at h
  split at h
  ·simp at h
  ·rename_i hn
   simp only[iE] at h;subst h
   have hn':¬((a.size+b.size:Nat):Int)>IntKind.i64.max:=by simpa using hn
   exact⟨.string (a++b),by simp only[Op.stringOp,hn',if_false,Sem.run_pure],.str _ _ (by simp)⟩
 |_=>first
  | (simp only[nH,iE] at h;subst h;refine⟨_,?_,.bool _⟩;simp only[Op.stringOp,Sem.run_pure,ByteArray.toList_eq])
  |simp[nH] at h
def Sj:V->Prop
 |.int _ _|.str _|.raw _|.tup _=>False
 |_=>True
theorem JZ {t:TypeId} {x y:V} {r:Bool} (h:fO P t x y=some r):Sj x:=by
 unfold fO at h
 split at h<;>first|exact trivial|simp at h
theorem Sl {op:BinOp} {t:TypeId} {x y v:V} {cx cy:Value} (ox oy:Operand) (hx:Rel K T w x cx) (hy:Rel K T w y cy) (h:gP P op t x y=some v):
 ∃c,(do eqGuard op t ox oy cx cy;binOp op t cx cy:Sem Value).run P w= .ok c w/\Rel K T w v c:=by
 unfold gP at h
 split at h
 ·cases hx;cases hy
  rename_i k a k' b
  unfold vY at h
  split at h
  ·simp at h
  ·rename_i hb
   simp only[iE] at h;subst h
   refine⟨.int k (k.wrap (a*2^min b.toNat k.bits)),?_,.int _ _⟩
   rw[eqGuard_shl]
   simp[binOp_shl,Op.shift,hb]
 ·cases hx;cases hy
  rename_i k a k' b
  unfold vY at h
  split at h
  ·simp at h
  ·rename_i hb
   simp only[iE] at h;subst h
   refine⟨.int k (a.fdiv (2^min b.toNat k.bits)),?_,.int _ _⟩
   rw[eqGuard_shr]
   simp[binOp_shr,Op.shift,hb]
 ·cases hx;cases hy
  split at h
  ·rename_i hk
   subst hk
   rw[eqGuard_at_int]
   simp only[pure_bind]
   exact Sc w h
  ·simp at h
 ·cases hx with|str _ a ha=>cases hy with|str _ b hb=>
  rw[eqGuard_at_string]
  simp only[pure_bind]
  exact Si w ha hb h
 ·simp only[aat] at h
  obtain⟨r,hr,rfl⟩:=h
  obtain⟨g1,g2⟩:=JY (op:=.eql) w t x y cx cy r ox oy hx hy hr
  refine⟨.bool r,?_,.bool r⟩
  have e:binOp .eql t cx cy=(Op.equal t cx cy>>=fun b=>pure (Value.bool b)):=by
   have hk:=JZ hr
   cases hx<;>first|exact hk.elim|rfl| (cases hy<;>rfl)
  rw[e]
  simp[g1,g2]
 ·simp only[aat] at h
  obtain⟨r,hr,rfl⟩:=h
  obtain⟨g1,g2⟩:=JY (op:=.neq) w t x y cx cy r ox oy hx hy hr
  refine⟨.bool !r,?_,.bool _⟩
  have e:binOp .neq t cx cy=(Op.equal t cx cy>>=fun b=>pure (Value.bool !b)):=by
   have hk:=JZ hr
   cases hx<;>first|exact hk.elim|rfl| (cases hy<;>rfl)
  rw[e]
  simp[g1,g2]
 ·simp at h
end
end Aq
end
section
namespace Aq
open Go Go.RowKit
def wC (K:aB) (T:Nat->Nat) (w:World) (cs:List V) (vs:Array Value):Prop:=
 cs.length=vs.size/\∀i,i<cs.length->Rel K T w (cs.getD i undefV) (vs.getD i undef)
theorem iC {α:Type} (l:List α) (n i:Nat) (d:α):(l.drop n).getD i d=l.getD (n+i) d:=by
 simp[List.getD,List.getElem?_drop]
theorem gD {α:Type} (l:List α) {n i:Nat} (h:i<n) (d:α):(l.take n).getD i d=l.getD i d:=by
 simp[List.getD,h]
section
variable {P:Program} {K:aB} {T:Nat->Nat} (w:World)
theorem Sm {op:UnOp} {x v:V} {cx:Value} (hx:Rel K T w x cx) (h:pE op x=some v):∃c,(Op.unary op cx).run P w= .ok c w/\Rel K T w v c:=by
 unfold pE at h
 split at h
 ·cases hx;simp only[iE] at h;subst h;exact⟨_,rfl,.int _ _⟩
 ·cases hx;simp only[dO,iE] at h;subst h;exact⟨_,rfl,.int _ _⟩
 ·cases hx;simp only[iE] at h;subst h;exact⟨_,rfl,.bool _⟩
 ·simp at h
theorem rE {x:V} {cx:Value} (hx:Rel K T w x cx) {y yc k:Nat} (hy:y<=yc) (code:BoundsCode) (h:bnd x y=some k):(Instr.sliceBound cx yc code).run P w= .ok k w/\k<=y:=by
 simp only[bnd,iR] at h
 obtain⟨i,hi,h⟩:=h
 split at h
 ·rename_i hb
  simp only[iE] at h;subst h
  cases x<;>simp[dP] at hi
  subst hi
  cases hx
  rename_i kk q
  refine⟨?_,by omega⟩
  have:0<=q/\q<=(yc:Int):=by omega
  simp[Instr.sliceBound,asIntOf,this]
 ·simp at h
theorem pQ {lo hi mx:Option V} {j4 j5 jG:Option Value} (EC:Bool) {len cap aL l h m:Nat} (hlc:len<=cap) (hcap:cap<=aL)
 (r1:∀v,lo=some v->∃c,j4=some c/\Rel K T w v c) (n1:lo=none->j4=none)
 (r2:∀v,hi=some v->∃c,j5=some c/\Rel K T w v c) (n2:hi=none->j5=none)
 (r3:∀v,mx=some v->∃c,jG=some c/\Rel K T w v c) (n3:mx=none->jG=none) (hb:bS len cap lo hi mx=some (l,h,m)):
 ∃mc,(Instr.sliceBounds EC len aL j4 j5 jG).run P w= .ok (l,h,mc) w/\l<=h/\h<=m/\m<=cap/\m<=mc/\mc<=aL/\(mx.isSome->mc=m)/\(mx=none->mc=aL/\m=cap):=by
 simp only[bS,iR] at hb
 obtain⟨m',hm,h',hh,l',hl,e⟩:=hb
 simp only[iE,mF] at e
 obtain⟨rfl,rfl,rfl⟩:=e
 cases mx with
 |none=>
  simp only[iE] at hm;subst hm
  obtain rfl:=n3 rfl
  cases hi with
  |none=>
   simp only[iE] at hh;subst hh
   obtain rfl:=n2 rfl
   cases lo with
   |none=>
    simp only[iE] at hl;subst hl
    obtain rfl:=n1 rfl
    exact⟨aL,by simp[Instr.sliceBounds],by omega,by omega,by omega,by omega,by omega,by simp,by simp⟩
   |some vl=>
    obtain⟨cl,rfl,rl⟩:=r1 vl rfl
    obtain⟨g1,g2⟩:=rE (P:=P) w rl (iP _) .sliceB hl
    exact⟨aL,by simp[Instr.sliceBounds,g1],by omega,by omega,by omega,by omega,by omega,by simp,by simp⟩
  |some vh=>
   obtain⟨ch,rfl,rh⟩:=r2 vh rfl
   obtain⟨f1,f2⟩:=rE (P:=P) w rh hcap (if EC then .sliceAcap else .sliceAlen) hh
   cases lo with
   |none=>
    simp only[iE] at hl;subst hl
    obtain rfl:=n1 rfl
    exact⟨aL,by simp[Instr.sliceBounds,f1],by omega,by omega,by omega,by omega,by omega,by simp,by simp⟩
   |some vl=>
    obtain⟨cl,rfl,rl⟩:=r1 vl rfl
    obtain⟨g1,g2⟩:=rE (P:=P) w rl (iP _) .sliceB hl
    exact⟨aL,by simp[Instr.sliceBounds,f1,g1],by omega,by omega,by omega,by omega,by omega,by simp,by simp⟩
 |some vm=>
  obtain⟨cm,rfl,rm⟩:=r3 vm rfl
  obtain⟨e1,e2⟩:=rE (P:=P) w rm hcap (if EC then .slice3Acap else .slice3Alen) hm
  cases hi with
  |none=>simp at hh
  |some vh=>
   obtain⟨ch,rfl,rh⟩:=r2 vh rfl
   obtain⟨f1,f2⟩:=rE (P:=P) w rh (iP _) .slice3B hh
   cases lo with
   |none=>
    simp only[iE] at hl;subst hl
    obtain rfl:=n1 rfl
    exact⟨m',by simp[Instr.sliceBounds,e1,f1],by omega,by omega,by omega,by omega,by omega,by simp,by simp⟩
   |some vl=>
    obtain⟨cl,rfl,rl⟩:=r1 vl rfl
    obtain⟨g1,g2⟩:=rE (P:=P) w rl (iP _) .slice3C hl
    exact⟨m',by simp[Instr.sliceBounds,e1,f1,g1],by omega,by omega,by omega,by omega,by omega,by simp,by simp⟩
theorem Rel.sub {c:Cap} {l:List V} {b o n cap:Nat} (val:Nat->Nat->Value)
 (hn:∀i,i<l.length->(l.getD i undefV).cells.length=n)
 (hcell:∀i j,i<l.length->j<n->w.cell? (at_ b (o+i*n+j))=some (val i j)/\K.I b (o+i*n+j))
 (hrel:∀i j,i<l.length->j<n->Rel K T w ((l.getD i undefV).cells.getD j undefV) (val i j)) {lo hi:Nat} (h1:lo<=hi) (h2:hi<=l.length) (hcap:hi-lo<=cap)
 (hc:iA K T c n b (o+lo*n) (hi-lo) cap):Rel K T w (.lst c ((l.take hi).drop lo)) (.slice (some (at_ b (o+lo*n))) (hi-lo) cap):=by
 have hlen:((l.take hi).drop lo).length=hi-lo:=by simp;omega
 have hget:∀i,i<hi-lo->((l.take hi).drop lo).getD i undefV=l.getD (lo+i) undefV:=fun i hi'=>by
  rw[iC,gD _ (by omega)]
 have key:Rel K T w (.lst c ((l.take hi).drop lo)) (.slice (some (at_ b (o+lo*n))) ((l.take hi).drop lo).length cap):=by
  refine .lst c _ b (o+lo*n) n cap (fun i j=>val (lo+i) j) (by omega) (fun i hi'=>?_) (fun i j hi' hj=>?_) (fun i j hi' hj=>?_) (by rw[hlen];exact hc)
  ·rw[hget i (by omega)];exact hn _ (by omega)
  ·have:=hcell (lo+i) j (by omega) hj
   rwa[show o+(lo+i)*n+j=o+lo*n+i*n+j by rw[ae6];omega] at this
  ·rw[hget i (by omega)];exact hrel _ j (by omega) hj
 rwa[hlen] at key
theorem ED {sz n:Nat} {l:List V} (h:eF sz l=true) (hn:∀i,i<l.length->(l.getD i undefV).cells.length=n) (hl:0<l.length):n=sz:=by
 cases l with
 |nil=>simp at hl
 |cons v l=>
  have:=hn 0 (by simp)
  simp only[eF,beq_iff_eq] at h
  simpa [h] using this.symm
theorem iZ (ag:Bool) (n:Nat):∀(k:Nat) (cs:List V),(chunks ag n k cs).length=k
 |0,_=>rfl
 |k+1,cs=>by simp[chunks,iZ ag n k]
theorem EF (ag:Bool) (n:Nat):∀(k:Nat) (cs:List V) (i:Nat),i<k->
 (chunks ag n k cs).getD i undefV=if ag then V.agg ((cs.drop (i*n)).take n) else (cs.drop (i*n)).headD undefV
 |k+1,cs,0,_=>by simp[chunks,List.getD]
 |k+1,cs,i+1,h=>by
  have:=EF ag n k (cs.drop n) i (by omega)
  simp only[chunks,List.getD_cons_succ,this,List.drop_drop]
  rw[show n+i*n=(i+1)*n by rw[ae6];omega]
theorem EG (ag:Bool) {n k:Nat} {cs:List V} (h1:ag=false->n=1) (hl:k*n<=cs.length) (hone:ag=false->oneCells cs=true) {i:Nat} (hi:i<k):
 ((chunks ag n k cs).getD i undefV).cells=(cs.drop (i*n)).take n:=by
 have hmul:i*n+n<=k*n:=by
  have:=ae3 n (Nat.succ_le_of_lt hi)
  rw[afe] at this;exact this
 rw[EF ag n k cs i hi]
 cases ag with
 |true=>rfl
 |false=>
  have hn:=h1 rfl
  subst hn
  have hlt:i<cs.length:=by omega
  have hd:cs.drop (i*1)=cs[i]::cs.drop (i+1):=by rw[Nat.mul_one];exact afy hlt
  have ho:oneCell cs[i]=true:=by
   have:=hone rfl
   simp only[oneCells,aeP] at this
   exact this _ (afc hlt)
  rw[hd]
  simp only[aaB,if_false,List.headD_cons,List.take_succ_cons,List.take_zero]
  cases hc:cs[i]<;>simp_all[oneCell,V.cells]
theorem rF {c:Cap} {ag:Bool} {n k b o cap:Nat} {cs:List V} (val:Nat->Value) (h1:ag=false->n=1) (hl:k*n<=cs.length) (hone:ag=false->oneCells cs=true)
 (hcell:∀j,j<k*n->w.cell? (at_ b (o+j))=some (val j)/\K.I b (o+j)) (hrel:∀j,j<k*n->Rel K T w (cs.getD j undefV) (val j)) (hcap:k<=cap)
 (hc:iA K T c n b o k cap):Rel K T w (.lst c (chunks ag n k cs)) (.slice (some (at_ b o)) k cap):=by
 have hmul:∀i j,i<k->j<n->i*n+j<k*n:=fun i j hi hj=>by
  have:=ae3 n (Nat.succ_le_of_lt hi)
  rw[afe] at this;omega
 have hcl:∀i,i<k->((chunks ag n k cs).getD i undefV).cells=(cs.drop (i*n)).take n:=fun i hi=>EG ag h1 hl hone hi
 have key:Rel K T w (.lst c (chunks ag n k cs)) (.slice (some (at_ b o)) (chunks ag n k cs).length cap):=by
  refine .lst c _ b o n cap (fun i j=>val (i*n+j)) (by rw[iZ];exact hcap) (fun i hi=>?_) (fun i j hi hj=>?_) (fun i j hi hj=>?_) (by rw[iZ];exact hc)
  ·rw[iZ] at hi
   rw[hcl i hi]
   have:=ae3 n (Nat.succ_le_of_lt hi)
   rw[afe] at this
   simp;omega
  ·rw[iZ] at hi
   have:=hcell (i*n+j) (hmul i j hi hj)
   rwa[<-ae9] at this
  ·rw[iZ] at hi
   rw[hcl i hi,gD _ hj,iC]
   exact hrel _ (hmul i j hi hj)
 rwa[iZ] at key
theorem Sn {E:Env} {B0:Nat} {σ:Sig} (hT:T=σ.top) (hs:aC E B0 σ K w) {t:TypeId} {x v:V} {cx:Value} {lo hi mx:Option V} {j4 j5 jG:Option Value} (hx:Rel K T w x cx)
 (r1:∀v,lo=some v->∃c,j4=some c/\Rel K T w v c) (n1:lo=none->j4=none)
 (r2:∀v,hi=some v->∃c,j5=some c/\Rel K T w v c) (n2:hi=none->j5=none)
 (r3:∀v,mx=some v->∃c,jG=some c/\Rel K T w v c) (n3:mx=none->jG=none)
 (h:dQ P σ t x lo hi mx=some v):∃c,(Instr.sliceAt t cx j4 j5 jG).run P w= .ok c w/\Rel K T w v c:=by
 unfold dQ at h
 split at h
 ·rename_i s hu
  cases hx with|str _ b hb=>
  split at h
  ·simp at h
  ·simp only[aat] at h
   obtain⟨⟨l,hh,m⟩,hbv,rfl⟩:=h
   obtain rfl:=n3 rfl
   have hsz:s.length=b.size:=by rw[<-hb];simp
   rw[hsz] at hbv
   obtain⟨mc,g1,g2,g3,_⟩:=pQ (P:=P) w false (iP _) (iP _) r1 n1 r2 n2 (mx:=none) (jG:=none) (fun v hv=>by simp at hv) (fun _=>rfl) hbv
   refine⟨.string (b.extract l hh),by simp[Instr.sliceAt,Instr.slice,run_underlying hu,g1],.str _ _ ?_⟩
   rw[<-hb]
   simp[ByteArray.data_extract,List.drop_take]
 ·rename_i e c s hu
  simp only[iR] at h
  obtain⟨sz,hsz,⟨l,hh,m⟩,hbv,h⟩:=h
  split at h
  ·rename_i hhs
   simp only[iE] at h
   cases hx with
   |aT _ a ha hc=>
    obtain⟨mc,g1,g2,g3,g4,g5,g6,g7,g8⟩:=pQ (P:=P) w true (iP _) (iP _) r1 n1 r2 n2 r3 n3 hbv
    simp only[List.length_nil] at g1 g4 g6
    obtain rfl:m=0:=by omega
    obtain rfl:hh=0:=by omega
    obtain rfl:l=0:=by omega
    obtain rfl:mc=0:=by omega
    refine⟨.slice a 0 0,by cases a<;>simp[Instr.sliceAt,Instr.slice,run_underlying hu,dH w hsz,g1],?_⟩
    subst h
    split
    ·exact .aT c a ha hc
    ·rename_i hn
     cases mx with
     |none=>simp at hn
     |some vm=>simp;exact .aT _ a (fun h=>by cases h) trivial
   |lst _ _ b o n cap val hle hn hcell hrel hc=>
    obtain⟨mc,g1,g2,g3,g4,g5,g6,g7,g8⟩:=pQ (P:=P) w true (iP _) hle r1 n1 r2 n2 r3 n3 hbv
    have hn':0<l->n=sz:=fun hl=>ED hhs hn (by omega)
    have hrun:(Instr.sliceAt t (.slice (some (at_ b o)) s.length cap) j4 j5 jG).run P w= .ok (.slice (some (at_ b (if mc=l then o else o+l*sz))) (hh-l) (mc-l)) w:=by
     simp only[Instr.sliceAt,Instr.slice,Sem.run_bind,run_underlying hu,dH w hsz,g1,Result.andThen_ok,Sem.run_pure]
     split
     ·simp
     ·simp[addr_add]
    refine⟨_,hrun,?_⟩
    subst h
    split
    ·rename_i hw
     obtain⟨rfl,rfl,hm⟩:=hw
     have hm':mx=none:=by cases mx<;>simp_all
     obtain⟨rfl,_⟩:=g8 hm'
     have:(if mc=0 then o else o+0*sz)=o:=by simp
     rw[this]
     exact .lst c s b o n mc val hle hn hcell hrel hc
    ·have hgo:∀c',(∀n' s',c'≠ .own n' s')->iA K T c' n b (o+l*n) (hh-l) (mc-l)->Rel K T w (.lst c' ((s.take hh).drop l)) (.slice (some (at_ b (if mc=l then o else o+l*sz))) (hh-l) (mc-l)):=by
      intro c' hown hc'
      by_cases hml:mc=l
      ·have:hh=l:=by omega
       subst this
       have hnil:(s.take hh).drop hh=[]:=by simp
       rw[hnil]
       have key:Rel K T w (.lst c' []) (.slice (some (at_ b (if mc=hh then o else o+hh*sz))) ([]:List V).length (mc-hh)):=by
        refine .lst c' [] b _ n _ (fun _ _=>undef) (by simp) (fun i hi=>absurd hi (ab2 i)) (fun i j hi=>absurd hi (ab2 i)) (fun i j hi=>absurd hi (ab2 i)) ?_
        cases c' with
        |sh=>trivial
        |full=>simpa [iA] using hc'
        |nil=>exact hc'.elim
        |own n' s'=>exact absurd rfl (hown n' s')
       simpa using key
      ·have e1:(if mc=l then o else o+l*sz)=o+l*n:=by
        rw[if_neg hml]
        rcases Nat.eq_zero_or_pos l with h0|h0
        ·simp[h0]
        ·rw[hn' h0]
       rw[e1]
       exact Rel.sub w val hn hcell hrel g2 (by omega) (by omega) hc'
     cases mx with
     |some vm=>
      have:=g7 rfl
      dsimp only
      split
      ·exact hgo _ (fun _ _=>by simp) (by simp only[iA];omega)
      ·exact hgo _ (fun _ _=>by simp) trivial
     |none=>
      obtain⟨hmc,_⟩:=g8 rfl
      dsimp only
      cases c with
      |full=>
       dsimp only
       split
       ·exact hgo _ (fun _ _=>by simp) (by simp only[iA] at hc⊢;omega)
       ·exact hgo _ (fun _ _=>by simp) trivial
      |_=>exact hgo _ (fun _ _=>by simp) trivial
  ·simp at h
 ·rename_i e loc st off len cap aA ag hu
  simp only[iR] at h
  obtain⟨sz,hsz,⟨l,hh,m⟩,hbv,h⟩:=h
  split at h
  ·rename_i hse
   subst hse
   simp only[iE] at h
   cases hx with
   |dR _ _ _ _ hA=>
    obtain⟨mc,g1,g2,g3,g4,g5,g6,g7,g8⟩:=pQ (P:=P) w true (iP _) (iP _) r1 n1 r2 n2 r3 n3 hbv
    obtain rfl:m=0:=by omega
    obtain rfl:hh=0:=by omega
    obtain rfl:l=0:=by omega
    obtain rfl:mc=0:=by omega
    refine⟨.slice none 0 0,by simp[Instr.sliceAt,Instr.slice,run_underlying hu,dH w hsz,g1],?_⟩
    subst h
    simp
    exact .dR loc st sz ag hA
   |vw _ _ _ _ _ _ _ aL hA hcc hle hks=>
    obtain⟨mc,g1,g2,g3,g4,g5,g6,g7,g8⟩:=pQ (P:=P) w true hle hcc r1 n1 r2 n2 r3 n3 hbv
    have hrun:(Instr.sliceAt t (.slice (some (at_ (K.blk st) off)) len aL) j4 j5 jG).run P w= .ok (.slice (some (at_ (K.blk st) (if mc=l then off else off+l*sz))) (hh-l) (mc-l)) w:=by
     simp only[Instr.sliceAt,Instr.slice,Sem.run_bind,run_underlying hu,dH w hsz,g1,Result.andThen_ok,Sem.run_pure]
     split
     ·simp
     ·simp[addr_add]
    refine⟨_,hrun,?_⟩
    subst h
    split
    ·rename_i hw
     obtain⟨rfl,h0⟩:=hw
     simp only[Nat.sub_self]
     refine .lst _ [] (K.blk st) _ 0 _ (fun _ _=>undef) (by simp) (fun i hi=>absurd hi (ab2 i)) (fun i j hi=>absurd hi (ab2 i)) (fun i j hi=>absurd hi (ab2 i)) ?_
     cases mx with
     |some vm=>
      have:=g7 rfl
      dsimp only
      split
      ·simp only[iA,List.length_nil];omega
      ·trivial
     |none=>trivial
    ·rename_i hw
     have e1:(if mc=l then off else off+l*sz)=off+l*sz:=by
      split
      ·have:l=0:=by omega
       simp[this]
      ·rfl
     rw[e1]
     refine .vw loc st _ _ _ sz ag _ hA (by omega) (by omega) ?_
     have:l*sz+(mc-l)*sz<=aL*sz:=by
      rw[<-ae6]
      exact ae3 _ (by omega)
     omega
  ·simp at h
 ·rename_i n e loc st off hu
  simp only[iR] at h
  obtain⟨sz,hsz,ag,hag,⟨l,hh,m⟩,hbv,cs,hcs,h⟩:=h
  split at h
  ·rename_i hle
   simp only[iE] at h
   obtain⟨ho,hA,hks⟩:=hs.jF hcs
   cases hx with|ref _ _ _ hA'=>
   obtain⟨mc,g1,g2,g3,g4,g5,g6,g7,g8⟩:=pQ (P:=P) w false (iP _) (iP _) r1 n1 r2 n2 r3 n3 hbv
   have hrun:(Instr.sliceAt t (.pointer (some (at_ (K.blk st) off))) j4 j5 jG).run P w= .ok (.slice (some (at_ (K.blk st) (if mc=l then off else off+l*sz))) (hh-l) (mc-l)) w:=by
    simp only[Instr.sliceAt,Sem.run_bind,run_underlying hu,Instr.sureAddr,dH w hsz,g1,Result.andThen_ok,Sem.run_pure]
    split
    ·simp
    ·simp[addr_add]
   refine⟨_,hrun,?_⟩
   subst h
   split
   ·rename_i hw
    obtain⟨rfl,h0⟩:=hw
    simp only[Nat.sub_self]
    refine .lst _ [] (K.blk st) _ 0 _ (fun _ _=>undef) (by simp) (fun i hi=>absurd hi (ab2 i)) (fun i j hi=>absurd hi (ab2 i)) (fun i j hi=>absurd hi (ab2 i)) ?_
    cases mx with
    |some vm=>
     have:=g7 rfl
     dsimp only
     split
     ·simp only[iA,List.length_nil];omega
     ·trivial
    |none=>trivial
   ·rename_i hw
    have e1:(if mc=l then off else off+l*sz)=off+l*sz:=by
     split
     ·have:l=0:=by omega
      simp[this]
     ·rfl
    rw[e1]
    refine .vw loc st _ _ _ sz ag _ hA (by omega) (by omega) ?_
    have:l*sz+(mc-l)*sz<=n*sz:=by
     rw[<-ae6]
     exact ae3 _ (by omega)
    omega
  ·simp at h
 ·rename_i n e cs off hu
  simp only[iR] at h
  obtain⟨sz,hsz,ag,hag,⟨l,hh,m⟩,hbv,h⟩:=h
  split at h
  ·rename_i hle
   obtain⟨hle,hone⟩:=hle
   simp only[iE] at h
   cases hx with|cref _ _ b o val hcell hrel=>
   obtain⟨mc,g1,g2,g3,g4,g5,g6,g7,g8⟩:=pQ (P:=P) w false (iP _) (iP _) r1 n1 r2 n2 r3 n3 hbv
   have hrun:(Instr.sliceAt t (.pointer (some (at_ b (o+off)))) j4 j5 jG).run P w= .ok (.slice (some (at_ b (if mc=l then o+off else o+off+l*sz))) (hh-l) (mc-l)) w:=by
    simp only[Instr.sliceAt,Sem.run_bind,run_underlying hu,Instr.sureAddr,dH w hsz,g1,Result.andThen_ok,Sem.run_pure]
    split
    ·simp
    ·simp[addr_add]
   refine⟨_,hrun,?_⟩
   subst h
   by_cases hml:mc=l
   ·have:hh=l:=by omega
    subst this
    simp only[Nat.sub_self,chunks]
    refine .lst _ [] b _ 0 _ (fun _ _=>undef) (by simp) (fun i hi=>absurd hi (ab2 i)) (fun i j hi=>absurd hi (ab2 i)) (fun i j hi=>absurd hi (ab2 i)) trivial
   ·rw[if_neg hml]
    have hb:l*sz+(hh-l)*sz<=n*sz:=by
     rw[<-ae6]
     exact ae3 _ (by omega)
    have e1:o+off+l*sz=o+(off+l*sz):=by omega
    rw[e1]
    refine rF w (fun j=>val (off+l*sz+j)) (fun hf=>(hone hf).1) (by simp;omega) (fun hf=>?_) (fun j hj=>?_) (fun j hj=>?_) (by omega) trivial
    ·have:=(hone hf).2
     simp only[oneCells,aeP] at this⊢
     exact fun x hx=>this x (List.mem_of_mem_drop hx)
    ·have:=hcell (off+l*sz+j) (by omega)
     rwa[<-ae9 o] at this
    ·rw[iC]
     exact hrel _ (by omega)
  ·simp at h
 ·simp at h
end
end Aq
end
section
namespace Aq
open Go Go.RowKit
section
variable {E:Env} {B0:Nat} {σ:Sig} {K:aB} {w:World} {new:Nat->Prop}
theorem grownCap_ge (w:World) (n old:Nat) (e:TypeId):n<=grownCap w n old e:=by
 show n<=n+_% _
 exact aeG _ _
def Done (E:Env) (B0:Nat) (new:Nat->Prop) (σ:Sig) (K:aB) (w:World) (s:Sem Value) (v:V) (σ':Sig):Prop:=
 ∃c w' K',s.run E.P w= .ok c w'/\Rel K' σ'.top w' v c/\Step E B0 new σ K w σ' K' w'
theorem Done.bW (h:aC E B0 σ K w) {s:Sem Value} {v:V} (hs:∃c,s.run E.P w= .ok c w/\Rel K σ.top w v c):Done E B0 new σ K w s v σ:=by
 obtain⟨c,h1,h2⟩:=hs
 exact⟨c,w,K,h1,h2,.refl h⟩
theorem EH {v:V} {b:UInt8} (h:pF v=some b):∃n,v= .int .u8 n/\b=UInt8.ofNat n.toNat:=by
 unfold pF at h
 split at h
 ·simp only[iE] at h;exact⟨_,rfl,h.symm⟩
 ·simp at h
theorem J2 {src dst e:TypeId} (hs:E.P.underlying src=some (.slice e)) (he:E.P.underlying e=some (.int .u8)) (hd:E.P.underlying dst=some .string) {b o cap:Nat} {l:List V} {bs:List UInt8} {T:Nat->Nat}
 (val:Nat->Value) (hcell:∀i,i<l.length->w.cell? (at_ b (o+i))=some (val i)) (hrel:∀i,i<l.length->Rel K T w (l.getD i undefV) (val i)) (hm:l.mapM pF=some bs):
 ∃c,(convert src dst (.slice (some (at_ b o)) l.length cap)).run E.P w= .ok c w/\Rel K T w (.str bs) c:=by
 obtain⟨h1,h2⟩:=mapM_some hm
 have hv:∀i (hi:i<l.length),∃n:Int,val i= .int .u8 n/\bs.getD i 0=UInt8.ofNat n.toNat:=by
  intro i hi
  obtain⟨h3,h4⟩:=h2 i hi
  obtain⟨n,e1,e2⟩:=EH h4
  have:=hrel i hi
  rw[cB hi,e1] at this
  refine⟨n,?_,by rw[cB h3];exact e2⟩
  generalize val i=c at this
  cases this
  rfl
 have hr:=run_convert_bytes_arg (P:=E.P) w src e hs he b o l.length cap ((List.range l.length).map fun i=>intOf (val i)) (by simp) (fun i hi=>by
  obtain⟨n,e1,_⟩:=hv i hi
  rw[hcell i hi,e1]
  simp[List.getD,hi,e1,intOf]) dst hd
 refine⟨_,hr,.str _ _ ?_⟩
 rw[strOfNums_data]
 apply List.ext_getElem
 ·simp[h1]
 ·intro i hi1 hi2
  have hi:i<l.length:=by simpa using hi1
  obtain⟨n,e1,e2⟩:=hv i hi
  simp only[afz,afA,e1,intOf]
  rw[<-e2,cB hi2]
theorem Sq (h:aC E B0 σ K w) (hB:B0<=w.heap.size) {src dst:TypeId} {x v:V} {cx:Value} (hx:Rel K σ.top w x cx) (hv:mh E.P σ src dst x=some v):
 Done E B0 new σ K w (convert src dst cx) v σ:=by
 unfold mh at hv
 split at hv
 ·rename_i d k kk n hs hd
  cases hx
  simp only[iE] at hv;subst hv
  exact Done.bW h ⟨_,by simp[convert,run_underlying hs,run_underlying hd,Conv.intToInt],.int _ _⟩
 ·rename_i d s hs hd
  cases hx with|str _ b hb=>
  simp only[iE] at hv;subst hv
  exact Done.bW h ⟨.string b,by cases d<;>simp[convert,run_underlying hs,run_underlying hd],.str _ _ hb⟩
 ·rename_i d e s hs hd
  cases hx with|str _ b hb=>
  split at hv
  ·rename_i he
   simp only[iE] at hv;subst hv
   have hrun:=Lib.run_convert_string_bytes (P:=E.P) w src dst e b hs hd he
   have ho:Only w.heap.size w (Lib.bytesWorld w e b):=⟨rfl,rfl,rfl,by rw[Lib.bytesWorld_size];omega,fun k _ hk=>Lib.bytesWorld_at_old w e b k hk⟩
   have hst:=Step.JJ (new:=new) h hB ho (Lib.bytesWorld_at_new w e b)
   have hbs:b.size<=(Lib.bytesCells w e b).size:=by simp[Lib.bytesCells]
   have hlen:(s.map fC).length=b.size:=by rw[<-hb];simp
   have hg:∀i,i<b.size->(s.map fC).getD i undefV=fC (b.data.toList.getD i 0):=fun i hi=>by
    have hi':i<s.length:=by rw[<-hb];simpa using hi
    rw[hb]
    simp[List.getD,hi']
   refine⟨_,_,_,hrun,?_,hst⟩
   have key:Rel (K.addI w.heap.size (Lib.bytesCells w e b).size) σ.top (Lib.bytesWorld w e b) (.lst .sh (s.map fC)) (.slice (some (at_ w.heap.size 0)) (s.map fC).length (grownCap w b.size 0 e)):=by
    refine .lst .sh _ w.heap.size 0 1 _ (fun i _=>.int .u8 (b.data.toList.getD i 0).toNat) ?_ (fun i hi=>?_) (fun i j hi hj=>?_) (fun i j hi hj=>?_) trivial
    ·rw[hlen]
     exact grownCap_ge _ _ _ _
    ·rw[hlen] at hi;rw[hg i hi];rfl
    ·rw[hlen] at hi
     obtain rfl:j=0:=by omega
     refine⟨?_,.inr ⟨rfl,by omega⟩⟩
     have:=Lib.bytesWorld_cell w e b i hi
     simpa using this
    ·rw[hlen] at hi
     obtain rfl:j=0:=by omega
     rw[hg i hi]
     exact .int _ _
   rwa[hlen] at key
  ·simp at hv
 ·rename_i e c l hs hd
  split at hv
  ·rename_i he
   simp only[aat] at hv
   obtain⟨bs,hbs,rfl⟩:=hv
   cases hx with
   |aT _ a ha hc=>
    simp at hbs;subst hbs
    cases a with
    |none=>exact Done.bW h ⟨.string ByteArray.empty,run_convert_bytes_nil w src e hs he 0 0 dst hd,.str _ _ rfl⟩
    |some a=>
     have hl:(loadCells a 0).run E.P w= .ok #[] w:=by
      simpa using run_loadCells_list (P:=E.P) w a [] (fun j v hj=>by simp at hj)
     refine Done.bW h ⟨.string ByteArray.empty,?_,.str _ _ rfl⟩
     rw[run_convert_bytes_string w src dst e _ 0 0 hs he hd]
     simp[Conv.bytesToString,hl]
   |lst _ _ b o n cap val hle hn hcell hrel hc=>
    obtain⟨h1,h2⟩:=mapM_some hbs
    have hn1:∀i,i<l.length->n=1:=fun i hi=>by
     obtain⟨_,h4⟩:=h2 i hi
     obtain⟨q,e1,_⟩:=EH h4
     have:=hn i hi
     rw[cB hi,e1] at this
     exact this.symm
    refine Done.bW h (J2 hs he hd (fun i=>val i 0) (fun i hi=>?_) (fun i hi=>?_) hbs)
    ·have:=(hcell i 0 hi (by rw[hn1 i hi];omega)).1
     rw[hn1 i hi] at this
     simpa using this
    ·have:=hrel i 0 hi (by rw[hn1 i hi];omega)
     obtain⟨_,h4⟩:=h2 i hi
     obtain⟨q,e1,_⟩:=EH h4
     rw[cB hi,e1] at this⊢
     exact this
  ·simp at hv
 ·rename_i e loc s off len cap aA ag hs hd
  split at hv
  ·rename_i he
   simp only[iR] at hv
   obtain⟨cs,hcs,hv⟩:=hv
   split at hv
   ·rename_i hle
    simp only[aat] at hv
    obtain⟨bs,hbs,rfl⟩:=hv
    obtain⟨ho,hA,hks⟩:=h.jF hcs
    obtain⟨_,bI,_⟩:=h.obj _ _ _ ho
    cases hx with
    |dR=>
     simp at hbs;subst hbs
     exact Done.bW h ⟨.string ByteArray.empty,run_convert_bytes_nil w src e hs he 0 0 dst hd,.str _ _ rfl⟩
    |vw _ _ _ _ _ _ _ aL hA hcc hlc hsz=>
     have hlen:((cs.drop off).take len).length=len:=by simp;omega
     have key:=J2 (w:=w) (K:=K) (T:=σ.top) hs he hd (cap:=aL) (b:=K.blk s) (o:=off) (l:=(cs.drop off).take len) (fun i=>(w.cell? (at_ (K.blk s) (off+i))).getD undef) ?_ ?_ hbs
     ·rw[hlen] at key
      exact Done.bW h key
     ·intro i hi
      rw[hlen] at hi
      obtain⟨_,vals,t,g1,g2,g3,g4⟩:=bI.2 (by rintro rfl;simp at hle;omega)
      have:w.cell? (at_ (K.blk s) (off+i))=some (vals.getD (off+i) undef):=by
       simp[World.cell?,g1,show off+i<vals.size by omega]
      simp[this]
     ·intro i hi
      rw[hlen] at hi
      obtain⟨_,vals,t,g1,g2,g3,g4⟩:=bI.2 (by rintro rfl;simp at hle;omega)
      have:w.cell? (at_ (K.blk s) (off+i))=some (vals.getD (off+i) undef):=by
       simp[World.cell?,g1,show off+i<vals.size by omega]
      rw[this,gD _ hi,iC]
      exact g4 _ (by omega)
   ·simp at hv
  ·simp at hv
 ·simp at hv
end
end Aq
end
section
namespace Aq
open Go Go.RowKit
section
variable {E:Env} {B0:Nat} {σ:Sig} {K:aB} {w:World} {new:Nat->Prop}
theorem rG {T:Nat->Nat} {x:V} {cx:Value} {n k:Nat} (hx:Rel K T w x cx) (h:idx x n=some k):∃kk i,cx= .int kk i/\0<=i/\i<n/\i.toNat=k/\k<n:=by
 simp only[idx,iR] at h
 obtain⟨i,hi,h⟩:=h
 split at h
 ·rename_i hb
  simp only[iE] at h;subst h
  cases x<;>simp[dP] at hi
  subst hi
  cases hx
  exact⟨_,_,rfl,hb.1,hb.2,rfl,by omega⟩
 ·simp at h
theorem Sr {t:TypeId} {x i v:V} {cx ci:Value} {T:Nat->Nat} (hx:Rel K T w x cx) (hi:Rel K T w i ci) (h:indexAddrV E.P t x i=some v):
 ∃c,(Instr.indexAt t cx ci).run E.P w= .ok c w/\Rel K T w v c:=by
 unfold indexAddrV at h
 split at h
 ·rename_i e c l hu
  simp only[iR] at h
  obtain⟨sz,hsz,k,hk,el,hel,h⟩:=h
  split at h
  ·rename_i hcl
   simp only[iE] at h;subst h
   obtain⟨kk,q,rfl,h0,hlt,hq,hkl⟩:=rG hi hk
   cases hx with
   |aT=>simp at hkl
   |lst _ _ b o n cap val hle hn hcell hrel hc=>
    have J3:l.getD k undefV=el:=by
     simp[List.getD,hel]
    have hn':n=sz:=by rw[<-hn k hkl,J3,hcl]
    subst hn'
    have hrun:(Instr.indexAt t (.slice (some (at_ b o)) l.length cap) (.int kk q)).run E.P w= .ok (.pointer (some ((at_ b o).add (q.toNat*n)))) w:=by
     simp[Instr.indexAt,run_underlying hu,asIntOf,h0,hlt,dH w hsz]
    refine⟨_,hrun,?_⟩
    rw[addr_add,hq]
    have:=Rel.cref (K:=K) (T:=T) (w:=w) el.cells 0 b (o+k*n) (fun j=>val k j) (fun j hj=>hcell k j hkl (by omega)) (fun j hj=>by
     have:=hrel k j hkl (by omega)
     rwa[J3] at this)
    simpa using this
  ·simp at h
 ·rename_i e loc st off len cap aA ag hu
  simp only[iR] at h
  obtain⟨sz,hsz,k,hk,h⟩:=h
  split at h
  ·rename_i he
   subst he
   simp only[iE] at h;subst h
   obtain⟨kk,q,rfl,h0,hlt,hq,hkl⟩:=rG hi hk
   cases hx with
   |dR=>omega
   |vw _ _ _ _ _ _ _ aL hA hcc hle hks=>
    have hrun:(Instr.indexAt t (.slice (some (at_ (K.blk st) off)) len aL) (.int kk q)).run E.P w= .ok (.pointer (some ((at_ (K.blk st) off).add (q.toNat*sz)))) w:=by
     simp[Instr.indexAt,run_underlying hu,asIntOf,h0,hlt,dH w hsz]
    refine⟨_,hrun,?_⟩
    rw[addr_add,hq]
    exact .ref _ _ _ hA
  ·simp at h
 ·rename_i n e loc st off hu
  simp only[iR,aat] at h
  obtain⟨sz,hsz,k,hk,rfl⟩:=h
  obtain⟨kk,q,rfl,h0,hlt,hq,hkl⟩:=rG hi hk
  cases hx with|ref _ _ _ hA=>
  have hrun:(Instr.indexAt t (.pointer (some (at_ (K.blk st) off))) (.int kk q)).run E.P w= .ok (.pointer (some ((at_ (K.blk st) off).add (q.toNat*sz)))) w:=by
   simp[Instr.indexAt,run_underlying hu,asIntOf,Instr.sureAddr,h0,hlt,dH w hsz]
  refine⟨_,hrun,?_⟩
  rw[addr_add,hq]
  exact .ref _ _ _ hA
 ·rename_i n e cs off hu
  simp only[iR,aat] at h
  obtain⟨sz,hsz,k,hk,rfl⟩:=h
  obtain⟨kk,q,rfl,h0,hlt,hq,hkl⟩:=rG hi hk
  cases hx with|cref _ _ b o val hcell hrel=>
  have hrun:(Instr.indexAt t (.pointer (some (at_ b (o+off)))) (.int kk q)).run E.P w= .ok (.pointer (some ((at_ b (o+off)).add (q.toNat*sz)))) w:=by
   simp[Instr.indexAt,run_underlying hu,asIntOf,Instr.sureAddr,h0,hlt,dH w hsz]
  refine⟨_,hrun,?_⟩
  rw[addr_add,hq,ae9]
  exact .cref _ _ b o val hcell hrel
 ·simp at h
theorem Sv {t:TypeId} {x i v:V} {cx ci:Value} {T:Nat->Nat} (hx:Rel K T w x cx) (hi:Rel K T w i ci) (h:pG E.P t x i=some v):
 ∃c,(Instr.index t cx ci).run E.P w= .ok c w/\Rel K T w v c:=by
 unfold pG at h
 split at h
 ·rename_i n e cs hu
  simp only[iR] at h
  obtain⟨k,hk,sz,hsz,h⟩:=h
  obtain⟨kk,q,rfl,h0,hlt,hq,hkl⟩:=rG hi hk
  cases hx with|agg _ vs hl hr=>
  obtain⟨c,hc,hrel⟩:=rD (P:=E.P) hl hr h
  exact⟨c,by simp[Instr.index,run_underlying hu,asIntOf,h0,hlt,dH w hsz,hq,hc],hrel⟩
 ·rename_i s hu
  simp only[iR,aat] at h
  obtain⟨k,hk,b,hb,rfl⟩:=h
  obtain⟨kk,q,rfl,h0,hlt,hq,hkl⟩:=rG hi hk
  cases hx with|str _ ba hba=>
  have hsz:k<ba.size:=by rw[<-hba] at hkl;simpa using hkl
  have hbk:ba[k]=b:=by
   subst hba
   have:=(afn.1 hb).2
   rw[<-this];rfl
  refine⟨.int .u8 b.toNat,?_,.int _ _⟩
  have:ba[q.toNat]? =some b:=by rw[hq];simp[hsz,hbk]
  simp[Instr.index,run_underlying hu,asIntOf,h0,this]
 ·simp at h
theorem J4 {t:TypeId} {f o:Nat} {u:TypeId} {x v:V} {cx:Value} {T:Nat->Nat} (hx:Rel K T w x cx) (hf:fieldT E.P t f=some (o,u))
 (h:(match x with|.ref loc s off=>some (V.ref loc s (off+o))|.cref cs off=>some (.cref cs (off+o))|_=>none)=some v):
 ∃c,(Instr.fieldAt t cx f).run E.P w= .ok c w/\Rel K T w v c:=by
 obtain⟨fs,g,n,hu,hg,ho,hu',hn⟩:=JX hf
 subst hu'
 have hrun:∀b q,(Instr.fieldAt t (.pointer (some (at_ b q))) f).run E.P w= .ok (.pointer (some (at_ b (q+o)))) w:=by
  intro b q
  simp[Instr.fieldAt,run_underlying hu,hg,Instr.sureAddr,fieldPlace,dH w hn,addr_add,ho]
 cases x with
 |ref loc s off=>
  cases hx with|ref _ _ _ hA=>
  simp only[iE] at h;subst h
  exact⟨_,hrun _ _,.ref _ _ _ hA⟩
 |cref cs off=>
  cases hx with|cref _ _ b o' val hcell hrel=>
  simp only[iE] at h;subst h
  refine⟨_,hrun _ _,?_⟩
  rw[ae9]
  exact .cref _ _ b o' val hcell hrel
 |_=>simp at h
theorem EI (h:aC E B0 σ K w) {t:TypeId} {x v:V} {cx:Value} (hx:Rel K σ.top w x cx)
 (hv:(match x with|.ref loc s off=>(σ.cellsAt loc s).bind fun cs=>ldT E.P t cs off|.cref cs off=>ldT E.P t cs off|_=>none)=some v):
 ∃c,(Instr.loadAt t cx).run E.P w= .ok c w/\Rel K σ.top w v c:=by
 cases x with
 |ref loc s off=>
  simp only[iR] at hv
  obtain⟨cs,hcs,hv⟩:=hv
  cases hx with|ref _ _ _ hA=>
  obtain⟨ho,_,_⟩:=h.jF hcs
  obtain⟨_,bI,_⟩:=h.obj _ _ _ ho
  by_cases hne:cs=[]
  ·subst hne
   obtain⟨c,h1,h2⟩:=Eu (P:=E.P) (K:=K) (T:=σ.top) (w:=w) (cs:=[]) (b:=K.blk s) (o:=0) (fun _=>undef) (fun i hi=>absurd hi (ab2 i)) (fun i hi=>absurd hi (ab2 i)) hv
   exact⟨c,by simpa [Instr.loadAt,Instr.sureAddr] using h1,h2⟩
  ·obtain⟨_,vals,t',g1,g2,g3,g4⟩:=bI.2 hne
   obtain⟨c,h1,h2⟩:=Eu (P:=E.P) (K:=K) (T:=σ.top) (w:=w) (b:=K.blk s) (o:=0) (fun i=>vals.getD i undef) (fun i hi=>by
    have:i<vals.size:=by omega
    simp[World.cell?,g1,this]) g4 hv
   exact⟨c,by simpa [Instr.loadAt,Instr.sureAddr] using h1,h2⟩
 |cref cs off=>
  cases hx with|cref _ _ b o val hcell hrel=>
  obtain⟨c,h1,h2⟩:=Eu (P:=E.P) (K:=K) (T:=σ.top) (w:=w) (b:=b) (o:=o) val (fun i hi=>(hcell i hi).1) hrel hv
  exact⟨c,by simpa [Instr.loadAt,Instr.sureAddr] using h1,h2⟩
 |_=>simp at hv
theorem gF {α:Type} {l r:List α} {i:Nat} (h:i<l.length) (d:α):(l++r).getD i d=l.getD i d:=by simp[List.getD,List.getElem?_append,h]
theorem gG {α:Type} {l r:List α} {i:Nat} (h:l.length<=i) (d:α):(l++r).getD i d=r.getD (i-l.length) d:=by
 simp[List.getD,List.getElem?_append,Nat.not_lt.2 h]
theorem EJ {cs vs:List V} {off i:Nat} (h:off+vs.length<=cs.length):(spliceL cs off vs).getD i undefV=if off<=i/\i<off+vs.length then vs.getD (i-off) undefV else cs.getD i undefV:=by
 unfold spliceL
 have hl:(cs.take off).length=off:=by simp;omega
 rw[aeC]
 by_cases h1:i<off
 ·rw[gF (by omega),gD _ h1,if_neg (by omega)]
 ·rw[gG (by omega),hl]
  by_cases h2:i-off<vs.length
  ·rw[gF h2,if_pos (by omega)]
  ·rw[gG (by omega),iC,if_neg (by omega)]
   congr 1;omega
theorem nM {cs vs:List V} {off:Nat} (h:off+vs.length<=cs.length):(spliceL cs off vs).length=cs.length:=by
 unfold spliceL;simp;omega
theorem Sw (h:aC E B0 σ K w) (hB:B0<=w.heap.size) {t:TypeId} {loc:Loc} {s off:Nat} {cs:List V} {x:V} {ca cx:Value} (ha:Rel K σ.top w (.ref loc s off) ca) (hx:Rel K σ.top w x cx)
 (hcs:σ.cellsAt loc s=some cs) (hsz:some x.cells.length=szT E.P t) (hle:off+x.cells.length<=cs.length) (hone:oneCells x.cells=true):
 ∃w',(Instr.storeAt t ca cx).run E.P w= .ok () w'/\Step E B0 new σ K w (σ.setObj loc s (.cells (spliceL cs off x.cells))) K w':=by
 cases ha with|ref _ _ _ hA=>
 have hraw:notRaw x=true:=by cases x<;>simp_all[notRaw,oneCells,V.cells,oneCell]
 obtain⟨hcl,hcr⟩:=mq hx hraw
 obtain⟨ho,_,_⟩:=h.jF hcs
 obtain⟨_,bI,_⟩:=h.obj _ _ _ ho
 have hone':∀v∈cx.cells.toList,v.oneCell'=true:=by
  intro v hv
  obtain⟨i,hi,rfl⟩:=afR.1 hv
  have hi':i<cx.cells.size:=by simpa using hi
  have:=hcr i (by omega)
  rw[rC hi'] at this
  have h1:oneCell (x.cells.getD i undefV)=true:=by
   simp only[oneCells,aeP] at hone
   rw[cB (by omega)]
   exact hone _ (afc _)
  simpa using (JQ this h1).1
 have Sy:(Instr.storeAt t (.pointer (some (at_ (K.blk s) off))) cx).run E.P w=(storeCells (at_ (K.blk s) off) cx.cells.toList).run E.P w:=by
  have:cx.cells.size=x.cells.length:=hcl.symm
  simp[Instr.storeAt,Instr.sureAddr,storeVar,dH w hsz.symm,this]
 rw[Sy]
 by_cases hne:cs=[]
 ·subst hne
  have h0:x.cells=[]:=by cases hx:x.cells with|nil=>rfl|cons a b=>simp[hx] at hle
  have h0':cx.cells.toList=[]:=by
   have:cx.cells.size=0:=by rw[<-hcl,h0];rfl
   simpa using this
  rw[h0',h0]
  have hoff:off=0:=by simpa [h0] using hle
  have hsp:spliceL [] off []=([]:List V):=by simp[spliceL]
  rw[hsp]
  have e:σ.setObj loc s (.cells [])=σ:=by
   unfold Sig.setObj
   have:upd σ.obj loc (some (s,AObj.cells []))=σ.obj:=by
    funext l
    unfold upd
    split
    ·rename_i hl;rw[hl,ho]
    ·rfl
   rw[this]
  rw[e]
  exact⟨w,rfl,.refl h⟩
 ·obtain⟨hb0,vals,t',g1,g2,g3,g4⟩:=bI.2 hne
  have hrun:=run_storeCells_at E.P (K.blk s) off t' cx.cells.toList 0 vals w g1 (by simp[<-hcl];omega) hone'
  refine⟨_,hrun,?_⟩
  have hlt:=lt_of_heap g1
  have hheap:=setRow_heap w (K.blk s) vals (vals.toList.take (off+0)++cx.cells.toList++vals.toList.drop (off+0+cx.cells.toList.length)).toArray t' (0,0) g1
  have hsize:(vals.toList.take (off+0)++cx.cells.toList++vals.toList.drop (off+0+cx.cells.toList.length)).toArray.size=vals.size:=by
   simp[<-hcl];omega
  have Sz:Only (K.blk s) w (w.setRow (K.blk s) (vals.toList.take (off+0)++cx.cells.toList++vals.toList.drop (off+0+cx.cells.toList.length)).toArray):=by
   refine⟨rfl,rfl,rfl,by simp[World.setRow],fun k hk _=>?_⟩
   simp[World.setRow,Array.getElem?_modify,Ne.symm hk]
  refine Step.setCells h hB ho hne g1 Sz hheap hsize (by intro h0;have:=nM hle;rw[h0] at this;exact hne (afa this.symm)) (by rw[nM hle,hsize];exact g3) (fun e i hi=>?_)
  rw[nM hle] at hi
  rw[EJ hle]
  have wD:i<vals.size:=by omega
  have hval:(vals.toList.take (off+0)++cx.cells.toList++vals.toList.drop (off+0+cx.cells.toList.length)).toArray.getD i undef=if off<=i/\i<off+cx.cells.size then cx.cells.getD (i-off) undef else vals.getD i undef:=by
   have hl:(vals.toList.take (off+0)).length=off:=by simp;omega
   have harr:∀(l:List Value),l.toArray.getD i undef=l.getD i undef:=fun l=>by simp[Array.getD,List.getD];split<;>simp_all
   rw[harr,aeC]
   by_cases h1:i<off
   ·rw[gF (by omega),gD _ (by omega),if_neg (by omega)]
    simp[List.getD,Array.getD,wD]
   ·rw[gG (by omega),hl]
    by_cases h2:i-off<cx.cells.size
    ·rw[gF (by simpa using h2),if_pos (by omega)]
     simp[List.getD,Array.getD,h2]
    ·rw[gG (by simp;omega),iC,if_neg (by omega)]
     have:off+0+cx.cells.toList.length+(i-off-cx.cells.toList.length)=i:=by simp;omega
     rw[this]
     simp[List.getD,Array.getD,wD]
  rw[hval,<-hcl]
  by_cases hh:off<=i/\i<off+x.cells.length
  ·rw[if_pos hh,if_pos hh]
   exact(hcr _ (by omega)).ext e
  ·rw[if_neg hh,if_neg hh]
   exact(g4 i hi).ext e
end
end Aq
end
section
namespace Aq
open Go Go.RowKit
section
variable {E:Env} {B0:Nat} {σ:Sig} {K:aB} {w:World} {new:Nat->Prop} {T:Nat->Nat}
theorem run_checkKey {kt:TypeId} {k:V} {ck:Value} (hk:Rel K T w k ck) (h:eG E.P kt k=true) (b:Bool) (n:Nat):(Instr.checkKey b (n+1) kt ck).run E.P w= .ok () w:=by
 unfold eG at h
 split at h
 ·rename_i hu;cases hk;simp[Instr.checkKey,run_underlying hu]
 ·rename_i hu;cases hk;simp[Instr.checkKey,run_underlying hu]
 ·rename_i hu;cases hk;simp[Instr.checkKey,run_underlying hu]
 ·simp at h
theorem EK {kt:TypeId} {k a:V} {ck ca:Value} {d:TypeDesc} {r:Bool} (hd:E.P.underlying kt=some d) (hk:Rel K T w k ck) (ha:Rel K T w a ca) (hf:eG E.P kt k=true) (h:fB k a=some r):
 Instr.sameNow d ck ca=some r:=by
 unfold eG at hf
 split at hf
 ·rename_i hu
  rw[hd] at hu;simp only[iE] at hu;subst hu
  unfold fB at h
  split at h<;>simp_all
  cases hk;cases ha
  obtain⟨rfl,rfl⟩:=h
  simp[Instr.sameNow]
 ·rename_i hu
  rw[hd] at hu;simp only[iE] at hu;subst hu
  unfold fB at h
  split at h<;>simp_all
  cases hk with|str _ b1 h1=>cases ha with|str _ b2 h2=>
  subst h
  rw[<-h1,<-h2,Ev]
  rfl
 ·rename_i hu
  rw[hd] at hu;simp only[iE] at hu;subst hu
  unfold fB at h
  split at h<;>simp_all
  cases hk;cases ha
  subst h
  rfl
 ·simp at hf
theorem EL {kt:TypeId} {k:V} {ck:Value} {d:TypeDesc} (hd:E.P.underlying kt=some d) (hk:Rel K T w k ck) (hf:eG E.P kt k=true):
 ∀(es:List MapEntry) (ks vs:List V) (i:Nat) (r:Option V),ks.length=es.length->vs.length=es.length->(∀j,j<es.length->Rel K T w (ks.getD j undefV) (es.getD j default).key)->
  gQ k ks vs=some r->(r=none/\Instr.findNow d ck es i=some none)\/∃j,j<es.length/\r=some (vs.getD j undefV)/\Instr.findNow d ck es i=some (some (i+j,(es.getD j default).val))/\
   (∃b,fB k (ks.getD j undefV)=some b/\b=true)
 | [],[],[],i,r,_,_,_,h=>by simp only[gQ,iE] at h;subst h;exact .inl ⟨rfl,rfl⟩
 |e::es,a::ks,v::vs,i,r,h1,h2,hr,h=>by
  simp only[gQ,iR] at h
  obtain⟨b,hb,h⟩:=h
  have hs:=EK hd hk (hr 0 (by simp)) hf hb
  simp only[List.getD_cons_zero] at hs
  cases b with
  |true=>
   simp only[if_true,iE] at h;subst h
   exact .inr ⟨0,by simp,rfl,by simp[Instr.findNow,hs],true,hb,rfl⟩
  |false=>
   simp only[aaB,if_false] at h
   rcases EL hd hk hf es ks vs (i+1) r (by simpa using h1) (by simpa using h2) (fun j hj=>by simpa using hr (j+1) (by simpa using hj)) h with ⟨e1,e2⟩| ⟨j,hj,e1,e2,e3⟩
   ·exact .inl ⟨e1,by simp[Instr.findNow,hs,e2]⟩
   ·refine .inr ⟨j+1,by simpa using hj,by simpa using e1,?_,by simpa using e3⟩
    simp only[Instr.findNow,hs,e2,List.getD_cons_succ]
    rw[show i+1+j=i+(j+1) by omega]
 | [],_::_,_,_,_,h1,_,_,_=>by simp at h1
 | [],[],_::_,_,_,_,h2,_,_=>by simp at h2
 |_::_,[],_,_,_,h1,_,_,_=>by simp at h1
 |_::_,_::_,[],_,_,_,h2,_,_=>by simp at h2
theorem J5 {kt:TypeId} {k:V} (h:eG E.P kt k=true):∃d,E.P.underlying kt=some d:=by
 unfold eG at h
 split at h<;>first|exact⟨_,by assumption⟩|simp at h
theorem SA (h:aC E B0 σ K w) {t:TypeId} {m k v:V} {cm ck:Value} {ok:Bool} (hm:Rel K σ.top w m cm) (hk:Rel K σ.top w k ck) (hv:kP E.P σ t m k ok=some v):
 ∃c,(Instr.lookup t cm ck ok).run E.P w= .ok c w/\Rel K σ.top w v c:=by
 simp only[kP,iR] at hv
 obtain⟨⟨kt,et⟩,hmt,hv⟩:=hv
 have hu:=JW hmt
 split at hv
 ·rename_i hf
  simp only[iR,aat] at hv
  obtain⟨⟨ks,vs⟩,hkv,r,hlk,⟨v',b⟩,hvb,hv⟩:=hv
  obtain⟨d,hd⟩:=J5 hf
  have hes:∃es:Array MapEntry,(cm= .map none/\es= #[]\/∃b aH,cm= .map (some b)/\w.heap[b]? =some (.map es aH))/\ks.length=es.size/\vs.length=es.size/\
   (∀i,i<es.size->Rel K σ.top w (ks.getD i undefV) (es.getD i default).key)/\(∀i,i<es.size->Rel K σ.top w (vs.getD i undefV) (es.getD i default).val):=by
   split at hkv
   ·cases hm
    simp only[iE,mF] at hkv
    obtain⟨rfl,rfl⟩:=hkv
    exact⟨#[],.inl ⟨rfl,rfl⟩,rfl,rfl,fun i hi=>absurd hi (ab2 i),fun i hi=>absurd hi (ab2 i)⟩
   ·rename_i loc s
    unfold Sig.bg at hkv
    split at hkv
    ·rename_i s' ks' vs' ho
     split at hkv
     ·rename_i hs;subst hs
      simp only[iE,mF] at hkv
      obtain⟨rfl,rfl⟩:=hkv
      obtain⟨_,bI,_⟩:=h.obj _ _ _ ho
      obtain⟨_,es,aH,g1,g2,g3,g4,g5⟩:=bI
      cases hm with|mapr _ _ hA=>
      exact⟨es,.inr ⟨_,_,rfl,g1⟩,g2,g3,g4,g5⟩
     ·simp at hkv
    ·simp at hkv
   ·cases hm with|mapc _ _ b es aH hM hb h1 h2 h3 h4=>
    simp only[iE,mF] at hkv
    obtain⟨rfl,rfl⟩:=hkv
    exact⟨es,.inr ⟨_,_,rfl,hb⟩,h1,h2,h3,h4⟩
   ·simp at hkv
  obtain⟨es,hrun,l1,l2,r1,r2⟩:=hes
  have hck:=run_checkKey (E:=E) hk hf es.isEmpty 9999
  have hgd:∀j,es.toList.getD j default=es.getD j default:=fun j=>by simp[List.getD,Array.getD];split<;>simp_all
  have hfind:=EL (E:=E) (K:=K) (T:=σ.top) (w:=w) hd hk hf es.toList ks vs 0 r (by simpa using l1) (by simpa using l2) (fun j hj=>by rw[hgd];exact r1 j (by simpa using hj)) hlk
  have hend:∃c,(do
   let (v,ok')<-match<-Instr.findKey kt ck es.toList with
    |some (_,v)=>pure (v,true)
    |none=>pure (<-zeroValue et,false)
   pure (if ok then .tuple #[v,.bool ok'] else v):Sem Value).run E.P w= .ok c w/\Rel K σ.top w v c:=by
   have hfin:∀c,Rel K σ.top w v' c->Rel K σ.top w v (if ok then .tuple #[c,.bool b] else c):=by
    intro c hc
    subst hv
    cases ok with
    |true=>
     refine .tup _ _ rfl (fun i hi=>?_)
     match i,hi with
     |0,_=>exact hc
     |1,_=>exact .bool b
    |false=>exact hc
   rcases hfind with ⟨rfl,e2⟩| ⟨j,hj,rfl,e2,_⟩
   ·simp only[aat,mF] at hvb
    obtain⟨z,hz,rfl,rfl⟩:=hvb
    obtain⟨cz,hz1,hz2⟩:=mD w hz
    exact⟨_,by simp[Instr.findKey,run_underlying hd,e2,hz1],hfin cz (hz2 _ _)⟩
   ·simp only[iE,mF] at hvb
    obtain⟨rfl,rfl⟩:=hvb
    refine⟨if ok then .tuple #[(es.toList.getD j default).val,.bool true] else (es.toList.getD j default).val,by simp[Instr.findKey,run_underlying hd,e2],hfin _ ?_⟩
    have:=r2 j (by simpa using hj)
    rwa[hgd]
  obtain⟨c,hc1,hc2⟩:=hend
  refine⟨c,?_,hc2⟩
  unfold Instr.lookup
  rcases hrun with ⟨rfl,rfl⟩| ⟨b,aH,rfl,hb⟩
  ·simp only[Sem.run_bind,run_underlying hu,Result.andThen_ok,Sem.run_pure,show (10000:Nat)=9999+1 from rfl,hck]
   simp only[Sem.run_bind] at hc1
   exact hc1
  ·have hg:(getObj b).run E.P w= .ok (.map es aH) w:=by simp[getObj,Sem.run,hb]
   simp only[Sem.run_bind,run_underlying hu,Result.andThen_ok,Sem.run_pure,show (10000:Nat)=9999+1 from rfl,hg,hck]
   simp only[Sem.run_bind] at hc1
   exact hc1
 ·simp at hv
theorem SB {k a:V} (h:fB k a=some true):k=a:=by
 unfold fB at h
 split at h<;>simp_all
theorem SC {kt:TypeId} {k:V} {ck ca:Value} (hk:Rel K T w k ck) (ha:Rel K T w k ca) (hf:eG E.P kt k=true) (n:Nat):Instr.sameBits n ck ca=true:=by
 unfold eG at hf
 split at hf
 ·cases hk;cases ha;cases n<;>simp[Instr.sameBits]
 ·cases hk with|str _ b1 h1=>cases ha with|str _ b2 h2=>
  have:(b1==b2)=true:=by rw[<-Ev,h1,h2];simp
  cases n<;>simpa [Instr.sameBits] using this
 ·cases hk;cases ha;cases n<;>simp[Instr.sameBits]
 ·simp at hf
theorem J6 {k v:V}:∀(ks vs ks' vs':List V),kN k v ks vs=some (ks',vs')->ks.length=vs.length->
 (gQ k ks vs=some none/\ks'=ks++[k]/\vs'=vs++[v])\/∃j,j<ks.length/\ks'=ks.set j k/\vs'=vs.set j v/\gQ k ks vs=some (some (vs.getD j undefV))/\ks.getD j undefV=k/\∀i,i<j->fB k (ks.getD i undefV)=some false
 | [],[],ks',vs',h,_=>by
   simp only[kN,iE,mF] at h
   exact .inl ⟨rfl,h.1.symm,h.2.symm⟩
 |a::ks,b::vs,ks',vs',h,hl=>by
  simp only[kN,iR] at h
  obtain⟨q,hq,h⟩:=h
  cases q with
  |true=>
   simp only[if_true,iE,mF] at h
   refine .inr ⟨0,by simp,by rw[<-h.1];simp,by rw[<-h.2];simp,by simp[gQ,hq],by simpa using (SB hq).symm,fun i hi=>absurd hi (ab2 i)⟩
  |false=>
   simp only[aaB,if_false,aat,mF] at h
   obtain⟨⟨x,y⟩,hxy,h1,h2⟩:=h
   rcases J6 ks vs x y hxy (by simpa using hl) with ⟨e1,e2,e3⟩| ⟨j,hj,e1,e2,e3,e4,e5⟩
   ·exact .inl ⟨by simp[gQ,hq,e1],by rw[<-h1,e2];rfl,by rw[<-h2,e3];rfl⟩
   ·refine .inr ⟨j+1,by simpa using hj,by rw[<-h1,e1];rfl,by rw[<-h2,e2];rfl,by simp[gQ,hq,e3],by simpa using e4,fun i hi=>?_⟩
    cases i with
    |zero=>simpa using hq
    |succ i=>simpa using e5 i (by omega)
 | [],_::_,_,_,_,hl=>by simp at hl
 |_::_,[],_,_,_,hl=>by simp at hl
theorem J7 {d:TypeDesc} {k:V} {ck:Value} {kt:TypeId} (hd:E.P.underlying kt=some d) (hk:Rel K T w k ck) (hf:eG E.P kt k=true):
 ∀(es:List MapEntry) (ks:List V) (i j:Nat),ks.length=es.length->(∀q,q<es.length->Rel K T w (ks.getD q undefV) (es.getD q default).key)->j<es.length->
  (∀q,q<j->fB k (ks.getD q undefV)=some false)->ks.getD j undefV=k->Instr.findNow d ck es i=some (some (i+j,(es.getD j default).val))
 |e::es,a::ks,i,0,h1,hr,hj,hn,he=>by
  have hr0:=hr 0 (by simp)
  simp only[List.getD_cons_zero] at he hr0
  subst he
  have hs:fB a a=some true:=by
   unfold eG at hf
   split at hf<;>first| (simp[fB];done)| (simp at hf;done)
  have:=EK hd hk hr0 hf hs
  simp[Instr.findNow,this]
 |e::es,a::ks,i,j+1,h1,hr,hj,hn,he=>by
  have h0:=hn 0 (by omega)
  simp only[List.getD_cons_zero] at h0
  have hr0:=hr 0 (by simp)
  simp only[List.getD_cons_zero] at hr0
  have:=EK hd hk hr0 hf h0
  have ih:=J7 hd hk hf es ks (i+1) j (by simpa using h1) (fun q hq=>by simpa using hr (q+1) (by simpa using hq)) (by simpa using hj) (fun q hq=>by simpa using hn (q+1) (by omega)) (by simpa using he)
  simp only[Instr.findNow,this,ih,List.getD_cons_succ]
  rw[show i+1+j=i+(j+1) by omega]
 | [],_,_,_,_,_,hj,_,_=>by simp at hj
 |_::_,[],_,_,h1,_,_,_,_=>by simp at h1
theorem J8 {w:World} {b:Nat} {o o':Obj} (_:w.heap[b]? =some o):Only b w {w with heap:=w.heap.setIfInBounds b o'}:=by
 refine⟨rfl,rfl,rfl,by simp,fun k hk _=>?_⟩
 simp[Ne.symm hk]
theorem J9 (h:aC E B0 σ K w) (hB:B0<=w.heap.size) {t:TypeId} {m k v:V} {cm ck cv:Value} {σ':Sig} (hm:Rel K σ.top w m cm) (hk:Rel K σ.top w k ck) (hv:Rel K σ.top w v cv)
 (hu:iV E.P σ t m k v=some σ'):∃w',(Instr.mapUpdate t cm ck cv).run E.P w= .ok () w'/\Step E B0 new σ K w σ' K w'/\σ'.top=σ.top:=by
 simp only[iV,iR] at hu
 obtain⟨⟨kt,et⟩,hmt,hu⟩:=hu
 have hun:=JW hmt
 split at hu
 ·rename_i hf
  split at hu
  ·rename_i loc s
   simp only[iR,aat] at hu
   obtain⟨⟨ks,vs⟩,hmp,⟨ks',vs'⟩,hst,rfl⟩:=hu
   unfold Sig.bg at hmp
   split at hmp
   ·rename_i s' rH rJ ho
    split at hmp
    ·rename_i hs;subst hs
     simp only[iE,mF] at hmp
     obtain⟨rfl,rfl⟩:=hmp
     obtain⟨_,bI,_⟩:=h.obj _ _ _ ho
     obtain⟨hb0,es,aH,g1,g2,g3,g4,g5⟩:=bI
     cases hm with|mapr _ _ hA=>
     obtain⟨d,hd⟩:=J5 hf
     have hck:=run_checkKey (E:=E) hk hf false 9999
     have hgd:∀j,es.toList.getD j default=es.getD j default:=fun j=>by simp[List.getD,Array.getD];split<;>simp_all
     have hst':kN k v rH rJ=some (ks',vs'):=hst
     rcases J6 _ _ _ _ hst' (by omega) with ⟨e1,rfl,rfl⟩| ⟨j,hj,rfl,rfl,e1,e2,e3⟩
     ·have hfind:=EL (E:=E) (K:=K) (T:=σ.top) (w:=w) hd hk hf es.toList rH rJ 0 none (by simpa using g2) (by simpa using g3) (fun j hj=>by rw[hgd];exact g4 j (by simpa using hj)) e1
      have hfn:Instr.findNow d ck es.toList 0=some none:=by
       rcases hfind with ⟨_,e⟩| ⟨_,_,e,_⟩
       ·exact e
       ·cases e
      refine⟨{w with heap:=w.heap.setIfInBounds (K.blk s') (.map (es.push {key:=ck,val:=cv,born:=aH}) (aH+1))},?_,?_,rfl⟩
      ·unfold Instr.mapUpdate
       simp only[Sem.run_bind,run_underlying hun,Result.andThen_ok,show (10000:Nat)=9999+1 from rfl]
       simp[getObj,setObj,Sem.run,g1,hck,Instr.findKey,run_underlying hd,hfn]
      ·have hlt:=lt_of_heap g1
       refine Step.JN h hB ho g1 (J8 g1) (es':=es.push {key:=ck,val:=cv,born:=aH}) (Ae:=aH+1) (by simp[hlt]) (by simp[g2]) (by simp[g3]) (fun e=>?_)
       constructor
       ·intro i hi
        by_cases hi':i<es.size
        ·rw[gF (by omega)]
         have:(es.push {key:=ck,val:=cv,born:=aH}).getD i default=es.getD i default:=by
          simp[Array.getD,hi',Array.getElem_push,Nat.lt_succ_of_lt hi']
         rw[this];exact(g4 i hi').ext e
        ·have:i=es.size:=by simp at hi;omega
         subst this
         rw[gG (by omega),g2]
         simp
         exact hk.ext e
       ·intro i hi
        by_cases hi':i<es.size
        ·rw[gF (by omega)]
         have:(es.push {key:=ck,val:=cv,born:=aH}).getD i default=es.getD i default:=by
          simp[Array.getD,hi',Array.getElem_push,Nat.lt_succ_of_lt hi']
         rw[this];exact(g5 i hi').ext e
        ·have:i=es.size:=by simp at hi;omega
         subst this
         rw[gG (by omega),g3]
         simp
         exact hv.ext e
     ·have hj':j<es.size:=by omega
      have hfn:=J7 (E:=E) (K:=K) (T:=σ.top) (w:=w) hd hk hf es.toList rH 0 j (by simpa using g2) (fun q hq=>by rw[hgd];exact g4 q (by simpa using hq)) (by simpa using hj') e3 e2
      rw[hgd] at hfn
      have hsb:Instr.sameBits 10000 (es.getD j default).key ck=true:=by
       have:=g4 j hj'
       rw[e2] at this
       exact SC (E:=E) this hk hf _
      have hgj:es.getD j default=es[j]:=by simp[Array.getD,hj']
      refine⟨{w with heap:=w.heap.setIfInBounds (K.blk s') (.map (es.modify j fun e=>{e with key:=ck,val:=cv}) aH)},?_,?_,rfl⟩
      ·unfold Instr.mapUpdate
       simp only[Sem.run_bind,run_underlying hun,Result.andThen_ok,show (10000:Nat)=9999+1 from rfl]
       rw[hgj] at hsb hfn
       simp[getObj,setObj,Sem.run,g1,hck,Instr.findKey,run_underlying hd,hfn,hj',Instr.keyThatStays,hsb]
      ·have hlt:=lt_of_heap g1
       refine Step.JN h hB ho g1 (J8 g1) (es':=es.modify j fun e=>{e with key:=ck,val:=cv}) (Ae:=aH) (by simp[hlt]) (by simp[g2]) (by simp[g3]) (fun e=>?_)
       have hmod:∀i,i<es.size->(es.modify j fun e=>{e with key:=ck,val:=cv}).getD i default=if j=i then {es.getD i default with key:=ck,val:=cv} else es.getD i default:=by
        intro i hi
        simp only[Array.getD,Array.size_modify,hi,dif_pos]
        show (es.modify j _)[i]'_=_
        rw[Array.getElem_modify]
        split<;>simp_all
       constructor
       ·intro i hi
        have hi':i<es.size:=by simpa using hi
        rw[hmod i hi']
        by_cases hji:j=i
        ·subst hji
         have:(rH.set j k).getD j undefV=k:=by simp[List.getD,hj]
         rw[this];simp
         exact hk.ext e
        ·have:(rH.set j k).getD i undefV=rH.getD i undefV:=by simp[List.getD,hji]
         rw[this];simp only[hji,if_false]
         exact(g4 i hi').ext e
       ·intro i hi
        have hi':i<es.size:=by simpa using hi
        rw[hmod i hi']
        by_cases hji:j=i
        ·subst hji
         have:(rJ.set j v).getD j undefV=v:=by simp[List.getD,show j<rJ.length by omega]
         rw[this];simp
         exact hv.ext e
        ·have:(rJ.set j v).getD i undefV=rJ.getD i undefV:=by simp[List.getD,hji]
         rw[this];simp only[hji,if_false]
         exact(g5 i hi').ext e
    ·simp at hmp
   ·simp at hmp
  ·simp at hu
 ·simp at hu
end
end Aq
end
