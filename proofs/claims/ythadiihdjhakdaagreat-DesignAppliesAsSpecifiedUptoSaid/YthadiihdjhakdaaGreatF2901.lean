import Derived.Laws.BytesArg
import Derived.Laws.MakeOwn
import Derived.Laws.StructEq
import Derived.Lib.ConvBytes
import Derived.Test.YthadiihdjhakdaaGreatF2900
set_option linter.all false
section
namespace aY
open Go Go.RowKit
theorem adO {K T w}{v:Value}{z:V}(h:kV v=some z):Rel K T w z v:=by
 cases v with
 |bool b=>simp only[kV,iE] at h;subst h;exact .bool b|int k n=>simp only[kV,iE] at h;subst h;exact .int k n|string s=>simp only[kV,iE] at h;subst h;exact .str _ s rfl|pointer a=>
  cases a with
  |none=>simp only[kV,iE] at h;subst h;exact .cB|some a=>simp[kV] at h
 |slice a n c=>
  cases a with
  |none=>
   cases n with
   |zero=>
    cases c with
    |zero=>simp only[kV,iE] at h;subst h;exact .fu .nil none (fun _=>rfl) trivial
    |succ c=>simp[kV] at h
   |succ n=>simp[kV] at h
  |some a=>simp[kV] at h
 |map r=>
  cases r with
  |none=>simp only[kV,iE] at h;subst h;exact .gL|some a=>simp[kV] at h
 |nilFunc=>simp only[kV,iE] at h;subst h;exact .dF|nilIface=>simp only[kV,iE] at h;subst h;exact .iD|_=>simp[kV] at h
theorem alX {v:Value}{z:V}(h:kV v=some z):fV z=true:=by
 cases z with
 |raw x=>cases v with
  |slice a n c=>cases a<;>cases n<;>cases c<;>simp[kV] at h|pointer a=>cases a<;>simp[kV] at h|map a=>cases a<;>simp[kV] at h|_=>simp[kV] at h
 |_=>rfl
theorem alY {v:Value}{z:V}(h:ofValue v=some z):fV z=true:=by
 cases v with
 |agg cs=>simp only[ofValue,aZ] at h;obtain⟨r,_,rfl⟩:=h;rfl
 |tuple cs=>simp only[ofValue,aZ] at h;obtain⟨r,_,rfl⟩:=h;rfl
 |_=>exact alX (v:=_) (by unfold ofValue at h;exact h)
theorem mapM_some {α β:Type}{f:α->Option β}:∀{l:List α}{r:List β},l.mapM f=some r->l.length=r.length/\∀i (h:i<l.length),∃(h':i<r.length),f l[i]=some r[i]
 | [],r,h=>by simp at h;subst h;exact⟨rfl,fun i hi=>absurd hi (gK i)⟩
 |a::l,r,h=>by
  simp only[jL,Option.pure_def,Option.bind_eq_bind] at h;cases ha:f a with
  |none=>simp[ha] at h|some x=>
   cases hl:l.mapM f with
   |none=>simp[ha,hl] at h|some r'=>
    simp only[ha,hl,Option.bind_some,iE] at h;subst h;obtain⟨h1,h2⟩:=mapM_some hl;refine⟨by simp[h1],fun i hi=>?_⟩;cases i with
    |zero=>exact⟨aC,ha⟩|succ i=>obtain⟨h3,h4⟩:=h2 i jI;exact⟨by simpa using h3,by simpa using h4⟩
theorem jZ {α:Type}{l:List α}{i:Nat}(h:i<l.length)(d:α):l.getD i d=l[i]:=by simp[List.getD,h]
theorem Ht {α:Type}{l:Array α}{i:Nat}(h:i<l.size)(d:α):l.getD i d=l[i]:=by simp[Array.getD,h]
theorem RU {K T w}{v:Value}{z:V}(h:ofValue v=some z):Rel K T w z v:=by
 have hsc:∀(cs:Array Value)(r:List V),cs.toList.mapM kV=some r->r.length=cs.size/\∀i,i<r.length->Rel K T w (r.getD i aK) (cs.getD i undef):=by
  intro cs r hr;obtain⟨h1,h2⟩:=mapM_some hr;have h1':r.length=cs.size:=by rw[<-h1];simp
  refine⟨h1',fun i hi=>?_⟩;obtain⟨h3,h4⟩:=h2 i ah;rw[jZ h3,Ht ah];exact adO (by simpa using h4)
 cases v with
 |agg cs=>simp only[ofValue,aZ] at h;obtain⟨r,hr,rfl⟩:=h;obtain⟨h1,h2⟩:=hsc cs r hr;exact .agg r cs h1 h2
 |tuple cs=>simp only[ofValue,aZ] at h;obtain⟨r,hr,rfl⟩:=h;obtain⟨h1,h2⟩:=hsc cs r hr;exact .bq r cs h1 h2
 |_=>exact adO h
theorem xR {E B0 σ K w}(h:bA E B0 σ K w){fr:Fr}{a:Act}(hf:kF K σ.top w fr a.tmps)(x:Operand):Rel K σ.top w (fr.ev E x) (a.eval x):=by
 cases x with
 |tmp t=>exact hf t|const v=>
  simp only[Fr.ev,Act.eval];cases hv:ofValue v with
  |none=>exact .raw v|some z=>exact RU hv
 |global g=>
  simp only[Fr.ev,Act.eval];cases hg:E.glob g with
  |none=>exact .raw _|some cs=>exact h.glob g cs hg
 |func f=>exact .fn f [] [] #[] #[] rfl rfl (fun i hi=>absurd hi (gK i)) (fun i hi=>absurd hi (gK i))
theorem C8 {K T w}{v:V}{c:Value}(h:Rel K T w v c)(hr:fV v=true):
 v.cells.length=c.cells.size/\∀i,i<v.cells.length->Rel K T w (v.cells.getD i aK) (c.cells.getD i undef):=by
 have one:∀{v:V}{c:Value},Rel K T w v c->v.cells=[v]->c.cells= #[c]->v.cells.length=c.cells.size/\∀i,i<v.cells.length->Rel K T w (v.cells.getD i aK) (c.cells.getD i undef):=by
  intro v c h h1 h2;rw[h1,h2];refine⟨rfl,fun i hi=>?_⟩;obtain rfl:i=0:=GV
  exact h
 cases h with
 |agg cs vs hl h=>exact⟨hl,h⟩|raw v=>simp[fV] at hr|bq cs vs hl h=>exact one (.bq cs vs hl h) rfl rfl|int k n=>exact one (.int k n) rfl rfl|bool b=>exact one (.bool b) rfl rfl|str s b h=>exact one (.str s b h) rfl rfl|cB=>exact one .cB rfl rfl|dF=>exact one .dF rfl rfl|gL=>exact one .gL rfl rfl|iD=>exact one .iD rfl rfl|fu c a ha hc=>exact one (.fu c a ha hc) rfl rfl|ay c l b o n cap val h1 h2 h3 h4 h5=>exact one (.ay c l b o n cap val h1 h2 h3 h4 h5) rfl rfl
 |aJ loc s off len cap bS ag eH h1 h2 h3 h4=>exact one (.aJ loc s off len cap bS ag eH h1 h2 h3 h4) rfl rfl|l6 loc s bS ag h1=>exact one (.l6 loc s bS ag h1) rfl rfl|aI cs off b o val h1 h2=>exact one (.aI cs off b o val h1 h2) rfl rfl|ref loc s off h1=>exact one (.ref loc s off h1) rfl rfl|fn f a b kE bv h1 h2 h3 h4=>exact one (.fn f a b kE bv h1 h2 h3 h4) rfl rfl|yield l h1=>exact one (.yield l h1) rfl rfl
 |dJ loc s h1=>exact one (.dJ loc s h1) rfl rfl|eU ks vs b es bR h1 h2 h3 h4 h5 h6=>exact one (.eU ks vs b es bR h1 h2 h3 h4 h5 h6) rfl rfl|iface t v c h=>exact one (.iface t v c h) rfl rfl
theorem adP {K T w}{v:V}{c:Value}(h:Rel K T w v c)(ho:oneCell v=true):c.oneCell'=true/\c.cells= #[c]/\v.cells=[v]:=by
 cases h<;>first| (simp[oneCell] at ho;done)|exact⟨rfl,rfl,rfl⟩
section types
variable {P:Program}{t:TypeId}(w:World)
theorem adQ {i:TypeInfo}(h:P.info? t=some i):(typeInfo t).run P w= .ok i w:=by simp[typeInfo,h]
theorem oH {n:Nat}(h:eX P t=some n):(Go.sizeOf t).run P w= .ok n w:=by simp only[eX,aZ] at h;obtain⟨i,hi,rfl⟩:=h;simp[Go.sizeOf,adQ w hi]
theorem adR {b:Bool}(h:nU P t=some b):(isAgg t).run P w= .ok b w:=by simp only[nU,aZ] at h;obtain⟨d,hd,rfl⟩:=h;simp only[isAgg,Sem.run_bind,run_underlying hd,Result.andThen_ok];cases d<;>rfl
theorem C9 {z:V}(h:kR P t=some z):∃c,(zeroValue t).run P w= .ok c w/\∀K T,Rel K T w z c:=by simp only[kR,iR] at h;obtain⟨v,⟨i,hi,hz⟩,hv⟩:=h;exact⟨v,by simp[zeroValue,adQ w hi,hz],fun K T=>RU hv⟩
theorem Hu {z:V}(h:kR P t=some z):fV z=true:=by simp only[kR,iR] at h;obtain⟨v,_,hv⟩:=h;exact alY hv
theorem LU {e:TypeId}(h:mW P t=some e):P.underlying t=some (.slice e):=by unfold mW at h;split at h<;>simp_all
theorem adS {n:Nat}{e:TypeId}(h:RH P t=some (n,e)):P.underlying t=some (.array n e):=by unfold RH at h;split at h<;>simp_all
theorem adT {k e:TypeId}(h:G8 P t=some (k,e)):P.underlying t=some (.map k e):=by unfold G8 at h;split at h<;>simp_all
theorem adU {f o:Nat}{u:TypeId}(h:xH P t f=some (o,u)):∃fs g n,P.underlying t=some (.struct fs)/\fs[f]? =some g/\g.offset=o/\g.type=u/\eX P u=some (n+1):=by
 unfold xH at h;split at h
 ·rename_i fs hu
  simp only[iR] at h;obtain⟨g,hg,h⟩:=h;split at h
  ·rename_i n hn
   simp only[iE,aP] at h;exact⟨fs,g,n,hu,hg,h.1,h.2,by rw[<-h.2];exact hn⟩
  ·simp at h
 ·simp at h
end types
theorem addr_add (b o n:Nat):(at_ b o).add n=at_ b (o+n):=by
 unfold Addr.add;split
 ·subst_vars;rfl
 ·rfl
theorem XM {P:Program}{K T}{w:World}{t:TypeId}{cs:List V}{off:Nat}{v:V}{b o:Nat}(val:Nat->Value)(hc:∀i,i<cs.length->w.cell? (at_ b (o+i))=some (val i))(hr:∀i,i<cs.length->Rel K T w (cs.getD i aK) (val i))(h:iN P t cs off=some v):
 ∃c,(loadVar t (at_ b (o+off))).run P w= .ok c w/\Rel K T w v c:=by
 simp only[iN,iR] at h;obtain⟨ag,hag,n,hn,h⟩:=h;simp only[loadVar,Sem.run_bind,adR w hag,Result.andThen_ok];cases ag with
 |true=>
  simp only[Bw,if_true] at h;split at h
  ·rename_i hle
   simp only[iE] at h;subst h;have hl:=run_loadCells (P:=P) w (at_ b (o+off)) n (fun j=>val (off+j)) (fun j hj=>by rw[addr_add,uP];exact hc _ ah);refine⟨.agg ((List.range n).map fun j=>val (off+j)).toArray,by simp[oH w hn,hl],?_⟩;refine .agg _ _ jR (fun i hi=>?_);simp only[oz,yO] at hi;have hi':i<n:=ah
   have e1:((cs.drop off).take n).getD i aK=cs.getD (off+i) aK:=by simp[List.getD,hi',List.getElem?_drop]
   have e2:(((List.range n).map fun j=>val (off+j)).toArray).getD i undef=val (off+i):=by simp[Array.getD,hi']
   rw[e1,e2];exact hr _ ah
  ·simp at h
 |false=>
  simp only[Bw,dO,if_false] at h;have hlt:off<cs.length:=(oC.1 h).1;have hv:cs[off]=v:=(oC.1 h).2;refine⟨val off,by simp[hc off hlt],?_⟩;have:=hr off hlt
  rwa[jZ hlt,hv] at this
theorem Hw {P:Program}{K T}{w:World}{t:TypeId}{cs:List V}{vs:Array Value}{off:Nat}{v:V}(hl:cs.length=vs.size)(hr:∀i,i<cs.length->Rel K T w (cs.getD i aK) (vs.getD i undef))(h:iN P t cs off=some v):
 ∃c,(part t vs off).run P w= .ok c w/\Rel K T w v c:=by
 simp only[iN,iR] at h;obtain⟨ag,hag,n,hn,h⟩:=h;simp only[part,Sem.run_bind,adR w hag,Result.andThen_ok];cases ag with
 |true=>
  simp only[Bw,if_true] at h;split at h
  ·rename_i hle
   simp only[iE] at h;subst h;refine⟨.agg (vs.extract off (off+n)),by simp[oH w hn],?_⟩;refine .agg _ _ jR (fun i hi=>?_);simp only[oz,yO] at hi;have hi':i<n:=ah
   have e1:((cs.drop off).take n).getD i aK=cs.getD (off+i) aK:=by simp[List.getD,hi',List.getElem?_drop]
   have e2:(vs.extract off (off+n)).getD i undef=vs.getD (off+i) undef:=by have:off+i<vs.size:=ah;simp[Array.getD,this,show i<min (off+n) vs.size-off by omega]
   rw[e1,e2];exact hr _ ah
  ·simp at h
 |false=>
  simp only[Bw,dO,if_false] at h;have hlt:off<cs.length:=(oC.1 h).1;have hv:cs[off]=v:=(oC.1 h).2;have hlt':off<vs.size:=ah
  refine⟨vs.getD off undef,by simp[hlt',Array.getD],?_⟩;have:=hr off hlt
  rwa[jZ hlt,hv] at this
theorem XO {a b:ByteArray}:(a.data.toList==b.data.toList)=(a==b):=by rw[beq_toListBytes,ByteArray.toList_eq,ByteArray.toList_eq]
section eq
variable {P:Program}{K:aV}{T:Nat->Nat}(w:World)
def LV (d:Nat)(e:TypeId)(n:Nat)(xs ys:Array Value):List Nat->Sem Bool
 | []=>pure true|i::is=>do
  let a<-part e xs (i*n)
  let b<-part e ys (i*n)
  let r<-Go.Op.equalIn d e a b
  if (!r)=true then pure false else LV d e n xs ys is
theorem run_equalIn_array (d:Nat)(t e:TypeId)(len n:Nat)(xs ys:Array Value)(ht:P.underlying t=some (.array len e))(hn:eX P e=some n):(Go.Op.equalIn (d+1) t (.agg xs) (.agg ys)).run P w=(LV d e n xs ys (List.range len)).run P w:=by
 simp only[Go.Op.equalIn,Sem.run_bind,run_underlying ht,Result.andThen_ok,oH w hn];rw[Std.Legacy.Range.forIn_eq_forIn_range'];simp only[Std.Legacy.Range.size,Nat.sub_zero,Nat.add_sub_cancel,Nat.div_one,<-List.range_eq_range'];generalize List.range len=is;clear ht;induction is generalizing w with
 |nil=>simp[LV]|cons i is ih=>
  simp only[List.forIn_cons,LV,Sem.run_bind,Sem.run_ite];generalize (part e xs (i*n)).run P w=r1;cases r1 with
  |ok a w1=>
   simp only[Result.andThen_ok];generalize (part e ys (i*n)).run P w1=r2;cases r2 with
   |ok b w2=>
    simp only[Result.andThen_ok];generalize (Go.Op.equalIn d e a b).run P w2=r3;cases r3 with
    |ok r w3=>
     cases r
     ·simp only[Result.andThen_ok,Bool.not_false,if_true,Sem.run_pure]
     ·simp only[Result.andThen_ok,Bool.not_true,dO,if_false,Sem.run_pure]
      exact ih w3
    |halt x w3=>simp[Result.andThen]
   |halt x w2=>simp[Result.andThen]
  |halt x w1=>simp[Result.andThen]
theorem XP:∀(d n:Nat),d<=n->∀(t:TypeId)(x y:V)(cx cy:Value)(r:Bool),Rel K T w x cx->Rel K T w y cy->CS P d t x y=some r->(Go.Op.equalIn n t cx cy).run P w= .ok r w
 |0,_,_,_,_,_,_,_,_,_,_,h=>by simp[CS] at h|d+1,0,hd,_,_,_,_,_,_,_,_,_=>ah|d+1,n+1,hd,t,x,y,cx,cy,r,hx,hy,h=>by
  have ih:=XP d n ah;unfold CS at h;split at h
  ·rename_i a b hu
   cases hx;cases hy;simp only[iE] at h;subst h;simp[Go.Op.equalIn,run_underlying hu]
  ·rename_i kk k a k' b hu
   cases hx;cases hy;split at h
   ·rename_i hk
    subst hk;simp only[iE] at h;subst h;simp[Go.Op.equalIn,run_underlying hu]
   ·simp at h
  ·rename_i a b hu
   cases hx with|str _ ba ha=>cases hy with|str _ bb hb=>
   simp only[iE] at h;subst h;subst ha;subst hb;simp only[Go.Op.equalIn,Sem.run_bind,run_underlying hu,Result.andThen_ok,Sem.run_pure,XO]
  ·rename_i fs xs ys hu
   split at h
   ·simp at h
   ·rename_i hsi
    cases hx with|agg _ vx hlx hrx=>cases hy with|agg _ vy XQ XR=>
    have hf:P.fieldsOf t=fs:=(by simp[Program.fieldsOf,hu]);rw[run_equalIn_struct w n t vx vy (by rw[hf];exact hu) (by simpa using hsi),hf];generalize fs.toList=l at h⊢;clear hf hu;induction l generalizing r with
    |nil=>simp only[EG,iE] at h;subst h;rfl|cons f l ihl=>
     simp only[EG] at h;simp only[Op.eqFields];split at h
     ·rename_i hn
      simp only[hn,ne_eq,not_true_eq_false,if_false];exact ihl r h
     ·rename_i hn
      simp only[iR,aZ] at h;obtain⟨a,ha,b,hb,q,hq,r',hr',rfl⟩:=h;obtain⟨ca,ra,XT⟩:=Hw hlx hrx ha;obtain⟨cb,rb,XU⟩:=Hw XQ XR hb;simp only[hn,ne_eq,not_false_eq_true,if_true,Sem.run_bind,ra,rb,Result.andThen_ok,ih f.type a b ca cb q XT XU hq,Sem.run_ite];cases q
      ·simp
      ·simpa using ihl r' hr'
  ·rename_i len e xs ys hu
   simp only[iR] at h;obtain⟨sz,hsz,h⟩:=h;cases hx with|agg _ vx hlx hrx=>cases hy with|agg _ vy XQ XR=>
   rw[run_equalIn_array w n t e len sz vx vy hu hsz];generalize List.range len=l at h⊢;clear hu;induction l generalizing r with
   |nil=>simp only[G9,iE] at h;subst h;rfl|cons i l ihl=>
    simp only[G9] at h;simp only[LV];simp only[iR,aZ] at h;obtain⟨a,ha,b,hb,q,hq,r',hr',rfl⟩:=h;obtain⟨ca,ra,XT⟩:=Hw hlx hrx ha;obtain⟨cb,rb,XU⟩:=Hw XQ XR hb;simp only[Sem.run_bind,ra,rb,Result.andThen_ok,ih e a b ca cb q XT XU hq,Sem.run_ite];cases q
    ·simp
    ·simpa using ihl r' hr'
  ·simp at h
theorem alZ (op:BinOp)(t:TypeId)(ox oy:Operand){ms}(hu:P.underlying t=some (.interface ms))(hms:ms.isEmpty=true):(eqGuard op t ox oy .nilIface .nilIface).run P w= .ok () w:=by
 have hg0:∀d,(Go.Op.eqGuardIn (d+1) t .nilIface .nilIface).run P w= .ok false w:=fun d=>by simp[Go.Op.eqGuardIn,run_underlying hu,hms]
 have hg:(Go.Op.eqGuardIn Go.Op.maxDepth t .nilIface .nilIface).run P w= .ok false w:=hg0 9999;unfold eqGuard;generalize Go.Op.eqGuardIn Go.Op.maxDepth t .nilIface .nilIface=s at hg⊢;cases op<;>first|rfl| (cases ox<;>cases oy<;>first|rfl|simp[hg])
theorem eq_nil (n:Nat)(t:TypeId){ms}(hu:P.underlying t=some (.interface ms)):(Go.Op.equalIn (n+1) t .nilIface .nilIface).run P w= .ok true w:=ou
theorem al0 (n:Nat)(t:TypeId){ms}{u c}(hu:P.underlying t=some (.interface ms)):(Go.Op.equalIn (n+1) t .nilIface (.iface u c)).run P w= .ok false w:=ou
theorem al1 (n:Nat)(t:TypeId){ms}{u c}(hu:P.underlying t=some (.interface ms)):(Go.Op.equalIn (n+1) t (.iface u c) .nilIface).run P w= .ok false w:=ou
theorem al2 {op:BinOp}(n:Nat)(hn:8<=n+1)(t:TypeId)(x y:V)(cx cy:Value)(r:Bool)(ox oy:Operand)(hx:Rel K T w x cx)(hy:Rel K T w y cy)(h:rX P t x y=some r):(eqGuard op t ox oy cx cy).run P w= .ok () w/\(Go.Op.equalIn (n+1) t cx cy).run P w= .ok r w:=by
 unfold rX at h;split at h
 ·rename_i hu
  cases hx;cases hy;simp only[iE] at h;subst h;exact⟨ow,ou⟩
 ·rename_i hu
  cases hx;cases hy<;>(simp only[iE] at h;subst h;exact⟨ow,ou⟩)
 ·rename_i hu
  cases hy;cases hx<;>(simp only[iE] at h;subst h;exact⟨ow,ou⟩)
 ·rename_i hu
  cases hx;cases hy;simp only[iE] at h;subst h;exact⟨ow,ou⟩
 ·rename_i hu
  cases hx;cases hy;simp only[iE] at h;subst h;exact⟨ow,ou⟩
 ·rename_i hu
  cases hx;cases hy;simp only[iE] at h;subst h;exact⟨ow,ou⟩
 ·rename_i hu
  cases hx;cases hy;simp only[iE] at h;subst h;exact⟨ow,ou⟩
 ·rename_i hu
  cases hx;cases hy;simp only[iE] at h;subst h;exact⟨ow,ou⟩
 ·rename_i hu
  simp only[iE] at h;subst h;cases hx with
  |ay _ _ _ _ _ _ _ _ _ _ _ hc=>exact hc.elim|fu _ a ha _=>cases hy with
   |ay _ _ _ _ _ _ _ _ _ _ _ hc=>exact hc.elim|fu _ a' ha' _=>
    cases ha rfl;cases ha' rfl;exact⟨ow,ou⟩
 ·rename_i hu
  simp only[iE] at h;subst h;cases hx with
  |ay _ _ _ _ _ _ _ _ _ _ _ hc=>exact hc.elim|fu _ a ha _=>cases ha rfl;cases hy with
   |ay _ _ _ _ _ _ _ _ _ _ _ hc=>exact⟨ow,ou⟩
 ·rename_i hu
  simp only[iE] at h;subst h;cases hy with
  |ay _ _ _ _ _ _ _ _ _ _ _ hc=>exact hc.elim|fu _ a ha _=>cases ha rfl;cases hx with
   |ay _ _ _ _ _ _ _ _ _ _ _ hc=>exact⟨ow,ou⟩
 ·rename_i hu
  cases hx;cases hy;simp only[iE] at h;subst h;exact⟨ow,ou⟩
 ·rename_i hu
  cases hx;cases hy;simp only[iE] at h;subst h;exact⟨ow,ou⟩
 ·rename_i hu
  cases hx;cases hy;simp only[iE] at h;subst h;exact⟨ow,ou⟩
 ·rename_i hu
  cases hx;cases hy;simp only[iE] at h;subst h;exact⟨ow,ou⟩
 ·rename_i hu
  cases hx;cases hy;simp only[iE] at h;subst h;exact⟨ow,ou⟩
 ·rename_i hu
  split at h
  ·simp at h
  ·rename_i hg
   refine⟨?_,XP w 8 (n+1) hn t _ _ cx cy r hx hy h⟩;cases hx;cases hy;exact run_eqGuard_agg w op t ox oy _ _ (by simpa using hg)
 ·rename_i hu
  split at h
  ·simp at h
  ·rename_i hg
   refine⟨?_,XP w 8 (n+1) hn t _ _ cx cy r hx hy h⟩;cases hx;cases hy;exact run_eqGuard_agg w op t ox oy _ _ (by simpa using hg)
 ·rename_i hu
  cases hx;cases hy;simp only[iE] at h;subst h;exact⟨ow,ou⟩
 ·rename_i ms hu
  split at h
  ·rename_i hms
   cases hx;cases hy;simp only[iE] at h;subst h;exact⟨alZ w op t ox oy hu hms,eq_nil w n t hu⟩
  ·cases h
 ·rename_i hu
  cases hx;cases hy;simp only[iE] at h;subst h;exact⟨ow,al0 w n t hu⟩
 ·rename_i hu
  cases hx;cases hy;simp only[iE] at h;subst h;exact⟨ow,al1 w n t hu⟩
 ·simp at h
theorem adV {op:BinOp}(t:TypeId)(x y:V)(cx cy:Value)(r:Bool)(ox oy:Operand)(hx:Rel K T w x cx)(hy:Rel K T w y cy)(h:rX P t x y=some r):(eqGuard op t ox oy cx cy).run P w= .ok () w/\(Go.Op.equal t cx cy).run P w= .ok r w:=
 al2 w 9999 ah t x y cx cy r ox oy hx hy h
end eq
section
variable {P:Program}{K:aV}{T:Nat->Nat}(w:World)
theorem al3 {op:BinOp}{t:TypeId}{k:IntKind}{a b:Int}{v:V}(h:mH op k a b=some v):
 ∃c,(binOp op t (.int k a) (.int k b)).run P w= .ok c w/\Rel K T w v c:=by
 cases op with
 |quo=>
  simp only[mH] at h;split at h
  ·simp at h
  ·rename_i hb
   simp only[iE] at h;subst h;exact⟨_,by simp only[binOp_quo,Op.intDiv,hb,if_false,Sem.run_pure],.int _ _⟩
 |rem=>
  simp only[mH] at h;split at h
  ·simp at h
  ·rename_i hb
   simp only[iE] at h;subst h;exact⟨_,by simp only[binOp_rem,Op.intDiv,hb,if_false,Sem.run_pure],.int _ _⟩
 |shl=>simp[mH] at h|shr=>simp[mH] at h|add=>simp only[mH,iE] at h;subst h;exact⟨_,by simp only[binOp_add,Op.intArith,Sem.run_pure],.int _ _⟩|sub=>simp only[mH,iE] at h;subst h;exact⟨_,by simp only[binOp_sub,Op.intArith,Sem.run_pure],.int _ _⟩|mul=>simp only[mH,iE] at h;subst h;exact⟨_,by simp only[binOp_mul,Op.intArith,Sem.run_pure],.int _ _⟩|and=>simp only[mH,iE] at h;subst h;exact⟨_,by simp only[binOp_and,Op.intBits,Sem.run_pure],.int _ _⟩
 |or=>simp only[mH,iE] at h;subst h;exact⟨_,by simp only[binOp_or,Op.intBits,Sem.run_pure],.int _ _⟩|xor=>simp only[mH,iE] at h;subst h;exact⟨_,by simp only[binOp_xor,Op.intBits,Sem.run_pure],.int _ _⟩|andNot=>simp only[mH,iE] at h;subst h;exact⟨_,by simp only[binOp_andNot,Op.intBits,Sem.run_pure],.int _ _⟩|eql=>simp only[mH,iE] at h;subst h;exact⟨_,by simp only[binOp_eql,Sem.run_pure],.bool _⟩|neq=>simp only[mH,iE] at h;subst h;exact⟨_,by simp only[binOp_neq,Sem.run_pure],.bool _⟩
 |lss=>simp only[mH,iE] at h;subst h;exact⟨_,by simp only[binOp_lss,Sem.run_pure],.bool _⟩|leq=>simp only[mH,iE] at h;subst h;exact⟨_,by simp only[binOp_leq,Sem.run_pure],.bool _⟩|gtr=>simp only[mH,iE] at h;subst h;exact⟨_,by simp only[binOp_gtr,Sem.run_pure],.bool _⟩|geq=>simp only[mH,iE] at h;subst h;exact⟨_,by simp only[binOp_geq,Sem.run_pure],.bool _⟩
theorem al4 {op:BinOp}{t:TypeId}{x y:List UInt8}{a b:ByteArray}{v:V}(ha:a.data.toList=x)(hb:b.data.toList=y)(h:CU op x y=some v):
 ∃c,(binOp op t (.string a) (.string b)).run P w= .ok c w/\Rel K T w v c:=by
 have e:binOp op t (.string a) (.string b)=Op.stringOp op a b:=ow
 rw[e];subst ha;subst hb;cases op with
 |add=>
  simp only[CU] at h;split at h
  ·simp at h
  ·rename_i hn
   simp only[iE] at h;subst h;have hn':¬((a.size+b.size:Nat):Int)>IntKind.i64.max:=by simpa using hn
   exact⟨.string (a++b),by simp only[Op.stringOp,hn',if_false,Sem.run_pure],.str _ _ aC⟩
 |_=>first
  | (simp only[CU,iE] at h;subst h;refine⟨_,?_,.bool _⟩;simp only[Op.stringOp,Sem.run_pure,ByteArray.toList_eq])
  |simp[CU] at h
def al5:V->Prop
 |.int _ _|.str _|.raw _|.bq _=>False|_=>True
theorem adW {t:TypeId}{x y:V}{r:Bool}(h:rX P t x y=some r):al5 x:=by unfold rX at h;split at h<;>first|exact trivial|simp at h
theorem al6 {op:BinOp}{t:TypeId}{x y v:V}{cx cy:Value}(ox oy:Operand)(hx:Rel K T w x cx)(hy:Rel K T w y cy)(h:uS P op t x y=some v):
 ∃c,(do eqGuard op t ox oy cx cy;binOp op t cx cy:Sem Value).run P w= .ok c w/\Rel K T w v c:=by
 unfold uS at h;split at h
 ·cases hx;cases hy
  rename_i k a k' b;unfold LA at h;split at h
  ·simp at h
  ·rename_i hb
   simp only[iE] at h;subst h;refine⟨.int k (k.wrap (a*2^min b.toNat k.bits)),?_,.int _ _⟩;rw[eqGuard_shl];simp[binOp_shl,Op.shift,hb]
 ·cases hx;cases hy
  rename_i k a k' b;unfold LA at h;split at h
  ·simp at h
  ·rename_i hb
   simp only[iE] at h;subst h;refine⟨.int k (a.fdiv (2^min b.toNat k.bits)),?_,.int _ _⟩;rw[eqGuard_shr];simp[binOp_shr,Op.shift,hb]
 ·cases hx;cases hy
  split at h
  ·rename_i hk
   subst hk;rw[eqGuard_at_int];simp only[pure_bind];exact al3 w h
  ·simp at h
 ·cases hx with|str _ a ha=>cases hy with|str _ b hb=>
  rw[eqGuard_at_string];simp only[pure_bind];exact al4 w ha hb h
 ·simp only[aZ] at h
  obtain⟨r,hr,rfl⟩:=h;obtain⟨g1,g2⟩:=adV (op:=.eql) w t x y cx cy r ox oy hx hy hr;refine⟨.bool r,?_,.bool r⟩;have e:binOp .eql t cx cy=(Op.equal t cx cy>>=fun b=>pure (Value.bool b)):=by have hk:=adW hr;cases hx<;>first|exact hk.elim|rfl| (cases hy<;>rfl)
  rw[e];simp[g1,g2]
 ·simp only[aZ] at h
  obtain⟨r,hr,rfl⟩:=h;obtain⟨g1,g2⟩:=adV (op:=.neq) w t x y cx cy r ox oy hx hy hr;refine⟨.bool !r,?_,.bool _⟩;have e:binOp .neq t cx cy=(Op.equal t cx cy>>=fun b=>pure (Value.bool !b)):=by have hk:=adW hr;cases hx<;>first|exact hk.elim|rfl| (cases hy<;>rfl)
  rw[e];simp[g1,g2]
 ·simp at h
end
def LW (K:aV)(T:Nat->Nat)(w:World)(cs:List V)(vs:Array Value):Prop:=
 cs.length=vs.size/\∀i,i<cs.length->Rel K T w (cs.getD i aK) (vs.getD i undef)
theorem yZ {α:Type}(l:List α)(n i:Nat)(d:α):(l.drop n).getD i d=l.getD (n+i) d:=by simp[List.getD,List.getElem?_drop]
theorem xS {α:Type}(l:List α){n i:Nat}(h:i<n)(d:α):(l.take n).getD i d=l.getD i d:=by simp[List.getD,h]
section
variable {P:Program}{K:aV}{T:Nat->Nat}(w:World)
theorem al7 {op:UnOp}{x v:V}{cx:Value}(hx:Rel K T w x cx)(h:EH op x=some v):∃c,(Op.unary op cx).run P w= .ok c w/\Rel K T w v c:=by
 unfold EH at h;split at h
 ·cases hx;simp only[iE] at h;subst h;exact⟨_,rfl,.int _ _⟩
 ·cases hx;simp only[mH,iE] at h;subst h;exact⟨_,rfl,.int _ _⟩
 ·cases hx;simp only[iE] at h;subst h;exact⟨_,rfl,.bool _⟩
 ·simp at h
theorem Hy {x:V}{cx:Value}(hx:Rel K T w x cx){y XV k:Nat}(hy:y<=XV)(code:BoundsCode)(h:bnd x y=some k):(Instr.sliceBound cx XV code).run P w= .ok k w/\k<=y:=by
 simp only[bnd,iR] at h;obtain⟨i,hi,h⟩:=h;split at h
 ·rename_i hb
  simp only[iE] at h;subst h;cases x<;>simp[oF] at hi;subst hi;cases hx;rename_i kk q;refine⟨?_,ah⟩;have:0<=q/\q<=(XV:Int):=ah
  simp[Instr.sliceBound,asIntOf,this]
 ·simp at h
theorem RV {lo hi mx:Option V}{BF BG BH:Option Value}(XW:Bool){len cap eH l h m:Nat}(hlc:len<=cap)(hcap:cap<=eH)(r1:∀v,lo=some v->∃c,BF=some c/\Rel K T w v c)(n1:lo=none->BF=none)(r2:∀v,hi=some v->∃c,BG=some c/\Rel K T w v c)(n2:hi=none->BG=none)(r3:∀v,mx=some v->∃c,BH=some c/\Rel K T w v c)(n3:mx=none->BH=none)(hb:uT len cap lo hi mx=some (l,h,m)):
 ∃mc,(Instr.sliceBounds XW len eH BF BG BH).run P w= .ok (l,h,mc) w/\l<=h/\h<=m/\m<=cap/\m<=mc/\mc<=eH/\(mx.isSome->mc=m)/\(mx=none->mc=eH/\m=cap):=by
 simp only[uT,iR] at hb;obtain⟨m',hm,h',hh,l',hl,e⟩:=hb;simp only[iE,aP] at e;obtain⟨rfl,rfl,rfl⟩:=e;cases mx with
 |none=>
  simp only[iE] at hm;subst hm;obtain rfl:=n3 rfl;cases hi with
  |none=>
   simp only[iE] at hh;subst hh;obtain rfl:=n2 rfl;cases lo with
   |none=>simp only[iE] at hl;subst hl;obtain rfl:=n1 rfl;exact⟨eH,by simp[Instr.sliceBounds],ah,ah,ah,ah,ah,aC,aC⟩
   |some vl=>obtain⟨cl,rfl,rl⟩:=r1 vl rfl;obtain⟨g1,g2⟩:=Hy (P:=P) w rl (RS _) .sliceB hl;exact⟨eH,by simp[Instr.sliceBounds,g1],ah,ah,ah,ah,ah,aC,aC⟩
  |some vh=>
   obtain⟨ch,rfl,rh⟩:=r2 vh rfl;obtain⟨f1,f2⟩:=Hy (P:=P) w rh hcap (if XW then .sliceAcap else .sliceAlen) hh;cases lo with
   |none=>simp only[iE] at hl;subst hl;obtain rfl:=n1 rfl;exact⟨eH,by simp[Instr.sliceBounds,f1],ah,ah,ah,ah,ah,aC,aC⟩
   |some vl=>obtain⟨cl,rfl,rl⟩:=r1 vl rfl;obtain⟨g1,g2⟩:=Hy (P:=P) w rl (RS _) .sliceB hl;exact⟨eH,by simp[Instr.sliceBounds,f1,g1],ah,ah,ah,ah,ah,aC,aC⟩
 |some vm=>
  obtain⟨cm,rfl,rm⟩:=r3 vm rfl;obtain⟨e1,e2⟩:=Hy (P:=P) w rm hcap (if XW then .slice3Acap else .slice3Alen) hm;cases hi with
  |none=>simp at hh|some vh=>
   obtain⟨ch,rfl,rh⟩:=r2 vh rfl;obtain⟨f1,f2⟩:=Hy (P:=P) w rh (RS _) .slice3B hh;cases lo with
   |none=>simp only[iE] at hl;subst hl;obtain rfl:=n1 rfl;exact⟨m',by simp[Instr.sliceBounds,e1,f1],ah,ah,ah,ah,ah,aC,aC⟩
   |some vl=>obtain⟨cl,rfl,rl⟩:=r1 vl rfl;obtain⟨g1,g2⟩:=Hy (P:=P) w rl (RS _) .slice3C hl;exact⟨m',by simp[Instr.sliceBounds,e1,f1,g1],ah,ah,ah,ah,ah,aC,aC⟩
theorem Rel.sub {c:Cap}{l:List V}{b o n cap:Nat}(val:Nat->Nat->Value)(hn:∀i,i<l.length->(l.getD i aK).cells.length=n)(hcell:∀i j,i<l.length->j<n->w.cell? (at_ b (o+i*n+j))=some (val i j)/\K.I b (o+i*n+j))(hrel:∀i j,i<l.length->j<n->Rel K T w ((l.getD i aK).cells.getD j aK) (val i j)){lo hi:Nat}(h1:lo<=hi)(h2:hi<=l.length)(hcap:hi-lo<=cap)(hc:vZ K T c n b (o+lo*n) (hi-lo) cap):Rel K T w (.ay c ((l.take hi).drop lo)) (.slice (some (at_ b (o+lo*n))) (hi-lo) cap):=by
 have hlen:((l.take hi).drop lo).length=hi-lo:=jR
 have hget:∀i,i<hi-lo->((l.take hi).drop lo).getD i aK=l.getD (lo+i) aK:=fun i hi'=>by rw[yZ,xS _ ah]
 have key:Rel K T w (.ay c ((l.take hi).drop lo)) (.slice (some (at_ b (o+lo*n))) ((l.take hi).drop lo).length cap):=by
  refine .ay c _ b (o+lo*n) n cap (fun i j=>val (lo+i) j) ah (fun i hi'=>?_) (fun i j hi' hj=>?_) (fun i j hi' hj=>?_) (by rw[hlen];exact hc)
  ·rw[hget i ah];exact hn _ ah
  ·have:=hcell (lo+i) j ah hj
   rwa[show o+(lo+i)*n+j=o+lo*n+i*n+j by rw[tJ];omega] at this
  ·rw[hget i ah];exact hrel _ j ah hj
 rwa[hlen] at key
theorem XY {sz n:Nat}{l:List V}(h:qR sz l=true)(hn:∀i,i<l.length->(l.getD i aK).cells.length=n)(hl:0<l.length):n=sz:=by
 cases l with
 |nil=>simp at hl|cons v l=>have:=hn 0 aC;simp only[qR,beq_iff_eq] at h;simpa [h] using this.symm
theorem y5 (ag:Bool)(n:Nat):∀(k:Nat)(cs:List V),(chunks ag n k cs).length=k
 |0,_=>rfl|k+1,cs=>by simp[chunks,y5 ag n k]
theorem XZ (ag:Bool)(n:Nat):∀(k:Nat)(cs:List V)(i:Nat),i<k->(chunks ag n k cs).getD i aK=if ag then V.agg ((cs.drop (i*n)).take n) else (cs.drop (i*n)).headD aK
 |k+1,cs,0,_=>by simp[chunks,List.getD]|k+1,cs,i+1,h=>by have:=XZ ag n k (cs.drop n) i ah;simp only[chunks,List.getD_cons_succ,this,List.drop_drop];rw[show n+i*n=(i+1)*n by rw[tJ];omega]
theorem adX (ag:Bool){n k:Nat}{cs:List V}(h1:ag=false->n=1)(hl:k*n<=cs.length)(hone:ag=false->dD cs=true){i:Nat}(hi:i<k):((chunks ag n k cs).getD i aK).cells=(cs.drop (i*n)).take n:=by
 have hmul:i*n+n<=k*n:=by have:=tK n (Nat.succ_le_of_lt hi);rw[qO] at this;exact this
 rw[XZ ag n k cs i hi];cases ag with
 |true=>rfl|false=>
  have hn:=h1 rfl;subst hn;have hlt:i<cs.length:=ah
  have hd:cs.drop (i*1)=cs[i]::cs.drop (i+1):=by rw[Nat.mul_one];exact uQ hlt
  have ho:oneCell cs[i]=true:=by have:=hone rfl;simp only[dD,kM] at this;exact this _ (lY hlt)
  rw[hd];simp only[dO,if_false,List.headD_cons,List.take_succ_cons,List.take_zero];cases hc:cs[i]<;>simp_all[oneCell,V.cells]
theorem LX {c:Cap}{ag:Bool}{n k b o cap:Nat}{cs:List V}(val:Nat->Value)(h1:ag=false->n=1)(hl:k*n<=cs.length)(hone:ag=false->dD cs=true)(hcell:∀j,j<k*n->w.cell? (at_ b (o+j))=some (val j)/\K.I b (o+j))(hrel:∀j,j<k*n->Rel K T w (cs.getD j aK) (val j))(hcap:k<=cap)(hc:vZ K T c n b o k cap):Rel K T w (.ay c (chunks ag n k cs)) (.slice (some (at_ b o)) k cap):=by
 have hmul:∀i j,i<k->j<n->i*n+j<k*n:=fun i j hi hj=>by have:=tK n (Nat.succ_le_of_lt hi);rw[qO] at this;omega
 have hcl:∀i,i<k->((chunks ag n k cs).getD i aK).cells=(cs.drop (i*n)).take n:=fun i hi=>adX ag h1 hl hone hi;have key:Rel K T w (.ay c (chunks ag n k cs)) (.slice (some (at_ b o)) (chunks ag n k cs).length cap):=by
  refine .ay c _ b o n cap (fun i j=>val (i*n+j)) (by rw[y5];exact hcap) (fun i hi=>?_) (fun i j hi hj=>?_) (fun i j hi hj=>?_) (by rw[y5];exact hc)
  ·rw[y5] at hi
   rw[hcl i hi];have:=tK n (Nat.succ_le_of_lt hi);rw[qO] at this;simp;omega
  ·rw[y5] at hi
   have:=hcell (i*n+j) (hmul i j hi hj)
   rwa[<-uP] at this
  ·rw[y5] at hi
   rw[hcl i hi,xS _ hj,yZ];exact hrel _ (hmul i j hi hj)
 rwa[y5] at key
theorem al8 {E:Env}{B0:Nat}{σ:au}(hT:T=σ.top)(hs:bA E B0 σ K w){t:TypeId}{x v:V}{cx:Value}{lo hi mx:Option V}{BF BG BH:Option Value}(hx:Rel K T w x cx)(r1:∀v,lo=some v->∃c,BF=some c/\Rel K T w v c)(n1:lo=none->BF=none)(r2:∀v,hi=some v->∃c,BG=some c/\Rel K T w v c)(n2:hi=none->BG=none)(r3:∀v,mx=some v->∃c,BH=some c/\Rel K T w v c)(n3:mx=none->BH=none)(h:xI P σ t x lo hi mx=some v):∃c,(Instr.sliceAt t cx BF BG BH).run P w= .ok c w/\Rel K T w v c:=by
 unfold xI at h;split at h
 ·rename_i e c s hu
  simp only[iR] at h;obtain⟨sz,hsz,⟨l,hh,m⟩,hbv,h⟩:=h;split at h
  ·rename_i al9
   simp only[iE] at h;cases hx with
   |fu _ a ha hc=>
    obtain⟨mc,g1,g2,g3,g4,g5,g6,g7,g8⟩:=RV (P:=P) w true (RS _) (RS _) r1 n1 r2 n2 r3 n3 hbv;simp only[List.length_nil] at g1 g4 g6;obtain rfl:m=0:=ah;obtain rfl:hh=0:=ah;obtain rfl:l=0:=ah;obtain rfl:mc=0:=ah;refine⟨.slice a 0 0,by cases a<;>simp[Instr.sliceAt,Instr.slice,run_underlying hu,oH w hsz,g1],?_⟩;subst h;split
    ·exact .fu c a ha hc
    ·rename_i hn
     cases mx with
     |none=>simp at hn|some vm=>simp;exact .fu _ a (fun h=>bC) trivial
   |ay _ _ b o n cap val hle hn hcell hrel hc=>
    obtain⟨mc,g1,g2,g3,g4,g5,g6,g7,g8⟩:=RV (P:=P) w true (RS _) hle r1 n1 r2 n2 r3 n3 hbv;have hn':0<l->n=sz:=fun hl=>XY al9 hn ah;have hrun:(Instr.sliceAt t (.slice (some (at_ b o)) s.length cap) BF BG BH).run P w= .ok (.slice (some (at_ b (if mc=l then o else o+l*sz))) (hh-l) (mc-l)) w:=by
     simp only[Instr.sliceAt,Instr.slice,Sem.run_bind,run_underlying hu,oH w hsz,g1,Result.andThen_ok,Sem.run_pure];split
     ·simp
     ·simp[addr_add]
    refine⟨_,hrun,?_⟩;subst h;split
    ·rename_i hw
     obtain⟨rfl,rfl,hm⟩:=hw;have hm':mx=none:=(by cases mx<;>simp_all);obtain⟨rfl,_⟩:=g8 hm';have:(if mc=0 then o else o+0*sz)=o:=aC;rw[this];exact .ay c s b o n mc val hle hn hcell hrel hc
    ·have hgo:∀c',(∀n' s',c'≠ .own n' s')->vZ K T c' n b (o+l*n) (hh-l) (mc-l)->Rel K T w (.ay c' ((s.take hh).drop l)) (.slice (some (at_ b (if mc=l then o else o+l*sz))) (hh-l) (mc-l)):=by
      intro c' hown hc';by_cases hml:mc=l
      ·have:hh=l:=ah
       subst this;have hnil:(s.take hh).drop hh=[]:=aC;rw[hnil];have key:Rel K T w (.ay c' []) (.slice (some (at_ b (if mc=hh then o else o+hh*sz))) ([]:List V).length (mc-hh)):=by
        refine .ay c' [] b _ n _ (fun _ _=>undef) aC (fun i hi=>absurd hi (gK i)) (fun i j hi=>absurd hi (gK i)) (fun i j hi=>absurd hi (gK i)) ?_;cases c' with
        |sh=>trivial|full=>simpa [vZ] using hc'|nil=>exact hc'.elim|own n' s'=>exact absurd rfl (hown n' s')
       simpa using key
      ·have e1:(if mc=l then o else o+l*sz)=o+l*n:=by
        rw[if_neg hml];rcases Nat.eq_zero_or_pos l with h0|h0
        ·simp[h0]
        ·rw[hn' h0]
       rw[e1];exact Rel.sub w val hn hcell hrel g2 ah ah hc'
     cases mx with
     |some vm=>
      have:=g7 rfl;dsimp only;split
      ·exact hgo _ (fun _ _=>aC) (by simp only[vZ];omega)
      ·exact hgo _ (fun _ _=>aC) trivial
     |none=>
      obtain⟨hmc,_⟩:=g8 rfl;dsimp only;cases c with
      |full=>
       dsimp only;split
       ·exact hgo _ (fun _ _=>aC) (by simp only[vZ] at hc⊢;omega)
       ·exact hgo _ (fun _ _=>aC) trivial
      |_=>exact hgo _ (fun _ _=>aC) trivial
  ·simp at h
 ·rename_i e loc st off len cap bS ag hu
  simp only[iR] at h;obtain⟨sz,hsz,⟨l,hh,m⟩,hbv,h⟩:=h;split at h
  ·rename_i hse
   subst hse;simp only[iE] at h;cases hx with
   |l6 _ _ _ _ hA=>obtain⟨mc,g1,g2,g3,g4,g5,g6,g7,g8⟩:=RV (P:=P) w true (RS _) (RS _) r1 n1 r2 n2 r3 n3 hbv;obtain rfl:m=0:=ah;obtain rfl:hh=0:=ah;obtain rfl:l=0:=ah;obtain rfl:mc=0:=ah;refine⟨.slice none 0 0,by simp[Instr.sliceAt,Instr.slice,run_underlying hu,oH w hsz,g1],?_⟩;subst h;simp;exact .l6 loc st sz ag hA
   |aJ _ _ _ _ _ _ _ eH hA hcc hle hks=>
    obtain⟨mc,g1,g2,g3,g4,g5,g6,g7,g8⟩:=RV (P:=P) w true hle hcc r1 n1 r2 n2 r3 n3 hbv;have hrun:(Instr.sliceAt t (.slice (some (at_ (K.blk st) off)) len eH) BF BG BH).run P w= .ok (.slice (some (at_ (K.blk st) (if mc=l then off else off+l*sz))) (hh-l) (mc-l)) w:=by
     simp only[Instr.sliceAt,Instr.slice,Sem.run_bind,run_underlying hu,oH w hsz,g1,Result.andThen_ok,Sem.run_pure];split
     ·simp
     ·simp[addr_add]
    refine⟨_,hrun,?_⟩;subst h;split
    ·rename_i hw
     obtain⟨rfl,h0⟩:=hw;simp only[Nat.sub_self];refine .ay _ [] (K.blk st) _ 0 _ (fun _ _=>undef) aC (fun i hi=>absurd hi (gK i)) (fun i j hi=>absurd hi (gK i)) (fun i j hi=>absurd hi (gK i)) ?_;cases mx with
     |some vm=>
      have:=g7 rfl;dsimp only;split
      ·simp only[vZ,List.length_nil];omega
      ·trivial
     |none=>trivial
    ·rename_i hw
     have e1:(if mc=l then off else off+l*sz)=off+l*sz:=by
      split
      ·have:l=0:=ah
       simp[this]
      ·rfl
     rw[e1];refine .aJ loc st _ _ _ sz ag _ hA ah ah ?_;have:l*sz+(mc-l)*sz<=eH*sz:=(by rw[<-tJ];exact tK _ ah);omega
  ·simp at h
 ·simp at h
end
section
variable {E:Env}{B0:Nat}{σ:au}{K:aV}{w:World}{new:Nat->Prop}
theorem grownCap_ge (w:World)(n old:Nat)(e:TypeId):n<=grownCap w n old e:=by show n<=n+_% _;exact gD _ _
def Done (E:Env)(B0:Nat)(new:Nat->Prop)(σ:au)(K:aV)(w:World)(s:Sem Value)(v:V)(σ':au):Prop:=
 ∃c w' K',s.run E.P w= .ok c w'/\Rel K' σ'.top w' v c/\Step E B0 new σ K w σ' K' w'
theorem Done.j3 (h:bA E B0 σ K w){s:Sem Value}{v:V}(hs:∃c,s.run E.P w= .ok c w/\Rel K σ.top w v c):Done E B0 new σ K w s v σ:=by obtain⟨c,h1,h2⟩:=hs;exact⟨c,w,K,h1,h2,.refl h⟩
theorem X0 {v:V}{b:UInt8}(h:EI v=some b):∃n,v= .int .u8 n/\b=UInt8.ofNat n.toNat:=by
 unfold EI at h;split at h
 ·simp only[iE] at h;exact⟨_,rfl,h.symm⟩
 ·simp at h
theorem adY {src dst e:TypeId}(hs:E.P.underlying src=some (.slice e))(he:E.P.underlying e=some (.int .u8))(hd:E.P.underlying dst=some .string){b o cap:Nat}{l:List V}{bs:List UInt8}{T:Nat->Nat}(val:Nat->Value)(hcell:∀i,i<l.length->w.cell? (at_ b (o+i))=some (val i))(hrel:∀i,i<l.length->Rel K T w (l.getD i aK) (val i))(hm:l.mapM EI=some bs):
 ∃c,(convert src dst (.slice (some (at_ b o)) l.length cap)).run E.P w= .ok c w/\Rel K T w (.str bs) c:=by
 obtain⟨h1,h2⟩:=mapM_some hm;have hv:∀i (hi:i<l.length),∃n:Int,val i= .int .u8 n/\bs.getD i 0=UInt8.ofNat n.toNat:=by intro i hi;obtain⟨h3,h4⟩:=h2 i hi;obtain⟨n,e1,e2⟩:=X0 h4;have:=hrel i hi;rw[jZ hi,e1] at this;refine⟨n,?_,by rw[jZ h3];exact e2⟩;generalize val i=c at this;cases this;rfl
 have hr:=run_convert_bytes_arg (P:=E.P) w src e hs he b o l.length cap ((List.range l.length).map fun i=>intOf (val i)) aC (fun i hi=>by obtain⟨n,e1,_⟩:=hv i hi;rw[hcell i hi,e1];simp[List.getD,hi,e1,intOf]) dst hd;refine⟨_,hr,.str _ _ ?_⟩;rw[strOfNums_data];apply List.ext_getElem
 ·simp[h1]
 ·intro i hi1 hi2
  have hi:i<l.length:=by simpa using hi1
  obtain⟨n,e1,e2⟩:=hv i hi;simp only[List.getElem_map,Lu,e1,intOf];rw[<-e2,jZ hi2]
theorem ama (h:bA E B0 σ K w)(hB:B0<=w.heap.size){src dst:TypeId}{x v:V}{cx:Value}(hx:Rel K σ.top w x cx)(hv:CV E.P σ src dst x=some v):
 Done E B0 new σ K w (convert src dst cx) v σ:=by
 unfold CV at hv;split at hv
 ·rename_i d k kk n hs hd
  cases hx;simp only[iE] at hv;subst hv;exact Done.j3 h ⟨_,by simp[convert,run_underlying hs,run_underlying hd,Conv.intToInt],.int _ _⟩
 ·rename_i d s hs hd
  cases hx with|str _ b hb=>
  simp only[iE] at hv;subst hv;exact Done.j3 h ⟨.string b,by cases d<;>simp[convert,run_underlying hs,run_underlying hd],.str _ _ hb⟩
 ·rename_i e c l hs hd
  split at hv
  ·rename_i he
   simp only[aZ] at hv;obtain⟨bs,hbs,rfl⟩:=hv;cases hx with
   |fu _ a ha hc=>
    simp at hbs;subst hbs;cases a with
    |none=>exact Done.j3 h ⟨.string ByteArray.empty,run_convert_bytes_nil w src e hs he 0 0 dst hd,.str _ _ rfl⟩|some a=>have hl:(loadCells a 0).run E.P w= .ok #[] w:=(by simpa using run_loadCells_list (P:=E.P) w a [] (fun j v hj=>by simp at hj));refine Done.j3 h ⟨.string ByteArray.empty,?_,.str _ _ rfl⟩;rw[run_convert_bytes_string w src dst e _ 0 0 hs he hd];simp[Conv.bytesToString,hl]
   |ay _ _ b o n cap val hle hn hcell hrel hc=>
    obtain⟨h1,h2⟩:=mapM_some hbs;have hn1:∀i,i<l.length->n=1:=fun i hi=>by obtain⟨_,h4⟩:=h2 i hi;obtain⟨q,e1,_⟩:=X0 h4;have:=hn i hi;rw[jZ hi,e1] at this;exact this.symm
    refine Done.j3 h (adY hs he hd (fun i=>val i 0) (fun i hi=>?_) (fun i hi=>?_) hbs)
    ·have:=(hcell i 0 hi (by rw[hn1 i hi];omega)).1
     rw[hn1 i hi] at this;simpa using this
    ·have:=hrel i 0 hi (by rw[hn1 i hi];omega)
     obtain⟨_,h4⟩:=h2 i hi;obtain⟨q,e1,_⟩:=X0 h4;rw[jZ hi,e1] at this⊢;exact this
  ·simp at hv
 ·rename_i e loc s off len cap bS ag hs hd
  split at hv
  ·rename_i he
   simp only[iR] at hv;obtain⟨cs,hcs,hv⟩:=hv;split at hv
   ·rename_i hle
    simp only[aZ] at hv;obtain⟨bs,hbs,rfl⟩:=hv;obtain⟨ho,hA,hks⟩:=h.yY hcs;obtain⟨_,gX,_⟩:=h.obj _ _ _ ho;cases hx with
    |l6=>simp at hbs;subst hbs;exact Done.j3 h ⟨.string ByteArray.empty,run_convert_bytes_nil w src e hs he 0 0 dst hd,.str _ _ rfl⟩|aJ _ _ _ _ _ _ _ eH hA hcc hlc hsz=>
     have hlen:((cs.drop off).take len).length=len:=jR;have key:=adY (w:=w) (K:=K) (T:=σ.top) hs he hd (cap:=eH) (b:=K.blk s) (o:=off) (l:=(cs.drop off).take len) (fun i=>(w.cell? (at_ (K.blk s) (off+i))).getD undef) ?_ ?_ hbs
     ·rw[hlen] at key
      exact Done.j3 h key
     ·intro i hi
      rw[hlen] at hi;obtain⟨_,vals,t,g1,g2,g3,g4⟩:=gX.2 (by rintro rfl;simp at hle;omega);have:w.cell? (at_ (K.blk s) (off+i))=some (vals.getD (off+i) undef):=(by simp[World.cell?,g1,show off+i<vals.size by omega]);simp[this]
     ·intro i hi
      rw[hlen] at hi;obtain⟨_,vals,t,g1,g2,g3,g4⟩:=gX.2 (by rintro rfl;simp at hle;omega);have:w.cell? (at_ (K.blk s) (off+i))=some (vals.getD (off+i) undef):=(by simp[World.cell?,g1,show off+i<vals.size by omega]);rw[this,xS _ hi,yZ];exact g4 _ ah
   ·simp at hv
  ·simp at hv
 ·simp at hv
end
section
variable {E:Env}{B0:Nat}{σ:au}{K:aV}{w:World}{new:Nat->Prop}
theorem Hz {T:Nat->Nat}{x:V}{cx:Value}{n k:Nat}(hx:Rel K T w x cx)(h:idx x n=some k):∃kk i,cx= .int kk i/\0<=i/\i<n/\i.toNat=k/\k<n:=by
 simp only[idx,iR] at h;obtain⟨i,hi,h⟩:=h;split at h
 ·rename_i hb
  simp only[iE] at h;subst h;cases x<;>simp[oF] at hi;subst hi;cases hx;exact⟨_,_,rfl,hb.1,hb.2,rfl,ah⟩
 ·simp at h
theorem amb {t:TypeId}{x i v:V}{cx ci:Value}{T:Nat->Nat}(hx:Rel K T w x cx)(hi:Rel K T w i ci)(h:qU E.P t x i=some v):
 ∃c,(Instr.indexAt t cx ci).run E.P w= .ok c w/\Rel K T w v c:=by
 unfold qU at h;split at h
 ·rename_i e c l hu
  simp only[iR] at h;obtain⟨sz,hsz,k,hk,el,hel,h⟩:=h;split at h
  ·rename_i hcl
   simp only[iE] at h;subst h;obtain⟨kk,q,rfl,h0,hlt,hq,hkl⟩:=Hz hi hk;cases hx with
   |fu=>simp at hkl|ay _ _ b o n cap val hle hn hcell hrel hc=>
    have adZ:l.getD k aK=el:=(by simp[List.getD,hel]);have hn':n=sz:=(by rw[<-hn k hkl,adZ,hcl]);subst hn';have hrun:(Instr.indexAt t (.slice (some (at_ b o)) l.length cap) (.int kk q)).run E.P w= .ok (.pointer (some ((at_ b o).add (q.toNat*n)))) w:=(by simp[Instr.indexAt,run_underlying hu,asIntOf,h0,hlt,oH w hsz]);refine⟨_,hrun,?_⟩;rw[addr_add,hq];have:=Rel.aI (K:=K) (T:=T) (w:=w) el.cells 0 b (o+k*n) (fun j=>val k j) (fun j hj=>hcell k j hkl ah) (fun j hj=>by
     have:=hrel k j hkl ah
     rwa[adZ] at this)
    simpa using this
  ·simp at h
 ·rename_i e loc st off len cap bS ag hu
  simp only[iR] at h;obtain⟨sz,hsz,k,hk,h⟩:=h;split at h
  ·rename_i he
   subst he;simp only[iE] at h;subst h;obtain⟨kk,q,rfl,h0,hlt,hq,hkl⟩:=Hz hi hk;cases hx with
   |l6=>omega|aJ _ _ _ _ _ _ _ eH hA hcc hle hks=>have hrun:(Instr.indexAt t (.slice (some (at_ (K.blk st) off)) len eH) (.int kk q)).run E.P w= .ok (.pointer (some ((at_ (K.blk st) off).add (q.toNat*sz)))) w:=(by simp[Instr.indexAt,run_underlying hu,asIntOf,h0,hlt,oH w hsz]);refine⟨_,hrun,?_⟩;rw[addr_add,hq];exact .ref _ _ _ hA
  ·simp at h
 ·rename_i n e loc st off hu
  simp only[iR,aZ] at h;obtain⟨sz,hsz,k,hk,rfl⟩:=h;obtain⟨kk,q,rfl,h0,hlt,hq,hkl⟩:=Hz hi hk;cases hx with|ref _ _ _ hA=>
  have hrun:(Instr.indexAt t (.pointer (some (at_ (K.blk st) off))) (.int kk q)).run E.P w= .ok (.pointer (some ((at_ (K.blk st) off).add (q.toNat*sz)))) w:=by simp[Instr.indexAt,run_underlying hu,asIntOf,Instr.sureAddr,h0,hlt,oH w hsz]
  refine⟨_,hrun,?_⟩;rw[addr_add,hq];exact .ref _ _ _ hA
 ·rename_i n e cs off hu
  simp only[iR,aZ] at h;obtain⟨sz,hsz,k,hk,rfl⟩:=h;obtain⟨kk,q,rfl,h0,hlt,hq,hkl⟩:=Hz hi hk;cases hx with|aI _ _ b o val hcell hrel=>
  have hrun:(Instr.indexAt t (.pointer (some (at_ b (o+off)))) (.int kk q)).run E.P w= .ok (.pointer (some ((at_ b (o+off)).add (q.toNat*sz)))) w:=by simp[Instr.indexAt,run_underlying hu,asIntOf,Instr.sureAddr,h0,hlt,oH w hsz]
  refine⟨_,hrun,?_⟩;rw[addr_add,hq,uP];exact .aI _ _ b o val hcell hrel
 ·simp at h
theorem amc {t:TypeId}{x i v:V}{cx ci:Value}{T:Nat->Nat}(hx:Rel K T w x cx)(hi:Rel K T w i ci)(h:He E.P t x i=some v):
 ∃c,(Instr.index t cx ci).run E.P w= .ok c w/\Rel K T w v c:=by
 unfold He at h;split at h
 ·rename_i n e cs hu
  simp only[iR] at h;obtain⟨k,hk,sz,hsz,h⟩:=h;obtain⟨kk,q,rfl,h0,hlt,hq,hkl⟩:=Hz hi hk;cases hx with|agg _ vs hl hr=>
  obtain⟨c,hc,hrel⟩:=Hw (P:=E.P) hl hr h;exact⟨c,by simp[Instr.index,run_underlying hu,asIntOf,h0,hlt,oH w hsz,hq,hc],hrel⟩
 ·rename_i s hu
  simp only[iR,aZ] at h;obtain⟨k,hk,b,hb,rfl⟩:=h;obtain⟨kk,q,rfl,h0,hlt,hq,hkl⟩:=Hz hi hk;cases hx with|str _ ba hba=>
  have hsz:k<ba.size:=by rw[<-hba] at hkl;simpa using hkl
  have hbk:ba[k]=b:=by subst hba;have:=(oC.1 hb).2;rw[<-this];rfl
  refine⟨.int .u8 b.toNat,?_,.int _ _⟩;have:ba[q.toNat]? =some b:=by rw[hq];simp[hsz,hbk]
  simp[Instr.index,run_underlying hu,asIntOf,h0,this]
 ·simp at h
theorem ad1 {t:TypeId}{f o:Nat}{u:TypeId}{x v:V}{cx:Value}{T:Nat->Nat}(hx:Rel K T w x cx)(hf:xH E.P t f=some (o,u))(h:(match x with|.ref loc s off=>some (V.ref loc s (off+o))|.aI cs off=>some (.aI cs (off+o))|_=>none)=some v):
 ∃c,(Instr.fieldAt t cx f).run E.P w= .ok c w/\Rel K T w v c:=by
 obtain⟨fs,g,n,hu,hg,ho,hu',hn⟩:=adU hf;subst hu';have hrun:∀b q,(Instr.fieldAt t (.pointer (some (at_ b q))) f).run E.P w= .ok (.pointer (some (at_ b (q+o)))) w:=by intro b q;simp[Instr.fieldAt,run_underlying hu,hg,Instr.sureAddr,fieldPlace,oH w hn,addr_add,ho]
 cases x with
 |ref loc s off=>
  cases hx with|ref _ _ _ hA=>
  simp only[iE] at h;subst h;exact⟨_,hrun _ _,.ref _ _ _ hA⟩
 |aI cs off=>
  cases hx with|aI _ _ b o' val hcell hrel=>
  simp only[iE] at h;subst h;refine⟨_,hrun _ _,?_⟩;rw[uP];exact .aI _ _ b o' val hcell hrel
 |_=>simp at h
theorem X3 (h:bA E B0 σ K w){t:TypeId}{x v:V}{cx:Value}(hx:Rel K σ.top w x cx)(hv:(match x with|.ref loc s off=>(σ.dB loc s).bind fun cs=>iN E.P t cs off|.aI cs off=>iN E.P t cs off|_=>none)=some v):
 ∃c,(Instr.loadAt t cx).run E.P w= .ok c w/\Rel K σ.top w v c:=by
 cases x with
 |ref loc s off=>
  simp only[iR] at hv;obtain⟨cs,hcs,hv⟩:=hv;cases hx with|ref _ _ _ hA=>
  obtain⟨ho,_,_⟩:=h.yY hcs;obtain⟨_,gX,_⟩:=h.obj _ _ _ ho;by_cases hne:cs=[]
  ·subst hne
   obtain⟨c,h1,h2⟩:=XM (P:=E.P) (K:=K) (T:=σ.top) (w:=w) (cs:=[]) (b:=K.blk s) (o:=0) (fun _=>undef) (fun i hi=>absurd hi (gK i)) (fun i hi=>absurd hi (gK i)) hv;exact⟨c,by simpa [Instr.loadAt,Instr.sureAddr] using h1,h2⟩
  ·obtain⟨_,vals,t',g1,g2,g3,g4⟩:=gX.2 hne
   obtain⟨c,h1,h2⟩:=XM (P:=E.P) (K:=K) (T:=σ.top) (w:=w) (b:=K.blk s) (o:=0) (fun i=>vals.getD i undef) (fun i hi=>by have:i<vals.size:=ah;simp[World.cell?,g1,this]) g4 hv;exact⟨c,by simpa [Instr.loadAt,Instr.sureAddr] using h1,h2⟩
 |aI cs off=>
  cases hx with|aI _ _ b o val hcell hrel=>
  obtain⟨c,h1,h2⟩:=XM (P:=E.P) (K:=K) (T:=σ.top) (w:=w) (b:=b) (o:=o) val (fun i hi=>(hcell i hi).1) hrel hv;exact⟨c,by simpa [Instr.loadAt,Instr.sureAddr] using h1,h2⟩
 |_=>simp at hv
theorem rY {α:Type}{l r:List α}{i:Nat}(h:i<l.length)(d:α):(l++r).getD i d=l.getD i d:=by simp[List.getD,List.getElem?_append,h]
theorem rZ {α:Type}{l r:List α}{i:Nat}(h:l.length<=i)(d:α):(l++r).getD i d=r.getD (i-l.length) d:=by simp[List.getD,List.getElem?_append,Nat.not_lt.2 h]
theorem X4 {cs vs:List V}{off i:Nat}(h:off+vs.length<=cs.length):(jN cs off vs).getD i aK=if off<=i/\i<off+vs.length then vs.getD (i-off) aK else cs.getD i aK:=by
 unfold jN;have hl:(cs.take off).length=off:=jR
 rw[jD];by_cases h1:i<off
 ·rw[rY ah,xS _ h1,if_neg ah]
 ·rw[rZ ah,hl]
  by_cases h2:i-off<vs.length
  ·rw[rY h2,if_pos ah]
  ·rw[rZ ah,yZ,if_neg ah]
   congr 1;omega
theorem Da {cs vs:List V}{off:Nat}(h:off+vs.length<=cs.length):(jN cs off vs).length=cs.length:=by unfold jN;simp;omega
theorem amd (h:bA E B0 σ K w)(hB:B0<=w.heap.size){t:TypeId}{loc:Loc}{s off:Nat}{cs:List V}{x:V}{ca cx:Value}(ha:Rel K σ.top w (.ref loc s off) ca)(hx:Rel K σ.top w x cx)(hcs:σ.dB loc s=some cs)(hsz:some x.cells.length=eX E.P t)(hle:off+x.cells.length<=cs.length)(hone:dD x.cells=true):
 ∃w',(Instr.storeAt t ca cx).run E.P w= .ok () w'/\Step E B0 new σ K w (σ.setObj loc s (.cells (jN cs off x.cells))) K w':=by
 cases ha with|ref _ _ _ hA=>
 have hraw:fV x=true:=by cases x<;>simp_all[fV,dD,V.cells,oneCell]
 obtain⟨hcl,hcr⟩:=C8 hx hraw;obtain⟨ho,_,_⟩:=h.yY hcs;obtain⟨_,gX,_⟩:=h.obj _ _ _ ho;have hone':∀v∈cx.cells.toList,v.oneCell'=true:=by
  intro v hv;obtain⟨i,hi,rfl⟩:=GY.1 hv;have hi':i<cx.cells.size:=jI
  have:=hcr i ah;rw[Ht hi'] at this;have h1:oneCell (x.cells.getD i aK)=true:=by simp only[dD,kM] at hone;rw[jZ ah];exact hone _ (lY _)
  simpa using (adP this h1).1
 have ame:(Instr.storeAt t (.pointer (some (at_ (K.blk s) off))) cx).run E.P w=(storeCells (at_ (K.blk s) off) cx.cells.toList).run E.P w:=by have:cx.cells.size=x.cells.length:=hcl.symm;simp[Instr.storeAt,Instr.sureAddr,storeVar,oH w hsz.symm,this]
 rw[ame];by_cases hne:cs=[]
 ·subst hne
  have h0:x.cells=[]:=by cases hx:x.cells with|nil=>rfl|cons a b=>simp[hx] at hle
  have h0':cx.cells.toList=[]:=by
   have:cx.cells.size=0:=by rw[<-hcl,h0];rfl
   simpa using this
  rw[h0',h0];have hoff:off=0:=by simpa [h0] using hle
  have hsp:jN [] off []=([]:List V):=by simp[jN]
  rw[hsp];have e:σ.setObj loc s (.cells [])=σ:=by
   unfold au.setObj;have:upd σ.obj loc (some (s,jo.cells []))=σ.obj:=by
    funext l;unfold upd;split
    ·rename_i hl;rw[hl,ho]
    ·rfl
   rw[this]
  rw[e];exact⟨w,rfl,.refl h⟩
 ·obtain⟨hb0,vals,t',g1,g2,g3,g4⟩:=gX.2 hne
  have hrun:=run_storeCells_at E.P (K.blk s) off t' cx.cells.toList 0 vals w g1 (by simp[<-hcl];omega) hone';refine⟨_,hrun,?_⟩;have hlt:=lt_of_heap g1;have hheap:=setRow_heap w (K.blk s) vals (vals.toList.take (off+0)++cx.cells.toList++vals.toList.drop (off+0+cx.cells.toList.length)).toArray t' (0,0) g1;have hsize:(vals.toList.take (off+0)++cx.cells.toList++vals.toList.drop (off+0+cx.cells.toList.length)).toArray.size=vals.size:=by simp[<-hcl];omega
  have amf:Only (K.blk s) w (w.setRow (K.blk s) (vals.toList.take (off+0)++cx.cells.toList++vals.toList.drop (off+0+cx.cells.toList.length)).toArray):=by refine⟨rfl,rfl,rfl,by simp[World.setRow],fun k hk _=>?_,RS _⟩;simp[World.setRow,Array.getElem?_modify,Ne.symm hk]
  refine Step.setCells h hB ho hne g1 amf hheap hsize (by intro h0;have:=Da hle;rw[h0] at this;exact hne (lZ this.symm)) (by rw[Da hle,hsize];exact g3) (fun e i hi=>?_);rw[Da hle] at hi;rw[X4 hle];have EP:i<vals.size:=ah
  have hval:(vals.toList.take (off+0)++cx.cells.toList++vals.toList.drop (off+0+cx.cells.toList.length)).toArray.getD i undef=if off<=i/\i<off+cx.cells.size then cx.cells.getD (i-off) undef else vals.getD i undef:=by
   have hl:(vals.toList.take (off+0)).length=off:=jR
   have harr:∀(l:List Value),l.toArray.getD i undef=l.getD i undef:=fun l=>by simp[Array.getD,List.getD];split<;>simp_all
   rw[harr,jD];by_cases h1:i<off
   ·rw[rY ah,xS _ ah,if_neg ah]
    simp[List.getD,Array.getD,EP]
   ·rw[rZ ah,hl]
    by_cases h2:i-off<cx.cells.size
    ·rw[rY qN,if_pos ah]
     simp[List.getD,Array.getD,h2]
    ·rw[rZ jR,yZ,if_neg ah]
     have:off+0+cx.cells.toList.length+(i-off-cx.cells.toList.length)=i:=jR;rw[this];simp[List.getD,Array.getD,EP]
  rw[hval,<-hcl];by_cases hh:off<=i/\i<off+x.cells.length
  ·rw[if_pos hh,if_pos hh]
   exact(hcr _ ah).ext e
  ·rw[if_neg hh,if_neg hh]
   exact(g4 i hi).ext e
end
section
variable {E:Env}{B0:Nat}{σ:au}{K:aV}{w:World}{new:Nat->Prop}{T:Nat->Nat}
theorem run_checkKey {kt:TypeId}{k:V}{ck:Value}(hk:Rel K T w k ck)(h:vT E.P kt k=true)(b:Bool)(n:Nat):(Instr.checkKey b (n+1) kt ck).run E.P w= .ok () w:=by
 unfold vT at h;split at h
 ·rename_i hu;cases hk;simp[Instr.checkKey,run_underlying hu]
 ·rename_i hu;cases hk;simp[Instr.checkKey,run_underlying hu]
 ·rename_i hu;cases hk;simp[Instr.checkKey,run_underlying hu]
 ·simp at h
theorem X5 {kt:TypeId}{k a:V}{ck ca:Value}{d:TypeDesc}{r:Bool}(hd:E.P.underlying kt=some d)(hk:Rel K T w k ck)(ha:Rel K T w a ca)(hf:vT E.P kt k=true)(h:vS k a=some r):
 Instr.sameNow d ck ca=some r:=by
 unfold vT at hf;split at hf
 ·rename_i hu
  rw[hd] at hu;simp only[iE] at hu;subst hu;unfold vS at h;split at h<;>simp_all;cases hk;cases ha;obtain⟨rfl,rfl⟩:=h;simp[Instr.sameNow]
 ·rename_i hu
  rw[hd] at hu;simp only[iE] at hu;subst hu;unfold vS at h;split at h<;>simp_all;cases hk with|str _ b1 h1=>cases ha with|str _ b2 h2=>
  subst h;rw[<-h1,<-h2,XO];rfl
 ·rename_i hu
  rw[hd] at hu;simp only[iE] at hu;subst hu;unfold vS at h;split at h<;>simp_all;cases hk;cases ha;subst h;rfl
 ·simp at hf
theorem X6 {kt:TypeId}{k:V}{ck:Value}{d:TypeDesc}(hd:E.P.underlying kt=some d)(hk:Rel K T w k ck)(hf:vT E.P kt k=true):
 ∀(es:List MapEntry)(ks vs:List V)(i:Nat)(r:Option V),ks.length=es.length->vs.length=es.length->(∀j,j<es.length->Rel K T w (ks.getD j aK) (es.getD j default).key)->
  Aj k ks vs=some r->(r=none/\Instr.findNow d ck es i=some none)\/∃j,j<es.length/\r=some (vs.getD j aK)/\Instr.findNow d ck es i=some (some (i+j,(es.getD j default).val))/\
   (∃b,vS k (ks.getD j aK)=some b/\b=true)
 | [],[],[],i,r,_,_,_,h=>by simp only[Aj,iE] at h;subst h;exact .inl ⟨rfl,rfl⟩|e::es,a::ks,v::vs,i,r,h1,h2,hr,h=>by
  simp only[Aj,iR] at h;obtain⟨b,hb,h⟩:=h;have hs:=X5 hd hk (hr 0 aC) hf hb;simp only[List.getD_cons_zero] at hs;cases b with
  |true=>simp only[if_true,iE] at h;subst h;exact .inr ⟨0,aC,rfl,by simp[Instr.findNow,hs],true,hb,rfl⟩|false=>
   simp only[dO,if_false] at h;rcases X6 hd hk hf es ks vs (i+1) r Br qN (fun j hj=>by simpa using hr (j+1) vO) h with ⟨e1,e2⟩| ⟨j,hj,e1,e2,e3⟩
   ·exact .inl ⟨e1,by simp[Instr.findNow,hs,e2]⟩
   ·refine .inr ⟨j+1,vO,by simpa using e1,?_,by simpa using e3⟩
    simp only[Instr.findNow,hs,e2,List.getD_cons_succ];rw[show i+1+j=i+(j+1) by omega]
 | [],_::_,_,_,_,h1,_,_,_=>by simp at h1| [],[],_::_,_,_,_,h2,_,_=>by simp at h2|_::_,[],_,_,_,h1,_,_,_=>by simp at h1|_::_,_::_,[],_,_,_,h2,_,_=>by simp at h2
theorem ad2 {kt:TypeId}{k:V}(h:vT E.P kt k=true):∃d,E.P.underlying kt=some d:=by unfold vT at h;split at h<;>first|exact⟨_,by assumption⟩|simp at h
theorem amg (h:bA E B0 σ K w){t:TypeId}{m k v:V}{cm ck:Value}{ok:Bool}(hm:Rel K σ.top w m cm)(hk:Rel K σ.top w k ck)(hv:EJ E.P σ t m k ok=some v):
 ∃c,(Instr.lookup t cm ck ok).run E.P w= .ok c w/\Rel K σ.top w v c:=by
 simp only[EJ,iR] at hv;obtain⟨⟨kt,et⟩,hmt,hv⟩:=hv;have hu:=adT hmt;split at hv
 ·rename_i hf
  simp only[iR,aZ] at hv;obtain⟨⟨ks,vs⟩,hkv,r,hlk,⟨v',b⟩,hvb,hv⟩:=hv;obtain⟨d,hd⟩:=ad2 hf;have hes:∃es:Array MapEntry,(cm= .map none/\es= #[]\/∃b bR,cm= .map (some b)/\w.heap[b]? =some (.map es bR))/\ks.length=es.size/\vs.length=es.size/\
   (∀i,i<es.size->Rel K σ.top w (ks.getD i aK) (es.getD i default).key)/\(∀i,i<es.size->Rel K σ.top w (vs.getD i aK) (es.getD i default).val):=by
   split at hkv
   ·cases hm
    simp only[iE,aP] at hkv;obtain⟨rfl,rfl⟩:=hkv;exact⟨#[],.inl ⟨rfl,rfl⟩,rfl,rfl,fun i hi=>absurd hi (gK i),fun i hi=>absurd hi (gK i)⟩
   ·rename_i loc s
    unfold au.jw at hkv;split at hkv
    ·rename_i s' ks' vs' ho
     split at hkv
     ·rename_i hs;subst hs
      simp only[iE,aP] at hkv;obtain⟨rfl,rfl⟩:=hkv;obtain⟨_,gX,_⟩:=h.obj _ _ _ ho;obtain⟨_,es,bR,g1,_,g2,g3,g4,g5⟩:=gX;cases hm with|dJ _ _ hA=>
      exact⟨es,.inr ⟨_,_,rfl,g1⟩,g2,g3,g4,g5⟩
     ·simp at hkv
    ·simp at hkv
   ·cases hm with|eU _ _ b es bR hM hb h1 h2 h3 h4=>
    simp only[iE,aP] at hkv;obtain⟨rfl,rfl⟩:=hkv;exact⟨es,.inr ⟨_,_,rfl,hb⟩,h1,h2,h3,h4⟩
   ·simp at hkv
  obtain⟨es,hrun,l1,l2,r1,r2⟩:=hes;have hck:=run_checkKey (E:=E) hk hf es.isEmpty 9999;have hgd:∀j,es.toList.getD j default=es.getD j default:=fun j=>by simp[List.getD,Array.getD];split<;>simp_all
  have hfind:=X6 (E:=E) (K:=K) (T:=σ.top) (w:=w) hd hk hf es.toList ks vs 0 r (by simpa using l1) (by simpa using l2) (fun j hj=>by rw[hgd];exact r1 j vO) hlk;have hend:∃c,(do
   let (v,ok')<-match<-Instr.findKey kt ck es.toList with
    |some (_,v)=>pure (v,true)|none=>pure (<-zeroValue et,false)
   pure (if ok then .tuple #[v,.bool ok'] else v):Sem Value).run E.P w= .ok c w/\Rel K σ.top w v c:=by
   have hfin:∀c,Rel K σ.top w v' c->Rel K σ.top w v (if ok then .tuple #[c,.bool b] else c):=by
    intro c hc;subst hv;cases ok with
    |true=>
     refine .bq _ _ rfl (fun i hi=>?_)
     match i,hi with
     |0,_=>exact hc|1,_=>exact .bool b
    |false=>exact hc
   rcases hfind with ⟨rfl,e2⟩| ⟨j,hj,rfl,e2,_⟩
   ·simp only[aZ,aP] at hvb
    obtain⟨z,hz,rfl,rfl⟩:=hvb;obtain⟨cz,hz1,hz2⟩:=C9 w hz;exact⟨_,by simp[Instr.findKey,run_underlying hd,e2,hz1],hfin cz (hz2 _ _)⟩
   ·simp only[iE,aP] at hvb
    obtain⟨rfl,rfl⟩:=hvb;refine⟨if ok then .tuple #[(es.toList.getD j default).val,.bool true] else (es.toList.getD j default).val,by simp[Instr.findKey,run_underlying hd,e2],hfin _ ?_⟩;have:=r2 j vO
    rwa[hgd]
  obtain⟨c,hc1,hc2⟩:=hend;refine⟨c,?_,hc2⟩;unfold Instr.lookup;rcases hrun with ⟨rfl,rfl⟩| ⟨b,bR,rfl,hb⟩
  ·simp only[Sem.run_bind,run_underlying hu,Result.andThen_ok,Sem.run_pure,show (10000:Nat)=9999+1 from rfl,hck]
   simp only[Sem.run_bind] at hc1;exact hc1
  ·have hg:(getObj b).run E.P w= .ok (.map es bR) w:=by simp[getObj,Sem.run,hb]
   simp only[Sem.run_bind,run_underlying hu,Result.andThen_ok,Sem.run_pure,show (10000:Nat)=9999+1 from rfl,hg,hck];simp only[Sem.run_bind] at hc1;exact hc1
 ·simp at hv
theorem amh {k a:V}(h:vS k a=some true):k=a:=by unfold vS at h;split at h<;>simp_all
theorem ami {kt:TypeId}{k:V}{ck ca:Value}(hk:Rel K T w k ck)(ha:Rel K T w k ca)(hf:vT E.P kt k=true)(n:Nat):Instr.sameBits n ck ca=true:=by
 unfold vT at hf;split at hf
 ·cases hk;cases ha;cases n<;>simp[Instr.sameBits]
 ·cases hk with|str _ b1 h1=>cases ha with|str _ b2 h2=>
  have:(b1==b2)=true:=by rw[<-XO,h1,h2];simp
  cases n<;>simpa [Instr.sameBits] using this
 ·cases hk;cases ha;cases n<;>simp[Instr.sameBits]
 ·simp at hf
theorem ad3 {k v:V}:∀(ks vs ks' vs':List V),Hf k v ks vs=some (ks',vs')->ks.length=vs.length->(Aj k ks vs=some none/\ks'=ks++[k]/\vs'=vs++[v])\/∃j,j<ks.length/\ks'=ks.set j k/\vs'=vs.set j v/\Aj k ks vs=some (some (vs.getD j aK))/\ks.getD j aK=k/\∀i,i<j->vS k (ks.getD i aK)=some false
 | [],[],ks',vs',h,_=>by simp only[Hf,iE,aP] at h;exact .inl ⟨rfl,h.1.symm,h.2.symm⟩|a::ks,b::vs,ks',vs',h,hl=>by
  simp only[Hf,iR] at h;obtain⟨q,hq,h⟩:=h;cases q with
  |true=>simp only[if_true,iE,aP] at h;refine .inr ⟨0,aC,by rw[<-h.1];simp,by rw[<-h.2];simp,by simp[Aj,hq],by simpa using (amh hq).symm,fun i hi=>absurd hi (gK i)⟩
  |false=>
   simp only[dO,if_false,aZ,aP] at h;obtain⟨⟨x,y⟩,hxy,h1,h2⟩:=h;rcases ad3 ks vs x y hxy yN with ⟨e1,e2,e3⟩| ⟨j,hj,e1,e2,e3,e4,e5⟩
   ·exact .inl ⟨by simp[Aj,hq,e1],by rw[<-h1,e2];rfl,by rw[<-h2,e3];rfl⟩
   ·refine .inr ⟨j+1,vO,by rw[<-h1,e1];rfl,by rw[<-h2,e2];rfl,by simp[Aj,hq,e3],by simpa using e4,fun i hi=>?_⟩
    cases i with
    |zero=>simpa using hq|succ i=>simpa using e5 i ah
 | [],_::_,_,_,_,hl=>by simp at hl|_::_,[],_,_,_,hl=>by simp at hl
theorem ad4 {d:TypeDesc}{k:V}{ck:Value}{kt:TypeId}(hd:E.P.underlying kt=some d)(hk:Rel K T w k ck)(hf:vT E.P kt k=true):
 ∀(es:List MapEntry)(ks:List V)(i j:Nat),ks.length=es.length->(∀q,q<es.length->Rel K T w (ks.getD q aK) (es.getD q default).key)->j<es.length->
  (∀q,q<j->vS k (ks.getD q aK)=some false)->ks.getD j aK=k->Instr.findNow d ck es i=some (some (i+j,(es.getD j default).val))
 |e::es,a::ks,i,0,h1,hr,hj,hn,he=>by
  have hr0:=hr 0 aC;simp only[List.getD_cons_zero] at he hr0;subst he;have hs:vS a a=some true:=by unfold vT at hf;split at hf<;>first| (simp[vS];done)| (simp at hf;done)
  have:=X5 hd hk hr0 hf hs;simp[Instr.findNow,this]
 |e::es,a::ks,i,j+1,h1,hr,hj,hn,he=>by have h0:=hn 0 ah;simp only[List.getD_cons_zero] at h0;have hr0:=hr 0 aC;simp only[List.getD_cons_zero] at hr0;have:=X5 hd hk hr0 hf h0;have ih:=ad4 hd hk hf es ks (i+1) j Br (fun q hq=>by simpa using hr (q+1) (by simpa using hq)) vO (fun q hq=>by simpa using hn (q+1) ah) (by simpa using he);simp only[Instr.findNow,this,ih,List.getD_cons_succ];rw[show i+1+j=i+(j+1) by omega]
 | [],_,_,_,_,_,hj,_,_=>by simp at hj|_::_,[],_,_,h1,_,_,_,_=>by simp at h1
theorem ad5 {w:World}{b:Nat}{o o':Obj}(_:w.heap[b]? =some o):Only b w {w with heap:=w.heap.setIfInBounds b o'}:=by refine⟨rfl,rfl,rfl,aC,fun k hk _=>?_,RS _⟩;simp[Ne.symm hk]
theorem ad6 (h:bA E B0 σ K w)(hB:B0<=w.heap.size){t:TypeId}{m k v:V}{cm ck cv:Value}{σ':au}(hm:Rel K σ.top w m cm)(hk:Rel K σ.top w k ck)(hv:Rel K σ.top w v cv)(hu:Bz E.P σ t m k v=some σ'):∃w',(Instr.mapUpdate t cm ck cv).run E.P w= .ok () w'/\Step E B0 new σ K w σ' K w'/\σ'.top=σ.top:=by
 simp only[Bz,iR] at hu;obtain⟨⟨kt,et⟩,hmt,hu⟩:=hu;have hun:=adT hmt;split at hu
 ·rename_i hf
  split at hu
  ·rename_i loc s
   simp only[iR,aZ] at hu;obtain⟨⟨ks,vs⟩,hmp,⟨ks',vs'⟩,hst,rfl⟩:=hu;unfold au.jw at hmp;split at hmp
   ·rename_i s' HV HY ho
    split at hmp
    ·rename_i hs;subst hs
     simp only[iE,aP] at hmp;obtain⟨rfl,rfl⟩:=hmp;obtain⟨_,gX,_⟩:=h.obj _ _ _ ho;obtain⟨hb0,es,bR,g1,hbn,g2,g3,g4,g5⟩:=gX;cases hm with|dJ _ _ hA=>
     obtain⟨d,hd⟩:=ad2 hf;have hck:=run_checkKey (E:=E) hk hf false 9999;have hgd:∀j,es.toList.getD j default=es.getD j default:=fun j=>by simp[List.getD,Array.getD];split<;>simp_all
     have hst':Hf k v HV HY=some (ks',vs'):=hst;rcases ad3 _ _ _ _ hst' ah with ⟨e1,rfl,rfl⟩| ⟨j,hj,rfl,rfl,e1,e2,e3⟩
     ·have hfind:=X6 (E:=E) (K:=K) (T:=σ.top) (w:=w) hd hk hf es.toList HV HY 0 none (by simpa using g2) (by simpa using g3) (fun j hj=>by rw[hgd];exact g4 j vO) e1
      have hfn:Instr.findNow d ck es.toList 0=some none:=by
       rcases hfind with ⟨_,e⟩| ⟨_,_,e,_⟩
       ·exact e
       ·cases e
      refine⟨{w with heap:=w.heap.setIfInBounds (K.blk s') (.map (es.push {key:=ck,val:=cv,born:=bR}) (bR+1))},?_,?_,rfl⟩
      ·unfold Instr.mapUpdate
       simp only[Sem.run_bind,run_underlying hun,Result.andThen_ok,show (10000:Nat)=9999+1 from rfl];simp[getObj,setObj,Sem.run,g1,hck,Instr.findKey,run_underlying hd,hfn]
      ·have hlt:=lt_of_heap g1
       refine Step.adN h hB ho g1 (ad5 g1) (es':=es.push {key:=ck,val:=cv,born:=bR}) (LQ:=bR+1) (by simp[hlt]) (hbn.push rfl) (by simp[g2]) (by simp[g3]) (fun e=>?_);constructor
       ·intro i hi
        by_cases hi':i<es.size
        ·rw[rY ah]
         have:(es.push {key:=ck,val:=cv,born:=bR}).getD i default=es.getD i default:=(by simp[Array.getD,hi',Array.getElem_push,Nat.lt_succ_of_lt hi']);rw[this];exact(g4 i hi').ext e
        ·have:i=es.size:=GV
         subst this;rw[rZ ah,g2];simp;exact hk.ext e
       ·intro i hi
        by_cases hi':i<es.size
        ·rw[rY ah]
         have:(es.push {key:=ck,val:=cv,born:=bR}).getD i default=es.getD i default:=(by simp[Array.getD,hi',Array.getElem_push,Nat.lt_succ_of_lt hi']);rw[this];exact(g5 i hi').ext e
        ·have:i=es.size:=GV
         subst this;rw[rZ ah,g3];simp;exact hv.ext e
     ·have hj':j<es.size:=ah
      have hfn:=ad4 (E:=E) (K:=K) (T:=σ.top) (w:=w) hd hk hf es.toList HV 0 j (by simpa using g2) (fun q hq=>by rw[hgd];exact g4 q (by simpa using hq)) (by simpa using hj') e3 e2;rw[hgd] at hfn;have hsb:Instr.sameBits 10000 (es.getD j default).key ck=true:=(by have:=g4 j hj';rw[e2] at this;exact ami (E:=E) this hk hf _);have hgj:es.getD j default=es[j]:=(by simp[Array.getD,hj']);refine⟨{w with heap:=w.heap.setIfInBounds (K.blk s') (.map (es.modify j fun e=>{e with key:=ck,val:=cv}) bR)},?_,?_,rfl⟩
      ·unfold Instr.mapUpdate
       simp only[Sem.run_bind,run_underlying hun,Result.andThen_ok,show (10000:Nat)=9999+1 from rfl];rw[hgj] at hsb hfn;simp[getObj,setObj,Sem.run,g1,hck,Instr.findKey,run_underlying hd,hfn,hj',Instr.keyThatStays,hsb]
      ·have hlt:=lt_of_heap g1
       refine Step.adN h hB ho g1 (ad5 g1) (es':=es.modify j fun e=>{e with key:=ck,val:=cv}) (LQ:=bR) (by simp[hlt]) (hbn.modify fun _=>rfl) (by simp[g2]) (by simp[g3]) (fun e=>?_);have hmod:∀i,i<es.size->(es.modify j fun e=>{e with key:=ck,val:=cv}).getD i default=if j=i then {es.getD i default with key:=ck,val:=cv} else es.getD i default:=(by intro i hi;simp only[Array.getD,Array.size_modify,hi,dif_pos];show (es.modify j _)[i]'_=_;rw[Array.getElem_modify];split<;>simp_all)
       constructor
       ·intro i hi
        have hi':i<es.size:=jI;rw[hmod i hi'];by_cases hji:j=i
        ·subst hji
         have:(HV.set j k).getD j aK=k:=(by simp[List.getD,hj]);rw[this];simp;exact hk.ext e
        ·have:(HV.set j k).getD i aK=HV.getD i aK:=by simp[List.getD,hji]
         rw[this];simp only[hji,if_false];exact(g4 i hi').ext e
       ·intro i hi
        have hi':i<es.size:=jI;rw[hmod i hi'];by_cases hji:j=i
        ·subst hji
         have:(HY.set j v).getD j aK=v:=(by simp[List.getD,show j<HY.length by omega]);rw[this];simp;exact hv.ext e
        ·have:(HY.set j v).getD i aK=HY.getD i aK:=by simp[List.getD,hji]
         rw[this];simp only[hji,if_false];exact(g5 i hi').ext e
    ·simp at hmp
   ·simp at hmp
  ·simp at hu
 ·simp at hu
end
section
variable {E:Env}{B0:Nat}{σ:au}{K:aV}{w:World}{new:Nat->Prop}{T:Nat->Nat}
theorem ad7 (off:Nat):∀(l:List (Value×Nat))(cs:Array Value),(l.foldl (fun cs (c,j)=>cs.setIfInBounds (off+j) c) cs).size=cs.size
 | [],_=>rfl|x::l,cs=>by rw[List.foldl_cons,ad7 off l];simp
theorem ad8 (off:Nat):∀(vs:List Value)(k:Nat)(cs:Array Value),off+k+vs.length<=cs.size->∀i,i<cs.size->((vs.zipIdx k).foldl (fun cs (c,j)=>cs.setIfInBounds (off+j) c) cs).getD i undef=if off+k<=i/\i<off+k+vs.length then vs.getD (i-(off+k)) undef else cs.getD i undef
 | [],k,cs,_,i,_=>jR|v::vs,k,cs,h,i,hi=>by
  simp only[List.zipIdx_cons,List.foldl_cons];rw[ad8 off vs (k+1) _ (by simp at h⊢;omega) i jI];have hs:(cs.setIfInBounds (off+k) v).getD i undef=if off+k=i then v else cs.getD i undef:=by simp only[Array.getD,Array.size_setIfInBounds,hi,dif_pos];show (cs.setIfInBounds (off+k) v)[i]'_=_;rw[Array.getElem_setIfInBounds];split<;>rfl
  rw[hs];simp only[List.length_cons] at h⊢;by_cases h1:off+k=i
  ·subst h1
   rw[if_neg ah,if_pos rfl,if_pos ah];simp
  ·by_cases h2:off+(k+1)<=i/\i<off+(k+1)+vs.length
   ·rw[if_pos h2,if_pos ah]
    have:i-(off+k)=(i-(off+(k+1)))+1:=ah;rw[this,List.getD_cons_succ]
   ·rw[if_neg h2,if_neg h1,if_neg ah]
theorem RX (a:Array Value)(i:Nat):a.toList.getD i undef=a.getD i undef:=by simp[List.getD,Array.getD];split<;>simp_all
def HZ (K:aV)(T:Nat->Nat)(w:World):List (Nat×V)->List (Nat×Value)->Prop
 | [],[]=>True| (i,v)::a,(j,c)::b=>i=j/\Rel K T w v c/\HZ K T w a b|_,_=>False
theorem LY {place:Nat->Option (Nat×Nat)}{place':Nat->Option (Nat×Nat)}(hp:∀i x,place i=some x->place' i=some x):
 ∀(parts:List (Nat×V))(parts':List (Nat×Value))(cs cs':List V)(vs:Array Value),HZ K T w parts parts'->LW K T w cs vs->rW place cs parts=some cs'->
  ∃vs',Instr.fill place' vs parts'=some vs'/\LW K T w cs' vs'/\vs'.size=vs.size
 | [],[],cs,cs',vs,_,hr,h=>by simp only[rW,iE] at h;subst h;exact⟨vs,rfl,hr,rfl⟩| (i,v)::ps,(j,c)::ps',cs,cs',vs,hpp,hr,h=>by
   obtain⟨rfl,hv,hpp⟩:=hpp;unfold rW at h;cases hpl:place i with
   |none=>simp[hpl] at h|some x=>
    obtain⟨off,size⟩:=x;simp only[hpl] at h;split at h
    ·rename_i hc
     obtain⟨h1,h2,h3⟩:=hc;obtain⟨hl,hcr⟩:=C8 hv h3;have hsz:(c.cells.zipIdx.foldl (fun cs (c,j)=>cs.setIfInBounds (off+j) c) vs).size=vs.size:=(by rw[<-Array.foldl_toList,Array.toList_zipIdx];exact ad7 off _ _);have hget:∀i,i<vs.size->(c.cells.zipIdx.foldl (fun cs (c,j)=>cs.setIfInBounds (off+j) c) vs).getD i undef=if off<=i/\i<off+c.cells.size then c.cells.getD (i-off) undef else vs.getD i undef:=by
      intro i hi;rw[<-Array.foldl_toList,Array.toList_zipIdx];have:=ad8 off c.cells.toList 0 vs (by simp;have:=hr.1;omega) i hi;rw[this];simp only[Nat.add_zero,Array.length_toList];split
      ·exact RX _ _
      ·rfl
     have hrl:LW K T w (jN cs off v.cells) (c.cells.zipIdx.foldl (fun cs (c,j)=>cs.setIfInBounds (off+j) c) vs):=by
      refine⟨by rw[Da ah,hsz];exact hr.1,fun i hi=>?_⟩;rw[Da ah] at hi;rw[X4 ah,hget i (by have:=hr.1;omega),<-hl];by_cases hh:off<=i/\i<off+v.cells.length
      ·rw[if_pos hh,if_pos hh];exact hcr _ ah
      ·rw[if_neg hh,if_neg hh];exact hr.2 i hi
     obtain⟨vs',g1,g2,g3⟩:=LY hp ps ps' _ _ _ hpp hrl h;refine⟨vs',?_,g2,by rw[g3,hsz]⟩;unfold Instr.fill;simp only[hp _ _ hpl];have hcond:¬((decide (c.cells.size≠size)||decide (off+c.cells.size>vs.size))=true):=(by have:=hr.1;simp;omega);rw[if_neg hcond];exact g1
    ·simp at h
 | [],_::_,_,_,_,h,_,_=>h.elim|_::_,[],_,_,_,h,_,_=>h.elim
theorem RY {fr:Fr}{a:Act}(h:bA E B0 σ K w)(hf:kF K σ.top w fr a.tmps):∀(l:List (Nat×Operand)),HZ K σ.top w (l.map fun (i,x)=>(i,fr.ev E x)) (l.map fun (i,x)=>(i,a.eval x))
 | []=>trivial| (_,x)::l=>⟨rfl,xR h hf x,RY h hf l⟩
theorem run_places:∀(l:List Field),l.all (fun f=>(eX E.P f.type).isSome)=true->(l.mapM (fun f=>do pure (f.offset,<-Go.sizeOf f.type):Field->Sem (Nat×Nat))).run E.P w= .ok (l.map fun f=>(f.offset,(eX E.P f.type).getD 0)) w
 | [],_=>rfl|f::l,h=>by simp only[List.all_cons,iP] at h;obtain⟨n,hn⟩:=Option.isSome_iff_exists.1 h.1;have ih:=run_places l h.2;simp only[jL,Sem.run_bind,oH w hn,Result.andThen_ok,Sem.run_pure,ih,hn,fG,Option.getD_some]
theorem amj {t:TypeId}{pl:Nat->Option (Nat×Nat)}{z:V}{parts:List (Nat×V)}{parts':Array (Nat×Value)}{cs:List V}(hpl:RI E t=some pl)(hz:kR E.P t=some z)(hp:HZ K T w parts parts'.toList)(hraw:fV z=true)(h:rW pl z.cells parts=some cs):∃c,(Instr.build t parts').run E.P w= .ok c w/\Rel K T w (.agg cs) c:=by
 obtain⟨cz,hz1,hz2⟩:=C9 w hz;have hrz:LW K T w z.cells cz.cells:=C8 (hz2 K T) hraw;unfold RI at hpl;split at hpl
 ·rename_i fs hu
  split at hpl
  ·rename_i hall
   simp only[iE] at hpl;subst hpl;obtain⟨vs',g1,g2,_⟩:=LY (K:=K) (T:=T) (w:=w) (place':=fun i=>(fs.map fun f=>(f.offset,(eX E.P f.type).getD 0))[i]?) (fun i x hx=>by simp only[iR,aZ] at hx;obtain⟨f,hf,n,hn,rfl⟩:=hx;simp[hf,hn]) parts parts'.toList _ _ _ hp hrz h;refine⟨.agg vs',?_,.agg _ _ g2.1 g2.2⟩;have hm:(fs.mapM (fun f=>do pure (f.offset,<-Go.sizeOf f.type):Field->Sem (Nat×Nat))).run E.P w= .ok (fs.map fun f=>(f.offset,(eX E.P f.type).getD 0)) w:=by rw[Array.mapM_eq_mapM_toList,Sem.run_map,run_places fs.toList hall];simp only[Result.andThen_ok];congr 1;apply Array.ext';simp
   simp only[Instr.build,Sem.run_bind,hz1,Result.andThen_ok,run_underlying hu];rw[hm];simp only[Result.andThen_ok];rw[g1];rfl
  ·simp at hpl
 ·rename_i n e hu
  simp only[aZ] at hpl;obtain⟨sz,hsz,rfl⟩:=hpl;obtain⟨vs',g1,g2,_⟩:=LY (K:=K) (T:=T) (w:=w) (place':=fun i=>some (i*sz,sz)) (fun i x hx=>hx) parts parts'.toList _ _ _ hp hrz h;refine⟨.agg vs',?_,.agg _ _ g2.1 g2.2⟩;simp only[Instr.build,Sem.run_bind,hz1,Result.andThen_ok,run_underlying hu,oH w hsz];rw[g1];rfl
 ·simp at hpl
theorem X7 (z:List V)(sz:Nat)(hz:z.length=sz)(h0:0<sz):∀(n i:Nat),i<n*sz->(List.replicate n z).flatten.getD i aK=z.getD (i% sz) aK
 |0,i,h=>xD|n+1,i,h=>by
  simp only[List.replicate_succ,List.flatten_cons];by_cases hi:i<sz
  ·rw[rY ah,Nat.mod_eq_of_lt hi]
  ·have hs:(n+1)*sz=n*sz+sz:=qO n sz
   rw[rZ ah,hz,X7 z sz hz h0 n (i-sz) ah];congr 1;exact(Nat.mod_eq_sub_mod ah).symm
theorem RZ {z:V}{cz:Value}{sz:Nat}(hz:Rel K T w z cz)(hraw:fV z=true)(hsz:z.cells.length=sz)(n:Nat):
 LW K T w (List.replicate n z.cells).flatten ((Array.range (n*sz)).map fun i=>cz.cells[i% cz.cells.size]!):=by
 obtain⟨h1,h2⟩:=C8 hz hraw;refine⟨by simp[hsz],fun i hi=>?_⟩;have hi':i<n*sz:=by simpa [hsz] using hi
 have h0:0<sz:=by
  rcases Nat.eq_zero_or_pos sz with h|h
  ·subst h;simp at hi'
  ·exact h
 rw[X7 z.cells sz hsz h0 n i hi'];have hm:i% sz<cz.cells.size:=by rw[<-h1,hsz];exact Nat.mod_lt _ h0
 have he:((Array.range (n*sz)).map fun i=>cz.cells[i% cz.cells.size]!).getD i undef=cz.cells.getD (i% sz) undef:=by
  have:cz.cells.size=sz:=ah
  simp[Array.getD,hi',this,getElem!_pos,Nat.mod_lt _ h0]
 rw[he];exact h2 _ ah
theorem X8 (v:V):(er v).cells.length=v.cells.length:=by
 cases v<;>simp[er,V.cells]
theorem H6 {v:V}{c:Value}(h:Rel K T w v c):Rel K T w (eD v) c:=by
 cases h with
 |fu c a ha hc=>exact .fu .sh a (fun h=>bC) trivial
 |ay c l b o n cap val h1 h2 h3 h4 h5=>exact .ay .sh l b o n cap val h1 h2 h3 h4 trivial|_=>first|exact .int _ _|exact .bool _|exact .str _ _ (by assumption)|exact .cB|exact .dF|exact .gL|exact .iD| (constructor<;>assumption)
theorem R3 {v:V}{c:Value}(h:Rel K T w v c):Rel K T w (er v) c:=by
 cases h with
 |agg cs vs hl h=>
  refine .agg _ vs yN (fun i hi=>?_);have hi':i<cs.length:=jI
  have:(cs.map eD).getD i aK=eD (cs.getD i aK):=Lg
  rw[this];exact H6 (h i hi')
 |fu c a ha hc=>exact .fu .sh a (fun h=>bC) trivial
 |ay c l b o n cap val h1 h2 h3 h4 h5=>exact .ay .sh l b o n cap val h1 h2 h3 h4 trivial|_=>first|exact .int _ _|exact .bool _|exact .str _ _ (by assumption)|exact .cB|exact .dF|exact .gL|exact .iD| (constructor<;>assumption)
theorem ad9 {v:V}{j:Nat}{c:Value}(hj:j<v.cells.length)(h:Rel K T w (v.cells.getD j aK) c):Rel K T w ((er v).cells.getD j aK) c:=by
 cases v with
 |agg cs=>
  have:((er (.agg cs)).cells).getD j aK=eD (cs.getD j aK):=by have hj':j<cs.length:=hj;simp[er,V.cells,List.getD,hj']
  rw[this];exact H6 h
 |ay c l=>
  have hj0:j=0:=by simp[V.cells] at hj;exact hj
  subst hj0;exact H6 h
 |_=>exact h
theorem amk {v:V}(h:fV v=true):fV (er v)=true:=by cases v<;>first|exact h|rfl
theorem aml {c:Cap}{l:List V}{x:Value}(h:Rel K T w (.ay c l) x):Rel K T w (.ay c (l.map er)) x:=by
 cases h with
 |fu _ a ha hc=>exact .fu c a ha hc|ay _ _ b o n cap val hle hn hcell hrel hc=>
  have hg:∀i,i<l.length->(l.map er).getD i aK=er (l.getD i aK):=fun i hi=>by simp[List.getD,hi]
  have key:Rel K T w (.ay c (l.map er)) (.slice (some (at_ b o)) (l.map er).length cap):=by
   refine .ay c _ b o n cap val (by simpa using hle) (fun i hi=>?_) (fun i j hi hj=>hcell i j jI hj) (fun i j hi hj=>?_) RD
   ·rw[hg i jI,X8];exact hn i jI
   ·rw[hg i jI]
    exact ad9 (by rw[hn i jI];exact hj) (hrel i j jI hj)
  simpa using key
theorem amm (h:bA E B0 σ K w)(hB:B0<=w.heap.size){t:TypeId}{len:Nat}{parts:List (Nat×V)}{parts':Array (Nat×Value)}{v:V}(hp:HZ K σ.top w parts parts'.toList)(hv:CW E t len parts=some v):Done E B0 new σ K w (Instr.buildSlice t len parts') v σ:=by
 simp only[CW,iR] at hv;obtain⟨e,he,sz,hsz,ag,hag,z,hz,hv⟩:=hv;split at hv
 ·rename_i hc
  obtain⟨c1,c2,c3,c4⟩:=hc;simp only[iR] at hv;obtain⟨cs,hcs,hv⟩:=hv;split at hv
  ·rename_i hone
   simp only[iE] at hv;subst hv;obtain⟨cz,hz1,hz2⟩:=C9 w hz;have hraw:fV z=true:=Hu hz;have hrz:=RZ (hz2 K σ.top) hraw c2 len;obtain⟨vs',g1,g2,g3⟩:=LY (K:=K) (T:=σ.top) (w:=w) (place':=fun i=>some (i*sz,sz)) (fun i x hx=>by
    split at hx
    ·exact hx
    ·simp at hx) parts parts'.toList _ _ _ hp hrz hcs
   have hlen:cs.length=len*sz:=by rw[g2.1,g3];simp
   have hu:=LU he;have hrun:(Instr.buildSlice t len parts').run E.P w= .ok (.slice (some ⟨w.heap.size,0,none⟩) len len) (w.alloc (.cells vs' e)):=by
    have hn:¬2^24<len*sz:=ah;by_cases h0:len*sz=0
    ·have hl0:len=0:=by
      rcases Nat.mul_eq_zero.1 h0 with h|h
      ·exact h
      ·omega
     subst hl0;simp only[Instr.buildSlice,Sem.run_bind,run_underlying hu,Result.andThen_ok,oH w hsz,Nat.zero_mul];have g1':Instr.fill (fun i=>some (i*sz,sz)) #[] parts'.toList=some vs':=(by have e0:((Array.range (0*sz)).map fun i=>cz.cells[i% cz.cells.size]!)= #[]:=Ru;rw[<-e0];exact g1);have e1:∀f:Nat->Value,(Array.range 0).map f= #[]:=fun f=>Ru
     simp only[if_true,e1,g1'];simp[newRow]
    ·simp only[Instr.buildSlice,Sem.run_bind,run_underlying hu,Result.andThen_ok,oH w hsz,hn,gt_iff_lt,if_false,h0,hz1,Sem.run_pure]
     rw[g1];simp[newRow]
   have hst:=Step.adL (new:=new) h hB vs' e (0,0);refine⟨_,_,_,hrun,aml ?_,hst⟩;have hext:=hst.ext;refine LX (cap:=len) (w:=w.alloc (.cells vs' e)) (fun j=>vs'.getD j undef) (fun hf=>?_) ah (fun _=>hone) (fun j hj=>⟨?_,?_⟩) (fun j hj=>(g2.2 j ah).ext hext) (RS _) (by simp[vZ])
   ·subst hf;simpa using c4
   ·have:=LP (w:=w) (vals:=vs') (t:=e) (fz:=(0,0)) (i:=j) (by have:=g2.1;omega)
    simpa using this
   ·right
    exact⟨rfl,by have:=g2.1;omega⟩
  ·simp at hv
 ·simp at hv
end
end aY
end
