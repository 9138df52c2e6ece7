import Derived.Laws.BytesArg
import Derived.Laws.MakeOwn
import Derived.Laws.StructEq
import Derived.Lib.ConvBytes
import Derived.Test.YthadiihdjhakdaaGreatF2200
set_option linter.all false
section
namespace aR
open Go Go.RowKit
theorem aed {K T w}{v:Value}{z:V}(h:kL v=some z):Rel K T w z v:=by
 cases v with
 |bool b=>simp only[kL,iE] at h;subst h;exact .bool b|int k n=>simp only[kL,iE] at h;subst h;exact .int k n|string s=>simp only[kL,iE] at h;subst h;exact .str _ s rfl|pointer a=>
  cases a with
  |none=>simp only[kL,iE] at h;subst h;exact .iC|some a=>simp[kL] at h
 |slice a n c=>
  cases a with
  |none=>
   cases n with
   |zero=>
    cases c with
    |zero=>simp only[kL,iE] at h;subst h;exact .eP .nil none (fun _=>rfl) trivial
    |succ c=>simp[kL] at h
   |succ n=>simp[kL] at h
  |some a=>simp[kL] at h
 |map r=>
  cases r with
  |none=>simp only[kL,iE] at h;subst h;exact .gD|some a=>simp[kL] at h
 |nilFunc=>simp only[kL,iE] at h;subst h;exact .gQ|nilIface=>simp only[kL,iE] at h;subst h;exact .iH|_=>simp[kL] at h
theorem aoU {v:Value}{z:V}(h:kL v=some z):fM z=true:=by
 cases z with
 |raw x=>cases v with
  |slice a n c=>cases a<;>cases n<;>cases c<;>simp[kL] at h|pointer a=>cases a<;>simp[kL] at h|map a=>cases a<;>simp[kL] at h|_=>simp[kL] at h
 |_=>rfl
theorem aoV {v:Value}{z:V}(h:ofValue v=some z):fM z=true:=by
 cases v with
 |agg cs=>simp only[ofValue,bf] at h;obtain⟨r,_,rfl⟩:=h;rfl
 |tuple cs=>simp only[ofValue,bf] at h;obtain⟨r,_,rfl⟩:=h;rfl
 |_=>exact aoU (v:=_) (by unfold ofValue at h;exact h)
theorem mapM_some {α β:Type}{f:α->Option β}:∀{l:List α}{r:List β},l.mapM f=some r->l.length=r.length/\∀i (h:i<l.length),∃(h':i<r.length),f l[i]=some r[i]
 | [],r,h=>by simp at h;subst h;exact⟨rfl,fun i hi=>absurd hi (gL i)⟩
 |a::l,r,h=>by
  simp only[j5,Option.pure_def,Option.bind_eq_bind] at h;cases ha:f a with
  |none=>simp[ha] at h|some x=>
   cases hl:l.mapM f with
   |none=>simp[ha,hl] at h|some r'=>
    simp only[ha,hl,Option.bind_some,iE] at h;subst h;obtain⟨h1,h2⟩:=mapM_some hl;refine⟨by simp[h1],fun i hi=>?_⟩;cases i with
    |zero=>exact⟨aD,ha⟩|succ i=>obtain⟨h3,h4⟩:=h2 i jm;exact⟨by simpa using h3,by simpa using h4⟩
theorem jU {α:Type}{l:List α}{i:Nat}(h:i<l.length)(d:α):l.getD i d=l[i]:=by simp[List.getD,h]
theorem G5 {α:Type}{l:Array α}{i:Nat}(h:i<l.size)(d:α):l.getD i d=l[i]:=by simp[Array.getD,h]
theorem UA {K T w}{v:Value}{z:V}(h:ofValue v=some z):Rel K T w z v:=by
 have hsc:∀(cs:Array Value)(r:List V),cs.toList.mapM kL=some r->r.length=cs.size/\∀i,i<r.length->Rel K T w (r.getD i aL) (cs.getD i undef):=by
  intro cs r hr;obtain⟨h1,h2⟩:=mapM_some hr;have h1':r.length=cs.size:=by rw[<-h1];simp
  refine⟨h1',fun i hi=>?_⟩;obtain⟨h3,h4⟩:=h2 i ah;rw[jU h3,G5 ah];exact aed (by simpa using h4)
 cases v with
 |agg cs=>simp only[ofValue,bf] at h;obtain⟨r,hr,rfl⟩:=h;obtain⟨h1,h2⟩:=hsc cs r hr;exact .agg r cs h1 h2
 |tuple cs=>simp only[ofValue,bf] at h;obtain⟨r,hr,rfl⟩:=h;obtain⟨h1,h2⟩:=hsc cs r hr;exact .bB r cs h1 h2
 |_=>exact aed h
theorem xZ {E B0 σ K w}(h:bE E B0 σ K w){fr:Fr}{a:Act}(hf:kD K σ.top w fr a.tmps)(x:Operand):Rel K σ.top w (fr.ev E x) (a.eval x):=by
 cases x with
 |tmp t=>exact hf t|const v=>
  simp only[Fr.ev,Act.eval];cases hv:ofValue v with
  |none=>exact .raw v|some z=>exact UA hv
 |global g=>
  simp only[Fr.ev,Act.eval];cases hg:E.glob g with
  |none=>exact .raw _|some cs=>exact h.glob g cs hg
 |func f=>exact .fn f [] [] #[] #[] rfl rfl (fun i hi=>absurd hi (gL i)) (fun i hi=>absurd hi (gL i))
theorem CZ {K T w}{v:V}{c:Value}(h:Rel K T w v c)(hr:fM v=true):
 v.cells.length=c.cells.size/\∀i,i<v.cells.length->Rel K T w (v.cells.getD i aL) (c.cells.getD i undef):=by
 have one:∀{v:V}{c:Value},Rel K T w v c->v.cells=[v]->c.cells= #[c]->v.cells.length=c.cells.size/\∀i,i<v.cells.length->Rel K T w (v.cells.getD i aL) (c.cells.getD i undef):=by
  intro v c h h1 h2;rw[h1,h2];refine⟨rfl,fun i hi=>?_⟩;obtain rfl:i=0:=MZ
  exact h
 cases h with
 |agg cs vs hl h=>exact⟨hl,h⟩|raw v=>simp[fM] at hr|bB cs vs hl h=>exact one (.bB cs vs hl h) rfl rfl|int k n=>exact one (.int k n) rfl rfl|bool b=>exact one (.bool b) rfl rfl|str s b h=>exact one (.str s b h) rfl rfl|iC=>exact one .iC rfl rfl|gQ=>exact one .gQ rfl rfl|gD=>exact one .gD rfl rfl|iH=>exact one .iH rfl rfl|eP c a ha hc=>exact one (.eP c a ha hc) rfl rfl|ay c l b o n cap val h1 h2 h3 h4 h5=>exact one (.ay c l b o n cap val h1 h2 h3 h4 h5) rfl rfl
 |aM loc s off len cap bZ ag dP h1 h2 h3 h4=>exact one (.aM loc s off len cap bZ ag dP h1 h2 h3 h4) rfl rfl|kP loc s bZ ag h1=>exact one (.kP loc s bZ ag h1) rfl rfl|aY cs off b o val h1 h2=>exact one (.aY cs off b o val h1 h2) rfl rfl|ref loc s off h1=>exact one (.ref loc s off h1) rfl rfl|fn f a b j6 bv h1 h2 h3 h4=>exact one (.fn f a b j6 bv h1 h2 h3 h4) rfl rfl|yield l h1=>exact one (.yield l h1) rfl rfl
 |cu loc s h1=>exact one (.cu loc s h1) rfl rfl|dV ks vs b es bX h1 h2 h3 h4 h5 h6=>exact one (.dV ks vs b es bX h1 h2 h3 h4 h5 h6) rfl rfl|iface t v c h=>exact one (.iface t v c h) rfl rfl
theorem aee {K T w}{v:V}{c:Value}(h:Rel K T w v c)(ho:oneCell v=true):c.oneCell'=true/\c.cells= #[c]/\v.cells=[v]:=by
 cases h<;>first| (simp[oneCell] at ho;done)|exact⟨rfl,rfl,rfl⟩
section types
variable {P:Program}{t:TypeId}(w:World)
theorem aef {i:TypeInfo}(h:P.info? t=some i):(typeInfo t).run P w= .ok i w:=by simp[typeInfo,h]
theorem nZ {n:Nat}(h:fq P t=some n):(Go.sizeOf t).run P w= .ok n w:=by simp only[fq,bf] at h;obtain⟨i,hi,rfl⟩:=h;simp[Go.sizeOf,aef w hi]
theorem aeg {b:Bool}(h:pI P t=some b):(isAgg t).run P w= .ok b w:=by simp only[pI,bf] at h;obtain⟨d,hd,rfl⟩:=h;simp only[isAgg,Sem.run_bind,run_underlying hd,Result.andThen_ok];cases d<;>rfl
theorem C8 {z:V}(h:kC P t=some z):∃c,(zeroValue t).run P w= .ok c w/\∀K T,Rel K T w z c:=by simp only[kC,iR] at h;obtain⟨v,⟨i,hi,hz⟩,hv⟩:=h;exact⟨v,by simp[zeroValue,aef w hi,hz],fun K T=>UA hv⟩
theorem G6 {z:V}(h:kC P t=some z):fM z=true:=by simp only[kC,iR] at h;obtain⟨v,_,hv⟩:=h;exact aoV hv
theorem Ns {e:TypeId}(h:nW P t=some e):P.underlying t=some (.slice e):=by unfold nW at h;split at h<;>simp_all
theorem aeh {n:Nat}{e:TypeId}(h:Ut P t=some (n,e)):P.underlying t=some (.array n e):=by unfold Ut at h;split at h<;>simp_all
theorem aei {k e:TypeId}(h:wz P t=some (k,e)):P.underlying t=some (.map k e):=by unfold wz at h;split at h<;>simp_all
theorem aej {f o:Nat}{u:TypeId}(h:xR P t f=some (o,u)):∃fs g n,P.underlying t=some (.struct fs)/\fs[f]? =some g/\g.offset=o/\g.type=u/\fq P u=some (n+1):=by
 unfold xR at h;split at h
 ·rename_i fs hu
  simp only[iR] at h;obtain⟨g,hg,h⟩:=h;split at h
  ·rename_i n hn
   simp only[iE,mF] at h;exact⟨fs,g,n,hu,hg,h.1,h.2,by rw[<-h.2];exact hn⟩
  ·simp at h
 ·simp at h
end types
theorem addr_add (b o n:Nat):(at_ b o).add n=at_ b (o+n):=by
 unfold Addr.add;split
 ·subst_vars;rfl
 ·rfl
theorem Yu {P:Program}{K T}{w:World}{t:TypeId}{cs:List V}{off:Nat}{v:V}{b o:Nat}(val:Nat->Value)(hc:∀i,i<cs.length->w.cell? (at_ b (o+i))=some (val i))(hr:∀i,i<cs.length->Rel K T w (cs.getD i aL) (val i))(h:kN P t cs off=some v):
 ∃c,(loadVar t (at_ b (o+off))).run P w= .ok c w/\Rel K T w v c:=by
 simp only[kN,iR] at h;obtain⟨ag,hag,n,hn,h⟩:=h;simp only[loadVar,Sem.run_bind,aeg w hag,Result.andThen_ok];cases ag with
 |true=>
  simp only[CJ,if_true] at h;split at h
  ·rename_i hle
   simp only[iE] at h;subst h;have hl:=run_loadCells (P:=P) w (at_ b (o+off)) n (fun j=>val (off+j)) (fun j hj=>by rw[addr_add,sZ];exact hc _ ah);refine⟨.agg ((List.range n).map fun j=>val (off+j)).toArray,by simp[nZ w hn,hl],?_⟩;refine .agg _ _ eY (fun i hi=>?_);simp only[j3,vZ] at hi;have hi':i<n:=ah
   have e1:((cs.drop off).take n).getD i aL=cs.getD (off+i) aL:=by simp[List.getD,hi',List.getElem?_drop]
   have e2:(((List.range n).map fun j=>val (off+j)).toArray).getD i undef=val (off+i):=by simp[Array.getD,hi']
   rw[e1,e2];exact hr _ ah
  ·simp at h
 |false=>
  simp only[CJ,dL,if_false] at h;have hlt:off<cs.length:=(qm.1 h).1;have hv:cs[off]=v:=(qm.1 h).2;refine⟨val off,by simp[hc off hlt],?_⟩;have:=hr off hlt
  rwa[jU hlt,hv] at this
theorem G7 {P:Program}{K T}{w:World}{t:TypeId}{cs:List V}{vs:Array Value}{off:Nat}{v:V}(hl:cs.length=vs.size)(hr:∀i,i<cs.length->Rel K T w (cs.getD i aL) (vs.getD i undef))(h:kN P t cs off=some v):
 ∃c,(part t vs off).run P w= .ok c w/\Rel K T w v c:=by
 simp only[kN,iR] at h;obtain⟨ag,hag,n,hn,h⟩:=h;simp only[part,Sem.run_bind,aeg w hag,Result.andThen_ok];cases ag with
 |true=>
  simp only[CJ,if_true] at h;split at h
  ·rename_i hle
   simp only[iE] at h;subst h;refine⟨.agg (vs.extract off (off+n)),by simp[nZ w hn],?_⟩;refine .agg _ _ eY (fun i hi=>?_);simp only[j3,vZ] at hi;have hi':i<n:=ah
   have e1:((cs.drop off).take n).getD i aL=cs.getD (off+i) aL:=by simp[List.getD,hi',List.getElem?_drop]
   have e2:(vs.extract off (off+n)).getD i undef=vs.getD (off+i) undef:=by have:off+i<vs.size:=ah;simp[Array.getD,this,show i<min (off+n) vs.size-off by omega]
   rw[e1,e2];exact hr _ ah
  ·simp at h
 |false=>
  simp only[CJ,dL,if_false] at h;have hlt:off<cs.length:=(qm.1 h).1;have hv:cs[off]=v:=(qm.1 h).2;have hlt':off<vs.size:=ah
  refine⟨vs.getD off undef,by simp[hlt',Array.getD],?_⟩;have:=hr off hlt
  rwa[jU hlt,hv] at this
theorem Yv {a b:ByteArray}:(a.data.toList==b.data.toList)=(a==b):=by rw[beq_toListBytes,ByteArray.toList_eq,ByteArray.toList_eq]
section eq
variable {P:Program}{K:aU}{T:Nat->Nat}(w:World)
def Nt (d:Nat)(e:TypeId)(n:Nat)(xs ys:Array Value):List Nat->Sem Bool
 | []=>pure true|i::is=>do
  let a<-part e xs (i*n)
  let b<-part e ys (i*n)
  let r<-Go.Op.equalIn d e a b
  if (!r)=true then pure false else Nt d e n xs ys is
theorem run_equalIn_array (d:Nat)(t e:TypeId)(len n:Nat)(xs ys:Array Value)(ht:P.underlying t=some (.array len e))(hn:fq P e=some n):(Go.Op.equalIn (d+1) t (.agg xs) (.agg ys)).run P w=(Nt d e n xs ys (List.range len)).run P w:=by
 simp only[Go.Op.equalIn,Sem.run_bind,run_underlying ht,Result.andThen_ok,nZ w hn];rw[Std.Legacy.Range.forIn_eq_forIn_range'];simp only[Std.Legacy.Range.size,Nat.sub_zero,Nat.add_sub_cancel,Nat.div_one,<-List.range_eq_range'];generalize List.range len=is;clear ht;induction is generalizing w with
 |nil=>simp[Nt]|cons i is ih=>
  simp only[List.forIn_cons,Nt,Sem.run_bind,Sem.run_ite];generalize (part e xs (i*n)).run P w=r1;cases r1 with
  |ok a w1=>
   simp only[Result.andThen_ok];generalize (part e ys (i*n)).run P w1=r2;cases r2 with
   |ok b w2=>
    simp only[Result.andThen_ok];generalize (Go.Op.equalIn d e a b).run P w2=r3;cases r3 with
    |ok r w3=>
     cases r
     ·simp only[Result.andThen_ok,Bool.not_false,if_true,Sem.run_pure]
     ·simp only[Result.andThen_ok,Bool.not_true,dL,if_false,Sem.run_pure]
      exact ih w3
    |halt x w3=>simp[Result.andThen]
   |halt x w2=>simp[Result.andThen]
  |halt x w1=>simp[Result.andThen]
theorem Yw:∀(d n:Nat),d<=n->∀(t:TypeId)(x y:V)(cx cy:Value)(r:Bool),Rel K T w x cx->Rel K T w y cy->CK P d t x y=some r->(Go.Op.equalIn n t cx cy).run P w= .ok r w
 |0,_,_,_,_,_,_,_,_,_,_,h=>by simp[CK] at h|d+1,0,hd,_,_,_,_,_,_,_,_,_=>ah|d+1,n+1,hd,t,x,y,cx,cy,r,hx,hy,h=>by
  have ih:=Yw d n ah;unfold CK at h;split at h
  ·rename_i a b hu
   cases hx;cases hy;simp only[iE] at h;subst h;simp[Go.Op.equalIn,run_underlying hu]
  ·rename_i kk k a k' b hu
   cases hx;cases hy;split at h
   ·rename_i hk
    subst hk;simp only[iE] at h;subst h;simp[Go.Op.equalIn,run_underlying hu]
   ·simp at h
  ·rename_i a b hu
   cases hx with|str _ ba ha=>cases hy with|str _ bb hb=>
   simp only[iE] at h;subst h;subst ha;subst hb;simp only[Go.Op.equalIn,Sem.run_bind,run_underlying hu,Result.andThen_ok,Sem.run_pure,Yv]
  ·rename_i fs xs ys hu
   split at h
   ·simp at h
   ·rename_i hsi
    cases hx with|agg _ vx hlx hrx=>cases hy with|agg _ vy Yx Yy=>
    have hf:P.fieldsOf t=fs:=(by simp[Program.fieldsOf,hu]);rw[run_equalIn_struct w n t vx vy (by rw[hf];exact hu) (by simpa using hsi),hf];generalize fs.toList=l at h⊢;clear hf hu;induction l generalizing r with
    |nil=>simp only[Ev,iE] at h;subst h;rfl|cons f l ihl=>
     simp only[Ev] at h;simp only[Op.eqFields];split at h
     ·rename_i hn
      simp only[hn,ne_eq,not_true_eq_false,if_false];exact ihl r h
     ·rename_i hn
      simp only[iR,bf] at h;obtain⟨a,ha,b,hb,q,hq,r',hr',rfl⟩:=h;obtain⟨ca,ra,Yz⟩:=G7 hlx hrx ha;obtain⟨cb,rb,YA⟩:=G7 Yx Yy hb;simp only[hn,ne_eq,not_false_eq_true,if_true,Sem.run_bind,ra,rb,Result.andThen_ok,ih f.type a b ca cb q Yz YA hq,Sem.run_ite];cases q
      ·simp
      ·simpa using ihl r' hr'
  ·rename_i len e xs ys hu
   simp only[iR] at h;obtain⟨sz,hsz,h⟩:=h;cases hx with|agg _ vx hlx hrx=>cases hy with|agg _ vy Yx Yy=>
   rw[run_equalIn_array w n t e len sz vx vy hu hsz];generalize List.range len=l at h⊢;clear hu;induction l generalizing r with
   |nil=>simp only[GR,iE] at h;subst h;rfl|cons i l ihl=>
    simp only[GR] at h;simp only[Nt];simp only[iR,bf] at h;obtain⟨a,ha,b,hb,q,hq,r',hr',rfl⟩:=h;obtain⟨ca,ra,Yz⟩:=G7 hlx hrx ha;obtain⟨cb,rb,YA⟩:=G7 Yx Yy hb;simp only[Sem.run_bind,ra,rb,Result.andThen_ok,ih e a b ca cb q Yz YA hq,Sem.run_ite];cases q
    ·simp
    ·simpa using ihl r' hr'
  ·simp at h
theorem aoW (op:BinOp)(t:TypeId)(ox oy:Operand){ms}(hu:P.underlying t=some (.interface ms))(hms:ms.isEmpty=true):(eqGuard op t ox oy .nilIface .nilIface).run P w= .ok () w:=by
 have hg0:∀d,(Go.Op.eqGuardIn (d+1) t .nilIface .nilIface).run P w= .ok false w:=fun d=>by simp[Go.Op.eqGuardIn,run_underlying hu,hms]
 have hg:(Go.Op.eqGuardIn Go.Op.maxDepth t .nilIface .nilIface).run P w= .ok false w:=hg0 9999;unfold eqGuard;generalize Go.Op.eqGuardIn Go.Op.maxDepth t .nilIface .nilIface=s at hg⊢;cases op<;>first|rfl| (cases ox<;>cases oy<;>first|rfl|simp[hg])
theorem eq_nil (n:Nat)(t:TypeId){ms}(hu:P.underlying t=some (.interface ms)):(Go.Op.equalIn (n+1) t .nilIface .nilIface).run P w= .ok true w:=nR
theorem aoX (n:Nat)(t:TypeId){ms}{u c}(hu:P.underlying t=some (.interface ms)):(Go.Op.equalIn (n+1) t .nilIface (.iface u c)).run P w= .ok false w:=nR
theorem aoY (n:Nat)(t:TypeId){ms}{u c}(hu:P.underlying t=some (.interface ms)):(Go.Op.equalIn (n+1) t (.iface u c) .nilIface).run P w= .ok false w:=nR
theorem aoZ {op:BinOp}(n:Nat)(hn:8<=n+1)(t:TypeId)(x y:V)(cx cy:Value)(r:Bool)(ox oy:Operand)(hx:Rel K T w x cx)(hy:Rel K T w y cy)(h:qQ P t x y=some r):(eqGuard op t ox oy cx cy).run P w= .ok () w/\(Go.Op.equalIn (n+1) t cx cy).run P w= .ok r w:=by
 unfold qQ at h;split at h
 ·rename_i hu
  cases hx;cases hy;simp only[iE] at h;subst h;exact⟨nS,nR⟩
 ·rename_i hu
  cases hx;cases hy<;>(simp only[iE] at h;subst h;exact⟨nS,nR⟩)
 ·rename_i hu
  cases hy;cases hx<;>(simp only[iE] at h;subst h;exact⟨nS,nR⟩)
 ·rename_i hu
  cases hx;cases hy;simp only[iE] at h;subst h;exact⟨nS,nR⟩
 ·rename_i hu
  cases hx;cases hy;simp only[iE] at h;subst h;exact⟨nS,nR⟩
 ·rename_i hu
  cases hx;cases hy;simp only[iE] at h;subst h;exact⟨nS,nR⟩
 ·rename_i hu
  cases hx;cases hy;simp only[iE] at h;subst h;exact⟨nS,nR⟩
 ·rename_i hu
  cases hx;cases hy;simp only[iE] at h;subst h;exact⟨nS,nR⟩
 ·rename_i hu
  simp only[iE] at h;subst h;cases hx with
  |ay _ _ _ _ _ _ _ _ _ _ _ hc=>exact hc.elim|eP _ a ha _=>cases hy with
   |ay _ _ _ _ _ _ _ _ _ _ _ hc=>exact hc.elim|eP _ a' ha' _=>
    cases ha rfl;cases ha' rfl;exact⟨nS,nR⟩
 ·rename_i hu
  simp only[iE] at h;subst h;cases hx with
  |ay _ _ _ _ _ _ _ _ _ _ _ hc=>exact hc.elim|eP _ a ha _=>cases ha rfl;cases hy with
   |ay _ _ _ _ _ _ _ _ _ _ _ hc=>exact⟨nS,nR⟩
 ·rename_i hu
  simp only[iE] at h;subst h;cases hy with
  |ay _ _ _ _ _ _ _ _ _ _ _ hc=>exact hc.elim|eP _ a ha _=>cases ha rfl;cases hx with
   |ay _ _ _ _ _ _ _ _ _ _ _ hc=>exact⟨nS,nR⟩
 ·rename_i hu
  cases hx;cases hy;simp only[iE] at h;subst h;exact⟨nS,nR⟩
 ·rename_i hu
  cases hx;cases hy;simp only[iE] at h;subst h;exact⟨nS,nR⟩
 ·rename_i hu
  cases hx;cases hy;simp only[iE] at h;subst h;exact⟨nS,nR⟩
 ·rename_i hu
  cases hx;cases hy;simp only[iE] at h;subst h;exact⟨nS,nR⟩
 ·rename_i hu
  cases hx;cases hy;simp only[iE] at h;subst h;exact⟨nS,nR⟩
 ·rename_i hu
  split at h
  ·simp at h
  ·rename_i hg
   refine⟨?_,Yw w 8 (n+1) hn t _ _ cx cy r hx hy h⟩;cases hx;cases hy;exact run_eqGuard_agg w op t ox oy _ _ (by simpa using hg)
 ·rename_i hu
  split at h
  ·simp at h
  ·rename_i hg
   refine⟨?_,Yw w 8 (n+1) hn t _ _ cx cy r hx hy h⟩;cases hx;cases hy;exact run_eqGuard_agg w op t ox oy _ _ (by simpa using hg)
 ·rename_i hu
  cases hx;cases hy;simp only[iE] at h;subst h;exact⟨nS,nR⟩
 ·rename_i ms hu
  split at h
  ·rename_i hms
   cases hx;cases hy;simp only[iE] at h;subst h;exact⟨aoW w op t ox oy hu hms,eq_nil w n t hu⟩
  ·cases h
 ·rename_i hu
  cases hx;cases hy;simp only[iE] at h;subst h;exact⟨nS,aoX w n t hu⟩
 ·rename_i hu
  cases hx;cases hy;simp only[iE] at h;subst h;exact⟨nS,aoY w n t hu⟩
 ·simp at h
theorem aek {op:BinOp}(t:TypeId)(x y:V)(cx cy:Value)(r:Bool)(ox oy:Operand)(hx:Rel K T w x cx)(hy:Rel K T w y cy)(h:qQ P t x y=some r):(eqGuard op t ox oy cx cy).run P w= .ok () w/\(Go.Op.equal t cx cy).run P w= .ok r w:=
 aoZ w 9999 ah t x y cx cy r ox oy hx hy h
end eq
section
variable {P:Program}{K:aU}{T:Nat->Nat}(w:World)
theorem ao0 {op:BinOp}{t:TypeId}{k:IntKind}{a b:Int}{v:V}(h:lY op k a b=some v):
 ∃c,(binOp op t (.int k a) (.int k b)).run P w= .ok c w/\Rel K T w v c:=by
 cases op with
 |quo=>
  simp only[lY] at h;split at h
  ·simp at h
  ·rename_i hb
   simp only[iE] at h;subst h;exact⟨_,by simp only[binOp_quo,Op.intDiv,hb,if_false,Sem.run_pure],.int _ _⟩
 |rem=>
  simp only[lY] at h;split at h
  ·simp at h
  ·rename_i hb
   simp only[iE] at h;subst h;exact⟨_,by simp only[binOp_rem,Op.intDiv,hb,if_false,Sem.run_pure],.int _ _⟩
 |shl=>simp[lY] at h|shr=>simp[lY] at h|add=>simp only[lY,iE] at h;subst h;exact⟨_,by simp only[binOp_add,Op.intArith,Sem.run_pure],.int _ _⟩|sub=>simp only[lY,iE] at h;subst h;exact⟨_,by simp only[binOp_sub,Op.intArith,Sem.run_pure],.int _ _⟩|mul=>simp only[lY,iE] at h;subst h;exact⟨_,by simp only[binOp_mul,Op.intArith,Sem.run_pure],.int _ _⟩|and=>simp only[lY,iE] at h;subst h;exact⟨_,by simp only[binOp_and,Op.intBits,Sem.run_pure],.int _ _⟩
 |or=>simp only[lY,iE] at h;subst h;exact⟨_,by simp only[binOp_or,Op.intBits,Sem.run_pure],.int _ _⟩|xor=>simp only[lY,iE] at h;subst h;exact⟨_,by simp only[binOp_xor,Op.intBits,Sem.run_pure],.int _ _⟩|andNot=>simp only[lY,iE] at h;subst h;exact⟨_,by simp only[binOp_andNot,Op.intBits,Sem.run_pure],.int _ _⟩|eql=>simp only[lY,iE] at h;subst h;exact⟨_,by simp only[binOp_eql,Sem.run_pure],.bool _⟩|neq=>simp only[lY,iE] at h;subst h;exact⟨_,by simp only[binOp_neq,Sem.run_pure],.bool _⟩
 |lss=>simp only[lY,iE] at h;subst h;exact⟨_,by simp only[binOp_lss,Sem.run_pure],.bool _⟩|leq=>simp only[lY,iE] at h;subst h;exact⟨_,by simp only[binOp_leq,Sem.run_pure],.bool _⟩|gtr=>simp only[lY,iE] at h;subst h;exact⟨_,by simp only[binOp_gtr,Sem.run_pure],.bool _⟩|geq=>simp only[lY,iE] at h;subst h;exact⟨_,by simp only[binOp_geq,Sem.run_pure],.bool _⟩
theorem ao1 {op:BinOp}{t:TypeId}{x y:List UInt8}{a b:ByteArray}{v:V}(ha:a.data.toList=x)(hb:b.data.toList=y)(h:CO op x y=some v):
 ∃c,(binOp op t (.string a) (.string b)).run P w= .ok c w/\Rel K T w v c:=by
 have e:binOp op t (.string a) (.string b)=Op.stringOp op a b:=nS
 rw[e];subst ha;subst hb;cases op with
 |add=>
  simp only[CO] at h;split at h
  ·simp at h
  ·rename_i hn
   simp only[iE] at h;subst h;have hn':¬((a.size+b.size:Nat):Int)>IntKind.i64.max:=by simpa using hn
   exact⟨.string (a++b),by simp only[Op.stringOp,hn',if_false,Sem.run_pure],.str _ _ aD⟩
 |_=>first
  | (simp only[CO,iE] at h;subst h;refine⟨_,?_,.bool _⟩;simp only[Op.stringOp,Sem.run_pure,ByteArray.toList_eq])
  |simp[CO] at h
def ao2:V->Prop
 |.int _ _|.str _|.raw _|.bB _=>False|_=>True
theorem ael {t:TypeId}{x y:V}{r:Bool}(h:qQ P t x y=some r):ao2 x:=by unfold qQ at h;split at h<;>first|exact trivial|simp at h
theorem ao3 {op:BinOp}{t:TypeId}{x y v:V}{cx cy:Value}(ox oy:Operand)(hx:Rel K T w x cx)(hy:Rel K T w y cy)(h:tu P op t x y=some v):
 ∃c,(do eqGuard op t ox oy cx cy;binOp op t cx cy:Sem Value).run P w= .ok c w/\Rel K T w v c:=by
 unfold tu at h;split at h
 ·cases hx;cases hy
  rename_i k a k' b;unfold Nf at h;split at h
  ·simp at h
  ·rename_i hb
   simp only[iE] at h;subst h;refine⟨.int k (k.wrap (a*2^min b.toNat k.bits)),?_,.int _ _⟩;rw[eqGuard_shl];simp[binOp_shl,Op.shift,hb]
 ·cases hx;cases hy
  rename_i k a k' b;unfold Nf at h;split at h
  ·simp at h
  ·rename_i hb
   simp only[iE] at h;subst h;refine⟨.int k (a.fdiv (2^min b.toNat k.bits)),?_,.int _ _⟩;rw[eqGuard_shr];simp[binOp_shr,Op.shift,hb]
 ·cases hx;cases hy
  split at h
  ·rename_i hk
   subst hk;rw[eqGuard_at_int];simp only[pure_bind];exact ao0 w h
  ·simp at h
 ·cases hx with|str _ a ha=>cases hy with|str _ b hb=>
  rw[eqGuard_at_string];simp only[pure_bind];exact ao1 w ha hb h
 ·simp only[bf] at h
  obtain⟨r,hr,rfl⟩:=h;obtain⟨g1,g2⟩:=aek (op:=.eql) w t x y cx cy r ox oy hx hy hr;refine⟨.bool r,?_,.bool r⟩;have e:binOp .eql t cx cy=(Op.equal t cx cy>>=fun b=>pure (Value.bool b)):=by have hk:=ael hr;cases hx<;>first|exact hk.elim|rfl| (cases hy<;>rfl)
  rw[e];simp[g1,g2]
 ·simp only[bf] at h
  obtain⟨r,hr,rfl⟩:=h;obtain⟨g1,g2⟩:=aek (op:=.neq) w t x y cx cy r ox oy hx hy hr;refine⟨.bool !r,?_,.bool _⟩;have e:binOp .neq t cx cy=(Op.equal t cx cy>>=fun b=>pure (Value.bool !b)):=by have hk:=ael hr;cases hx<;>first|exact hk.elim|rfl| (cases hy<;>rfl)
  rw[e];simp[g1,g2]
 ·simp at h
end
def Nu (K:aU)(T:Nat->Nat)(w:World)(cs:List V)(vs:Array Value):Prop:=
 cs.length=vs.size/\∀i,i<cs.length->Rel K T w (cs.getD i aL) (vs.getD i undef)
theorem x9 {α:Type}(l:List α)(n i:Nat)(d:α):(l.drop n).getD i d=l.getD (n+i) d:=by simp[List.getD,List.getElem?_drop]
theorem wJ {α:Type}(l:List α){n i:Nat}(h:i<n)(d:α):(l.take n).getD i d=l.getD i d:=by simp[List.getD,h]
section
variable {P:Program}{K:aU}{T:Nat->Nat}(w:World)
theorem ao4 {op:UnOp}{x v:V}{cx:Value}(hx:Rel K T w x cx)(h:Ew op x=some v):∃c,(Op.unary op cx).run P w= .ok c w/\Rel K T w v c:=by
 unfold Ew at h;split at h
 ·cases hx;simp only[iE] at h;subst h;exact⟨_,rfl,.int _ _⟩
 ·cases hx;simp only[lY,iE] at h;subst h;exact⟨_,rfl,.int _ _⟩
 ·cases hx;simp only[iE] at h;subst h;exact⟨_,rfl,.bool _⟩
 ·simp at h
theorem G8 {x:V}{cx:Value}(hx:Rel K T w x cx){y YB k:Nat}(hy:y<=YB)(code:BoundsCode)(h:bnd x y=some k):(Instr.sliceBound cx YB code).run P w= .ok k w/\k<=y:=by
 simp only[bnd,iR] at h;obtain⟨i,hi,h⟩:=h;split at h
 ·rename_i hb
  simp only[iE] at h;subst h;cases x<;>simp[oG] at hi;subst hi;cases hx;rename_i kk q;refine⟨?_,ah⟩;have:0<=q/\q<=(YB:Int):=ah
  simp[Instr.sliceBound,asIntOf,this]
 ·simp at h
theorem UC {lo hi mx:Option V}{A8 A9 Ba:Option Value}(YC:Bool){len cap dP l h m:Nat}(hlc:len<=cap)(hcap:cap<=dP)(r1:∀v,lo=some v->∃c,A8=some c/\Rel K T w v c)(n1:lo=none->A8=none)(r2:∀v,hi=some v->∃c,A9=some c/\Rel K T w v c)(n2:hi=none->A9=none)(r3:∀v,mx=some v->∃c,Ba=some c/\Rel K T w v c)(n3:mx=none->Ba=none)(hb:tC len cap lo hi mx=some (l,h,m)):
 ∃mc,(Instr.sliceBounds YC len dP A8 A9 Ba).run P w= .ok (l,h,mc) w/\l<=h/\h<=m/\m<=cap/\m<=mc/\mc<=dP/\(mx.isSome->mc=m)/\(mx=none->mc=dP/\m=cap):=by
 simp only[tC,iR] at hb;obtain⟨m',hm,h',hh,l',hl,e⟩:=hb;simp only[iE,mF] at e;obtain⟨rfl,rfl,rfl⟩:=e;cases mx with
 |none=>
  simp only[iE] at hm;subst hm;obtain rfl:=n3 rfl;cases hi with
  |none=>
   simp only[iE] at hh;subst hh;obtain rfl:=n2 rfl;cases lo with
   |none=>simp only[iE] at hl;subst hl;obtain rfl:=n1 rfl;exact⟨dP,by simp[Instr.sliceBounds],ah,ah,ah,ah,ah,aD,aD⟩
   |some vl=>obtain⟨cl,rfl,rl⟩:=r1 vl rfl;obtain⟨g1,g2⟩:=G8 (P:=P) w rl (iP _) .sliceB hl;exact⟨dP,by simp[Instr.sliceBounds,g1],ah,ah,ah,ah,ah,aD,aD⟩
  |some vh=>
   obtain⟨ch,rfl,rh⟩:=r2 vh rfl;obtain⟨f1,f2⟩:=G8 (P:=P) w rh hcap (if YC then .sliceAcap else .sliceAlen) hh;cases lo with
   |none=>simp only[iE] at hl;subst hl;obtain rfl:=n1 rfl;exact⟨dP,by simp[Instr.sliceBounds,f1],ah,ah,ah,ah,ah,aD,aD⟩
   |some vl=>obtain⟨cl,rfl,rl⟩:=r1 vl rfl;obtain⟨g1,g2⟩:=G8 (P:=P) w rl (iP _) .sliceB hl;exact⟨dP,by simp[Instr.sliceBounds,f1,g1],ah,ah,ah,ah,ah,aD,aD⟩
 |some vm=>
  obtain⟨cm,rfl,rm⟩:=r3 vm rfl;obtain⟨e1,e2⟩:=G8 (P:=P) w rm hcap (if YC then .slice3Acap else .slice3Alen) hm;cases hi with
  |none=>simp at hh|some vh=>
   obtain⟨ch,rfl,rh⟩:=r2 vh rfl;obtain⟨f1,f2⟩:=G8 (P:=P) w rh (iP _) .slice3B hh;cases lo with
   |none=>simp only[iE] at hl;subst hl;obtain rfl:=n1 rfl;exact⟨m',by simp[Instr.sliceBounds,e1,f1],ah,ah,ah,ah,ah,aD,aD⟩
   |some vl=>obtain⟨cl,rfl,rl⟩:=r1 vl rfl;obtain⟨g1,g2⟩:=G8 (P:=P) w rl (iP _) .slice3C hl;exact⟨m',by simp[Instr.sliceBounds,e1,f1,g1],ah,ah,ah,ah,ah,aD,aD⟩
theorem Rel.sub {c:Cap}{l:List V}{b o n cap:Nat}(val:Nat->Nat->Value)(hn:∀i,i<l.length->(l.getD i aL).cells.length=n)(hcell:∀i j,i<l.length->j<n->w.cell? (at_ b (o+i*n+j))=some (val i j)/\K.I b (o+i*n+j))(hrel:∀i j,i<l.length->j<n->Rel K T w ((l.getD i aL).cells.getD j aL) (val i j)){lo hi:Nat}(h1:lo<=hi)(h2:hi<=l.length)(hcap:hi-lo<=cap)(hc:uS K T c n b (o+lo*n) (hi-lo) cap):Rel K T w (.ay c ((l.take hi).drop lo)) (.slice (some (at_ b (o+lo*n))) (hi-lo) cap):=by
 have hlen:((l.take hi).drop lo).length=hi-lo:=eY
 have hget:∀i,i<hi-lo->((l.take hi).drop lo).getD i aL=l.getD (lo+i) aL:=fun i hi'=>by rw[x9,wJ _ ah]
 have key:Rel K T w (.ay c ((l.take hi).drop lo)) (.slice (some (at_ b (o+lo*n))) ((l.take hi).drop lo).length cap):=by
  refine .ay c _ b (o+lo*n) n cap (fun i j=>val (lo+i) j) ah (fun i hi'=>?_) (fun i j hi' hj=>?_) (fun i j hi' hj=>?_) (by rw[hlen];exact hc)
  ·rw[hget i ah];exact hn _ ah
  ·have:=hcell (lo+i) j ah hj
   rwa[show o+(lo+i)*n+j=o+lo*n+i*n+j by rw[rM];omega] at this
  ·rw[hget i ah];exact hrel _ j ah hj
 rwa[hlen] at key
theorem YD {sz n:Nat}{l:List V}(h:qR sz l=true)(hn:∀i,i<l.length->(l.getD i aL).cells.length=n)(hl:0<l.length):n=sz:=by
 cases l with
 |nil=>simp at hl|cons v l=>have:=hn 0 aD;simp only[qR,beq_iff_eq] at h;simpa [h] using this.symm
theorem yc (ag:Bool)(n:Nat):∀(k:Nat)(cs:List V),(chunks ag n k cs).length=k
 |0,_=>rfl|k+1,cs=>by simp[chunks,yc ag n k]
theorem YE (ag:Bool)(n:Nat):∀(k:Nat)(cs:List V)(i:Nat),i<k->(chunks ag n k cs).getD i aL=if ag then V.agg ((cs.drop (i*n)).take n) else (cs.drop (i*n)).headD aL
 |k+1,cs,0,_=>by simp[chunks,List.getD]|k+1,cs,i+1,h=>by have:=YE ag n k (cs.drop n) i ah;simp only[chunks,List.getD_cons_succ,this,List.drop_drop];rw[show n+i*n=(i+1)*n by rw[rM];omega]
theorem aem (ag:Bool){n k:Nat}{cs:List V}(h1:ag=false->n=1)(hl:k*n<=cs.length)(hone:ag=false->dU cs=true){i:Nat}(hi:i<k):((chunks ag n k cs).getD i aL).cells=(cs.drop (i*n)).take n:=by
 have hmul:i*n+n<=k*n:=by have:=rO n (Nat.succ_le_of_lt hi);rw[rP] at this;exact this
 rw[YE ag n k cs i hi];cases ag with
 |true=>rfl|false=>
  have hn:=h1 rfl;subst hn;have hlt:i<cs.length:=ah
  have hd:cs.drop (i*1)=cs[i]::cs.drop (i+1):=by rw[Nat.mul_one];exact uJ hlt
  have ho:oneCell cs[i]=true:=by have:=hone rfl;simp only[dU,kG] at this;exact this _ (jQ hlt)
  rw[hd];simp only[dL,if_false,List.headD_cons,List.take_succ_cons,List.take_zero];cases hc:cs[i]<;>simp_all[oneCell,V.cells]
theorem Nv {c:Cap}{ag:Bool}{n k b o cap:Nat}{cs:List V}(val:Nat->Value)(h1:ag=false->n=1)(hl:k*n<=cs.length)(hone:ag=false->dU cs=true)(hcell:∀j,j<k*n->w.cell? (at_ b (o+j))=some (val j)/\K.I b (o+j))(hrel:∀j,j<k*n->Rel K T w (cs.getD j aL) (val j))(hcap:k<=cap)(hc:uS K T c n b o k cap):Rel K T w (.ay c (chunks ag n k cs)) (.slice (some (at_ b o)) k cap):=by
 have hmul:∀i j,i<k->j<n->i*n+j<k*n:=fun i j hi hj=>by have:=rO n (Nat.succ_le_of_lt hi);rw[rP] at this;omega
 have hcl:∀i,i<k->((chunks ag n k cs).getD i aL).cells=(cs.drop (i*n)).take n:=fun i hi=>aem ag h1 hl hone hi;have key:Rel K T w (.ay c (chunks ag n k cs)) (.slice (some (at_ b o)) (chunks ag n k cs).length cap):=by
  refine .ay c _ b o n cap (fun i j=>val (i*n+j)) (by rw[yc];exact hcap) (fun i hi=>?_) (fun i j hi hj=>?_) (fun i j hi hj=>?_) (by rw[yc];exact hc)
  ·rw[yc] at hi
   rw[hcl i hi];have:=rO n (Nat.succ_le_of_lt hi);rw[rP] at this;simp;omega
  ·rw[yc] at hi
   have:=hcell (i*n+j) (hmul i j hi hj)
   rwa[<-sZ] at this
  ·rw[yc] at hi
   rw[hcl i hi,wJ _ hj,x9];exact hrel _ (hmul i j hi hj)
 rwa[yc] at key
theorem ao5 {E:Env}{B0:Nat}{σ:ak}(hT:T=σ.top)(hs:bE E B0 σ K w){t:TypeId}{x v:V}{cx:Value}{lo hi mx:Option V}{A8 A9 Ba:Option Value}(hx:Rel K T w x cx)(r1:∀v,lo=some v->∃c,A8=some c/\Rel K T w v c)(n1:lo=none->A8=none)(r2:∀v,hi=some v->∃c,A9=some c/\Rel K T w v c)(n2:hi=none->A9=none)(r3:∀v,mx=some v->∃c,Ba=some c/\Rel K T w v c)(n3:mx=none->Ba=none)(h:wB P σ t x lo hi mx=some v):∃c,(Instr.sliceAt t cx A8 A9 Ba).run P w= .ok c w/\Rel K T w v c:=by
 unfold wB at h;split at h
 ·rename_i e c s hu
  simp only[iR] at h;obtain⟨sz,hsz,⟨l,hh,m⟩,hbv,h⟩:=h;split at h
  ·rename_i ao6
   simp only[iE] at h;cases hx with
   |eP _ a ha hc=>
    obtain⟨mc,g1,g2,g3,g4,g5,g6,g7,g8⟩:=UC (P:=P) w true (iP _) (iP _) r1 n1 r2 n2 r3 n3 hbv;simp only[List.length_nil] at g1 g4 g6;obtain rfl:m=0:=ah;obtain rfl:hh=0:=ah;obtain rfl:l=0:=ah;obtain rfl:mc=0:=ah;refine⟨.slice a 0 0,by cases a<;>simp[Instr.sliceAt,Instr.slice,run_underlying hu,nZ w hsz,g1],?_⟩;subst h;split
    ·exact .eP c a ha hc
    ·rename_i hn
     cases mx with
     |none=>simp at hn|some vm=>simp;exact .eP _ a (fun h=>bL) trivial
   |ay _ _ b o n cap val hle hn hcell hrel hc=>
    obtain⟨mc,g1,g2,g3,g4,g5,g6,g7,g8⟩:=UC (P:=P) w true (iP _) hle r1 n1 r2 n2 r3 n3 hbv;have hn':0<l->n=sz:=fun hl=>YD ao6 hn ah;have hrun:(Instr.sliceAt t (.slice (some (at_ b o)) s.length cap) A8 A9 Ba).run P w= .ok (.slice (some (at_ b (if mc=l then o else o+l*sz))) (hh-l) (mc-l)) w:=by
     simp only[Instr.sliceAt,Instr.slice,Sem.run_bind,run_underlying hu,nZ w hsz,g1,Result.andThen_ok,Sem.run_pure];split
     ·simp
     ·simp[addr_add]
    refine⟨_,hrun,?_⟩;subst h;split
    ·rename_i hw
     obtain⟨rfl,rfl,hm⟩:=hw;have hm':mx=none:=(by cases mx<;>simp_all);obtain⟨rfl,_⟩:=g8 hm';have:(if mc=0 then o else o+0*sz)=o:=aD;rw[this];exact .ay c s b o n mc val hle hn hcell hrel hc
    ·have hgo:∀c',(∀n' s',c'≠ .own n' s')->uS K T c' n b (o+l*n) (hh-l) (mc-l)->Rel K T w (.ay c' ((s.take hh).drop l)) (.slice (some (at_ b (if mc=l then o else o+l*sz))) (hh-l) (mc-l)):=by
      intro c' hown hc';by_cases hml:mc=l
      ·have:hh=l:=ah
       subst this;have hnil:(s.take hh).drop hh=[]:=aD;rw[hnil];have key:Rel K T w (.ay c' []) (.slice (some (at_ b (if mc=hh then o else o+hh*sz))) ([]:List V).length (mc-hh)):=by
        refine .ay c' [] b _ n _ (fun _ _=>undef) aD (fun i hi=>absurd hi (gL i)) (fun i j hi=>absurd hi (gL i)) (fun i j hi=>absurd hi (gL i)) ?_;cases c' with
        |sh=>trivial|full=>simpa [uS] using hc'|nil=>exact hc'.elim|own n' s'=>exact absurd rfl (hown n' s')
       simpa using key
      ·have e1:(if mc=l then o else o+l*sz)=o+l*n:=by
        rw[if_neg hml];rcases Nat.eq_zero_or_pos l with h0|h0
        ·simp[h0]
        ·rw[hn' h0]
       rw[e1];exact Rel.sub w val hn hcell hrel g2 ah ah hc'
     cases mx with
     |some vm=>
      have:=g7 rfl;dsimp only;split
      ·exact hgo _ (fun _ _=>aD) (by simp only[uS];omega)
      ·exact hgo _ (fun _ _=>aD) trivial
     |none=>
      obtain⟨hmc,_⟩:=g8 rfl;dsimp only;cases c with
      |full=>
       dsimp only;split
       ·exact hgo _ (fun _ _=>aD) (by simp only[uS] at hc⊢;omega)
       ·exact hgo _ (fun _ _=>aD) trivial
      |_=>exact hgo _ (fun _ _=>aD) trivial
  ·simp at h
 ·rename_i e loc st off len cap bZ ag hu
  simp only[iR] at h;obtain⟨sz,hsz,⟨l,hh,m⟩,hbv,h⟩:=h;split at h
  ·rename_i hse
   subst hse;simp only[iE] at h;cases hx with
   |kP _ _ _ _ hA=>obtain⟨mc,g1,g2,g3,g4,g5,g6,g7,g8⟩:=UC (P:=P) w true (iP _) (iP _) r1 n1 r2 n2 r3 n3 hbv;obtain rfl:m=0:=ah;obtain rfl:hh=0:=ah;obtain rfl:l=0:=ah;obtain rfl:mc=0:=ah;refine⟨.slice none 0 0,by simp[Instr.sliceAt,Instr.slice,run_underlying hu,nZ w hsz,g1],?_⟩;subst h;simp;exact .kP loc st sz ag hA
   |aM _ _ _ _ _ _ _ dP hA hcc hle hks=>
    obtain⟨mc,g1,g2,g3,g4,g5,g6,g7,g8⟩:=UC (P:=P) w true hle hcc r1 n1 r2 n2 r3 n3 hbv;have hrun:(Instr.sliceAt t (.slice (some (at_ (K.blk st) off)) len dP) A8 A9 Ba).run P w= .ok (.slice (some (at_ (K.blk st) (if mc=l then off else off+l*sz))) (hh-l) (mc-l)) w:=by
     simp only[Instr.sliceAt,Instr.slice,Sem.run_bind,run_underlying hu,nZ w hsz,g1,Result.andThen_ok,Sem.run_pure];split
     ·simp
     ·simp[addr_add]
    refine⟨_,hrun,?_⟩;subst h;split
    ·rename_i hw
     obtain⟨rfl,h0⟩:=hw;simp only[Nat.sub_self];refine .ay _ [] (K.blk st) _ 0 _ (fun _ _=>undef) aD (fun i hi=>absurd hi (gL i)) (fun i j hi=>absurd hi (gL i)) (fun i j hi=>absurd hi (gL i)) ?_;cases mx with
     |some vm=>
      have:=g7 rfl;dsimp only;split
      ·simp only[uS,List.length_nil];omega
      ·trivial
     |none=>trivial
    ·rename_i hw
     have e1:(if mc=l then off else off+l*sz)=off+l*sz:=by
      split
      ·have:l=0:=ah
       simp[this]
      ·rfl
     rw[e1];refine .aM loc st _ _ _ sz ag _ hA ah ah ?_;have:l*sz+(mc-l)*sz<=dP*sz:=(by rw[<-rM];exact rO _ ah);omega
  ·simp at h
 ·simp at h
end
section
variable {E:Env}{B0:Nat}{σ:ak}{K:aU}{w:World}{new:Nat->Prop}
theorem grownCap_ge (w:World)(n old:Nat)(e:TypeId):n<=grownCap w n old e:=by show n<=n+_% _;exact gF _ _
def Done (E:Env)(B0:Nat)(new:Nat->Prop)(σ:ak)(K:aU)(w:World)(s:Sem Value)(v:V)(σ':ak):Prop:=
 ∃c w' K',s.run E.P w= .ok c w'/\Rel K' σ'.top w' v c/\Step E B0 new σ K w σ' K' w'
theorem Done.jV (h:bE E B0 σ K w){s:Sem Value}{v:V}(hs:∃c,s.run E.P w= .ok c w/\Rel K σ.top w v c):Done E B0 new σ K w s v σ:=by obtain⟨c,h1,h2⟩:=hs;exact⟨c,w,K,h1,h2,.refl h⟩
theorem YF {v:V}{b:UInt8}(h:Ey v=some b):∃n,v= .int .u8 n/\b=UInt8.ofNat n.toNat:=by
 unfold Ey at h;split at h
 ·simp only[iE] at h;exact⟨_,rfl,h.symm⟩
 ·simp at h
theorem aen {src dst e:TypeId}(hs:E.P.underlying src=some (.slice e))(he:E.P.underlying e=some (.int .u8))(hd:E.P.underlying dst=some .string){b o cap:Nat}{l:List V}{bs:List UInt8}{T:Nat->Nat}(val:Nat->Value)(hcell:∀i,i<l.length->w.cell? (at_ b (o+i))=some (val i))(hrel:∀i,i<l.length->Rel K T w (l.getD i aL) (val i))(hm:l.mapM Ey=some bs):
 ∃c,(convert src dst (.slice (some (at_ b o)) l.length cap)).run E.P w= .ok c w/\Rel K T w (.str bs) c:=by
 obtain⟨h1,h2⟩:=mapM_some hm;have hv:∀i (hi:i<l.length),∃n:Int,val i= .int .u8 n/\bs.getD i 0=UInt8.ofNat n.toNat:=by intro i hi;obtain⟨h3,h4⟩:=h2 i hi;obtain⟨n,e1,e2⟩:=YF h4;have:=hrel i hi;rw[jU hi,e1] at this;refine⟨n,?_,by rw[jU h3];exact e2⟩;generalize val i=c at this;cases this;rfl
 have hr:=run_convert_bytes_arg (P:=E.P) w src e hs he b o l.length cap ((List.range l.length).map fun i=>intOf (val i)) aD (fun i hi=>by obtain⟨n,e1,_⟩:=hv i hi;rw[hcell i hi,e1];simp[List.getD,hi,e1,intOf]) dst hd;refine⟨_,hr,.str _ _ ?_⟩;rw[strOfNums_data];apply List.ext_getElem
 ·simp[h1]
 ·intro i hi1 hi2
  have hi:i<l.length:=by simpa using hi1
  obtain⟨n,e1,e2⟩:=hv i hi;simp only[CB,Na,e1,intOf];rw[<-e2,jU hi2]
theorem ao7 (h:bE E B0 σ K w)(hB:B0<=w.heap.size){src dst:TypeId}{x v:V}{cx:Value}(hx:Rel K σ.top w x cx)(hv:CP E.P σ src dst x=some v):
 Done E B0 new σ K w (convert src dst cx) v σ:=by
 unfold CP at hv;split at hv
 ·rename_i d k kk n hs hd
  cases hx;simp only[iE] at hv;subst hv;exact Done.jV h ⟨_,by simp[convert,run_underlying hs,run_underlying hd,Conv.intToInt],.int _ _⟩
 ·rename_i d s hs hd
  cases hx with|str _ b hb=>
  simp only[iE] at hv;subst hv;exact Done.jV h ⟨.string b,by cases d<;>simp[convert,run_underlying hs,run_underlying hd],.str _ _ hb⟩
 ·rename_i e c l hs hd
  split at hv
  ·rename_i he
   simp only[bf] at hv;obtain⟨bs,hbs,rfl⟩:=hv;cases hx with
   |eP _ a ha hc=>
    simp at hbs;subst hbs;cases a with
    |none=>exact Done.jV h ⟨.string ByteArray.empty,run_convert_bytes_nil w src e hs he 0 0 dst hd,.str _ _ rfl⟩|some a=>have hl:(loadCells a 0).run E.P w= .ok #[] w:=(by simpa using run_loadCells_list (P:=E.P) w a [] (fun j v hj=>GI));refine Done.jV h ⟨.string ByteArray.empty,?_,.str _ _ rfl⟩;rw[run_convert_bytes_string w src dst e _ 0 0 hs he hd];simp[Conv.bytesToString,hl]
   |ay _ _ b o n cap val hle hn hcell hrel hc=>
    obtain⟨h1,h2⟩:=mapM_some hbs;have hn1:∀i,i<l.length->n=1:=fun i hi=>by obtain⟨_,h4⟩:=h2 i hi;obtain⟨q,e1,_⟩:=YF h4;have:=hn i hi;rw[jU hi,e1] at this;exact this.symm
    refine Done.jV h (aen hs he hd (fun i=>val i 0) (fun i hi=>?_) (fun i hi=>?_) hbs)
    ·have:=(hcell i 0 hi (by rw[hn1 i hi];omega)).1
     rw[hn1 i hi] at this;simpa using this
    ·have:=hrel i 0 hi (by rw[hn1 i hi];omega)
     obtain⟨_,h4⟩:=h2 i hi;obtain⟨q,e1,_⟩:=YF h4;rw[jU hi,e1] at this⊢;exact this
  ·simp at hv
 ·rename_i e loc s off len cap bZ ag hs hd
  split at hv
  ·rename_i he
   simp only[iR] at hv;obtain⟨cs,hcs,hv⟩:=hv;split at hv
   ·rename_i hle
    simp only[bf] at hv;obtain⟨bs,hbs,rfl⟩:=hv;obtain⟨ho,hA,hks⟩:=h.xY hcs;obtain⟨_,gU,_⟩:=h.obj _ _ _ ho;cases hx with
    |kP=>simp at hbs;subst hbs;exact Done.jV h ⟨.string ByteArray.empty,run_convert_bytes_nil w src e hs he 0 0 dst hd,.str _ _ rfl⟩|aM _ _ _ _ _ _ _ dP hA hcc hlc hsz=>
     have hlen:((cs.drop off).take len).length=len:=eY;have key:=aen (w:=w) (K:=K) (T:=σ.top) hs he hd (cap:=dP) (b:=K.blk s) (o:=off) (l:=(cs.drop off).take len) (fun i=>(w.cell? (at_ (K.blk s) (off+i))).getD undef) ?_ ?_ hbs
     ·rw[hlen] at key
      exact Done.jV h key
     ·intro i hi
      rw[hlen] at hi;obtain⟨_,vals,t,g1,g2,g3,g4⟩:=gU.2 (by rintro rfl;simp at hle;omega);have:w.cell? (at_ (K.blk s) (off+i))=some (vals.getD (off+i) undef):=(by simp[World.cell?,g1,show off+i<vals.size by omega]);simp[this]
     ·intro i hi
      rw[hlen] at hi;obtain⟨_,vals,t,g1,g2,g3,g4⟩:=gU.2 (by rintro rfl;simp at hle;omega);have:w.cell? (at_ (K.blk s) (off+i))=some (vals.getD (off+i) undef):=(by simp[World.cell?,g1,show off+i<vals.size by omega]);rw[this,wJ _ hi,x9];exact g4 _ ah
   ·simp at hv
  ·simp at hv
 ·simp at hv
end
section
variable {E:Env}{B0:Nat}{σ:ak}{K:aU}{w:World}{new:Nat->Prop}
theorem G9 {T:Nat->Nat}{x:V}{cx:Value}{n k:Nat}(hx:Rel K T w x cx)(h:idx x n=some k):∃kk i,cx= .int kk i/\0<=i/\i<n/\i.toNat=k/\k<n:=by
 simp only[idx,iR] at h;obtain⟨i,hi,h⟩:=h;split at h
 ·rename_i hb
  simp only[iE] at h;subst h;cases x<;>simp[oG] at hi;subst hi;cases hx;exact⟨_,_,rfl,hb.1,hb.2,rfl,ah⟩
 ·simp at h
theorem ao8 {t:TypeId}{x i v:V}{cx ci:Value}{T:Nat->Nat}(hx:Rel K T w x cx)(hi:Rel K T w i ci)(h:qU E.P t x i=some v):
 ∃c,(Instr.indexAt t cx ci).run E.P w= .ok c w/\Rel K T w v c:=by
 unfold qU at h;split at h
 ·rename_i e c l hu
  simp only[iR] at h;obtain⟨sz,hsz,k,hk,el,hel,h⟩:=h;split at h
  ·rename_i hcl
   simp only[iE] at h;subst h;obtain⟨kk,q,rfl,h0,hlt,hq,hkl⟩:=G9 hi hk;cases hx with
   |eP=>simp at hkl|ay _ _ b o n cap val hle hn hcell hrel hc=>
    have aeo:l.getD k aL=el:=(by simp[List.getD,hel]);have hn':n=sz:=(by rw[<-hn k hkl,aeo,hcl]);subst hn';have hrun:(Instr.indexAt t (.slice (some (at_ b o)) l.length cap) (.int kk q)).run E.P w= .ok (.pointer (some ((at_ b o).add (q.toNat*n)))) w:=(by simp[Instr.indexAt,run_underlying hu,asIntOf,h0,hlt,nZ w hsz]);refine⟨_,hrun,?_⟩;rw[addr_add,hq];have:=Rel.aY (K:=K) (T:=T) (w:=w) el.cells 0 b (o+k*n) (fun j=>val k j) (fun j hj=>hcell k j hkl ah) (fun j hj=>by
     have:=hrel k j hkl ah
     rwa[aeo] at this)
    simpa using this
  ·simp at h
 ·rename_i e loc st off len cap bZ ag hu
  simp only[iR] at h;obtain⟨sz,hsz,k,hk,h⟩:=h;split at h
  ·rename_i he
   subst he;simp only[iE] at h;subst h;obtain⟨kk,q,rfl,h0,hlt,hq,hkl⟩:=G9 hi hk;cases hx with
   |kP=>omega|aM _ _ _ _ _ _ _ dP hA hcc hle hks=>have hrun:(Instr.indexAt t (.slice (some (at_ (K.blk st) off)) len dP) (.int kk q)).run E.P w= .ok (.pointer (some ((at_ (K.blk st) off).add (q.toNat*sz)))) w:=(by simp[Instr.indexAt,run_underlying hu,asIntOf,h0,hlt,nZ w hsz]);refine⟨_,hrun,?_⟩;rw[addr_add,hq];exact .ref _ _ _ hA
  ·simp at h
 ·rename_i n e loc st off hu
  simp only[iR,bf] at h;obtain⟨sz,hsz,k,hk,rfl⟩:=h;obtain⟨kk,q,rfl,h0,hlt,hq,hkl⟩:=G9 hi hk;cases hx with|ref _ _ _ hA=>
  have hrun:(Instr.indexAt t (.pointer (some (at_ (K.blk st) off))) (.int kk q)).run E.P w= .ok (.pointer (some ((at_ (K.blk st) off).add (q.toNat*sz)))) w:=by simp[Instr.indexAt,run_underlying hu,asIntOf,Instr.sureAddr,h0,hlt,nZ w hsz]
  refine⟨_,hrun,?_⟩;rw[addr_add,hq];exact .ref _ _ _ hA
 ·rename_i n e cs off hu
  simp only[iR,bf] at h;obtain⟨sz,hsz,k,hk,rfl⟩:=h;obtain⟨kk,q,rfl,h0,hlt,hq,hkl⟩:=G9 hi hk;cases hx with|aY _ _ b o val hcell hrel=>
  have hrun:(Instr.indexAt t (.pointer (some (at_ b (o+off)))) (.int kk q)).run E.P w= .ok (.pointer (some ((at_ b (o+off)).add (q.toNat*sz)))) w:=by simp[Instr.indexAt,run_underlying hu,asIntOf,Instr.sureAddr,h0,hlt,nZ w hsz]
  refine⟨_,hrun,?_⟩;rw[addr_add,hq,sZ];exact .aY _ _ b o val hcell hrel
 ·simp at h
theorem ao9 {t:TypeId}{x i v:V}{cx ci:Value}{T:Nat->Nat}(hx:Rel K T w x cx)(hi:Rel K T w i ci)(h:GU E.P t x i=some v):
 ∃c,(Instr.index t cx ci).run E.P w= .ok c w/\Rel K T w v c:=by
 unfold GU at h;split at h
 ·rename_i n e cs hu
  simp only[iR] at h;obtain⟨k,hk,sz,hsz,h⟩:=h;obtain⟨kk,q,rfl,h0,hlt,hq,hkl⟩:=G9 hi hk;cases hx with|agg _ vs hl hr=>
  obtain⟨c,hc,hrel⟩:=G7 (P:=E.P) hl hr h;exact⟨c,by simp[Instr.index,run_underlying hu,asIntOf,h0,hlt,nZ w hsz,hq,hc],hrel⟩
 ·rename_i s hu
  simp only[iR,bf] at h;obtain⟨k,hk,b,hb,rfl⟩:=h;obtain⟨kk,q,rfl,h0,hlt,hq,hkl⟩:=G9 hi hk;cases hx with|str _ ba hba=>
  have hsz:k<ba.size:=by rw[<-hba] at hkl;simpa using hkl
  have hbk:ba[k]=b:=by subst hba;have:=(qm.1 hb).2;rw[<-this];rfl
  refine⟨.int .u8 b.toNat,?_,.int _ _⟩;have:ba[q.toNat]? =some b:=by rw[hq];simp[hsz,hbk]
  simp[Instr.index,run_underlying hu,asIntOf,h0,this]
 ·simp at h
theorem aep {t:TypeId}{f o:Nat}{u:TypeId}{x v:V}{cx:Value}{T:Nat->Nat}(hx:Rel K T w x cx)(hf:xR E.P t f=some (o,u))(h:(match x with|.ref loc s off=>some (V.ref loc s (off+o))|.aY cs off=>some (.aY cs (off+o))|_=>none)=some v):
 ∃c,(Instr.fieldAt t cx f).run E.P w= .ok c w/\Rel K T w v c:=by
 obtain⟨fs,g,n,hu,hg,ho,hu',hn⟩:=aej hf;subst hu';have hrun:∀b q,(Instr.fieldAt t (.pointer (some (at_ b q))) f).run E.P w= .ok (.pointer (some (at_ b (q+o)))) w:=by intro b q;simp[Instr.fieldAt,run_underlying hu,hg,Instr.sureAddr,fieldPlace,nZ w hn,addr_add,ho]
 cases x with
 |ref loc s off=>
  cases hx with|ref _ _ _ hA=>
  simp only[iE] at h;subst h;exact⟨_,hrun _ _,.ref _ _ _ hA⟩
 |aY cs off=>
  cases hx with|aY _ _ b o' val hcell hrel=>
  simp only[iE] at h;subst h;refine⟨_,hrun _ _,?_⟩;rw[sZ];exact .aY _ _ b o' val hcell hrel
 |_=>simp at h
theorem YG (h:bE E B0 σ K w){t:TypeId}{x v:V}{cx:Value}(hx:Rel K σ.top w x cx)(hv:(match x with|.ref loc s off=>(σ.bQ loc s).bind fun cs=>kN E.P t cs off|.aY cs off=>kN E.P t cs off|_=>none)=some v):
 ∃c,(Instr.loadAt t cx).run E.P w= .ok c w/\Rel K σ.top w v c:=by
 cases x with
 |ref loc s off=>
  simp only[iR] at hv;obtain⟨cs,hcs,hv⟩:=hv;cases hx with|ref _ _ _ hA=>
  obtain⟨ho,_,_⟩:=h.xY hcs;obtain⟨_,gU,_⟩:=h.obj _ _ _ ho;by_cases hne:cs=[]
  ·subst hne
   obtain⟨c,h1,h2⟩:=Yu (P:=E.P) (K:=K) (T:=σ.top) (w:=w) (cs:=[]) (b:=K.blk s) (o:=0) (fun _=>undef) (fun i hi=>absurd hi (gL i)) (fun i hi=>absurd hi (gL i)) hv;exact⟨c,by simpa [Instr.loadAt,Instr.sureAddr] using h1,h2⟩
  ·obtain⟨_,vals,t',g1,g2,g3,g4⟩:=gU.2 hne
   obtain⟨c,h1,h2⟩:=Yu (P:=E.P) (K:=K) (T:=σ.top) (w:=w) (b:=K.blk s) (o:=0) (fun i=>vals.getD i undef) (fun i hi=>by have:i<vals.size:=ah;simp[World.cell?,g1,this]) g4 hv;exact⟨c,by simpa [Instr.loadAt,Instr.sureAddr] using h1,h2⟩
 |aY cs off=>
  cases hx with|aY _ _ b o val hcell hrel=>
  obtain⟨c,h1,h2⟩:=Yu (P:=E.P) (K:=K) (T:=σ.top) (w:=w) (b:=b) (o:=o) val (fun i hi=>(hcell i hi).1) hrel hv;exact⟨c,by simpa [Instr.loadAt,Instr.sureAddr] using h1,h2⟩
 |_=>simp at hv
theorem qV {α:Type}{l r:List α}{i:Nat}(h:i<l.length)(d:α):(l++r).getD i d=l.getD i d:=by simp[List.getD,List.getElem?_append,h]
theorem qW {α:Type}{l r:List α}{i:Nat}(h:l.length<=i)(d:α):(l++r).getD i d=r.getD (i-l.length) d:=by simp[List.getD,List.getElem?_append,Nat.not_lt.2 h]
theorem YH {cs vs:List V}{off i:Nat}(h:off+vs.length<=cs.length):(iT cs off vs).getD i aL=if off<=i/\i<off+vs.length then vs.getD (i-off) aL else cs.getD i aL:=by
 unfold iT;have hl:(cs.take off).length=off:=eY
 rw[jR];by_cases h1:i<off
 ·rw[qV ah,wJ _ h1,if_neg ah]
 ·rw[qW ah,hl]
  by_cases h2:i-off<vs.length
  ·rw[qV h2,if_pos ah]
  ·rw[qW ah,x9,if_neg ah]
   congr 1;omega
theorem C9 {cs vs:List V}{off:Nat}(h:off+vs.length<=cs.length):(iT cs off vs).length=cs.length:=by unfold iT;simp;omega
theorem apa (h:bE E B0 σ K w)(hB:B0<=w.heap.size){t:TypeId}{loc:Loc}{s off:Nat}{cs:List V}{x:V}{ca cx:Value}(ha:Rel K σ.top w (.ref loc s off) ca)(hx:Rel K σ.top w x cx)(hcs:σ.bQ loc s=some cs)(hsz:some x.cells.length=fq E.P t)(hle:off+x.cells.length<=cs.length)(hone:dU x.cells=true):
 ∃w',(Instr.storeAt t ca cx).run E.P w= .ok () w'/\Step E B0 new σ K w (σ.setObj loc s (.cells (iT cs off x.cells))) K w':=by
 cases ha with|ref _ _ _ hA=>
 have hraw:fM x=true:=by cases x<;>simp_all[fM,dU,V.cells,oneCell]
 obtain⟨hcl,hcr⟩:=CZ hx hraw;obtain⟨ho,_,_⟩:=h.xY hcs;obtain⟨_,gU,_⟩:=h.obj _ _ _ ho;have hone':∀v∈cx.cells.toList,v.oneCell'=true:=by
  intro v hv;obtain⟨i,hi,rfl⟩:=GJ.1 hv;have hi':i<cx.cells.size:=jm
  have:=hcr i ah;rw[G5 hi'] at this;have h1:oneCell (x.cells.getD i aL)=true:=by simp only[dU,kG] at hone;rw[jU ah];exact hone _ (jQ _)
  simpa using (aee this h1).1
 have apb:(Instr.storeAt t (.pointer (some (at_ (K.blk s) off))) cx).run E.P w=(storeCells (at_ (K.blk s) off) cx.cells.toList).run E.P w:=by have:cx.cells.size=x.cells.length:=hcl.symm;simp[Instr.storeAt,Instr.sureAddr,storeVar,nZ w hsz.symm,this]
 rw[apb];by_cases hne:cs=[]
 ·subst hne
  have h0:x.cells=[]:=by cases hx:x.cells with|nil=>rfl|cons a b=>simp[hx] at hle
  have h0':cx.cells.toList=[]:=by
   have:cx.cells.size=0:=by rw[<-hcl,h0];rfl
   simpa using this
  rw[h0',h0];have hoff:off=0:=by simpa [h0] using hle
  have hsp:iT [] off []=([]:List V):=by simp[iT]
  rw[hsp];have e:σ.setObj loc s (.cells [])=σ:=by
   unfold ak.setObj;have:upd σ.obj loc (some (s,iN.cells []))=σ.obj:=by
    funext l;unfold upd;split
    ·rename_i hl;rw[hl,ho]
    ·rfl
   rw[this]
  rw[e];exact⟨w,rfl,.refl h⟩
 ·obtain⟨hb0,vals,t',g1,g2,g3,g4⟩:=gU.2 hne
  have hrun:=run_storeCells_at E.P (K.blk s) off t' cx.cells.toList 0 vals w g1 (by simp[<-hcl];omega) hone';refine⟨_,hrun,?_⟩;have hlt:=lt_of_heap g1;have hheap:=setRow_heap w (K.blk s) vals (vals.toList.take (off+0)++cx.cells.toList++vals.toList.drop (off+0+cx.cells.toList.length)).toArray t' (0,0) g1;have hsize:(vals.toList.take (off+0)++cx.cells.toList++vals.toList.drop (off+0+cx.cells.toList.length)).toArray.size=vals.size:=by simp[<-hcl];omega
  have apc:Only (K.blk s) w (w.setRow (K.blk s) (vals.toList.take (off+0)++cx.cells.toList++vals.toList.drop (off+0+cx.cells.toList.length)).toArray):=by refine⟨rfl,rfl,rfl,by simp[World.setRow],fun k hk _=>?_,iP _⟩;simp[World.setRow,Array.getElem?_modify,Ne.symm hk]
  refine Step.setCells h hB ho hne g1 apc hheap hsize (by intro h0;have:=C9 hle;rw[h0] at this;exact hne (mh this.symm)) (by rw[C9 hle,hsize];exact g3) (fun e i hi=>?_);rw[C9 hle] at hi;rw[YH hle];have ED:i<vals.size:=ah
  have hval:(vals.toList.take (off+0)++cx.cells.toList++vals.toList.drop (off+0+cx.cells.toList.length)).toArray.getD i undef=if off<=i/\i<off+cx.cells.size then cx.cells.getD (i-off) undef else vals.getD i undef:=by
   have hl:(vals.toList.take (off+0)).length=off:=eY
   have harr:∀(l:List Value),l.toArray.getD i undef=l.getD i undef:=fun l=>by simp[Array.getD,List.getD];split<;>simp_all
   rw[harr,jR];by_cases h1:i<off
   ·rw[qV ah,wJ _ ah,if_neg ah]
    simp[List.getD,Array.getD,ED]
   ·rw[qW ah,hl]
    by_cases h2:i-off<cx.cells.size
    ·rw[qV pq,if_pos ah]
     simp[List.getD,Array.getD,h2]
    ·rw[qW eY,x9,if_neg ah]
     have:off+0+cx.cells.toList.length+(i-off-cx.cells.toList.length)=i:=eY;rw[this];simp[List.getD,Array.getD,ED]
  rw[hval,<-hcl];by_cases hh:off<=i/\i<off+x.cells.length
  ·rw[if_pos hh,if_pos hh]
   exact(hcr _ ah).ext e
  ·rw[if_neg hh,if_neg hh]
   exact(g4 i hi).ext e
end
section
variable {E:Env}{B0:Nat}{σ:ak}{K:aU}{w:World}{new:Nat->Prop}{T:Nat->Nat}
theorem run_checkKey {kt:TypeId}{k:V}{ck:Value}(hk:Rel K T w k ck)(h:nJ E.P kt k=true)(b:Bool)(n:Nat):(Instr.checkKey b (n+1) kt ck).run E.P w= .ok () w:=by
 unfold nJ at h;split at h
 ·rename_i hu;cases hk;simp[Instr.checkKey,run_underlying hu]
 ·rename_i hu;cases hk;simp[Instr.checkKey,run_underlying hu]
 ·rename_i hu;cases hk;simp[Instr.checkKey,run_underlying hu]
 ·simp at h
theorem YI {kt:TypeId}{k a:V}{ck ca:Value}{d:TypeDesc}{r:Bool}(hd:E.P.underlying kt=some d)(hk:Rel K T w k ck)(ha:Rel K T w a ca)(hf:nJ E.P kt k=true)(h:pJ k a=some r):
 Instr.sameNow d ck ca=some r:=by
 unfold nJ at hf;split at hf
 ·rename_i hu
  rw[hd] at hu;simp only[iE] at hu;subst hu;unfold pJ at h;split at h<;>simp_all;cases hk;cases ha;obtain⟨rfl,rfl⟩:=h;simp[Instr.sameNow]
 ·rename_i hu
  rw[hd] at hu;simp only[iE] at hu;subst hu;unfold pJ at h;split at h<;>simp_all;cases hk with|str _ b1 h1=>cases ha with|str _ b2 h2=>
  subst h;rw[<-h1,<-h2,Yv];rfl
 ·rename_i hu
  rw[hd] at hu;simp only[iE] at hu;subst hu;unfold pJ at h;split at h<;>simp_all;cases hk;cases ha;subst h;rfl
 ·simp at hf
theorem YJ {kt:TypeId}{k:V}{ck:Value}{d:TypeDesc}(hd:E.P.underlying kt=some d)(hk:Rel K T w k ck)(hf:nJ E.P kt k=true):
 ∀(es:List MapEntry)(ks vs:List V)(i:Nat)(r:Option V),ks.length=es.length->vs.length=es.length->(∀j,j<es.length->Rel K T w (ks.getD j aL) (es.getD j default).key)->
  rT k ks vs=some r->(r=none/\Instr.findNow d ck es i=some none)\/∃j,j<es.length/\r=some (vs.getD j aL)/\Instr.findNow d ck es i=some (some (i+j,(es.getD j default).val))/\
   (∃b,pJ k (ks.getD j aL)=some b/\b=true)
 | [],[],[],i,r,_,_,_,h=>by simp only[rT,iE] at h;subst h;exact .inl ⟨rfl,rfl⟩|e::es,a::ks,v::vs,i,r,h1,h2,hr,h=>by
  simp only[rT,iR] at h;obtain⟨b,hb,h⟩:=h;have hs:=YI hd hk (hr 0 aD) hf hb;simp only[List.getD_cons_zero] at hs;cases b with
  |true=>simp only[if_true,iE] at h;subst h;exact .inr ⟨0,aD,rfl,by simp[Instr.findNow,hs],true,hb,rfl⟩|false=>
   simp only[dL,if_false] at h;rcases YJ hd hk hf es ks vs (i+1) r Cr pq (fun j hj=>by simpa using hr (j+1) ql) h with ⟨e1,e2⟩| ⟨j,hj,e1,e2,e3⟩
   ·exact .inl ⟨e1,by simp[Instr.findNow,hs,e2]⟩
   ·refine .inr ⟨j+1,ql,by simpa using e1,?_,by simpa using e3⟩
    simp only[Instr.findNow,hs,e2,List.getD_cons_succ];rw[show i+1+j=i+(j+1) by omega]
 | [],_::_,_,_,_,h1,_,_,_=>by simp at h1| [],[],_::_,_,_,_,h2,_,_=>by simp at h2|_::_,[],_,_,_,h1,_,_,_=>by simp at h1|_::_,_::_,[],_,_,_,h2,_,_=>by simp at h2
theorem aer {kt:TypeId}{k:V}(h:nJ E.P kt k=true):∃d,E.P.underlying kt=some d:=by unfold nJ at h;split at h<;>first|exact⟨_,by assumption⟩|simp at h
theorem apd (h:bE E B0 σ K w){t:TypeId}{m k v:V}{cm ck:Value}{ok:Bool}(hm:Rel K σ.top w m cm)(hk:Rel K σ.top w k ck)(hv:zB E.P σ t m k ok=some v):
 ∃c,(Instr.lookup t cm ck ok).run E.P w= .ok c w/\Rel K σ.top w v c:=by
 simp only[zB,iR] at hv;obtain⟨⟨kt,et⟩,hmt,hv⟩:=hv;have hu:=aei hmt;split at hv
 ·rename_i hf
  simp only[iR,bf] at hv;obtain⟨⟨ks,vs⟩,hkv,r,hlk,⟨v',b⟩,hvb,hv⟩:=hv;obtain⟨d,hd⟩:=aer hf;have hes:∃es:Array MapEntry,(cm= .map none/\es= #[]\/∃b bX,cm= .map (some b)/\w.heap[b]? =some (.map es bX))/\ks.length=es.size/\vs.length=es.size/\
   (∀i,i<es.size->Rel K σ.top w (ks.getD i aL) (es.getD i default).key)/\(∀i,i<es.size->Rel K σ.top w (vs.getD i aL) (es.getD i default).val):=by
   split at hkv
   ·cases hm
    simp only[iE,mF] at hkv;obtain⟨rfl,rfl⟩:=hkv;exact⟨#[],.inl ⟨rfl,rfl⟩,rfl,rfl,fun i hi=>absurd hi (gL i),fun i hi=>absurd hi (gL i)⟩
   ·rename_i loc s
    unfold ak.gB at hkv;split at hkv
    ·rename_i s' ks' vs' ho
     split at hkv
     ·rename_i hs;subst hs
      simp only[iE,mF] at hkv;obtain⟨rfl,rfl⟩:=hkv;obtain⟨_,gU,_⟩:=h.obj _ _ _ ho;obtain⟨_,es,bX,g1,_,g2,g3,g4,g5⟩:=gU;cases hm with|cu _ _ hA=>
      exact⟨es,.inr ⟨_,_,rfl,g1⟩,g2,g3,g4,g5⟩
     ·simp at hkv
    ·simp at hkv
   ·cases hm with|dV _ _ b es bX hM hb h1 h2 h3 h4=>
    simp only[iE,mF] at hkv;obtain⟨rfl,rfl⟩:=hkv;exact⟨es,.inr ⟨_,_,rfl,hb⟩,h1,h2,h3,h4⟩
   ·simp at hkv
  obtain⟨es,hrun,l1,l2,r1,r2⟩:=hes;have hck:=run_checkKey (E:=E) hk hf es.isEmpty 9999;have hgd:∀j,es.toList.getD j default=es.getD j default:=fun j=>by simp[List.getD,Array.getD];split<;>simp_all
  have hfind:=YJ (E:=E) (K:=K) (T:=σ.top) (w:=w) hd hk hf es.toList ks vs 0 r (by simpa using l1) (by simpa using l2) (fun j hj=>by rw[hgd];exact r1 j ql) hlk;have hend:∃c,(do
   let (v,ok')<-match<-Instr.findKey kt ck es.toList with
    |some (_,v)=>pure (v,true)|none=>pure (<-zeroValue et,false)
   pure (if ok then .tuple #[v,.bool ok'] else v):Sem Value).run E.P w= .ok c w/\Rel K σ.top w v c:=by
   have hfin:∀c,Rel K σ.top w v' c->Rel K σ.top w v (if ok then .tuple #[c,.bool b] else c):=by
    intro c hc;subst hv;cases ok with
    |true=>
     refine .bB _ _ rfl (fun i hi=>?_)
     match i,hi with
     |0,_=>exact hc|1,_=>exact .bool b
    |false=>exact hc
   rcases hfind with ⟨rfl,e2⟩| ⟨j,hj,rfl,e2,_⟩
   ·simp only[bf,mF] at hvb
    obtain⟨z,hz,rfl,rfl⟩:=hvb;obtain⟨cz,hz1,hz2⟩:=C8 w hz;exact⟨_,by simp[Instr.findKey,run_underlying hd,e2,hz1],hfin cz (hz2 _ _)⟩
   ·simp only[iE,mF] at hvb
    obtain⟨rfl,rfl⟩:=hvb;refine⟨if ok then .tuple #[(es.toList.getD j default).val,.bool true] else (es.toList.getD j default).val,by simp[Instr.findKey,run_underlying hd,e2],hfin _ ?_⟩;have:=r2 j ql
    rwa[hgd]
  obtain⟨c,hc1,hc2⟩:=hend;refine⟨c,?_,hc2⟩;unfold Instr.lookup;rcases hrun with ⟨rfl,rfl⟩| ⟨b,bX,rfl,hb⟩
  ·simp only[Sem.run_bind,run_underlying hu,Result.andThen_ok,Sem.run_pure,show (10000:Nat)=9999+1 from rfl,hck]
   simp only[Sem.run_bind] at hc1;exact hc1
  ·have hg:(getObj b).run E.P w= .ok (.map es bX) w:=by simp[getObj,Sem.run,hb]
   simp only[Sem.run_bind,run_underlying hu,Result.andThen_ok,Sem.run_pure,show (10000:Nat)=9999+1 from rfl,hg,hck];simp only[Sem.run_bind] at hc1;exact hc1
 ·simp at hv
theorem ape {k a:V}(h:pJ k a=some true):k=a:=by unfold pJ at h;split at h<;>simp_all
theorem apf {kt:TypeId}{k:V}{ck ca:Value}(hk:Rel K T w k ck)(ha:Rel K T w k ca)(hf:nJ E.P kt k=true)(n:Nat):Instr.sameBits n ck ca=true:=by
 unfold nJ at hf;split at hf
 ·cases hk;cases ha;cases n<;>simp[Instr.sameBits]
 ·cases hk with|str _ b1 h1=>cases ha with|str _ b2 h2=>
  have:(b1==b2)=true:=by rw[<-Yv,h1,h2];simp
  cases n<;>simpa [Instr.sameBits] using this
 ·cases hk;cases ha;cases n<;>simp[Instr.sameBits]
 ·simp at hf
theorem aes {k v:V}:∀(ks vs ks' vs':List V),zA k v ks vs=some (ks',vs')->ks.length=vs.length->(rT k ks vs=some none/\ks'=ks++[k]/\vs'=vs++[v])\/∃j,j<ks.length/\ks'=ks.set j k/\vs'=vs.set j v/\rT k ks vs=some (some (vs.getD j aL))/\ks.getD j aL=k/\∀i,i<j->pJ k (ks.getD i aL)=some false
 | [],[],ks',vs',h,_=>by simp only[zA,iE,mF] at h;exact .inl ⟨rfl,h.1.symm,h.2.symm⟩|a::ks,b::vs,ks',vs',h,hl=>by
  simp only[zA,iR] at h;obtain⟨q,hq,h⟩:=h;cases q with
  |true=>simp only[if_true,iE,mF] at h;refine .inr ⟨0,aD,by rw[<-h.1];simp,by rw[<-h.2];simp,by simp[rT,hq],by simpa using (ape hq).symm,fun i hi=>absurd hi (gL i)⟩
  |false=>
   simp only[dL,if_false,bf,mF] at h;obtain⟨⟨x,y⟩,hxy,h1,h2⟩:=h;rcases aes ks vs x y hxy xI with ⟨e1,e2,e3⟩| ⟨j,hj,e1,e2,e3,e4,e5⟩
   ·exact .inl ⟨by simp[rT,hq,e1],by rw[<-h1,e2];rfl,by rw[<-h2,e3];rfl⟩
   ·refine .inr ⟨j+1,ql,by rw[<-h1,e1];rfl,by rw[<-h2,e2];rfl,by simp[rT,hq,e3],by simpa using e4,fun i hi=>?_⟩
    cases i with
    |zero=>simpa using hq|succ i=>simpa using e5 i ah
 | [],_::_,_,_,_,hl=>by simp at hl|_::_,[],_,_,_,hl=>by simp at hl
theorem aeu {d:TypeDesc}{k:V}{ck:Value}{kt:TypeId}(hd:E.P.underlying kt=some d)(hk:Rel K T w k ck)(hf:nJ E.P kt k=true):
 ∀(es:List MapEntry)(ks:List V)(i j:Nat),ks.length=es.length->(∀q,q<es.length->Rel K T w (ks.getD q aL) (es.getD q default).key)->j<es.length->
  (∀q,q<j->pJ k (ks.getD q aL)=some false)->ks.getD j aL=k->Instr.findNow d ck es i=some (some (i+j,(es.getD j default).val))
 |e::es,a::ks,i,0,h1,hr,hj,hn,he=>by
  have hr0:=hr 0 aD;simp only[List.getD_cons_zero] at he hr0;subst he;have hs:pJ a a=some true:=by unfold nJ at hf;split at hf<;>first| (simp[pJ];done)| (simp at hf;done)
  have:=YI hd hk hr0 hf hs;simp[Instr.findNow,this]
 |e::es,a::ks,i,j+1,h1,hr,hj,hn,he=>by have h0:=hn 0 ah;simp only[List.getD_cons_zero] at h0;have hr0:=hr 0 aD;simp only[List.getD_cons_zero] at hr0;have:=YI hd hk hr0 hf h0;have ih:=aeu hd hk hf es ks (i+1) j Cr (fun q hq=>by simpa using hr (q+1) (by simpa using hq)) ql (fun q hq=>by simpa using hn (q+1) ah) (by simpa using he);simp only[Instr.findNow,this,ih,List.getD_cons_succ];rw[show i+1+j=i+(j+1) by omega]
 | [],_,_,_,_,_,hj,_,_=>GI|_::_,[],_,_,h1,_,_,_,_=>by simp at h1
theorem aev {w:World}{b:Nat}{o o':Obj}(_:w.heap[b]? =some o):Only b w {w with heap:=w.heap.setIfInBounds b o'}:=by refine⟨rfl,rfl,rfl,aD,fun k hk _=>?_,iP _⟩;simp[Ne.symm hk]
theorem aew (h:bE E B0 σ K w)(hB:B0<=w.heap.size){t:TypeId}{m k v:V}{cm ck cv:Value}{σ':ak}(hm:Rel K σ.top w m cm)(hk:Rel K σ.top w k ck)(hv:Rel K σ.top w v cv)(hu:uO E.P σ t m k v=some σ'):∃w',(Instr.mapUpdate t cm ck cv).run E.P w= .ok () w'/\Step E B0 new σ K w σ' K w'/\σ'.top=σ.top:=by
 simp only[uO,iR] at hu;obtain⟨⟨kt,et⟩,hmt,hu⟩:=hu;have hun:=aei hmt;split at hu
 ·rename_i hf
  split at hu
  ·rename_i loc s
   simp only[iR,bf] at hu;obtain⟨⟨ks,vs⟩,hmp,⟨ks',vs'⟩,hst,rfl⟩:=hu;unfold ak.gB at hmp;split at hmp
   ·rename_i s' He Hf ho
    split at hmp
    ·rename_i hs;subst hs
     simp only[iE,mF] at hmp;obtain⟨rfl,rfl⟩:=hmp;obtain⟨_,gU,_⟩:=h.obj _ _ _ ho;obtain⟨hb0,es,bX,g1,hbn,g2,g3,g4,g5⟩:=gU;cases hm with|cu _ _ hA=>
     obtain⟨d,hd⟩:=aer hf;have hck:=run_checkKey (E:=E) hk hf false 9999;have hgd:∀j,es.toList.getD j default=es.getD j default:=fun j=>by simp[List.getD,Array.getD];split<;>simp_all
     have hst':zA k v He Hf=some (ks',vs'):=hst;rcases aes _ _ _ _ hst' ah with ⟨e1,rfl,rfl⟩| ⟨j,hj,rfl,rfl,e1,e2,e3⟩
     ·have hfind:=YJ (E:=E) (K:=K) (T:=σ.top) (w:=w) hd hk hf es.toList He Hf 0 none (by simpa using g2) (by simpa using g3) (fun j hj=>by rw[hgd];exact g4 j ql) e1
      have hfn:Instr.findNow d ck es.toList 0=some none:=by
       rcases hfind with ⟨_,e⟩| ⟨_,_,e,_⟩
       ·exact e
       ·cases e
      refine⟨{w with heap:=w.heap.setIfInBounds (K.blk s') (.map (es.push {key:=ck,val:=cv,born:=bX}) (bX+1))},?_,?_,rfl⟩
      ·unfold Instr.mapUpdate
       simp only[Sem.run_bind,run_underlying hun,Result.andThen_ok,show (10000:Nat)=9999+1 from rfl];simp[getObj,setObj,Sem.run,g1,hck,Instr.findKey,run_underlying hd,hfn]
      ·have hlt:=lt_of_heap g1
       refine Step.aec h hB ho g1 (aev g1) (es':=es.push {key:=ck,val:=cv,born:=bX}) (Nr:=bX+1) (by simp[hlt]) (hbn.push rfl) (by simp[g2]) (by simp[g3]) (fun e=>?_);constructor
       ·intro i hi
        by_cases hi':i<es.size
        ·rw[qV ah]
         have:(es.push {key:=ck,val:=cv,born:=bX}).getD i default=es.getD i default:=(by simp[Array.getD,hi',Array.getElem_push,Nat.lt_succ_of_lt hi']);rw[this];exact(g4 i hi').ext e
        ·have:i=es.size:=MZ
         subst this;rw[qW ah,g2];simp;exact hk.ext e
       ·intro i hi
        by_cases hi':i<es.size
        ·rw[qV ah]
         have:(es.push {key:=ck,val:=cv,born:=bX}).getD i default=es.getD i default:=(by simp[Array.getD,hi',Array.getElem_push,Nat.lt_succ_of_lt hi']);rw[this];exact(g5 i hi').ext e
        ·have:i=es.size:=MZ
         subst this;rw[qW ah,g3];simp;exact hv.ext e
     ·have hj':j<es.size:=ah
      have hfn:=aeu (E:=E) (K:=K) (T:=σ.top) (w:=w) hd hk hf es.toList He 0 j (by simpa using g2) (fun q hq=>by rw[hgd];exact g4 q (by simpa using hq)) (by simpa using hj') e3 e2;rw[hgd] at hfn;have hsb:Instr.sameBits 10000 (es.getD j default).key ck=true:=(by have:=g4 j hj';rw[e2] at this;exact apf (E:=E) this hk hf _);have hgj:es.getD j default=es[j]:=(by simp[Array.getD,hj']);refine⟨{w with heap:=w.heap.setIfInBounds (K.blk s') (.map (es.modify j fun e=>{e with key:=ck,val:=cv}) bX)},?_,?_,rfl⟩
      ·unfold Instr.mapUpdate
       simp only[Sem.run_bind,run_underlying hun,Result.andThen_ok,show (10000:Nat)=9999+1 from rfl];rw[hgj] at hsb hfn;simp[getObj,setObj,Sem.run,g1,hck,Instr.findKey,run_underlying hd,hfn,hj',Instr.keyThatStays,hsb]
      ·have hlt:=lt_of_heap g1
       refine Step.aec h hB ho g1 (aev g1) (es':=es.modify j fun e=>{e with key:=ck,val:=cv}) (Nr:=bX) (by simp[hlt]) (hbn.modify fun _=>rfl) (by simp[g2]) (by simp[g3]) (fun e=>?_);have hmod:∀i,i<es.size->(es.modify j fun e=>{e with key:=ck,val:=cv}).getD i default=if j=i then {es.getD i default with key:=ck,val:=cv} else es.getD i default:=(by intro i hi;simp only[Array.getD,Array.size_modify,hi,dif_pos];show (es.modify j _)[i]'_=_;rw[Array.getElem_modify];split<;>simp_all)
       constructor
       ·intro i hi
        have hi':i<es.size:=jm;rw[hmod i hi'];by_cases hji:j=i
        ·subst hji
         have:(He.set j k).getD j aL=k:=(by simp[List.getD,hj]);rw[this];simp;exact hk.ext e
        ·have:(He.set j k).getD i aL=He.getD i aL:=by simp[List.getD,hji]
         rw[this];simp only[hji,if_false];exact(g4 i hi').ext e
       ·intro i hi
        have hi':i<es.size:=jm;rw[hmod i hi'];by_cases hji:j=i
        ·subst hji
         have:(Hf.set j v).getD j aL=v:=(by simp[List.getD,show j<Hf.length by omega]);rw[this];simp;exact hv.ext e
        ·have:(Hf.set j v).getD i aL=Hf.getD i aL:=by simp[List.getD,hji]
         rw[this];simp only[hji,if_false];exact(g5 i hi').ext e
    ·simp at hmp
   ·simp at hmp
  ·simp at hu
 ·simp at hu
end
section
variable {E:Env}{B0:Nat}{σ:ak}{K:aU}{w:World}{new:Nat->Prop}{T:Nat->Nat}
theorem aex (off:Nat):∀(l:List (Value×Nat))(cs:Array Value),(l.foldl (fun cs (c,j)=>cs.setIfInBounds (off+j) c) cs).size=cs.size
 | [],_=>rfl|x::l,cs=>by rw[List.foldl_cons,aex off l];simp
theorem aey (off:Nat):∀(vs:List Value)(k:Nat)(cs:Array Value),off+k+vs.length<=cs.size->∀i,i<cs.size->((vs.zipIdx k).foldl (fun cs (c,j)=>cs.setIfInBounds (off+j) c) cs).getD i undef=if off+k<=i/\i<off+k+vs.length then vs.getD (i-(off+k)) undef else cs.getD i undef
 | [],k,cs,_,i,_=>eY|v::vs,k,cs,h,i,hi=>by
  simp only[List.zipIdx_cons,List.foldl_cons];rw[aey off vs (k+1) _ (by simp at h⊢;omega) i jm];have hs:(cs.setIfInBounds (off+k) v).getD i undef=if off+k=i then v else cs.getD i undef:=by simp only[Array.getD,Array.size_setIfInBounds,hi,dif_pos];show (cs.setIfInBounds (off+k) v)[i]'_=_;rw[Array.getElem_setIfInBounds];split<;>rfl
  rw[hs];simp only[List.length_cons] at h⊢;by_cases h1:off+k=i
  ·subst h1
   rw[if_neg ah,if_pos rfl,if_pos ah];simp
  ·by_cases h2:off+(k+1)<=i/\i<off+(k+1)+vs.length
   ·rw[if_pos h2,if_pos ah]
    have:i-(off+k)=(i-(off+(k+1)))+1:=ah;rw[this,List.getD_cons_succ]
   ·rw[if_neg h2,if_neg h1,if_neg ah]
theorem UD (a:Array Value)(i:Nat):a.toList.getD i undef=a.getD i undef:=by simp[List.getD,Array.getD];split<;>simp_all
def Hg (K:aU)(T:Nat->Nat)(w:World):List (Nat×V)->List (Nat×Value)->Prop
 | [],[]=>True| (i,v)::a,(j,c)::b=>i=j/\Rel K T w v c/\Hg K T w a b|_,_=>False
theorem Nw {place:Nat->Option (Nat×Nat)}{place':Nat->Option (Nat×Nat)}(hp:∀i x,place i=some x->place' i=some x):
 ∀(parts:List (Nat×V))(parts':List (Nat×Value))(cs cs':List V)(vs:Array Value),Hg K T w parts parts'->Nu K T w cs vs->uN place cs parts=some cs'->
  ∃vs',Instr.fill place' vs parts'=some vs'/\Nu K T w cs' vs'/\vs'.size=vs.size
 | [],[],cs,cs',vs,_,hr,h=>by simp only[uN,iE] at h;subst h;exact⟨vs,rfl,hr,rfl⟩| (i,v)::ps,(j,c)::ps',cs,cs',vs,hpp,hr,h=>by
   obtain⟨rfl,hv,hpp⟩:=hpp;unfold uN at h;cases hpl:place i with
   |none=>simp[hpl] at h|some x=>
    obtain⟨off,size⟩:=x;simp only[hpl] at h;split at h
    ·rename_i hc
     obtain⟨h1,h2,h3⟩:=hc;obtain⟨hl,hcr⟩:=CZ hv h3;have hsz:(c.cells.zipIdx.foldl (fun cs (c,j)=>cs.setIfInBounds (off+j) c) vs).size=vs.size:=(by rw[<-Array.foldl_toList,Array.toList_zipIdx];exact aex off _ _);have hget:∀i,i<vs.size->(c.cells.zipIdx.foldl (fun cs (c,j)=>cs.setIfInBounds (off+j) c) vs).getD i undef=if off<=i/\i<off+c.cells.size then c.cells.getD (i-off) undef else vs.getD i undef:=by
      intro i hi;rw[<-Array.foldl_toList,Array.toList_zipIdx];have:=aey off c.cells.toList 0 vs (by simp;have:=hr.1;omega) i hi;rw[this];simp only[Nat.add_zero,Array.length_toList];split
      ·exact UD _ _
      ·rfl
     have hrl:Nu K T w (iT cs off v.cells) (c.cells.zipIdx.foldl (fun cs (c,j)=>cs.setIfInBounds (off+j) c) vs):=by
      refine⟨by rw[C9 ah,hsz];exact hr.1,fun i hi=>?_⟩;rw[C9 ah] at hi;rw[YH ah,hget i (by have:=hr.1;omega),<-hl];by_cases hh:off<=i/\i<off+v.cells.length
      ·rw[if_pos hh,if_pos hh];exact hcr _ ah
      ·rw[if_neg hh,if_neg hh];exact hr.2 i hi
     obtain⟨vs',g1,g2,g3⟩:=Nw hp ps ps' _ _ _ hpp hrl h;refine⟨vs',?_,g2,by rw[g3,hsz]⟩;unfold Instr.fill;simp only[hp _ _ hpl];have hcond:¬((decide (c.cells.size≠size)||decide (off+c.cells.size>vs.size))=true):=(by have:=hr.1;simp;omega);rw[if_neg hcond];exact g1
    ·simp at h
 | [],_::_,_,_,_,h,_,_=>h.elim|_::_,[],_,_,_,h,_,_=>h.elim
theorem UE {fr:Fr}{a:Act}(h:bE E B0 σ K w)(hf:kD K σ.top w fr a.tmps):∀(l:List (Nat×Operand)),Hg K σ.top w (l.map fun (i,x)=>(i,fr.ev E x)) (l.map fun (i,x)=>(i,a.eval x))
 | []=>trivial| (_,x)::l=>⟨rfl,xZ h hf x,UE h hf l⟩
theorem run_places:∀(l:List Field),l.all (fun f=>(fq E.P f.type).isSome)=true->(l.mapM (fun f=>do pure (f.offset,<-Go.sizeOf f.type):Field->Sem (Nat×Nat))).run E.P w= .ok (l.map fun f=>(f.offset,(fq E.P f.type).getD 0)) w
 | [],_=>rfl|f::l,h=>by simp only[List.all_cons,aT] at h;obtain⟨n,hn⟩:=Option.isSome_iff_exists.1 h.1;have ih:=run_places l h.2;simp only[j5,Sem.run_bind,nZ w hn,Result.andThen_ok,Sem.run_pure,ih,hn,fQ,Option.getD_some]
theorem apg {t:TypeId}{pl:Nat->Option (Nat×Nat)}{z:V}{parts:List (Nat×V)}{parts':Array (Nat×Value)}{cs:List V}(hpl:Uv E t=some pl)(hz:kC E.P t=some z)(hp:Hg K T w parts parts'.toList)(hraw:fM z=true)(h:uN pl z.cells parts=some cs):∃c,(Instr.build t parts').run E.P w= .ok c w/\Rel K T w (.agg cs) c:=by
 obtain⟨cz,hz1,hz2⟩:=C8 w hz;have hrz:Nu K T w z.cells cz.cells:=CZ (hz2 K T) hraw;unfold Uv at hpl;split at hpl
 ·rename_i fs hu
  split at hpl
  ·rename_i hall
   simp only[iE] at hpl;subst hpl;obtain⟨vs',g1,g2,_⟩:=Nw (K:=K) (T:=T) (w:=w) (place':=fun i=>(fs.map fun f=>(f.offset,(fq E.P f.type).getD 0))[i]?) (fun i x hx=>by simp only[iR,bf] at hx;obtain⟨f,hf,n,hn,rfl⟩:=hx;simp[hf,hn]) parts parts'.toList _ _ _ hp hrz h;refine⟨.agg vs',?_,.agg _ _ g2.1 g2.2⟩;have hm:(fs.mapM (fun f=>do pure (f.offset,<-Go.sizeOf f.type):Field->Sem (Nat×Nat))).run E.P w= .ok (fs.map fun f=>(f.offset,(fq E.P f.type).getD 0)) w:=by rw[Array.mapM_eq_mapM_toList,Sem.run_map,run_places fs.toList hall];simp only[Result.andThen_ok];congr 1;apply Array.ext';simp
   simp only[Instr.build,Sem.run_bind,hz1,Result.andThen_ok,run_underlying hu];rw[hm];simp only[Result.andThen_ok];rw[g1];rfl
  ·simp at hpl
 ·rename_i n e hu
  simp only[bf] at hpl;obtain⟨sz,hsz,rfl⟩:=hpl;obtain⟨vs',g1,g2,_⟩:=Nw (K:=K) (T:=T) (w:=w) (place':=fun i=>some (i*sz,sz)) (fun i x hx=>hx) parts parts'.toList _ _ _ hp hrz h;refine⟨.agg vs',?_,.agg _ _ g2.1 g2.2⟩;simp only[Instr.build,Sem.run_bind,hz1,Result.andThen_ok,run_underlying hu,nZ w hsz];rw[g1];rfl
 ·simp at hpl
theorem YK (z:List V)(sz:Nat)(hz:z.length=sz)(h0:0<sz):∀(n i:Nat),i<n*sz->(List.replicate n z).flatten.getD i aL=z.getD (i% sz) aL
 |0,i,h=>uH|n+1,i,h=>by
  simp only[List.replicate_succ,List.flatten_cons];by_cases hi:i<sz
  ·rw[qV ah,Nat.mod_eq_of_lt hi]
  ·have hs:(n+1)*sz=n*sz+sz:=rP n sz
   rw[qW ah,hz,YK z sz hz h0 n (i-sz) ah];congr 1;exact(Nat.mod_eq_sub_mod ah).symm
theorem UF {z:V}{cz:Value}{sz:Nat}(hz:Rel K T w z cz)(hraw:fM z=true)(hsz:z.cells.length=sz)(n:Nat):
 Nu K T w (List.replicate n z.cells).flatten ((Array.range (n*sz)).map fun i=>cz.cells[i% cz.cells.size]!):=by
 obtain⟨h1,h2⟩:=CZ hz hraw;refine⟨by simp[hsz],fun i hi=>?_⟩;have hi':i<n*sz:=by simpa [hsz] using hi
 have h0:0<sz:=by
  rcases Nat.eq_zero_or_pos sz with h|h
  ·subst h;simp at hi'
  ·exact h
 rw[YK z.cells sz hsz h0 n i hi'];have hm:i% sz<cz.cells.size:=by rw[<-h1,hsz];exact Nat.mod_lt _ h0
 have he:((Array.range (n*sz)).map fun i=>cz.cells[i% cz.cells.size]!).getD i undef=cz.cells.getD (i% sz) undef:=by
  have:cz.cells.size=sz:=ah
  simp[Array.getD,hi',this,getElem!_pos,Nat.mod_lt _ h0]
 rw[he];exact h2 _ ah
theorem YL (v:V):(er v).cells.length=v.cells.length:=by
 cases v<;>simp[er,V.cells]
theorem Hl {v:V}{c:Value}(h:Rel K T w v c):Rel K T w (fB v) c:=by
 cases h with
 |eP c a ha hc=>exact .eP .sh a (fun h=>bL) trivial
 |ay c l b o n cap val h1 h2 h3 h4 h5=>exact .ay .sh l b o n cap val h1 h2 h3 h4 trivial|_=>first|exact .int _ _|exact .bool _|exact .str _ _ (by assumption)|exact .iC|exact .gQ|exact .gD|exact .iH| (constructor<;>assumption)
theorem UG {v:V}{c:Value}(h:Rel K T w v c):Rel K T w (er v) c:=by
 cases h with
 |agg cs vs hl h=>
  refine .agg _ vs xI (fun i hi=>?_);have hi':i<cs.length:=jm
  have:(cs.map fB).getD i aL=fB (cs.getD i aL):=MX
  rw[this];exact Hl (h i hi')
 |eP c a ha hc=>exact .eP .sh a (fun h=>bL) trivial
 |ay c l b o n cap val h1 h2 h3 h4 h5=>exact .ay .sh l b o n cap val h1 h2 h3 h4 trivial|_=>first|exact .int _ _|exact .bool _|exact .str _ _ (by assumption)|exact .iC|exact .gQ|exact .gD|exact .iH| (constructor<;>assumption)
theorem aez {v:V}{j:Nat}{c:Value}(hj:j<v.cells.length)(h:Rel K T w (v.cells.getD j aL) c):Rel K T w ((er v).cells.getD j aL) c:=by
 cases v with
 |agg cs=>
  have:((er (.agg cs)).cells).getD j aL=fB (cs.getD j aL):=by have hj':j<cs.length:=hj;simp[er,V.cells,List.getD,hj']
  rw[this];exact Hl h
 |ay c l=>
  have hj0:j=0:=by simp[V.cells] at hj;exact hj
  subst hj0;exact Hl h
 |_=>exact h
theorem aph {v:V}(h:fM v=true):fM (er v)=true:=by cases v<;>first|exact h|rfl
theorem apj {c:Cap}{l:List V}{x:Value}(h:Rel K T w (.ay c l) x):Rel K T w (.ay c (l.map er)) x:=by
 cases h with
 |eP _ a ha hc=>exact .eP c a ha hc|ay _ _ b o n cap val hle hn hcell hrel hc=>
  have hg:∀i,i<l.length->(l.map er).getD i aL=er (l.getD i aL):=fun i hi=>by simp[List.getD,hi]
  have key:Rel K T w (.ay c (l.map er)) (.slice (some (at_ b o)) (l.map er).length cap):=by
   refine .ay c _ b o n cap val (by simpa using hle) (fun i hi=>?_) (fun i j hi hj=>hcell i j jm hj) (fun i j hi hj=>?_) Us
   ·rw[hg i jm,YL];exact hn i jm
   ·rw[hg i jm]
    exact aez (by rw[hn i jm];exact hj) (hrel i j jm hj)
  simpa using key
theorem apk (h:bE E B0 σ K w)(hB:B0<=w.heap.size){t:TypeId}{len:Nat}{parts:List (Nat×V)}{parts':Array (Nat×Value)}{v:V}(hp:Hg K σ.top w parts parts'.toList)(hv:zF E t len parts=some v):Done E B0 new σ K w (Instr.buildSlice t len parts') v σ:=by
 simp only[zF,iR] at hv;obtain⟨e,he,sz,hsz,ag,hag,z,hz,hv⟩:=hv;split at hv
 ·rename_i hc
  obtain⟨c1,c2,c3,c4⟩:=hc;simp only[iR] at hv;obtain⟨cs,hcs,hv⟩:=hv;split at hv
  ·rename_i hone
   simp only[iE] at hv;subst hv;obtain⟨cz,hz1,hz2⟩:=C8 w hz;have hraw:fM z=true:=G6 hz;have hrz:=UF (hz2 K σ.top) hraw c2 len;obtain⟨vs',g1,g2,g3⟩:=Nw (K:=K) (T:=σ.top) (w:=w) (place':=fun i=>some (i*sz,sz)) (fun i x hx=>by
    split at hx
    ·exact hx
    ·simp at hx) parts parts'.toList _ _ _ hp hrz hcs
   have hlen:cs.length=len*sz:=by rw[g2.1,g3];simp
   have hu:=Ns he;have hrun:(Instr.buildSlice t len parts').run E.P w= .ok (.slice (some ⟨w.heap.size,0,none⟩) len len) (w.alloc (.cells vs' e)):=by
    have hn:¬2^24<len*sz:=ah;by_cases h0:len*sz=0
    ·have hl0:len=0:=by
      rcases Nat.mul_eq_zero.1 h0 with h|h
      ·exact h
      ·omega
     subst hl0;simp only[Instr.buildSlice,Sem.run_bind,run_underlying hu,Result.andThen_ok,nZ w hsz,Nat.zero_mul];have g1':Instr.fill (fun i=>some (i*sz,sz)) #[] parts'.toList=some vs':=(by have e0:((Array.range (0*sz)).map fun i=>cz.cells[i% cz.cells.size]!)= #[]:=Uj;rw[<-e0];exact g1);have e1:∀f:Nat->Value,(Array.range 0).map f= #[]:=fun f=>Uj
     simp only[if_true,e1,g1'];simp[newRow]
    ·simp only[Instr.buildSlice,Sem.run_bind,run_underlying hu,Result.andThen_ok,nZ w hsz,hn,gt_iff_lt,if_false,h0,hz1,Sem.run_pure]
     rw[g1];simp[newRow]
   have hst:=Step.aea (new:=new) h hB vs' e (0,0);refine⟨_,_,_,hrun,apj ?_,hst⟩;have hext:=hst.ext;refine Nv (cap:=len) (w:=w.alloc (.cells vs' e)) (fun j=>vs'.getD j undef) (fun hf=>?_) ah (fun _=>hone) (fun j hj=>⟨?_,?_⟩) (fun j hj=>(g2.2 j ah).ext hext) (iP _) (by simp[uS])
   ·subst hf;simpa using c4
   ·have:=Nq (w:=w) (vals:=vs') (t:=e) (fz:=(0,0)) (i:=j) (by have:=g2.1;omega)
    simpa using this
   ·right
    exact⟨rfl,by have:=g2.1;omega⟩
  ·simp at hv
 ·simp at hv
end
end aR
end
