import Derived.Test.YtdcnajadcbedkaaGreatDoorF1003
set_option linter.all false
section
namespace aQ
open Go
section
variable {X Key:Type}
def Me (step:Nat->X->Option X):List Nat->X->Option X
 | [],x=>some x|i::l,x=>(step i x).bind (Me step l)
theorem ahd (n:Nat)(step:Nat->X->Option X)(eD:Key->X->X->Prop)(hrefl:∀k x,eD k x x)(WK:∀k x y z,eD k x y->eD k y z->eD k x z)(s:Nat->X)(T W:Nat->Key->Prop)(EM:∀i k,W i k->T i k)(hloc:∀i,i<n->∀x,(∀k,T i k->eD k (s i) x)->∃y,step i x=some y/\(∀k,W i k->eD k (s (i+1)) y)/\(∀k,¬W i k->eD k x y))(hself:∀i,i<n->∀k,¬W i k->eD k (s i) (s (i+1)))(pre:Nat->Nat->Prop)(hap:∀i j,i<n->j<i->pre j i\/((∀k,¬(W i k/\T j k))/\∀k,¬(W j k/\T i k)))(aq7:∀k x y,eD k x y->eD k y x):
 ∀(l done:List Nat)(x:X),l.Nodup->(∀i∈l,i<n/\i∉done)->(∀i,i<n->i∈done\/i∈l)->
  (∀l1 i l2,l=l1++i::l2->∀j,pre j i->j∈done\/j∈l1)->(∀i∈done,∀j,pre j i->j∈done)->
  (∀k m,m<=n->(∀j,j<n->W j k->(j∈done↔j<m))->eD k (s m) x)->∃y,Me step l x=some y/\∀k,eD k (s n) y:=by
 have aq8:∀k a b,a<=b->b<=n->(∀j,a<=j->j<b->¬W j k)->eD k (s a) (s b):=by
  intro k a b hab hbn hw;induction b with
  |zero=>obtain rfl:a=0:=RS
         exact hrefl _ _
  |succ b ih=>
   by_cases e:a=b+1
   .subst e;exact hrefl _ _
   .exact WK _ _ _ _ (ih RS RS (fun j h1 h2=>hw j h1 RS)) (hself b RS k (hw b RS RS))
 intro l;induction l with
 |nil=>intro done x _ _ hall _ _ hinv;exact⟨x,rfl,fun k=>hinv k n (iR _) (fun j hj _=>⟨fun _=>hj,fun _=>by rcases hall j hj with h|h;exact h;cases h⟩)⟩
 |cons i l ih=>
  intro done x hnd hmem hall Rh hclosed hinv;obtain⟨hin,WL⟩:=hmem i aD;have hil:i∉l:=(Ao.1 hnd).1;have hpre:∀j,pre j i->j∈done:=fun j hj=>by
   rcases Rh [] i l rfl j hj with h|h
   .exact h
   .cases h
  have aq9:∀k,T i k->eD k (s i) x:=by
   intro k hk;refine hinv k i RS (fun j hj hw=>⟨fun hjd=>?_,fun hji=>?_⟩)
   .rcases Nat.lt_trichotomy j i with h|h|h
    .exact h
    .subst h;exact absurd hjd WL
    .rcases hap j i hj h with hp| ⟨h1,_⟩
     .exact absurd (hclosed j hjd i hp) WL
     .exact absurd ⟨hw,hk⟩ (h1 k)
   .rcases hap i j hin hji with hp| ⟨_,h2⟩
    .exact hpre j hp
    .exact absurd ⟨hw,hk⟩ (h2 k)
  obtain⟨y,hy,ara,hyn⟩:=hloc i hin x aq9;have arb:∀k m,m<=n->(∀j,j<n->W j k->(j∈i::done↔j<m))->eD k (s m) y:=by
   intro k m hm hj;by_cases hw:W i k
   .have him:i<m:=(hj i hin hw).1 aD;have h1:eD k (s (i+1)) (s m):=by
     refine aq8 k (i+1) m him hm (fun j h1 h2 Mf=>?_);have hjd:j∈done:=by
      have:=(hj j RS Mf).2 h2;rcases jr.1 this with e|e
      .omega
      .exact e
     rcases hap j i RS RS with hp| ⟨h3,_⟩
     .exact absurd (hclosed j hjd i hp) WL
     .exact h3 k ⟨Mf,EM i k hw⟩
    exact WK _ _ _ _ (aq7 _ _ _ h1) (ara k hw)
   .refine WK _ _ _ _ (hinv k m hm (fun j hjn Mf=>?_)) (hyn k hw);have hji:j≠i:=fun e=>hw (e▸Mf);rw[<-hj j hjn Mf];simp[hji]
  obtain⟨z,hz,hzn⟩:=ih (i::done) y (Ao.1 hnd).2
   (fun j hj=>⟨(hmem j Eh).1,fun h=>by
     rcases jr.1 h with e|e
     .exact hil (e▸hj)
     .exact(hmem j Eh).2 e⟩)
   (fun j hj=>by
     rcases hall j hj with h|h
     .exact .inl Ei
     .rcases jr.1 h with e|e
      .exact .inl GD
      .exact .inr e)
   (fun l1 j l2 hl k hk=>by
     rcases Rh (i::l1) j l2 (by rw[hl];rfl) k hk with h|h
     .exact .inl Ei
     .rcases jr.1 h with e|e
      .exact .inl GD
      .exact .inr e)
   (fun j hj k hk=>by
     rcases jr.1 hj with e|e
     .subst e;simp[hpre k hk]
     .simp[hclosed j e k hk])
   arb
  exact⟨z,by simp[Me,hy,hz],hzn⟩
end
section
variable {E:Env}{S:iW}{fr fr':Fr}{Y Y':ah}
theorem ard {st:Nat}{o:Oper}(h:∀x∈o.op.operands.toList,fr'.ev E x=fr.ev E x)(hd:fr'.d=fr.d)(bQ:fr'.aj=fr.aj):dK E fr' Y st o=dK E fr Y st o:=by
 cases ho:o.op;all_goals
  rw[ho] at h;unfold dK;simp only[ho]
 all_goals try (simp only[hd];done)
 case move x=>simp only[h x (show x∈[x] from iZ.2 rfl),hd]
 case assign x=>simp only[h x (show x∈[x] from iZ.2 rfl),hd]
 case pick c x y=>simp only[h c (show c∈[c,x,y] from jv),h x (show x∈[c,x,y] from jT _ jv),h y (show y∈[c,x,y] from jT _ (jT _ jv)),hd]
 case box t x=>simp only[h x (show x∈[x] from iZ.2 rfl),hd]
 case load t x=>simp only[h x (show x∈[x] from iZ.2 rfl),hd]
 case nilCheck x=>simp only[h x (show x∈[x] from iZ.2 rfl),hd]
 case unOp u t x=>simp only[h x (show x∈[x] from iZ.2 rfl),hd]
 case convert t u x=>simp only[h x (show x∈[x] from iZ.2 rfl),hd]
 case sliceToArrayPointer t x=>simp only[h x (show x∈[x] from iZ.2 rfl),hd]
 case typeAssert x t u ok=>simp only[h x (show x∈[x] from iZ.2 rfl),hd]
 case makeInterface t x=>simp only[h x (show x∈[x] from iZ.2 rfl),hd]
 case fieldAddr t x f=>simp only[h x (show x∈[x] from iZ.2 rfl),hd]
 case field t x f=>simp only[h x (show x∈[x] from iZ.2 rfl),hd]
 case extract x f=>simp only[h x (show x∈[x] from iZ.2 rfl),hd]
 case store t x y=>simp only[h x (show x∈[x,y] from jv),h y (show y∈[x,y] from jT _ jv),hd,bQ]
 case binOp b t x y u=>simp only[h x (show x∈[x,y] from jv),h y (show y∈[x,y] from jT _ jv),hd,bQ]
 case makeSlice t x y=>simp only[h x (show x∈[x,y] from jv),h y (show y∈[x,y] from jT _ jv),hd,bQ]
 case indexAddr t x y=>simp only[h x (show x∈[x,y] from jv),h y (show y∈[x,y] from jT _ jv),hd,bQ]
 case index t x y=>simp only[h x (show x∈[x,y] from jv),h y (show y∈[x,y] from jT _ jv),hd,bQ]
 case lookup t x y ok=>simp only[h x (show x∈[x,y] from jv),h y (show y∈[x,y] from jT _ jv),hd,bQ]
 case mapUpdate t x y z=>simp only[h x (show x∈[x,y,z] from jv),h y (show y∈[x,y,z] from jT _ jv),h z (show z∈[x,y,z] from jT _ (jT _ jv)),hd]
 case insert t x y z=>simp only[h x (show x∈[x,y,z] from jv),h y (show y∈[x,y,z] from jT _ jv),h z (show z∈[x,y,z] from jT _ (jT _ jv)),hd]
 case build t parts=>
  have:(parts.toList.map fun (i,x)=>(i,fr'.ev E x))=parts.toList.map fun (i,x)=>(i,fr.ev E x):=by refine En (fun p hp=>?_);show (p.1,fr'.ev E p.2)=(p.1,fr.ev E p.2);rw[h p.2 (show p.2∈parts.toList.map (·.2) from Eo.2 ⟨p,hp,rfl⟩)]
  simp only[this]
 case buildSlice t len parts=>
  have:(parts.toList.map fun (i,x)=>(i,fr'.ev E x))=parts.toList.map fun (i,x)=>(i,fr.ev E x):=by refine En (fun p hp=>?_);show (p.1,fr'.ev E p.2)=(p.1,fr.ev E p.2);rw[h p.2 (show p.2∈parts.toList.map (·.2) from Eo.2 ⟨p,hp,rfl⟩)]
  simp only[this,hd]
 case makeFunc fn a b=>
  have h1:a.toList.map (fr'.ev E)=a.toList.map (fr.ev E):=En (fun x hx=>h x (show x∈(a++b).toList by simp at hx⊢;exact .inl hx));have h2:b.toList.map (fr'.ev E)=b.toList.map (fr.ev E):=En (fun x hx=>h x (show x∈(a++b).toList by simp at hx⊢;exact .inr hx));cases fn<;>first|rfl|simp only[h1,h2]
 case makeMap t r=>cases r<;>simp only[hd]
 case slice t x lo hi mx=>
  have h0:∀y,y=x\/lo=some y\/hi=some y\/mx=some y->fr'.ev E y=fr.ev E y:=fun y hy=>h y (show y∈(#[x]++lo.toArray++hi.toArray++mx.toArray).toList by rcases hy with rfl|rfl|rfl|rfl<;>simp);have hx:fr'.ev E x=fr.ev E x:=h0 x (.inl rfl);have h1:lC E fr' lo=lC E fr lo:=by
   cases lo with
   |none=>rfl|some y=>simp only[lC];rw[h0 y aD]
  have h2:lC E fr' hi=lC E fr hi:=by
   cases hi with
   |none=>rfl|some y=>simp only[lC];rw[h0 y aD]
  have h3:lC E fr' mx=lC E fr mx:=by
   cases mx with
   |none=>rfl|some y=>simp only[lC];rw[h0 y aD]
  simp only[hx,h1,h2,h3]
theorem ahe {st:Nat}{o:Oper}(h:∀x∈o.op.operands.toList,fr'.ev E x=fr.ev E x)(hd:fr'.d=fr.d)(bQ:fr'.aj=fr.aj):
 opC E S fr' Y st o=(opC E S fr Y st o).map fun (v,_,aB)=>(v,fr',aB):=by
 cases ho:o.op;case call c=>
  have h:∀x∈c.operands.toList,fr'.ev E x=fr.ev E x:=by rw[ho] at h;exact h
  unfold opC;simp only[ho];have hargs:c.args.toList.map (fr'.ev E)=c.args.toList.map (fr.ev E):=En (fun x hx=>h x (by simp[Call.operands] at hx⊢;exact .inr hx));split
  .simp only[hargs,hd,bQ];cases qN E fr.aj (o.dst.map fun t=>(fr.d,E.cn t)) Y st _ c.argTypes (c.args.toList.map (fr.ev E))<;>rfl
  .rename_i f hc;have hf:fr'.ev E f=fr.ev E f:=h f (by simp[Call.operands,hc]);have eX:lU E fr' o f=lU E fr o f:=by unfold lU;rw[hf]
   simp only[hargs,hd,hf,eX];cases lU E fr o f
   .cases jL E S fr.d Y (fr.ev E f) (c.args.toList.map (fr.ev E))<;>rfl
   .cases qO E S Y st (fr.ev E f) (c.args.toList.map (fr.ev E))<;>rfl
  .rfl
 case defer=>unfold opC;simp only[ho];rfl
 all_goals
  have:=ard (Y:=Y) (st:=st) h hd bQ;unfold opC;simp only[ho];rw[this];cases dK E fr Y st o<;>rfl
theorem Hr {loc:Loc}{s:Nat}(h:Y'.obj loc=Y.obj loc):Y'.dQ loc s=Y.dQ loc s:=by simp only[ah.dQ,h]
theorem arf {loc:Loc}{s:Nat}(h:Y'.obj loc=Y.obj loc):Y'.lD loc s=Y.lD loc s:=by simp only[ah.lD,h]
def jF (Y Y':ah)(k:Key):Prop:=match k with
 |.obj l=>Y'.obj l=Y.obj l|.top=>Y'.top=Y.top|_=>True
def Reads (Y Y':ah)(r r':Option (V×ah)):Prop:=∀v aB,r=some (v,aB)->aB=Y/\r'=some (v,Y')
theorem qQ {v:V}:Reads Y Y' (some (v,Y)) (some (v,Y')):=fun v aB h=>by
 simp only[iE,mF] at h;exact⟨h.2.symm,by rw[h.1]⟩
theorem qz {U:Type}{r:Option U}(f:U->V):Reads Y Y' (r.map fun v=>(f v,Y)) (r.map fun v=>(f v,Y')):=by
 cases r with
 |none=>intro v aB h;cases h|some x=>exact qQ
theorem vE {r:Option (V×ah)}:Reads Y Y' none r:=fun _ _ h=>cZ
theorem Cn {U:Type}{r:Option U}{f g:U->Option (V×ah)}(h:∀x,Reads Y Y' (f x) (g x)):Reads Y Y' (r.bind f) (r.bind g):=by
 cases r with
 |none=>exact vE|some x=>exact h x
theorem Ri {c:Prop}[Decidable c]{r r' s s':Option (V×ah)}(h1:Reads Y Y' r r')(h2:Reads Y Y' s s'):Reads Y Y' (if c then r else s) (if c then r' else s'):=by split<;>assumption
theorem arh {src dst:TypeId}{x:V}(h:∀k∈jh x,jF Y Y' k):Ar E.P Y' src dst x=Ar E.P Y src dst x:=by
 unfold Ar;generalize E.P.underlying src=u1;generalize E.P.underlying dst=u2;cases u1 with
 |none=>cases x<;>cases u2<;>rfl|some d1=>
  cases u2 with
  |none=>cases x<;>cases d1<;>rfl|some d2=>
   cases x with
   |aS loc s off len cap bF ag=>have h1:Y'.obj loc=Y.obj loc:=h (.obj loc) (by simp[jh]);cases d2<;>cases d1<;>first|rfl|simp only[Hr h1]
   |_=>cases d2<;>first|rfl| (cases d1<;>rfl)
theorem ari {t:TypeId}{x:V}{lo hi mx:Option V}(h:∀k∈jh x,jF Y Y' k):lF E.P Y' t x lo hi mx=lF E.P Y t x lo hi mx:=by
 unfold lF;generalize E.P.underlying t=u1;cases u1 with
 |none=>cases x<;>rfl|some d1=>
  cases x with
  |ref loc s off=>have h1:Y'.obj loc=Y.obj loc:=h (.obj loc) (by simp[jh]);cases d1<;>first|rfl|simp only[Hr h1]
  |_=>cases d1<;>rfl
theorem arj {t:TypeId}{x k:V}{ok:Bool}(h:∀k∈jh x,jF Y Y' k):ED E.P Y' t x k ok=ED E.P Y t x k ok:=by unfold ED;rfl
theorem ark {t:TypeId}{x:V}(h:∀k∈jh x,jF Y Y' k):vo E Y' t x=vo E Y t x:=by
 unfold vo;generalize E.P.underlying t=u1;cases u1 with
 |none=>cases x<;>rfl|some d1=>
  cases x with
  |fq loc s=>have h1:Y'.obj loc=Y.obj loc:=h (.obj loc) (by simp[jh]);cases d1<;>first|rfl|simp only[arf h1]
  |_=>cases d1<;>rfl
theorem arl {ag:Bool}{sz:Nat}{z x:V}(h:∀k∈jh x,jF Y Y' k):nQ Y' ag sz z x=nQ Y ag sz z x:=by
 unfold nQ;cases x with
 |aS loc s off len cap bF ag=>have h1:Y'.obj loc=Y.obj loc:=h (.obj loc) (by simp[jh]);simp only[Hr h1]|_=>rfl
def Local (W:Key->Prop)(Y Y':ah)(r r':Option (V×ah)):Prop:=
 ∀v aB,r=some (v,aB)->∃oq,r'=some (v,oq)/\uq Y aB/\uq Y' oq/\(∀k,W k->jF aB oq k)/\(∀k,¬W k->jF Y aB k)/\∀k,¬W k->jF Y' oq k
theorem jF.refl (Y:ah)(k:Key):jF Y Y k:=by cases k<;>simp[jF]
theorem jF.chain {aB oq:ah}{k:Key}(h:jF Y Y' k)(h1:jF Y aB k)(h2:jF Y' oq k):jF aB oq k:=by
 cases k with
 |obj l=>exact Eq.trans (show oq.obj l=Y'.obj l from h2) (Eq.trans (show Y'.obj l=Y.obj l from h) (show aB.obj l=Y.obj l from h1).symm)|top=>exact Eq.trans (show oq.top=Y'.top from h2) (Eq.trans (show Y'.top=Y.top from h) (show aB.top=Y.top from h1).symm)|slot t=>trivial|rest=>trivial|nx=>trivial
theorem Reads.local {r r':Option (V×ah)}(h:Reads Y Y' r r'):Local (fun k=>k∈([]:List Key)) Y Y' r r':=fun v aB hr=>by
 obtain⟨h1,h2⟩:=h v aB hr;subst h1;exact⟨Y',h2,.refl _,.refl _,fun k hk=>absurd hk (List.not_mem_nil),fun k _=>.refl _ _,fun k _=>.refl _ _⟩
theorem Local.mono {W W':Key->Prop}{r r':Option (V×ah)}(h:Local W Y Y' r r')(hW:∀k,W k->W' k)(hT:∀k,W' k->jF Y Y' k):Local W' Y Y' r r':=fun v aB hr=>by
 obtain⟨oq,h1,h2,h3,h4,h5,h6⟩:=h v aB hr;refine⟨oq,h1,h2,h3,fun k hk=>?_,fun k hk=>h5 k (fun hw=>hk (hW k hw)),fun k hk=>h6 k (fun hw=>hk (hW k hw))⟩;by_cases hw:W k
 .exact h4 k hw
 .exact(hT k hk).chain (h5 k hw) (h6 k hw)
theorem ahf {loc:Loc}{st:Nat}{ob:kH}{k:Key}(hk:k∉[Key.obj loc]):jF Y (Y.setObj loc st ob) k:=by
 cases k with
 |obj l=>have:l≠loc:=fun e=>hk GD;show upd Y.obj loc _ l=Y.obj l;simp[upd,this]
 |top=>rfl|slot t=>trivial|rest=>trivial|nx=>trivial
theorem ahg {s n:Nat}{k:Key}(hk:k∉[Key.top]):jF Y (Y.eB s n) k:=by
 cases k with
 |obj l=>rfl|top=>exact absurd aD hk|slot t=>trivial|rest=>trivial|nx=>trivial
theorem Rj {loc:Loc}{st:Nat}{ob:kH}{v:V}:Local (fun k=>k∈[Key.obj loc]) Y Y' (some (v,Y.setObj loc st ob)) (some (v,Y'.setObj loc st ob)):=fun v1 aB h=>by
 simp only[iE,mF] at h;obtain⟨rfl,rfl⟩:=h;refine⟨_,rfl,⟨rfl,rfl⟩,⟨rfl,rfl⟩,fun k hk=>?_,fun k hk=>ahf hk,fun k hk=>ahf hk⟩;obtain rfl:k= .obj loc:=by simpa using hk
 show upd Y'.obj loc _ loc=upd Y.obj loc _ loc;simp[upd]
theorem iB {W:Key->Prop}{r:Option (V×ah)}:Local W Y Y' none r:=fun _ _ h=>cZ
theorem qR {W:Key->Prop}{U:Type}{r:Option U}{f g:U->Option (V×ah)}(h:∀x,Local W Y Y' (f x) (g x)):Local W Y Y' (r.bind f) (r.bind g):=by
 cases r with
 |none=>exact iB|some x=>exact h x
theorem yA {W:Key->Prop}{c:Prop}[Decidable c]{r r' s s':Option (V×ah)}(h1:Local W Y Y' r r')(h2:Local W Y Y' s s'):Local W Y Y' (if c then r else s) (if c then r' else s'):=by split<;>assumption
theorem Mg (ht:Y'.top=Y.top){s n:Nat}{v:V}:Local (fun k=>k∈[Key.top]) Y Y' (some (v,Y.eB s n)) (some (v,Y'.eB s n)):=fun v1 aB h=>by
 simp only[iE,mF] at h;obtain⟨rfl,rfl⟩:=h;refine⟨_,rfl,⟨rfl,rfl⟩,⟨rfl,rfl⟩,fun k hk=>?_,fun k hk=>ahg hk,fun k hk=>ahg hk⟩;obtain rfl:k= .top:=by simpa using hk
 show upd Y'.top s n=upd Y.top s n;rw[ht]
theorem ahh {t:TypeId}{m k v:V}(h:∀q∈jh m,jF Y Y' q):
 Local (fun q=>q∈jh m) Y Y' ((Au E.P Y t m k v).map fun Y=>(aP,Y)) ((Au E.P Y' t m k v).map fun Y=>(aP,Y)):=by
 unfold Au;exact iB
theorem arn {fr:Fr}{st:Nat}{o:Oper}{t:TypeId}{l c:V}(h:∀q∈Key.top::wD fr o,jF Y Y' q):
 Local (fun q=>q∈Key.top::wD fr o) Y Y' (Av E.P fr.aj Y st (o.dst.map fun t=>(fr.d,t)) t l c) (Av E.P fr.aj Y' st (o.dst.map fun t=>(fr.d,t)) t l c):=by
 unfold Av;exact iB
theorem WM {zeros:Bool}{st:Nat}{loc:Option Loc}{t:TypeId}{x y:V}(hy:∀q∈jh y,jF Y Y' q)(ht:Y'.top=Y.top):
 Local (fun q=>q∈[Key.top]) Y Y' (kI E.P false zeros Y st loc t x y) (kI E.P false zeros Y' st loc t x y):=by
 unfold kI;refine qR (fun e=>qR (fun sz=>qR (fun gI=>qR (fun ag=>qR (fun z=>yA ?_ iB)))));rw[arl hy];refine qR (fun ys=>yA ?_ iB);cases x with
 |ak c l=>
  simp only;refine yA ?_ iB;cases c with
  |own n s=>simp only[ht];exact yA (Mg ht) iB|nil=>exact Mg ht|full=>exact Mg ht|sh=>exact iB
 |aS kJ s off len cap bF Ci=>simp only[dG,false_and,and_false,if_false];exact iB|_=>exact iB
theorem Rk {aj:Bool}{loc:Option Loc}{st:Nat}{b:Builtin}{tys:Array TypeId}{args:List V}(hb:b= .len\/b= .cap\/b= .min\/b= .max)(h:∀x∈args,∀q∈jh x,jF Y Y' q):
 Reads Y Y' (qN E aj loc Y st b tys args) (qN E aj loc Y' st b tys args):=by
 rcases hb with rfl|rfl|rfl|rfl
 .rcases args with _| ⟨x,_| ⟨y,l⟩⟩
  .exact vE
  .refine Cn (fun t=>?_);rw[ark (h x aD)];exact qz _
  .exact vE
 .rcases args with _| ⟨x,_| ⟨y,l⟩⟩
  .exact vE
  .refine Cn (fun t=>Cn (fun e=>?_));cases x with
   |ak c l=>cases c<;>first|exact qQ|exact vE
   |_=>exact vE
  .exact vE
 .rcases args with _| ⟨x,l⟩
  .exact vE
  .exact qz _
 .rcases args with _| ⟨x,l⟩
  .exact vE
  .exact qz _
theorem aro {loc:Option Loc}{st:Nat}{tys:Array TypeId}{args:List V}(h:∀x∈args,∀q∈jh x,jF Y Y' q)(ht:Y'.top=Y.top):
 Local (fun q=>q∈[Key.top]) Y Y' (qN E false loc Y st .append tys args) (qN E false loc Y' st .append tys args):=by
 rcases args with _| ⟨x,_| ⟨y,_| ⟨z,l⟩⟩⟩
 .exact iB
 .exact iB
 .refine qR (fun t=>qR (fun u=>?_));split
  .exact WM (h y aD) ht
  .exact WM (h y aD) ht
  .exact WM (h y aD) ht
  .exact iB
 .exact iB
end
section
variable {E:Env}{S:iW}{fr fr':Fr}{Y Y':ah}
theorem ahi {loc:Loc}{k:Key}(hk:k∉[Key.obj loc]):jF Y (Y.ko loc) k:=by
 cases k with
 |obj l=>have:l≠loc:=fun e=>hk GD;show upd Y.obj loc none l=Y.obj l;simp[upd,this]
 |top=>rfl|slot t=>trivial|rest=>trivial|nx=>trivial
theorem arp {loc:Loc}{v:V}:Local (fun k=>k∈[Key.obj loc]) Y Y' (some (v,Y.ko loc)) (some (v,Y'.ko loc)):=fun v1 aB h=>by
 simp only[iE,mF] at h;obtain⟨rfl,rfl⟩:=h;refine⟨_,rfl,⟨rfl,rfl⟩,⟨rfl,rfl⟩,fun k hk=>?_,fun k hk=>ahi hk,fun k hk=>ahi hk⟩;obtain rfl:k= .obj loc:=by simpa using hk
 show upd Y'.obj loc none loc=upd Y.obj loc none loc;simp[upd]
theorem arq {x:V}(h:∀k,k∈jh x->jF Y Y' k):Local (fun k=>k∈jh x) Y Y' (yj Y x) (yj Y' x):=by
 cases x with
 |aS loc s off len cap bF ag=>have h1:Y'.obj loc=Y.obj loc:=h (.obj loc) (by simp[jh]);simp only[yj,Hr h1];exact qR (fun cs=>yA arp iB)
 |_=>exact qQ.local.mono (fun k hk=>by cases hk) h
theorem ars {st:Nat}{o:Oper}(hc:∀c,o.op≠ .call c)(hw:(gB E fr o).mh=false)(h:∀k,k∈(gB E fr o).t\/k∈(gB E fr o).w->jF Y Y' k):
 Local (fun k=>k∈(gB E fr o).w) Y Y' (dK E fr Y st o) (dK E fr Y' st o):=by
 cases ho:o.op<;>simp only[gB,ho,gJ,reduceCtorEq,Bool.true_eq_false] at hw;case call c=>exact absurd ho (hc c)
 all_goals
  simp only[gB,ho,nA,nC] at h;simp only[gB,ho,nA,nC];unfold dK;simp only[ho]
 case move x=>
  by_cases hz:yh E o.dst=true
  .simp only[hz,if_true] at h⊢;exact arq (fun k hk=>h k (.inr hk))
  .simp only[hz,dG,if_false];exact qQ.local
 case assign=>exact qQ.local
 case pick=>exact(qz _).local
 case alloc t=>
  cases hd:o.dst with
  |none=>exact iB|some d=>simp only[Option.map_some,Option.bind_some,wD,hd];exact qR (fun z=>yA Rj iB)
 case box t x=>
  by_cases hz:tZ E t o.dst=true
  .simp only[hz,if_true];exact(Ri qQ vE).local.mono (fun k hk=>by cases hk) (fun k hk=>h k (.inr hk))
  .simp only[hz,dG,if_false];cases hd:o.dst with
   |none=>exact iB|some d=>simp only[Option.map_some,Option.bind_some,wD,hd];exact yA Rj iB
 case build t parts=>exact(Cn (fun _=>Cn (fun _=>qz _))).local
 case buildSlice t len parts=>
  by_cases hz:zm E o.dst=true
  .simp[hz,gJ] at hw
  .simp only[hz,dG,if_false];exact(qz _).local.mono (fun k hk=>by cases hk) (fun k hk=>by cases hk)
 case load t a=>
  cases hx:fr.ev E a with
  |ref loc s off=>have h1:Y'.obj loc=Y.obj loc:=h (.obj loc) (by simp[hx,jh]);simp only[Hr h1];exact(Cn (fun _=>qz _)).local
  |aW cs off=>exact(qz _).local|_=>exact iB
 case store t a x=>
  cases hx:fr.ev E a with
  |ref loc s off=>have h1:Y'.obj loc=Y.obj loc:=h (.obj loc) (by simp[hx,jh]);simp only[Hr h1];exact qR (fun _=>yA Rj iB)
  |_=>exact iB
 case nilCheck x=>
  cases hx:fr.ev E x with
  |ref loc s off=>exact qQ.local|aW cs off=>exact qQ.local|fn f a b=>cases f<;>first|exact qQ.local|exact iB
  |_=>exact iB
 case binOp=>exact(qz _).local
 case unOp=>exact(qz _).local
 case convert a b x=>rw[arh (fun k hk=>h k (.inl hk))];exact(qz _).local
 case sliceToArrayPointer t x=>
  refine qR (fun p=>?_);cases hx:fr.ev E x with
  |aS loc s off len cap bF ag=>exact(Ri qQ vE).local|ak c l=>exact(Ri qQ vE).local|_=>exact iB
 case typeAssert=>exact(qz _).local
 case makeInterface t x=>
  split
  .exact iB
  .exact qQ.local
  .exact iB
 case makeFunc f a b=>cases f<;>first|exact qQ.local|exact iB
 case makeMap t r=>
  cases r with
  |some _=>exact iB|none=>
   cases hd:o.dst with
   |none=>exact iB|some d=>simp only[Option.map_some,wD,hd];exact Rj
 case makeSlice t l c=>exact arn (fun q hq=>h q (.inr hq))
 case slice t x lo hi mx=>rw[ari (fun k hk=>h k (.inl hk))];exact(qz _).local
 case fieldAddr t x f=>
  refine qR (fun p=>?_);cases hx:fr.ev E x with
  |ref loc s off=>exact qQ.local|aW cs off=>exact qQ.local|_=>exact iB
 case field t x f=>
  refine qR (fun p=>?_);cases hx:fr.ev E x with
  |agg cs=>exact(qz _).local|_=>exact iB
 case indexAddr=>exact(qz _).local
 case index=>exact(qz _).local
 case lookup t x i ok=>rw[arj (fun k hk=>h k (.inl hk))];exact(qz _).local
 case mapUpdate t m k v=>exact ahh (fun q hq=>h q (.inr hq))
 case insert t m k v=>exact ahh (fun q hq=>h q (.inr hq))
 case extract x i=>
  cases hx:fr.ev E x with
  |bV vs=>exact(qz _).local|_=>exact iB
theorem Mh {U β:Type}{f g:U->Option β}:∀{l:List U},(∀x∈l,f x=g x)->l.mapM f=l.mapM g
 | [],_=>rfl|a::l,h=>by simp only[iN];rw[h a aD,Mh (fun x hx=>h x (by simp[hx]))]
theorem WO {n:Nat}{x:V}(hp:aR x=true):bq n Y' x=bq n Y x:=by
 cases n with
 |zero=>rfl|succ n=>unfold bq;simp only[hp,if_true]
theorem ahj {l:List V}{x:V}(h:x∈l):∃i,∃hi:i<l.length,x=l[i]:=by obtain⟨i,hi,e⟩:=GH.1 h;exact⟨i,hi,e.symm⟩
theorem ahk {n:Nat}{c:Cap}{l:List V}(hp:bY l=true):bq n Y' (.ak c l)=bq n Y (.ak c l):=by
 cases n with
 |zero=>rfl|succ n=>
  unfold bq;split
  .rfl
  .simp only;rw[Mh (fun x hx=>?_)];obtain⟨i,hi,rfl⟩:=ahj hx;exact WO (L6 hp hi)
theorem aru {n:Nat}{x:V}(hp:aR (gH x)=true):bq n Y' x=bq n Y x:=by
 cases x with
 |ak c l=>exact ahk (by simpa [gH,aR] using hp)|_=>exact WO hp
theorem ahl {n:Nat}{x:V}(hp:aR (er x)=true):bq n Y' x=bq n Y x:=by
 cases x with
 |ak c l=>exact ahk Qz|agg cs=>
  have hp':bY (cs.map gH)=true:=Qz
  cases n with
  |zero=>rfl|succ n=>
   unfold bq;split
   .rfl
   .simp only;rw[Mh (fun x hx=>?_)];obtain⟨i,hi,rfl⟩:=ahj hx;refine aru ?_;have:=L6 hp' (i:=i) kg;simpa using this
 |_=>exact WO hp
theorem arv {d:Nat}{g:FuncId}{a b args:List V}(hi:E.imp g=false)(hp:(a++args++b).all (fun v=>aR (er v))=true):
 Reads Y Y' (jL E S d Y (.fn (.func g) a b) args) (jL E S d Y' (.fn (.func g) a b) args):=by
 unfold jL;simp only[hi,dG,if_false];rw[Mh (f:=bq 20 Y') (g:=bq 20 Y) (fun x hx=>ahl (by simp only[lK] at hp;exact hp x hx))];exact Cn (fun dN=>Cn (fun v=>Ri qQ vE))
theorem arw {d:Nat}{g:FuncId}{a b args:List V}(hi:E.imp g=false){v:V}{aB:ah}(h:jL E S d Y (.fn (.func g) a b) args=some (v,aB)):aB=Y:=by
 unfold jL at h;simp only[hi,dG,if_false,iP] at h;obtain⟨_,_,_,_,h⟩:=h;split at h
 .simp only[iE,mF] at h;exact h.2.symm
 .simp at h
theorem eD.refl (k:Key)(x:Fr×ah):eD k x x:=by cases k<;>simp[eD]
theorem eD.symm {k:Key}{x y:Fr×ah}(h:eD k x y):eD k y x:=by
 cases k with
 |slot t=>exact Eq.symm h|obj l=>exact Eq.symm h|top=>exact Eq.symm h|rest=>exact⟨h.1.symm,h.2.symm⟩|nx=>exact⟨h.1.symm,h.2.symm⟩
theorem eD.trans {k:Key}{x y z:Fr×ah}(h:eD k x y)(g:eD k y z):eD k x z:=by
 cases k with
 |slot t=>exact Eq.trans h g|obj l=>exact Eq.trans h g|top=>exact Eq.trans h g|rest=>exact⟨h.1.trans g.1,h.2.trans g.2⟩|nx=>exact⟨h.1.trans g.1,h.2.trans g.2⟩
theorem eD.all {x y:Fr×ah}(h:∀k,eD k x y):x=y:=by obtain⟨⟨d,aj,tm⟩,⟨nx,top,obj,lp⟩⟩:=x;obtain⟨⟨d',aFw,tm'⟩,⟨nx',top',Mi,ahm⟩⟩:=y;obtain⟨h1,h2⟩:=h .rest;obtain⟨h3,h4⟩:=h .nx;have h5:top=top':=h .top;have h6:obj=Mi:=funext fun l=>h (.obj l);have h7:tm=tm':=funext fun t=>h (.slot t);simp only at h1 h2 h3 h4;subst h1 h2 h3 h4 h5 h6 h7;rfl
def dP.T (f:dP)(k:Key):Prop:=k= .rest\/k∈f.t\/k∈f.w\/((f.qw=true\/f.mh=true)/\k.state=true)
def dP.W (f:dP)(k:Key):Prop:=k∈f.w\/(f.mh=true/\k.state=true)
theorem dP.Rl {f:dP}{k:Key}(h:f.W k):f.T k:=by
 rcases h with h| ⟨h,h1⟩
 .exact .inr (.inr (.inl h))
 .exact .inr (.inr (.inr ⟨.inr h,h1⟩))
end
theorem ahn {U:Type}{p q:U->Bool}{a:U}:∀{l:List U},(∀x,q x=true->p x=true)->a∈l->p a=true->q a=false->l.countP q<l.countP p
 | [],_,h,_,_=>cZ|x::l,WQ,hm,hp,hq=>by
  rw[List.countP_cons,List.countP_cons];have hle:l.countP q<=l.countP p:=List.countP_mono_left (fun x _ h=>WQ x h);rcases jr.1 hm with e|e
  .subst e;simp only[hp,hq,if_true];have:(if false=true then 1 else 0)=0:=rfl;omega
  .have:=ahn WQ e hp hq;by_cases hx:q x=true
   .have:=WQ x hx;simp only[hx,this,if_true];omega
   .have hx':q x=false:=(by simpa using hx);rw[hx'];have h0:(if false=true then 1 else 0:Nat)=0:=rfl;rw[h0];omega
structure Co (md:Region.Mode)(ops:Array Oper)(done l:List Nat):Prop where
 nodup:l.Nodup
 mem:∀i∈l,i<ops.size/\i∉done
 all:∀i,i<ops.size->i∈done\/i∈l
 ord:∀l1 i l2,l=l1++i::l2->∀o,ops[i]? =some o->∀e∈o.after.toList,Region.binds md e=true->e.on∈done\/e.on∈l1
theorem go_acc (md:Region.Mode)(ops:Array Oper):∀(fuel t:Nat)(listed:Array Bool)(acc:List Nat),
 Region.linearise.go md ops fuel t listed acc=acc.reverse++Region.linearise.go md ops fuel t listed []:=by
 intro fuel;induction fuel with
 |zero=>intro t listed acc;simp[Region.linearise.go]|succ fuel ih=>
  intro t listed acc;simp only[Region.linearise.go];split
  .rename_i i _;rw[ih _ _ (i::acc),ih _ _ [i]];simp
  .simp
theorem go_ok (ops:Array Oper)(sO:qx ops.toList=true):∀(fuel t:Nat)(listed:Array Bool)(done:List Nat),
 listed.size=ops.size->(∀i,i<ops.size->(listed.getD i true=true↔i∈done))->(List.range ops.size).countP (fun i=>decide (i∉done))<=fuel->
 Co .any ops done (Region.linearise.go .any ops fuel t listed []):=by
 have WR:∀(i:Nat)(o:Oper),ops[i]? =some o->∀e∈o.after.toList,Region.binds .any e=true->e.on<i:=by
  intro i o ho e he hb;have hi:i<ops.size:=by
   rcases Nat.lt_or_ge i ops.size with h|h
   .exact h
   .rw[Array.getElem?_eq_none h] at ho;cases ho
  simp only[qx,lK] at sO;have:=sO i kg;have ho':ops.toList[i]? =some o:=by simpa using ho
  rw[ho'] at this;simp only[lK] at this;simpa [hb] using this e he
 intro fuel;induction fuel with
 |zero=>
  intro t listed done hsz hl hf;refine⟨by simp[Region.linearise.go],by simp[Region.linearise.go],fun i hi=>?_,fun l1 i l2 h=>by simp[Region.linearise.go] at h⟩;by_cases hd:i∈done
  .exact .inl hd
  .have:0< (List.range ops.size).countP (fun i=>decide (i∉done)):=List.countP_pos_iff.2 ⟨i,kg,by simpa using hd⟩;omega
 |succ fuel ih=>
  intro t listed done hsz hl hf;simp only[Region.linearise.go];generalize hrs:(List.range ops.size).filter (fun i=>!listed.getD i true&& ((ops[i]?).map (·.after.all fun e=>!Region.binds .any e||listed.getD e.on false)).getD false)=rs;have hmem:∀i,i∈rs↔i<ops.size/\i∉done/\∃o,ops[i]? =some o/\∀e∈o.after.toList,Region.binds .any e=true->e.on∈done:=by
   intro i;rw[<-hrs,Lr];constructor
   .rintro⟨h1,h2⟩;have hi:i<ops.size:=Gy;simp only[aZ,xY] at h2;have hd:i∉done:=fun h=>by have:=(hl i hi).2 h;rw[this] at h2;exact absurd h2.1 aD
    have hoi:ops[i]? =some ops[i]:=(by simp[hi]);refine⟨hi,hd,ops[i],hoi,fun e he hb=>?_⟩;have h3:=h2.2;rw[hoi] at h3;simp only[Option.map_some,Option.getD_some,Array.all_eq_true'] at h3;have h4:=h3 e (by simpa using he);rw[hb] at h4;have hon:e.on<ops.size:=Nat.lt_trans (WR i _ hoi e he hb) hi;have h5:listed.getD e.on false=true:=(by simpa using h4);refine(hl e.on hon).1 ?_;simp only[Array.getD,hsz,hon,dif_pos] at h5⊢;exact h5
   .rintro⟨hi,hd,o,ho,he⟩;refine⟨kg,?_⟩;have h1:listed.getD i true=false:=(by have:=mt (hl i hi).1 hd;simpa using this);simp only[h1,Bool.not_false,Bool.true_and,ho,Option.map_some,Option.getD_some,Array.all_eq_true'];intro e Rm;have aho:e∈o.after.toList:=(by simpa using Rm);cases hb:Region.binds .any e with
    |false=>rfl|true=>have hon:e.on<ops.size:=Nat.lt_trans (WR i _ ho e aho hb) hi;have:=(hl e.on hon).2 (he e aho hb);simp only[Array.getD,hsz,hon,dif_pos] at this⊢;show (!true||listed.getInternal e.on _)=true;rw[this];rfl
  cases hpick:rs[t% rs.length]? with
  |none=>
   have hnil:rs=[]:=by
    cases rs with
    |nil=>rfl|cons x xs=>have hlt:t% (x::xs).length< (x::xs).length:=Nat.mod_lt _ aD;rw[List.getElem?_eq_none_iff] at hpick;omega
   simp only[List.reverse_nil];refine⟨aD,aD,fun i hi=>?_,fun l1 i l2 h=>wH⟩;refine Classical.byContradiction fun hno=>?_;have hex:∃i,i<ops.size/\i∉done:=⟨i,hi,fun h=>hno (.inl h)⟩;have hmin:∀k,(∃i,i<=k/\i<ops.size/\i∉done)->∃i,i<ops.size/\i∉done/\∀j,j<i->j∈done:=by
    intro k;induction k with
    |zero=>rintro⟨i,h0,h1,h2⟩;obtain rfl:i=0:=RS;exact⟨0,h1,h2,fun j hj=>absurd hj (gQ j)⟩
    |succ k ihk=>
     rintro⟨i,h0,h1,h2⟩;by_cases hsm:∃i,i<=k/\i<ops.size/\i∉done
     .exact ihk hsm
     .refine⟨i,h1,h2,fun j hj=>Classical.byContradiction fun hjd=>hsm ⟨j,RS,RS,hjd⟩⟩
   obtain⟨i0,h1,h2,h3⟩:=hmin i ⟨i,iR _,hi,fun h=>hno (.inl h)⟩;have:i0∈rs:=(hmem i0).2 ⟨h1,h2,ops[i0],by simp[h1],fun e he hb=>h3 _ (WR i0 _ (by simp[h1]) e he hb)⟩;rw[hnil] at this;cases this
  |some i=>
   simp only;rw[go_acc,List.reverse_singleton];have hi:i∈rs:=tX hpick;obtain⟨hilt,hid,o,ho,he⟩:=(hmem i).1 hi;have hrec:=ih (t/rs.length) (listed.setIfInBounds i true) (i::done) (by simpa using hsz) (fun j hj=>by
    by_cases hji:j=i
    .subst hji;simp[Array.getD,hsz,hj]
    .have h1:(listed.setIfInBounds i true).getD j true=listed.getD j true:=(by simp only[Array.getD,Array.size_setIfInBounds,hsz,hj,dif_pos];exact Array.getElem_setIfInBounds_ne RS (Ne.symm hji));rw[h1,hl j hj];simp[hji]) (by
    have:=ahn (l:=List.range ops.size) (p:=fun j=>decide (j∉done)) (q:=fun j=>decide (j∉i::done)) (a:=i)
     (fun x hx=>by simp at hx⊢;exact hx.2) (by simpa using hilt) (by simpa using hid) aD
    omega)
   refine⟨?_,?_,?_,?_⟩
   .simp only[List.singleton_append,Ao];exact⟨fun h=>(hrec.mem i h).2 aD,hrec.nodup⟩
   .intro j hj;rcases jr.1 hj with e|e
    .subst e;exact⟨hilt,hid⟩
    .have:=hrec.mem j e;exact⟨this.1,fun h=>this.2 Ei⟩
   .intro j hj;rcases hrec.all j hj with h|h
    .rcases jr.1 h with e|e
     .exact .inr GD
     .exact .inl e
    .exact .inr Ei
   .intro l1 j l2 hjl o' ho' e Rm hb;cases l1 with
    |nil=>simp only[List.singleton_append,List.nil_append,sJ] at hjl;obtain⟨rfl,_⟩:=hjl;rw[ho] at ho';cases ho';exact .inl (he e Rm hb)
    |cons a l1=>
     simp only[List.singleton_append,List.cons_append,sJ] at hjl;obtain⟨rfl,hjl⟩:=hjl;rcases hrec.ord l1 j l2 hjl o' ho' e Rm hb with h|h
     .rcases jr.1 h with e'|e'
      .exact .inr (by simp[e'])
      .exact .inl e'
     .exact .inr Ei
theorem arx (ops:Array Oper)(sO:qx ops.toList=true)(t:Nat):Co .any ops [] (Region.linearise .any ops t):=by
 refine go_ok ops sO ops.size t _ [] aD (fun i hi=>?_) ?_
 .simp[hi]
 .have:=List.countP_le_length (p:=fun i=>decide (i∉([]:List Nat))) (l:=List.range ops.size);simpa using this
theorem arz {mixed:Bool}(hm:mixed=true)(ops:Array Oper)(sO:qx ops.toList=true)(t:Nat):∃md,Co md ops [] (Region.schedule mixed ops t):=by unfold Region.schedule;rw[hm,Bool.true_or,if_pos rfl];exact⟨_,arx _ sO _⟩
theorem arA {e:Edge}(md:Region.Mode)(h:Region.binds .any e=true):Region.binds md e=true:=by
 unfold Region.binds at h⊢;split at h
 .simp at h
 .simp at h
 .rfl
section
variable {E:Env}{S:iW}{fr fr':Fr}{Y Y':ah}
theorem Key.eq_iff {a b:Key}:a.eq b=true↔a=b:=by
 cases a<;>cases b<;>simp[Key.eq,rP];rename_i x y;obtain⟨x1,x2⟩:=x;obtain⟨y1,y2⟩:=y;simp;exact⟨fun h=>⟨h.2,h.1⟩,fun h=>⟨h.2,h.1⟩⟩
theorem ahp {f g:dP}(h:clash f g=false)(k:Key):¬(f.W k/\g.T k):=by
 rintro⟨hw,ht⟩;simp only[clash,tY,List.any_eq_false] at h;obtain⟨h1,h2⟩:=h;have WS:k∈f.w:=by
  rcases hw with h| ⟨h,hs⟩
  .exact h
  .rw[h,Bool.true_and] at h1;simp only[tY,List.any_eq_false] at h1;obtain⟨⟨⟨a1,a2⟩,a3⟩,a4⟩:=h1;rcases ht with e|e|e| ⟨e,_⟩
   .subst e;cases hs
   .exact absurd hs (a3 k e)
   .exact absurd hs (a4 k e)
   .rcases e with e|e
    .rw[a1] at e;cases e
    .rw[a2] at e;cases e
 have h3:=h2 k WS;simp only[wI,List.any_eq_true,aZ,not_or,not_exists,not_and] at h3;obtain⟨⟨⟨h4,h5⟩,h6⟩,h7⟩:=h3;rcases ht with h|h|h| ⟨h,hs⟩
 .exact h4 (Key.eq_iff.2 h)
 .exact h5 k h (Key.eq_iff.2 rfl)
 .exact h6 k h (Key.eq_iff.2 rfl)
 .rcases h with h|h
  .exact h7 (.inl h) hs
  .exact h7 (.inr h) hs
theorem arB {st:Nat}{o:Oper}{v:V}(hop:opC E S fr Y st o=some (v,fr',Y')):fr'=fr:=by
 unfold opC at hop;split at hop
 .split at hop
  .simp only[aY,mF] at hop;obtain⟨_,_,_,rfl,_⟩:=hop;rfl
  .split at hop
   .simp only[aY,mF] at hop;obtain⟨_,_,_,rfl,_⟩:=hop;rfl
   .simp only[aY,mF] at hop;obtain⟨_,_,_,rfl,_⟩:=hop;rfl
  .simp at hop
 .simp at hop
 .simp only[aY,mF] at hop;obtain⟨_,_,_,rfl,_⟩:=hop;rfl
def drop2 (r:Option (V×Fr×ah)):Option (V×ah):=r.map fun (v,_,Y)=>(v,Y)
theorem arC {r:Option (V×Fr×ah)}{v:V}(h:drop2 r=some (v,Y)):∃fr,r=some (v,fr,Y):=by simp only[drop2,aY,mF] at h;obtain⟨⟨v',fr',Y'⟩,h1,rfl,rfl⟩:=h;exact⟨fr',h1⟩
theorem Rn (r:Option (V×ah))(fr:Fr):drop2 (r.map fun (v,Y)=>(v,fr,Y))=r:=by
 cases r<;>rfl
theorem arD (ht:Y'.top=Y.top){st:Nat}{aB:ah}{v:V}:Local (fun k=>k∈[Key.top]) Y Y' (rO Y st aB v) (rO Y' st aB v):=by
 have hs:∀v:V,Local (fun k=>k∈[Key.top]) Y Y' (some (v,Y)) (some (v,Y')):=fun v=>(qQ (Y:=Y) (Y':=Y')).local.mono (fun k hk=>by cases hk) (fun k hk=>by rw[iZ.1 hk];exact ht)
 unfold rO;cases v with
 |ak c l=>
  dsimp only;refine yA ?_ iB;cases c with
  |nil=>exact hs _|full=>exact hs _|own n s=>exact yA (Mg ht) iB|sh=>exact iB
 |aS loc s off len cap bF ag=>dsimp only;exact yA (qR fun _=>Mg ht) iB
 |_=>exact iB
theorem arE {b:Bool}{l:List V}(hp:l.all (fun a=>aR (er a))=true):vv b Y' l=vv b Y l:=by
 have hm:∀l:List V,l.all (fun a=>aR (er a))=true->l.mapM (bq 20 Y')=l.mapM (bq 20 Y):=fun l hp=>Mh fun x hx=>ahl (lK.1 hp x hx);unfold vv;cases b with
 |false=>simp only[dG,if_false];exact hm l hp|true=>
  simp only[if_true]
  match l,hp with
  | [],_=>rfl|.ak .nil []::l,hp=>rw[List.all_cons,aZ] at hp;dsimp only;rw[hm l hp.2]|.ak .nil (_::_)::_,_=>rfl|.ak .sh _::_,_=>rfl|.ak .full _::_,_=>rfl|.ak (.own _ _) _::_,_=>rfl|.int _ _::_,_=>rfl|.bool _::_,_=>rfl|.str _::_,_=>rfl|.gZ::_,_=>rfl|.gL::_,_=>rfl|.iq::_,_=>rfl|.iO::_,_=>rfl|.agg _::_,_=>rfl|.bV _::_,_=>rfl|.aS _ _ _ _ _ _ _::_,_=>rfl|.aW _ _::_,_=>rfl|.ref _ _ _::_,_=>rfl|.fn _ _ _::_,_=>rfl
  |.fq _ _::_,_=>rfl|.fD _ _::_,_=>rfl|.iface _ _::_,_=>rfl|.raw _::_,_=>rfl
theorem arF (ht:Y'.top=Y.top){st:Nat}{fv:V}{args:List V}:Local (fun k=>k∈[Key.top]) Y Y' (qO E S Y st fv args) (qO E S Y' st fv args):=by
 unfold qO;cases fv with
 |fn f a b=>
  cases f with
  |func f=>
   dsimp only;by_cases hp:(a++args++b).all (fun a=>aR (er a))=true
   .rw[if_pos hp,if_pos hp,arE hp];exact qR fun dN=>qR fun r=>arD ht
   .rw[if_neg hp];exact iB
  |_=>exact iB
 |_=>exact iB
theorem arG {st:Nat}{o:Oper}(hw:(gB E fr o).mh=false)(vF:(gB E fr o).qw=true->Y'=Y)(h:∀k,k∈(gB E fr o).t\/k∈(gB E fr o).w->jF Y Y' k):
 Local (fun k=>k∈(gB E fr o).w) Y Y' (drop2 (opC E S fr Y st o)) (drop2 (opC E S fr Y' st o)):=by
 by_cases hc:∃c,o.op= .call c
 .obtain⟨c,ho⟩:=hc;unfold opC;simp only[ho];cases fV:c.callee with
  |builtin b=>
   simp only[Rn];simp only[gB,ho,fV] at h hw vF;simp only[gB,ho,fV];have hargs:∀(t:List Key),(∀k,k∈(c.args.toList.flatMap fun x=>jh (fr.ev E x))\/k∈t->jF Y Y' k)->∀x∈c.args.toList.map (fr.ev E),∀q∈jh x,jF Y Y' q:=by intro t ht x hx q hq;obtain⟨y,hy,rfl⟩:=Eo.1 hx;exact ht q (.inl (List.mem_flatMap.2 ⟨y,hy,hq⟩))
   cases b<;>simp only[gJ,reduceCtorEq,Bool.true_eq_false] at hw;case len=>exact(Rk (.inl rfl) (hargs [] h)).local
   case cap=>exact(Rk (.inr (.inl rfl)) (hargs [] h)).local
   case min=>exact(Rk (.inr (.inr (.inl rfl))) (hargs [] h)).local
   case max=>exact(Rk (.inr (.inr (.inr rfl))) (hargs [] h)).local
   case append=>
    cases bQ:fr.aj with
    |true=>rw[bQ] at hw;simp at hw|false=>rw[bQ] at h;simp only[dG,if_false] at h⊢;exact aro (hargs _ h) (h .top (.inr aD))
  |value f=>
   simp only[gB,ho,fV] at h hw vF;simp only[gB,ho,fV];cases eX:lU E fr o f with
   |true=>rw[eX] at h;simp only[if_true] at h⊢;simp only[Rn];have ht:Y'.top=Y.top:=h .top (.inr (by simp[nC]));exact arF ht|false=>
   rw[eX] at h hw vF;simp only[dG,if_false] at h hw vF⊢;simp only[Rn];generalize Ro:fr.ev E f=fv at h hw vF⊢;cases fv with
   |fn g a b=>
    cases g with
    |func g=>
     simp only at h hw vF⊢;cases hi:E.imp g with
     |true=>rw[hi] at hw;simp[gJ] at hw|false=>
      rw[hi] at h vF;simp only[dG,if_false] at h vF⊢;split
      .rename_i hp;exact(arv hi hp).local
      .rename_i hp;rw[if_neg hp] at vF;have:=vF rfl;subst this;intro v aB hr;have:=arw hi hr;subst this;exact⟨aB,hr,.refl _,.refl _,fun k hk=>.refl _ _,fun k hk=>.refl _ _,fun k hk=>.refl _ _⟩
    |_=>simp[gJ] at hw
   |_=>simp[gJ] at hw
  |invoke r m=>exact iB
 .have hc':∀c,o.op≠ .call c:=fun c h=>hc ⟨c,h⟩;have hd:∀(Y:ah),(∀d,o.op≠ .defer d)->drop2 (opC E S fr Y st o)=dK E fr Y st o:=by
   intro Y hd;unfold opC;split
   .rename_i c hh;exact absurd hh (hc' c)
   .rename_i c hh;exact absurd hh (hd c)
   .exact Rn _ _
  by_cases hdf:∃d,o.op= .defer d
  .obtain⟨d,ho⟩:=hdf;simp only[gB,ho,gJ,Bool.true_eq_false] at hw
  .have ahq:∀d,o.op≠ .defer d:=fun d h=>hdf ⟨d,h⟩;rw[hd Y ahq,hd Y' ahq];exact ars hc' hw h
theorem WT {x:V}:Key.nx∉jh x:=by cases x<;>simp[jh]
theorem arH {o:Oper}:Key.nx∉(gB E fr o).w:=by
 have hd:Key.nx∉wD fr o:=by unfold wD;cases o.dst<;>simp
 unfold gB;split<;>try simp[nA,nC,gJ,hd,WT]
 split<;>try simp[nA,nC,gJ,WT]
 all_goals (repeat' split)<;>simp[nA,nC,gJ,WT]
theorem arI {ops:List Oper}{o:Oper}{t:Nat}(h:Operand.tmp t∈o.op.operands.toList):Key.slot t∈sG ops o:=by refine Ep _ (List.mem_filterMap.2 ⟨_,h,rfl⟩)
theorem ahr {ops:List Oper}{o:Oper}(h:∀t,Key.slot t∈sG ops o->fr'.tm t=fr.tm t):∀x∈o.op.operands.toList,fr'.ev E x=fr.ev E x:=by
 intro x hx;cases x with
 |tmp t=>exact h t (arI hx)|_=>rfl
theorem ahs {ops:List Oper}{o:Oper}(h:∀t,Key.slot t∈sG ops o->fr'.tm t=fr.tm t):fJ ops fr' o=fJ ops fr o:=by
 unfold fJ;cases hg:o.guard with
 |none=>rfl|some g=>
  obtain⟨j,want⟩:=g;simp only;cases hd:(ops[j]?).bind (·.dst) with
  |none=>rfl|some t=>have:fr'.tm t=fr.tm t:=h t (BX _ (by simp[hg,hd]));simp only[this]
theorem zu (fr:Fr)(d:Option Nat)(v:V)(t:Nat):(fr.put d v).tm t=if d=some t then v else fr.tm t:=by
 cases d with
 |none=>simp[Fr.put]|some i=>
  show upd fr.tm i v t=_;by_cases h:t=i
  .subst h;simp[upd]
  .have:¬(some i=some t):=fun e=>h (by cases e;rfl);simp[upd,h,this]
theorem Ht (fr:Fr)(d:Option Nat)(v:V):(fr.put d v).d=fr.d:=BQ
theorem Hu (fr:Fr)(d:Option Nat)(v:V):(fr.put d v).aj=fr.aj:=BQ
theorem Hw {o:Oper}{t:Nat}:Key.slot t∈nY o↔o.dst=some t:=by
 unfold nY;cases o.dst with
 |none=>simp|some d=>simp only[iZ,Key.slot.injEq,iE];exact⟨fun h=>h.symm,fun h=>h.symm⟩
theorem Hy {ops:List Oper}{base i:Nat}{o:Oper}(ho:ops[i]? =some o){wt:Bool}(hwt:fJ ops fr o=some wt){bJ:Fr}{aB:ah}(hs:jk E S ops base i fr Y=some (bJ,aB))(x:Fr×ah)(hx:∀k,(d9 E ops fr o wt).T k->eD k (fr,Y) x):
 ∃y:Fr×ah,jk E S ops base i x.1 x.2=some y/\(∀k,(d9 E ops fr o wt).W k->eD k (bJ,aB) y)/\(∀k,¬(d9 E ops fr o wt).W k->eD k x y)/\
  ∀k,¬(d9 E ops fr o wt).W k->eD k (fr,Y) (bJ,aB):=by
 obtain⟨fr',Y'⟩:=x;obtain⟨r1,r2⟩:fr.d=fr'.d/\fr.aj=fr'.aj:=hx .rest (.inl rfl);have hsl:∀t,Key.slot t∈sG ops o->fr'.tm t=fr.tm t:=by
  intro t ht;refine Eq.symm (hx (.slot t) (.inr (.inl ?_)));cases wt
  .exact ht
  .exact Ep _ ht
 have arJ:fJ ops fr' o=some wt:=(ahs hsl).trans hwt;simp only[jk,ho,hwt,Option.bind_some] at hs;simp only[jk,ho,arJ,Option.bind_some];cases wt with
 |false=>
  simp only[dG,if_false,iE,mF] at hs⊢;obtain⟨rfl,rfl⟩:=hs;have hW:∀k,(d9 E ops fr o false).W k↔k∈nY o:=fun k=>by
   refine⟨fun h=>?_,fun h=>.inl h⟩;rcases h with h| ⟨h,_⟩
   .exact h
   .cases h
  have aht:∀(f:Fr)(s:ah) k,¬(d9 E ops fr o false).W k->eD k (f,s) (f.put o.dst aP,s):=by
   intro f s k hk;rw[hW] at hk;cases k with
   |slot t=>show f.tm t=(f.put o.dst aP).tm t;rw[zu,if_neg (fun e=>hk (Hw.2 e))]
   |obj l=>rfl|top=>rfl|rest=>exact⟨(Ht _ _ _).symm,(Hu _ _ _).symm⟩|nx=>exact⟨rfl,rfl⟩
  refine⟨_,rfl,fun k hk=>?_,aht fr' Y',aht fr Y⟩;rw[hW] at hk;cases k with
  |slot t=>show (fr.put o.dst aP).tm t=(fr'.put o.dst aP).tm t;rw[zu,zu,if_pos (Hw.1 hk),if_pos (Hw.1 hk)]|obj l=>exfalso;unfold nY at hk;cases hd:o.dst<;>simp[hd] at hk|top=>exfalso;unfold nY at hk;cases hd:o.dst<;>simp[hd] at hk|rest=>exfalso;unfold nY at hk;cases hd:o.dst<;>simp[hd] at hk|nx=>exfalso;unfold nY at hk;cases hd:o.dst<;>simp[hd] at hk
 |true=>
  simp only[if_true,aY,mF] at hs⊢;obtain⟨⟨v,jd,cO⟩,hop,rfl,rfl⟩:=hs;obtain rfl:=arB hop;have key:∃EN,opC E S fr' Y' (base+i) o=some (v,fr',EN)/\(∀k,(d9 E ops jd o true).W k->eD k (jd,cO) (jd,EN))/\
   (∀k,¬(d9 E ops jd o true).W k->eD k (jd,Y) (jd,cO)/\eD k (jd,Y') (jd,EN)):=by
   rw[ahe (ahr hsl) r1.symm r2.symm];have WU:∀k,(d9 E ops jd o true).T k->jF Y Y' k:=by
    intro k hk;have:=hx k hk;cases k with
    |obj l=>exact Eq.symm this|top=>exact Eq.symm this|slot t=>trivial|rest=>trivial|nx=>trivial
   cases AB:(gB E jd o).mh with
   |true=>
    have hst:∀k:Key,k.state=true->jF Y Y' k:=fun k hk=>WU k (.inr (.inr (.inr ⟨.inr AB,hk⟩)));have hY:Y'=Y:=(by obtain⟨r3,r4⟩:Y.next=Y'.next/\Y.loops=Y'.loops:=hx .nx (.inr (.inr (.inr ⟨.inr AB,rfl⟩)));obtain⟨nx,top,obj,lp⟩:=Y;obtain⟨nx',top',Mi,ahm⟩:=Y';have h1:top'=top:=hst .top rfl;have h2:Mi=obj:=funext fun l=>hst (.obj l) rfl;simp only at r3 r4;subst h1 h2 r3 r4;rfl);subst hY;refine⟨cO,by rw[hop];rfl,fun k _=>.refl _ _,fun k hk=>?_⟩;cases k with
    |slot t=>exact⟨rfl,rfl⟩|obj l=>exact absurd (.inr ⟨AB,rfl⟩) hk|top=>exact absurd (.inr ⟨AB,rfl⟩) hk|rest=>exact⟨⟨rfl,rfl⟩,⟨rfl,rfl⟩⟩|nx=>exact absurd (.inr ⟨AB,rfl⟩) hk
   |false=>
    have vF:(gB E jd o).qw=true->Y'=Y:=(by intro ht;have hst:∀k:Key,k.state=true->jF Y Y' k:=fun k hk=>WU k (.inr (.inr (.inr ⟨.inl ht,hk⟩)));obtain⟨r3,r4⟩:Y.next=Y'.next/\Y.loops=Y'.loops:=hx .nx (.inr (.inr (.inr ⟨.inl ht,rfl⟩)));obtain⟨nx,top,obj,lp⟩:=Y;obtain⟨nx',top',Mi,ahm⟩:=Y';have h1:top'=top:=hst .top rfl;have h2:Mi=obj:=funext fun l=>hst (.obj l) rfl;simp only at r3 r4;subst h1 h2 r3 r4;rfl);have hl:=arG (S:=S) (st:=base+i) AB vF (fun k hk=>WU k (by
     rcases hk with hk|hk
     .exact .inr (.inl (BX _ hk))
     .exact .inr (.inr (.inl (BX _ hk)))))
    obtain⟨EN,h1,h2,h3,h4,h5,h6⟩:=hl v cO (by rw[hop];rfl);obtain⟨aFx,h1'⟩:=arC h1;have hWw:∀k,(d9 E ops jd o true).W k->k∈nY o\/k∈(gB E jd o).w:=fun k hk=>by
     rcases hk with h| ⟨h,_⟩
     .exact rH.1 h
     .have:(gB E jd o).mh=true:=h;rw[AB] at this;cases this
    have hto:∀{Rp Rq:ah}{k:Key},jF Rp Rq k->uq Rp Rq\/k≠ .nx->eD k (jd,Rp) (jd,Rq):=by
     intro Rp Rq k ha hn;cases k with
     |slot t=>rfl|obj l=>exact Eq.symm ha|top=>exact Eq.symm ha|rest=>exact⟨rfl,rfl⟩|nx=>
      rcases hn with hn|hn
      .exact⟨hn.1.symm,hn.2.symm⟩
      .exact absurd rfl hn
    have arK:Key.nx∉(gB E jd o).w:=arH;refine⟨EN,by rw[h1'];rfl,fun k hk=>?_,fun k hk=>?_⟩
    .rcases hWw k hk with h|h
     .cases k with
      |slot t=>rfl|obj l=>exfalso;unfold nY at h;cases hd:o.dst<;>simp[hd] at h|top=>exfalso;unfold nY at h;cases hd:o.dst<;>simp[hd] at h|rest=>exfalso;unfold nY at h;cases hd:o.dst<;>simp[hd] at h|nx=>exfalso;unfold nY at h;cases hd:o.dst<;>simp[hd] at h
     .exact hto (h4 k h) (.inr (fun e=>arK (e▸h)))
    .have hk':k∉(gB E jd o).w:=fun h=>hk (.inl (BX _ h));exact⟨hto (h5 k hk') (.inl h2),hto (h6 k hk') (.inl h3)⟩
  obtain⟨EN,h1,h2,h3⟩:=key;refine⟨(fr'.put o.dst v,EN),⟨_,h1,rfl⟩,fun k hk=>?_,fun k hk=>?_,fun k hk=>?_⟩
  .have hk0:=h2 k hk;cases k with
   |slot t=>
    show (jd.put o.dst v).tm t=(fr'.put o.dst v).tm t;rw[zu,zu];split
    .rfl
    .exact hx (.slot t) (dP.Rl hk)
   |obj l=>exact hk0|top=>exact hk0|rest=>
    refine⟨?_,?_⟩
    .show (jd.put o.dst v).d=(fr'.put o.dst v).d;rw[Ht,Ht];exact r1
    .show (jd.put o.dst v).aj=(fr'.put o.dst v).aj;rw[Hu,Hu];exact r2
   |nx=>exact hk0
  .have hk0:=(h3 k hk).2;cases k with
   |slot t=>show fr'.tm t=(fr'.put o.dst v).tm t;rw[zu,if_neg (fun e=>hk (.inl (Ep _ (Hw.2 e))))]
   |obj l=>exact hk0|top=>exact hk0|rest=>exact⟨(Ht _ _ _).symm,(Hu _ _ _).symm⟩|nx=>exact hk0
  .have hk0:=(h3 k hk).1;cases k with
   |slot t=>show jd.tm t=(jd.put o.dst v).tm t;rw[zu,if_neg (fun e=>hk (.inl (Ep _ (Hw.2 e))))]
   |obj l=>exact hk0|top=>exact hk0|rest=>exact⟨(Ht _ _ _).symm,(Hu _ _ _).symm⟩|nx=>exact hk0
end
end aQ
end
section
namespace aQ
open Go Go.RowKit
section
variable {E:Env}{S:iW}
theorem arL (all:List Oper)(base:Nat):∀(os:List Oper)(k:Nat)(fr:Fr)(Y:ah)(fs:List dP)(yB:Fr)(yC:ah),(∀j,os[j]? =all[k+j]?)->
 mR E S all (base+k) os fr Y=some (fs,yB,yC)->fs.length=os.length/\∃s:Nat->Fr×ah,s k=(fr,Y)/\s (k+os.length)=(yB,yC)/\
  ∀i,k<=i->i<k+os.length->jk E S all base i (s i).1 (s i).2=some (s (i+1))/\∃o wt,all[i]? =some o/\fJ all (s i).1 o=some wt/\fs[i-k]? =some (d9 E all (s i).1 o wt):=by
 intro os;induction os with
 |nil=>intro k fr Y fs yB yC _ h;simp only[mR,iE,mF] at h;obtain⟨rfl,rfl,rfl⟩:=h;exact⟨rfl,fun _=>(fr,Y),rfl,rfl,fun i h1 h2=>Lh⟩
 |cons o os ih=>
  intro k fr Y fs yB yC hall h;have h0:all[k]? =some o:=by simpa using (hall 0).symm
  have arM:∀j,os[j]? =all[k+1+j]? :=fun j=>by have:=hall (j+1);simpa [oZ,Nat.add_comm 1 j] using this
  simp only[mR,iP] at h;obtain⟨wt,hwt,h⟩:=h;have main:∀(bJ:Fr)(aB:ah)(fs':List dP),jk E S all base k fr Y=some (bJ,aB)->mR E S all (base+(k+1)) os bJ aB=some (fs',yB,yC)->fs=d9 E all fr o wt::fs'->
   fs.length=(o::os).length/\∃s:Nat->Fr×ah,s k=(fr,Y)/\s (k+(o::os).length)=(yB,yC)/\
   ∀i,k<=i->i<k+(o::os).length->jk E S all base i (s i).1 (s i).2=some (s (i+1))/\∃o wt,all[i]? =some o/\fJ all (s i).1 o=some wt/\fs[i-k]? =some (d9 E all (s i).1 o wt):=by
   intro bJ aB fs' hstep hrec hfs;obtain⟨hlen,s,hs1,hs2,hs3⟩:=ih (k+1) bJ aB fs' yB yC arM hrec;refine⟨by rw[hfs];simp[hlen],fun i=>if i=k then (fr,Y) else s i,aD,?_,fun i h1 h2=>?_⟩
   .have:¬(k+(o::os).length=k):=aD;simp only[this,if_false];rw[show k+(o::os).length=k+1+os.length by simp;omega];exact hs2
   .by_cases hik:i=k
    .subst hik;have:¬(i+1=i):=RS;simp only[if_true,this,if_false];rw[hs1];exact⟨hstep,o,wt,h0,hwt,by rw[hfs];simp⟩
    .have:¬(i+1=k):=RS;simp only[hik,this,if_false];obtain⟨g1,o',arN,g2,g3,g4⟩:=hs3 i RS Lh;refine⟨g1,o',arN,g2,g3,?_⟩;rw[hfs,show i-k=(i-(k+1))+1 by omega];simpa using g4
  cases wt with
  |true=>simp only[if_true,iP,aY,mF] at h;obtain⟨⟨v,jd,cO⟩,hop,⟨fs',r⟩,hrec,hfs,hr⟩:=h;refine main _ _ fs' ?_ (by rw[<-hr];exact hrec) hfs.symm;simp only[jk,h0,hwt,Option.bind_some,if_true,hop,Option.map_some]
  |false=>simp only[dG,if_false,aY,mF] at h;obtain⟨⟨fs',r⟩,hrec,hfs,hr⟩:=h;refine main _ _ fs' ?_ (by rw[<-hr];exact hrec) hfs.symm;simp only[jk,h0,hwt,Option.bind_some,dG,if_false]
theorem WV (ops:List Oper)(base:Nat):∀(l:List Nat)(x:Fr×ah),Me (fun i x=>jk E S ops base i x.1 x.2) l x=opsL E S ops base l x.1 x.2
 | [],x=>rfl|i::l,x=>by
  simp only[Me,opsL];cases jk E S ops base i x.1 x.2 with
  |none=>rfl|some y=>exact WV ops base l y
def wP (acc:List Nat)(o:Oper):Nat:=o.after.toList.foldl (fun s e=>if Region.binds .any e then s|||2^e.on|||acc.getD e.on 0 else s) 0
theorem arO:∀(ops:List Oper)(acc:List Nat),ops.foldl (fun acc o=>acc++[wP acc o]) acc=acc++(ops.foldl (fun acc o=>acc++[wP acc o]) acc).drop acc.length/\ (ops.foldl (fun acc o=>acc++[wP acc o]) acc).length=acc.length+ops.length/\
 ∀i o,ops[i]? =some o->(ops.foldl (fun acc o=>acc++[wP acc o]) acc).getD (acc.length+i) 0=wP ((ops.foldl (fun acc o=>acc++[wP acc o]) acc).take (acc.length+i)) o:=by
 intro ops;induction ops with
 |nil=>intro acc;simp|cons a ops ih=>
  intro acc;obtain⟨h1,h2,h3⟩:=ih (acc++[wP acc a]);simp only[List.foldl_cons];generalize hR:ops.foldl (fun acc o=>acc++[wP acc o]) (acc++[wP acc a])=R at h1 h2 h3⊢;have hpre:R.take acc.length=acc:=by rw[h1];simp
  refine⟨?_,by rw[h2];simp;omega,fun i o ho=>?_⟩
  .conv=>lhs;rw[<-Em acc.length R,hpre]
  .cases i with
   |zero=>simp at ho;subst ho;rw[Nat.add_zero,hpre,h1];simp|succ i=>have:=h3 i o (by simpa using ho);simpa [oZ,Nat.add_comm 1 i] using this
theorem arP {acc:List Nat}{o:Oper}{j:Nat}(h:(wP acc o).testBit j=true):∃e∈o.after.toList,Region.binds .any e=true/\(j=e.on\/(acc.getD e.on 0).testBit j=true):=by
 unfold wP at h;generalize hl:o.after.toList=l at h;clear hl;have gen:∀(l:List Edge)(s:Nat),(l.foldl (fun s e=>if Region.binds .any e then s|||2^e.on|||acc.getD e.on 0 else s) s).testBit j=true->
  s.testBit j=true\/∃e∈l,Region.binds .any e=true/\(j=e.on\/(acc.getD e.on 0).testBit j=true):=by
  intro l;induction l with
  |nil=>intro s h;exact .inl h|cons e l ih=>
   intro s h;simp only[List.foldl_cons] at h;rcases ih _ h with h1| ⟨e',he',hb,hj⟩
   .split at h1
    .rename_i hb;simp only[Nat.testBit_or,wI] at h1;rcases h1 with (h1|h1)|h1
     .exact .inl h1
     .exact .inr ⟨e,aD,hb,.inl (by rw[Nat.testBit_two_pow] at h1;have:e.on=j:=Gy;exact this.symm)⟩
     .exact .inr ⟨e,aD,hb,.inr h1⟩
    .exact .inl h1
   .exact .inr ⟨e',by simp[he'],hb,hj⟩
 rcases gen l 0 h with h1|h1
 .simp at h1
 .exact h1
theorem arQ {ops:List Oper}(sO:qx ops=true){i j:Nat}{o:Oper}(ho:ops[i]? =some o)(h:((oo ops).getD i 0).testBit j=true):
 ∃e∈o.after.toList,Region.binds .any e=true/\e.on<i/\(j=e.on\/((oo ops).getD e.on 0).testBit j=true):=by
 have hp:oo ops=ops.foldl (fun acc o=>acc++[wP acc o]) []:=rfl;obtain⟨_,_,h3⟩:=arO ops [];have:=h3 i o ho;simp only[List.length_nil,o7] at this;rw[hp,this] at h;obtain⟨e,he,hb,hj⟩:=arP h;have hlt:e.on<i:=by
  have hi:i<ops.length:=by
   rcases Nat.lt_or_ge i ops.length with h|h
   .exact h
   .rw[List.getElem?_eq_none h] at ho;cases ho
  simp only[qx,lK] at sO;have h1:=sO i kg;rw[ho] at h1;simp only[lK] at h1;simpa [hb] using h1 e he
 refine⟨e,he,hb,hlt,hj.imp id (fun hj=>?_)⟩;rw[hp];have e1:∀(l:List Nat)(a b:Nat),a<b->(l.take b).getD a 0=l.getD a 0:=fun l a b hab=>by simp[List.getD,List.getElem?_take,hab]
 rw[e1 _ _ _ hlt] at hj;exact hj
theorem ahu {ops:Array Oper}(sO:qx ops.toList=true){md:Region.Mode}{l:List Nat}(hl:Co md ops [] l):
 ∀(i:Nat)(l1 l2:List Nat),l=l1++i::l2->∀j,((oo ops.toList).getD i 0).testBit j=true->j∈l1:=by
 intro i;induction i using Nat.strongRecOn with
 |_ i ih=>
  intro l1 l2 WW j hj;have hi:i<ops.size:=(hl.mem i (by rw[WW];simp)).1;have hoi:ops[i]? =some ops[i]:=by simp[hi]
  obtain⟨e,he,hb,hlt,WX⟩:=arQ sO (o:=ops[i]) (by simpa using hoi) hj;have hon:e.on∈l1:=by
   rcases hl.ord l1 i l2 WW ops[i] hoi e he (arA md hb) with h|h
   .cases h
   .exact h
  rcases WX with rfl|WX
  .exact hon
  .obtain⟨a,b,rfl⟩:=List.append_of_mem hon;have:=ih e.on hlt a (b++i::l2) (by rw[WW];simp) j WX;exact Ep _ this
theorem arR {ops:Array Oper}{base:Nat}{fr yB:Fr}{Y yC:ah}{fs:List dP}(hF:mR E S ops.toList base ops.toList fr Y=some (fs,yB,yC))(sO:qx ops.toList=true)(hP:Aw (oo ops.toList) fs=true){md:Region.Mode}{l:List Nat}(hl:Co md ops [] l):opsL E S ops.toList base l fr Y=some (yB,yC):=by
 obtain⟨hlen,s,hs0,hsn,hs⟩:=arL ops.toList base ops.toList 0 fr Y fs yB yC (fun j=>aD) (by simpa using hF);have hn:ops.toList.length=ops.size:=aD
 rw[o7,hn] at hsn;have hfs:∀i,i<ops.size->∃o wt,ops.toList[i]? =some o/\fJ ops.toList (s i).1 o=some wt/\fs.getD i gJ=d9 E ops.toList (s i).1 o wt/\jk E S ops.toList base i (s i).1 (s i).2=some (s (i+1)):=by intro i hi;obtain⟨g1,o,wt,g2,g3,g4⟩:=hs i (pR _) RS;exact⟨o,wt,g2,g3,by simp only[Nat.sub_zero] at g4;simp[List.getD,g4],g1⟩
 have hself:∀i,i<ops.size->∀k,¬(fs.getD i gJ).W k->eD k (s i) (s (i+1)):=by intro i hi k hk;obtain⟨o,wt,g1,g2,g3,g4⟩:=hfs i hi;rw[g3] at hk;obtain⟨_,_,_,_,h4⟩:=Hy g1 g2 g4 (s i) (fun k _=>.refl k _);exact h4 k hk
 have hap:∀i j,i<ops.size->j<i->((oo ops.toList).getD i 0).testBit j=true\/((∀k,¬((fs.getD i gJ).W k/\(fs.getD j gJ).T k))/\∀k,¬((fs.getD j gJ).W k/\(fs.getD i gJ).T k)):=by intro i j hi hj;simp only[Aw,lK] at hP;have:=hP i dw j Ed;simp only[wI] at this;refine this.imp id (fun h=>?_);simp only[VK,aZ,xY] at h;exact⟨ahp h.1,ahp h.2⟩
 have key:=ahd (X:=Fr×ah) (Key:=Key) ops.size (fun i x=>jk E S ops.toList base i x.1 x.2) eD eD.refl (fun k x y z=>eD.trans) s
  (fun i=>(fs.getD i gJ).T) (fun i=>(fs.getD i gJ).W) (fun i k=>dP.Rl)
  (fun i hi x hx=>by obtain⟨o,wt,g1,g2,g3,g4⟩:=hfs i hi;obtain⟨y,h1,h2,h3,_⟩:=Hy g1 g2 g4 x (fun k hk=>hx k (by rw[g3];exact hk));exact⟨y,h1,fun k hk=>h2 k (by rw[<-g3];exact hk),fun k hk=>h3 k (by rw[<-g3];exact hk)⟩)
  hself (fun j i=>((oo ops.toList).getD i 0).testBit j=true) hap (fun k x y=>eD.symm)
  l [] (fr,Y) hl.nodup hl.mem hl.all (fun l1 i l2 h j hj=>.inr (ahu sO hl i l1 l2 h j hj)) (fun i hi=>by cases hi)
  (by
    intro k m;induction m with
    |zero=>intro _ _;rw[hs0];exact .refl _ _|succ m ih=>intro hm hj;refine eD.trans (eD.symm (hself m RS k (fun hw=>?_))) (ih RS (fun j hjn hw=>⟨(fun h=>cZ),(fun h=>by have:=(hj j hjn hw).2 RS;cases this)⟩));have:=(hj m RS hw).2 RS;cases this)
 obtain⟨y,h1,h2⟩:=key;rw[WV] at h1;have:=eD.all h2;rw[hsn] at this;rw[h1,<-this]
theorem arS {ops:Array Oper}{base:Nat}{x y:Fr×ah}(hF:Free E S (oo ops.toList) ops.toList base x y)(sO:qx ops.toList=true){md:Region.Mode}{l:List Nat}(hl:Co md ops [] l):
 opsL E S ops.toList base l x.1 x.2=some y:=by
 obtain⟨s,T,W,h0,hn,EM,hloc,hself,hap⟩:=hF;have hsz:ops.toList.length=ops.size:=aD
 rw[hsz] at hn hloc hself hap;obtain⟨z,h1,h2⟩:=ahd (X:=Fr×ah) (Key:=Key) ops.size (fun i x=>jk E S ops.toList base i x.1 x.2) eD eD.refl (fun k x y z=>eD.trans) s T W EM
  hloc hself (fun j i=>((oo ops.toList).getD i 0).testBit j=true) hap (fun k x y=>eD.symm)
  l [] x hl.nodup hl.mem hl.all (fun l1 i l2 h j hj=>.inr (ahu sO hl i l1 l2 h j hj)) (fun i hi=>by cases hi)
  (by
    intro k m;induction m with
    |zero=>intro _ _;rw[h0];exact .refl _ _|succ m ih=>intro hm hj;refine eD.trans (eD.symm (hself m RS k (fun hw=>?_))) (ih RS (fun j hjn hw=>⟨(fun h=>cZ),(fun h=>by have:=(hj j hjn hw).2 RS;cases this)⟩));have:=(hj m RS hw).2 RS;cases this)
 rw[WV] at h1;have:=eD.all h2;rw[hn] at this;rw[h1,<-this]
end
section
variable {E:Env}{S:iW}{B0:Nat}{Y Y':ah}{K K':bA}{w w':World}{fr fr':Fr}{a:Act}{n:Nat}
theorem arT (hE:o8 E)(hS:Sound E S){id:Nat}{ops:Array Oper}{dr:Bool}{e:Ex}(h:eu E S (.region id ops dr) fr Y=some (e,fr',Y')):qy E (.region id ops dr) fr Y e fr' Y':=by
 have fin:∀(l:List Nat),opsL E S ops.toList Y.next l fr {Y with next:=Y.next+ops.toList.length}=some (fr',Y')->l.Nodup->(∀i∈l,i<ops.size)->∀ro B0 K w a n ds Q,St E B0 Y K w fr a n ds->iI n (.region id ops dr)=true->
  (∀x a' w',EK E B0 n ds Y K w .normal fr' Y' x a' w'->Q x a' w')->wpOpsIn (oW ro) 0 E.P ops Q l a w:=by
  intro l hl hnd hlt ro B0 K w a n ds Q hs hok hq;have hnx:=Md hS _ _ _ _ _ hl;simp only at hnx;have hs':St E B0 {Y with next:=Y.next+ops.toList.length} K w fr a n ds:=⟨ahb hs.ok _,hs.hB,hs.fr,hs.sz,hs.df,fun s h=>nD (hs.st s h) (mg _ _),hs.hD⟩;refine ahc hE hS ops Y.next hok ro _ l fr _ K w a hl hnd hlt hs' aD (fun i _ hA=>by have:=hs.st _ hA;omega) (fun a' K' w' hs2 st=>hq _ _ _ ?_);refine⟨trivial,K',hs2,?_⟩;have st':Step E B0 (newer Y Y') {Y with next:=Y.next+ops.toList.length} K w Y' K' w':=st.mono (fun s hs=>by
   rcases hs with h|h
   .exact⟨h.1,by simp at hnx;omega⟩
   .refine⟨eZ (mg _ _) h.1,h.2⟩)
  exact⟨st'.ok,st'.ext,st'.below,st'.D,st'.A,st'.zn,st'.zo⟩
 simp only[eu] at h;split at h
 .rename_i hdr;simp only[iP] at h;obtain⟨⟨fs,bJ,aB⟩,hF,h⟩:=h;have hall:bJ=fr'/\aB=Y'/\e= .normal/\qx ops.toList=true/\∀md l,Co md ops [] l->opsL E S ops.toList Y.next l fr {Y with next:=Y.next+ops.toList.length}=some (fr',Y'):=by
   split at h
   .rename_i Hz;simp only[iE,mF] at h;obtain⟨rfl,rfl,rfl⟩:=h;simp only[aZ] at Hz;exact⟨rfl,rfl,rfl,Hz.1,fun md l hl=>arR hF Hz.1 Hz.2 hl⟩
   .unfold Lv at h;split at h
    .rename_i hfree;simp only[iE,mF] at h;obtain⟨rfl,rfl,rfl⟩:=h;exact⟨rfl,rfl,rfl,hfree.1,fun md l hl=>arS hfree.2 hfree.1 hl⟩
    .cases h
  obtain⟨rfl,rfl,rfl,Hz,Rh⟩:=hall;have hany:∀t,∃md,Co md ops [] (Region.schedule (E.P.follows .mixedOrders) ops t):=fun t=>arz hE.mixed _ Hz t;have hdo:∀t,opsL E S ops.toList Y.next (Region.schedule (E.P.follows .mixedOrders) ops t) fr {Y with next:=Y.next+ops.toList.length}=some (bJ,aB):=fun t=>by obtain⟨md,hl⟩:=hany t;exact Rh md _ hl
  have hnx:=Md hS _ _ _ _ _ (hdo 0);simp only at hnx;refine⟨eZ (mg _ _) hnx,fun ro B0 K w a n ds hs hok _=>?_⟩;rw[hdr];refine wpIn_region_draw (fun t=>?_);obtain⟨md,hl⟩:=hany t;have hst:=Step.same (new:=newer Y Y) hs.ok (w':={w with drawn:=w.drawn+1}) rfl rfl rfl rfl;have hs1:St E B0 Y K {w with drawn:=w.drawn+1} fr a n ds:=⟨hst.ok,hs.hB,hs.fr.ext hst.ext,hs.sz,hs.df,hs.st,hs.hD⟩;refine fin _ (hdo t) hl.nodup (fun i hi=>(hl.mem i hi).1) ro B0 K _ a n ds _ hs1 (by rw[hdr];exact hok) ?_;rintro x a' w' ⟨h1,K',h2,h3⟩;exact⟨h1,K',h2,hst.widen h3 (iR _) (eZ (mg _ _) hnx)⟩
 .rename_i hdr;have hdr':dr=false:=by simpa using hdr
  simp only[aY,mF] at h;obtain⟨⟨bJ,aB⟩,hF,rfl,rfl,rfl⟩:=h;rw[aq3] at hF;have hnx:=Md hS _ _ _ _ _ hF;simp only at hnx;refine⟨eZ (mg _ _) hnx,fun ro B0 K w a n ds hs hok _=>?_⟩;rw[hdr'];exact wpIn_region (fin _ hF List.nodup_range (fun i hi=>kg) ro B0 K w a n ds _ hs (by rw[hdr'];exact hok) (fun _ _ _ h=>h))
end
section
variable {E:Env}{S:iW}{K K':bA}{w w':World}{Y Y':ah}{B0:Nat}
theorem WY (K:bA)(T:Nat->Nat)(w:World)(D':Nat->Prop):Ext K T w {K with D:=D'} T w:=
 ⟨fun _ h=>⟨h,rfl,rfl,rfl⟩,fun _ _=>.inl ⟨rfl,rfl,rfl,rfl⟩,fun _ _ h=>⟨h,rfl⟩,fun _ h=>⟨h,rfl⟩⟩
theorem bH.Rs (h:bH E B0 Y K w)(D':Nat->Prop)(hD:∀b,D' b->w.heap[b]? =some (.deferred (some []))):bH E B0 Y {K with D:=D'} w:=by
 have e:=WY K Y.top w D';refine⟨fun loc s ob hs=>?_,h.own,h.I,h.IM,fun l r hl=>?_,fun g cs hg=>(h.glob g cs hg).ext e,h.rb,hD⟩
 .obtain⟨a1,a2,a3⟩:=h.obj loc s ob hs;exact⟨a1,a2.ext e a1 (fun _=>rfl),a3⟩
 .obtain⟨a1,a2⟩:=h.loop l r hl;exact⟨a1,a2.ext e a1 rfl rfl⟩
theorem bH.Rt (h:bH E B0 Y K w)(hB:B0<=w.heap.size){new:Nat->Prop}{b:Nat}{o o':Obj}(hb0:B0<=b)(hb:w.heap[b]? =some o)(hc:∀vals t f,o≠ .cells vals t f)(hm:∀es fu,o≠ .map es fu)(arU:∀l r,Y'.loops l=some r->Y.loops l=some r/\K.lp l≠b)(h1:Y'.obj=Y.obj)(h2:Y'.top=Y.top)(D':Nat->Prop)(hD:∀x,D' x->K.D x/\x≠b)(arV:∀x,K.D x->D' x):
 Step E B0 new Y K w Y' {K with D:=D'} (w.putObj b o')/\bH E B0 Y' {K with D:=D'} (w.putObj b o'):=by
 have hlt:=lt_of_heap hb;have ho:=WE w b o';have hcell:∀b' i v,w.cell? (at_ b' i)=some v->b'≠b:=fun b' i v hv e=>by
  subst e;have:∃vals t f,o= .cells vals t f:=by simp only[World.cell?,hb] at hv;cases o<;>simp at hv;exact⟨_,_,_,rfl⟩
  obtain⟨vals,t,f,rfl⟩:=this;exact hc _ _ _ rfl
 have e:Ext K Y.top w {K with D:=D'} Y'.top (w.putObj b o'):=by
  rw[h2];refine⟨fun _ h=>⟨h,rfl,rfl,rfl⟩,fun _ _=>.inl ⟨rfl,rfl,rfl,rfl⟩,fun b' i hi=>⟨hi,?_⟩,fun b' hi=>⟨hi,?_⟩⟩
  .obtain⟨⟨v,hv⟩,_⟩:=h.I b' i hi;exact cell_of_heap (ho.block b' (hcell b' i v hv) (lt_of_cell hv))
  .obtain⟨⟨es,fu,hv⟩,_⟩:=h.IM b' hi;exact ho.block b' (wK hv hb (fun e=>hm _ _ e.symm)) (lt_of_heap hv)
 have ok:bH E B0 Y' {K with D:=D'} (w.putObj b o'):=by
  refine h.upd (Y':=Y') ho e (fun _ _=>rfl) (fun r hr'=>⟨by simpa using hlt,hb0⟩) ?_ ?_ ?_ ?_ ?_ ?_
  .intro loc s ob hs;rw[h1] at hs;refine .inl ⟨hs,fun rQ e'=>?_⟩;obtain⟨_,a2,_⟩:=h.obj loc s ob hs;cases ob with
   |cells cs=>obtain⟨_,vals,t,g1,_⟩:=a2.2 (by cases cs with|nil=>exact rQ.elim|cons _ _=>simp);rw[e',hb] at g1;exact hc _ _ _ (kS g1)
   |map ks vs=>obtain⟨_,es,fu,g1,_⟩:=a2;rw[e',hb] at g1;exact hm _ _ (kS g1)
  .intro s hs hlt';refine .inl ⟨hs,rfl,rfl,rfl,fun e'=>?_⟩;obtain⟨_,⟨v,hv⟩,_⟩:=(h.own s hs hlt').2.2 (K.lo s) (iR _) hlt';exact hcell _ _ _ hv e'
  .intro b' i hi;obtain⟨⟨v,hv⟩,_⟩:=h.I b' i hi;exact .inl ⟨hi,hcell b' i v hv⟩
  .intro b' hi;obtain⟨⟨es,fu,hv⟩,_⟩:=h.IM b' hi;exact .inl ⟨hi,wK hv hb (fun e=>hm _ _ e.symm)⟩
  .intro l r hl;exact .inl (arU l r hl)
  .intro b' hd;exact .inl (hD b' hd)
 exact⟨⟨ok,e,ho.below hb0 hB,arV,fun _ h=>.inl h,fun _ _ h=>.inl h,fun _ h=>.inl h⟩,ok⟩
theorem Step.arW (h:bH E B0 Y K w)(hB:B0<=w.heap.size){new:Nat->Prop}:
 Step E B0 new Y K w Y {K with D:=fun b=>K.D b\/b=w.heap.size} (w.alloc (.deferred (some []))):=by
 have ho:=EF w (.deferred (some []));have e:Ext K Y.top w {K with D:=fun b=>K.D b\/b=w.heap.size} Y.top (w.alloc (.deferred (some []))):=by
  refine⟨fun _ h=>⟨h,rfl,rfl,rfl⟩,fun _ _=>.inl ⟨rfl,rfl,rfl,rfl⟩,fun b' i hi=>⟨hi,?_⟩,fun b' hi=>⟨hi,?_⟩⟩
  .obtain⟨⟨v,hv⟩,_⟩:=h.I b' i hi;rw[hv];exact QO hv
  .obtain⟨⟨es,fu,hv⟩,_⟩:=h.IM b' hi;exact heap_alloc_old (lt_of_heap hv)
 refine⟨?_,e,ho.below hB hB,fun _ h=>.inl h,fun _ h=>.inl h,fun _ _ h=>.inl h,fun _ h=>.inl h⟩;refine h.upd (Y':=Y) ho e (fun _ _=>rfl) (fun r hr'=>⟨aD,hB⟩) ?_ ?_ ?_ ?_ ?_ ?_
 .intro loc s ob hs;refine .inl ⟨hs,fun hr=>?_⟩;have:=(h.rb _ _ ((h.obj _ _ _ hs).2.2 hr)).1;omega
 .intro s hs hlt';have:=(h.rb _ _ (h.own s hs hlt').2.1).1;exact .inl ⟨hs,rfl,rfl,rfl,RS⟩
 .intro b' i hi;obtain⟨⟨v,hv⟩,_⟩:=h.I b' i hi;exact .inl ⟨hi,pQ (lt_of_cell hv)⟩
 .intro b' hi;obtain⟨⟨es,fu,hv⟩,_⟩:=h.IM b' hi;exact .inl ⟨hi,pQ (lt_of_heap hv)⟩
 .intro l r hl;have:=(h.rb _ _ (h.loop l r hl).2.2.1).1;exact .inl ⟨hl,RS⟩
 .intro b' hd;rcases hd with hd|rfl
  .exact .inl ⟨hd,pQ (lt_of_heap (h.D b' hd))⟩
  .exact .inr ⟨rfl,heap_alloc_new _ _⟩
def bA.HV (K:bA)(st b:Nat):bA:=
 {K with A:=fun s=>K.A s\/s=st,lo:=upd K.lo st 0,hi:=upd K.hi st 0,lp:=upd K.lp st b,Z:=upd K.Z b (some (.loop st))}
theorem Step.arX (h:bH E B0 Y K w)(hB:B0<=w.heap.size)(hst:¬K.A Y.next){fr:Fr}{tmps:Array Value}{ps:List Nat}{gF body:Code}{fn:FuncId}{D:Nat}(hf:mU K Y.top w fr tmps)(hok1:iI tmps.size gF=true)(hok2:iI tmps.size body=true)(hps:∀p∈ps,p<tmps.size)(hn1:kr gF=true)(hn2:kr body=true):
 Step E B0 (· =Y.next) Y K w ({Y with next:=Y.next+1}.nP Y.next {st:=0,pend:=none,fr:=fr,ps:=ps,gF:=gF,body:=body}) (K.HV Y.next w.heap.size)
  (w.alloc (.loop {state:=.ready,pending:=none,fn:=fn,tmps:=tmps,params:=ps.toArray,assign:=gF,body:=body,defers:=D})):=by
 generalize hrec:({state:=.ready,pending:=none,fn:=fn,tmps:=tmps,params:=ps.toArray,assign:=gF,body:=body,defers:=D}:Go.Loop)=rec;have ho:=EF w (.loop rec);have hne:∀s,K.A s->s≠Y.next:=fun s hs e=>hst (e▸hs);have e:Ext K Y.top w (K.HV Y.next w.heap.size) Y.top (w.alloc (.loop rec)):=by
  refine⟨fun s hs=>⟨.inl hs,rfl,upd_ne _ _ (hne s hs),rfl⟩,fun s hs=>.inl ⟨rfl,rfl,upd_ne _ _ (hne s hs),upd_ne _ _ (hne s hs)⟩,fun b' i hi=>⟨hi,?_⟩,fun b' hi=>⟨hi,?_⟩⟩
  .obtain⟨⟨v,hv⟩,_⟩:=h.I b' i hi;rw[hv];exact QO hv
  .obtain⟨⟨es,fu,hv⟩,_⟩:=h.IM b' hi;exact heap_alloc_old (lt_of_heap hv)
 refine⟨?_,e,ho.below hB hB,fun _ h=>h,fun _ h=>h,fun _ _ h=>.inl h,fun _ h=>.inl h⟩;refine h.upd (Y':=({Y with next:=Y.next+1}.nP Y.next {st:=0,pend:=none,fr:=fr,ps:=ps,gF:=gF,body:=body})) ho e (fun k hk=>upd_ne _ _ hk) (fun r hr'=>⟨aD,hB⟩) ?_ ?_ ?_ ?_ ?_ ?_
 .intro loc s ob hs;have hs':Y.obj loc=some (s,ob):=hs;refine .inl ⟨hs',fun hr=>?_⟩;have:=(h.rb _ _ ((h.obj _ _ _ hs').2.2 hr)).1;omega
 .intro s hs hlt';have hs':s≠Y.next:=by rintro rfl;simp only[bA.HV,upd_same] at hlt';omega
  have hA:K.A s:=hs.resolve_right hs';simp only[bA.HV,upd_ne _ _ hs'] at hlt';have:=(h.rb _ _ (h.own s hA hlt').2.1).1;exact .inl ⟨hA,upd_ne _ _ hs',upd_ne _ _ hs',rfl,RS⟩
 .intro b' i hi;obtain⟨⟨v,hv⟩,_⟩:=h.I b' i hi;exact .inl ⟨hi,pQ (lt_of_cell hv)⟩
 .intro b' hi;obtain⟨⟨es,fu,hv⟩,_⟩:=h.IM b' hi;exact .inl ⟨hi,pQ (lt_of_heap hv)⟩
 .intro l r hl;by_cases hll:l=Y.next
  .subst hll;right;have hr:r={st:=0,pend:=none,fr:=fr,ps:=ps,gF:=gF,body:=body}:=by simpa [ah.nP,upd] using hl.symm
   subst hr;have hlp:(K.HV Y.next w.heap.size).lp Y.next=w.heap.size:=upd_same _ _ _;refine⟨.inr rfl,by rw[hlp];exact hB,by rw[hlp];exact upd_same _ _ _,fn,tmps,D,?_,hf.ext e,hok1,hok2,hps,hn1,hn2⟩;rw[hlp,heap_alloc_new,<-hrec];rfl
  .left;have hl1:Y.loops l=some r:=by simpa [ah.nP,upd,hll] using hl
   have:=(h.rb _ _ (h.loop l r hl1).2.2.1).1;exact⟨hl1,RS⟩
 .intro b' hd;exact .inl ⟨hd,pQ (lt_of_heap (h.D b' hd))⟩
theorem arY (hE:o8 E)(hS:Sound E S){f:Operand}{ps:Array Tmp}{gF body:Code}{fr fr':Fr}{e:Ex}(h:eu E S (.rangeFunc f ps gF body) fr Y=some (e,fr',Y')):qy E (.rangeFunc f ps gF body) fr Y e fr' Y':=by
 simp only[eu] at h;split at h
 .rename_i hfun;simp only[iP] at h;obtain⟨⟨v,qU⟩,happ,r,hr,h⟩:=h;split at h
  .simp at h
  .rename_i hst;simp only[iE,mF] at h;obtain⟨he,rfl,rfl⟩:=h;have hfn:∃g a b,fr.ev E f= .fn (.func g) a b:=by
    generalize fr.ev E f=x at hfun;unfold VL at hfun;split at hfun
    .exact⟨_,_,_,rfl⟩
    .simp at hfun
   have hnext:Y.next+1<=qU.next:=by
    obtain⟨g,a,b,hg⟩:=hfn;rw[hg] at happ;unfold jL at happ;dsimp only at happ;split at happ
    .exact(hS.call _ _ _ _ _ _ happ).1
    .simp only[iP] at happ;obtain⟨_,_,_,_,happ⟩:=happ;split at happ
     .simp only[iE,mF] at happ;rw[<-happ.2];exact iR _
     .simp at happ
   refine⟨eZ (kU _) hnext,fun ro B0 K w a n ds hs hok hnr=>?_⟩;have hro:ro=none/\ds.nm=false:=by
    rcases hnr with h|h
    .exact h
    .simp[kr] at h
   obtain⟨hro,hnm⟩:=hro;subst hro;simp only[iI,aZ,lK,decide_eq_true_eq] at hok;obtain⟨⟨⟨⟨hps,hok1⟩,hok2⟩,hn1⟩,hn2⟩:=hok;refine wpIn_rangeFunc (fun fn _=>?_);have st1:=Step.arW (new:=newer Y (qU.u6 Y.next)) hs.ok hs.hB;have hB1:=eZ hs.hB st1.below.size;have hst:¬K.A Y.next:=fun hA=>Nat.lt_irrefl _ (hs.st _ hA);have hf1:mU {K with D:=fun b=>K.D b\/b=w.heap.size} Y.top (w.alloc (.deferred (some []))) fr a.tmps:=hs.fr.ext st1.ext;have st2:=Step.arX (fn:=fn) (D:=w.heap.size) (ps:=ps.toList) (gF:=gF) (body:=body) st1.ok hB1 hst hf1 (by rw[hs.sz];exact hok1) (by rw[hs.sz];exact hok2) (fun p hp=>by rw[hs.sz];exact hps p hp) hn1 hn2;have hsz1:(w.alloc (.deferred (some []))).heap.size=w.heap.size+1:=aD
   generalize hK2:bA.HV {K with D:=fun b=>K.D b\/b=w.heap.size} Y.next (w.alloc (.deferred (some []))).heap.size=K2 at st2;generalize hw2:(w.alloc (.deferred (some []))).alloc (.loop {state:=.ready,pending:=none,fn:=fn,tmps:=a.tmps,params:=ps.toList.toArray,assign:=gF,body:=body,defers:=w.heap.size})=w2 at st2;have ahv:K2.lp Y.next=w.heap.size+1:=by rw[<-hK2,<-hsz1];exact upd_same _ _ _
   have hA2:K2.A Y.next:=by rw[<-hK2];exact .inr rfl
   have hf2:mU K2 Y.top w2 fr a.tmps:=hf1.ext st2.ext;have arZ:∀s,K2.A s->s<Y.next+1:=fun s hsA=>by
    rcases st2.A s hsA with h1|h1
    .exact Nat.lt_succ_of_lt (hs.st s h1)
    .omega
   have hB2:=eZ hB1 st2.below.size;have hra:RelA K2 Y.top w2 [.fn (.yield Y.next) [] []] #[.func (.yield (w.heap.size+1)) #[] #[]]:=by refine⟨rfl,fun i hi=>?_⟩;have hi0:i=0:=kg;subst hi0;have:=Rel.yield (K:=K2) (T:=Y.top) (w:=w2) Y.next hA2;rw[ahv] at this;exact this
   obtain⟨_,g,first,cap,hcf,hbody,hcall⟩:=ag7 hE hS.call st2.ok hB2 arZ hfn happ (Ay st2.ok hf2 f) hra;have henter:=run_enterLoop_outer (P:=E.P) (w:=w) fn a.tmps ps gF body;have ar0:(w.alloc (.deferred (some []))).alloc (.loop {state:=.ready,pending:=none,fn:=fn,tmps:=a.tmps,params:=ps,assign:=gF,body:=body,defers:=w.heap.size})=w2:=by rw[<-hw2]
   rw[ar0] at henter;refine⟨w.heap.size+1,[mark w.heap.size],w2,{target:=.fn (.func g) cap,args:=first++ #[.func (.yield (w.heap.size+1)) #[] #[]]},w2,g,first++ #[.func (.yield (w.heap.size+1)) #[] #[]]++cap,w2,henter,?_,fun _ _=>trivial,?_,
    fun hd=>Qx,?_⟩
   .unfold resolve;have hargs:(rangeCall f (w.heap.size+1)).args.map a.eval= #[.func (.yield (w.heap.size+1)) #[] #[]]:=(by simp[rangeCall,Act.eval]);rw[hargs];simp only[rangeCall,hcf,Deferred.ofValue,Sem.run_pure]
   .simp only[invoke];exact Rf hE hbody _ _
   .have ar1:CallsIn (oW none) (0-1) E.P g (first++ #[.func (.yield (w.heap.size+1)) #[] #[]]++cap) w2 _:=hcall;refine ar1.mono ?_;intro en w3 hp;cases en with
    |panicked ch=>exact hp.elim|outgrown=>exact hp.elim|returned cv=>
     obtain⟨wQ,r3,Ru,hA3,Rv⟩:=hp;obtain⟨aFy,hb3,ar2,ar3,ar4,D3,hh3,hf3,_⟩:=Ru.loop Y.next r hr;have Ho:wQ.lp Y.next=w.heap.size+1:=((Rv.ext.A Y.next hA2).2.2.1).trans ahv;have hend:=run_endLoop (P:=E.P) hh3 (by
      show ug r.st≠ .busy;unfold ug;split
      .simp
      .simp[hst])
     rw[Ho] at hend;have hB3:=eZ hB2 Rv.below.size;have hput:=bH.Rt (Y':=qU.u6 Y.next) (new:=newer Y (qU.u6 Y.next)) (o':=.loop {state:=.exhausted,pending:=r.pend.bind vw,fn:=ar3,tmps:=ar4,params:=r.ps.toArray,assign:=r.gF,body:=r.body,defers:=D3}) Ru hB3 hb3 hh3 (fun _ _ _=>aD) (fun _ _=>aD)
      (fun l r1 hl=>by have hll:l≠Y.next:=(by rintro rfl;simp[ah.u6,upd] at hl);have hl1:qU.loops l=some r1:=(by simpa [ah.u6,upd,hll] using hl);refine⟨hl1,fun e'=>?_⟩;have:=(Ru.loop l r1 hl1).2.2.1;rw[e',ar2] at this;cases this;exact hll rfl) rfl rfl wQ.D (fun x hx=>⟨hx,wK (Ru.D x hx) hh3 aD⟩) (fun _ h=>h)
     have WZ:({wQ with D:=wQ.D}:bA)=wQ:=rfl;rw[WZ] at hput;obtain⟨ahw,Rw⟩:=hput;rw[Ho] at ahw Rw;have ar5:(qU.u6 Y.next).next=qU.next:=rfl;have rU:=Step.trans (new:=newer Y (qU.u6 Y.next)) st1 ((st2.mono (fun s hs'=>by subst hs';exact⟨iR _,by rw[ar5];omega⟩)).trans ((Rv.mono (fun s hs'=>by have h1:Y.next+1<=s:=hs'.1;exact⟨RS,hs'.2⟩)).trans ahw));have mk:∀w4,bH E B0 (qU.u6 Y.next) wQ w4->Step E B0 (newer Y (qU.u6 Y.next)) Y K w (qU.u6 Y.next) wQ w4->St E B0 (qU.u6 Y.next) wQ w4 fr {a with defers:=[mark w.heap.size]++a.defers} n ds:=by
      intro w4 Rw rU;refine⟨Rw,eZ hs.hB rU.below.size,hs.fr.ext rU.ext,hs.sz,?_,hA3,eZ hs.hD rU.below.size⟩;obtain⟨bs,d1,d2,d3,_⟩:=hs.df;refine⟨w.heap.size::bs,by simp[d1],?_,fun b hb=>?_,fun e=>by rw[hnm] at e;cases e⟩
      .refine Ao.2 ⟨fun hm=>?_,d2⟩;exact Nat.lt_irrefl _ (lt_of_heap (hs.ok.D _ (d3 _ hm).1))
      .rcases jr.1 hb with rfl|hb
       .exact⟨Rv.D _ (st2.D _ (.inr rfl)),hs.hD⟩
       .exact⟨rU.D b (d3 b hb).1,(d3 b hb).2⟩
     have hSt:=mk _ Rw rU;refine⟨_,_,hend,?_⟩;cases hp:r.pend with
     |none=>rw[hp] at he hSt rU;simp only[Option.bind_none];subst he;exact⟨trivial,wQ,hSt,rU⟩|some e1=>
      rw[hp] at he hSt rU;simp only at he;subst he;cases e1 with
      |normal=>exact⟨trivial,wQ,hSt,rU⟩|exit i=>exact wpIn_exit ⟨rfl,wQ,hSt,rU⟩|ret=>exact wpIn_ret ⟨trivial,wQ,hSt,rU⟩
 .simp at h
end
end aQ
end
