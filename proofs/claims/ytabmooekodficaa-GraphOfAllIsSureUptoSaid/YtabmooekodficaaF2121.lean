import Derived.IntWalk
import Derived.Test.YtabmooekodficaaF2120
set_option linter.all false
section
open Go Aq
namespace Pq
variable {α β γ:Type}
theorem tG {c:Bool} {o:Option α} {P:α->Prop} (h:c=true) (k:∃r,o=some r/\P r):∃r,(bif c then o else none)=some r/\P r:=by rw[h];exact k
theorem tI {i:Int} {n:Nat} {o:Option α} {P:α->Prop} (h0:0<=i) (h1:i<n) (k:∃r,o=some r/\P r):∃r,(bif decide (0<=i/\i< ((n:Nat):Int)) then o else none)=some r/\P r:=tG (decide_eq_true ⟨h0,h1⟩) k
theorem tD {p:Prop} [Decidable p] {a b:Option α} {P:α->Prop} (ha:p->∃r,a=some r/\P r) (hb:¬p->∃r,b=some r/\P r):∃r,(bif decide p then a else b)=some r/\P r:=by
 by_cases h:p
 ·rw[decide_eq_true h];exact ha h
 ·rw[decide_eq_false h];exact hb h
theorem tN {p:Prop} [Decidable p] {a b:Option α} {P:α->Prop} (ha:¬p->∃r,a=some r/\P r) (hb:p->∃r,b=some r/\P r):∃r,(bif !decide p then a else b)=some r/\P r:=by
 by_cases h:p
 ·rw[decide_eq_true h];exact hb h
 ·rw[decide_eq_false h];exact ha h
theorem tC {c:Bool} {a b:Option α} {P:α->Prop} (ha:c=true->∃r,a=some r/\P r) (hb:c=false->∃r,b=some r/\P r):∃r,(bif c then a else b)=some r/\P r:=by
 cases c
 ·exact hb rfl
 ·exact ha rfl
theorem tS {a:α} {P:α->Prop} (h:P a):∃r,some a=some r/\P r:=⟨a,rfl,h⟩
theorem tB {o:Option α} {f:α->Option β} {Q:α->Prop} {P:β->Prop} (h:∃x,o=some x/\Q x) (k:∀x,Q x->∃r,f x=some r/\P r):∃r,o.bind f=some r/\P r:=by
 obtain⟨x,e,q⟩:=h
 rw[e];exact k x q
theorem tE {o:Option α} {f:α->Option β} {x:α} {P:β->Prop} (h:o=some x) (k:∃r,f x=some r/\P r):∃r,o.bind f=some r/\P r:=by rw[h];exact k
theorem tW {o:Option α} {P Q:α->Prop} (h:∃r,o=some r/\Q r) (k:∀r,Q r->P r):∃r,o=some r/\P r:=by
 obtain⟨x,e,q⟩:=h
 exact⟨x,e,k x q⟩
theorem mu {τ:Type} {L:Nat->τ->Option β} (Inv:τ->Prop) (mu_:τ->Nat) (Post:β->Prop)
 (h:∀m p,Inv p->(∀p',Inv p'->mu_ p'<mu_ p->∃r,L m p'=some r/\Post r)->∃r,L (m+1) p=some r/\Post r):∀m p,Inv p->mu_ p<m->∃r,L m p=some r/\Post r
 |0,p,_,hm=>by omega
 |m+1,p,hp,hm=>h m p hp fun p' hp' hlt=>mu Inv mu_ Post h m p' hp' (by omega)
theorem wr {i:Int} (h0: -(2^62)<=i) (h:i<=2^62):IntKind.wrap .i64 i=i:=by rw[IntKind.wrap_i64];omega
def gI (d:α) (l:List α) (i:Int):α:=(l[i.toNat]?).getD d
theorem idx_gI (d:α) {l:List α} {i:Int} (h0:0<=i) (h1:i<l.length):idxL l i=some (gI d l i):=by
 unfold idxL gI
 rw[if_pos ⟨h0,h1⟩]
 have:i.toNat<l.length:=by omega
 rw[QT this];rfl
theorem gI_mem (d:α) {l:List α} {i:Int} (h0:0<=i) (h1:i<l.length):gI d l i∈l:=by
 unfold gI
 have:i.toNat<l.length:=by omega
 rw[QT this]
 exact QG _
theorem len_setL {l:List α} {i:Int} {x:α}:(setL l i x).length=l.length:=by unfold setL;exact List.length_set
theorem gI_setL {d:α} {l:List α} {i k:Int} {x:α} (h0:0<=i) (h1:i<l.length) (hk:0<=k):gI d (setL l i x) k=if k=i then x else gI d l k:=by
 unfold gI setL
 rw[List.getElem?_set]
 by_cases e:k=i
 ·subst e
  rw[if_pos rfl,if_pos rfl,if_pos (by omega)];rfl
 ·rw[if_neg e,if_neg (by omega)]
def swp (d:α) (l:List α) (i j:Int):List α:=setL (setL l i (gI d l j)) j (gI d l i)
theorem len_swp {d:α} {l:List α} {i j:Int}:(swp d l i j).length=l.length:=by unfold swp;rw[len_setL,len_setL]
theorem gI_swp {d:α} {l:List α} {i j k:Int} (h0:0<=i) (h1:i<l.length) (h2:0<=j) (h3:j<l.length) (hk:0<=k):gI d (swp d l i j) k=if k=j then gI d l i else if k=i then gI d l j else gI d l k:=by
 unfold swp
 rw[gI_setL h2 (by rw[len_setL];exact h3) hk,gI_setL h0 h1 hk]
theorem perm_swp {d:α} {l:List α} {i j:Int} (h0:0<=i) (h1:i<l.length) (h2:0<=j) (h3:j<l.length):(swp d l i j).Perm l:=by
 have a1:i.toNat<l.toArray.size:=by simp;omega
 have a2:j.toNat<l.toArray.size:=by simp;omega
 have:=(Array.swap_perm (xs:=l.toArray) a1 a2).toList
 have e:(l.toArray.swap i.toNat j.toNat a1 a2).toList=swp d l i j:=by
  unfold swp setL gI
  rw[Array.toList_swap]
  simp only[List.size_toArray] at a1 a2
  rw[QT a1,QT a2]
  simp
 rw[e] at this
 exact this
structure Rp (d:α) (a b:Int) (l l':List α):Prop where
 len:l'.length=l.length
 out:∀k,0<=k->(k<a\/b<=k)->gI d l' k=gI d l k
 perm:l'.Perm l
 all:∀φ:α->Prop,(∀k,a<=k->k<b->φ (gI d l k))->∀k,a<=k->k<b->φ (gI d l' k)
theorem Rp.refl (d:α) (a b:Int) (l:List α):Rp d a b l l:=⟨rfl,fun _ _ _=>rfl,List.Perm.refl _,fun _ h=>h⟩
theorem Rp.trans {d:α} {a b:Int} {l l' l'':List α} (h:Rp d a b l l') (k:Rp d a b l' l''):Rp d a b l l'':=
 ⟨k.len.trans h.len,fun i h0 h1=>(k.out i h0 h1).trans (h.out i h0 h1),k.perm.trans h.perm,fun φ hφ=>k.all φ (h.all φ hφ)⟩
theorem Rp.swp {d:α} {a b i j:Int} {l l':List α} (h:Rp d a b l l') (ha:0<=a) (hb:b<=l.length) (i0:a<=i) (i1:i<b) (j0:a<=j) (j1:j<b):Rp d a b l (swp d l' i j):=by
 have hl:=h.len
 refine h.trans ⟨len_swp,fun k k0 k1=>?_,perm_swp (by omega) (by omega) (by omega) (by omega),fun φ hφ k k0 k1=>?_⟩
 ·rw[gI_swp (by omega) (by omega) (by omega) (by omega) k0,if_neg (by omega),if_neg (by omega)]
 ·rw[gI_swp (by omega) (by omega) (by omega) (by omega) (by omega)]
  split
  ·exact hφ i i0 i1
  ·split
   ·exact hφ j j0 j1
   ·exact hφ k k0 k1
theorem Rp.wide {d:α} {a b a' b':Int} {l l':List α} (h:Rp d a b l l') (ha:a'<=a) (hb:b<=b') (h0:0<=a'):Rp d a' b' l l':=by
 refine⟨h.len,fun k k0 k1=>h.out k k0 (by omega),h.perm,fun φ hφ k k0 k1=>?_⟩
 by_cases hk:a<=k/\k<b
 ·have:=h.all (fun x=>φ x) (fun i i0 i1=>hφ i (by omega) (by omega)) k hk.1 hk.2
  exact this
 ·rw[h.out k (by omega) (by omega)]
  exact hφ k k0 k1
structure Ord (lt:α->α->Prop):Prop where
 asym:∀x y,lt x y->¬lt y x
 neg:∀x y z,¬lt x y->¬lt y z->¬lt x z
theorem Ord.irr {lt:α->α->Prop} (h:Ord lt) (x:α):¬lt x x:=fun k=>h.asym x x k k
theorem Ord.trans {lt:α->α->Prop} (h:Ord lt) {x y z:α} (h1:lt x y) (h2:lt y z):lt x z:=by
 refine Classical.byContradiction fun k=>?_
 exact h.neg x z y k (h.asym y z h2) h1
def Sd (lt:α->α->Prop) (d:α) (a b:Int) (l:List α):Prop:=∀i j,a<=i->i<j->j<b->¬lt (gI d l j) (gI d l i)
theorem Sd.adj {lt:α->α->Prop} (ho:Ord lt) {d:α} {a b:Int} {l:List α} (h:∀i,a<i->i<b->¬lt (gI d l i) (gI d l (i-1))):Sd lt d a b l:=by
 have key:∀(k:Nat) (i j:Int),a<=i->j=i+1+k->j<b->¬lt (gI d l j) (gI d l i):=by
  intro k
  induction k with
  |zero=>
   intro i j h0 h1 h2
   have:=h j (by omega) h2
   rwa[show j-1=i by omega] at this
  |succ k ih=>
   intro i j h0 h1 h2
   exact ho.neg _ _ _ (h j (by omega) h2) (ih i (j-1) h0 (by omega) (by omega))
 intro i j h0 h1 h2
 exact key (j-i-1).toNat i j h0 (by omega) h2
theorem Sd.pw {lt:α->α->Prop} {d:α} {l:List α} (h:Sd lt d 0 l.length l):l.Pairwise fun x y=>¬lt y x:=by
 rw[List.pairwise_iff_getElem]
 intro i j hi hj hij
 have:=h (i:Int) (j:Int) (by omega) (by omega) (by omega)
 unfold gI at this
 rw[Int.toNat_natCast,Int.toNat_natCast,QT hi,QT hj] at this
 exact this
def Al (Ok:α->Prop) (l:List α):Prop:=∀x∈l,Ok x
theorem Rp.al {Ok:α->Prop} {d:α} {a b:Int} {l l':List α} (h:Rp d a b l l') (k:Al Ok l):Al Ok l':=fun x hx=>k x (h.perm.mem_iff.1 hx)
theorem Al.at {Ok:α->Prop} {l:List α} (h:Al Ok l) (d:α) {i:Int} (h0:0<=i) (h1:i<l.length):Ok (gI d l i):=h _ (gI_mem d h0 h1)
def CmpO (Ok:α->Prop) (lt:α->α->Prop) (K:{β:Type}->α->α->(Bool->Option β)->Option β):Prop:=∀a b,Ok a->Ok b->∃r:Bool,(r=true↔lt a b)/\∀{β:Type} (f:Bool->Option β),K a b f=f r
theorem tM {β:Type} {Ok:α->Prop} {lt:α->α->Prop} {K:{β:Type}->α->α->(Bool->Option β)->Option β} (h:CmpO Ok lt K) {a b:α} {f:Bool->Option β} {P:β->Prop} (ha:Ok a) (hb:Ok b) (k:∀r:Bool,(r=true↔lt a b)->∃s,f (decide (r=true))=some s/\P s):∃s,K a b f=some s/\P s:=by
 obtain⟨r,h1,h2⟩:=h a b ha hb
 have:=k r h1
 rw[Bool.decide_eq_true] at this
 have e:K a b f=f r:=h2 f
 rw[e];exact this
end Pq
end
section
open Go Go.Proofs Aq Pq
namespace Sh
set_option maxRecDepth 100000
theorem bs {α β:Type} {o:Option α} {a:α} {f:α->Option β} {r:Option β} (h:o=some a) (k:f a=r):o.bind f=r:=by rw[h];exact k
theorem ix {α:Type} {l:List α} {i:Nat} (h:i<l.length):idxL l (i:Int)=some l[i]:=by
 unfold idxL;rw[if_pos ⟨by omega,by omega⟩];simp[h]
theorem ixI {α:Type} {l:List α} {i:Int} (h0:0<=i) (h:i<l.length):idxL l i=some (l[i.toNat]'(by omega)):=by
 unfold idxL;rw[if_pos ⟨h0,by omega⟩];simp[show i.toNat<l.length by omega]
theorem wS {i:Nat} (h:i<2^60):IntKind.wrap .i64 ((i:Int)+1)=((i+1:Nat):Int):=by rw[wr (by omega) (by omega)];omega
theorem dT {p:Prop} [Decidable p] (h:p):decide p=true:=decide_eq_true h
theorem dF {p:Prop} [Decidable p] (h:¬p):decide p=false:=decide_eq_false h
theorem room {n b:Nat} (h:n*b<=2^47) (h':n<=2^47):roomOK n b=true:=by unfold roomOK;simp[h,h']
theorem ite_lt {β:Type} {a b:Int} {x y:Option β} (h:a<b):(bif decide (a<b) then x else y)=x:=by rw[dT h];rfl
theorem ite_nlt {β:Type} {a b:Int} {x y:Option β} (h:¬a<b):(bif decide (a<b) then x else y)=y:=by rw[dF h];rfl
end Sh
end
section
open Go Go.Proofs Aq Pq
namespace Sh
set_option maxRecDepth 100000
def vokB (a:List Int):Bool:=a.all (fun x=>decide (-1000<=x)&& decide (x<=1000))&& (decide (1<=a.length)&& decide (a.length<=32))
def VOK (a:List Int):Prop:=(∀x∈a, -1000<=x/\x<=1000)/\1<=a.length/\a.length<=32
theorem vokB_iff (a:List Int):vokB a=true↔VOK a:=by
 unfold vokB VOK;simp
abbrev iabs (x:Int):Int:=imax x (-x)
def stepN (m:Int) (s x:Int):Int:=bif decide (m=1) then s+iabs x else bif decide (m=2) then s+x*x else imax s (iabs x)
def normS (m:Int) (d:List Int):Int:=d.foldl (stepN m) 0
def subL (a b:List Int):List Int:=List.zipWith (· - ·) a b
def keyS (m:Int) (a b:List Int):Int:=normS m (subL a b)
theorem iabs_eq (x:Int):iabs x=(x.natAbs:Int):=by unfold iabs imax;split<;>omega
theorem step_b {m s x B:Int} (h0:0<=s) (hs:s<=B) (hx: -2000<=x/\x<=2000):0<=stepN m s x/\stepN m s x<=B+4000000:=by
 have hq:0<=x*x/\x*x<=4000000:=by
  rcases Int.le_total 0 x with h|h
  ·have:=Int.mul_le_mul hx.2 hx.2 h (by omega);exact⟨Int.mul_nonneg h h,by omega⟩
  ·have h2:=Int.mul_le_mul (show-x<=2000 by omega) (show-x<=2000 by omega) (by omega) (by omega:(0:Int)<=2000)
   rw[Int.neg_mul_neg] at h2
   have h3:=Int.mul_nonneg (show 0<= -x by omega) (show 0<= -x by omega)
   rw[Int.neg_mul_neg] at h3
   exact⟨h3,by omega⟩
 have ha:=iabs_eq x
 unfold stepN
 cases decide (m=1)<;>cases decide (m=2)<;>simp only[cond_true,cond_false]<;>(try unfold imax)<;>(try split)<;>omega
theorem fold_b (m:Int):∀(d:List Int) (s B:Int),0<=s->s<=B->(∀x∈d, -2000<=x/\x<=2000)->0<=d.foldl (stepN m) s/\d.foldl (stepN m) s<=B+4000000*d.length
 | [],s,B,h0,hs,_=>⟨h0,by simpa using hs⟩
 |x::d,s,B,h0,hs,hx=>by
  have h1:=step_b (m:=m) h0 hs (hx x (Qz ..))
  have h2:=fold_b m d _ _ h1.1 h1.2 (fun y hy=>hx y (QB _ hy))
  rw[List.foldl_cons,List.length_cons]
  exact⟨h2.1,by have:=h2.2;omega⟩
theorem subL_b:∀{a b:List Int},(∀x∈a, -1000<=x/\x<=1000)->(∀x∈b, -1000<=x/\x<=1000)->∀x∈subL a b, -2000<=x/\x<=2000
 | [],_,_,_,x,h=>by cases h
 |_::_,[],_,_,x,h=>by cases h
 |a::al,b::bl,ha,hb,x,h=>by
  have h1:=ha a (Qz ..);have h2:=hb b (Qz ..)
  rcases QN.1 h with h|h
  ·have h:x=a-b:=h
   subst h;omega
  ·exact subL_b (fun y hy=>ha y (QB _ hy)) (fun y hy=>hb y (QB _ hy)) x h
theorem keyS_b {m:Int} {a b:List Int} (ha:VOK a) (hb:VOK b):0<=keyS m a b/\keyS m a b<=128000000:=by
 have h:=fold_b m (subL a b) 0 0 (QC _) (QC _) (subL_b ha.1 hb.1)
 have hl:(subL a b).length<=32:=by unfold subL;rw[List.length_zipWith];have:=ha.2.2;omega
 unfold keyS normS
 exact⟨h.1,by have:=h.2;omega⟩
theorem setL_nat {α:Type} (l:List α) (i:Nat) (x:α):setL l (i:Int) x=l.set i x:=by unfold setL;rw[Int.toNat_natCast]
theorem set_step {s a t:List Int} {i:Nat} (hs:s.length=a.length) (hi:i<a.length) (hi':i<s.length) (ht:t=s.take i++a.drop i):t.set i s[i]=s.take (i+1)++a.drop (i+1):=by
 subst ht
 have hlen:(s.take i).length=i:=by rw[QE];omega
 rw[List.set_append_right _ _ (by omega),hlen,Nat.sub_self,QO hi,List.set_cons_zero,List.take_succ_eq_append_getElem hi',QS]
 rfl
theorem vsub_eq {n:Nat} {a b:List Int} (hn:100<n) (ha:VOK a) (hb:VOK b) (hl:a.length=b.length):ZA n (a,b)=some (subL a b):=by
 have h1:=ha.2.1;have h2:=ha.2.2
 rw[ZA_eq,ZU_eq]
 have e0:(!List.isEmpty a)=true:=by cases a with
  |nil=>exact absurd h1 (by decide)
  |cons=>rfl
 rw[e0,cond_true,room (by omega) (by omega),cond_true]
 refine bs rfl ?_
 have key:∀k (i m:Nat) (t:List Int),i+k=a.length->k<m->t=(subL a b).take i++a.drop i->ZA_L3 n b (a,()) m ((i:Int),t)=some ((),subL a b):=by
  have hsl:(subL a b).length=a.length:=by unfold subL;rw[List.length_zipWith];omega
  intro k
  induction k with
  |zero=>
   intro i m t hi hm ht
   obtain⟨m,rfl⟩:∃m',m=m'+1:=⟨m-1,by omega⟩
   rw[ZA_L3_s,ite_nlt (by dsimp only;omega),ht]
   have:i=a.length:=by omega
   rw[this,List.drop_length,QX,<-hsl,List.take_length]
  |succ k ih=>
   intro i m t hi hm ht
   obtain⟨m,rfl⟩:∃m',m=m'+1:=⟨m-1,by omega⟩
   have hia:i<a.length:=by omega
   have htl:t.length=a.length:=by rw[ht,QI,QE,Q9,hsl];omega
   have hti:t[i]'(by omega)=a[i]:=by
    subst ht
    rw[List.getElem_append_right (by rw[QE,hsl];omega)]
    simp only[QE,hsl,List.getElem_drop]
    congr 1;omega
   have hsi:(subL a b)[i]'(by omega)=a[i]-b[i]'(by omega):=by unfold subL;rw[List.getElem_zipWith]
   have hba:=ha.1 a[i] (QG _)
   have hbb:=hb.1 (b[i]'(by omega)) (QG _)
   rw[ZA_L3_s,ite_lt (by dsimp only;omega),dT (by omega),cond_true]
   refine bs (ix (by omega)) ?_
   refine bs (ix (by omega)) ?_
   rw[cond_true]
   refine bs (ix (by omega)) ?_
   rw[wS (by omega),hti,setL_nat,wr (by omega) (by omega),<-hsi]
   refine ih (i+1) m _ (by omega) (by omega) ?_
   exact set_step hsl hia (by omega) ht
 exact bs (key a.length 0 n a (by omega) (by omega) (by simp)) rfl
end Sh
end
section
open Go Go.Proofs Aq Pq
namespace Sh
set_option maxRecDepth 100000
theorem nloop {L:Nat->Int×Int->Option Int} {d:List Int} {j:Int} (hd:∀x∈d, -2000<=x/\x<=2000)
 (h_s:∀(m:Nat) (s:Int) (i:Nat) (hi:i<d.length),0<=s->s<=4000000*i->L (m+1) (s,(i:Int))=L m (stepN j s d[i],((i+1:Nat):Int)))
 (h_e:∀(m:Nat) (s:Int),L (m+1) (s,(d.length:Int))=some s):∀k (i m:Nat) (s:Int),i+k=d.length->k<m->0<=s->s<=4000000*i->L m (s,(i:Int))=some ((d.drop i).foldl (stepN j) s):=by
 intro k
 induction k with
 |zero=>
  intro i m s hi hm h0 h1
  obtain⟨m,rfl⟩:∃m',m=m'+1:=⟨m-1,by omega⟩
  have:i=d.length:=by omega
  subst this
  rw[h_e,List.drop_length];rfl
 |succ k ih=>
  intro i m s hi hm h0 h1
  obtain⟨m,rfl⟩:∃m',m=m'+1:=⟨m-1,by omega⟩
  have hlt:i<d.length:=by omega
  have hb:=step_b (m:=j) h0 h1 (hd d[i] (QG _))
  rw[h_s m s i hlt h0 h1,QO hlt,List.foldl_cons]
  exact ih (i+1) m _ (by omega) (by omega) hb.1 (by have:=hb.2;push_cast;omega)
theorem sq_b {x:Int} (hx: -2000<=x/\x<=2000):0<=x*x/\x*x<=4000000:=by
 have:=step_b (m:=2) (s:=0) (x:=x) (B:=0) (QC _) (QC _) hx
 unfold stepN at this
 simpa using this
theorem st1 (s x:Int):stepN 1 s x=s+iabs x:=rfl
theorem st2 (s x:Int):stepN 2 s x=s+x*x:=rfl
theorem st3 (s x:Int):stepN 3 s x=imax s (iabs x):=rfl
theorem vnorm_eq {n:Nat} {m:Int} {d:List Int} (hn:100<n) (hd:∀x∈d, -2000<=x/\x<=2000) (hl:d.length<=32) (hm:m=1\/m=2\/m=3):Xq n (m,d)=some (normS m d):=by
 rw[Xq_eq]
 rcases hm with rfl|rfl|rfl
 ·refine bs (a:=normS 1 d) ?_ rfl
  rw[ZE_eq]
  refine bs (nloop (L:=ZE_L2 n d) (j:=1) hd ?_ ?_ d.length 0 n 0 (by omega) (by omega) (by omega) (by omega)) rfl
  ·intro mm s i hi h0 h1
   have hb:=hd d[i] (QG _)
   rw[ZE_L2_s,ite_lt (by omega)]
   refine bs (ix hi) ?_
   refine bs (a:=stepN 1 s d[i]) ?_ (by rw[wS (by omega)])
   rw[Xy_eq,st1,wr (i:=0-d[i]) (by omega) (by omega),Int.zero_sub,wr (by have:=iabs_eq d[i];unfold iabs at this;omega) (by have:=iabs_eq d[i];unfold iabs at this;omega)]
  ·intro mm s;rw[ZE_L2_s,ite_nlt (by omega)]
 ·refine bs (a:=normS 2 d) ?_ rfl
  rw[ZF_eq]
  refine bs (nloop (L:=ZF_L2 n d) (j:=2) hd ?_ ?_ d.length 0 n 0 (by omega) (by omega) (by omega) (by omega)) rfl
  ·intro mm s i hi h0 h1
   have hb:=hd d[i] (QG _)
   have hq:=sq_b hb
   rw[ZF_L2_s,ite_lt (by omega)]
   refine bs (ix hi) ?_
   refine bs (a:=stepN 2 s d[i]) ?_ (by rw[wS (by omega)])
   rw[Xz_eq,st2,wr (i:=d[i]*d[i]) (by omega) (by omega),wr (by omega) (by omega)]
  ·intro mm s;rw[ZF_L2_s,ite_nlt (by omega)]
 ·refine bs (a:=normS 3 d) ?_ rfl
  rw[ZG_eq]
  refine bs (nloop (L:=ZG_L2 n d) (j:=3) hd ?_ ?_ d.length 0 n 0 (by omega) (by omega) (by omega) (by omega)) rfl
  ·intro mm s i hi h0 h1
   have hb:=hd d[i] (QG _)
   rw[ZG_L2_s,ite_lt (by omega)]
   refine bs (ix hi) ?_
   refine bs (a:=stepN 3 s d[i]) ?_ (by rw[wS (by omega)])
   rw[XA_eq,st3,wr (i:=0-d[i]) (by omega) (by omega),Int.zero_sub]
   congr 1
   unfold iabs imax
   (repeat' split)<;>omega
  ·intro mm s;rw[ZG_L2_s,ite_nlt (by omega)]
theorem vkey_eq {n:Nat} {m:Int} {a b:List Int} (hn:100<n) (hm:m=1\/m=2\/m=3) (ha:VOK a) (hb:VOK b) (hl:a.length=b.length):Xr n (m,(a,b))=some (keyS m a b):=by
 have hsl:(subL a b).length<=32:=by unfold subL;rw[List.length_zipWith];have:=ha.2.2;omega
 rw[Xr_eq]
 exact bs (vsub_eq hn ha hb hl) (bs (vnorm_eq hn (subL_b ha.1 hb.1) hsl hm) rfl)
end Sh
end
section
open Go Go.Proofs Aq Pq
namespace Sh
set_option maxRecDepth 100000
def mtB (m:Int):Bool:=bif decide (m>=1) then decide (m<=3) else false
theorem mtB_iff {m:Int}:mtB m=true↔m=1\/m=2\/m=3:=by
 unfold mtB
 rw[Bool.cond_false_right,iP,decide_eq_true_iff,decide_eq_true_iff];omega
theorem ix0 {α:Type} (a:α) (l:List α):idxL (a::l) (0:Int)=some a:=by unfold idxL;simp
theorem mvalid_eq (n:Nat) (m:Int):XE n (m,(0:Int))=some (mtB m):=by
 rw[XE_eq]
 cases h:(bif decide (m>=(1:Int)) then decide (m<=(3:Int)) else false)
 ·exact bs rfl (by unfold mtB;rw[h];rfl)
 ·refine bs (a:=(0:Int)) ?_ (by unfold mtB;rw[h];rfl)
  exact(Xo_eq n 0 0 134217728).trans rfl
def inR (x:Int):Bool:=decide (-1000<=x)&& decide (x<=1000)
theorem vokB_def (a:List Int):vokB a=(a.all inR&& (decide (1<=a.length)&& decide (a.length<=32))):=rfl
theorem cF (a b:Bool):(bif a then b else false)=(a&& b):=by cases a<;>rfl
theorem cT (a b:Bool):(bif a then true else b)=(a||b):=by cases a<;>rfl
theorem vvalid_eq {n:Nat} {a:List Int} (hn:100<n) (hl:a.length<=40):Xw n a=some (vokB a):=by
 rw[Xw_eq]
 have key:∀k (i m:Nat) (b:Bool),i+k=a.length->k<m->ZN_L2 n a m (b,(i:Int))=some (b&& (a.drop i).all inR):=by
  intro k
  induction k with
  |zero=>
   intro i m b hi hm
   obtain⟨m,rfl⟩:∃m',m=m'+1:=⟨m-1,by omega⟩
   have:i=a.length:=by omega
   rw[ZN_L2_s,ite_nlt (by omega),this,List.drop_length,List.all_nil,Bool.and_true]
  |succ k ih=>
   intro i m b hi hm
   obtain⟨m,rfl⟩:∃m',m=m'+1:=⟨m-1,by omega⟩
   have hlt:i<a.length:=by omega
   rw[ZN_L2_s,ite_lt (by omega)]
   refine bs (ix hlt) ?_
   refine bs (XJ_eq ..) ?_
   rw[wS (by omega),ih (i+1) m _ (by omega) (by omega),QO hlt,List.all_cons,cF,cF,Bool.and_assoc,Bool.and_assoc]
   rw[show inR a[i]=(decide (a[i]>= -1000)&& decide (a[i]<=1000)) from rfl,Bool.and_assoc]
 have h:=key a.length 0 n true (by omega) (by omega)
 refine bs (a:=a.all inR) ?_ ?_
 ·rw[ZN_eq]
  refine bs h ?_
  rw[Rk,Bool.true_and]
 ·rw[vokB_def,cF,cF,Bool.and_assoc,show decide (((a.length:Nat):Int)>=1)=decide (1<=a.length) from decide_eq_decide.2 (by omega),show decide (((a.length:Nat):Int)<=32)=decide (a.length<=32) from decide_eq_decide.2 (by omega)]
theorem rvalid_eq {n:Nat} {a:List Int} (hn:100<n) (hl:a.length<=40):Zk n a=some (vokB a):=by
 rw[Zk_eq]
 have key:∀k (i m:Nat),i+k=a.length->k<m->Zk_L2 n a m (i:Int)=some (bif (a.drop i).all inR then .inl () else .inr false):=by
  intro k
  induction k with
  |zero=>
   intro i m hi hm
   obtain⟨m,rfl⟩:∃m',m=m'+1:=⟨m-1,by omega⟩
   have:i=a.length:=by omega
   rw[Zk_L2_s,ite_nlt (by omega),this,List.drop_length];rfl
  |succ k ih=>
   intro i m hi hm
   obtain⟨m,rfl⟩:∃m',m=m'+1:=⟨m-1,by omega⟩
   have hlt:i<a.length:=by omega
   rw[Zk_L2_s,ite_lt (by omega)]
   refine bs (ix hlt) ?_
   rw[QO hlt,List.all_cons]
   by_cases h1:a[i]< -1000
   ·rw[dT h1]
    refine bs rfl ?_
    have:inR a[i]=false:=by unfold inR;rw[dF (by omega)];rfl
    rw[this];rfl
   ·rw[dF h1]
    refine bs (ix hlt) ?_
    by_cases h2:a[i]>1000
    ·have:inR a[i]=false:=by unfold inR;rw[Bool.and_eq_false_iff];right;rw[dF (by omega)]
     rw[this,dT h2];rfl
    ·have:inR a[i]=true:=by unfold inR;rw[dT (by omega),dT (by omega)];rfl
     rw[this,dF h2,Bool.true_and]
     show Zk_L2 n a m _=_
     rw[wS (by omega)]
     exact ih (i+1) m (by omega) (by omega)
 refine bs (key a.length 0 n (by omega) (by omega)) ?_
 rw[Rk,vokB_def]
 cases a.all inR
 ·rfl
 ·show some (bif decide (((a.length:Nat):Int)>=1) then decide (((a.length:Nat):Int)<=32) else false)=_
  rw[cF,Bool.true_and,show decide (((a.length:Nat):Int)>=1)=decide (1<=a.length) from decide_eq_decide.2 (by omega),show decide (((a.length:Nat):Int)<=32)=decide (a.length<=32) from decide_eq_decide.2 (by omega)]
def alikeB (a b:List Int):Bool:=decide (a.length=b.length)&& (vokB a&& vokB b)
theorem len_beq (a b:List Int):(((a.length:Nat):Int)==((b.length:Nat):Int))=decide (a.length=b.length):=by
 by_cases h:a.length=b.length
 ·rw[h];simp
 ·rw[dF h];simp;omega
theorem valike_eq {n:Nat} {a b:List Int} (hn:100<n) (ha:a.length<=40) (hb:b.length<=40):Xx n (a,b)=some (alikeB a b):=by
 rw[Xx_eq,vvalid_eq hn ha,vvalid_eq hn hb,len_beq]
 unfold alikeB
 cases decide (a.length=b.length)<;>cases vokB a<;>cases vokB b<;>rfl
def fitB (l:List (List Int)):Bool:=match l with
 | []=>false
 |a::_=>l.all fun v=>alikeB a v
def FewL (l:List (List Int)):Prop:=l.length<=25/\∀v∈l,v.length<=40
theorem right_eq {n:Nat} {m:Int} {l:List (List Int)} (hn:100<n) (hf:FewL l):Xp n ⟨m,l⟩=some (mtB m&& fitB l):=by
 rw[Xp_eq]
 refine bs (mvalid_eq n m) ?_
 have h25:=hf.1
 cases l with
 |nil=>cases mtB m<;>rfl
 |cons a l'=>
  have e1:decide ((((a::l').length:Nat):Int)>=1)=true:=dT (by rw[List.length_cons];omega)
  have e2:decide ((((a::l').length:Nat):Int)<=4096)=true:=dT (by omega)
  show (whenO (bif bif mtB m then decide ((((a::l').length:Nat):Int)>=1) else false then decide ((((a::l').length:Nat):Int)<=4096) else false) _ false).bind _=_
  dsimp only
  rw[e1,e2]
  cases mtB m
  ·rfl
  ·have hc:XG n (a::l',((),(m,a::l')))=some (!(fitB (a::l'))):=by
    have key:∀k (i mm:Nat),i+k=(a::l').length->k<mm->∃r:PUnit⊕Int,ZJ_L2 n (a::l') m (a::l') mm (i:Int)=some r/\(((a::l').drop i).all (fun v=>alikeB a v)=true->r= .inl ())/\(((a::l').drop i).all (fun v=>alikeB a v)=false->∃z,r= .inr z/\0<=z):=by
     intro k
     induction k with
     |zero=>
      intro i mm hi hm
      obtain⟨mm,rfl⟩:∃m',mm=m'+1:=⟨mm-1,by omega⟩
      have:i=(a::l').length:=by omega
      rw[ZJ_L2_s,ite_nlt (by omega),this,List.drop_length]
      exact⟨_,rfl,fun _=>rfl,fun h=>by cases h⟩
     |succ k ih=>
      intro i mm hi hm
      obtain⟨mm,rfl⟩:∃m',mm=m'+1:=⟨mm-1,by omega⟩
      have hlt:i< (a::l').length:=by omega
      rw[ZJ_L2_s,ite_lt (by omega)]
      refine tE (ix hlt) ?_
      have e:XF n ((a::l')[i],(m,a::l'))=some (!(alikeB a (a::l')[i])):=by
       refine(XF_eq ..).trans ?_
       refine bs (ix0 a l') ?_
       exact bs (valike_eq hn (hf.2 a (Qz ..)) (hf.2 _ (QG _))) rfl
      refine tE e ?_
      rw[QO hlt,List.all_cons]
      cases h:alikeB a (a::l')[i]
      ·exact⟨_,rfl,fun h=>(by cases h),fun _=>⟨_,rfl,by omega⟩⟩
      ·rw[Bool.true_and,wS (by omega)]
       exact ih (i+1) mm (by omega) (by omega)
    obtain⟨r,h1,h2,h3⟩:=key (a::l').length 0 n (by omega) (by omega)
    rw[Rk] at h2 h3
    refine(XG_eq ..).trans ?_
    show _=some (!((a::l').all fun v=>alikeB a v))
    cases h:(a::l').all fun v=>alikeB a v
    ·obtain⟨z,rfl,hz⟩:=h3 h
     refine bs ((ZJ_eq ..).trans (bs h1 rfl)) ?_
     show some (decide (z>=0))=_
     rw[dT hz];rfl
    ·obtain rfl:=h2 h
     exact bs ((ZJ_eq ..).trans (bs h1 rfl)) rfl
   refine bs hc ?_
   cases fitB (a::l')<;>rfl
theorem rmetric_eq (n:Nat) (m:Int):XC n m=some (mtB m):=by rw[XC_eq];rfl
theorem fit_eq {n:Nat} {l:List (List Int)} (hn:100<n) (hf:FewL l):ZD n l=some (fitB l):=by
 rw[ZD_eq]
 have h25:=hf.1
 cases l with
 |nil=>
  obtain⟨n',rfl⟩:∃n',n=n'+1:=⟨n-1,by omega⟩
  refine bs (a:=.inl ()) ?_ rfl
  rw[ZD_L2_s];rfl
 |cons a l'=>
  have key:∀k (i mm:Nat),i+k=(a::l').length->k<mm->ZD_L2 n (a::l') mm (i:Int)=some (bif ((a::l').drop i).all (fun v=>vokB v&& decide (a.length=v.length)) then .inl () else .inr false):=by
   intro k
   induction k with
   |zero=>
    intro i mm hi hm
    obtain⟨mm,rfl⟩:∃m',mm=m'+1:=⟨mm-1,by omega⟩
    have:i=(a::l').length:=by omega
    rw[ZD_L2_s,ite_nlt (by omega),this,List.drop_length];rfl
   |succ k ih=>
    intro i mm hi hm
    obtain⟨mm,rfl⟩:∃m',mm=m'+1:=⟨mm-1,by omega⟩
    have hlt:i< (a::l').length:=by omega
    rw[ZD_L2_s,ite_lt (by omega),QO hlt,List.all_cons]
    refine bs (ix hlt) ?_
    refine bs (rvalid_eq hn (hf.2 _ (QG _))) ?_
    cases h:vokB (a::l')[i]
    ·rfl
    ·rw[Bool.true_and,wS (by omega),ih (i+1) mm (by omega) (by omega)]
     refine bs (ix hlt) ?_
     refine bs (ix0 a l') ?_
     have e:((((((a::l')[i]).length:Nat):Int)) !=(((a.length:Nat):Int)))= !(decide (a.length=((a::l')[i]).length)):=by
      rw[bne,len_beq];congr 2;exact propext eq_comm
     rw[e]
     cases decide (a.length=((a::l')[i]).length)<;>rfl
  refine bs (key (a::l').length 0 n (by omega) (by omega)) ?_
  rw[Rk]
  have e1:decide ((((a::l').length:Nat):Int)>=1)=true:=dT (by rw[List.length_cons];omega)
  have e2:decide ((((a::l').length:Nat):Int)<=4096)=true:=dT (by omega)
  have e3:((a::l').all fun v=>vokB v&& decide (a.length=v.length))=fitB (a::l'):=by
   show _=(a::l').all fun v=>alikeB a v
   rw[Bool.eq_iff_iff]
   simp only[QK,alikeB,iP]
   constructor
   ·intro h v hv
    exact⟨(h v hv).2,(h a (Qz ..)).1,(h v hv).1⟩
   ·intro h v hv
    exact⟨(h v hv).2.2,(h v hv).1⟩
  rw[e3]
  cases fitB (a::l')
  ·rfl
  ·show some (bif decide ((((a::l').length:Nat):Int)>=1) then decide ((((a::l').length:Nat):Int)<=4096) else false)=_
   rw[e1,e2];rfl
end Sh
end
section
open Go Go.Proofs Aq Pq
namespace Sh
set_option maxRecDepth 100000
def slB (k:Int):Option Int->List Int->Bool
 |_,[]=>true
 |p,x::l=>(!(decide (x<0)||decide (x>=k))&& (match p with
  |none=>true
  |some q=>!decide (x<=q)))&& slB k (some x) l
def prevS (l:List Int):Nat->Option Int
 |0=>none
 |i+1=>l[i]?
theorem prevS_s {l:List Int} {i:Nat} (h:i<l.length):prevS l (i+1)=some l[i]:=QT h
def hoodB (k:Int) (i:Nat) (h:Hood):Bool:= !(decide (h.Radius<0)||decide (h.Radius>134217728))&& decide ((i:Int)∈h.Slots)&& slB k none h.Slots
def hoodsB (k:Int):Nat->List Hood->Bool
 |_,[]=>true
 |i,h::l=>hoodB k i h&& hoodsB k (i+1) l
def validB (k:Int) (hs:List Hood):Bool:= !(decide (k<1)||decide (k>4096)|| !decide ((hs.length:Int)=k))&& hoodsB k 0 hs
def FewG (hs:List Hood):Prop:=hs.length<=30/\∀h∈hs,h.Slots.length<=40
theorem gslots_eq {n:Nat} {k:Int} {g:Graph} {i0:Int} {h:Hood} (hl:h.Slots.length<=40):∀c (i m:Nat),i+c=h.Slots.length->c<m->Zd_L9 n k g i0 h m (i:Int)=some (bif slB k (prevS h.Slots i) (h.Slots.drop i) then .inl () else .inr false):=by
 intro c
 induction c with
 |zero=>
  intro i m hi hm
  obtain⟨m,rfl⟩:∃m',m=m'+1:=⟨m-1,by omega⟩
  have:i=h.Slots.length:=by omega
  rw[Zd_L9_s,ite_nlt (by omega),this,List.drop_length];rfl
 |succ c ih=>
  intro i m hi hm
  obtain⟨m,rfl⟩:∃m',m=m'+1:=⟨m-1,by omega⟩
  have hlt:i<h.Slots.length:=by omega
  have hih:=ih (i+1) m (by omega) (by omega)
  rw[prevS_s hlt] at hih
  rw[Zd_L9_s,ite_lt (by omega),QO hlt]
  refine bs (ix hlt) ?_
  generalize h.Slots[i]=x at hih⊢
  rw[cT,wS (by omega),hih]
  rw[show slB k (prevS h.Slots i) (x::List.drop (i+1) h.Slots)=((!(decide (x<0)||decide (x>=k))&& (match prevS h.Slots i with
   |none=>true
   |some q=>!decide (x<=q)))&& slB k (some x) (List.drop (i+1) h.Slots)) from rfl]
  cases hx:(decide (x<0)||decide (x>=k))
  ·cases i with
   |zero=>
    refine bs (a:=(0:Int)) rfl ?_
    rfl
   |succ i=>
    rw[prevS_s (by omega),dT (show ((i+1:Nat):Int)>0 by omega),wr (by omega) (by omega),show ((i+1:Nat):Int)-1=(i:Int) by omega]
    refine bs (ix (by omega)) ?_
    dsimp only
    cases decide (x<=h.Slots[i]'(by omega))<;>rfl
  ·refine bs (a:=(0:Int)) rfl ?_
   rfl
theorem contains_eq {n:Nat} {l:List Int} {x:Int} (hn:100<n) (hl:l.length<=40):XH n (l,x)=some (decide (x∈l)):=by
 have key:∀c (i m:Nat),i+c=l.length->c<m->∃r:PUnit⊕Int,ZK_L2 n l x m (i:Int)=some r/\(x∉l.drop i->r= .inl ())/\(x∈l.drop i->∃z,r= .inr z/\0<=z):=by
  intro c
  induction c with
  |zero=>
   intro i m hi hm
   obtain⟨m,rfl⟩:∃m',m=m'+1:=⟨m-1,by omega⟩
   have:i=l.length:=by omega
   rw[ZK_L2_s,ite_nlt (by omega),this,List.drop_length]
   exact⟨_,rfl,fun _=>rfl,fun h=>by cases h⟩
  |succ c ih=>
   intro i m hi hm
   obtain⟨m,rfl⟩:∃m',m=m'+1:=⟨m-1,by omega⟩
   have hlt:i<l.length:=by omega
   rw[ZK_L2_s,ite_lt (by omega),QO hlt]
   refine tE (ix hlt) ?_
   by_cases h:x=l[i]
   ·rw[show (x==l[i])=true by simpa using h]
    exact⟨_,rfl,fun k=>absurd (h▸Qz ..) k,fun _=>⟨_,rfl,by omega⟩⟩
   ·rw[show (x==l[i])=false by simpa using h,cond_false,wS (by omega)]
    obtain⟨r,h1,h2,h3⟩:=ih (i+1) m (by omega) (by omega)
    exact⟨r,h1,fun k=>h2 (fun k'=>k (QB _ k')),fun k=>h3 ((QN.1 k).resolve_left h)⟩
 obtain⟨r,h1,h2,h3⟩:=key l.length 0 n (by omega) (by omega)
 rw[Rk] at h2 h3
 refine(XH_eq ..).trans ?_
 by_cases h:x∈l
 ·obtain⟨z,rfl,hz⟩:=h3 h
  refine bs ((ZK_eq ..).trans (bs h1 rfl)) ?_
  rw[dT h]
  exact congrArg some (dT hz)
 ·obtain rfl:=h2 h
  rw[dF h]
  exact bs ((ZK_eq ..).trans (bs h1 rfl)) rfl
theorem gvalid_eq {n:Nat} {k:Int} {g:Graph} (hn:100<n) (hf:FewG g.Hoods):Zd n (k,g)=some (validB k g.Hoods):=by
 have key:∀c (i m:Nat),i+c=g.Hoods.length->c<m->Zd_L4 n k g m (i:Int)=some (bif hoodsB k i (g.Hoods.drop i) then .inl () else .inr false):=by
  intro c
  induction c with
  |zero=>
   intro i m hi hm
   obtain⟨m,rfl⟩:∃m',m=m'+1:=⟨m-1,by omega⟩
   have:i=g.Hoods.length:=by omega
   rw[Zd_L4_s,ite_nlt (by omega),this,List.drop_length];rfl
  |succ c ih=>
   intro i m hi hm
   obtain⟨m,rfl⟩:∃m',m=m'+1:=⟨m-1,by omega⟩
   have hlt:i<g.Hoods.length:=by omega
   have h30:=hf.1
   have h40:=hf.2 g.Hoods[i] (QG _)
   rw[Zd_L4_s,ite_lt (by omega),QO hlt]
   refine bs (ix hlt) ?_
   generalize g.Hoods[i]=h at h40⊢
   rw[wS (by omega),ih (i+1) m (by omega) (by omega)]
   rw[show hoodsB k i (h::List.drop (i+1) g.Hoods)=(hoodB k i h&& hoodsB k (i+1) (List.drop (i+1) g.Hoods)) from rfl,cT]
   unfold hoodB
   cases h1:(decide (h.Radius<0)||decide (h.Radius>134217728))
   ·refine bs (contains_eq hn h40) ?_
    cases h2:decide ((i:Int)∈h.Slots)
    ·rfl
    ·refine bs (gslots_eq h40 h.Slots.length 0 n (by omega) (by omega)) ?_
     show Sum.elim _ _ (bif slB k none h.Slots then (.inl ():PUnit⊕Bool) else .inr false)=_
     cases slB k none h.Slots<;>rfl
   ·exact bs (a:=false) rfl rfl
 refine(Zd_eq ..).trans ?_
 unfold validB
 rw[cT,cT,show ((((g.Hoods.length:Nat):Int)) !=k)= !decide (((g.Hoods.length:Nat):Int)=k) from by rw[bne];congr 1]
 cases (decide (k<1)||decide (k>4096)|| !decide (((g.Hoods.length:Nat):Int)=k))
 ·have h30:=hf.1
  refine bs (key g.Hoods.length 0 n (by omega) (by omega)) ?_
  rw[Rk]
  cases hoodsB k 0 g.Hoods<;>rfl
 ·rfl
end Sh
end
section
open Go Go.Proofs Aq Pq
namespace Sh
set_option maxRecDepth 100000
theorem few_eq {n:Nat} {l:List (List Int)} (hn:100<n):∃b:Bool,Zz n (l,(25:Int))=some b/\(b=true->FewL l):=by
 by_cases h25:l.length<=25
 ·have key:∀c (i m:Nat),i+c=l.length->c<m->∃r:PUnit⊕Bool,Zz_L4 n l m (i:Int)=some r/\((r= .inl ()/\∀v∈l.drop i,v.length<=40)\/r= .inr false):=by
   intro c
   induction c with
   |zero=>
    intro i m hi hm
    obtain⟨m,rfl⟩:∃m',m=m'+1:=⟨m-1,by omega⟩
    have:i=l.length:=by omega
    rw[Zz_L4_s,ite_nlt (by omega),this,List.drop_length]
    exact⟨_,rfl,.inl ⟨rfl,fun v hv=>by cases hv⟩⟩
   |succ c ih=>
    intro i m hi hm
    obtain⟨m,rfl⟩:∃m',m=m'+1:=⟨m-1,by omega⟩
    have hlt:i<l.length:=by omega
    rw[Zz_L4_s,ite_lt (by omega),QO hlt,wS (by omega)]
    refine tE (ix hlt) ?_
    by_cases h:((l[i].length:Nat):Int)>40
    ·rw[dT h];exact⟨_,rfl,.inr rfl⟩
    ·rw[dF h]
     obtain⟨r,h1,h2⟩:=ih (i+1) m (by omega) (by omega)
     refine⟨r,h1,?_⟩
     rcases h2 with ⟨h2,h3⟩|h2
     ·refine .inl ⟨h2,fun v hv=>?_⟩
      rcases QN.1 hv with hv|hv
      ·rw[hv];omega
      ·exact h3 v hv
     ·exact .inr h2
  obtain⟨r,h1,h2⟩:=key l.length 0 n (by omega) (by omega)
  have e:Zz n (l,(25:Int))=(some r).bind fun (r5:PUnit⊕Bool)=>Sum.elim (fun (q6:PUnit)=>some true) (fun (q7:Bool)=>some q7) r5:=by
   refine(Zz_eq ..).trans ?_
   rw[dF (show¬((l.length:Nat):Int)>25 by omega),cond_false]
   exact bs h1 rfl
  rw[e]
  rcases h2 with ⟨rfl,h3⟩|rfl
  ·exact⟨true,rfl,fun _=>⟨h25,by simpa using h3⟩⟩
  ·exact⟨false,rfl,fun h=>by cases h⟩
 ·refine⟨false,?_,fun h=>by cases h⟩
  refine(Zz_eq ..).trans ?_
  rw[dT (show ((l.length:Nat):Int)>25 by omega)];rfl
def M3 (m:Int):Prop:=m=1\/m=2\/m=3
def LOK (l:List (List Int)) (v:List Int):Prop:=l.length<=25/\VOK v/\∀x∈l,VOK x/\x.length=v.length
theorem fit_iff {l:List (List Int)} (h:fitB l=true) (hf:FewL l) {v:List Int} (hv:v∈l):LOK l v:=by
 unfold fitB at h
 cases l with
 |nil=>cases hv
 |cons a l'=>
  dsimp only at h
  rw[QK] at h
  have h':∀x∈a::l',a.length=x.length/\VOK a/\VOK x:=fun x hx=>by
   have:=h x hx
   unfold alikeB at this
   rw[iP,iP,vokB_iff,vokB_iff,decide_eq_true_iff] at this
   exact this
  refine⟨hf.1,(h' v hv).2.2,fun x hx=>⟨(h' x hx).2.2,?_⟩⟩
  rw[<-(h' x hx).1,(h' v hv).1]
def keysS (m:Int) (l:List (List Int)) (v:List Int):List Int:=l.map fun x=>keyS m x v
def arS (t:Int):Nat->List Int->List Int
 |_,[]=>[]
 |i,k::ks=>bif decide (k<=t) then (i:Int)::arS t (i+1) ks else arS t (i+1) ks
theorem arS_len (t:Int):∀(ks:List Int) (i:Nat),(arS t i ks).length=ks.countP (fun k=>decide (k<=t))
 | [],_=>rfl
 |k::ks,i=>by
  unfold arS
  rw[List.countP_cons]
  cases decide (k<=t)
  ·exact arS_len t ks (i+1)
  ·exact congrArg (· +1) (arS_len t ks (i+1))
theorem keys_eq {n:Nat} {m:Int} {l:List (List Int)} {v:List Int} (hn:100<n) (hm:M3 m) (h:LOK l v):Zm n (⟨m,l⟩,v)=some (keysS m l v):=by
 have h25:=h.1
 have key:∀c (i mm:Nat) (t:List Int),i+c=l.length->c<mm->t.length=i->Zm_L3 n ⟨m,l⟩ v mm (t,(i:Int))=some (t++(l.drop i).map fun x=>keyS m x v):=by
  intro c
  induction c with
  |zero=>
   intro i mm t hi hm ht
   obtain⟨mm,rfl⟩:∃m',mm=m'+1:=⟨mm-1,by omega⟩
   have:i=l.length:=by omega
   rw[Zm_L3_s,ite_nlt (by dsimp only;omega),this,List.drop_length,List.map_nil,QX]
  |succ c ih=>
   intro i mm t hi hmm ht
   obtain⟨mm,rfl⟩:∃m',mm=m'+1:=⟨mm-1,by omega⟩
   have hlt:i<l.length:=by omega
   have hx:=h.2.2 l[i] (QG _)
   rw[Zm_L3_s,ite_lt (by dsimp only;omega),QO hlt,QA]
   refine bs (ix hlt) ?_
   refine bs (vkey_eq hn hm hx.1 h.2.1 hx.2) ?_
   rw[room (by simp only[List.length_singleton];omega) (by simp only[List.length_singleton];omega),cond_true,wS (by omega),ih (i+1) mm _ (by omega) (by omega) (by rw[QI,ht];rfl),QS]
   rfl
 refine(Zm_eq ..).trans (bs (key l.length 0 n [] (by omega) (by omega) rfl) ?_)
 rfl
theorem around_eq {n:Nat} {ks:List Int} {t:Int} (hn:100<n) (hl:ks.length<=25):Zu n (ks,t)=some (arS t 0 ks):=by
 have key:∀c (i mm:Nat) (o:List Int),i+c=ks.length->c<mm->o.length<=i->Zu_L3 n ks t mm (o,(i:Int))=some (o++arS t i (ks.drop i)):=by
  intro c
  induction c with
  |zero=>
   intro i mm o hi hm ht
   obtain⟨mm,rfl⟩:∃m',mm=m'+1:=⟨mm-1,by omega⟩
   have:i=ks.length:=by omega
   rw[Zu_L3_s,ite_nlt (by omega),this,List.drop_length]
   exact congrArg some (QX o).symm
  |succ c ih=>
   intro i mm o hi hmm ht
   obtain⟨mm,rfl⟩:∃m',mm=m'+1:=⟨mm-1,by omega⟩
   have hlt:i<ks.length:=by omega
   rw[Zu_L3_s,ite_lt (by omega),QO hlt]
   refine bs (ix hlt) ?_
   rw[wS (by omega),room (by simp only[List.length_singleton];omega) (by simp only[List.length_singleton];omega),cond_true]
   unfold arS
   cases decide (ks[i]<=t)
   ·exact ih (i+1) mm _ (by omega) (by omega) (by omega)
   ·refine(ih (i+1) mm _ (by omega) (by omega) (by rw[QI];simp only[List.length_singleton];omega)).trans ?_
    rw[QS];rfl
 exact(Zu_eq ..).trans (bs (key ks.length 0 n [] (by omega) (by omega) (by simp)) rfl)
theorem same_loop {a b:List Int} {L:Nat->Int->Option (PUnit⊕Bool)} (hl:a.length=b.length) (hs:∀m (i:Nat) (hi:i<a.length),L (m+1) (i:Int)=bif a[i] !=b[i]'(by omega) then some (.inr false) else L m ((i+1:Nat):Int)) (he:∀m,L (m+1) (a.length:Int)=some (.inl ())):
 ∀c (i m:Nat),i+c=a.length->c<m->L m (i:Int)=some (bif decide (a.drop i=b.drop i) then .inl () else .inr false):=by
 intro c
 induction c with
 |zero=>
  intro i m hi hm
  obtain⟨m,rfl⟩:∃m',m=m'+1:=⟨m-1,by omega⟩
  have:i=a.length:=by omega
  subst this
  rw[he,List.drop_length,hl,List.drop_length];rfl
 |succ c ih=>
  intro i m hi hm
  obtain⟨m,rfl⟩:∃m',m=m'+1:=⟨m-1,by omega⟩
  have hlt:i<a.length:=by omega
  rw[hs m i hlt,ih (i+1) m (by omega) (by omega),QO hlt,QO (show i<b.length by omega)]
  by_cases h:a[i]=b[i]'(by omega)
  ·rw[show (a[i] !=b[i]'(by omega))=false by simpa using h,cond_false]
   rw[show decide (a[i]::a.drop (i+1)=(b[i]'(by omega))::b.drop (i+1))=decide (a.drop (i+1)=b.drop (i+1)) from decide_eq_decide.2 (by rw[Rb];exact⟨fun k=>k.2,fun k=>⟨h,k⟩⟩)]
  ·rw[show (a[i] !=b[i]'(by omega))=true by simpa using h,cond_true,dF (fun k=>h (List.cons.inj k).1)];rfl
theorem len_bne (a b:List Int):(((a.length:Nat):Int) !=((b.length:Nat):Int))= !decide (a.length=b.length):=by rw[bne,len_beq]
theorem equal_eq {n:Nat} {a b:List Int} (hn:100<n) (ha:a.length<=40):ZC n (a,b)=some (decide (a=b)):=by
 refine(ZC_eq ..).trans ?_
 rw[len_bne]
 by_cases h:a.length=b.length
 ·rw[dT h]
  refine bs (same_loop (L:=ZC_L4 n a b) h ?_ ?_ a.length 0 n (by omega) (by omega)) ?_
  ·intro m i hi
   rw[ZC_L4_s,ite_lt (by omega),wS (by omega)]
   exact bs (ix hi) (bs (ix (by omega)) rfl)
  ·intro m;rw[ZC_L4_s,ite_nlt (by omega)]
  ·rw[Rk,Rk]
   cases decide (a=b)<;>rfl
 ·rw[dF h,dF (fun k=>h (by rw[k]))];rfl
end Sh
end
section
open Go Aq
namespace Pq
variable {α:Type}
section
variable {d:α} {Ok:α->Prop} {lt:α->α->Prop} {K:{β:Type}->α->α->(Bool->Option β)->Option β} (hc:CmpO Ok lt K) (ho:Ord lt) {L4:Int->Int->Int->Nat->Int×List α->Option (PUnit×List α)}
 (h4:∀(x1 x2 x4:Int) (m:Nat) (x6:Int) (x7:List α),L4 x1 x2 x4 (m+1) (x6,x7)=
   bif decide (x6>x1) then
    bif decide (0<=x6/\x6< ((x7.length:Nat):Int)) then
     (idxL x7 x6).bind fun (r8:α)=>
     bif decide (0<=(Go.IntKind.wrap .i64 (x6-((1:Int))))/\(Go.IntKind.wrap .i64 (x6-((1:Int))))< ((x7.length:Nat):Int)) then
      (idxL x7 (Go.IntKind.wrap .i64 (x6-((1:Int))))).bind fun (r9:α)=>
      K r8 r9 fun (r10:Bool)=>
      bif r10 then
       bif decide (0<=(Go.IntKind.wrap .i64 (x6-((1:Int))))/\(Go.IntKind.wrap .i64 (x6-((1:Int))))< ((x7.length:Nat):Int)) then
        (idxL x7 (Go.IntKind.wrap .i64 (x6-((1:Int))))).bind fun (r11:α)=>
        bif decide (0<=x6/\x6< ((x7.length:Nat):Int)) then
         (idxL x7 x6).bind fun (r12:α)=>
         bif decide (0<=x6/\x6< ((x7.length:Nat):Int)) then
          (idxL x7 x6).bind fun (_:α)=>
          bif decide (0<=(Go.IntKind.wrap .i64 (x6-((1:Int))))/\(Go.IntKind.wrap .i64 (x6-((1:Int))))< (((setL x7 x6 r11).length:Nat):Int)) then
           (idxL (setL x7 x6 r11) (Go.IntKind.wrap .i64 (x6-((1:Int))))).bind fun (_:α)=>
           L4 x1 x2 x4 m ((Go.IntKind.wrap .i64 (x6-((1:Int))),setL (setL x7 x6 r11) (Go.IntKind.wrap .i64 (x6-((1:Int)))) r12))
          else
           none
         else
          none
        else
         none
       else
        none
      else
       some (((),x7))
     else
      none
    else
     none
   else
    some (((),x7)))
include hc ho h4
theorem insIn {a i x2 x4:Int} {l:List α} {m:Nat} (h0:0<=a) (h1:a<=i) (h2:i<l.length) (hb:l.length<2^60) (hal:Al Ok l) (hs:Sd lt d a i l) (hm:(i-a).toNat<m):
 ∃r,L4 a x2 x4 m (i,l)=some r/\Rp d a (i+1) l r.2/\Sd lt d a (i+1) r.2:=by
 refine mu (τ:=Int×List α) (L:=L4 a x2 x4) (fun p=>a<=p.1/\p.1<=i/\Rp d a (i+1) l p.2/\(∀u v,a<=u->u<v->v<=i->u≠p.1->v≠p.1->¬lt (gI d p.2 v) (gI d p.2 u))/\(∀v,p.1<v->v<=i->¬lt (gI d p.2 v) (gI d p.2 p.1))) (fun p=>(p.1-a).toNat) _ ?_ m (i,l) ⟨h1,QC _,.refl _ _ _ _,fun u v k1 k2 k3 k4 k5=>hs u v k1 k2 (by omega),fun v k1 k2=>by omega⟩ hm
 rintro m ⟨j,D⟩ ⟨i1,i2,i3,i4,i5⟩ rec_
 dsimp only at i1 i2 i3 i4 i5 rec_⊢
 have hl:=i3.len
 have hal':=i3.al hal
 rw[h4]
 simp (disch:=omega) only[wr]
 refine tD (fun hj=>?_) (fun hj=>?_)
 ·refine tI (by omega) (by omega) (tE (idx_gI d (by omega) (by omega)) (tI (by omega) (by omega) (tE (idx_gI d (by omega) (by omega)) (tM hc (hal'.at d (by omega) (by omega)) (hal'.at d (by omega) (by omega)) fun r hr=>?_))))
  refine tD (fun hlt=>?_) (fun hlt=>?_)
  ·refine tI (by omega) (by omega) (tE (idx_gI d (by omega) (by omega)) (tI (by omega) (by omega) (tE (idx_gI d (by omega) (by omega)) (tI (by omega) (by omega) (tE (idx_gI d (by omega) (by omega)) (tI (by omega) (by rw[len_setL];omega) (tE (idx_gI d (by omega) (by rw[len_setL];omega)) ?_)))))))
   have hlt':=hr.1 hlt
   refine rec_ (j-1,swp d D j (j-1)) ⟨by dsimp only;omega,by dsimp only;omega,i3.swp h0 (by omega) (by omega) (by omega) (by omega) (by omega),fun u v k1 k2 k3 k4 k5=>?_,fun v k1 k2=>?_⟩ (by dsimp only;omega)
   ·dsimp only at k4 k5⊢
    rw[gI_swp (by omega) (by omega) (by omega) (by omega) (by omega),gI_swp (by omega) (by omega) (by omega) (by omega) (by omega),if_neg k5,if_neg k4]
    by_cases e1:v=j
    ·rw[if_pos e1]
     by_cases e2:u=j
     ·omega
     ·rw[if_neg e2]
      exact i4 u (j-1) k1 (by omega) (by omega) e2 (by omega)
    ·rw[if_neg e1]
     by_cases e2:u=j
     ·rw[if_pos e2]
      exact i4 (j-1) v (by omega) (by omega) k3 (by omega) e1
     ·rw[if_neg e2]
      exact i4 u v k1 k2 k3 e2 e1
   ·dsimp only at k1 k2⊢
    rw[gI_swp (by omega) (by omega) (by omega) (by omega) (by omega),gI_swp (by omega) (by omega) (by omega) (by omega) (by omega),if_neg (by omega),if_pos rfl]
    by_cases e1:v=j
    ·rw[if_pos e1];exact ho.asym _ _ hlt'
    ·rw[if_neg e1];exact i5 v (by omega) k2
  ·refine tS ⟨i3,?_⟩
   have hlt':¬lt (gI d D j) (gI d D (j-1)):=fun h=>hlt (hr.2 h)
   intro u v k1 k2 k3
   by_cases e1:v=j
   ·subst e1
    by_cases e2:u=v-1
    ·rw[e2];exact hlt'
    ·exact ho.neg _ _ _ hlt' (i4 u (v-1) k1 (by omega) (by omega) (by omega) (by omega))
   ·by_cases e2:u=j
    ·subst e2;exact i5 v k2 (by omega)
    ·exact i4 u v k1 k2 (by omega) e2 e1
 ·refine tS ⟨i3,?_⟩
  have e:j=a:=by omega
  intro u v k1 k2 k3
  by_cases e2:u=j
  ·subst e2;exact i5 v k2 (by omega)
  ·exact i4 u v k1 k2 (by omega) e2 (by omega)
variable {n:Nat} {L1:Int->Int->Nat->Int×List α->Option (PUnit×List α)}
 (h1:∀(x1 x2:Int) (m:Nat) (x4:Int) (x5:List α),L1 x1 x2 (m+1) (x4,x5)=
   bif decide (x4<x2) then
    (L4 x1 x2 x4 n ((x4,x5))).bind fun (r15:PUnit×List α)=>
    L1 x1 x2 m ((Go.IntKind.wrap .i64 (x4+((1:Int))),r15.2))
   else
    some (((),x5)))
include h1
theorem insAll {a b:Int} {l:List α} (h0:0<=a) (hab:a<=b) (h2:b<=l.length) (hb:l.length<2^60) (hal:Al Ok l) (hn:(b-a).toNat+1<n):
 ∃r,L1 a b n (IntKind.wrap .i64 (a+1),l)=some r/\Rp d a b l r.2/\Sd lt d a b r.2:=by
 rw[wr (by omega) (by omega)]
 refine mu (τ:=Int×List α) (L:=L1 a b) (fun p=>a<p.1/\(p.1<=b\/p.1=a+1)/\Rp d a b l p.2/\Sd lt d a p.1 p.2) (fun p=>(b-p.1).toNat) _ ?_ n (a+1,l) ⟨by dsimp only;omega,.inr rfl,.refl _ _ _ _,fun u v k1 k2 k3=>by dsimp only at k3;omega⟩ (by dsimp only;omega)
 rintro m ⟨i,D⟩ ⟨i1,i2,i3,i4⟩ rec_
 dsimp only at i1 i2 i3 i4 rec_⊢
 have hl:=i3.len
 rw[h1]
 refine tD (fun hi=>?_) (fun hi=>?_)
 ·refine tB (insIn hc ho h4 (d:=d) h0 (by omega) (by omega) (by omega) (i3.al hal) i4 (by omega)) fun r ⟨r1,r2⟩=>?_
  rw[wr (by omega) (by omega)]
  exact rec_ (i+1,r.2) ⟨by dsimp only;omega,.inl (by dsimp only;omega),i3.trans (r1.wide (QC _) (by omega) h0),r2⟩ (by dsimp only;omega)
 ·refine tS ⟨i3,?_⟩
  intro u v k1 k2 k3
  exact i4 u v k1 k2 (by omega)
end
section
variable {d:α} {n:Nat} {L2:Nat->(Int×Int)×List α->Option (PUnit×List α)}
 (h2:∀(m:Nat) (x4:Int) (x5:Int) (x6:List α),L2 (m+1) ((x4,x5),x6)=
   bif decide (x4<x5) then
    bif decide (0<=x5/\x5< ((x6.length:Nat):Int)) then
     (idxL x6 x5).bind fun (r7:α)=>
     bif decide (0<=x4/\x4< ((x6.length:Nat):Int)) then
      (idxL x6 x4).bind fun (r8:α)=>
      bif decide (0<=x4/\x4< ((x6.length:Nat):Int)) then
       (idxL x6 x4).bind fun (_:α)=>
       bif decide (0<=x5/\x5< (((setL x6 x4 r7).length:Nat):Int)) then
        (idxL (setL x6 x4 r7) x5).bind fun (_:α)=>
        L2 m (((Go.IntKind.wrap .i64 (x4+((1:Int))),Go.IntKind.wrap .i64 (x5-((1:Int)))),setL (setL x6 x4 r7) x5 r8))
       else
        none
      else
       none
     else
      none
    else
     none
   else
    some (((),x6)))
include h2
theorem revAll {a b:Int} {l:List α} (h0:0<=a) (hab:a<=b) (h3:b<=l.length) (hb:l.length<2^60) (hn:(b-a).toNat+1<n):
 ∃r,L2 n ((a,IntKind.wrap .i64 (b-1)),l)=some r/\Rp d a b l r.2:=by
 rw[wr (by omega) (by omega)]
 refine mu (τ:=(Int×Int)×List α) (L:=L2) (fun p=>a<=p.1.1/\p.1.2<b/\a-1<=p.1.2/\p.1.1<=b/\Rp d a b l p.2) (fun p=>(p.1.2-p.1.1+1).toNat) _ ?_ n ((a,b-1),l) ⟨QC _,by dsimp only;omega,by dsimp only;omega,by dsimp only;omega,.refl _ _ _ _⟩ (by dsimp only;omega)
 rintro m ⟨⟨i,j⟩,D⟩ ⟨i1,i2,i3,i4,i5⟩ rec_
 dsimp only at i1 i2 i3 i4 i5 rec_⊢
 have hl:=i5.len
 rw[h2]
 refine tD (fun hi=>?_) (fun hi=>tS i5)
 refine tI (by omega) (by omega) (tE (idx_gI d (by omega) (by omega)) (tI (by omega) (by omega) (tE (idx_gI d (by omega) (by omega)) (tI (by omega) (by omega) (tE (idx_gI d (by omega) (by omega)) (tI (by omega) (by rw[len_setL];omega) (tE (idx_gI d (by omega) (by rw[len_setL];omega)) ?_)))))))
 rw[wr (by omega) (by omega),wr (by omega) (by omega)]
 exact rec_ ((i+1,j-1),swp d D i j) ⟨by dsimp only;omega,by dsimp only;omega,by dsimp only;omega,by dsimp only;omega,i5.swp h0 (by omega) (by omega) (by omega) (by omega) (by omega)⟩ (by dsimp only;omega)
end
end Pq
end
section
open Go Aq
namespace Pq
variable {α:Type}
def Hp (lt:α->α->Prop) (d:α) (f s hi:Int) (l:List α):Prop:=∀i c,s<=i->(c=2*i+1\/c=2*i+2)->c<hi->¬lt (gI d l (f+i)) (gI d l (f+c))
def two {β:Type} (r:(PUnit×β)⊕(PUnit×β)):β:=Sum.elim (fun q=>q.2) (fun q=>q.2) r
section
variable {d:α} {Ok:α->Prop} {lt:α->α->Prop} {K:{β:Type}->α->α->(Bool->Option β)->Option β} (hc:CmpO Ok lt K) (ho:Ord lt) {S1:Int->Int->Nat->(Int×List α)->Option ((PUnit×List α)⊕(PUnit×List α))}
 (hS1:∀(x2:Int) (x3:Int) (m:Nat) (x5:Int) (x6:List α),S1 x2 x3 (m+1) (x5,x6)=
   bif decide ((IntKind.wrap .i64 ((IntKind.wrap .i64 ((2:Int)*x5))+(1:Int)))>=x2) then
    some (.inl (((),x6)))
   else
    Option.bind (α:=Int) (
     bif decide ((IntKind.wrap .i64 ((IntKind.wrap .i64 ((IntKind.wrap .i64 ((2:Int)*x5))+(1:Int)))+(1:Int)))<x2) then
      bif decide (0<=(IntKind.wrap .i64 (x3+(IntKind.wrap .i64 ((IntKind.wrap .i64 ((2:Int)*x5))+(1:Int)))))/\(IntKind.wrap .i64 (x3+(IntKind.wrap .i64 ((IntKind.wrap .i64 ((2:Int)*x5))+(1:Int)))))< ((x6.length:Nat):Int)) then
       (idxL x6 (IntKind.wrap .i64 (x3+(IntKind.wrap .i64 ((IntKind.wrap .i64 ((2:Int)*x5))+(1:Int)))))).bind fun (r7:α)=>
       bif decide (0<=(IntKind.wrap .i64 ((IntKind.wrap .i64 (x3+(IntKind.wrap .i64 ((IntKind.wrap .i64 ((2:Int)*x5))+(1:Int)))))+(1:Int)))/\(IntKind.wrap .i64 ((IntKind.wrap .i64 (x3+(IntKind.wrap .i64 ((IntKind.wrap .i64 ((2:Int)*x5))+(1:Int)))))+(1:Int)))< ((x6.length:Nat):Int)) then
        (idxL x6 (IntKind.wrap .i64 ((IntKind.wrap .i64 (x3+(IntKind.wrap .i64 ((IntKind.wrap .i64 ((2:Int)*x5))+(1:Int)))))+(1:Int)))).bind fun (r8:α)=>
        K r7 r8 fun (r9:Bool)=>
        bif r9 then
         some (IntKind.wrap .i64 ((IntKind.wrap .i64 ((IntKind.wrap .i64 ((2:Int)*x5))+(1:Int)))+(1:Int)))
        else
         some (IntKind.wrap .i64 ((IntKind.wrap .i64 ((2:Int)*x5))+(1:Int)))
       else
        none
      else
       none
     else
      some (IntKind.wrap .i64 ((IntKind.wrap .i64 ((2:Int)*x5))+(1:Int)))) fun (r10:Int)=>
    bif decide (0<=(IntKind.wrap .i64 (x3+x5))/\(IntKind.wrap .i64 (x3+x5))< ((x6.length:Nat):Int)) then
     (idxL x6 (IntKind.wrap .i64 (x3+x5))).bind fun (r11:α)=>
     bif decide (0<=(IntKind.wrap .i64 (x3+r10))/\(IntKind.wrap .i64 (x3+r10))< ((x6.length:Nat):Int)) then
      (idxL x6 (IntKind.wrap .i64 (x3+r10))).bind fun (r12:α)=>
      K r11 r12 fun (r13:Bool)=>
      bif !(r13) then
       some (.inr (((),x6)))
      else
       bif decide (0<=(IntKind.wrap .i64 (x3+r10))/\(IntKind.wrap .i64 (x3+r10))< ((x6.length:Nat):Int)) then
        (idxL x6 (IntKind.wrap .i64 (x3+r10))).bind fun (r14:α)=>
        bif decide (0<=(IntKind.wrap .i64 (x3+x5))/\(IntKind.wrap .i64 (x3+x5))< ((x6.length:Nat):Int)) then
         (idxL x6 (IntKind.wrap .i64 (x3+x5))).bind fun (r15:α)=>
         bif decide (0<=(IntKind.wrap .i64 (x3+x5))/\(IntKind.wrap .i64 (x3+x5))< ((x6.length:Nat):Int)) then
          (idxL x6 (IntKind.wrap .i64 (x3+x5))).bind fun (r16:α)=>
          bif decide (0<=(IntKind.wrap .i64 (x3+r10))/\(IntKind.wrap .i64 (x3+r10))< (((setL x6 (IntKind.wrap .i64 (x3+x5)) r14).length:Nat):Int)) then
           (idxL (setL x6 (IntKind.wrap .i64 (x3+x5)) r14) (IntKind.wrap .i64 (x3+r10))).bind fun (r17:α)=>
           S1 x2 x3 m ((r10,setL (setL x6 (IntKind.wrap .i64 (x3+x5)) r14) (IntKind.wrap .i64 (x3+r10)) r15))
          else
           none
         else
          none
        else
         none
       else
        none
     else
      none
    else
     none)
include hc ho hS1
theorem siftIn {f lo hi:Int} {l:List α} {m:Nat} (h0:0<=f) (hlo:0<=lo) (hlb:lo<2^58) (hhi:0<=hi) (hf:f+hi<=l.length) (hb:l.length<2^58) (hal:Al Ok l) (hh:Hp lt d f (lo+1) hi l) (hm:(hi-lo).toNat<m):
 ∃r,S1 hi f m (lo,l)=some r/\Rp d f (f+hi) l (two r)/\Hp lt d f lo hi (two r):=by
 refine mu (τ:=Int×List α) (L:=S1 hi f) (fun p=>lo<=p.1/\(p.1=lo\/p.1<hi)/\Rp d f (f+hi) l p.2/\(∀i c,lo<=i->i≠p.1->(c=2*i+1\/c=2*i+2)->c<hi->¬lt (gI d p.2 (f+i)) (gI d p.2 (f+c)))/\
  (∀q c,lo<=q->(p.1=2*q+1\/p.1=2*q+2)->(c=2*p.1+1\/c=2*p.1+2)->c<hi->¬lt (gI d p.2 (f+q)) (gI d p.2 (f+c)))) (fun p=>(hi-p.1).toNat) _ ?_ m (lo,l)
  ⟨QC _,.inl rfl,.refl _ _ _ _,fun i c k1 k2 k3 k4=>hh i c (by dsimp only at k2;omega) k3 k4,fun q c k1 k2=>by dsimp only at k2;omega⟩ hm
 rintro m ⟨x,D⟩ ⟨i1,i2,i3,i4,i5⟩ rec_
 dsimp only at i1 i2 i3 i4 i5 rec_⊢
 have hl:=i3.len
 have hal':=i3.al hal
 rw[hS1]
 simp (disch:=omega) only[wr]
 refine tD (fun hge=>tS ⟨i3,fun i c k1 k2 k3=>?_⟩) (fun hge=>?_)
 ·by_cases e:i=x
  ·omega
  ·exact i4 i c k1 e k2 k3
 refine tB (Q:=fun c=>(c=2*x+1\/c=2*x+2)/\c<hi/\∀c',(c'=2*x+1\/c'=2*x+2)->c'<hi->¬lt (gI d D (f+c)) (gI d D (f+c'))) ?_ fun c=>?_
 ·refine tD (fun h2=>?_) (fun h2=>tS ⟨.inl rfl,by omega,fun c' k1 k2=>?_⟩)
  ·refine tI (by omega) (by omega) (tE (idx_gI d (by omega) (by omega)) (tI (by omega) (by omega) (tE (idx_gI d (by omega) (by omega)) (tM hc (hal'.at d (by omega) (by omega)) (hal'.at d (by omega) (by omega)) fun r hr=>?_))))
   have e2:f+(2*x+1)+1=f+(2*x+2):=by omega
   rw[e2] at hr
   refine tD (fun h3=>tS ⟨.inr (by omega),by omega,fun c' k1 k2=>?_⟩) (fun h3=>tS ⟨.inl rfl,by omega,fun c' k1 k2=>?_⟩)
   ·have hlt:=hr.1 h3
    rw[show 2*x+1+1=2*x+2 by omega]
    rcases k1 with rfl|rfl
    ·exact ho.asym _ _ hlt
    ·exact ho.irr _
   ·rcases k1 with rfl|rfl
    ·exact ho.irr _
    ·exact fun h=>h3 (hr.2 h)
  ·have e:c'=2*x+1:=by omega
   rw[e];exact ho.irr _
 ·rintro⟨hc1,hc2,hc3⟩
  simp (disch:=omega) only[wr]
  refine tI (by omega) (by omega) (tE (idx_gI d (by omega) (by omega)) (tI (by omega) (by omega) (tE (idx_gI d (by omega) (by omega)) (tM hc (hal'.at d (by omega) (by omega)) (hal'.at d (by omega) (by omega)) fun r hr=>?_))))
  refine tN (fun h3=>tS ⟨i3,fun i c' k1 k2 k3=>?_⟩) (fun h3=>?_)
  ·by_cases e:i=x
   ·subst e
    exact ho.neg _ _ _ (fun h=>h3 (hr.2 h)) (hc3 c' k2 k3)
   ·exact i4 i c' k1 e k2 k3
  ·have hlt:=hr.1 h3
   refine tI (by omega) (by omega) (tE (idx_gI d (by omega) (by omega)) (tI (by omega) (by omega) (tE (idx_gI d (by omega) (by omega)) (tI (by omega) (by omega) (tE (idx_gI d (by omega) (by omega)) (tI (by omega) (by rw[len_setL];omega) (tE (idx_gI d (by omega) (by rw[len_setL];omega)) ?_)))))))
   have sw:∀k,0<=k->gI d (swp d D (f+x) (f+c)) (f+k)=if k=c then gI d D (f+x) else if k=x then gI d D (f+c) else gI d D (f+k):=fun k hk=>by
    rw[gI_swp (by omega) (by omega) (by omega) (by omega) (by omega)]
    by_cases e1:k=c
    ·rw[if_pos e1,if_pos (by omega)]
    ·rw[if_neg e1,if_neg (by omega)]
     by_cases e2:k=x
     ·rw[if_pos e2,if_pos (by omega)]
     ·rw[if_neg e2,if_neg (by omega)]
   refine rec_ (c,swp d D (f+x) (f+c)) ⟨by dsimp only;omega,.inr hc2,i3.swp h0 (by omega) (by omega) (by omega) (by omega) (by omega),fun i c' k1 k2 k3 k4=>?_,fun q c' k1 k2 k3 k4=>?_⟩ (by dsimp only;omega)
   ·dsimp only at k2⊢
    rw[sw i (by omega),sw c' (by omega),if_neg k2]
    by_cases e1:c'=c
    ·have ei:i=x:=by omega
     rw[if_pos e1,if_pos ei]
     exact ho.asym _ _ hlt
    ·rw[if_neg e1]
     by_cases e2:c'=x
     ·rw[if_pos e2,if_neg (by omega)]
      exact i5 i c k1 (by omega) hc1 hc2
     ·rw[if_neg e2]
      by_cases e3:i=x
      ·rw[if_pos e3]
       exact hc3 c' (by omega) k4
      ·rw[if_neg e3]
       exact i4 i c' k1 e3 k3 k4
   ·dsimp only at k2 k3⊢
    have eq:q=x:=by omega
    rw[sw q (by omega),sw c' (by omega),if_neg (by omega),if_pos eq,if_neg (by omega),if_neg (by omega)]
    exact i4 c c' (by omega) (by omega) k3 k4
variable {n:Nat} {sift:Unit×Int×Int×Int×(Unit×Unit)->List α->Option (PUnit×List α)}
 (hS:∀(x1:Int) (x2:Int) (x3:Int) (x4:List α),sift (((),(x1,(x2,(x3,((),())))))) (x4)=
   (S1 x2 x3 n ((x1,x4))).bind fun (r18:(PUnit×List α)⊕(PUnit×List α))=>
   Sum.elim (fun (q19:PUnit×List α)=>
    some (((),q19.2)))
    (fun (q20:PUnit×List α)=>
     some (((),q20.2))) r18)
include hS
theorem siftAll {f lo hi:Int} {l:List α} (h0:0<=f) (hlo:0<=lo) (hlb:lo<2^58) (hhi:0<=hi) (hf:f+hi<=l.length) (hb:l.length<2^58) (hal:Al Ok l) (hh:Hp lt d f (lo+1) hi l) (hn:hi.toNat<n):
 ∃r,sift ((),lo,hi,f,((),())) l=some r/\Rp d f (f+hi) l r.2/\Hp lt d f lo hi r.2:=by
 rw[hS]
 refine tB (siftIn hc ho hS1 (d:=d) h0 hlo hlb hhi hf hb hal hh (by omega)) fun r=>?_
 rintro⟨r1,r2⟩
 rcases r with r|r<;>exact tS ⟨r1,r2⟩
variable {H4:Int->Int->Nat->(Int×List α)->Option (PUnit×List α)} {H8:Int->Nat->(Int×List α)->Option (PUnit×List α)}
 (hH4:∀(x1:Int) (x2:Int) (m:Nat) (x4:Int) (x5:List α),H4 x1 x2 (m+1) (x4,x5)=
   bif decide (x4>=(0:Int)) then
    (sift (((),(x4,(IntKind.wrap .i64 (x2-x1),(x1,((),())))))) x5).bind fun (r6:PUnit×List α)=>
    H4 x1 x2 m ((IntKind.wrap .i64 (x4-(1:Int)),r6.2))
   else
    some (((),x5)))
 (hH8:∀(x1:Int) (m:Nat) (x8:Int) (x9:List α),H8 x1 (m+1) (x8,x9)=
   bif decide (x8>=(0:Int)) then
    bif decide (0<=(IntKind.wrap .i64 (x1+x8))/\(IntKind.wrap .i64 (x1+x8))< ((x9.length:Nat):Int)) then
     (idxL x9 (IntKind.wrap .i64 (x1+x8))).bind fun (r10:α)=>
     bif decide (0<=x1/\x1< ((x9.length:Nat):Int)) then
      (idxL x9 x1).bind fun (r11:α)=>
      bif decide (0<=x1/\x1< ((x9.length:Nat):Int)) then
       (idxL x9 x1).bind fun (r12:α)=>
       bif decide (0<=(IntKind.wrap .i64 (x1+x8))/\(IntKind.wrap .i64 (x1+x8))< (((setL x9 x1 r10).length:Nat):Int)) then
        (idxL (setL x9 x1 r10) (IntKind.wrap .i64 (x1+x8))).bind fun (r13:α)=>
        (sift (((),((0:Int),(x8,(x1,((),())))))) (setL (setL x9 x1 r10) (IntKind.wrap .i64 (x1+x8)) r11)).bind fun (r14:PUnit×List α)=>
        H8 x1 m ((IntKind.wrap .i64 (x8-(1:Int)),r14.2))
       else
        none
      else
       none
     else
      none
    else
     none
   else
    some (((),x9)))
include hH4
theorem build {a b:Int} {l:List α} {m:Nat} {k:Int} (h0:0<=a) (hab:a<=b) (hbl:b<=l.length) (hb:l.length<2^57) (hal:Al Ok l) (hn:(b-a).toNat<n) (hk: -1<=k) (hkb:k<2^57) (hh:Hp lt d a (k+1) (b-a) l) (hm:(k+1).toNat<m):
 ∃r,H4 a b m (k,l)=some r/\Rp d a b l r.2/\Hp lt d a 0 (b-a) r.2:=by
 refine mu (τ:=Int×List α) (L:=H4 a b) (fun p=>-1<=p.1/\p.1<=k/\Rp d a b l p.2/\Hp lt d a (p.1+1) (b-a) p.2) (fun p=>(p.1+1).toNat) _ ?_ m (k,l) ⟨hk,QC _,.refl _ _ _ _,hh⟩ hm
 rintro m ⟨x,D⟩ ⟨i1,i2,i3,i4⟩ rec_
 dsimp only at i1 i2 i3 i4 rec_⊢
 have hl:=i3.len
 rw[hH4]
 refine tD (fun hge=>?_) (fun hge=>tS ⟨i3,?_⟩)
 ·simp (disch:=omega) only[wr]
  refine tB (siftAll hc ho hS1 hS (d:=d) h0 (by omega) (by omega) (by omega) (by omega) (by omega) (i3.al hal) i4 hn) fun r=>?_
  rintro⟨r1,r2⟩
  rw[show a+(b-a)=b by omega] at r1
  exact rec_ (x-1,r.2) ⟨by dsimp only;omega,by dsimp only;omega,i3.trans r1,by rw[show x-1+1=x by omega];exact r2⟩ (by dsimp only;omega)
 ·rw[show x+1=0 by omega] at i4
  exact i4
omit hc hS1 hS hH4 in
theorem Hp.root {f hi:Int} {l:List α} (h:Hp lt d f 0 hi l):∀(k:Nat),(k:Int)<hi->¬lt (gI d l f) (gI d l (f+k)):=by
 intro k
 induction k using Nat.strongRecOn with
 |_ k ih=>
  intro hk
  cases k with
  |zero=>rw[show f+((0:Nat):Int)=f by omega];exact ho.irr _
  |succ k=>
   have h1:=ih (k/2) (by omega) (by omega)
   exact ho.neg _ _ _ h1 (h ((k/2:Nat):Int) ((k+1:Nat):Int) (by omega) (by omega) hk)
include hH8
theorem pop {a b:Int} {l:List α} {m:Nat} (h0:0<=a) (hab:a<=b) (hbl:b<=l.length) (hb:l.length<2^57) (hal:Al Ok l) (hn:(b-a).toNat<n) (hh:Hp lt d a 0 (b-a) l) (hm:(b-a).toNat<m):
 ∃r,H8 a m (b-a-1,l)=some r/\Rp d a b l r.2/\Sd lt d a b r.2:=by
 refine mu (τ:=Int×List α) (L:=H8 a) (fun p=>-1<=p.1/\p.1<b-a/\Rp d a b l p.2/\Hp lt d a 0 (p.1+1) p.2/\Sd lt d (a+p.1+1) b p.2/\(∀u v,a<=u->u<=a+p.1->a+p.1<v->v<b->¬lt (gI d p.2 v) (gI d p.2 u))) (fun p=>(p.1+1).toNat) _ ?_ m (b-a-1,l)
  ⟨by dsimp only;omega,by dsimp only;omega,.refl _ _ _ _,by rw[show b-a-1+1=b-a by omega];exact hh,fun u v k1 k2 k3=>by dsimp only at k1;omega,fun u v k1 k2 k3 k4=>by dsimp only at k3;omega⟩ (by dsimp only;omega)
 rintro m ⟨x,D⟩ ⟨i1,i2,i3,i4,i5,i6⟩ rec_
 dsimp only at i1 i2 i3 i4 i5 i6 rec_⊢
 have hl:=i3.len
 rw[hH8]
 simp (disch:=omega) only[wr]
 refine tD (fun hge=>?_) (fun hge=>tS ⟨i3,fun u v k1 k2 k3=>i5 u v (by omega) k2 k3⟩)
 refine tI (by omega) (by omega) (tE (idx_gI d (by omega) (by omega)) (tI (by omega) (by omega) (tE (idx_gI d (by omega) (by omega)) (tI (by omega) (by omega) (tE (idx_gI d (by omega) (by omega)) (tI (by omega) (by rw[len_setL];omega) (tE (idx_gI d (by omega) (by rw[len_setL];omega)) ?_)))))))
 have sw:∀k,0<=k->gI d (swp d D a (a+x)) (a+k)=if k=x then gI d D a else if k=0 then gI d D (a+x) else gI d D (a+k):=fun k hk=>by
  rw[gI_swp (by omega) (by omega) (by omega) (by omega) (by omega)]
  by_cases e1:k=x
  ·rw[if_pos e1,if_pos (by omega)]
  ·rw[if_neg e1,if_neg (by omega)]
   by_cases e2:k=0
   ·rw[if_pos e2,if_pos (by omega)]
   ·rw[if_neg e2,if_neg (by omega)]
 have s1:Rp d a b l (swp d D a (a+x)):=i3.swp h0 (by omega) (by omega) (by omega) (by omega) (by omega)
 have hroot:∀k,0<=k->k<=x->¬lt (gI d D a) (gI d D (a+k)):=fun k k0 k1=>by
  have:=Hp.root ho i4 k.toNat (by omega)
  rwa[show ((k.toNat:Nat):Int)=k by omega] at this
 refine tB (siftAll hc ho hS1 hS (d:=d) (hi:=x) (lo:=0) (l:=swp d D a (a+x)) h0 (by omega) (by omega) hge (by rw[len_swp];omega) (by rw[len_swp];omega) (s1.al hal) (fun i c k1 k2 k3=>?_) (by omega)) fun r=>?_
 ·rw[sw i (by omega),sw c (by omega),if_neg (by omega),if_neg (by omega),if_neg (by omega),if_neg (by omega)]
  exact i4 i c (by omega) k2 (by omega)
 ·rintro⟨r1,r2⟩
  have hM:∀k,x<=k->a+k<b->gI d r.2 (a+k)=gI d (swp d D a (a+x)) (a+k):=fun k k0 k1=>r1.out _ (by omega) (by omega)
  have sm:∀φ:α->Prop,(∀k,0<=k->k<=x->φ (gI d D (a+k)))->∀u,a<=u->u<a+x->φ (gI d r.2 u):=fun φ hφ u k0 k1=>by
   refine r1.all φ (fun w w0 w1=>?_) u k0 k1
   have:=sw (w-a) (by omega)
   rw[show a+(w-a)=w by omega] at this
   rw[this,if_neg (by omega)]
   by_cases e:w-a=0
   ·rw[if_pos e];exact hφ x (by omega) (by omega)
   ·rw[if_neg e]
    have:=hφ (w-a) (by omega) (by omega)
    rwa[show a+(w-a)=w by omega] at this
  refine rec_ (x-1,r.2) ⟨by dsimp only;omega,by dsimp only;omega,s1.trans (r1.wide (QC _) (by omega) h0),by rw[show x-1+1=x by omega];exact r2,fun u v k1 k2 k3=>?_,fun u v k1 k2 k3 k4=>?_⟩ (by dsimp only;omega)
  ·dsimp only at k1⊢
   have e1:=hM (u-a) (by omega) (by omega)
   have e2:=hM (v-a) (by omega) (by omega)
   rw[show a+(u-a)=u by omega] at e1
   rw[show a+(v-a)=v by omega] at e2
   have e3:=sw (u-a) (by omega)
   have e4:=sw (v-a) (by omega)
   rw[show a+(u-a)=u by omega] at e3
   rw[show a+(v-a)=v by omega] at e4
   rw[e1,e2,e3,e4,if_neg (by omega:¬v-a=x),if_neg (by omega:¬v-a=0)]
   by_cases e:u-a=x
   ·rw[if_pos e]
    exact i6 a v (by omega) (by omega) (by omega) k3
   ·rw[if_neg e,if_neg (by omega)]
    exact i5 u v (by omega) k2 k3
  ·dsimp only at k2 k3⊢
   have e2:=hM (v-a) (by omega) (by omega)
   rw[show a+(v-a)=v by omega] at e2
   have e4:=sw (v-a) (by omega)
   rw[show a+(v-a)=v by omega] at e4
   rw[e2,e4,if_neg (by omega:¬v-a=0)]
   by_cases e:v-a=x
   ·rw[if_pos e]
    exact sm (fun z=>¬lt (gI d D a) z) (fun k k0 k1=>hroot k k0 k1) u k1 (by omega)
   ·rw[if_neg e]
    exact sm (fun z=>¬lt (gI d D v) z) (fun k k0 k1=>i6 (a+k) v (by omega) (by omega) (by omega) k4) u k1 (by omega)
variable {heap:Unit×Int×Int×(Unit×Unit)->List α->Option (PUnit×List α)}
 (hH:∀(x1:Int) (x2:Int) (x3:List α),heap (((),(x1,(x2,((),()))))) (x3)=
   bif !((2:Int)==(0:Int)) then
    (H4 x1 x2 n ((IntKind.wrap .i64 (Int.tdiv (IntKind.wrap .i64 ((IntKind.wrap .i64 (x2-x1))-(1:Int))) (2:Int)),x3))).bind fun (r7:PUnit×List α)=>
    (H8 x1 n ((IntKind.wrap .i64 ((IntKind.wrap .i64 (x2-x1))-(1:Int)),r7.2))).bind fun (r15:PUnit×List α)=>
    some (((),r15.2))
   else
    none)
include hH
theorem heapAll {a b:Int} {l:List α} (h0:0<=a) (hab:a<=b) (hbl:b<=l.length) (hb:l.length<2^57) (hal:Al Ok l) (hn:(b-a).toNat+1<n):
 ∃r,heap ((),a,b,((),())) l=some r/\Rp d a b l r.2/\Sd lt d a b r.2:=by
 rw[hH]
 simp (disch:=omega) only[wr]
 refine tG (by decide) ?_
 have ht:Int.tdiv (b-a-1) 2<=b-a/\ -1<=Int.tdiv (b-a-1) 2/\(0<b-a->b-a-1<2*Int.tdiv (b-a-1) 2+2/\0<=Int.tdiv (b-a-1) 2):=by
  by_cases h:0<b-a
  ·rw[Int.tdiv_eq_ediv_of_nonneg (by omega)];omega
  ·rw[show b-a-1= -1 by omega];simp;omega
 rw[wr (i:=Int.tdiv (b-a-1) 2) (by omega) (by omega)]
 refine tB (build hc ho hS1 hS hH4 (d:=d) (k:=Int.tdiv (b-a-1) 2) h0 hab hbl hb hal (by omega) (by omega) (by omega) (fun i c k1 k2 k3=>?_) (by omega)) fun r=>?_
 ·omega
 ·rintro⟨r1,r2⟩
  have hl:=r1.len
  refine tB (pop hc ho hS1 hS hH4 hH8 (d:=d) h0 hab (by omega) (by omega) (r1.al hal) (by omega) r2 (by omega)) fun s=>?_
  rintro⟨s1,s2⟩
  exact tS ⟨r1.trans s1,s2⟩
end
end Pq
end
