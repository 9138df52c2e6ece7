import Derived.Test.YtgdialomgeijcaaGreatF4026
set_option linter.all false
open Go.IntKind (wrap)
section
open Go Go.Proofs Aq
namespace Sh
theorem an4:∀{t:List (List Rb)},(∀c∈t,0<c.length)->0<RB t
 | [],_=>Nat.one_pos|c::cs,h=>Nat.mul_pos (h c (PG ..)) (an4 fun x hx=>h x (PK _ hx))
def aiP (x:TK):Option (List Attr)->(PUnit×TK)⊕(PUnit×TK)
 |some l=>.inr ((),⟨l,false,0⟩)|none=>.inl ((),x)
end Sh
end
section
open Go Aq
namespace Pq
variable {U:Type}
def SX (e:U->U->Bool):U->List U->List U
 |_,[]=>[]|p,y::l=>bif e y p then SX e y l else y::SX e y l
def comp (e:U->U->Bool):List U->List U
 | []=>[]|x::l=>x::SX e x l
theorem E8 (e:U->U->Bool)(y:U):∀(m:List U)(p:U),SX e p (m++[y])=bif e y ((p::m).getLast (by simp)) then SX e p m else SX e p m++[y]
 | [],p=>by show (bif e y p then [] else [y])=bif e y p then [] else [y];rfl|x::m,p=>by
  have ih:=E8 e y m x;have el:(p::x::m).getLast (by simp)=(x::m).getLast (by simp):=by simp
  rw[el];show (bif e x p then SX e x (m++[y]) else x::SX e x (m++[y]))=bif e y ((x::m).getLast (by simp)) then (bif e x p then SX e x m else x::SX e x m) else (bif e x p then SX e x m else x::SX e x m)++[y];rw[ih];cases e x p<;>cases e y ((x::m).getLast (by simp))<;>rfl
theorem tH (e:U->U->Bool)(d:U){l:List U}{k:Nat}(h0:0<k)(h1:k<l.length):comp e (l.take (k+1))=bif e (gI d l (k:Int)) (gI d l ((k:Int)-1)) then comp e (l.take k) else comp e (l.take k)++[gI d l (k:Int)]:=by
 have e1:gI d l (k:Int)=l[k]:=by unfold gI;rw[Int.toNat_natCast,PZ h1];rfl
 have e2:gI d l ((k:Int)-1)=l[k-1]'(by omega):=by unfold gI;rw[show ((k:Int)-1).toNat=k-1 by omega,PZ (by omega)];rfl
 rw[e1,e2];cases l with
 |nil=>simp at h1|cons x l=>
  obtain⟨k,rfl⟩:∃k',k=k'+1:=⟨k-1,by omega⟩;have hk:k<l.length:=by simpa using h1
  have et:(x::l).take (k+1+1)=x::(l.take k++[l[k]]):=by rw[List.take_succ_cons,<-List.take_append_getElem hk]
  rw[et,List.take_succ_cons];show x::SX e x (l.take k++[l[k]])=bif e ((x::l)[k+1]) ((x::l)[k+1-1]) then x::SX e x (l.take k) else (x::SX e x (l.take k))++[(x::l)[k+1]];rw[E8];have el:(x::l.take k).getLast (by simp)=(x::l)[k+1-1]:=by
   rw[List.getLast_eq_getElem];simp only[List.length_cons,Qc,Nat.add_sub_cancel];cases k with
   |zero=>simp|succ k=>simp only[Nat.min_eq_left (Nat.le_of_lt hk),List.getElem_cons_succ,List.getElem_take]
  rw[el];show x::(bif e l[k] _ then _ else _)=bif e l[k] _ then _ else _;cases e l[k] ((x::l)[k+1-1])<;>rfl
theorem E9 {D:List U}{w:Int}{x:U}(h0:0<=w)(h1:w<D.length):(Rk D w x).take (w+1).toNat=D.take w.toNat++[x]:=by
 obtain⟨k,rfl⟩:∃k:Nat,w=(k:Int):=⟨w.toNat,by omega⟩;have hk:k<D.length:=by omega
 rw[show (((k:Nat):Int)+1).toNat=k+1 by omega,Int.toNat_natCast];unfold Rk;rw[Int.toNat_natCast];rw[<-List.take_append_getElem (by rw[List.length_set];exact hk),List.getElem_set_self,List.take_set_of_le (mF _)]
section
variable {n:Nat}(d:U){z:U}{e:U->U->Bool}{Ok:U->Prop}{sm:U×U->Option Bool}(hs:∀a b,Ok a->Ok b->sm (a,b)=some (e a b)){C9:Int->(List U)->Nat->((Int×Int)×List U)->Option (Int×List U)}{C4:Nat->(Int×List U)->Option ((PUnit×List U)⊕((Int×Int)×List U))}{cpt:Unit×Unit×Unit->List U->Option ((Int×Int)×List U)}(h9:∀(x2:Int) (x3:List U) (m:Nat) (x7 x8:Int) (x9:List U),C9 x2 x3 (m+1) ((x7,x8),x9)=bif decide (x8< (((Int.toNat (((0:Int)+((x3.length:Int)-(0:Int)))-((0:Int)+x2)):Nat):Int))) then bif Uu x8 (((0:Int)+((x3.length:Int)-(0:Int)))-((0:Int)+x2)) then (Q5 x9 (((0:Int)+x2)+x8)).bind fun (Sc:U)=>bif Uu (wrap .i64 (x8-(1:Int))) (((0:Int)+((x3.length:Int)-(0:Int)))-((0:Int)+x2)) then (Q5 x9 (((0:Int)+x2)+(wrap .i64 (x8-(1:Int))))).bind fun (Ry:U)=>(sm ((Sc,Ry))).bind fun (Tw:Bool)=>bif !Tw then bif Uu x8 (((0:Int)+((x3.length:Int)-(0:Int)))-((0:Int)+x2)) then (Q5 x9 (((0:Int)+x2)+x8)).bind fun (RG:U)=>bif decide (0<=x7/\x7< (x9.length:Int)) then (Q5 x9 x7).bind fun (Tx:U)=>
         C9 x2 x3 m (((wrap .i64 (x7+(1:Int)),wrap .i64 (x8+(1:Int))),Rk x9 x7 RG))else none else none else C9 x2 x3 m (((x7,wrap .i64 (x8+(1:Int))),x9))else none else none else some ((x7,x9)))(h4:∀(m:Nat) (x2:Int) (x3:List U),C4 (m+1) (x2,x3)=bif decide (x2< (x3.length:Int)) then bif decide (0<=x2/\x2< (x3.length:Int)) then (Q5 x3 x2).bind fun (r4:U)=>bif decide (0<=(wrap .i64 (x2-(1:Int)))/\(wrap .i64 (x2-(1:Int)))< (x3.length:Int)) then (Q5 x3 (wrap .i64 (x2-(1:Int)))).bind fun (r5:U)=>(sm ((r4,r5))).bind fun (r6:Bool)=>bif r6 then bif VG x2 ((x3.length:Int)-(0:Int)) ((x3.length:Int)-(0:Int)) then (C9 x2 x3 n (((x2,(1:Int)),x3))).bind fun (Sr:Int×List U)=>bif VG Sr.1 ((Sr.2.length:Int)-(0:Int)) ((Sr.2.length:Int)-(0:Int)) then bif VG (0:Int) Sr.1 (((((Ve Sr.2 ((0:Int)+Sr.1) ((0:Int)+((Sr.2.length:Int)-(0:Int))) z).length:Nat):Int))-(0:Int)) then some (.inr ((((0:Int)+(0:Int),(0:Int)+Sr.1),Ve Sr.2 ((0:Int)+Sr.1) ((0:Int)+((Sr.2.length:Int)-(0:Int))) z)))else none else none else none else C4 m ((wrap .i64 (x2+(1:Int)),x3))else none else none else some (.inl (((),x3))))(hP:∀(x1:List U),cpt (((),((),()))) (x1)=bif decide ((x1.length:Int)< (2:Int)) then some ((((0:Int),(x1.length:Int)),x1))else (C4 n (((1:Int),x1))).bind fun (r16:(PUnit×List U)⊕((Int×Int)×List U))=>
    Sum.elim (fun (q17:PUnit×List U)=>some ((((0:Int),(q17.2.length:Int)),q17.2)))
     (fun (q18:(Int×Int)×List U)=>some (((q18.1.1,q18.1.2),q18.2))) r16)
include d hs h9
theorem OY {l:List U}{k:Int}{m:Nat}(hk:1<=k)(hkl:k<l.length)(hb:l.length<2^57)(hal:Al Ok l)(h0:l.take k.toNat=comp e (l.take (k.toNat+1)))(hm:l.length<m):
 ∃r,C9 k l m ((k,1),l)=some r/\k<=r.1/\r.1<=l.length/\r.2.length=l.length/\r.2.take r.1.toNat=comp e l:=by
 refine mu (τ:=(Int×Int)×List U) (L:=C9 k l) (fun p=>1<=p.1.2/\p.1.2<=l.length-k/\k<=p.1.1/\p.1.1<=k+p.1.2-1/\p.2.length=l.length/\(∀j,k+p.1.2-1<=j->j<l.length->gI d p.2 j=gI d l j)/\p.2.take p.1.1.toNat=comp e (l.take (k+p.1.2).toNat)) (fun p=>(l.length-p.1.2).toNat) _ ?_ m ((k,1),l)
  ⟨P6 _,by dsimp only;omega,P6 _,by dsimp only;omega,rfl,fun j _ _=>rfl,by rw[show (k+1).toNat=k.toNat+1 by omega];exact h0⟩ (by dsimp only;omega)
 rintro m ⟨⟨w,q⟩,D⟩ ⟨i1,i2,i3,i4,i5,i6,i7⟩ aJ;dsimp only at i1 i2 i3 i4 i5 i6 i7 aJ⊢;rw[h9];simp only[Int.zero_add,Int.sub_zero,Uu];simp (disch:=omega) only[wr];refine tD (fun hq=>?_) (fun hq=>tS ⟨i3,by omega,i5,?_⟩)
 .refine tG (decide_eq_true (by omega)) (tE (aB d (by omega) (by omega)) (tG (decide_eq_true (by omega)) (tE (aB d (by omega) (by omega)) ?_)));have g1:gI d D (k+q)=gI d l (k+q):=i6 _ (by omega) (by omega);have g2:gI d D (k+(q-1))=gI d l (k+q-1):=by rw[show k+(q-1)=k+q-1 by omega];exact i6 _ (by omega) (by omega)
  rw[g1,g2];refine tE (hs _ _ (hal.at d (by omega) (by omega)) (hal.at d (by omega) (by omega))) ?_;have hct:=tH e d (l:=l) (k:=(k+q).toNat) (by omega) (by omega);rw[show (((k+q).toNat:Nat):Int)=k+q by omega,<-i7] at hct;cases he:e (gI d l (k+q)) (gI d l (k+q-1)) with
  |false=>
   rw[he,cond_false] at hct;rw[Bool.not_false,cond_true];refine tG (decide_eq_true (by omega)) (tE (aB d (by omega) (by omega)) (tI (by omega) (by omega) (tE (aB d (by omega) (by omega)) ?_)));rw[g1];refine aJ ((w+1,q+1),Rk D w (gI d l (k+q))) ⟨by dsimp only;omega,by dsimp only;omega,by dsimp only;omega,by dsimp only;omega,by dsimp only;rw[ay,i5],fun j j1 j2=>?_,?_⟩ (by dsimp only;omega)
   .dsimp only at j1⊢;rw[tF (by omega) (by omega) (by omega),if_neg (by omega)];exact i6 j (by omega) j2
   .dsimp only;rw[E9 (by omega) (by omega),show (k+(q+1)).toNat=(k+q).toNat+1 by omega,hct]
  |true=>rw[he,cond_true] at hct;rw[Bool.not_true,cond_false];refine aJ ((w,q+1),D) ⟨by dsimp only;omega,by dsimp only;omega,i3,by dsimp only;omega,i5,fun j j1 j2=>i6 j (by dsimp only at j1;omega) j2,?_⟩ (by dsimp only;omega);dsimp only;rw[show (k+(q+1)).toNat=(k+q).toNat+1 by omega,hct]
 .dsimp only;rw[i7,Qs (by omega)]
include h4 hP
theorem asI {l:List U}(hb:l.length<2^57)(hal:Al Ok l)(hn:l.length<n):
 ∃r,cpt ((),(),()) l=some r/\r.1.1=0/\0<=r.1.2/\r.1.2<=r.2.length/\r.2.take r.1.2.toNat=comp e l:=by
 rw[hP];refine tD (fun h2=>tS ⟨rfl,by dsimp only;omega,by dsimp only;omega,?_⟩) (fun h2=>?_)
 .dsimp only;rw[Qs (by omega)]
  match l,h2 with
  | [],_=>rfl| [x],_=>rfl|x::y::l,h2=>simp at h2;omega
 refine tB (Q:=fun s=>Sum.elim (fun q:PUnit×List U=>q.2=l/\comp e l=l) (fun q:(Int×Int)×List U=>q.1.1=0/\0<=q.1.2/\q.1.2<=q.2.length/\q.2.take q.1.2.toNat=comp e l) s) ?_ fun s hs'=>?_
 .refine mu (τ:=Int×List U) (L:=C4) (fun p=>1<=p.1/\p.1<=l.length/\p.2=l/\comp e (l.take p.1.toNat)=l.take p.1.toNat) (fun p=>(l.length-p.1).toNat) _ ?_ n (1,l) ⟨P6 _,by dsimp only;omega,rfl,?_⟩ (by dsimp only;omega)
  .rintro m ⟨k,D⟩ ⟨i1,i2,i3,i4⟩ aJ;dsimp only at i1 i2 i3 i4 aJ⊢;subst i3;rw[h4];simp only[Int.zero_add,Int.sub_zero,VG];simp (disch:=omega) only[wr];refine tD (fun hk=>?_) (fun hk=>tS ⟨rfl,?_⟩)
   .refine tI (by omega) (by omega) (tE (aB d (by omega) (by omega)) (tI (by omega) (by omega) (tE (aB d (by omega) (by omega)) (tE (hs _ _ (hal.at d (by omega) (by omega)) (hal.at d (by omega) (by omega))) ?_))));have hct:=tH e d (l:=D) (k:=k.toNat) (by omega) (by omega);rw[show (k.toNat:Int)=k by omega] at hct;cases he:e (gI d D k) (gI d D (k-1)) with
    |true=>rw[he,cond_true] at hct;rw[cond_true];refine tG (decide_eq_true (by omega)) ?_;refine tB (OY (d:=d) hs h9 (l:=D) (k:=k) i1 hk hb hal (by rw[hct,i4]) hn) fun r=>?_;rintro⟨r1,r2,r3,r4⟩;refine tG (decide_eq_true (by omega)) ?_;have hcl:(Ve r.2 r.1 (r.2.length:Int) z).length=r.2.length:=(by unfold Ve;rw[PU,PU,Qc,List.length_replicate,QL];omega);rw[hcl];refine tG (decide_eq_true (by omega)) (tS ⟨rfl,by dsimp only;omega,by dsimp only;rw[hcl];omega,?_⟩);dsimp only;unfold Ve;rw[QY (by rw[Qc];omega),List.take_take,Nat.min_self];exact r4
    |false=>rw[he,cond_false] at hct;rw[cond_false];refine aJ (k+1,D) ⟨by dsimp only;omega,by dsimp only;omega,rfl,?_⟩ (by dsimp only;omega);dsimp only;rw[show (k+1).toNat=k.toNat+1 by omega,hct,i4];have hlt:k.toNat<D.length:=(by omega);have eg:gI d D k=D[k.toNat]:=(by unfold gI;rw[PZ hlt];rfl);rw[eg,List.take_append_getElem hlt]
   .rw[Qs (by omega)] at i4;exact i4
  .dsimp only
   match l,h2 with
   | [],h2=>simp at h2|x::l,_=>rfl
 .rcases s with q|q
  .obtain⟨e1,e2⟩:=hs';refine tS ⟨rfl,by dsimp only;omega,by dsimp only;omega,?_⟩;dsimp only;rw[Qs (by omega),e1,e2]
  .exact tS hs'
end
end Pq
end
section
open Go Go.Proofs Aq Pq
namespace Sh
def Ua (nm:List UInt8)(x:Pred):Bool:=bif x.Op==(6:Int) then x.Name==nm else false
def Vy (x:Pred)(v:Int):Bool:=bif decide (v>=x.N) then decide (v<=x.M) else false
def Sy (nm:List UInt8)(l:List Pred)(v:Int):List Bool:=(l.filter (Ua nm)).map fun x=>Vy x v
def abm (d:Def)(x:Pred):List Int:=(bif (bif decide (x.N>d.Lo) then decide (x.N<=d.Hi) else false) then [x.N] else [])++(bif (bif decide (x.M>=d.Lo) then decide (x.M<d.Hi) else false) then [x.M+1] else [])
def Ue (d:Def)(l:List Pred):List Int:=(l.filter (Ua d.Name)).flatMap (abm d)
theorem asJ {d:Def}{x:Pred}{v:Int}:v∈abm d x↔(v=x.N/\d.Lo<x.N/\x.N<=d.Hi)\/(v=x.M+1/\d.Lo<=x.M/\x.M<d.Hi):=by
 unfold abm;rw[QT];refine or_congr ?_ ?_
 .by_cases h1:x.N>d.Lo<;>by_cases h2:x.N<=d.Hi<;>simp[h1,h2]<;>first|done| (intro _;omega)|omega
 .by_cases h1:x.M>=d.Lo<;>by_cases h2:x.M<d.Hi<;>simp[h1,h2]<;>first|done| (intro _;omega)|omega
theorem adq {d:Def}{l:List Pred}{v:Int}(h:v∈Ue d l):d.Lo<v/\v<=d.Hi:=by unfold Ue at h;obtain⟨x,_,hx⟩:=List.mem_flatMap.1 h;rcases asJ.1 hx with ⟨rfl,h1,h2⟩| ⟨rfl,h1,h2⟩<;>omega
theorem ahW {x:Pred}{v:Int}:Vy x v=true↔x.N<=v/\v<=x.M:=by
 unfold Vy;by_cases h:v>=x.N
 .rw[decide_eq_true h,cond_true,decide_eq_true_iff];omega
 .rw[decide_eq_false h,cond_false];simp;omega
theorem an5 {d:Def}{l:List Pred}{v:Int}(h1:d.Lo<v)(h2:v<=d.Hi)(h:Sy d.Name l v≠Sy d.Name l (v-1)):v∈Ue d l:=by
 unfold Sy at h;have:∃x∈l.filter (Ua d.Name),Vy x v≠Vy x (v-1):=by refine Classical.byContradiction fun hn=>h ?_;refine QM fun x hx=>?_;exact Classical.byContradiction fun hne=>hn ⟨x,hx,hne⟩
 obtain⟨x,hx,hne⟩:=this;unfold Ue;refine List.mem_flatMap.2 ⟨x,hx,asJ.2 ?_⟩;cases ha:Vy x v with
 |true=>have ha':=ahW.1 ha;have hb:¬(x.N<=v-1/\v-1<=x.M):=fun k=>hne (by rw[ha,ahW.2 k]);exact .inl (by omega)
 |false=>
  have ha':¬(x.N<=v/\v<=x.M):=fun k=>by rw[ahW.2 k] at ha;cases ha
  have hb:x.N<=v-1/\v-1<=x.M:=by
   refine ahW.1 ?_;cases hc:Vy x (v-1) with
   |true=>rfl|false=>exact absurd (ha.trans hc.symm) hne
  exact .inr (by omega)
def RS (t:Int->List Bool):List Int->List Int
 | []=>[]|y::l=>bif t (y-1)==t y then RS t l else y::RS t l
theorem asK (t:Int->List Bool)(p:Int):∀k:Nat,(∀v,p<v->v<=p+k->t v=t (v-1))->t (p+k)=t p
 |0,_=>by rw[show p+((0:Nat):Int)=p by omega]|k+1,h=>by rw[h (p+((k+1:Nat):Int)) (by omega) (by omega),show p+((k+1:Nat):Int)-1=p+(k:Int) by omega];exact asK t p k fun v h1 h2=>h v h1 (by omega)
theorem asL {t:Int->List Bool}{hi:Int}:∀(S:List Int)(p:Int),(p::S).Pairwise (· < ·)->(∀x∈S,x<=hi)->(∀v,p<v->v<=hi->t v≠t (v-1)->v∈S)->SX (fun a b=>t a==t b) p S=RS t S
 | [],_,_,_,_=>rfl|y::S,p,hs,hh,hb=>by
  have hs1:=List.pairwise_cons.1 hs;have hs2:=List.pairwise_cons.1 hs1.2;have hpy:p<y:=hs1.1 y (PG ..);have hc:t (y-1)=t p:=by
   have:=asK t p (y-1-p).toNat fun v h1 h2=>by
    refine Classical.byContradiction fun hne=>?_;have hy:=hh y (PG ..);have hm:=hb v h1 (by omega) hne;rcases PI.1 hm with rfl|hm
    .omega
    .have:=hs2.1 v hm;omega
   rw[show p+(((y-1-p).toNat:Nat):Int)=y-1 by omega] at this;exact this
  have ih:=asL S y hs1.2 (fun x hx=>hh x (PK _ hx)) fun v h1 h2 h3=>by
   rcases PI.1 (hb v (by omega) h2 h3) with rfl|h
   .omega
   .exact h
  show (bif t y==t p then SX _ y S else y::SX _ y S)=bif t (y-1)==t y then RS t S else y::RS t S;rw[ih,hc];have:(t y==t p)=(t p==t y):=by
   by_cases h:t y=t p
   .rw[h]
   .rw[beq_eq_false_iff_ne.2 h,beq_eq_false_iff_ne.2 (Ne.symm h)]
  rw[this]
theorem aAV {t:Int->List Bool}{hi p:Int}{S:List Int}(h1:(p::S).Pairwise (· < ·))(h2:∀x∈S,x<=hi)(h3:∀v,p<v->v<=hi->t v≠t (v-1)->v∈S):comp (fun a b=>t a==t b) (p::S)=p::RS t S:=by show p::SX _ p S=_;rw[asL S p h1 h2 h3]
def Wo (last:Int):List Int->Int->Int
 | [],m=>m|c::cs,m=>Wo last cs (bif (bif decide (c>last) then decide (c<m) else false) then c else m)
theorem an6 (last:Int):∀(cs:List Int)(m:Int),Wo last cs m<=m/\(∀c∈cs,last<c->Wo last cs m<=c)/\(Wo last cs m=m\/(Wo last cs m∈cs/\last<Wo last cs m))
 | [],m=>⟨P6 _,(fun c hc=>by cases hc),.inl rfl⟩
 |c::cs,m=>by
  have hif:(bif (bif decide (c>last) then decide (c<m) else false) then c else m)=if last<c/\c<m then c else m:=by by_cases h1:c>last<;>by_cases h2:c<m<;>simp[h1,h2]<;>intro _<;>omega
  obtain⟨h1,h2,h3⟩:=an6 last cs (if last<c/\c<m then c else m);unfold Wo;rw[hif];by_cases hc:last<c/\c<m
  .rw[if_pos hc] at*;refine⟨by omega,fun x hx hl=>?_,?_⟩
   .rcases PI.1 hx with rfl|hx
    .exact h1
    .exact h2 x hx hl
   .rcases h3 with h3|h3
    .rw[h3];exact .inr ⟨PG ..,hc.1⟩
    .exact .inr ⟨PK _ h3.1,h3.2⟩
  .rw[if_neg hc] at*;refine⟨h1,fun x hx hl=>?_,?_⟩
   .rcases PI.1 hx with rfl|hx
    .omega
    .exact h2 x hx hl
   .rcases h3 with h3|h3
    .exact .inl h3
    .exact .inr ⟨PK _ h3.1,h3.2⟩
theorem aAW {last m y:Int}{cs S:List Int}(hs:(y::S).Pairwise (· < ·))(hm:∀x,last<x->(x∈cs↔x∈y::S))(hy:last<y)(hlt:y<m):Wo last cs m=y:=by
 obtain⟨h1,h2,h3⟩:=an6 last cs m;have ha:=h2 y ((hm y hy).2 (PG ..)) hy;rcases h3 with h3| ⟨h3,h4⟩
 .omega
 .rcases PI.1 ((hm _ h4).1 h3) with h|h
  .exact h
  .have:=(List.pairwise_cons.1 hs).1 _ h;omega
theorem aAX {last m:Int}{cs:List Int}(hm:∀x,last<x->x∉cs):Wo last cs m=m:=by
 obtain⟨h1,h2,h3⟩:=an6 last cs m;rcases h3 with h3| ⟨h3,h4⟩
 .exact h3
 .exact absurd h3 (hm _ h4)
theorem aAY {l:List Int}(h:l.Pairwise fun x y=>¬y<x):∀p,(∀y∈l,p<=y)->(∀y∈SX (fun a b=>a==b) p l,p<y)/\(SX (fun a b=>a==b) p l).Pairwise (· < ·)/\∀x,x∈p::SX (fun a b=>a==b) p l↔x∈p::l:=by
 induction l with
 |nil=>intro p _;exact⟨(fun y hy=>by cases hy),.nil,fun x=>Iff.rfl⟩
 |cons z l ih=>
  intro p hp;have h':=List.pairwise_cons.1 h;have hpz:=hp z (PG ..);obtain⟨i1,i2,i3⟩:=ih h'.2 z fun y hy=>by have:=h'.1 y hy;omega
  show (∀y∈(bif z==p then SX _ z l else z::SX _ z l),p<y)/\(bif z==p then SX _ z l else z::SX _ z l).Pairwise (· < ·)/\_;by_cases e:z=p
  .subst e;have:(z==z)=true:=by simp
   refine⟨by rw[this];exact i1,by rw[this];exact i2,fun x=>?_⟩;show x∈z::(bif z==z then SX _ z l else z::SX _ z l)↔_;rw[this,cond_true,i3];simp
  .have:(z==p)=false:=by simpa using e
   refine⟨?_,?_,fun x=>?_⟩
   .rw[this];intro y hy;rcases PI.1 hy with rfl|hy
    .omega
    .have:=i1 y hy;omega
   .rw[this];exact List.pairwise_cons.2 ⟨i1,i2⟩
   .show x∈p::(bif z==p then SX _ z l else z::SX _ z l)↔_;rw[this,cond_false,PI,i3,PI (a:=x) (b:=p)]
theorem aAZ {l:List Int}(h:l.Pairwise fun x y=>¬y<x):(comp (fun a b=>a==b) l).Pairwise (· < ·)/\∀x,x∈comp (fun a b=>a==b) l↔x∈l:=by
 cases l with
 |nil=>exact⟨.nil,fun x=>Iff.rfl⟩
 |cons z l=>
  have h':=List.pairwise_cons.1 h;obtain⟨i1,i2,i3⟩:=aAY h'.2 z fun y hy=>by have:=h'.1 y hy;omega
  exact⟨List.pairwise_cons.2 ⟨i1,i2⟩,i3⟩
end Sh
end
section
open Go Go.Proofs Aq
namespace Sh
def aaH:List Pred->List Pred->List Pred
 |acc,[]=>acc|acc,x::l=>if acc.length<1000 then aaH (acc++(pre x).take 1000) l else acc
theorem asM:∀(l acc:List Pred),(aaH acc l).take 1000=(acc++Uw l).take 1000
 | [],acc=>by simp[aaH,Uw]|x::l,acc=>by
  rw[aaH,Uw];split
  .rename_i h;rw[asM l,<-Qe];by_cases h2:(pre x).length<=1000
   .rw[Qs h2]
   .have l1:1000<=(acc++(pre x).take 1000).length:=(by rw[PU,Qc];omega);have l2:1000<=(acc++pre x).length:=(by rw[PU];omega);rw[QY l1,QY l2,List.take_append,List.take_append,List.take_take];congr 2;omega
  .rename_i h;rw[QY (by omega)]
theorem an7 {a:Nat}(h:a<2000):SB a 80=true:=by unfold SB;rw[PD,decide_eq_true_iff,decide_eq_true_iff];exact⟨by omega,by omega⟩
theorem asN {n:Nat}:∀(g:Nat)(p:Pred),Rq p<=g->Rq p<n->Rq p<2^62->aeh n g p=some ((pre p).take 1000)
 |0,p,hg,_,_=>by have:=Yu p;omega|g+1,p,hg,hn,hp=>by
  have hs:=abM p;have hlen:=aaq p.Ra;have:=aqo (L:=fun m (s:List Pred) i=>acI n g p m (s,i)) (l:=p.Ra) (fun x _ s k=>if s.length<1000 then k (s++(pre x).take 1000) else some s) (fun s=>some s)
   (fun m i x s hx=>by
     have hlt:=Vx hx;have hm:x∈p.Ra:=Qh hx;have hsz:=aar hm;show acI n g p (m+1) (s,(i:Int))=_;rw[arB,Ui hx,Tv hx,Ud (by omega)];simp only[cond_true,Option.bind_some,Pred.Sb];rw[asN g x (by omega) (by omega) (by omega)];by_cases h:s.length<1000
     .have e:decide ((s.length:Int)< (1000:Int))=true:=(by simp;omega);have hl:((pre x).take 1000).length<=1000:=(by simp;omega);rw[e,if_pos h,cond_true];show (bif SB (s.length+((pre x).take 1000).length) 80 then _ else none)=_;rw[an7 (by omega)];rfl
     .have e:decide ((s.length:Int)< (1000:Int))=false:=(by simp;omega);rw[e,if_neg h];rfl)
   (fun m s=>by show acI n g p (m+1) (s,((p.Ra.length:Nat):Int))=_;rw[arB,U3];rfl) (fun x i s k k' hk=>by rw[hk]) p.Ra.length 0 n [p] (by omega) (by omega)
  have key:∀(l:List Pred)(i:Nat)(s:List Pred),foldI (fun (x:Pred) (_:Nat) (s:List Pred) (k:List Pred->Option (List Pred))=>if s.length<1000 then k (s++(pre x).take 1000) else some s) (fun s=>some s) i l s=some (aaH s l):=by
   intro l;induction l with
   |nil=>intro i s;rfl|cons x l ih=>
    intro i s;show (if s.length<1000 then foldI _ _ (i+1) l (s++(pre x).take 1000) else some s)=_;rw[aaH];split
    .exact ih (i+1) _
    .rfl
  rw[Qt,key] at this;have an8:acI n g p n ([p],(0:Int))=some (aaH [p] p.Ra):=this;rw[azO,Pred.Sb,an8,Option.bind_some,pre_eq];have ht:=asM p.Ra [p];have e2:Int.toNat (1000:Int)=1000:=rfl;by_cases h:(aaH [p] p.Ra).length>1000
  .have e:decide ((((aaH [p] p.Ra).length:Nat):Int)> (1000:Int))=true:=by simp;omega
   have e3:Yn (1000:Int) (aaH [p] p.Ra).length=true:=by unfold Yn;simp;omega
   rw[e,cond_true,e3,cond_true,e2,ht];rfl
  .have e:decide ((((aaH [p] p.Ra).length:Nat):Int)> (1000:Int))=false:=by simp;omega
   rw[e,cond_false];rw[Qs (by omega)] at ht;rw[ht];rfl
theorem asO {n:Nat}{p:Pred}(hn:Rq p<n)(hp:Rq p<2^62):Zb n p=some ((pre p).take 1000):=by
 have e:Zb n p=aeh n n p:=by unfold Zb;rfl
 rw[e,asN n p (by omega) hn hp]
theorem adr {U β Y:Type}{L:Nat->Y->Int->Option β}{l:List U}(hs:∀m (i:Nat) x s,l[i]? =some x->(∀s,∃r,L m s ((i+1:Nat):Int)=some r)->∃r,L (m+1) s (i:Int)=some r)(hf:∀m s (i:Nat),l.length<=i->∃r,L (m+1) s (i:Int)=some r):
 ∀(k i m:Nat)(s:Y),l.length<=i+k->k<m->∃r,L m s (i:Int)=some r:=by
 intro k;induction k with
 |zero=>intro i m s hi hm;obtain⟨m,rfl⟩:∃m',m=m'+1:=⟨m-1,by omega⟩;exact hf m s i (by omega)
 |succ k ih=>
  intro i m s hi hm;obtain⟨m,rfl⟩:∃m',m=m'+1:=⟨m-1,by omega⟩;by_cases h:l.length<=i
  .exact hf m s i h
  .exact hs m i _ s (PZ (by omega)) fun s=>ih (i+1) m s (by omega) (by omega)
theorem acP {U:Type}{l:List U}{i:Nat}(h:l.length<=i):decide ((i:Int)< (l.length:Int))=false:=by simp;omega
theorem WX {U:Type}{c:Bool}{a b:Option U}(ha:∃r,a=some r)(hb:∃r,b=some r):∃r,(bif c then a else b)=some r:=by
 cases c
 .exact hb
 .exact ha
theorem an9 {n:Nat}{p:Pred}(hn:Rq p<n)(hp:Rq p<2^62):Xh n p=some (((((pre p).take 1000).length:Nat)):Int):=by rw[azP,Pred.Sb,asO hn hp];rfl
theorem asP {n:Nat}:∀(g:Nat)(p:Pred)(k:Int),Rq p<=g->Rq p<n->Rq p<2^62->∃b:Bool,adg n g (p,k)=some b
 |0,p,k,hg,_,_=>by have:=Yu p;omega|g+1,p,k,hg,hn,hp=>by
  have hs:=abM p;have hlen:=aaq p.Ra;obtain⟨r,hr⟩:=adr (L:=fun m (_:Unit) i=>acJ n g p k m i) (l:=p.Ra)
   (fun m i x _ hx ih=>by have hlt:=Vx hx;have hsz:=aar (Qh hx);show∃r,acJ n g p k (m+1) (i:Int)=some r;obtain⟨b,hb⟩:=asP (n:=n) g x (wrap .i64 (k-(1:Int))) (by omega) (by omega) (by omega);rw[arC,Ui hx,Tv hx,Ud (by omega),cond_true,Option.bind_some,Pred.Sb,hb];show∃r,(bif !b then _ else _)=some r;exact WX ⟨_,rfl⟩ (ih ()))
   (fun m _ i hi=>by show∃r,acJ n g p k (m+1) (i:Int)=some r;rw[arC,acP hi];exact⟨_,rfl⟩) p.Ra.length 0 n () (by omega) (by omega)
  have hr':acJ n g p k n (0:Int)=some r:=hr;obtain⟨z,hz⟩:=ahj (c:= !(decide (k< (1:Int)))) (o:=Xh n p) (d:=(0:Int)) (fun _=>⟨_,an9 hn hp⟩);rw[arD,Pred.Sb];show∃b:Bool,Option.bind (VZ _ _ _) _=some b;rw[hz];show∃b:Bool,(bif _ then some false else _)=some b;refine WX ⟨_,rfl⟩ ?_;rw[hr',Option.bind_some];cases r with
  |inl q=>exact⟨true,rfl⟩|inr q=>exact⟨q,rfl⟩
theorem asQ {n:Nat}{p:Pred}{k:Int}(hn:Rq p<n)(hp:Rq p<2^62):∃b:Bool,QQ n (p,k)=some b:=by
 have e:QQ n (p,k)=adg n n (p,k):=by unfold QQ;rfl
 rw[e];exact asP n p k (by omega) hn hp
mutual
theorem VN:∀p:Pred,(pre p).length=Rq p
 | ⟨op,name,n,m,s,subs⟩=>by simp only[pre,Rq,List.length_cons,asR subs]
theorem asR:∀l:List Pred,(Uw l).length=Sm l
 | []=>rfl|p::l=>by simp only[Uw,Sm,PU,VN p,asR l]
end
theorem aeD {p:Pred}(h:Rq p<2^62):Wv p=some (pre p):=by unfold Wv;rw[VN,if_pos h]
theorem asS {n:Nat}:∀(l:List Pred)(c:Nat),c<1000->abQ n l ((),(c:Int))=some (if c+l.length<1000 then .inl ((),((c+l.length:Nat):Int)) else .inr ((),(1000:Int)))
 | [],c,hc=>by rw[azW,if_pos (by simpa using hc)];rfl|x::l,c,hc=>by
  have:=azX n x l (c:Int);rw[show abQ n (x::l) ((),(c:Int))=_ from this,Ud (by omega)];by_cases h:c+1=1000
  .have e:((((c+1:Nat):Int))==(1000:Int))=true:=by rw[h];rfl
   rw[e,cond_true,if_neg (by simp;omega),h];rfl
  .have e:((((c+1:Nat):Int))==(1000:Int))=false:=by simp;omega
   rw[e,cond_false];have:=asS (n:=n) l (c+1) (by omega);rw[show abQ n l ((),(((c+1:Nat):Int)))=_ from this];have e2:c+1+l.length=c+(x::l).length:=by simp;omega
   rw[e2]
theorem aA0 {n:Nat}{p:Pred}(h:Rq p<2^62):ZJ n p=some ((((pre p).take 1000).length:Nat):Int):=by
 rw[azY,Pred.Sb];refine bs (aev n p) ?_;show ((Wv p.re).bind _).bind _=_;rw[Pred.Sb];rw[aeD h,Option.bind_some];have:=asS (n:=n) (pre p) 0 (by omega);rw[show abQ n (pre p) ((),(0:Int))=_ from this,Qk];by_cases c:(pre p).length<1000
 .rw[if_pos c,Qs (by omega)];rfl
 .rw[if_neg c,Qc,Nat.min_eq_left (by omega)];rfl
end Sh
end
section
open Go Go.Proofs Aq
namespace Sh
def WB (a b:Int):Int:=bif decide (a<b) then-1 else bif decide (a>b) then 1 else 0
def orL:List Int->Int
 | []=>0|x::l=>bif x !=0 then x else orL l
mutual
def SL:Pred->Pred->Int
 | ⟨o,m,a,b,s,l⟩,⟨o',m',a',b',s',l'⟩=>orL [WB o o',U2 m m',WB a a',WB b b',U2 s s',cmpL l l']
def cmpL:List Pred->List Pred->Int
 | [],[]=>0| [],_::_=>-1|_::_,[]=>1|p::l,q::m=>bif SL p q !=0 then SL p q else cmpL l m
end
def fiv (x y:Pred):List Int:=[WB x.Op y.Op,U2 x.Name y.Name,WB x.N y.N,WB x.M y.M,U2 x.S y.S]
theorem asT (x y:Pred):SL x y=orL (fiv x y++[cmpL x.Ra y.Ra]):=by cases x;cases y;rfl
theorem aoa {n:Nat}{a b:Int}:Xz n (a,b)=some (WB a b):=by
 rw[aAD];have e:∀x:Int,Xu n x=some false:=fun x=>by rw[arO,bne_self_eq_false]
 rw[e a,e b];unfold WB;show (bif decide (a<b) then some (-1:Int) else bif decide (a>b) then some 1 else some 0)=_;cases decide (a<b)<;>cases decide (a>b)<;>rfl
theorem asU {n:Nat}{a b:List UInt8}:XV n (a,b)=some (U2 a b):=by unfold XV;rfl
theorem asV:∀(l:List Int)(i:Nat),foldI (Y:=Unit) (fun (x:Int) (_:Nat) (_:Unit) (k:Unit->Option (PUnit⊕Int))=>bif x !=0 then some (.inr x) else k ()) (fun _=>some (.inl ())) i l ()=some (bif orL l !=0 then .inr (orL l) else .inl ())
 | [],_=>rfl|x::l,i=>by
  show (bif x !=0 then some (Sum.inr x) else foldI _ _ (i+1) l ())=some (bif (bif x !=0 then x else orL l) !=0 then (Sum.inr (bif x !=0 then x else orL l):PUnit⊕Int) else Sum.inl ());cases h:x !=0
  .simp only[cond_false];exact asV l (i+1)
  .simp only[cond_true,h]
theorem aA2 {n:Nat}{l:List Int}(hn:l.length<n)(hb:l.length<2^62):ZP n l=some (orL l):=by
 have:=adf (L:=fun m i=>aeA n l m i) (l:=l) (fun x _ r=>bif x !=0 then some (.inr x) else r) (some (.inl ()))
  (fun m i x hx=>by have hlt:=Vx hx;rw[asg,Ui hx,Tv hx,Ud (by omega)];rfl)
  (fun m=>by rw[asg,U3];rfl) hn
 have an8:aeA n l n (0:Int)=_:=this;rw[aAE,an8,asV];cases h:orL l !=0
 .have:orL l=0:=by simpa using h
  rw[this];rfl
 .rfl
def lpF:List Pred->List Pred->PUnit⊕Int
 | [],_=>.inl ()|_::_,[]=>.inr 1|p::l,q::m=>bif SL p q !=0 then .inr (SL p q) else lpF l m
theorem asX:∀l m:List Pred,Sum.elim (fun _=>bif decide ((l.length:Int)< (m.length:Int)) then (-1:Int) else 0) id (lpF l m)=cmpL l m
 | [],[]=>by rfl| [],q::m=>by
   have e:decide ((([]:List Pred).length:Int)< (((q::m).length:Nat):Int))=true:=by simp
   show (bif _ then (-1:Int) else 0)= -1;rw[e];rfl
 |p::l,[]=>by rfl|p::l,q::m=>by
  have ih:=asX l m;have e:decide ((((p::l).length:Nat):Int)< (((q::m).length:Nat):Int))=decide ((l.length:Int)< (m.length:Int)):=by simp only[List.length_cons];congr 1;apply propext;omega
  rw[e];show Sum.elim _ id (bif SL p q !=0 then .inr (SL p q) else lpF l m)=bif SL p q !=0 then SL p q else cmpL l m;cases SL p q !=0
  .exact ih
  .rfl
theorem drop_cons {U:Type}{l:List U}{i:Nat}{x:U}(h:l[i]? =some x):l.drop i=x::l.drop (i+1):=by have hlt:=Vx h;rw[Qf hlt];congr 1;exact(Qo.1 h).2
theorem aA3 {n g:Nat}{l m:List Pred}(hH:∀x∈l,∀y∈m,adk n g (x,y)=some (SL x y))(hl:l.length<2^62)(hm:m.length<2^62):∀(k i c:Nat),i+k=l.length->k<c->i<=m.length->
 aeB n g l m c (i:Int)=some (lpF (l.drop i) (m.drop i)):=by
 intro k;induction k with
 |zero=>
  intro i c hi hc _;obtain⟨c,rfl⟩:∃c',c=c'+1:=⟨c-1,by omega⟩;have:i=l.length:=by omega
  subst this;rw[ash,U3,List.drop_length];rfl
 |succ k ih=>
  intro i c hi hc him;obtain⟨c,rfl⟩:∃c',c=c'+1:=⟨c-1,by omega⟩;obtain⟨x,hx⟩:∃x,l[i]? =some x:=⟨l[i]'(by omega),by simp⟩;rw[ash,Ui hx,Tv hx,drop_cons hx];by_cases hge:m.length<=i
  .have e:decide (((i:Nat):Int)>=(m.length:Int))=true:=by simp;omega
   have:m.drop i=[]:=QU hge;rw[this];show (bif decide (((i:Nat):Int)>=(m.length:Int)) then _ else _)=_;rw[e];rfl
  .have e:decide (((i:Nat):Int)>=(m.length:Int))=false:=by simp;omega
   obtain⟨y,hy⟩:∃y,m[i]? =some y:=⟨m[i]'(by omega),by simp⟩;rw[drop_cons hy];show (bif decide (((i:Nat):Int)>=(m.length:Int)) then _ else _)=_;rw[e,cond_false];refine bs (Tv hy) ?_;rw[Pred.Sb,Pred.Sb];refine bs (hH x (Qh hx) y (Qh hy)) ?_;rw[Ud (by omega),ih (i+1) c (by omega) (by omega) (by omega)];show _=some (bif SL x y !=0 then .inr (SL x y) else lpF (l.drop (i+1)) (m.drop (i+1)));cases SL x y !=0<;>rfl
theorem asY {n:Nat}(hn:8<n):∀(k g:Nat)(x y:Pred),Rq x<=k->2*Rq x<=g->Rq x<n->Rq x<2^62->Rq y<2^62->adk n g (x,y)=some (SL x y)
 |0,g,x,y,hk,_,_,_,_=>by have:=Yu x;omega|k+1,g,x,y,hk,hg,hxn,hx,hy=>by
  have hs:=abM x;have hlen:=aaq x.Ra;have hs':=abM y;have hlen':=aaq y.Ra;obtain⟨g,rfl⟩:∃g',g=g'+2:=⟨g-2,by omega⟩;have hL:=aA3 (n:=n) (g:=g) (l:=x.Ra) (m:=y.Ra) (fun a ha b hb=>by have h1:=aar ha;have h2:=aar hb;exact asY hn k g a b (by omega) (by omega) (by omega) (by omega) (by omega)) (by omega) (by omega) x.Ra.length 0 n (by omega) (by omega) (Ql _);have hL':aeB n g x.Ra y.Ra n (0:Int)=some (lpF x.Ra y.Ra):=hL;have hF:afL n (g+1) (x.Ra,(y.Ra,((),())))=some (cmpL x.Ra y.Ra):=by
   rw[aAG,hL',<-asX];cases lpF x.Ra y.Ra with
   |inl u=>show (bif decide (((x.Ra.length:Nat):Int)< ((y.Ra.length:Nat):Int)) then some (-1:Int) else some 0)=some (bif decide (((x.Ra.length:Nat):Int)< ((y.Ra.length:Nat):Int)) then (-1:Int) else 0);cases decide (((x.Ra.length:Nat):Int)< ((y.Ra.length:Nat):Int))<;>rfl|inr v=>rfl
  rw[aAF,asT];refine bs aoa (bs asU (bs aoa (bs aoa (bs asU ?_))));refine bs hF ?_;refine bs (aA2 (show 6<n by omega) (show 6<2^62 by decide)) ?_;rfl
end Sh
end
section
open Go Go.Proofs Aq
namespace Sh
structure af8 {U:Type}(c:U->U->Int):Prop where
 anti:∀x y,c y x= -c x y
 trans:∀x y z,c x y<=0->c y z<=0->c x z<=0
 eq:∀x y,c x y=0->x=y
theorem aeE (a b:Int):(a<b/\WB a b= -1)\/(a=b/\WB a b=0)\/(b<a/\WB a b=1):=by
 unfold WB;by_cases h:a<b
 .rw[decide_eq_true h];exact .inl ⟨h,rfl⟩
 .rw[decide_eq_false h];by_cases k:a>b
  .rw[decide_eq_true k];exact .inr (.inr ⟨k,rfl⟩)
  .rw[decide_eq_false k];exact .inr (.inl ⟨by omega,rfl⟩)
theorem abU:af8 WB where
 anti:=fun x y=>by rcases aeE x y with h|h|h<;>rcases aeE y x with k|k|k<;>omega
 trans:=fun x y z h1 h2=>by rcases aeE x y with h|h|h<;>rcases aeE y z with k|k|k<;>rcases aeE x z with l|l|l<;>omega
 eq:=fun x y h=>by rcases aeE x y with k|k|k<;>omega
theorem abV (x y:UInt8)(a b:List UInt8):(x<y/\U2 (x::a) (y::b)= -1)\/(x=y/\U2 (x::a) (y::b)=U2 a b)\/(y<x/\U2 (x::a) (y::b)=1):=by
 have e:U2 (x::a) (y::b)=if x<y then-1 else if y<x then 1 else U2 a b:=rfl
 rw[e];by_cases h:x<y
 .exact .inl ⟨h,by rw[if_pos h]⟩
 .by_cases k:y<x
  .exact .inr (.inr ⟨k,by rw[if_neg h,if_pos k]⟩)
  .refine .inr (.inl ⟨?_,by rw[if_neg h,if_neg k]⟩);have e1:¬x.toNat<y.toNat:=h;have e2:¬y.toNat<x.toNat:=k;exact UInt8.toNat_inj.1 (by omega)
theorem asZ:∀a b:List UInt8,U2 b a= -U2 a b
 | [],[]=>rfl| [],_::_=>rfl|_::_,[]=>rfl|x::a,y::b=>by
  have ih:=asZ a b;rcases abV x y a b with ⟨h1,h2⟩| ⟨h1,h2⟩| ⟨h1,h2⟩<;>rcases abV y x b a with ⟨k1,k2⟩| ⟨k1,k2⟩| ⟨k1,k2⟩<;>rw[h2,k2];all_goals first
   |rfl
   |exact ih
   |exact absurd h1 (UInt8.lt_asymm k1)
   | (subst k1;exact absurd h1 (UInt8.lt_irrefl _))
   | (subst h1;exact absurd k1 (UInt8.lt_irrefl _))
theorem as0:∀a b:List UInt8,U2 a b=0->a=b
 | [],[],_=>rfl| [],_::_,h=>by cases h|_::_,[],h=>by cases h|x::a,y::b,h=>by
  rcases abV x y a b with ⟨h1,h2⟩| ⟨h1,h2⟩| ⟨h1,h2⟩
  .rw[h2] at h;cases h
  .rw[h2] at h;rw[h1,as0 a b h]
  .rw[h2] at h;cases h
theorem as1:∀a b c:List UInt8,U2 a b<=0->U2 b c<=0->U2 a c<=0
 | [],_,[],_,_=>P6 0| [],_,_::_,_,_=>by show (-1:Int)<=0;omega|x::a,[],_,h,_=>by have h:(1:Int)<=0:=h;omega|x::a,y::b,[],_,h=>by have h:(1:Int)<=0:=h;omega|x::a,y::b,z::c,h,k=>by
  rcases abV x z a c with ⟨l1,l2⟩| ⟨l1,l2⟩| ⟨l1,l2⟩
  .rw[l2];omega
  .rcases abV x y a b with ⟨h1,h2⟩| ⟨h1,h2⟩| ⟨h1,h2⟩
   .rcases abV y z b c with ⟨k1,k2⟩| ⟨k1,k2⟩| ⟨k1,k2⟩
    .subst l1;exact absurd h1 (UInt8.lt_asymm k1)
    .subst l1;subst k1;exact absurd h1 (UInt8.lt_irrefl _)
    .rw[k2] at k;omega
   .rcases abV y z b c with ⟨k1,k2⟩| ⟨k1,k2⟩| ⟨k1,k2⟩
    .subst l1;subst h1;exact absurd k1 (UInt8.lt_irrefl _)
    .rw[l2];rw[h2] at h;rw[k2] at k;exact as1 a b c h k
    .rw[k2] at k;omega
   .rw[h2] at h;omega
  .exfalso;have hxy:x<=y:=by
    rcases abV x y a b with ⟨h1,h2⟩| ⟨h1,h2⟩| ⟨h1,h2⟩
    .exact UInt8.le_of_lt h1
    .rw[h1];exact UInt8.le_refl _
    .rw[h2] at h;omega
   have hyz:y<=z:=by
    rcases abV y z b c with ⟨h1,h2⟩| ⟨h1,h2⟩| ⟨h1,h2⟩
    .exact UInt8.le_of_lt h1
    .rw[h1];exact UInt8.le_refl _
    .rw[h2] at k;omega
   have e1:x.toNat<=y.toNat:=hxy;have e2:y.toNat<=z.toNat:=hyz;have e3:z.toNat<x.toNat:=l1;omega
theorem aeF:af8 U2:=⟨asZ,as1,as0⟩
def lex (a b:Int):Int:=bif a !=0 then a else b
theorem adt (a b:Int):(a≠0/\lex a b=a)\/(a=0/\lex a b=b):=by
 unfold lex;cases h:a !=0
 .exact .inr ⟨by simpa using h,rfl⟩
 .exact .inl ⟨by simpa using h,rfl⟩
theorem adu {a b a' b':Int}(h:a'= -a)(k:b'= -b):lex a' b'= -lex a b:=by rcases adt a b with e|e<;>rcases adt a' b' with f|f<;>omega
theorem adv {a b:Int}(h:lex a b=0):a=0/\b=0:=by rcases adt a b with e|e<;>omega
theorem lex_trans {a1 a2 a3 b1 b2 b3:Int}(h:a1<=0->a2<=0->a3<=0)(h1:a2<=0-> -a3<=0-> -a1<=0)(h2: -a3<=0->a1<=0-> -a2<=0)(k:b1<=0->b2<=0->b3<=0):lex a1 b1<=0->lex a2 b2<=0->lex a3 b3<=0:=by rcases adt a1 b1 with e|e<;>rcases adt a2 b2 with f|f<;>rcases adt a3 b3 with g|g<;>omega
theorem af8.tri {U:Type}{c:U->U->Int}(h:af8 c)(x y z:U):(c x y<=0->c y z<=0->c x z<=0)/\(c y z<=0-> -c x z<=0-> -c x y<=0)/\(-c x z<=0->c x y<=0-> -c y z<=0):=by
 refine⟨h.trans x y z,fun a b=>?_,fun a b=>?_⟩
 .rw[<-h.anti x z] at b;rw[<-h.anti x y];exact h.trans y z x a b
 .rw[<-h.anti x z] at a;rw[<-h.anti y z];exact h.trans z x y a b
theorem aeG (x y:Pred):SL x y=lex (WB x.Op y.Op) (lex (U2 x.Name y.Name) (lex (WB x.N y.N) (lex (WB x.M y.M) (lex (U2 x.S y.S) (lex (cmpL x.Ra y.Ra) 0))))):=by rw[asT];rfl
theorem aob (b:Int):lex b 0=b:=by rcases adt b 0 with h|h<;>omega
theorem ahX (p q:Pred)(l m:List Pred):cmpL (p::l) (q::m)=lex (SL p q) (cmpL l m):=by rw[cmpL];rfl
mutual
theorem WY:∀x y:Pred,SL y x= -SL x y
 | ⟨o,m,a,b,s,l⟩,⟨o',m',a',b',s',l'⟩=>by rw[aeG,aeG];exact adu (abU.anti _ _) (adu (aeF.anti _ _) (adu (abU.anti _ _) (adu (abU.anti _ _) (adu (aeF.anti _ _) (adu (as2 l l') rfl)))))
theorem as2:∀l m:List Pred,cmpL m l= -cmpL l m
 | [],[]=>by rfl| [],_::_=>by rfl|_::_,[]=>by rfl|p::l,q::m=>by rw[ahX,ahX];exact adu (WY p q) (as2 l m)
end
mutual
theorem adw:∀x y:Pred,SL x y=0->x=y
 | ⟨o,m,a,b,s,l⟩,⟨o',m',a',b',s',l'⟩,h=>by rw[aeG] at h;obtain⟨h1,h⟩:=adv h;obtain⟨h2,h⟩:=adv h;obtain⟨h3,h⟩:=adv h;obtain⟨h4,h⟩:=adv h;obtain⟨h5,h⟩:=adv h;obtain⟨h6,h⟩:=adv h;have e1:=abU.eq _ _ h1;have e2:=aeF.eq _ _ h2;have e3:=abU.eq _ _ h3;have e4:=abU.eq _ _ h4;have e5:=aeF.eq _ _ h5;have e6:=as3 l l' h6;dsimp only at e1 e2 e3 e4 e5;subst e1;subst e2;subst e3;subst e4;subst e5;subst e6;rfl
theorem as3:∀l m:List Pred,cmpL l m=0->l=m
 | [],[],_=>rfl| [],_::_,h=>by rw[cmpL] at h;cases h|_::_,[],h=>by rw[cmpL] at h;cases h|p::l,q::m,h=>by rw[ahX] at h;obtain⟨h1,h2⟩:=adv h;rw[adw p q h1,as3 l m h2]
end
theorem as4:∀k:Nat,(∀x y z:Pred,Rq x<=k->Rq y<=k->Rq z<=k->SL x y<=0->SL y z<=0->SL x z<=0)/\(∀x y z:List Pred,Sm x<=k->Sm y<=k->Sm z<=k->cmpL x y<=0->cmpL y z<=0->cmpL x z<=0)
 |0=>by
  refine⟨fun x=>?_,fun x y z hx hy hz=>?_⟩
  .intro y z h;have:=Yu x;omega
  .have nil:∀l:List Pred,Sm l<=0->l=[]:=fun l h=>by
    cases l with
    |nil=>rfl|cons p l=>have:=Yu p;simp only[Sm] at h;omega
   rw[nil x hx,nil y hy,nil z hz];exact fun _ h=>h
 |k+1=>by
  have ih:=as4 k;have hP:∀x y z:Pred,Rq x<=k+1->Rq y<=k+1->Rq z<=k+1->SL x y<=0->SL y z<=0->SL x z<=0:=fun x y z hx hy hz=>by rw[abM] at hx hy hz;rw[aeG,aeG,aeG,aob,aob,aob];obtain⟨a1,a2,a3⟩:=abU.tri x.Op y.Op z.Op;obtain⟨b1,b2,b3⟩:=aeF.tri x.Name y.Name z.Name;obtain⟨c1,c2,c3⟩:=abU.tri x.N y.N z.N;obtain⟨d1,d2,d3⟩:=abU.tri x.M y.M z.M;obtain⟨e1,e2,e3⟩:=aeF.tri x.S y.S z.S;exact lex_trans a1 a2 a3 (lex_trans b1 b2 b3 (lex_trans c1 c2 c3 (lex_trans d1 d2 d3 (lex_trans e1 e2 e3 (ih.2 x.Ra y.Ra z.Ra (by omega) (by omega) (by omega))))))
  refine⟨hP,?_⟩;have lists:∀x y z:List Pred,Sm x<=k+1->Sm y<=k+1->Sm z<=k+1->cmpL x y<=0->cmpL y z<=0->cmpL x z<=0:=by
   intro x;induction x with
   |nil=>
    intro y z _ _ _ _ _;cases z with
    |nil=>rw[cmpL];omega|cons q m=>rw[cmpL];omega
   |cons p l ihl=>
    intro y z hx hy hz h1 h2;cases y with
    |nil=>rw[cmpL] at h1;omega|cons q m=>
     cases z with
     |nil=>rw[cmpL] at h2;omega|cons r s=>rw[ahX] at h1 h2⊢;simp only[Sm] at hx hy hz;have t1:=hP p q r (by omega) (by omega) (by omega);have t2:=hP q r p (by omega) (by omega) (by omega);have t3:=hP r p q (by omega) (by omega) (by omega);rw[WY p r,WY p q] at t2;rw[WY p r,WY q r] at t3;exact lex_trans t1 t2 t3 (ihl m s (by omega) (by omega) (by omega)) h1 h2
  exact lists
theorem as5:af8 SL where
 anti:=WY
 trans:=fun x y z=>(as4 (Rq x+Rq y+Rq z)).1 x y z (by omega) (by omega) (by omega)
 eq:=adw
theorem aoc (x:Pred):SL x x=0:=by have:=WY x x;omega
end Sh
end
section
open Go Aq
namespace Pq
variable {U:Type}
section
variable {d:U}{Ok:U->Prop}{lt:U->U->Prop}{K:{β:Type}->U->U->(Bool->Option β)->Option β}(hc:aas Ok lt K)(ho:Ord lt){L4:Int->Int->Int->Nat->Int×List U->Option (PUnit×List U)}(h4:∀(x1 x2 x4:Int) (m:Nat) (x6:Int) (x7:List U),L4 x1 x2 x4 (m+1) (x6,x7)=bif decide (x6>x1) then bif decide (0<=x6/\x6< (x7.length:Int)) then (Q5 x7 x6).bind fun (r8:U)=>bif decide (0<=(wrap .i64 (x6-(1:Int)))/\(wrap .i64 (x6-(1:Int)))< (x7.length:Int)) then (Q5 x7 (wrap .i64 (x6-(1:Int)))).bind fun (r9:U)=>
      K r8 r9 fun (Sc:Bool)=>bif Sc then bif decide (0<=(wrap .i64 (x6-(1:Int)))/\(wrap .i64 (x6-(1:Int)))< (x7.length:Int)) then (Q5 x7 (wrap .i64 (x6-(1:Int)))).bind fun (Ry:U)=>bif decide (0<=x6/\x6< (x7.length:Int)) then (Q5 x7 x6).bind fun (Tw:U)=>bif decide (0<=x6/\x6< (x7.length:Int)) then (Q5 x7 x6).bind fun (_:U)=>bif decide (0<=(wrap .i64 (x6-(1:Int)))/\(wrap .i64 (x6-(1:Int)))< (((Rk x7 x6 Ry).length:Nat):Int)) then (Q5 (Rk x7 x6 Ry) (wrap .i64 (x6-(1:Int)))).bind fun (_:U)=>
           L4 x1 x2 x4 m ((wrap .i64 (x6-(1:Int)),Rk (Rk x7 x6 Ry) (wrap .i64 (x6-(1:Int))) Tw))else none else none else none else none else some (((),x7))else none else none else some (((),x7)))
include hc ho h4
theorem OZ {a i x2 x4:Int}{l:List U}{m:Nat}(h0:0<=a)(h1:a<=i)(h2:i<l.length)(hb:l.length<2^60)(hal:Al Ok l)(hs:Sd lt d a i l)(hm:(i-a).toNat<m):
 ∃r,L4 a x2 x4 m (i,l)=some r/\Rp d a (i+1) l r.2/\Sd lt d a (i+1) r.2:=by
 refine mu (τ:=Int×List U) (L:=L4 a x2 x4) (fun p=>a<=p.1/\p.1<=i/\Rp d a (i+1) l p.2/\(∀u v,a<=u->u<v->v<=i->u≠p.1->v≠p.1->¬lt (gI d p.2 v) (gI d p.2 u))/\(∀v,p.1<v->v<=i->¬lt (gI d p.2 v) (gI d p.2 p.1))) (fun p=>(p.1-a).toNat) _ ?_ m (i,l) ⟨h1,P6 _,.refl _ _ _ _,fun u v k1 k2 k3 k4 k5=>hs u v k1 k2 (by omega),fun v k1 k2=>by omega⟩ hm;rintro m ⟨j,D⟩ ⟨i1,i2,i3,i4,i5⟩ aJ;dsimp only at i1 i2 i3 i4 i5 aJ⊢;have hl:=i3.len;have bE:=i3.al hal;rw[h4];simp (disch:=omega) only[wr];refine tD (fun hj=>?_) (fun hj=>?_)
 .refine tI (by omega) (by omega) (tE (aB d (by omega) (by omega)) (tI (by omega) (by omega) (tE (aB d (by omega) (by omega)) (tM hc (bE.at d (by omega) (by omega)) (bE.at d (by omega) (by omega)) fun r hr=>?_))));refine tD (fun hlt=>?_) (fun hlt=>?_)
  .refine tI (by omega) (by omega) (tE (aB d (by omega) (by omega)) (tI (by omega) (by omega) (tE (aB d (by omega) (by omega)) (tI (by omega) (by omega) (tE (aB d (by omega) (by omega)) (tI (by omega) (by rw[ay];omega) (tE (aB d (by omega) (by rw[ay];omega)) ?_)))))));have hlt':=hr.1 hlt;refine aJ (j-1,swp d D j (j-1)) ⟨by dsimp only;omega,by dsimp only;omega,i3.swp h0 (by omega) (by omega) (by omega) (by omega) (by omega),fun u v k1 k2 k3 k4 k5=>?_,fun v k1 k2=>?_⟩ (by dsimp only;omega)
   .dsimp only at k4 k5⊢;rw[dO (by omega) (by omega) (by omega) (by omega) (by omega),dO (by omega) (by omega) (by omega) (by omega) (by omega),if_neg k5,if_neg k4];by_cases e1:v=j
    .rw[if_pos e1];by_cases e2:u=j
     .omega
     .rw[if_neg e2];exact i4 u (j-1) k1 (by omega) (by omega) e2 (by omega)
    .rw[if_neg e1];by_cases e2:u=j
     .rw[if_pos e2];exact i4 (j-1) v (by omega) (by omega) k3 (by omega) e1
     .rw[if_neg e2];exact i4 u v k1 k2 k3 e2 e1
   .dsimp only at k1 k2⊢;rw[dO (by omega) (by omega) (by omega) (by omega) (by omega),dO (by omega) (by omega) (by omega) (by omega) (by omega),if_neg (by omega),if_pos rfl];by_cases e1:v=j
    .rw[if_pos e1];exact ho.asym _ _ hlt'
    .rw[if_neg e1];exact i5 v (by omega) k2
  .refine tS ⟨i3,?_⟩;have hlt':¬lt (gI d D j) (gI d D (j-1)):=fun h=>hlt (hr.2 h);intro u v k1 k2 k3;by_cases e1:v=j
   .subst e1;by_cases e2:u=v-1
    .rw[e2];exact hlt'
    .exact ho.neg _ _ _ hlt' (i4 u (v-1) k1 (by omega) (by omega) (by omega) (by omega))
   .by_cases e2:u=j
    .subst e2;exact i5 v k2 (by omega)
    .exact i4 u v k1 k2 (by omega) e2 e1
 .refine tS ⟨i3,?_⟩;have e:j=a:=by omega
  intro u v k1 k2 k3;by_cases e2:u=j
  .subst e2;exact i5 v k2 (by omega)
  .exact i4 u v k1 k2 (by omega) e2 (by omega)
variable {n:Nat}{L1:Int->Int->Nat->Int×List U->Option (PUnit×List U)}(h1:∀(x1 x2:Int) (m:Nat) (x4:Int) (x5:List U),L1 x1 x2 (m+1) (x4,x5)=bif decide (x4<x2) then (L4 x1 x2 x4 n ((x4,x5))).bind fun (Sr:PUnit×List U)=>
    L1 x1 x2 m ((wrap .i64 (x4+(1:Int)),Sr.2))else some (((),x5)))
include h1
theorem as6 {a b:Int}{l:List U}(h0:0<=a)(hab:a<=b)(h2:b<=l.length)(hb:l.length<2^60)(hal:Al Ok l)(hn:(b-a).toNat+1<n):
 ∃r,L1 a b n (wrap .i64 (a+1),l)=some r/\Rp d a b l r.2/\Sd lt d a b r.2:=by
 rw[wr (by omega) (by omega)];refine mu (τ:=Int×List U) (L:=L1 a b) (fun p=>a<p.1/\(p.1<=b\/p.1=a+1)/\Rp d a b l p.2/\Sd lt d a p.1 p.2) (fun p=>(b-p.1).toNat) _ ?_ n (a+1,l) ⟨by dsimp only;omega,.inr rfl,.refl _ _ _ _,fun u v k1 k2 k3=>by dsimp only at k3;omega⟩ (by dsimp only;omega);rintro m ⟨i,D⟩ ⟨i1,i2,i3,i4⟩ aJ;dsimp only at i1 i2 i3 i4 aJ⊢;have hl:=i3.len;rw[h1];refine tD (fun hi=>?_) (fun hi=>?_)
 .refine tB (OZ hc ho h4 (d:=d) h0 (by omega) (by omega) (by omega) (i3.al hal) i4 (by omega)) fun r ⟨r1,r2⟩=>?_;rw[wr (by omega) (by omega)];exact aJ (i+1,r.2) ⟨by dsimp only;omega,.inl (by dsimp only;omega),i3.trans (r1.wide (P6 _) (by omega) h0),r2⟩ (by dsimp only;omega)
 .refine tS ⟨i3,?_⟩;intro u v k1 k2 k3;exact i4 u v k1 k2 (by omega)
end
section
variable {d:U}{n:Nat}{L2:Nat->(Int×Int)×List U->Option (PUnit×List U)}(h2:∀(m:Nat) (x4 x5:Int) (x6:List U),L2 (m+1) ((x4,x5),x6)=bif decide (x4<x5) then bif decide (0<=x5/\x5< (x6.length:Int)) then (Q5 x6 x5).bind fun (r7:U)=>bif decide (0<=x4/\x4< (x6.length:Int)) then (Q5 x6 x4).bind fun (r8:U)=>bif decide (0<=x4/\x4< (x6.length:Int)) then (Q5 x6 x4).bind fun (_:U)=>bif decide (0<=x5/\x5< (((Rk x6 x4 r7).length:Nat):Int)) then (Q5 (Rk x6 x4 r7) x5).bind fun (_:U)=>
        L2 m (((wrap .i64 (x4+(1:Int)),wrap .i64 (x5-(1:Int))),Rk (Rk x6 x4 r7) x5 r8))else none else none else none else none else some (((),x6)))
include h2
theorem revAll {a b:Int}{l:List U}(h0:0<=a)(hab:a<=b)(h3:b<=l.length)(hb:l.length<2^60)(hn:(b-a).toNat+1<n):
 ∃r,L2 n ((a,wrap .i64 (b-1)),l)=some r/\Rp d a b l r.2:=by
 rw[wr (by omega) (by omega)];refine mu (τ:=(Int×Int)×List U) (L:=L2) (fun p=>a<=p.1.1/\p.1.2<b/\a-1<=p.1.2/\p.1.1<=b/\Rp d a b l p.2) (fun p=>(p.1.2-p.1.1+1).toNat) _ ?_ n ((a,b-1),l) ⟨P6 _,by dsimp only;omega,by dsimp only;omega,by dsimp only;omega,.refl _ _ _ _⟩ (by dsimp only;omega);rintro m ⟨⟨i,j⟩,D⟩ ⟨i1,i2,i3,i4,i5⟩ aJ;dsimp only at i1 i2 i3 i4 i5 aJ⊢;have hl:=i5.len;rw[h2];refine tD (fun hi=>?_) (fun hi=>tS i5);refine tI (by omega) (by omega) (tE (aB d (by omega) (by omega)) (tI (by omega) (by omega) (tE (aB d (by omega) (by omega)) (tI (by omega) (by omega) (tE (aB d (by omega) (by omega)) (tI (by omega) (by rw[ay];omega) (tE (aB d (by omega) (by rw[ay];omega)) ?_)))))));rw[wr (by omega) (by omega),wr (by omega) (by omega)];exact aJ ((i+1,j-1),swp d D i j) ⟨by dsimp only;omega,by dsimp only;omega,by dsimp only;omega,by dsimp only;omega,i5.swp h0 (by omega) (by omega) (by omega) (by omega) (by omega)⟩ (by dsimp only;omega)
end
end Pq
end
section
open Go Aq
namespace Pq
variable {U:Type}
def Hp (lt:U->U->Prop)(d:U)(f s hi:Int)(l:List U):Prop:=∀i c,s<=i->(c=2*i+1\/c=2*i+2)->c<hi->¬lt (gI d l (f+i)) (gI d l (f+c))
def two {β:Type}(r:(PUnit×β)⊕(PUnit×β)):β:=Sum.elim (fun q=>q.2) (fun q=>q.2) r
section
variable {d:U}{Ok:U->Prop}{lt:U->U->Prop}{K:{β:Type}->U->U->(Bool->Option β)->Option β}(hc:aas Ok lt K)(ho:Ord lt){S1:Int->Int->Nat->(Int×List U)->Option ((PUnit×List U)⊕(PUnit×List U))}(hS1:∀(x2 x3:Int) (m:Nat) (x5:Int) (x6:List U),S1 x2 x3 (m+1) (x5,x6)=bif decide ((wrap .i64 ((wrap .i64 ((2:Int)*x5))+(1:Int)))>=x2) then some (.inl (((),x6)))else Option.bind (α:=Int) ( bif decide ((wrap .i64 ((wrap .i64 ((wrap .i64 ((2:Int)*x5))+(1:Int)))+(1:Int)))<x2) then bif decide (0<=(wrap .i64 (x3+(wrap .i64 ((wrap .i64 ((2:Int)*x5))+(1:Int)))))/\(wrap .i64 (x3+(wrap .i64 ((wrap .i64 ((2:Int)*x5))+(1:Int)))))< (x6.length:Int)) then (Q5 x6 (wrap .i64 (x3+(wrap .i64 ((wrap .i64 ((2:Int)*x5))+(1:Int)))))).bind fun (r7:U)=>bif decide (0<=(wrap .i64 ((wrap .i64 (x3+(wrap .i64 ((wrap .i64 ((2:Int)*x5))+(1:Int)))))+(1:Int)))/\(wrap .i64 ((wrap .i64 (x3+(wrap .i64 ((wrap .i64 ((2:Int)*x5))+(1:Int)))))+(1:Int)))< (x6.length:Int)) then (Q5 x6 (wrap .i64 ((wrap .i64 (x3+(wrap .i64 ((wrap .i64 ((2:Int)*x5))+(1:Int)))))+(1:Int)))).bind fun (r8:U)=>
        K r7 r8 fun (r9:Bool)=>bif r9 then some (wrap .i64 ((wrap .i64 ((wrap .i64 ((2:Int)*x5))+(1:Int)))+(1:Int)))else some (wrap .i64 ((wrap .i64 ((2:Int)*x5))+(1:Int)))else none else none else some (wrap .i64 ((wrap .i64 ((2:Int)*x5))+(1:Int)))) fun (Sc:Int)=>bif decide (0<=(wrap .i64 (x3+x5))/\(wrap .i64 (x3+x5))< (x6.length:Int)) then (Q5 x6 (wrap .i64 (x3+x5))).bind fun (Ry:U)=>bif decide (0<=(wrap .i64 (x3+Sc))/\(wrap .i64 (x3+Sc))< (x6.length:Int)) then (Q5 x6 (wrap .i64 (x3+Sc))).bind fun (Tw:U)=>
      K Ry Tw fun (RG:Bool)=>bif !(RG) then some (.inr (((),x6)))else bif decide (0<=(wrap .i64 (x3+Sc))/\(wrap .i64 (x3+Sc))< (x6.length:Int)) then (Q5 x6 (wrap .i64 (x3+Sc))).bind fun (Tx:U)=>bif decide (0<=(wrap .i64 (x3+x5))/\(wrap .i64 (x3+x5))< (x6.length:Int)) then (Q5 x6 (wrap .i64 (x3+x5))).bind fun (Sr:U)=>bif decide (0<=(wrap .i64 (x3+x5))/\(wrap .i64 (x3+x5))< (x6.length:Int)) then (Q5 x6 (wrap .i64 (x3+x5))).bind fun (r16:U)=>bif decide (0<=(wrap .i64 (x3+Sc))/\(wrap .i64 (x3+Sc))< (((Rk x6 (wrap .i64 (x3+x5)) Tx).length:Nat):Int)) then (Q5 (Rk x6 (wrap .i64 (x3+x5)) Tx) (wrap .i64 (x3+Sc))).bind fun (WA:U)=>
           S1 x2 x3 m ((Sc,Rk (Rk x6 (wrap .i64 (x3+x5)) Tx) (wrap .i64 (x3+Sc)) Sr))else none else none else none else none else none else none)
include hc ho hS1
theorem O1 {f lo hi:Int}{l:List U}{m:Nat}(h0:0<=f)(hlo:0<=lo)(hlb:lo<2^58)(hhi:0<=hi)(hf:f+hi<=l.length)(hb:l.length<2^58)(hal:Al Ok l)(hh:Hp lt d f (lo+1) hi l)(hm:(hi-lo).toNat<m):
 ∃r,S1 hi f m (lo,l)=some r/\Rp d f (f+hi) l (two r)/\Hp lt d f lo hi (two r):=by
 refine mu (τ:=Int×List U) (L:=S1 hi f) (fun p=>lo<=p.1/\(p.1=lo\/p.1<hi)/\Rp d f (f+hi) l p.2/\(∀i c,lo<=i->i≠p.1->(c=2*i+1\/c=2*i+2)->c<hi->¬lt (gI d p.2 (f+i)) (gI d p.2 (f+c)))/\
  (∀q c,lo<=q->(p.1=2*q+1\/p.1=2*q+2)->(c=2*p.1+1\/c=2*p.1+2)->c<hi->¬lt (gI d p.2 (f+q)) (gI d p.2 (f+c)))) (fun p=>(hi-p.1).toNat) _ ?_ m (lo,l)
  ⟨P6 _,.inl rfl,.refl _ _ _ _,fun i c k1 k2 k3 k4=>hh i c (by dsimp only at k2;omega) k3 k4,fun q c k1 k2=>by dsimp only at k2;omega⟩ hm
 rintro m ⟨x,D⟩ ⟨i1,i2,i3,i4,i5⟩ aJ;dsimp only at i1 i2 i3 i4 i5 aJ⊢;have hl:=i3.len;have bE:=i3.al hal;rw[hS1];simp (disch:=omega) only[wr];refine tD (fun hge=>tS ⟨i3,fun i c k1 k2 k3=>?_⟩) (fun hge=>?_)
 .by_cases e:i=x
  .omega
  .exact i4 i c k1 e k2 k3
 refine tB (Q:=fun c=>(c=2*x+1\/c=2*x+2)/\c<hi/\∀c',(c'=2*x+1\/c'=2*x+2)->c'<hi->¬lt (gI d D (f+c)) (gI d D (f+c'))) ?_ fun c=>?_
 .refine tD (fun h2=>?_) (fun h2=>tS ⟨.inl rfl,by omega,fun c' k1 k2=>?_⟩)
  .refine tI (by omega) (by omega) (tE (aB d (by omega) (by omega)) (tI (by omega) (by omega) (tE (aB d (by omega) (by omega)) (tM hc (bE.at d (by omega) (by omega)) (bE.at d (by omega) (by omega)) fun r hr=>?_))));have e2:f+(2*x+1)+1=f+(2*x+2):=by omega
   rw[e2] at hr;refine tD (fun h3=>tS ⟨.inr (by omega),by omega,fun c' k1 k2=>?_⟩) (fun h3=>tS ⟨.inl rfl,by omega,fun c' k1 k2=>?_⟩)
   .have hlt:=hr.1 h3;rw[show 2*x+1+1=2*x+2 by omega];rcases k1 with rfl|rfl
    .exact ho.asym _ _ hlt
    .exact ho.gK _
   .rcases k1 with rfl|rfl
    .exact ho.gK _
    .exact fun h=>h3 (hr.2 h)
  .have e:c'=2*x+1:=by omega
   rw[e];exact ho.gK _
 .rintro⟨hc1,hc2,hc3⟩;simp (disch:=omega) only[wr];refine tI (by omega) (by omega) (tE (aB d (by omega) (by omega)) (tI (by omega) (by omega) (tE (aB d (by omega) (by omega)) (tM hc (bE.at d (by omega) (by omega)) (bE.at d (by omega) (by omega)) fun r hr=>?_))));refine tN (fun h3=>tS ⟨i3,fun i c' k1 k2 k3=>?_⟩) (fun h3=>?_)
  .by_cases e:i=x
   .subst e;exact ho.neg _ _ _ (fun h=>h3 (hr.2 h)) (hc3 c' k2 k3)
   .exact i4 i c' k1 e k2 k3
  .have hlt:=hr.1 h3;refine tI (by omega) (by omega) (tE (aB d (by omega) (by omega)) (tI (by omega) (by omega) (tE (aB d (by omega) (by omega)) (tI (by omega) (by omega) (tE (aB d (by omega) (by omega)) (tI (by omega) (by rw[ay];omega) (tE (aB d (by omega) (by rw[ay];omega)) ?_)))))));have sw:∀k,0<=k->gI d (swp d D (f+x) (f+c)) (f+k)=if k=c then gI d D (f+x) else if k=x then gI d D (f+c) else gI d D (f+k):=fun k hk=>by
    rw[dO (by omega) (by omega) (by omega) (by omega) (by omega)];by_cases e1:k=c
    .rw[if_pos e1,if_pos (by omega)]
    .rw[if_neg e1,if_neg (by omega)];by_cases e2:k=x
     .rw[if_pos e2,if_pos (by omega)]
     .rw[if_neg e2,if_neg (by omega)]
   refine aJ (c,swp d D (f+x) (f+c)) ⟨by dsimp only;omega,.inr hc2,i3.swp h0 (by omega) (by omega) (by omega) (by omega) (by omega),fun i c' k1 k2 k3 k4=>?_,fun q c' k1 k2 k3 k4=>?_⟩ (by dsimp only;omega)
   .dsimp only at k2⊢;rw[sw i (by omega),sw c' (by omega),if_neg k2];by_cases e1:c'=c
    .have ei:i=x:=(by omega);rw[if_pos e1,if_pos ei];exact ho.asym _ _ hlt
    .rw[if_neg e1];by_cases e2:c'=x
     .rw[if_pos e2,if_neg (by omega)];exact i5 i c k1 (by omega) hc1 hc2
     .rw[if_neg e2];by_cases e3:i=x
      .rw[if_pos e3];exact hc3 c' (by omega) k4
      .rw[if_neg e3];exact i4 i c' k1 e3 k3 k4
   .dsimp only at k2 k3⊢;have eq:q=x:=(by omega);rw[sw q (by omega),sw c' (by omega),if_neg (by omega),if_pos eq,if_neg (by omega),if_neg (by omega)];exact i4 c c' (by omega) (by omega) k3 k4
variable {n:Nat}{sift:Unit×Int×Int×Int×(Unit×Unit)->List U->Option (PUnit×List U)}(hS:∀(x1 x2 x3:Int) (x4:List U),sift (((),(x1,(x2,(x3,((),())))))) (x4)=
   (S1 x2 x3 n ((x1,x4))).bind fun (TL:(PUnit×List U)⊕(PUnit×List U))=>
   Sum.elim (fun (q19:PUnit×List U)=>some (((),q19.2)))
    (fun (q20:PUnit×List U)=>some (((),q20.2))) TL)
include hS
theorem Fa {f lo hi:Int}{l:List U}(h0:0<=f)(hlo:0<=lo)(hlb:lo<2^58)(hhi:0<=hi)(hf:f+hi<=l.length)(hb:l.length<2^58)(hal:Al Ok l)(hh:Hp lt d f (lo+1) hi l)(hn:hi.toNat<n):
 ∃r,sift ((),lo,hi,f,((),())) l=some r/\Rp d f (f+hi) l r.2/\Hp lt d f lo hi r.2:=by
 rw[hS];refine tB (O1 hc ho hS1 (d:=d) h0 hlo hlb hhi hf hb hal hh (by omega)) fun r=>?_;rintro⟨r1,r2⟩;rcases r with r|r<;>exact tS ⟨r1,r2⟩
variable {H4:Int->Int->Nat->(Int×List U)->Option (PUnit×List U)}{H8:Int->Nat->(Int×List U)->Option (PUnit×List U)}(qx:∀(x1 x2:Int) (m:Nat) (x4:Int) (x5:List U),H4 x1 x2 (m+1) (x4,x5)=bif decide (x4>=(0:Int)) then (sift (((),(x4,(wrap .i64 (x2-x1),(x1,((),())))))) x5).bind fun (r6:PUnit×List U)=>
    H4 x1 x2 m ((wrap .i64 (x4-(1:Int)),r6.2))else some (((),x5)))(yN:∀(x1:Int) (m:Nat) (x8:Int) (x9:List U),H8 x1 (m+1) (x8,x9)=bif decide (x8>=(0:Int)) then bif decide (0<=(wrap .i64 (x1+x8))/\(wrap .i64 (x1+x8))< (x9.length:Int)) then (Q5 x9 (wrap .i64 (x1+x8))).bind fun (Sc:U)=>bif decide (0<=x1/\x1< (x9.length:Int)) then (Q5 x9 x1).bind fun (Ry:U)=>bif decide (0<=x1/\x1< (x9.length:Int)) then (Q5 x9 x1).bind fun (Tw:U)=>bif decide (0<=(wrap .i64 (x1+x8))/\(wrap .i64 (x1+x8))< (((Rk x9 x1 Sc).length:Nat):Int)) then (Q5 (Rk x9 x1 Sc) (wrap .i64 (x1+x8))).bind fun (RG:U)=>(sift (((),((0:Int),(x8,(x1,((),())))))) (Rk (Rk x9 x1 Sc) (wrap .i64 (x1+x8)) Ry)).bind fun (Tx:PUnit×List U)=>
        H8 x1 m ((wrap .i64 (x8-(1:Int)),Tx.2))else none else none else none else none else some (((),x9)))
include qx
theorem build {a b:Int}{l:List U}{m:Nat}{k:Int}(h0:0<=a)(hab:a<=b)(hbl:b<=l.length)(hb:l.length<2^57)(hal:Al Ok l)(hn:(b-a).toNat<n)(hk: -1<=k)(hkb:k<2^57)(hh:Hp lt d a (k+1) (b-a) l)(hm:(k+1).toNat<m):
 ∃r,H4 a b m (k,l)=some r/\Rp d a b l r.2/\Hp lt d a 0 (b-a) r.2:=by
 refine mu (τ:=Int×List U) (L:=H4 a b) (fun p=>-1<=p.1/\p.1<=k/\Rp d a b l p.2/\Hp lt d a (p.1+1) (b-a) p.2) (fun p=>(p.1+1).toNat) _ ?_ m (k,l) ⟨hk,P6 _,.refl _ _ _ _,hh⟩ hm;rintro m ⟨x,D⟩ ⟨i1,i2,i3,i4⟩ aJ;dsimp only at i1 i2 i3 i4 aJ⊢;have hl:=i3.len;rw[qx];refine tD (fun hge=>?_) (fun hge=>tS ⟨i3,?_⟩)
 .simp (disch:=omega) only[wr];refine tB (Fa hc ho hS1 hS (d:=d) h0 (by omega) (by omega) (by omega) (by omega) (by omega) (i3.al hal) i4 hn) fun r=>?_;rintro⟨r1,r2⟩;rw[show a+(b-a)=b by omega] at r1;exact aJ (x-1,r.2) ⟨by dsimp only;omega,by dsimp only;omega,i3.trans r1,by rw[show x-1+1=x by omega];exact r2⟩ (by dsimp only;omega)
 .rw[show x+1=0 by omega] at i4;exact i4
omit hc hS1 hS qx in
theorem Hp.root {f hi:Int}{l:List U}(h:Hp lt d f 0 hi l):∀(k:Nat),(k:Int)<hi->¬lt (gI d l f) (gI d l (f+k)):=by
 intro k;induction k using Nat.strongRecOn with
 |_ k ih=>
  intro hk;cases k with
  |zero=>rw[show f+((0:Nat):Int)=f by omega];exact ho.gK _|succ k=>have h1:=ih (k/2) (by omega) (by omega);exact ho.neg _ _ _ h1 (h ((k/2:Nat):Int) ((k+1:Nat):Int) (by omega) (by omega) hk)
include yN
theorem pop {a b:Int}{l:List U}{m:Nat}(h0:0<=a)(hab:a<=b)(hbl:b<=l.length)(hb:l.length<2^57)(hal:Al Ok l)(hn:(b-a).toNat<n)(hh:Hp lt d a 0 (b-a) l)(hm:(b-a).toNat<m):
 ∃r,H8 a m (b-a-1,l)=some r/\Rp d a b l r.2/\Sd lt d a b r.2:=by
 refine mu (τ:=Int×List U) (L:=H8 a) (fun p=>-1<=p.1/\p.1<b-a/\Rp d a b l p.2/\Hp lt d a 0 (p.1+1) p.2/\Sd lt d (a+p.1+1) b p.2/\(∀u v,a<=u->u<=a+p.1->a+p.1<v->v<b->¬lt (gI d p.2 v) (gI d p.2 u))) (fun p=>(p.1+1).toNat) _ ?_ m (b-a-1,l)
  ⟨by dsimp only;omega,by dsimp only;omega,.refl _ _ _ _,by rw[show b-a-1+1=b-a by omega];exact hh,fun u v k1 k2 k3=>by dsimp only at k1;omega,fun u v k1 k2 k3 k4=>by dsimp only at k3;omega⟩ (by dsimp only;omega)
 rintro m ⟨x,D⟩ ⟨i1,i2,i3,i4,i5,i6⟩ aJ;dsimp only at i1 i2 i3 i4 i5 i6 aJ⊢;have hl:=i3.len;rw[yN];simp (disch:=omega) only[wr];refine tD (fun hge=>?_) (fun hge=>tS ⟨i3,fun u v k1 k2 k3=>i5 u v (by omega) k2 k3⟩);refine tI (by omega) (by omega) (tE (aB d (by omega) (by omega)) (tI (by omega) (by omega) (tE (aB d (by omega) (by omega)) (tI (by omega) (by omega) (tE (aB d (by omega) (by omega)) (tI (by omega) (by rw[ay];omega) (tE (aB d (by omega) (by rw[ay];omega)) ?_)))))));have sw:∀k,0<=k->gI d (swp d D a (a+x)) (a+k)=if k=x then gI d D a else if k=0 then gI d D (a+x) else gI d D (a+k):=fun k hk=>by
  rw[dO (by omega) (by omega) (by omega) (by omega) (by omega)];by_cases e1:k=x
  .rw[if_pos e1,if_pos (by omega)]
  .rw[if_neg e1,if_neg (by omega)];by_cases e2:k=0
   .rw[if_pos e2,if_pos (by omega)]
   .rw[if_neg e2,if_neg (by omega)]
 have s1:Rp d a b l (swp d D a (a+x)):=i3.swp h0 (by omega) (by omega) (by omega) (by omega) (by omega);have hroot:∀k,0<=k->k<=x->¬lt (gI d D a) (gI d D (a+k)):=fun k k0 k1=>by
  have:=Hp.root ho i4 k.toNat (by omega)
  rwa[show (k.toNat:Int)=k by omega] at this
 refine tB (Fa hc ho hS1 hS (d:=d) (hi:=x) (lo:=0) (l:=swp d D a (a+x)) h0 (by omega) (by omega) hge (by rw[aQ];omega) (by rw[aQ];omega) (s1.al hal) (fun i c k1 k2 k3=>?_) (by omega)) fun r=>?_
 .rw[sw i (by omega),sw c (by omega),if_neg (by omega),if_neg (by omega),if_neg (by omega),if_neg (by omega)];exact i4 i c (by omega) k2 (by omega)
 .rintro⟨r1,r2⟩;have hM:∀k,x<=k->a+k<b->gI d r.2 (a+k)=gI d (swp d D a (a+x)) (a+k):=fun k k0 k1=>r1.out _ (by omega) (by omega);have sm:∀φ:U->Prop,(∀k,0<=k->k<=x->φ (gI d D (a+k)))->∀u,a<=u->u<a+x->φ (gI d r.2 u):=fun φ hφ u k0 k1=>by
   refine r1.all φ (fun w w0 w1=>?_) u k0 k1;have:=sw (w-a) (by omega);rw[show a+(w-a)=w by omega] at this;rw[this,if_neg (by omega)];by_cases e:w-a=0
   .rw[if_pos e];exact hφ x (by omega) (by omega)
   .rw[if_neg e];have:=hφ (w-a) (by omega) (by omega)
    rwa[show a+(w-a)=w by omega] at this
  refine aJ (x-1,r.2) ⟨by dsimp only;omega,by dsimp only;omega,s1.trans (r1.wide (P6 _) (by omega) h0),by rw[show x-1+1=x by omega];exact r2,fun u v k1 k2 k3=>?_,fun u v k1 k2 k3 k4=>?_⟩ (by dsimp only;omega)
  .dsimp only at k1⊢;have e1:=hM (u-a) (by omega) (by omega);have e2:=hM (v-a) (by omega) (by omega);rw[show a+(u-a)=u by omega] at e1;rw[show a+(v-a)=v by omega] at e2;have e3:=sw (u-a) (by omega);have e4:=sw (v-a) (by omega);rw[show a+(u-a)=u by omega] at e3;rw[show a+(v-a)=v by omega] at e4;rw[e1,e2,e3,e4,if_neg (by omega:¬v-a=x),if_neg (by omega:¬v-a=0)];by_cases e:u-a=x
   .rw[if_pos e];exact i6 a v (by omega) (by omega) (by omega) k3
   .rw[if_neg e,if_neg (by omega)];exact i5 u v (by omega) k2 k3
  .dsimp only at k2 k3⊢;have e2:=hM (v-a) (by omega) (by omega);rw[show a+(v-a)=v by omega] at e2;have e4:=sw (v-a) (by omega);rw[show a+(v-a)=v by omega] at e4;rw[e2,e4,if_neg (by omega:¬v-a=0)];by_cases e:v-a=x
   .rw[if_pos e];exact sm (fun z=>¬lt (gI d D a) z) (fun k k0 k1=>hroot k k0 k1) u k1 (by omega)
   .rw[if_neg e];exact sm (fun z=>¬lt (gI d D v) z) (fun k k0 k1=>i6 (a+k) v (by omega) (by omega) (by omega) k4) u k1 (by omega)
variable {heap:Unit×Int×Int×(Unit×Unit)->List U->Option (PUnit×List U)}(hH:∀(x1 x2:Int) (x3:List U),heap (((),(x1,(x2,((),()))))) (x3)=bif !((2:Int)==(0:Int)) then (H4 x1 x2 n ((wrap .i64 (Int.tdiv (wrap .i64 ((wrap .i64 (x2-x1))-(1:Int))) (2:Int)),x3))).bind fun (r7:PUnit×List U)=>(H8 x1 n ((wrap .i64 ((wrap .i64 (x2-x1))-(1:Int)),r7.2))).bind fun (Sr:PUnit×List U)=>some (((),Sr.2))else none)
include hH
theorem as7 {a b:Int}{l:List U}(h0:0<=a)(hab:a<=b)(hbl:b<=l.length)(hb:l.length<2^57)(hal:Al Ok l)(hn:(b-a).toNat+1<n):
 ∃r,heap ((),a,b,((),())) l=some r/\Rp d a b l r.2/\Sd lt d a b r.2:=by
 rw[hH];simp (disch:=omega) only[wr];refine tG (by decide) ?_;have ht:Int.tdiv (b-a-1) 2<=b-a/\ -1<=Int.tdiv (b-a-1) 2/\(0<b-a->b-a-1<2*Int.tdiv (b-a-1) 2+2/\0<=Int.tdiv (b-a-1) 2):=by
  by_cases h:0<b-a
  .rw[Int.tdiv_eq_ediv_of_nonneg (by omega)];omega
  .rw[show b-a-1= -1 by omega];simp;omega
 rw[wr (i:=Int.tdiv (b-a-1) 2) (by omega) (by omega)];refine tB (build hc ho hS1 hS qx (d:=d) (k:=Int.tdiv (b-a-1) 2) h0 hab hbl hb hal (by omega) (by omega) (by omega) (fun i c k1 k2 k3=>?_) (by omega)) fun r=>?_
 .omega
 .rintro⟨r1,r2⟩;have hl:=r1.len;refine tB (pop hc ho hS1 hS qx yN (d:=d) h0 hab (by omega) (by omega) (r1.al hal) (by omega) r2 (by omega)) fun s=>?_;rintro⟨s1,s2⟩;exact tS ⟨r1.trans s1,s2⟩
end
end Pq
end
