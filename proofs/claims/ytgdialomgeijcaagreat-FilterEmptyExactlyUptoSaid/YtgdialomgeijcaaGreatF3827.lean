import Derived.Test.YtgdialomgeijcaaGreatF3826
set_option linter.all false
open Go.IntKind (wrap)
section
open Go Go.Proofs Aq
namespace Sh
theorem ako:∀{t:List (List Q6)},(∀c∈t,0<c.length)->0<Rv t
 | [],_=>Nat.one_pos|c::cs,h=>Nat.mul_pos (h c (PI ..)) (ako fun x hx=>h x (PK _ hx))
def agv (x:Tm):Option (List Attr)->(PUnit×Tm)⊕(PUnit×Tm)
 |some l=>.inr ((),⟨l,false,0⟩)|none=>.inl ((),x)
end Sh
end
section
open Go Aq
namespace Pq
variable {U:Type}
def Tv (e:U->U->Bool):U->List U->List U
 |_,[]=>[]|p,y::l=>bif e y p then Tv e y l else y::Tv e y l
def comp (e:U->U->Bool):List U->List U
 | []=>[]|x::l=>x::Tv e x l
theorem E8 (e:U->U->Bool)(y:U):∀(m:List U)(p:U),Tv e p (m++[y])=bif e y ((p::m).getLast (by simp)) then Tv e p m else Tv e p m++[y]
 | [],p=>by show (bif e y p then [] else [y])=bif e y p then [] else [y];rfl|x::m,p=>by
  have ih:=E8 e y m x;have el:(p::x::m).getLast (by simp)=(x::m).getLast (by simp):=by simp
  rw[el];show (bif e x p then Tv e x (m++[y]) else x::Tv e x (m++[y]))=bif e y ((x::m).getLast (by simp)) then (bif e x p then Tv e x m else x::Tv e x m) else (bif e x p then Tv e x m else x::Tv e x m)++[y];rw[ih];cases e x p<;>cases e y ((x::m).getLast (by simp))<;>rfl
theorem tH (e:U->U->Bool)(d:U){l:List U}{k:Nat}(h0:0<k)(h1:k<l.length):comp e (l.take (k+1))=bif e (gI d l (k:Int)) (gI d l ((k:Int)-1)) then comp e (l.take k) else comp e (l.take k)++[gI d l (k:Int)]:=by
 have e1:gI d l (k:Int)=l[k]:=by unfold gI;rw[Int.toNat_natCast,PX h1];rfl
 have e2:gI d l ((k:Int)-1)=l[k-1]'(by omega):=by unfold gI;rw[show ((k:Int)-1).toNat=k-1 by omega,PX (by omega)];rfl
 rw[e1,e2];cases l with
 |nil=>simp at h1|cons x l=>
  obtain⟨k,rfl⟩:∃k',k=k'+1:=⟨k-1,by omega⟩;have hk:k<l.length:=by simpa using h1
  have et:(x::l).take (k+1+1)=x::(l.take k++[l[k]]):=by rw[List.take_succ_cons,<-List.take_append_getElem hk]
  rw[et,List.take_succ_cons];show x::Tv e x (l.take k++[l[k]])=bif e ((x::l)[k+1]) ((x::l)[k+1-1]) then x::Tv e x (l.take k) else (x::Tv e x (l.take k))++[(x::l)[k+1]];rw[E8];have el:(x::l.take k).getLast (by simp)=(x::l)[k+1-1]:=by
   rw[List.getLast_eq_getElem];simp only[List.length_cons,Qb,Nat.add_sub_cancel];cases k with
   |zero=>simp|succ k=>simp only[Nat.min_eq_left (Nat.le_of_lt hk),List.getElem_cons_succ,List.getElem_take]
  rw[el];show x::(bif e l[k] _ then _ else _)=bif e l[k] _ then _ else _;cases e l[k] ((x::l)[k+1-1])<;>rfl
theorem E9 {D:List U}{w:Int}{x:U}(h0:0<=w)(h1:w<D.length):(Rc D w x).take (w+1).toNat=D.take w.toNat++[x]:=by
 obtain⟨k,rfl⟩:∃k:Nat,w=(k:Int):=⟨w.toNat,by omega⟩;have hk:k<D.length:=by omega
 rw[show (((k:Nat):Int)+1).toNat=k+1 by omega,Int.toNat_natCast];unfold Rc;rw[Int.toNat_natCast];rw[<-List.take_append_getElem (by rw[List.length_set];exact hk),List.getElem_set_self,List.take_set_of_le (mF _)]
section
variable {n:Nat}(d:U){z:U}{e:U->U->Bool}{Ok:U->Prop}{sm:U×U->Option Bool}(hs:∀a b,Ok a->Ok b->sm (a,b)=some (e a b)){C9:Int->(List U)->Nat->((Int×Int)×List U)->Option (Int×List U)}{C4:Nat->(Int×List U)->Option ((PUnit×List U)⊕((Int×Int)×List U))}{cpt:Unit×Unit×Unit->List U->Option ((Int×Int)×List U)}(h9:∀(x2:Int) (x3:List U) (m:Nat) (x7 x8:Int) (x9:List U),C9 x2 x3 (m+1) ((x7,x8),x9)=bif decide (x8< (((Int.toNat (((0:Int)+((x3.length:Int)-(0:Int)))-((0:Int)+x2)):Nat):Int))) then bif UH x8 (((0:Int)+((x3.length:Int)-(0:Int)))-((0:Int)+x2)) then (Fb x9 (((0:Int)+x2)+x8)).bind fun (R6:U)=>bif UH (wrap .i64 (x8-(1:Int))) (((0:Int)+((x3.length:Int)-(0:Int)))-((0:Int)+x2)) then (Fb x9 (((0:Int)+x2)+(wrap .i64 (x8-(1:Int))))).bind fun (Rx:U)=>(sm ((R6,Rx))).bind fun (Td:Bool)=>bif !Td then bif UH x8 (((0:Int)+((x3.length:Int)-(0:Int)))-((0:Int)+x2)) then (Fb x9 (((0:Int)+x2)+x8)).bind fun (RL:U)=>bif decide (0<=x7/\x7< (x9.length:Int)) then (Fb x9 x7).bind fun (Tj:U)=>
         C9 x2 x3 m (((wrap .i64 (x7+(1:Int)),wrap .i64 (x8+(1:Int))),Rc x9 x7 RL))else none else none else C9 x2 x3 m (((x7,wrap .i64 (x8+(1:Int))),x9))else none else none else some ((x7,x9)))(h4:∀(m:Nat) (x2:Int) (x3:List U),C4 (m+1) (x2,x3)=bif decide (x2< (x3.length:Int)) then bif decide (0<=x2/\x2< (x3.length:Int)) then (Fb x3 x2).bind fun (r4:U)=>bif decide (0<=(wrap .i64 (x2-(1:Int)))/\(wrap .i64 (x2-(1:Int)))< (x3.length:Int)) then (Fb x3 (wrap .i64 (x2-(1:Int)))).bind fun (r5:U)=>(sm ((r4,r5))).bind fun (r6:Bool)=>bif r6 then bif VG x2 ((x3.length:Int)-(0:Int)) ((x3.length:Int)-(0:Int)) then (C9 x2 x3 n (((x2,(1:Int)),x3))).bind fun (Ta:Int×List U)=>bif VG Ta.1 ((Ta.2.length:Int)-(0:Int)) ((Ta.2.length:Int)-(0:Int)) then bif VG (0:Int) Ta.1 (((((U3 Ta.2 ((0:Int)+Ta.1) ((0:Int)+((Ta.2.length:Int)-(0:Int))) z).length:Nat):Int))-(0:Int)) then some (.inr ((((0:Int)+(0:Int),(0:Int)+Ta.1),U3 Ta.2 ((0:Int)+Ta.1) ((0:Int)+((Ta.2.length:Int)-(0:Int))) z)))else none else none else none else C4 m ((wrap .i64 (x2+(1:Int)),x3))else none else none else some (.inl (((),x3))))(hP:∀(x1:List U),cpt (((),((),()))) (x1)=bif decide ((x1.length:Int)< (2:Int)) then some ((((0:Int),(x1.length:Int)),x1))else (C4 n (((1:Int),x1))).bind fun (r16:(PUnit×List U)⊕((Int×Int)×List U))=>
    Sum.elim (fun (q17:PUnit×List U)=>some ((((0:Int),(q17.2.length:Int)),q17.2)))
     (fun (q18:(Int×Int)×List U)=>some (((q18.1.1,q18.1.2),q18.2))) r16)
include d hs h9
theorem OX {l:List U}{k:Int}{m:Nat}(hk:1<=k)(hkl:k<l.length)(hb:l.length<2^57)(hal:Al Ok l)(h0:l.take k.toNat=comp e (l.take (k.toNat+1)))(hm:l.length<m):
 ∃r,C9 k l m ((k,1),l)=some r/\k<=r.1/\r.1<=l.length/\r.2.length=l.length/\r.2.take r.1.toNat=comp e l:=by
 refine mu (τ:=(Int×Int)×List U) (L:=C9 k l) (fun p=>1<=p.1.2/\p.1.2<=l.length-k/\k<=p.1.1/\p.1.1<=k+p.1.2-1/\p.2.length=l.length/\(∀j,k+p.1.2-1<=j->j<l.length->gI d p.2 j=gI d l j)/\p.2.take p.1.1.toNat=comp e (l.take (k+p.1.2).toNat)) (fun p=>(l.length-p.1.2).toNat) _ ?_ m ((k,1),l)
  ⟨PZ _,by dsimp only;omega,PZ _,by dsimp only;omega,rfl,fun j _ _=>rfl,by rw[show (k+1).toNat=k.toNat+1 by omega];exact h0⟩ (by dsimp only;omega)
 rintro m ⟨⟨w,q⟩,D⟩ ⟨i1,i2,i3,i4,i5,i6,i7⟩ aJ;dsimp only at i1 i2 i3 i4 i5 i6 i7 aJ⊢;rw[h9];simp only[Int.zero_add,Int.sub_zero,UH];simp (disch:=omega) only[wr];refine tD (fun hq=>?_) (fun hq=>tS ⟨i3,by omega,i5,?_⟩)
 .refine tG (decide_eq_true (by omega)) (tE (aB d (by omega) (by omega)) (tG (decide_eq_true (by omega)) (tE (aB d (by omega) (by omega)) ?_)));have g1:gI d D (k+q)=gI d l (k+q):=i6 _ (by omega) (by omega);have g2:gI d D (k+(q-1))=gI d l (k+q-1):=by rw[show k+(q-1)=k+q-1 by omega];exact i6 _ (by omega) (by omega)
  rw[g1,g2];refine tE (hs _ _ (hal.at d (by omega) (by omega)) (hal.at d (by omega) (by omega))) ?_;have hct:=tH e d (l:=l) (k:=(k+q).toNat) (by omega) (by omega);rw[show (((k+q).toNat:Nat):Int)=k+q by omega,<-i7] at hct;cases he:e (gI d l (k+q)) (gI d l (k+q-1)) with
  |false=>
   rw[he,cond_false] at hct;rw[Bool.not_false,cond_true];refine tG (decide_eq_true (by omega)) (tE (aB d (by omega) (by omega)) (tI (by omega) (by omega) (tE (aB d (by omega) (by omega)) ?_)));rw[g1];refine aJ ((w+1,q+1),Rc D w (gI d l (k+q))) ⟨by dsimp only;omega,by dsimp only;omega,by dsimp only;omega,by dsimp only;omega,by dsimp only;rw[ay,i5],fun j j1 j2=>?_,?_⟩ (by dsimp only;omega)
   .dsimp only at j1⊢;rw[tF (by omega) (by omega) (by omega),if_neg (by omega)];exact i6 j (by omega) j2
   .dsimp only;rw[E9 (by omega) (by omega),show (k+(q+1)).toNat=(k+q).toNat+1 by omega,hct]
  |true=>rw[he,cond_true] at hct;rw[Bool.not_true,cond_false];refine aJ ((w,q+1),D) ⟨by dsimp only;omega,by dsimp only;omega,i3,by dsimp only;omega,i5,fun j j1 j2=>i6 j (by dsimp only at j1;omega) j2,?_⟩ (by dsimp only;omega);dsimp only;rw[show (k+(q+1)).toNat=(k+q).toNat+1 by omega,hct]
 .dsimp only;rw[i7,Qu (by omega)]
include h4 hP
theorem auv {l:List U}(hb:l.length<2^57)(hal:Al Ok l)(hn:l.length<n):
 ∃r,cpt ((),(),()) l=some r/\r.1.1=0/\0<=r.1.2/\r.1.2<=r.2.length/\r.2.take r.1.2.toNat=comp e l:=by
 rw[hP];refine tD (fun h2=>tS ⟨rfl,by dsimp only;omega,by dsimp only;omega,?_⟩) (fun h2=>?_)
 .dsimp only;rw[Qu (by omega)]
  match l,h2 with
  | [],_=>rfl| [x],_=>rfl|x::y::l,h2=>simp at h2;omega
 refine tB (Q:=fun s=>Sum.elim (fun q:PUnit×List U=>q.2=l/\comp e l=l) (fun q:(Int×Int)×List U=>q.1.1=0/\0<=q.1.2/\q.1.2<=q.2.length/\q.2.take q.1.2.toNat=comp e l) s) ?_ fun s hs'=>?_
 .refine mu (τ:=Int×List U) (L:=C4) (fun p=>1<=p.1/\p.1<=l.length/\p.2=l/\comp e (l.take p.1.toNat)=l.take p.1.toNat) (fun p=>(l.length-p.1).toNat) _ ?_ n (1,l) ⟨PZ _,by dsimp only;omega,rfl,?_⟩ (by dsimp only;omega)
  .rintro m ⟨k,D⟩ ⟨i1,i2,i3,i4⟩ aJ;dsimp only at i1 i2 i3 i4 aJ⊢;subst i3;rw[h4];simp only[Int.zero_add,Int.sub_zero,VG];simp (disch:=omega) only[wr];refine tD (fun hk=>?_) (fun hk=>tS ⟨rfl,?_⟩)
   .refine tI (by omega) (by omega) (tE (aB d (by omega) (by omega)) (tI (by omega) (by omega) (tE (aB d (by omega) (by omega)) (tE (hs _ _ (hal.at d (by omega) (by omega)) (hal.at d (by omega) (by omega))) ?_))));have hct:=tH e d (l:=D) (k:=k.toNat) (by omega) (by omega);rw[show (k.toNat:Int)=k by omega] at hct;cases he:e (gI d D k) (gI d D (k-1)) with
    |true=>rw[he,cond_true] at hct;rw[cond_true];refine tG (decide_eq_true (by omega)) ?_;refine tB (OX (d:=d) hs h9 (l:=D) (k:=k) i1 hk hb hal (by rw[hct,i4]) hn) fun r=>?_;rintro⟨r1,r2,r3,r4⟩;refine tG (decide_eq_true (by omega)) ?_;have hcl:(U3 r.2 r.1 (r.2.length:Int) z).length=r.2.length:=(by unfold U3;rw[PU,PU,Qb,List.length_replicate,QK];omega);rw[hcl];refine tG (decide_eq_true (by omega)) (tS ⟨rfl,by dsimp only;omega,by dsimp only;rw[hcl];omega,?_⟩);dsimp only;unfold U3;rw[QX (by rw[Qb];omega),List.take_take,Nat.min_self];exact r4
    |false=>rw[he,cond_false] at hct;rw[cond_false];refine aJ (k+1,D) ⟨by dsimp only;omega,by dsimp only;omega,rfl,?_⟩ (by dsimp only;omega);dsimp only;rw[show (k+1).toNat=k.toNat+1 by omega,hct,i4];have hlt:k.toNat<D.length:=(by omega);have eg:gI d D k=D[k.toNat]:=(by unfold gI;rw[PX hlt];rfl);rw[eg,List.take_append_getElem hlt]
   .rw[Qu (by omega)] at i4;exact i4
  .dsimp only
   match l,h2 with
   | [],h2=>simp at h2|x::l,_=>rfl
 .rcases s with q|q
  .obtain⟨e1,e2⟩:=hs';refine tS ⟨rfl,by dsimp only;omega,by dsimp only;omega,?_⟩;dsimp only;rw[Qu (by omega),e1,e2]
  .exact tS hs'
end
end Pq
end
section
open Go Go.Proofs Aq Pq
namespace Sh
def TN (nm:List UInt8)(x:Pred):Bool:=bif x.Op==(6:Int) then x.Name==nm else false
def U6 (x:Pred)(v:Int):Bool:=bif decide (v>=x.N) then decide (v<=x.M) else false
def Sv (nm:List UInt8)(l:List Pred)(v:Int):List Bool:=(l.filter (TN nm)).map fun x=>U6 x v
def Y7 (d:Def)(x:Pred):List Int:=(bif (bif decide (x.N>d.Lo) then decide (x.N<=d.Hi) else false) then [x.N] else [])++(bif (bif decide (x.M>=d.Lo) then decide (x.M<d.Hi) else false) then [x.M+1] else [])
def TI (d:Def)(l:List Pred):List Int:=(l.filter (TN d.Name)).flatMap (Y7 d)
theorem anW {d:Def}{x:Pred}{v:Int}:v∈Y7 d x↔(v=x.N/\d.Lo<x.N/\x.N<=d.Hi)\/(v=x.M+1/\d.Lo<=x.M/\x.M<d.Hi):=by
 unfold Y7;rw[QT];refine or_congr ?_ ?_
 .by_cases h1:x.N>d.Lo<;>by_cases h2:x.N<=d.Hi<;>simp[h1,h2]<;>first|done| (intro _;omega)|omega
 .by_cases h1:x.M>=d.Lo<;>by_cases h2:x.M<d.Hi<;>simp[h1,h2]<;>first|done| (intro _;omega)|omega
theorem acP {d:Def}{l:List Pred}{v:Int}(h:v∈TI d l):d.Lo<v/\v<=d.Hi:=by unfold TI at h;obtain⟨x,_,hx⟩:=List.mem_flatMap.1 h;rcases anW.1 hx with ⟨rfl,h1,h2⟩| ⟨rfl,h1,h2⟩<;>omega
theorem afS {x:Pred}{v:Int}:U6 x v=true↔x.N<=v/\v<=x.M:=by
 unfold U6;by_cases h:v>=x.N
 .rw[decide_eq_true h,cond_true,decide_eq_true_iff];omega
 .rw[decide_eq_false h,cond_false];simp;omega
theorem anX {d:Def}{l:List Pred}{v:Int}(h1:d.Lo<v)(h2:v<=d.Hi)(h:Sv d.Name l v≠Sv d.Name l (v-1)):v∈TI d l:=by
 unfold Sv at h;have:∃x∈l.filter (TN d.Name),U6 x v≠U6 x (v-1):=by refine Classical.byContradiction fun hn=>h ?_;refine QM fun x hx=>?_;exact Classical.byContradiction fun hne=>hn ⟨x,hx,hne⟩
 obtain⟨x,hx,hne⟩:=this;unfold TI;refine List.mem_flatMap.2 ⟨x,hx,anW.2 ?_⟩;cases ha:U6 x v with
 |true=>have ha':=afS.1 ha;have hb:¬(x.N<=v-1/\v-1<=x.M):=fun k=>hne (by rw[ha,afS.2 k]);exact .inl (by omega)
 |false=>
  have ha':¬(x.N<=v/\v<=x.M):=fun k=>by rw[afS.2 k] at ha;cases ha
  have hb:x.N<=v-1/\v-1<=x.M:=by
   refine afS.1 ?_;cases hc:U6 x (v-1) with
   |true=>rfl|false=>exact absurd (ha.trans hc.symm) hne
  exact .inr (by omega)
def RS (t:Int->List Bool):List Int->List Int
 | []=>[]|y::l=>bif t (y-1)==t y then RS t l else y::RS t l
theorem anY (t:Int->List Bool)(p:Int):∀k:Nat,(∀v,p<v->v<=p+k->t v=t (v-1))->t (p+k)=t p
 |0,_=>by rw[show p+((0:Nat):Int)=p by omega]|k+1,h=>by rw[h (p+((k+1:Nat):Int)) (by omega) (by omega),show p+((k+1:Nat):Int)-1=p+(k:Int) by omega];exact anY t p k fun v h1 h2=>h v h1 (by omega)
theorem anZ {t:Int->List Bool}{hi:Int}:∀(S:List Int)(p:Int),(p::S).Pairwise (· < ·)->(∀x∈S,x<=hi)->(∀v,p<v->v<=hi->t v≠t (v-1)->v∈S)->Tv (fun a b=>t a==t b) p S=RS t S
 | [],_,_,_,_=>rfl|y::S,p,hs,hh,hb=>by
  have hs1:=List.pairwise_cons.1 hs;have hs2:=List.pairwise_cons.1 hs1.2;have hpy:p<y:=hs1.1 y (PI ..);have hc:t (y-1)=t p:=by
   have:=anY t p (y-1-p).toNat fun v h1 h2=>by
    refine Classical.byContradiction fun hne=>?_;have hy:=hh y (PI ..);have hm:=hb v h1 (by omega) hne;rcases PG.1 hm with rfl|hm
    .omega
    .have:=hs2.1 v hm;omega
   rw[show p+(((y-1-p).toNat:Nat):Int)=y-1 by omega] at this;exact this
  have ih:=anZ S y hs1.2 (fun x hx=>hh x (PK _ hx)) fun v h1 h2 h3=>by
   rcases PG.1 (hb v (by omega) h2 h3) with rfl|h
   .omega
   .exact h
  show (bif t y==t p then Tv _ y S else y::Tv _ y S)=bif t (y-1)==t y then RS t S else y::RS t S;rw[ih,hc];have:(t y==t p)=(t p==t y):=by
   by_cases h:t y=t p
   .rw[h]
   .rw[beq_eq_false_iff_ne.2 h,beq_eq_false_iff_ne.2 (Ne.symm h)]
  rw[this]
theorem auw {t:Int->List Bool}{hi p:Int}{S:List Int}(h1:(p::S).Pairwise (· < ·))(h2:∀x∈S,x<=hi)(h3:∀v,p<v->v<=hi->t v≠t (v-1)->v∈S):comp (fun a b=>t a==t b) (p::S)=p::RS t S:=by show p::Tv _ p S=_;rw[anZ S p h1 h2 h3]
def VB (last:Int):List Int->Int->Int
 | [],m=>m|c::cs,m=>VB last cs (bif (bif decide (c>last) then decide (c<m) else false) then c else m)
theorem akr (last:Int):∀(cs:List Int)(m:Int),VB last cs m<=m/\(∀c∈cs,last<c->VB last cs m<=c)/\(VB last cs m=m\/(VB last cs m∈cs/\last<VB last cs m))
 | [],m=>⟨PZ _,(fun c hc=>by cases hc),.inl rfl⟩
 |c::cs,m=>by
  have hif:(bif (bif decide (c>last) then decide (c<m) else false) then c else m)=if last<c/\c<m then c else m:=by by_cases h1:c>last<;>by_cases h2:c<m<;>simp[h1,h2]<;>intro _<;>omega
  obtain⟨h1,h2,h3⟩:=akr last cs (if last<c/\c<m then c else m);unfold VB;rw[hif];by_cases hc:last<c/\c<m
  .rw[if_pos hc] at*;refine⟨by omega,fun x hx hl=>?_,?_⟩
   .rcases PG.1 hx with rfl|hx
    .exact h1
    .exact h2 x hx hl
   .rcases h3 with h3|h3
    .rw[h3];exact .inr ⟨PI ..,hc.1⟩
    .exact .inr ⟨PK _ h3.1,h3.2⟩
  .rw[if_neg hc] at*;refine⟨h1,fun x hx hl=>?_,?_⟩
   .rcases PG.1 hx with rfl|hx
    .omega
    .exact h2 x hx hl
   .rcases h3 with h3|h3
    .exact .inl h3
    .exact .inr ⟨PK _ h3.1,h3.2⟩
theorem auy {last m y:Int}{cs S:List Int}(hs:(y::S).Pairwise (· < ·))(hm:∀x,last<x->(x∈cs↔x∈y::S))(hy:last<y)(hlt:y<m):VB last cs m=y:=by
 obtain⟨h1,h2,h3⟩:=akr last cs m;have ha:=h2 y ((hm y hy).2 (PI ..)) hy;rcases h3 with h3| ⟨h3,h4⟩
 .omega
 .rcases PG.1 ((hm _ h4).1 h3) with h|h
  .exact h
  .have:=(List.pairwise_cons.1 hs).1 _ h;omega
theorem auz {last m:Int}{cs:List Int}(hm:∀x,last<x->x∉cs):VB last cs m=m:=by
 obtain⟨h1,h2,h3⟩:=akr last cs m;rcases h3 with h3| ⟨h3,h4⟩
 .exact h3
 .exact absurd h3 (hm _ h4)
theorem auA {l:List Int}(h:l.Pairwise fun x y=>¬y<x):∀p,(∀y∈l,p<=y)->(∀y∈Tv (fun a b=>a==b) p l,p<y)/\(Tv (fun a b=>a==b) p l).Pairwise (· < ·)/\∀x,x∈p::Tv (fun a b=>a==b) p l↔x∈p::l:=by
 induction l with
 |nil=>intro p _;exact⟨(fun y hy=>by cases hy),.nil,fun x=>Iff.rfl⟩
 |cons z l ih=>
  intro p hp;have h':=List.pairwise_cons.1 h;have hpz:=hp z (PI ..);obtain⟨i1,i2,i3⟩:=ih h'.2 z fun y hy=>by have:=h'.1 y hy;omega
  show (∀y∈(bif z==p then Tv _ z l else z::Tv _ z l),p<y)/\(bif z==p then Tv _ z l else z::Tv _ z l).Pairwise (· < ·)/\_;by_cases e:z=p
  .subst e;have:(z==z)=true:=by simp
   refine⟨by rw[this];exact i1,by rw[this];exact i2,fun x=>?_⟩;show x∈z::(bif z==z then Tv _ z l else z::Tv _ z l)↔_;rw[this,cond_true,i3];simp
  .have:(z==p)=false:=by simpa using e
   refine⟨?_,?_,fun x=>?_⟩
   .rw[this];intro y hy;rcases PG.1 hy with rfl|hy
    .omega
    .have:=i1 y hy;omega
   .rw[this];exact List.pairwise_cons.2 ⟨i1,i2⟩
   .show x∈p::(bif z==p then Tv _ z l else z::Tv _ z l)↔_;rw[this,cond_false,PG,i3,PG (a:=x) (b:=p)]
theorem auB {l:List Int}(h:l.Pairwise fun x y=>¬y<x):(comp (fun a b=>a==b) l).Pairwise (· < ·)/\∀x,x∈comp (fun a b=>a==b) l↔x∈l:=by
 cases l with
 |nil=>exact⟨.nil,fun x=>Iff.rfl⟩
 |cons z l=>
  have h':=List.pairwise_cons.1 h;obtain⟨i1,i2,i3⟩:=auA h'.2 z fun y hy=>by have:=h'.1 y hy;omega
  exact⟨List.pairwise_cons.2 ⟨i1,i2⟩,i3⟩
end Sh
end
section
open Go Go.Proofs Aq
namespace Sh
def Yk:List Pred->List Pred->List Pred
 |acc,[]=>acc|acc,x::l=>if acc.length<1000 then Yk (acc++(pre x).take 1000) l else acc
theorem an0:∀(l acc:List Pred),(Yk acc l).take 1000=(acc++Uz l).take 1000
 | [],acc=>by simp[Yk,Uz]|x::l,acc=>by
  rw[Yk,Uz];split
  .rename_i h;rw[an0 l,<-Qe];by_cases h2:(pre x).length<=1000
   .rw[Qu h2]
   .have l1:1000<=(acc++(pre x).take 1000).length:=(by rw[PU,Qb];omega);have l2:1000<=(acc++pre x).length:=(by rw[PU];omega);rw[QX l1,QX l2,List.take_append,List.take_append,List.take_take];congr 2;omega
  .rename_i h;rw[QX (by omega)]
theorem auC {a:Nat}(h:a<2000):Si a 80=true:=by unfold Si;rw[Pz,decide_eq_true_iff,decide_eq_true_iff];exact⟨by omega,by omega⟩
theorem an1 {n:Nat}:∀(g:Nat)(p:Pred),RP p<=g->RP p<n->RP p<2^62->acA n g p=some ((pre p).take 1000)
 |0,p,hg,_,_=>by have:=adD p;omega|g+1,p,hg,hn,hp=>by
  have hs:=ahv p;have hlen:=afn p.Rs;have:=amr (L:=fun m (s:List Pred) i=>aa4 n g p m (s,i)) (l:=p.Rs) (fun x _ s k=>if s.length<1000 then k (s++(pre x).take 1000) else some s) (fun s=>some s)
   (fun m i x s hx=>by
     have hlt:=Vt hx;have hm:x∈p.Rs:=Qk hx;have hsz:=afo hm;show aa4 n g p (m+1) (s,(i:Int))=_;rw[ang,Ub hx,Tg hx,TY (by omega)];simp only[cond_true,Option.bind_some,Pred.TG];rw[an1 g x (by omega) (by omega) (by omega)];by_cases h:s.length<1000
     .have e:decide ((s.length:Int)< (1000:Int))=true:=(by simp;omega);have hl:((pre x).take 1000).length<=1000:=(by simp;omega);rw[e,if_pos h,cond_true];show (bif Si (s.length+((pre x).take 1000).length) 80 then _ else none)=_;rw[auC (by omega)];rfl
     .have e:decide ((s.length:Int)< (1000:Int))=false:=(by simp;omega);rw[e,if_neg h];rfl)
   (fun m s=>by show aa4 n g p (m+1) (s,((p.Rs.length:Nat):Int))=_;rw[ang,UK];rfl) (fun x i s k k' hk=>by rw[hk]) p.Rs.length 0 n [p] (by omega) (by omega)
  have key:∀(l:List Pred)(i:Nat)(s:List Pred),foldI (fun (x:Pred) (_:Nat) (s:List Pred) (k:List Pred->Option (List Pred))=>if s.length<1000 then k (s++(pre x).take 1000) else some s) (fun s=>some s) i l s=some (Yk s l):=by
   intro l;induction l with
   |nil=>intro i s;rfl|cons x l ih=>
    intro i s;show (if s.length<1000 then foldI _ _ (i+1) l (s++(pre x).take 1000) else some s)=_;rw[Yk];split
    .exact ih (i+1) _
    .rfl
  rw[Qz,key] at this;have auD:aa4 n g p n ([p],(0:Int))=some (Yk [p] p.Rs):=this;rw[atx,Pred.TG,auD,Option.bind_some,pre_eq];have ht:=an0 p.Rs [p];have e2:Int.toNat (1000:Int)=1000:=rfl;by_cases h:(Yk [p] p.Rs).length>1000
  .have e:decide ((((Yk [p] p.Rs).length:Nat):Int)> (1000:Int))=true:=by simp;omega
   have e3:WH (1000:Int) (Yk [p] p.Rs).length=true:=by unfold WH;simp;omega
   rw[e,cond_true,e3,cond_true,e2,ht];rfl
  .have e:decide ((((Yk [p] p.Rs).length:Nat):Int)> (1000:Int))=false:=by simp;omega
   rw[e,cond_false];rw[Qu (by omega)] at ht;rw[ht];rfl
theorem an2 {n:Nat}{p:Pred}(hn:RP p<n)(hp:RP p<2^62):Za n p=some ((pre p).take 1000):=by
 have e:Za n p=acA n n p:=by unfold Za;rfl
 rw[e,an1 n p (by omega) hn hp]
theorem abJ {U β Y:Type}{L:Nat->Y->Int->Option β}{l:List U}(hs:∀m (i:Nat) x s,l[i]? =some x->(∀s,∃r,L m s ((i+1:Nat):Int)=some r)->∃r,L (m+1) s (i:Int)=some r)(hf:∀m s (i:Nat),l.length<=i->∃r,L (m+1) s (i:Int)=some r):
 ∀(k i m:Nat)(s:Y),l.length<=i+k->k<m->∃r,L m s (i:Int)=some r:=by
 intro k;induction k with
 |zero=>intro i m s hi hm;obtain⟨m,rfl⟩:∃m',m=m'+1:=⟨m-1,by omega⟩;exact hf m s i (by omega)
 |succ k ih=>
  intro i m s hi hm;obtain⟨m,rfl⟩:∃m',m=m'+1:=⟨m-1,by omega⟩;by_cases h:l.length<=i
  .exact hf m s i h
  .exact hs m i _ s (PX (by omega)) fun s=>ih (i+1) m s (by omega) (by omega)
theorem abK {U:Type}{l:List U}{i:Nat}(h:l.length<=i):decide ((i:Int)< (l.length:Int))=false:=by simp;omega
theorem Wm {U:Type}{c:Bool}{a b:Option U}(ha:∃r,a=some r)(hb:∃r,b=some r):∃r,(bif c then a else b)=some r:=by
 cases c
 .exact hb
 .exact ha
theorem an3 {n:Nat}{p:Pred}(hn:RP p<n)(hp:RP p<2^62):ZW n p=some (((((pre p).take 1000).length:Nat)):Int):=by rw[aty,Pred.TG,an2 hn hp];rfl
theorem an4 {n:Nat}:∀(g:Nat)(p:Pred)(k:Int),RP p<=g->RP p<n->RP p<2^62->∃b:Bool,abE n g (p,k)=some b
 |0,p,k,hg,_,_=>by have:=adD p;omega|g+1,p,k,hg,hn,hp=>by
  have hs:=ahv p;have hlen:=afn p.Rs;obtain⟨r,hr⟩:=abJ (L:=fun m (_:Unit) i=>aa5 n g p k m i) (l:=p.Rs)
   (fun m i x _ hx ih=>by have hlt:=Vt hx;have hsz:=afo (Qk hx);show∃r,aa5 n g p k (m+1) (i:Int)=some r;obtain⟨b,hb⟩:=an4 (n:=n) g x (wrap .i64 (k-(1:Int))) (by omega) (by omega) (by omega);rw[anh,Ub hx,Tg hx,TY (by omega),cond_true,Option.bind_some,Pred.TG,hb];show∃r,(bif !b then _ else _)=some r;exact Wm ⟨_,rfl⟩ (ih ()))
   (fun m _ i hi=>by show∃r,aa5 n g p k (m+1) (i:Int)=some r;rw[anh,abK hi];exact⟨_,rfl⟩) p.Rs.length 0 n () (by omega) (by omega)
  have hr':aa5 n g p k n (0:Int)=some r:=hr;obtain⟨z,hz⟩:=afm (c:= !(decide (k< (1:Int)))) (o:=ZW n p) (d:=(0:Int)) (fun _=>⟨_,an3 hn hp⟩);rw[ani,Pred.TG];show∃b:Bool,Option.bind (Uh _ _ _) _=some b;rw[hz];show∃b:Bool,(bif _ then some false else _)=some b;refine Wm ⟨_,rfl⟩ ?_;rw[hr',Option.bind_some];cases r with
  |inl q=>exact⟨true,rfl⟩|inr q=>exact⟨q,rfl⟩
theorem an5 {n:Nat}{p:Pred}{k:Int}(hn:RP p<n)(hp:RP p<2^62):∃b:Bool,QQ n (p,k)=some b:=by
 have e:QQ n (p,k)=abE n n (p,k):=by unfold QQ;rfl
 rw[e];exact an4 n p k (by omega) hn hp
mutual
theorem Wz:∀p:Pred,(pre p).length=RP p
 | ⟨op,name,n,m,s,subs⟩=>by simp only[pre,RP,List.length_cons,an6 subs]
theorem an6:∀l:List Pred,(Uz l).length=WM l
 | []=>rfl|p::l=>by simp only[Uz,WM,PU,Wz p,an6 l]
end
theorem acQ {p:Pred}(h:RP p<2^62):VL p=some (pre p):=by unfold VL;rw[Wz,if_pos h]
theorem an7 {n:Nat}:∀(l:List Pred)(c:Nat),c<1000->aas n l ((),(c:Int))=some (if c+l.length<1000 then .inl ((),((c+l.length:Nat):Int)) else .inr ((),(1000:Int)))
 | [],c,hc=>by rw[atJ,if_pos (by simpa using hc)];rfl|x::l,c,hc=>by
  have:=atK n x l (c:Int);rw[show aas n (x::l) ((),(c:Int))=_ from this,TY (by omega)];by_cases h:c+1=1000
  .have e:((((c+1:Nat):Int))==(1000:Int))=true:=by rw[h];rfl
   rw[e,cond_true,if_neg (by simp;omega),h];rfl
  .have e:((((c+1:Nat):Int))==(1000:Int))=false:=by simp;omega
   rw[e,cond_false];have:=an7 (n:=n) l (c+1) (by omega);rw[show aas n l ((),(((c+1:Nat):Int)))=_ from this];have e2:c+1+l.length=c+(x::l).length:=by simp;omega
   rw[e2]
theorem auE {n:Nat}{p:Pred}(h:RP p<2^62):Zz n p=some ((((pre p).take 1000).length:Nat):Int):=by
 rw[atL,Pred.TG];refine bs (acK n p) ?_;show ((VL p.re).bind _).bind _=_;rw[Pred.TG];rw[acQ h,Option.bind_some];have:=an7 (n:=n) (pre p) 0 (by omega);rw[show aas n (pre p) ((),(0:Int))=_ from this,Qi];by_cases c:(pre p).length<1000
 .rw[if_pos c,Qu (by omega)];rfl
 .rw[if_neg c,Qb,Nat.min_eq_left (by omega)];rfl
end Sh
end
section
open Go Go.Proofs Aq
namespace Sh
def aav (a b:Int):Int:=bif decide (a<b) then-1 else bif decide (a>b) then 1 else 0
def orL:List Int->Int
 | []=>0|x::l=>bif x !=0 then x else orL l
mutual
def VD:Pred->Pred->Int
 | ⟨o,m,a,b,s,l⟩,⟨o',m',a',b',s',l'⟩=>orL [aav o o',abC m m',aav a a',aav b b',abC s s',cmpL l l']
def cmpL:List Pred->List Pred->Int
 | [],[]=>0| [],_::_=>-1|_::_,[]=>1|p::l,q::m=>bif VD p q !=0 then VD p q else cmpL l m
end
def fiv (x y:Pred):List Int:=[aav x.Op y.Op,abC x.Name y.Name,aav x.N y.N,aav x.M y.M,abC x.S y.S]
theorem auG (x y:Pred):VD x y=orL (fiv x y++[cmpL x.Rs y.Rs]):=by cases x;cases y;rfl
end Sh
end
section
open Go Go.Proofs Aq
namespace Sh
def lex (a b:Int):Int:=bif a !=0 then a else b
end Sh
end
section
open Go Aq
namespace Pq
variable {U:Type}
section
variable {d:U}{Ok:U->Prop}{lt:U->U->Prop}{K:{β:Type}->U->U->(Bool->Option β)->Option β}(hc:YP Ok lt K)(ho:Ord lt){L4:Int->Int->Int->Nat->Int×List U->Option (PUnit×List U)}(h4:∀(x1 x2 x4:Int) (m:Nat) (x6:Int) (x7:List U),L4 x1 x2 x4 (m+1) (x6,x7)=bif decide (x6>x1) then bif decide (0<=x6/\x6< (x7.length:Int)) then (Fb x7 x6).bind fun (r8:U)=>bif decide (0<=(wrap .i64 (x6-(1:Int)))/\(wrap .i64 (x6-(1:Int)))< (x7.length:Int)) then (Fb x7 (wrap .i64 (x6-(1:Int)))).bind fun (r9:U)=>
      K r8 r9 fun (R6:Bool)=>bif R6 then bif decide (0<=(wrap .i64 (x6-(1:Int)))/\(wrap .i64 (x6-(1:Int)))< (x7.length:Int)) then (Fb x7 (wrap .i64 (x6-(1:Int)))).bind fun (Rx:U)=>bif decide (0<=x6/\x6< (x7.length:Int)) then (Fb x7 x6).bind fun (Td:U)=>bif decide (0<=x6/\x6< (x7.length:Int)) then (Fb x7 x6).bind fun (_:U)=>bif decide (0<=(wrap .i64 (x6-(1:Int)))/\(wrap .i64 (x6-(1:Int)))< (((Rc x7 x6 Rx).length:Nat):Int)) then (Fb (Rc x7 x6 Rx) (wrap .i64 (x6-(1:Int)))).bind fun (_:U)=>
           L4 x1 x2 x4 m ((wrap .i64 (x6-(1:Int)),Rc (Rc x7 x6 Rx) (wrap .i64 (x6-(1:Int))) Td))else none else none else none else none else some (((),x7))else none else none else some (((),x7)))
include hc ho h4
theorem OY {a i x2 x4:Int}{l:List U}{m:Nat}(h0:0<=a)(h1:a<=i)(h2:i<l.length)(hb:l.length<2^60)(hal:Al Ok l)(hs:Sd lt d a i l)(hm:(i-a).toNat<m):
 ∃r,L4 a x2 x4 m (i,l)=some r/\Rp d a (i+1) l r.2/\Sd lt d a (i+1) r.2:=by
 refine mu (τ:=Int×List U) (L:=L4 a x2 x4) (fun p=>a<=p.1/\p.1<=i/\Rp d a (i+1) l p.2/\(∀u v,a<=u->u<v->v<=i->u≠p.1->v≠p.1->¬lt (gI d p.2 v) (gI d p.2 u))/\(∀v,p.1<v->v<=i->¬lt (gI d p.2 v) (gI d p.2 p.1))) (fun p=>(p.1-a).toNat) _ ?_ m (i,l) ⟨h1,PZ _,.refl _ _ _ _,fun u v k1 k2 k3 k4 k5=>hs u v k1 k2 (by omega),fun v k1 k2=>by omega⟩ hm;rintro m ⟨j,D⟩ ⟨i1,i2,i3,i4,i5⟩ aJ;dsimp only at i1 i2 i3 i4 i5 aJ⊢;have hl:=i3.len;have bE:=i3.al hal;rw[h4];simp (disch:=omega) only[wr];refine tD (fun hj=>?_) (fun hj=>?_)
 .refine tI (by omega) (by omega) (tE (aB d (by omega) (by omega)) (tI (by omega) (by omega) (tE (aB d (by omega) (by omega)) (tM hc (bE.at d (by omega) (by omega)) (bE.at d (by omega) (by omega)) fun r hr=>?_))));refine tD (fun hlt=>?_) (fun hlt=>?_)
  .refine tI (by omega) (by omega) (tE (aB d (by omega) (by omega)) (tI (by omega) (by omega) (tE (aB d (by omega) (by omega)) (tI (by omega) (by omega) (tE (aB d (by omega) (by omega)) (tI (by omega) (by rw[ay];omega) (tE (aB d (by omega) (by rw[ay];omega)) ?_)))))));have hlt':=hr.1 hlt;refine aJ (j-1,swp d D j (j-1)) ⟨by dsimp only;omega,by dsimp only;omega,i3.swp h0 (by omega) (by omega) (by omega) (by omega) (by omega),fun u v k1 k2 k3 k4 k5=>?_,fun v k1 k2=>?_⟩ (by dsimp only;omega)
   .dsimp only at k4 k5⊢;rw[dO (by omega) (by omega) (by omega) (by omega) (by omega),dO (by omega) (by omega) (by omega) (by omega) (by omega),if_neg k5,if_neg k4];by_cases e1:v=j
    .rw[if_pos e1];by_cases e2:u=j
     .omega
     .rw[if_neg e2];exact i4 u (j-1) k1 (by omega) (by omega) e2 (by omega)
    .rw[if_neg e1];by_cases e2:u=j
     .rw[if_pos e2];exact i4 (j-1) v (by omega) (by omega) k3 (by omega) e1
     .rw[if_neg e2];exact i4 u v k1 k2 k3 e2 e1
   .dsimp only at k1 k2⊢;rw[dO (by omega) (by omega) (by omega) (by omega) (by omega),dO (by omega) (by omega) (by omega) (by omega) (by omega),if_neg (by omega),if_pos rfl];by_cases e1:v=j
    .rw[if_pos e1];exact ho.asym _ _ hlt'
    .rw[if_neg e1];exact i5 v (by omega) k2
  .refine tS ⟨i3,?_⟩;have hlt':¬lt (gI d D j) (gI d D (j-1)):=fun h=>hlt (hr.2 h);intro u v k1 k2 k3;by_cases e1:v=j
   .subst e1;by_cases e2:u=v-1
    .rw[e2];exact hlt'
    .exact ho.neg _ _ _ hlt' (i4 u (v-1) k1 (by omega) (by omega) (by omega) (by omega))
   .by_cases e2:u=j
    .subst e2;exact i5 v k2 (by omega)
    .exact i4 u v k1 k2 (by omega) e2 e1
 .refine tS ⟨i3,?_⟩;have e:j=a:=by omega
  intro u v k1 k2 k3;by_cases e2:u=j
  .subst e2;exact i5 v k2 (by omega)
  .exact i4 u v k1 k2 (by omega) e2 (by omega)
variable {n:Nat}{L1:Int->Int->Nat->Int×List U->Option (PUnit×List U)}(h1:∀(x1 x2:Int) (m:Nat) (x4:Int) (x5:List U),L1 x1 x2 (m+1) (x4,x5)=bif decide (x4<x2) then (L4 x1 x2 x4 n ((x4,x5))).bind fun (Ta:PUnit×List U)=>
    L1 x1 x2 m ((wrap .i64 (x4+(1:Int)),Ta.2))else some (((),x5)))
include h1
theorem auH {a b:Int}{l:List U}(h0:0<=a)(hab:a<=b)(h2:b<=l.length)(hb:l.length<2^60)(hal:Al Ok l)(hn:(b-a).toNat+1<n):
 ∃r,L1 a b n (wrap .i64 (a+1),l)=some r/\Rp d a b l r.2/\Sd lt d a b r.2:=by
 rw[wr (by omega) (by omega)];refine mu (τ:=Int×List U) (L:=L1 a b) (fun p=>a<p.1/\(p.1<=b\/p.1=a+1)/\Rp d a b l p.2/\Sd lt d a p.1 p.2) (fun p=>(b-p.1).toNat) _ ?_ n (a+1,l) ⟨by dsimp only;omega,.inr rfl,.refl _ _ _ _,fun u v k1 k2 k3=>by dsimp only at k3;omega⟩ (by dsimp only;omega);rintro m ⟨i,D⟩ ⟨i1,i2,i3,i4⟩ aJ;dsimp only at i1 i2 i3 i4 aJ⊢;have hl:=i3.len;rw[h1];refine tD (fun hi=>?_) (fun hi=>?_)
 .refine tB (OY hc ho h4 (d:=d) h0 (by omega) (by omega) (by omega) (i3.al hal) i4 (by omega)) fun r ⟨r1,r2⟩=>?_;rw[wr (by omega) (by omega)];exact aJ (i+1,r.2) ⟨by dsimp only;omega,.inl (by dsimp only;omega),i3.trans (r1.wide (PZ _) (by omega) h0),r2⟩ (by dsimp only;omega)
 .refine tS ⟨i3,?_⟩;intro u v k1 k2 k3;exact i4 u v k1 k2 (by omega)
end
section
variable {d:U}{n:Nat}{L2:Nat->(Int×Int)×List U->Option (PUnit×List U)}(h2:∀(m:Nat) (x4 x5:Int) (x6:List U),L2 (m+1) ((x4,x5),x6)=bif decide (x4<x5) then bif decide (0<=x5/\x5< (x6.length:Int)) then (Fb x6 x5).bind fun (r7:U)=>bif decide (0<=x4/\x4< (x6.length:Int)) then (Fb x6 x4).bind fun (r8:U)=>bif decide (0<=x4/\x4< (x6.length:Int)) then (Fb x6 x4).bind fun (_:U)=>bif decide (0<=x5/\x5< (((Rc x6 x4 r7).length:Nat):Int)) then (Fb (Rc x6 x4 r7) x5).bind fun (_:U)=>
        L2 m (((wrap .i64 (x4+(1:Int)),wrap .i64 (x5-(1:Int))),Rc (Rc x6 x4 r7) x5 r8))else none else none else none else none else some (((),x6)))
include h2
theorem revAll {a b:Int}{l:List U}(h0:0<=a)(hab:a<=b)(h3:b<=l.length)(hb:l.length<2^60)(hn:(b-a).toNat+1<n):
 ∃r,L2 n ((a,wrap .i64 (b-1)),l)=some r/\Rp d a b l r.2:=by
 rw[wr (by omega) (by omega)];refine mu (τ:=(Int×Int)×List U) (L:=L2) (fun p=>a<=p.1.1/\p.1.2<b/\a-1<=p.1.2/\p.1.1<=b/\Rp d a b l p.2) (fun p=>(p.1.2-p.1.1+1).toNat) _ ?_ n ((a,b-1),l) ⟨PZ _,by dsimp only;omega,by dsimp only;omega,by dsimp only;omega,.refl _ _ _ _⟩ (by dsimp only;omega);rintro m ⟨⟨i,j⟩,D⟩ ⟨i1,i2,i3,i4,i5⟩ aJ;dsimp only at i1 i2 i3 i4 i5 aJ⊢;have hl:=i5.len;rw[h2];refine tD (fun hi=>?_) (fun hi=>tS i5);refine tI (by omega) (by omega) (tE (aB d (by omega) (by omega)) (tI (by omega) (by omega) (tE (aB d (by omega) (by omega)) (tI (by omega) (by omega) (tE (aB d (by omega) (by omega)) (tI (by omega) (by rw[ay];omega) (tE (aB d (by omega) (by rw[ay];omega)) ?_)))))));rw[wr (by omega) (by omega),wr (by omega) (by omega)];exact aJ ((i+1,j-1),swp d D i j) ⟨by dsimp only;omega,by dsimp only;omega,by dsimp only;omega,by dsimp only;omega,i5.swp h0 (by omega) (by omega) (by omega) (by omega) (by omega)⟩ (by dsimp only;omega)
end
end Pq
end
section
open Go Aq
namespace Pq
variable {U:Type}
def Hp (lt:U->U->Prop)(d:U)(f s hi:Int)(l:List U):Prop:=∀i c,s<=i->(c=2*i+1\/c=2*i+2)->c<hi->¬lt (gI d l (f+i)) (gI d l (f+c))
def two {β:Type}(r:(PUnit×β)⊕(PUnit×β)):β:=Sum.elim (fun q=>q.2) (fun q=>q.2) r
section
variable {d:U}{Ok:U->Prop}{lt:U->U->Prop}{K:{β:Type}->U->U->(Bool->Option β)->Option β}(hc:YP Ok lt K)(ho:Ord lt){S1:Int->Int->Nat->(Int×List U)->Option ((PUnit×List U)⊕(PUnit×List U))}(hS1:∀(x2 x3:Int) (m:Nat) (x5:Int) (x6:List U),S1 x2 x3 (m+1) (x5,x6)=bif decide ((wrap .i64 ((wrap .i64 ((2:Int)*x5))+(1:Int)))>=x2) then some (.inl (((),x6)))else Option.bind (α:=Int) ( bif decide ((wrap .i64 ((wrap .i64 ((wrap .i64 ((2:Int)*x5))+(1:Int)))+(1:Int)))<x2) then bif decide (0<=(wrap .i64 (x3+(wrap .i64 ((wrap .i64 ((2:Int)*x5))+(1:Int)))))/\(wrap .i64 (x3+(wrap .i64 ((wrap .i64 ((2:Int)*x5))+(1:Int)))))< (x6.length:Int)) then (Fb x6 (wrap .i64 (x3+(wrap .i64 ((wrap .i64 ((2:Int)*x5))+(1:Int)))))).bind fun (r7:U)=>bif decide (0<=(wrap .i64 ((wrap .i64 (x3+(wrap .i64 ((wrap .i64 ((2:Int)*x5))+(1:Int)))))+(1:Int)))/\(wrap .i64 ((wrap .i64 (x3+(wrap .i64 ((wrap .i64 ((2:Int)*x5))+(1:Int)))))+(1:Int)))< (x6.length:Int)) then (Fb x6 (wrap .i64 ((wrap .i64 (x3+(wrap .i64 ((wrap .i64 ((2:Int)*x5))+(1:Int)))))+(1:Int)))).bind fun (r8:U)=>
        K r7 r8 fun (r9:Bool)=>bif r9 then some (wrap .i64 ((wrap .i64 ((wrap .i64 ((2:Int)*x5))+(1:Int)))+(1:Int)))else some (wrap .i64 ((wrap .i64 ((2:Int)*x5))+(1:Int)))else none else none else some (wrap .i64 ((wrap .i64 ((2:Int)*x5))+(1:Int)))) fun (R6:Int)=>bif decide (0<=(wrap .i64 (x3+x5))/\(wrap .i64 (x3+x5))< (x6.length:Int)) then (Fb x6 (wrap .i64 (x3+x5))).bind fun (Rx:U)=>bif decide (0<=(wrap .i64 (x3+R6))/\(wrap .i64 (x3+R6))< (x6.length:Int)) then (Fb x6 (wrap .i64 (x3+R6))).bind fun (Td:U)=>
      K Rx Td fun (RL:Bool)=>bif !(RL) then some (.inr (((),x6)))else bif decide (0<=(wrap .i64 (x3+R6))/\(wrap .i64 (x3+R6))< (x6.length:Int)) then (Fb x6 (wrap .i64 (x3+R6))).bind fun (Tj:U)=>bif decide (0<=(wrap .i64 (x3+x5))/\(wrap .i64 (x3+x5))< (x6.length:Int)) then (Fb x6 (wrap .i64 (x3+x5))).bind fun (Ta:U)=>bif decide (0<=(wrap .i64 (x3+x5))/\(wrap .i64 (x3+x5))< (x6.length:Int)) then (Fb x6 (wrap .i64 (x3+x5))).bind fun (r16:U)=>bif decide (0<=(wrap .i64 (x3+R6))/\(wrap .i64 (x3+R6))< (((Rc x6 (wrap .i64 (x3+x5)) Tj).length:Nat):Int)) then (Fb (Rc x6 (wrap .i64 (x3+x5)) Tj) (wrap .i64 (x3+R6))).bind fun (Wy:U)=>
           S1 x2 x3 m ((R6,Rc (Rc x6 (wrap .i64 (x3+x5)) Tj) (wrap .i64 (x3+R6)) Ta))else none else none else none else none else none else none)
include hc ho hS1
theorem OZ {f lo hi:Int}{l:List U}{m:Nat}(h0:0<=f)(hlo:0<=lo)(hlb:lo<2^58)(hhi:0<=hi)(hf:f+hi<=l.length)(hb:l.length<2^58)(hal:Al Ok l)(hh:Hp lt d f (lo+1) hi l)(hm:(hi-lo).toNat<m):
 ∃r,S1 hi f m (lo,l)=some r/\Rp d f (f+hi) l (two r)/\Hp lt d f lo hi (two r):=by
 refine mu (τ:=Int×List U) (L:=S1 hi f) (fun p=>lo<=p.1/\(p.1=lo\/p.1<hi)/\Rp d f (f+hi) l p.2/\(∀i c,lo<=i->i≠p.1->(c=2*i+1\/c=2*i+2)->c<hi->¬lt (gI d p.2 (f+i)) (gI d p.2 (f+c)))/\
  (∀q c,lo<=q->(p.1=2*q+1\/p.1=2*q+2)->(c=2*p.1+1\/c=2*p.1+2)->c<hi->¬lt (gI d p.2 (f+q)) (gI d p.2 (f+c)))) (fun p=>(hi-p.1).toNat) _ ?_ m (lo,l)
  ⟨PZ _,.inl rfl,.refl _ _ _ _,fun i c k1 k2 k3 k4=>hh i c (by dsimp only at k2;omega) k3 k4,fun q c k1 k2=>by dsimp only at k2;omega⟩ hm
 rintro m ⟨x,D⟩ ⟨i1,i2,i3,i4,i5⟩ aJ;dsimp only at i1 i2 i3 i4 i5 aJ⊢;have hl:=i3.len;have bE:=i3.al hal;rw[hS1];simp (disch:=omega) only[wr];refine tD (fun hge=>tS ⟨i3,fun i c k1 k2 k3=>?_⟩) (fun hge=>?_)
 .by_cases e:i=x
  .omega
  .exact i4 i c k1 e k2 k3
 refine tB (Q:=fun c=>(c=2*x+1\/c=2*x+2)/\c<hi/\∀c',(c'=2*x+1\/c'=2*x+2)->c'<hi->¬lt (gI d D (f+c)) (gI d D (f+c'))) ?_ fun c=>?_
 .refine tD (fun h2=>?_) (fun h2=>tS ⟨.inl rfl,by omega,fun c' k1 k2=>?_⟩)
  .refine tI (by omega) (by omega) (tE (aB d (by omega) (by omega)) (tI (by omega) (by omega) (tE (aB d (by omega) (by omega)) (tM hc (bE.at d (by omega) (by omega)) (bE.at d (by omega) (by omega)) fun r hr=>?_))));have e2:f+(2*x+1)+1=f+(2*x+2):=by omega
   rw[e2] at hr;refine tD (fun h3=>tS ⟨.inr (by omega),by omega,fun c' k1 k2=>?_⟩) (fun h3=>tS ⟨.inl rfl,by omega,fun c' k1 k2=>?_⟩)
   .have hlt:=hr.1 h3;rw[show 2*x+1+1=2*x+2 by omega];rcases k1 with rfl|rfl
    .exact ho.asym _ _ hlt
    .exact ho.gK _
   .rcases k1 with rfl|rfl
    .exact ho.gK _
    .exact fun h=>h3 (hr.2 h)
  .have e:c'=2*x+1:=by omega
   rw[e];exact ho.gK _
 .rintro⟨hc1,hc2,hc3⟩;simp (disch:=omega) only[wr];refine tI (by omega) (by omega) (tE (aB d (by omega) (by omega)) (tI (by omega) (by omega) (tE (aB d (by omega) (by omega)) (tM hc (bE.at d (by omega) (by omega)) (bE.at d (by omega) (by omega)) fun r hr=>?_))));refine tN (fun h3=>tS ⟨i3,fun i c' k1 k2 k3=>?_⟩) (fun h3=>?_)
  .by_cases e:i=x
   .subst e;exact ho.neg _ _ _ (fun h=>h3 (hr.2 h)) (hc3 c' k2 k3)
   .exact i4 i c' k1 e k2 k3
  .have hlt:=hr.1 h3;refine tI (by omega) (by omega) (tE (aB d (by omega) (by omega)) (tI (by omega) (by omega) (tE (aB d (by omega) (by omega)) (tI (by omega) (by omega) (tE (aB d (by omega) (by omega)) (tI (by omega) (by rw[ay];omega) (tE (aB d (by omega) (by rw[ay];omega)) ?_)))))));have sw:∀k,0<=k->gI d (swp d D (f+x) (f+c)) (f+k)=if k=c then gI d D (f+x) else if k=x then gI d D (f+c) else gI d D (f+k):=fun k hk=>by
    rw[dO (by omega) (by omega) (by omega) (by omega) (by omega)];by_cases e1:k=c
    .rw[if_pos e1,if_pos (by omega)]
    .rw[if_neg e1,if_neg (by omega)];by_cases e2:k=x
     .rw[if_pos e2,if_pos (by omega)]
     .rw[if_neg e2,if_neg (by omega)]
   refine aJ (c,swp d D (f+x) (f+c)) ⟨by dsimp only;omega,.inr hc2,i3.swp h0 (by omega) (by omega) (by omega) (by omega) (by omega),fun i c' k1 k2 k3 k4=>?_,fun q c' k1 k2 k3 k4=>?_⟩ (by dsimp only;omega)
   .dsimp only at k2⊢;rw[sw i (by omega),sw c' (by omega),if_neg k2];by_cases e1:c'=c
    .have ei:i=x:=(by omega);rw[if_pos e1,if_pos ei];exact ho.asym _ _ hlt
    .rw[if_neg e1];by_cases e2:c'=x
     .rw[if_pos e2,if_neg (by omega)];exact i5 i c k1 (by omega) hc1 hc2
     .rw[if_neg e2];by_cases e3:i=x
      .rw[if_pos e3];exact hc3 c' (by omega) k4
      .rw[if_neg e3];exact i4 i c' k1 e3 k3 k4
   .dsimp only at k2 k3⊢;have eq:q=x:=(by omega);rw[sw q (by omega),sw c' (by omega),if_neg (by omega),if_pos eq,if_neg (by omega),if_neg (by omega)];exact i4 c c' (by omega) (by omega) k3 k4
variable {n:Nat}{sift:Unit×Int×Int×Int×(Unit×Unit)->List U->Option (PUnit×List U)}(hS:∀(x1 x2 x3:Int) (x4:List U),sift (((),(x1,(x2,(x3,((),())))))) (x4)=
   (S1 x2 x3 n ((x1,x4))).bind fun (TA:(PUnit×List U)⊕(PUnit×List U))=>
   Sum.elim (fun (q19:PUnit×List U)=>some (((),q19.2)))
    (fun (q20:PUnit×List U)=>some (((),q20.2))) TA)
include hS
theorem Fa {f lo hi:Int}{l:List U}(h0:0<=f)(hlo:0<=lo)(hlb:lo<2^58)(hhi:0<=hi)(hf:f+hi<=l.length)(hb:l.length<2^58)(hal:Al Ok l)(hh:Hp lt d f (lo+1) hi l)(hn:hi.toNat<n):
 ∃r,sift ((),lo,hi,f,((),())) l=some r/\Rp d f (f+hi) l r.2/\Hp lt d f lo hi r.2:=by
 rw[hS];refine tB (OZ hc ho hS1 (d:=d) h0 hlo hlb hhi hf hb hal hh (by omega)) fun r=>?_;rintro⟨r1,r2⟩;rcases r with r|r<;>exact tS ⟨r1,r2⟩
variable {H4:Int->Int->Nat->(Int×List U)->Option (PUnit×List U)}{H8:Int->Nat->(Int×List U)->Option (PUnit×List U)}(qx:∀(x1 x2:Int) (m:Nat) (x4:Int) (x5:List U),H4 x1 x2 (m+1) (x4,x5)=bif decide (x4>=(0:Int)) then (sift (((),(x4,(wrap .i64 (x2-x1),(x1,((),())))))) x5).bind fun (r6:PUnit×List U)=>
    H4 x1 x2 m ((wrap .i64 (x4-(1:Int)),r6.2))else some (((),x5)))(yN:∀(x1:Int) (m:Nat) (x8:Int) (x9:List U),H8 x1 (m+1) (x8,x9)=bif decide (x8>=(0:Int)) then bif decide (0<=(wrap .i64 (x1+x8))/\(wrap .i64 (x1+x8))< (x9.length:Int)) then (Fb x9 (wrap .i64 (x1+x8))).bind fun (R6:U)=>bif decide (0<=x1/\x1< (x9.length:Int)) then (Fb x9 x1).bind fun (Rx:U)=>bif decide (0<=x1/\x1< (x9.length:Int)) then (Fb x9 x1).bind fun (Td:U)=>bif decide (0<=(wrap .i64 (x1+x8))/\(wrap .i64 (x1+x8))< (((Rc x9 x1 R6).length:Nat):Int)) then (Fb (Rc x9 x1 R6) (wrap .i64 (x1+x8))).bind fun (RL:U)=>(sift (((),((0:Int),(x8,(x1,((),())))))) (Rc (Rc x9 x1 R6) (wrap .i64 (x1+x8)) Rx)).bind fun (Tj:PUnit×List U)=>
        H8 x1 m ((wrap .i64 (x8-(1:Int)),Tj.2))else none else none else none else none else some (((),x9)))
include qx
theorem build {a b:Int}{l:List U}{m:Nat}{k:Int}(h0:0<=a)(hab:a<=b)(hbl:b<=l.length)(hb:l.length<2^57)(hal:Al Ok l)(hn:(b-a).toNat<n)(hk: -1<=k)(hkb:k<2^57)(hh:Hp lt d a (k+1) (b-a) l)(hm:(k+1).toNat<m):
 ∃r,H4 a b m (k,l)=some r/\Rp d a b l r.2/\Hp lt d a 0 (b-a) r.2:=by
 refine mu (τ:=Int×List U) (L:=H4 a b) (fun p=>-1<=p.1/\p.1<=k/\Rp d a b l p.2/\Hp lt d a (p.1+1) (b-a) p.2) (fun p=>(p.1+1).toNat) _ ?_ m (k,l) ⟨hk,PZ _,.refl _ _ _ _,hh⟩ hm;rintro m ⟨x,D⟩ ⟨i1,i2,i3,i4⟩ aJ;dsimp only at i1 i2 i3 i4 aJ⊢;have hl:=i3.len;rw[qx];refine tD (fun hge=>?_) (fun hge=>tS ⟨i3,?_⟩)
 .simp (disch:=omega) only[wr];refine tB (Fa hc ho hS1 hS (d:=d) h0 (by omega) (by omega) (by omega) (by omega) (by omega) (i3.al hal) i4 hn) fun r=>?_;rintro⟨r1,r2⟩;rw[show a+(b-a)=b by omega] at r1;exact aJ (x-1,r.2) ⟨by dsimp only;omega,by dsimp only;omega,i3.trans r1,by rw[show x-1+1=x by omega];exact r2⟩ (by dsimp only;omega)
 .rw[show x+1=0 by omega] at i4;exact i4
omit hc hS1 hS qx in
theorem Hp.root {f hi:Int}{l:List U}(h:Hp lt d f 0 hi l):∀(k:Nat),(k:Int)<hi->¬lt (gI d l f) (gI d l (f+k)):=by
 intro k;induction k using Nat.strongRecOn with
 |_ k ih=>
  intro hk;cases k with
  |zero=>rw[show f+((0:Nat):Int)=f by omega];exact ho.gK _|succ k=>have h1:=ih (k/2) (by omega) (by omega);exact ho.neg _ _ _ h1 (h ((k/2:Nat):Int) ((k+1:Nat):Int) (by omega) (by omega) hk)
include yN
theorem pop {a b:Int}{l:List U}{m:Nat}(h0:0<=a)(hab:a<=b)(hbl:b<=l.length)(hb:l.length<2^57)(hal:Al Ok l)(hn:(b-a).toNat<n)(hh:Hp lt d a 0 (b-a) l)(hm:(b-a).toNat<m):
 ∃r,H8 a m (b-a-1,l)=some r/\Rp d a b l r.2/\Sd lt d a b r.2:=by
 refine mu (τ:=Int×List U) (L:=H8 a) (fun p=>-1<=p.1/\p.1<b-a/\Rp d a b l p.2/\Hp lt d a 0 (p.1+1) p.2/\Sd lt d (a+p.1+1) b p.2/\(∀u v,a<=u->u<=a+p.1->a+p.1<v->v<b->¬lt (gI d p.2 v) (gI d p.2 u))) (fun p=>(p.1+1).toNat) _ ?_ m (b-a-1,l)
  ⟨by dsimp only;omega,by dsimp only;omega,.refl _ _ _ _,by rw[show b-a-1+1=b-a by omega];exact hh,fun u v k1 k2 k3=>by dsimp only at k1;omega,fun u v k1 k2 k3 k4=>by dsimp only at k3;omega⟩ (by dsimp only;omega)
 rintro m ⟨x,D⟩ ⟨i1,i2,i3,i4,i5,i6⟩ aJ;dsimp only at i1 i2 i3 i4 i5 i6 aJ⊢;have hl:=i3.len;rw[yN];simp (disch:=omega) only[wr];refine tD (fun hge=>?_) (fun hge=>tS ⟨i3,fun u v k1 k2 k3=>i5 u v (by omega) k2 k3⟩);refine tI (by omega) (by omega) (tE (aB d (by omega) (by omega)) (tI (by omega) (by omega) (tE (aB d (by omega) (by omega)) (tI (by omega) (by omega) (tE (aB d (by omega) (by omega)) (tI (by omega) (by rw[ay];omega) (tE (aB d (by omega) (by rw[ay];omega)) ?_)))))));have sw:∀k,0<=k->gI d (swp d D a (a+x)) (a+k)=if k=x then gI d D a else if k=0 then gI d D (a+x) else gI d D (a+k):=fun k hk=>by
  rw[dO (by omega) (by omega) (by omega) (by omega) (by omega)];by_cases e1:k=x
  .rw[if_pos e1,if_pos (by omega)]
  .rw[if_neg e1,if_neg (by omega)];by_cases e2:k=0
   .rw[if_pos e2,if_pos (by omega)]
   .rw[if_neg e2,if_neg (by omega)]
 have s1:Rp d a b l (swp d D a (a+x)):=i3.swp h0 (by omega) (by omega) (by omega) (by omega) (by omega);have hroot:∀k,0<=k->k<=x->¬lt (gI d D a) (gI d D (a+k)):=fun k k0 k1=>by
  have:=Hp.root ho i4 k.toNat (by omega)
  rwa[show (k.toNat:Int)=k by omega] at this
 refine tB (Fa hc ho hS1 hS (d:=d) (hi:=x) (lo:=0) (l:=swp d D a (a+x)) h0 (by omega) (by omega) hge (by rw[aQ];omega) (by rw[aQ];omega) (s1.al hal) (fun i c k1 k2 k3=>?_) (by omega)) fun r=>?_
 .rw[sw i (by omega),sw c (by omega),if_neg (by omega),if_neg (by omega),if_neg (by omega),if_neg (by omega)];exact i4 i c (by omega) k2 (by omega)
 .rintro⟨r1,r2⟩;have hM:∀k,x<=k->a+k<b->gI d r.2 (a+k)=gI d (swp d D a (a+x)) (a+k):=fun k k0 k1=>r1.out _ (by omega) (by omega);have sm:∀φ:U->Prop,(∀k,0<=k->k<=x->φ (gI d D (a+k)))->∀u,a<=u->u<a+x->φ (gI d r.2 u):=fun φ hφ u k0 k1=>by
   refine r1.all φ (fun w w0 w1=>?_) u k0 k1;have:=sw (w-a) (by omega);rw[show a+(w-a)=w by omega] at this;rw[this,if_neg (by omega)];by_cases e:w-a=0
   .rw[if_pos e];exact hφ x (by omega) (by omega)
   .rw[if_neg e];have:=hφ (w-a) (by omega) (by omega)
    rwa[show a+(w-a)=w by omega] at this
  refine aJ (x-1,r.2) ⟨by dsimp only;omega,by dsimp only;omega,s1.trans (r1.wide (PZ _) (by omega) h0),by rw[show x-1+1=x by omega];exact r2,fun u v k1 k2 k3=>?_,fun u v k1 k2 k3 k4=>?_⟩ (by dsimp only;omega)
  .dsimp only at k1⊢;have e1:=hM (u-a) (by omega) (by omega);have e2:=hM (v-a) (by omega) (by omega);rw[show a+(u-a)=u by omega] at e1;rw[show a+(v-a)=v by omega] at e2;have e3:=sw (u-a) (by omega);have e4:=sw (v-a) (by omega);rw[show a+(u-a)=u by omega] at e3;rw[show a+(v-a)=v by omega] at e4;rw[e1,e2,e3,e4,if_neg (by omega:¬v-a=x),if_neg (by omega:¬v-a=0)];by_cases e:u-a=x
   .rw[if_pos e];exact i6 a v (by omega) (by omega) (by omega) k3
   .rw[if_neg e,if_neg (by omega)];exact i5 u v (by omega) k2 k3
  .dsimp only at k2 k3⊢;have e2:=hM (v-a) (by omega) (by omega);rw[show a+(v-a)=v by omega] at e2;have e4:=sw (v-a) (by omega);rw[show a+(v-a)=v by omega] at e4;rw[e2,e4,if_neg (by omega:¬v-a=0)];by_cases e:v-a=x
   .rw[if_pos e];exact sm (fun z=>¬lt (gI d D a) z) (fun k k0 k1=>hroot k k0 k1) u k1 (by omega)
   .rw[if_neg e];exact sm (fun z=>¬lt (gI d D v) z) (fun k k0 k1=>i6 (a+k) v (by omega) (by omega) (by omega) k4) u k1 (by omega)
variable {heap:Unit×Int×Int×(Unit×Unit)->List U->Option (PUnit×List U)}(hH:∀(x1 x2:Int) (x3:List U),heap (((),(x1,(x2,((),()))))) (x3)=bif !((2:Int)==(0:Int)) then (H4 x1 x2 n ((wrap .i64 (Int.tdiv (wrap .i64 ((wrap .i64 (x2-x1))-(1:Int))) (2:Int)),x3))).bind fun (r7:PUnit×List U)=>(H8 x1 n ((wrap .i64 ((wrap .i64 (x2-x1))-(1:Int)),r7.2))).bind fun (Ta:PUnit×List U)=>some (((),Ta.2))else none)
include hH
theorem auJ {a b:Int}{l:List U}(h0:0<=a)(hab:a<=b)(hbl:b<=l.length)(hb:l.length<2^57)(hal:Al Ok l)(hn:(b-a).toNat+1<n):
 ∃r,heap ((),a,b,((),())) l=some r/\Rp d a b l r.2/\Sd lt d a b r.2:=by
 rw[hH];simp (disch:=omega) only[wr];refine tG (by decide) ?_;have ht:Int.tdiv (b-a-1) 2<=b-a/\ -1<=Int.tdiv (b-a-1) 2/\(0<b-a->b-a-1<2*Int.tdiv (b-a-1) 2+2/\0<=Int.tdiv (b-a-1) 2):=by
  by_cases h:0<b-a
  .rw[Int.tdiv_eq_ediv_of_nonneg (by omega)];omega
  .rw[show b-a-1= -1 by omega];simp;omega
 rw[wr (i:=Int.tdiv (b-a-1) 2) (by omega) (by omega)];refine tB (build hc ho hS1 hS qx (d:=d) (k:=Int.tdiv (b-a-1) 2) h0 hab hbl hb hal (by omega) (by omega) (by omega) (fun i c k1 k2 k3=>?_) (by omega)) fun r=>?_
 .omega
 .rintro⟨r1,r2⟩;have hl:=r1.len;refine tB (pop hc ho hS1 hS qx yN (d:=d) h0 hab (by omega) (by omega) (r1.al hal) (by omega) r2 (by omega)) fun s=>?_;rintro⟨s1,s2⟩;exact tS ⟨r1.trans s1,s2⟩
end
end Pq
end
section
open Go Aq
namespace Pq
variable {U:Type}
theorem tJ {L:Nat->Int->Option Int}{T:Int->Prop}{i j:Int}(hs:∀m x (Q:Int->Prop),i<=x->x<=j->(T x->∃r,L m (x+1)=some r/\Q r)->(¬T x->Q x)->∃r,L (m+1) x=some r/\Q r)(he:∀m x,j<x->L (m+1) x=some x)(hij:i<=j+1){m:Nat}(hm:(j+1-i).toNat<m):∃r,L m i=some r/\i<=r/\r<=j+1/\(∀k,i<=k->k<r->T k)/\(r<=j->¬T r):=by
 refine mu (τ:=Int) (L:=L) (fun x=>i<=x/\x<=j+1/\∀k,i<=k->k<x->T k) (fun x=>(j+1-x).toNat) _ ?_ m i ⟨PZ _,hij,fun k k1 k2=>by omega⟩ hm;rintro m x ⟨i1,i2,i3⟩ aJ;by_cases hx:x<=j
 .exact hs m x _ i1 hx (fun ht=>aJ (x+1) ⟨by omega,by omega,fun k k1 k2=>by
   by_cases e:k=x
   .rw[e];exact ht
   .exact i3 k k1 (by omega)⟩ (by omega)) fun ht=>⟨i1,by omega,i3,fun _=>ht⟩
 .exact⟨x,he m x (by omega),i1,i2,i3,fun h=>absurd h hx⟩
theorem yO {L:Nat->Int->Option Int}{T:Int->Prop}{i j:Int}(hs:∀m x (Q:Int->Prop),i<=x->x<=j->(T x->∃r,L m (x-1)=some r/\Q r)->(¬T x->Q x)->∃r,L (m+1) x=some r/\Q r)(he:∀m x,x<i->L (m+1) x=some x)(hij:i<=j+1){m:Nat}(hm:(j+1-i).toNat<m):∃r,L m j=some r/\r<=j/\i-1<=r/\(∀k,r<k->k<=j->T k)/\(i<=r->¬T r):=by
 refine mu (τ:=Int) (L:=L) (fun x=>x<=j/\i-1<=x/\∀k,x<k->k<=j->T k) (fun x=>(x+1-i).toNat) _ ?_ m j ⟨PZ _,by omega,fun k k1 k2=>by omega⟩ (by omega);rintro m x ⟨i1,i2,i3⟩ aJ;by_cases hx:i<=x
 .exact hs m x _ hx i1 (fun ht=>aJ (x-1) ⟨by omega,by omega,fun k k1 k2=>by
   by_cases e:k=x
   .rw[e];exact ht
   .exact i3 k (by omega) k2⟩ (by omega)) fun ht=>⟨i1,i2,i3,fun _=>ht⟩
 .exact⟨x,he m x (by omega),i1,i2,i3,fun h=>absurd h hx⟩
structure Parts (lt:U->U->Prop)(d:U)(a b mid:Int)(l l':List U):Prop where
 lo:a<=mid
 hi:mid<b
 rp:Rp d a b l l'
 left:∀k,a<=k->k<mid->¬lt (gI d l' mid) (gI d l' k)
 right:∀k,mid<k->k<b->¬lt (gI d l' k) (gI d l' mid)
section
variable {n:Nat}{d:U}{Ok:U->Prop}{lt:U->U->Prop}{K:{β:Type}->U->U->(Bool->Option β)->Option β}(hc:YP Ok lt K)(ho:Ord lt){P3:Int->Int->Int->(List U)->U->U->Nat->Int->Option (Int)}{P5:Int->Int->(List U)->U->U->Int->Nat->Int->Option (Int)}{P13:Int->Int->(List U)->Nat->Int->Option (Int)}{P15:Int->(List U)->Int->Nat->Int->Option (Int)}{PM:Int->Nat->((Int×Int)×List U)->Option (Int×List U)}{prt:Unit×Int×Int×Int×(Unit×Unit)->List U->Option ((Int×Bool)×List U)}(h3:∀(x1 x2 x3:Int) (x4:List U) (r5:U) (r6:U) (m:Nat) (x9:Int),P3 x1 x2 x3 x4 r5 r6 (m+1) x9=bif decide (x9<=(wrap .i64 (x2-(1:Int)))) then bif decide (0<=x9/\x9< (((Rc (Rc x4 x1 r5) x3 r6).length:Nat):Int)) then (Fb (Rc (Rc x4 x1 r5) x3 r6) x9).bind fun (R6:U)=>bif decide (0<=x1/\x1< (((Rc (Rc x4 x1 r5) x3 r6).length:Nat):Int)) then (Fb (Rc (Rc x4 x1 r5) x3 r6) x1).bind fun (Rx:U)=>
      K R6 Rx fun (Td:Bool)=>bif Td then P3 x1 x2 x3 x4 r5 r6 m (wrap .i64 (x9+(1:Int)))else some x9 else none else none else some x9)(h5:∀(x1 x3:Int) (x4:List U) (r5:U) (r6:U) (RL:Int) (m:Nat) (Ug:Int),P5 x1 x3 x4 r5 r6 RL (m+1) Ug=bif decide (RL<=Ug) then bif decide (0<=Ug/\Ug< (((Rc (Rc x4 x1 r5) x3 r6).length:Nat):Int)) then (Fb (Rc (Rc x4 x1 r5) x3 r6) Ug).bind fun (Ta:U)=>bif decide (0<=x1/\x1< (((Rc (Rc x4 x1 r5) x3 r6).length:Nat):Int)) then (Fb (Rc (Rc x4 x1 r5) x3 r6) x1).bind fun (r16:U)=>
      K Ta r16 fun (Wy:Bool)=>bif !(Wy) then P5 x1 x3 x4 r5 r6 RL m (wrap .i64 (Ug-(1:Int)))else some Ug else none else none else some Ug)(qy:∀(x1 x28:Int) (x29:List U) (m:Nat) (x30:Int),P13 x1 x28 x29 (m+1) x30=bif decide (x30<=x28) then bif decide (0<=x30/\x30< (x29.length:Int)) then (Fb x29 x30).bind fun (r31:U)=>bif decide (0<=x1/\x1< (x29.length:Int)) then (Fb x29 x1).bind fun (r32:U)=>
      K r31 r32 fun (r33:Bool)=>bif r33 then P13 x1 x28 x29 m (wrap .i64 (x30+(1:Int)))else some x30 else none else none else some x30)(qz:∀(x1:Int) (x29:List U) (TM:Int) (m:Nat) (x35:Int),P15 x1 x29 TM (m+1) x35=bif decide (TM<=x35) then bif decide (0<=x35/\x35< (x29.length:Int)) then (Fb x29 x35).bind fun (r36:U)=>bif decide (0<=x1/\x1< (x29.length:Int)) then (Fb x29 x1).bind fun (r37:U)=>
      K r36 r37 fun (r38:Bool)=>bif !(r38) then P15 x1 x29 TM m (wrap .i64 (x35-(1:Int)))else some x35 else none else none else some x35)(hM:∀(x1:Int) (m:Nat) (x27 x28:Int) (x29:List U),PM x1 (m+1) ((x27,x28),x29)=
   (P13 x1 x28 x29 n x27).bind fun (TM:Int)=>(P15 x1 x29 TM n x28).bind fun (Y8:Int)=>bif decide (TM>Y8) then some ((Y8,x29))else bif decide (0<=Y8/\Y8< (x29.length:Int)) then (Fb x29 Y8).bind fun (r40:U)=>bif decide (0<=TM/\TM< (x29.length:Int)) then (Fb x29 TM).bind fun (r41:U)=>bif decide (0<=TM/\TM< (x29.length:Int)) then (Fb x29 TM).bind fun (r42:U)=>bif decide (0<=Y8/\Y8< (((Rc x29 TM r40).length:Nat):Int)) then (Fb (Rc x29 TM r40) Y8).bind fun (r43:U)=>
        PM x1 m (((wrap .i64 (TM+(1:Int)),wrap .i64 (Y8-(1:Int))),Rc (Rc x29 TM r40) Y8 r41))else none else none else none else none)(hP:∀(x1 x2 x3:Int) (x4:List U),prt (((),(x1,(x2,(x3,((),())))))) (x4)=bif decide (0<=x3/\x3< (x4.length:Int)) then (Fb x4 x3).bind fun (r5:U)=>bif decide (0<=x1/\x1< (x4.length:Int)) then (Fb x4 x1).bind fun (r6:U)=>bif decide (0<=x1/\x1< (x4.length:Int)) then (Fb x4 x1).bind fun (r7:U)=>bif decide (0<=x3/\x3< (((Rc x4 x1 r5).length:Nat):Int)) then (Fb (Rc x4 x1 r5) x3).bind fun (r8:U)=>(P3 x1 x2 x3 x4 r5 r6 n (wrap .i64 (x1+(1:Int)))).bind fun (RL:Int)=>(P5 x1 x3 x4 r5 r6 RL n (wrap .i64 (x2-(1:Int)))).bind fun (TA:Int)=>bif decide (RL>TA) then bif decide (0<=x1/\x1< (((Rc (Rc x4 x1 r5) x3 r6).length:Nat):Int)) then (Fb (Rc (Rc x4 x1 r5) x3 r6) x1).bind fun (Yj:U)=>bif decide (0<=TA/\TA< (((Rc (Rc x4 x1 r5) x3 r6).length:Nat):Int)) then (Fb (Rc (Rc x4 x1 r5) x3 r6) TA).bind fun (r20:U)=>bif decide (0<=TA/\TA< (((Rc (Rc x4 x1 r5) x3 r6).length:Nat):Int)) then (Fb (Rc (Rc x4 x1 r5) x3 r6) TA).bind fun (VR:U)=>bif decide (0<=x1/\x1< (((Rc (Rc (Rc x4 x1 r5) x3 r6) TA Yj).length:Nat):Int)) then (Fb (Rc (Rc (Rc x4 x1 r5) x3 r6) TA Yj) x1).bind fun (YZ:U)=>some (((TA,true),Rc (Rc (Rc (Rc x4 x1 r5) x3 r6) TA Yj) x1 r20))else none else none else none else none else bif decide (0<=TA/\TA< (((Rc (Rc x4 x1 r5) x3 r6).length:Nat):Int)) then (Fb (Rc (Rc x4 x1 r5) x3 r6) TA).bind fun (WU:U)=>bif decide (0<=RL/\RL< (((Rc (Rc x4 x1 r5) x3 r6).length:Nat):Int)) then (Fb (Rc (Rc x4 x1 r5) x3 r6) RL).bind fun (r24:U)=>bif decide (0<=RL/\RL< (((Rc (Rc x4 x1 r5) x3 r6).length:Nat):Int)) then (Fb (Rc (Rc x4 x1 r5) x3 r6) RL).bind fun (WV:U)=>bif decide (0<=TA/\TA< (((Rc (Rc (Rc x4 x1 r5) x3 r6) RL WU).length:Nat):Int)) then (Fb (Rc (Rc (Rc x4 x1 r5) x3 r6) RL WU) TA).bind fun (UA:U)=>(PM x1 n (((wrap .i64 (RL+(1:Int)),wrap .i64 (TA-(1:Int))),Rc (Rc (Rc (Rc x4 x1 r5) x3 r6) RL WU) TA r24))).bind fun (Vg:Int×List U)=>bif decide (0<=x1/\x1< (Vg.2.length:Int)) then (Fb Vg.2 x1).bind fun (r45:U)=>bif decide (0<=Vg.1/\Vg.1< (Vg.2.length:Int)) then (Fb Vg.2 Vg.1).bind fun (r46:U)=>bif decide (0<=Vg.1/\Vg.1< (Vg.2.length:Int)) then (Fb Vg.2 Vg.1).bind fun (r47:U)=>bif decide (0<=x1/\x1< (((Rc Vg.2 Vg.1 r45).length:Nat):Int)) then (Fb (Rc Vg.2 Vg.1 r45) x1).bind fun (r48:U)=>some (((Vg.1,false),Rc (Rc Vg.2 Vg.1 r45) x1 r46))else none else none else none else none else none else none else none else none else none else none else none else none)
include hc ho qy qz hM
theorem O1 {a b:Int}{l:List U}{i j:Int}{m:Nat}(h0:0<=a)(hbl:b<=l.length)(hb:l.length<2^57)(hal:Al Ok l)(hn:(b-a).toNat<n)(h1:a<i)(h2:j<b)(hij:i<=j+1)(hl:∀k,a<k->k<i->lt (gI d l k) (gI d l a))(hr:∀k,j<k->k<b->¬lt (gI d l k) (gI d l a))(hm:(j+1-i).toNat<m):
 ∃r,PM a m ((i,j),l)=some r/\a<=r.1/\r.1<b/\Rp d a b l r.2/\gI d r.2 a=gI d l a/\(∀k,a<k->k<=r.1->lt (gI d r.2 k) (gI d r.2 a))/\(∀k,r.1<k->k<b->¬lt (gI d r.2 k) (gI d r.2 a)):=by
 refine mu (τ:=(Int×Int)×List U) (L:=PM a) (fun p=>a<p.1.1/\p.1.2<b/\p.1.1<=p.1.2+1/\Rp d a b l p.2/\gI d p.2 a=gI d l a/\(∀k,a<k->k<p.1.1->lt (gI d p.2 k) (gI d p.2 a))/\(∀k,p.1.2<k->k<b->¬lt (gI d p.2 k) (gI d p.2 a))) (fun p=>(p.1.2+1-p.1.1).toNat) _ ?_ m ((i,j),l)
  ⟨h1,h2,hij,.refl _ _ _ _,rfl,hl,hr⟩ hm
 rintro m ⟨⟨i,j⟩,D⟩ ⟨i1,i2,i3,i4,i5,i6,i7⟩ aJ;dsimp only at i1 i2 i3 i4 i5 i6 i7 aJ⊢;have hl:=i4.len;have bE:=i4.al hal;rw[hM];refine tB (tJ (L:=P13 a j D) (T:=fun x=>lt (gI d D x) (gI d D a)) (i:=i) (j:=j) (fun m x Q k1 k2 ht hf=>?_) (fun m x k1=>?_) i3 (by omega)) fun i'=>?_
 .rw[qy];refine tD (fun _=>tI (by omega) (by omega) (tE (aB d (by omega) (by omega)) (tI (by omega) (by omega) (tE (aB d (by omega) (by omega)) (tM hc (bE.at d (by omega) (by omega)) (bE.at d (by omega) (by omega)) fun r hr=>tD (fun h=>?_) (fun h=>tS (hf fun k=>h (hr.2 k)))))))) (fun h=>by omega);rw[wr (by omega) (by omega)];exact ht (hr.1 h)
 .rw[qy,decide_eq_false (by omega)];rfl
 rintro⟨u1,u2,u3,u4⟩;refine tB (yO (L:=P15 a D i') (T:=fun x=>¬lt (gI d D x) (gI d D a)) (i:=i') (j:=j) (fun m x Q k1 k2 ht hf=>?_) (fun m x k1=>?_) u2 (by omega)) fun j'=>?_
 .rw[qz];refine tD (fun _=>tI (by omega) (by omega) (tE (aB d (by omega) (by omega)) (tI (by omega) (by omega) (tE (aB d (by omega) (by omega)) (tM hc (bE.at d (by omega) (by omega)) (bE.at d (by omega) (by omega)) fun r hr=>tN (fun h=>?_) (fun h=>tS (hf fun k=>k (hr.1 h)))))))) (fun h=>by omega);rw[wr (by omega) (by omega)];exact ht fun k=>h (hr.2 k)
 .rw[qz,decide_eq_false (by omega)];rfl
 rintro⟨v1,v2,v3,v4⟩;have left:∀k,a<k->k<i'->lt (gI d D k) (gI d D a):=fun k k1 k2=>by
  by_cases e:k<i
  .exact i6 k k1 e
  .exact u3 k (by omega) k2
 have right:∀k,j'<k->k<b->¬lt (gI d D k) (gI d D a):=fun k k1 k2=>by
  by_cases e:j<k
  .exact i7 k e k2
  .exact v3 k k1 (by omega)
 refine tD (fun hgt=>tS ⟨by omega,by omega,i4,i5,fun k k1 k2=>left k k1 (by omega),right⟩) (fun hgt=>?_);have t1:=u4 (by omega);have t2:lt (gI d D j') (gI d D a):=Classical.byContradiction (v4 (by omega));have hne:i'≠j':=fun e=>t1 (by rw[e];exact t2);refine tI (by omega) (by first|omega| (simp only[ay,aQ];omega)) (tE (aB d (by omega) (by first|omega| (simp only[ay,aQ];omega))) ?_);refine tI (by omega) (by first|omega| (simp only[ay,aQ];omega)) (tE (aB d (by omega) (by first|omega| (simp only[ay,aQ];omega))) ?_);refine tI (by omega) (by first|omega| (simp only[ay,aQ];omega)) (tE (aB d (by omega) (by first|omega| (simp only[ay,aQ];omega))) ?_);refine tI (by omega) (by first|omega| (simp only[ay,aQ];omega)) (tE (aB d (by omega) (by first|omega| (simp only[ay,aQ];omega))) ?_);rw[wr (by omega) (by omega),wr (by omega) (by omega)];have sw:∀k,0<=k->gI d (swp d D i' j') k=if k=j' then gI d D i' else if k=i' then gI d D j' else gI d D k:=fun k hk=>dO (by omega) (by omega) (by omega) (by omega) hk
 have sa:gI d (swp d D i' j') a=gI d D a:=by rw[sw a h0,if_neg (by omega),if_neg (by omega)]
 refine aJ ((i'+1,j'-1),swp d D i' j') ⟨by dsimp only;omega,by dsimp only;omega,by dsimp only;omega,i4.swp h0 (by omega) (by omega) (by omega) (by omega) (by omega),sa.trans i5,fun k k1 k2=>?_,fun k k1 k2=>?_⟩ (by dsimp only;omega)
 .dsimp only at k2⊢;rw[sa,sw k (by omega),if_neg (by omega)];by_cases e:k=i'
  .rw[if_pos e];exact t2
  .rw[if_neg e];exact left k k1 (by omega)
 .dsimp only at k1⊢;rw[sa,sw k (by omega)];by_cases e:k=j'
  .rw[if_pos e];exact t1
  .rw[if_neg e,if_neg (by omega)];exact right k (by omega) k2
omit hc qy qz hM in
theorem Fe {a b r:Int}{l D:List U}(h0:0<=a)(hbl:b<=l.length)(h1:a<=r)(h2:r<b)(h3:Rp d a b l D)(hl:∀k,a<k->k<=r->lt (gI d D k) (gI d D a))(hr:∀k,r<k->k<b->¬lt (gI d D k) (gI d D a)):Parts lt d a b r l (swp d D r a):=by
 have hlen:=h3.len;have sw:∀k,0<=k->gI d (swp d D r a) k=if k=a then gI d D r else if k=r then gI d D a else gI d D k:=fun k hk=>dO (by omega) (by omega) (by omega) (by omega) hk
 have sr:gI d (swp d D r a) r=gI d D a:=by
  rw[sw r (by omega)];by_cases e:r=a
  .rw[if_pos e,e]
  .rw[if_neg e,if_pos rfl]
 refine⟨h1,h2,h3.swp h0 (by omega) h1 h2 (PZ _) (by omega),fun k k1 k2=>?_,fun k k1 k2=>?_⟩
 .rw[sr,sw k (by omega)];by_cases e:k=a
  .rw[if_pos e];exact ho.asym _ _ (hl r (by omega) (PZ _))
  .rw[if_neg e,if_neg (by omega)];exact ho.asym _ _ (hl k (by omega) (by omega))
 .rw[sr,sw k (by omega),if_neg (by omega),if_neg (by omega)];exact hr k k1 k2
include h3 h5 hP
theorem auN {a b p:Int}{l:List U}(h0:0<=a)(hbl:b<=l.length)(hb:l.length<2^57)(hal:Al Ok l)(hn:(b-a).toNat+1<n)(h1:a<=p)(h2:p<b):
 ∃r,prt ((),a,b,p,((),())) l=some r/\Parts lt d a b r.1.1 l r.2:=by
 rw[hP];refine tI (by omega) (by first|omega| (simp only[ay,aQ];omega)) (tE (aB d (by omega) (by first|omega| (simp only[ay,aQ];omega))) ?_);refine tI (by omega) (by first|omega| (simp only[ay,aQ];omega)) (tE (aB d (by omega) (by first|omega| (simp only[ay,aQ];omega))) ?_);refine tI (by omega) (by first|omega| (simp only[ay,aQ];omega)) (tE (aB d (by omega) (by first|omega| (simp only[ay,aQ];omega))) ?_);refine tI (by omega) (by first|omega| (simp only[ay,aQ];omega)) (tE (aB d (by omega) (by first|omega| (simp only[ay,aQ];omega))) ?_);have hw1:wrap .i64 (a+1)=a+1:=wr (by omega) (by omega);have hw2:wrap .i64 (b-1)=b-1:=wr (by omega) (by omega);have r0:Rp d a b l (swp d l a p):=(Rp.refl d a b l).swp h0 hbl (by omega) (by omega) h1 h2;have hl:=r0.len;have bE:=r0.al hal;change∃r,(P3 a b p l (gI d l p) (gI d l a) n (wrap .i64 (a+1))).bind _=some r/\_;rw[hw1,hw2];refine tB (tJ (L:=P3 a b p l (gI d l p) (gI d l a)) (T:=fun x=>lt (gI d (swp d l a p) x) (gI d (swp d l a p) a)) (i:=a+1) (j:=b-1) (fun m x Q k1 k2 ht hf=>?_) (fun m x k1=>?_) (by omega) (by omega)) fun i'=>?_
 .rw[h3,hw2];change∃r,(bif _ then (bif decide (0<=x/\x< (((swp d l a p).length:Nat):Int)) then (Fb (swp d l a p) x).bind _ else none) else _)=some r/\_;refine tD (fun _=>tI (by omega) (by omega) (tE (aB d (by omega) (by omega)) (tI (by omega) (by first|omega| (simp only[ay];omega)) (tE (aB d (by omega) (by first|omega| (simp only[ay];omega))) (tM hc (bE.at d (by omega) (by omega)) (bE.at d (by omega) (by omega)) fun r hr=>tD (fun h=>?_) (fun h=>tS (hf fun k=>h (hr.2 k)))))))) (fun h=>by omega);rw[wr (by omega) (by omega)];exact ht (hr.1 h)
 .rw[h3,hw2,decide_eq_false (by omega)];rfl
 rintro⟨u1,u2,u3,u4⟩;refine tB (yO (L:=P5 a p l (gI d l p) (gI d l a) i') (T:=fun x=>¬lt (gI d (swp d l a p) x) (gI d (swp d l a p) a)) (i:=i') (j:=b-1) (fun m x Q k1 k2 ht hf=>?_) (fun m x k1=>?_) u2 (by omega)) fun j'=>?_
 .rw[h5];change∃r,(bif _ then (bif decide (0<=x/\x< (((swp d l a p).length:Nat):Int)) then (Fb (swp d l a p) x).bind _ else none) else _)=some r/\_;refine tD (fun _=>tI (by omega) (by omega) (tE (aB d (by omega) (by omega)) (tI (by omega) (by first|omega| (simp only[ay];omega)) (tE (aB d (by omega) (by first|omega| (simp only[ay];omega))) (tM hc (bE.at d (by omega) (by omega)) (bE.at d (by omega) (by omega)) fun r hr=>tN (fun h=>?_) (fun h=>tS (hf fun k=>k (hr.1 h)))))))) (fun h=>by omega);rw[wr (by omega) (by omega)];exact ht fun k=>h (hr.2 k)
 .rw[h5,decide_eq_false (by omega)];rfl
 rintro⟨v1,v2,v3,v4⟩;change∃r,(bif _ then (bif decide (0<=a/\a< (((swp d l a p).length:Nat):Int)) then (Fb (swp d l a p) a).bind _ else none) else (bif decide (0<=j'/\j'< (((swp d l a p).length:Nat):Int)) then (Fb (swp d l a p) j').bind _ else none))=some r/\_;refine tD (fun hgt=>?_) (fun hgt=>?_)
 .refine tI (by omega) (by first|omega| (simp only[ay,aQ];omega)) (tE (aB d (by omega) (by first|omega| (simp only[ay,aQ];omega))) ?_);refine tI (by omega) (by simp only[ay];omega) (tE (aB d (by omega) (by simp only[ay];omega)) ?_);refine tI (by omega) (by simp only[ay];omega) (tE (aB d (by omega) (by simp only[ay];omega)) ?_);refine tI (by omega) (by simp only[ay];omega) (tE (aB d (by omega) (by simp only[ay];omega)) ?_);refine tS ?_;exact Fe ho (r:=j') h0 hbl (by omega) (by omega) r0 (fun k k1 k2=>u3 k (by omega) (by omega)) (fun k k1 k2=>v3 k k1 (by omega))
 .have t1:=u4 (by omega);have t2:lt (gI d (swp d l a p) j') (gI d (swp d l a p) a):=Classical.byContradiction (v4 (by omega));have hne:i'≠j':=fun e=>t1 (by rw[e];exact t2);refine tI (by omega) (by first|omega| (simp only[ay,aQ];omega)) (tE (aB d (by omega) (by first|omega| (simp only[ay,aQ];omega))) ?_);refine tI (by omega) (by simp only[ay];omega) (tE (aB d (by omega) (by simp only[ay];omega)) ?_);refine tI (by omega) (by simp only[ay];omega) (tE (aB d (by omega) (by simp only[ay];omega)) ?_);refine tI (by omega) (by simp only[ay];omega) (tE (aB d (by omega) (by simp only[ay];omega)) ?_);rw[wr (by omega) (by omega),wr (by omega) (by omega)];have s1:Rp d a b l (swp d (swp d l a p) i' j'):=r0.swp h0 (by omega) (by omega) (by omega) (by omega) (by omega);have sw:∀k,0<=k->gI d (swp d (swp d l a p) i' j') k=if k=j' then gI d (swp d l a p) i' else if k=i' then gI d (swp d l a p) j' else gI d (swp d l a p) k:=fun k hk=>dO (by omega) (by omega) (by omega) (by omega) hk
  have sa:gI d (swp d (swp d l a p) i' j') a=gI d (swp d l a p) a:=by rw[sw a h0,if_neg (by omega),if_neg (by omega)]
  have hl1:=s1.len;refine tB (O1 hc ho qy qz hM (n:=n) (d:=d) (a:=a) (b:=b) (l:=swp d (swp d l a p) i' j') (i:=i'+1) (j:=j'-1) (m:=n) h0 (by omega) (by omega) (s1.al hal) (by omega) (by omega) (by omega) (by omega) (fun k k1 k2=>?_) (fun k k1 k2=>?_) (by omega)) fun r=>?_
  .rw[sa,sw k (by omega),if_neg (by omega)];by_cases e:k=i'
   .rw[if_pos e];exact t2
   .rw[if_neg e];exact u3 k (by omega) (by omega)
  .rw[sa,sw k (by omega)];by_cases e:k=j'
   .rw[if_pos e];exact t1
   .rw[if_neg e,if_neg (by omega)];exact v3 k (by omega) (by omega)
  .rintro⟨q1,q2,q3,q4,q5,q6⟩;have hl2:=q3.len;refine tI (by omega) (by first|omega| (simp only[ay,aQ];omega)) (tE (aB d (by omega) (by first|omega| (simp only[ay,aQ];omega))) ?_);refine tI (by omega) (by first|omega| (simp only[ay,aQ];omega)) (tE (aB d (by omega) (by first|omega| (simp only[ay,aQ];omega))) ?_);refine tI (by omega) (by first|omega| (simp only[ay,aQ];omega)) (tE (aB d (by omega) (by first|omega| (simp only[ay,aQ];omega))) ?_);refine tI (by omega) (by first|omega| (simp only[ay,aQ];omega)) (tE (aB d (by omega) (by first|omega| (simp only[ay,aQ];omega))) ?_);exact tS (Fe ho (r:=r.1) h0 hbl q1 q2 (s1.trans q3) q5 q6)
end
section
variable {n:Nat}{d:U}{Ok:U->Prop}{lt:U->U->Prop}{K:{β:Type}->U->U->(Bool->Option β)->Option β}(hc:YP Ok lt K){E3:Int->Int->(List U)->Nat->Int->Option (Int)}{E5:Int->(List U)->Int->Nat->Int->Option (Int)}{EM:Int->Nat->((Int×Int)×List U)->Option (Int×List U)}{peq:Unit×Int×Int×Int×(Unit×Unit)->List U->Option (Int×List U)}(h3:∀(x1 x10:Int) (RF:List U) (m:Nat) (SN:Int),E3 x1 x10 RF (m+1) SN=bif decide (SN<=x10) then bif decide (0<=x1/\x1< (RF.length:Int)) then (Fb RF x1).bind fun (RL:U)=>bif decide (0<=SN/\SN< (RF.length:Int)) then (Fb RF SN).bind fun (Tj:U)=>
      K RL Tj fun (Ta:Bool)=>bif !(Ta) then E3 x1 x10 RF m (wrap .i64 (SN+(1:Int)))else some SN else none else none else some SN)(h5:∀(x1:Int) (RF:List U) (r16:Int) (m:Nat) (Sn:Int),E5 x1 RF r16 (m+1) Sn=bif decide (r16<=Sn) then bif decide (0<=x1/\x1< (RF.length:Int)) then (Fb RF x1).bind fun (TA:U)=>bif decide (0<=Sn/\Sn< (RF.length:Int)) then (Fb RF Sn).bind fun (Yj:U)=>
      K TA Yj fun (r20:Bool)=>bif r20 then E5 x1 RF r16 m (wrap .i64 (Sn-(1:Int)))else some Sn else none else none else some Sn)(hM:∀(x1:Int) (m:Nat) (x9 x10:Int) (RF:List U),EM x1 (m+1) ((x9,x10),RF)=
   (E3 x1 x10 RF n x9).bind fun (r16:Int)=>(E5 x1 RF r16 n x10).bind fun (VR:Int)=>bif decide (r16>VR) then some ((r16,RF))else bif decide (0<=VR/\VR< (RF.length:Int)) then (Fb RF VR).bind fun (YZ:U)=>bif decide (0<=r16/\r16< (RF.length:Int)) then (Fb RF r16).bind fun (WU:U)=>bif decide (0<=r16/\r16< (RF.length:Int)) then (Fb RF r16).bind fun (r24:U)=>bif decide (0<=VR/\VR< (((Rc RF r16 YZ).length:Nat):Int)) then (Fb (Rc RF r16 YZ) VR).bind fun (WV:U)=>
        EM x1 m (((wrap .i64 (r16+(1:Int)),wrap .i64 (VR-(1:Int))),Rc (Rc RF r16 YZ) VR WU))else none else none else none else none)(hP:∀(x1 x2 x3:Int) (x4:List U),peq (((),(x1,(x2,(x3,((),())))))) (x4)=bif decide (0<=x3/\x3< (x4.length:Int)) then (Fb x4 x3).bind fun (r5:U)=>bif decide (0<=x1/\x1< (x4.length:Int)) then (Fb x4 x1).bind fun (r6:U)=>bif decide (0<=x1/\x1< (x4.length:Int)) then (Fb x4 x1).bind fun (r7:U)=>bif decide (0<=x3/\x3< (((Rc x4 x1 r5).length:Nat):Int)) then (Fb (Rc x4 x1 r5) x3).bind fun (r8:U)=>(EM x1 n (((wrap .i64 (x1+(1:Int)),wrap .i64 (x2-(1:Int))),Rc (Rc x4 x1 r5) x3 r6))).bind fun (UA:Int×List U)=>some ((UA.1,UA.2))else none else none else none else none)
include hc h3 h5 hM
theorem O4 {a b:Int}{l:List U}{i j:Int}{m:Nat}(h0:0<=a)(hbl:b<=l.length)(hb:l.length<2^57)(hal:Al Ok l)(hn:(b-a).toNat<n)(h1:a<i)(h2:j<b)(hij:i<=j+1)(hl:∀k,a<k->k<i->¬lt (gI d l a) (gI d l k))(hr:∀k,j<k->k<b->lt (gI d l a) (gI d l k))(hm:(j+1-i).toNat<m):
 ∃r,EM a m ((i,j),l)=some r/\a<r.1/\r.1<=b/\Rp d a b l r.2/\gI d r.2 a=gI d l a/\(∀k,a<k->k<r.1->¬lt (gI d r.2 a) (gI d r.2 k))/\(∀k,r.1<=k->k<b->lt (gI d r.2 a) (gI d r.2 k)):=by
 refine mu (τ:=(Int×Int)×List U) (L:=EM a) (fun p=>a<p.1.1/\p.1.2<b/\p.1.1<=p.1.2+1/\Rp d a b l p.2/\gI d p.2 a=gI d l a/\(∀k,a<k->k<p.1.1->¬lt (gI d p.2 a) (gI d p.2 k))/\(∀k,p.1.2<k->k<b->lt (gI d p.2 a) (gI d p.2 k))) (fun p=>(p.1.2+1-p.1.1).toNat) _ ?_ m ((i,j),l)
  ⟨h1,h2,hij,.refl _ _ _ _,rfl,hl,hr⟩ hm
 rintro m ⟨⟨i,j⟩,D⟩ ⟨i1,i2,i3,i4,i5,i6,i7⟩ aJ;dsimp only at i1 i2 i3 i4 i5 i6 i7 aJ⊢;have hl:=i4.len;have bE:=i4.al hal;rw[hM];refine tB (tJ (L:=E3 a j D) (T:=fun x=>¬lt (gI d D a) (gI d D x)) (i:=i) (j:=j) (fun m x Q k1 k2 ht hf=>?_) (fun m x k1=>?_) i3 (by omega)) fun i'=>?_
 .rw[h3];refine tD (fun _=>tI (by omega) (by omega) (tE (aB d (by omega) (by omega)) (tI (by omega) (by omega) (tE (aB d (by omega) (by omega)) (tM hc (bE.at d (by omega) (by omega)) (bE.at d (by omega) (by omega)) fun r hr=>tN (fun h=>?_) (fun h=>tS (hf fun k=>k (hr.1 h)))))))) (fun h=>by omega);rw[wr (by omega) (by omega)];exact ht fun k=>h (hr.2 k)
 .rw[h3,decide_eq_false (by omega)];rfl
 rintro⟨u1,u2,u3,u4⟩;refine tB (yO (L:=E5 a D i') (T:=fun x=>lt (gI d D a) (gI d D x)) (i:=i') (j:=j) (fun m x Q k1 k2 ht hf=>?_) (fun m x k1=>?_) u2 (by omega)) fun j'=>?_
 .rw[h5];refine tD (fun _=>tI (by omega) (by omega) (tE (aB d (by omega) (by omega)) (tI (by omega) (by omega) (tE (aB d (by omega) (by omega)) (tM hc (bE.at d (by omega) (by omega)) (bE.at d (by omega) (by omega)) fun r hr=>tD (fun h=>?_) (fun h=>tS (hf fun k=>h (hr.2 k)))))))) (fun h=>by omega);rw[wr (by omega) (by omega)];exact ht (hr.1 h)
 .rw[h5,decide_eq_false (by omega)];rfl
 rintro⟨v1,v2,v3,v4⟩;have left:∀k,a<k->k<i'->¬lt (gI d D a) (gI d D k):=fun k k1 k2=>by
  by_cases e:k<i
  .exact i6 k k1 e
  .exact u3 k (by omega) k2
 have right:∀k,j'<k->k<b->lt (gI d D a) (gI d D k):=fun k k1 k2=>by
  by_cases e:j<k
  .exact i7 k e k2
  .exact v3 k k1 (by omega)
 refine tD (fun hgt=>tS ⟨by omega,by omega,i4,i5,left,fun k k1 k2=>right k (by omega) k2⟩) (fun hgt=>?_);have t1:lt (gI d D a) (gI d D i'):=Classical.byContradiction (u4 (by omega));have t2:=v4 (by omega);have hne:i'≠j':=fun e=>t2 (by rw[<-e];exact t1);refine tI (by omega) (by first|omega| (simp only[ay,aQ];omega)) (tE (aB d (by omega) (by first|omega| (simp only[ay,aQ];omega))) ?_);refine tI (by omega) (by first|omega| (simp only[ay,aQ];omega)) (tE (aB d (by omega) (by first|omega| (simp only[ay,aQ];omega))) ?_);refine tI (by omega) (by first|omega| (simp only[ay,aQ];omega)) (tE (aB d (by omega) (by first|omega| (simp only[ay,aQ];omega))) ?_);refine tI (by omega) (by first|omega| (simp only[ay,aQ];omega)) (tE (aB d (by omega) (by first|omega| (simp only[ay,aQ];omega))) ?_);rw[wr (by omega) (by omega),wr (by omega) (by omega)];have sw:∀k,0<=k->gI d (swp d D i' j') k=if k=j' then gI d D i' else if k=i' then gI d D j' else gI d D k:=fun k hk=>dO (by omega) (by omega) (by omega) (by omega) hk
 have sa:gI d (swp d D i' j') a=gI d D a:=by rw[sw a h0,if_neg (by omega),if_neg (by omega)]
 refine aJ ((i'+1,j'-1),swp d D i' j') ⟨by dsimp only;omega,by dsimp only;omega,by dsimp only;omega,i4.swp h0 (by omega) (by omega) (by omega) (by omega) (by omega),sa.trans i5,fun k k1 k2=>?_,fun k k1 k2=>?_⟩ (by dsimp only;omega)
 .dsimp only at k2⊢;rw[sa,sw k (by omega),if_neg (by omega)];by_cases e:k=i'
  .rw[if_pos e];exact t2
  .rw[if_neg e];exact left k k1 (by omega)
 .dsimp only at k1⊢;rw[sa,sw k (by omega)];by_cases e:k=j'
  .rw[if_pos e];exact t1
  .rw[if_neg e,if_neg (by omega)];exact right k (by omega) k2
include hP
theorem auO {a b p:Int}{l:List U}(h0:0<=a)(hbl:b<=l.length)(hb:l.length<2^57)(hal:Al Ok l)(hn:(b-a).toNat+1<n)(h1:a<=p)(h2:p<b):
 ∃r,peq ((),a,b,p,((),())) l=some r/\a<r.1/\r.1<=b/\Rp d a b l r.2/\gI d r.2 a=gI d l p/\(∀k,a<k->k<r.1->¬lt (gI d r.2 a) (gI d r.2 k))/\(∀k,r.1<=k->k<b->lt (gI d r.2 a) (gI d r.2 k)):=by
 rw[hP];refine tI (by omega) (by first|omega| (simp only[ay,aQ];omega)) (tE (aB d (by omega) (by first|omega| (simp only[ay,aQ];omega))) ?_);refine tI (by omega) (by first|omega| (simp only[ay,aQ];omega)) (tE (aB d (by omega) (by first|omega| (simp only[ay,aQ];omega))) ?_);refine tI (by omega) (by first|omega| (simp only[ay,aQ];omega)) (tE (aB d (by omega) (by first|omega| (simp only[ay,aQ];omega))) ?_);refine tI (by omega) (by first|omega| (simp only[ay,aQ];omega)) (tE (aB d (by omega) (by first|omega| (simp only[ay,aQ];omega))) ?_);rw[wr (by omega) (by omega),wr (by omega) (by omega)];have r0:Rp d a b l (swp d l a p):=(Rp.refl d a b l).swp h0 hbl (by omega) (by omega) h1 h2;have hl:=r0.len;have bE:=r0.al hal;refine tB (O4 hc h3 h5 hM (n:=n) (d:=d) (a:=a) (b:=b) (l:=swp d l a p) (i:=a+1) (j:=b-1) (m:=n) h0 (by omega) (by omega) bE (by omega) (by omega) (by omega) (by omega) (fun k k1 k2=>by omega) (fun k k1 k2=>by omega) (by omega)) fun r=>?_;rintro⟨q1,q2,q3,q4,q5,q6⟩;refine tS ⟨q1,q2,r0.trans q3,q4.trans ?_,q5,q6⟩;rw[dO (by omega) (by omega) (by omega) (by omega) h0];by_cases e:a=p
 .rw[if_pos e,e]
 .rw[if_neg e,if_pos rfl]
end
end Pq
end
