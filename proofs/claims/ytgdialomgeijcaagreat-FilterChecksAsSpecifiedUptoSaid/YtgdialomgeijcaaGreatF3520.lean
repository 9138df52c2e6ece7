import Derived.ChangeCalls
import Derived.Deep.DeepHandedRow
import Derived.IntWalk
import Derived.Lib.LaidTab
import Derived.OpenShut
import Derived.ProofKit
import Derived.Test.YtgdialomgeijcaaGreatF3519
import Derived.Test.YtgdialomgeijcaaGreatRows
set_option linter.all false
section
namespace Go.Proofs.YtgdialomgeijcaaGreat.preds
open Go Go.ChangeShapes Go.WideShapes Go.ChangeAt Go.RowKit Aq Sh
set_option maxRecDepth 100000
theorem own:ownKnob Tryz.prog.godebug=none:=by kernel_rfl
theorem u4:Tryz.prog.underlying 4=some .bool:=by kernel_rfl
theorem glob_ok {W:World}:∀g cs,Sh.E.glob g=some cs->Rel (KA W) (fun _=>0) W (.cref cs 0) (.pointer (some (at_ g 0))):=fun g cs hg=>by cases hg
theorem tys_ok:(rty.all fun x=>tyOK R Tryz.prog x.1 x.2)=true:=by kernel_rfl
theorem look_mem {U:Type}:∀{l:List (Nat×U)} {i:Nat} {x:U},_root_.Aq.look l i=some x->(i,x)∈l
 | [],_,_,h=>by cases h
 | (j,y)::l,i,x,h=>by
   unfold _root_.Aq.look at h
   cases hb:Nat.beq j i
   .rw[hb] at h;exact Qb _ (look_mem h)
   .rw[hb] at h
    cases h
    have:=Q6 hb
    subst this
    simp
theorem hty:∀t τ,R.ty t=some τ->tyOK R Tryz.prog t τ=true:=fun t τ h=>Qr.1 tys_ok (t,τ) (look_mem h)
theorem laidOut:laidOutB Tryz.prog=true:=by kernel_rfl
theorem rowed:mapsRowed Tryz.prog=true:=by kernel_rfl
theorem kids:Kids Tryz.prog (· <Tryz.prog.types.size):=kids_rows laidOut rowed
theorem full:((List.range Tryz.prog.types.size).all fun t=>match Tryz.prog.underlying t with|some (.slice e)=>decide (0<Tryz.prog.cellsOf e)|_=>true)=true:=by kernel_rfl
theorem bulkOK (H:Type):Bulk H Rows.uptoBulk Rows.uptoBulkAll where
 one d:=by
  cases d with
  |lit l=>cases l<;>simp[Rows.uptoBulk]
  |_=>simp[Rows.uptoBulk]
 str s:=by simp[Rows.uptoBulk]
 agg l:=by simp[Rows.uptoBulk]
 sl l r:=by simp only[Rows.uptoBulk];omega
 nil:=rfl
 cons d l:=by simp only[Rows.uptoBulkAll]
end Go.Proofs.YtgdialomgeijcaaGreat.preds
end
section
open Go Aq
namespace Pq
variable {U β γ:Type}
theorem tG {c:Bool} {o:Option U} {P:U->Prop} (h:c=true) (k:∃r,o=some r/\P r):∃r,(bif c then o else none)=some r/\P r:=by rw[h];exact k
theorem tI {i:Int} {n:Nat} {o:Option U} {P:U->Prop} (h0:0<=i) (h1:i<n) (k:∃r,o=some r/\P r):∃r,(bif decide (0<=i/\i< ((n:Nat):Int)) then o else none)=some r/\P r:=tG (decide_eq_true ⟨h0,h1⟩) k
theorem tD {p:Prop} [Decidable p] {a b:Option U} {P:U->Prop} (ha:p->∃r,a=some r/\P r) (hb:¬p->∃r,b=some r/\P r):∃r,(bif decide p then a else b)=some r/\P r:=by
 by_cases h:p
 .rw[decide_eq_true h];exact ha h
 .rw[decide_eq_false h];exact hb h
theorem tN {p:Prop} [Decidable p] {a b:Option U} {P:U->Prop} (ha:¬p->∃r,a=some r/\P r) (hb:p->∃r,b=some r/\P r):∃r,(bif !decide p then a else b)=some r/\P r:=by
 by_cases h:p
 .rw[decide_eq_true h];exact hb h
 .rw[decide_eq_false h];exact ha h
theorem tC {c:Bool} {a b:Option U} {P:U->Prop} (ha:c=true->∃r,a=some r/\P r) (hb:c=false->∃r,b=some r/\P r):∃r,(bif c then a else b)=some r/\P r:=by
 cases c
 .exact hb rfl
 .exact ha rfl
theorem tS {a:U} {P:U->Prop} (h:P a):∃r,some a=some r/\P r:=⟨a,rfl,h⟩
theorem tB {o:Option U} {f:U->Option β} {Q:U->Prop} {P:β->Prop} (h:∃x,o=some x/\Q x) (k:∀x,Q x->∃r,f x=some r/\P r):∃r,o.bind f=some r/\P r:=by
 obtain⟨x,e,q⟩:=h
 rw[e];exact k x q
theorem tE {o:Option U} {f:U->Option β} {x:U} {P:β->Prop} (h:o=some x) (k:∃r,f x=some r/\P r):∃r,o.bind f=some r/\P r:=by rw[h];exact k
theorem tW {o:Option U} {P Q:U->Prop} (h:∃r,o=some r/\Q r) (k:∀r,Q r->P r):∃r,o=some r/\P r:=by
 obtain⟨x,e,q⟩:=h
 exact⟨x,e,k x q⟩
theorem mu {τ:Type} {L:Nat->τ->Option β} (Inv:τ->Prop) (tH:τ->Nat) (Post:β->Prop)
 (h:∀m p,Inv p->(∀p',Inv p'->tH p'<tH p->∃r,L m p'=some r/\Post r)->∃r,L (m+1) p=some r/\Post r):∀m p,Inv p->tH p<m->∃r,L m p=some r/\Post r
 |0,p,_,hm=>by omega
 |m+1,p,hp,hm=>h m p hp fun p' hp' hlt=>mu Inv tH Post h m p' hp' (by omega)
theorem wr {i:Int} (h0: -(2^62)<=i) (h:i<=2^62):IntKind.wrap .i64 i=i:=by rw[IntKind.wrap_i64];omega
def gI (d:U) (l:List U) (i:Int):U:=(l[i.toNat]?).getD d
theorem aC (d:U) {l:List U} {i:Int} (h0:0<=i) (h1:i<l.length):idxL l i=some (gI d l i):=by
 unfold idxL gI
 rw[if_pos ⟨h0,h1⟩]
 have:i.toNat<l.length:=by omega
 rw[Qh this];rfl
theorem Pd (d:U) {l:List U} {i:Int} (h0:0<=i) (h1:i<l.length):gI d l i∈l:=by
 unfold gI
 have:i.toNat<l.length:=by omega
 rw[Qh this]
 exact QM _
theorem aA {l:List U} {i:Int} {x:U}:(setL l i x).length=l.length:=by unfold setL;exact List.length_set
theorem tJ {d:U} {l:List U} {i k:Int} {x:U} (h0:0<=i) (h1:i<l.length) (hk:0<=k):gI d (setL l i x) k=if k=i then x else gI d l k:=by
 unfold gI setL
 rw[List.getElem?_set]
 by_cases e:k=i
 .subst e
  rw[if_pos rfl,if_pos rfl,if_pos (by omega)];rfl
 .rw[if_neg e,if_neg (by omega)]
def swp (d:U) (l:List U) (i j:Int):List U:=setL (setL l i (gI d l j)) j (gI d l i)
theorem aT {d:U} {l:List U} {i j:Int}:(swp d l i j).length=l.length:=by unfold swp;rw[aA,aA]
theorem dQ {d:U} {l:List U} {i j k:Int} (h0:0<=i) (h1:i<l.length) (h2:0<=j) (h3:j<l.length) (hk:0<=k):gI d (swp d l i j) k=if k=j then gI d l i else if k=i then gI d l j else gI d l k:=by
 unfold swp
 rw[tJ h2 (by rw[aA];exact h3) hk,tJ h0 h1 hk]
theorem Pe {d:U} {l:List U} {i j:Int} (h0:0<=i) (h1:i<l.length) (h2:0<=j) (h3:j<l.length):(swp d l i j).Perm l:=by
 have a1:i.toNat<l.toArray.size:=by simp;omega
 have a2:j.toNat<l.toArray.size:=by simp;omega
 have:=(Array.swap_perm (xs:=l.toArray) a1 a2).toList
 have e:(l.toArray.swap i.toNat j.toNat a1 a2).toList=swp d l i j:=by
  unfold swp setL gI
  rw[Array.toList_swap]
  simp only[List.size_toArray] at a1 a2
  rw[Qh a1,Qh a2]
  simp
 rw[e] at this
 exact this
structure Rp (d:U) (a b:Int) (l l':List U):Prop where
 len:l'.length=l.length
 out:∀k,0<=k->(k<a\/b<=k)->gI d l' k=gI d l k
 perm:l'.Perm l
 all:∀φ:U->Prop,(∀k,a<=k->k<b->φ (gI d l k))->∀k,a<=k->k<b->φ (gI d l' k)
theorem Rp.refl (d:U) (a b:Int) (l:List U):Rp d a b l l:=⟨rfl,fun _ _ _=>rfl,List.Perm.refl _,fun _ h=>h⟩
theorem Rp.trans {d:U} {a b:Int} {l l' l'':List U} (h:Rp d a b l l') (k:Rp d a b l' l''):Rp d a b l l'':=
 ⟨k.len.trans h.len,fun i h0 h1=>(k.out i h0 h1).trans (h.out i h0 h1),k.perm.trans h.perm,fun φ hφ=>k.all φ (h.all φ hφ)⟩
theorem Rp.swp {d:U} {a b i j:Int} {l l':List U} (h:Rp d a b l l') (ha:0<=a) (hb:b<=l.length) (i0:a<=i) (i1:i<b) (j0:a<=j) (j1:j<b):Rp d a b l (swp d l' i j):=by
 have hl:=h.len
 refine h.trans ⟨aT,fun k k0 k1=>?_,Pe (by omega) (by omega) (by omega) (by omega),fun φ hφ k k0 k1=>?_⟩
 .rw[dQ (by omega) (by omega) (by omega) (by omega) k0,if_neg (by omega),if_neg (by omega)]
 .rw[dQ (by omega) (by omega) (by omega) (by omega) (by omega)]
  split
  .exact hφ i i0 i1
  .split
   .exact hφ j j0 j1
   .exact hφ k k0 k1
theorem Rp.wide {d:U} {a b a' b':Int} {l l':List U} (h:Rp d a b l l') (ha:a'<=a) (hb:b<=b') (h0:0<=a'):Rp d a' b' l l':=by
 refine⟨h.len,fun k k0 k1=>h.out k k0 (by omega),h.perm,fun φ hφ k k0 k1=>?_⟩
 by_cases hk:a<=k/\k<b
 .have:=h.all (fun x=>φ x) (fun i i0 i1=>hφ i (by omega) (by omega)) k hk.1 hk.2
  exact this
 .rw[h.out k (by omega) (by omega)]
  exact hφ k k0 k1
structure Ord (lt:U->U->Prop):Prop where
 asym:∀x y,lt x y->¬lt y x
 neg:∀x y z,¬lt x y->¬lt y z->¬lt x z
theorem Ord.gN {lt:U->U->Prop} (h:Ord lt) (x:U):¬lt x x:=fun k=>h.asym x x k k
theorem Ord.trans {lt:U->U->Prop} (h:Ord lt) {x y z:U} (h1:lt x y) (h2:lt y z):lt x z:=by
 refine Classical.byContradiction fun k=>?_
 exact h.neg x z y k (h.asym y z h2) h1
def Sd (lt:U->U->Prop) (d:U) (a b:Int) (l:List U):Prop:=∀i j,a<=i->i<j->j<b->¬lt (gI d l j) (gI d l i)
theorem Sd.Pf {lt:U->U->Prop} (ho:Ord lt) {d:U} {a b:Int} {l:List U} (h:∀i,a<i->i<b->¬lt (gI d l i) (gI d l (i-1))):Sd lt d a b l:=by
 have key:∀(k:Nat) (i j:Int),a<=i->j=i+1+k->j<b->¬lt (gI d l j) (gI d l i):=by
  intro k
  induction k with
  |zero=>
   intro i j h0 h1 h2
   have:=h j (by omega) h2
   rwa[show j-1=i by omega] at this
  |succ k ih=>
   intro i j h0 h1 h2
   exact ho.neg _ _ _ (h j (by omega) h2) (ih i (j-1) h0 (by omega) (by omega))
 intro i j h0 h1 h2
 exact key (j-i-1).toNat i j h0 (by omega) h2
theorem Sd.pw {lt:U->U->Prop} {d:U} {l:List U} (h:Sd lt d 0 l.length l):l.Pairwise fun x y=>¬lt y x:=by
 rw[List.pairwise_iff_getElem]
 intro i j hi hj hij
 have:=h (i:Int) (j:Int) (by omega) (by omega) (by omega)
 unfold gI at this
 rw[Int.toNat_natCast,Int.toNat_natCast,Qh hi,Qh hj] at this
 exact this
def Al (Ok:U->Prop) (l:List U):Prop:=∀x∈l,Ok x
theorem Rp.al {Ok:U->Prop} {d:U} {a b:Int} {l l':List U} (h:Rp d a b l l') (k:Al Ok l):Al Ok l':=fun x hx=>k x (h.perm.mem_iff.1 hx)
theorem Al.at {Ok:U->Prop} {l:List U} (h:Al Ok l) (d:U) {i:Int} (h0:0<=i) (h1:i<l.length):Ok (gI d l i):=h _ (Pd d h0 h1)
def CmpO (Ok:U->Prop) (lt:U->U->Prop) (K:{β:Type}->U->U->(Bool->Option β)->Option β):Prop:=∀a b,Ok a->Ok b->∃r:Bool,(r=true↔lt a b)/\∀{β:Type} (f:Bool->Option β),K a b f=f r
theorem tM {β:Type} {Ok:U->Prop} {lt:U->U->Prop} {K:{β:Type}->U->U->(Bool->Option β)->Option β} (h:CmpO Ok lt K) {a b:U} {f:Bool->Option β} {P:β->Prop} (ha:Ok a) (hb:Ok b) (k:∀r:Bool,(r=true↔lt a b)->∃s,f (decide (r=true))=some s/\P s):∃s,K a b f=some s/\P s:=by
 obtain⟨r,h1,h2⟩:=h a b ha hb
 have:=k r h1
 rw[Bool.decide_eq_true] at this
 have e:K a b f=f r:=h2 f
 rw[e];exact this
end Pq
end
section
open Go Aq
namespace Pq
variable {U:Type}
def compG (e:U->U->Bool):U->List U->List U
 |_,[]=>[]
 |p,y::l=>bif e y p then compG e y l else y::compG e y l
def comp (e:U->U->Bool):List U->List U
 | []=>[]
 |x::l=>x::compG e x l
theorem Fa (e:U->U->Bool) (y:U):∀(m:List U) (p:U),compG e p (m++[y])=bif e y ((p::m).getLast (by simp)) then compG e p m else compG e p m++[y]
 | [],p=>by
   show (bif e y p then [] else [y])=bif e y p then [] else [y]
   rfl
 |x::m,p=>by
  have ih:=Fa e y m x
  have el:(p::x::m).getLast (by simp)=(x::m).getLast (by simp):=by simp
  rw[el]
  show (bif e x p then compG e x (m++[y]) else x::compG e x (m++[y]))=bif e y ((x::m).getLast (by simp)) then (bif e x p then compG e x m else x::compG e x m) else (bif e x p then compG e x m else x::compG e x m)++[y]
  rw[ih]
  cases e x p<;>cases e y ((x::m).getLast (by simp))<;>rfl
theorem tK (e:U->U->Bool) (d:U) {l:List U} {k:Nat} (h0:0<k) (h1:k<l.length):comp e (l.take (k+1))=bif e (gI d l (k:Int)) (gI d l ((k:Int)-1)) then comp e (l.take k) else comp e (l.take k)++[gI d l (k:Int)]:=by
 have e1:gI d l (k:Int)=l[k]:=by unfold gI;rw[Int.toNat_natCast,Qh h1];rfl
 have e2:gI d l ((k:Int)-1)=l[k-1]'(by omega):=by unfold gI;rw[show ((k:Int)-1).toNat=k-1 by omega,Qh (by omega)];rfl
 rw[e1,e2]
 cases l with
 |nil=>simp at h1
 |cons x l=>
  obtain⟨k,rfl⟩:∃k',k=k'+1:=⟨k-1,by omega⟩
  have hk:k<l.length:=by simpa using h1
  have et:(x::l).take (k+1+1)=x::(l.take k++[l[k]]):=by
   rw[List.take_succ_cons,<-List.take_append_getElem hk]
  rw[et,List.take_succ_cons]
  show x::compG e x (l.take k++[l[k]])=bif e ((x::l)[k+1]) ((x::l)[k+1-1]) then x::compG e x (l.take k) else (x::compG e x (l.take k))++[(x::l)[k+1]]
  rw[Fa]
  have el:(x::l.take k).getLast (by simp)=(x::l)[k+1-1]:=by
   rw[List.getLast_eq_getElem]
   simp only[List.length_cons,Qs,Nat.add_sub_cancel]
   cases k with
   |zero=>simp
   |succ k=>
    simp only[Nat.min_eq_left (Nat.le_of_lt hk),List.getElem_cons_succ,List.getElem_take]
  rw[el]
  show x::(bif e l[k] _ then _ else _)=bif e l[k] _ then _ else _
  cases e l[k] ((x::l)[k+1-1])<;>rfl
theorem Fe {D:List U} {w:Int} {x:U} (h0:0<=w) (h1:w<D.length):(setL D w x).take (w+1).toNat=D.take w.toNat++[x]:=by
 obtain⟨k,rfl⟩:∃k:Nat,w=(k:Int):=⟨w.toNat,by omega⟩
 have hk:k<D.length:=by omega
 rw[show (((k:Nat):Int)+1).toNat=k+1 by omega,Int.toNat_natCast]
 unfold setL
 rw[Int.toNat_natCast]
 rw[<-List.take_append_getElem (by rw[List.length_set];exact hk),List.getElem_set_self,List.take_set_of_le (mF _)]
section
variable {n:Nat} (d:U) {z:U} {e:U->U->Bool} {Ok:U->Prop} {sm:U×U->Option Bool} (hs:∀a b,Ok a->Ok b->sm (a,b)=some (e a b))
 {C9:Int->(List U)->Nat->((Int×Int)×List U)->Option (Int×List U)} {C4:Nat->(Int×List U)->Option ((PUnit×List U)⊕((Int×Int)×List U))} {cpt:Unit×Unit×Unit->List U->Option ((Int×Int)×List U)}
 (h9:∀(x2:Int) (x3:List U) (m:Nat) (x7 x8:Int) (x9:List U),C9 x2 x3 (m+1) ((x7,x8),x9)=
   bif decide (x8< (((Int.toNat (((0:Int)+((x3.length:Int)-(0:Int)))-((0:Int)+x2)):Nat):Int))) then
    bif inJ x8 (((0:Int)+((x3.length:Int)-(0:Int)))-((0:Int)+x2)) then
     (idxL x9 (((0:Int)+x2)+x8)).bind fun (r10:U)=>
     bif inJ (IntKind.wrap .i64 (x8-(1:Int))) (((0:Int)+((x3.length:Int)-(0:Int)))-((0:Int)+x2)) then
      (idxL x9 (((0:Int)+x2)+(IntKind.wrap .i64 (x8-(1:Int))))).bind fun (r11:U)=>
      (sm ((r10,r11))).bind fun (r12:Bool)=>
      bif !r12 then
       bif inJ x8 (((0:Int)+((x3.length:Int)-(0:Int)))-((0:Int)+x2)) then
        (idxL x9 (((0:Int)+x2)+x8)).bind fun (r13:U)=>
        bif decide (0<=x7/\x7< (x9.length:Int)) then
         (idxL x9 x7).bind fun (r14:U)=>
         C9 x2 x3 m (((IntKind.wrap .i64 (x7+(1:Int)),IntKind.wrap .i64 (x8+(1:Int))),setL x9 x7 r13))
        else
         none
       else
        none
      else
       C9 x2 x3 m (((x7,IntKind.wrap .i64 (x8+(1:Int))),x9))
     else
      none
    else
     none
   else
    some ((x7,x9)))
 (h4:∀(m:Nat) (x2:Int) (x3:List U),C4 (m+1) (x2,x3)=
   bif decide (x2< (x3.length:Int)) then
    bif decide (0<=x2/\x2< (x3.length:Int)) then
     (idxL x3 x2).bind fun (r4:U)=>
     bif decide (0<=(IntKind.wrap .i64 (x2-(1:Int)))/\(IntKind.wrap .i64 (x2-(1:Int)))< (x3.length:Int)) then
      (idxL x3 (IntKind.wrap .i64 (x2-(1:Int)))).bind fun (r5:U)=>
      (sm ((r4,r5))).bind fun (r6:Bool)=>
      bif r6 then
       bif inV x2 ((x3.length:Int)-(0:Int)) ((x3.length:Int)-(0:Int)) then
        (C9 x2 x3 n (((x2,(1:Int)),x3))).bind fun (r15:Int×List U)=>
        bif inV r15.1 ((r15.2.length:Int)-(0:Int)) ((r15.2.length:Int)-(0:Int)) then
         bif inV (0:Int) r15.1 (((((clrL r15.2 ((0:Int)+r15.1) ((0:Int)+((r15.2.length:Int)-(0:Int))) z).length:Nat):Int))-(0:Int)) then
          some (.inr ((((0:Int)+(0:Int),(0:Int)+r15.1),clrL r15.2 ((0:Int)+r15.1) ((0:Int)+((r15.2.length:Int)-(0:Int))) z)))
         else
          none
        else
         none
       else
        none
      else
       C4 m ((IntKind.wrap .i64 (x2+(1:Int)),x3))
     else
      none
    else
     none
   else
    some (.inl (((),x3))))
 (hP:∀(x1:List U),cpt (((),((),()))) (x1)=
   bif decide ((x1.length:Int)< (2:Int)) then
    some ((((0:Int),(x1.length:Int)),x1))
   else
    (C4 n (((1:Int),x1))).bind fun (r16:(PUnit×List U)⊕((Int×Int)×List U))=>
    Sum.elim (fun (q17:PUnit×List U)=>
     some ((((0:Int),(q17.2.length:Int)),q17.2)))
     (fun (q18:(Int×Int)×List U)=>
      some (((q18.1.1,q18.1.2),q18.2))) r16)
include d hs h9
theorem Ph {l:List U} {k:Int} {m:Nat} (hk:1<=k) (hkl:k<l.length) (hb:l.length<2^57) (hal:Al Ok l) (h0:l.take k.toNat=comp e (l.take (k.toNat+1))) (hm:l.length<m):
 ∃r,C9 k l m ((k,1),l)=some r/\k<=r.1/\r.1<=l.length/\r.2.length=l.length/\r.2.take r.1.toNat=comp e l:=by
 refine mu (τ:=(Int×Int)×List U) (L:=C9 k l) (fun p=>1<=p.1.2/\p.1.2<=l.length-k/\k<=p.1.1/\p.1.1<=k+p.1.2-1/\p.2.length=l.length/\(∀j,k+p.1.2-1<=j->j<l.length->gI d p.2 j=gI d l j)/\p.2.take p.1.1.toNat=comp e (l.take (k+p.1.2).toNat)) (fun p=>(l.length-p.1.2).toNat) _ ?_ m ((k,1),l)
  ⟨Qj _,by dsimp only;omega,Qj _,by dsimp only;omega,rfl,fun j _ _=>rfl,by rw[show (k+1).toNat=k.toNat+1 by omega];exact h0⟩ (by dsimp only;omega)
 rintro m ⟨⟨w,q⟩,D⟩ ⟨i1,i2,i3,i4,i5,i6,i7⟩ aK
 dsimp only at i1 i2 i3 i4 i5 i6 i7 aK⊢
 rw[h9]
 simp only[Int.zero_add,Int.sub_zero,inJ]
 simp (disch:=omega) only[wr]
 refine tD (fun hq=>?_) (fun hq=>tS ⟨i3,by omega,i5,?_⟩)
 .refine tG (decide_eq_true (by omega)) (tE (aC d (by omega) (by omega)) (tG (decide_eq_true (by omega)) (tE (aC d (by omega) (by omega)) ?_)))
  have g1:gI d D (k+q)=gI d l (k+q):=i6 _ (by omega) (by omega)
  have g2:gI d D (k+(q-1))=gI d l (k+q-1):=by rw[show k+(q-1)=k+q-1 by omega];exact i6 _ (by omega) (by omega)
  rw[g1,g2]
  refine tE (hs _ _ (hal.at d (by omega) (by omega)) (hal.at d (by omega) (by omega))) ?_
  have hct:=tK e d (l:=l) (k:=(k+q).toNat) (by omega) (by omega)
  rw[show (((k+q).toNat:Nat):Int)=k+q by omega,<-i7] at hct
  cases he:e (gI d l (k+q)) (gI d l (k+q-1)) with
  |false=>
   rw[he,cond_false] at hct
   rw[Bool.not_false,cond_true]
   refine tG (decide_eq_true (by omega)) (tE (aC d (by omega) (by omega)) (tI (by omega) (by omega) (tE (aC d (by omega) (by omega)) ?_)))
   rw[g1]
   refine aK ((w+1,q+1),setL D w (gI d l (k+q))) ⟨by dsimp only;omega,by dsimp only;omega,by dsimp only;omega,by dsimp only;omega,by dsimp only;rw[aA,i5],fun j j1 j2=>?_,?_⟩ (by dsimp only;omega)
   .dsimp only at j1⊢
    rw[tJ (by omega) (by omega) (by omega),if_neg (by omega)]
    exact i6 j (by omega) j2
   .dsimp only
    rw[Fe (by omega) (by omega),show (k+(q+1)).toNat=(k+q).toNat+1 by omega,hct]
  |true=>
   rw[he,cond_true] at hct
   rw[Bool.not_true,cond_false]
   refine aK ((w,q+1),D) ⟨by dsimp only;omega,by dsimp only;omega,i3,by dsimp only;omega,i5,fun j j1 j2=>i6 j (by dsimp only at j1;omega) j2,?_⟩ (by dsimp only;omega)
   dsimp only
   rw[show (k+(q+1)).toNat=(k+q).toNat+1 by omega,hct]
 .dsimp only
  rw[i7,QJ (by omega)]
include h4 hP
theorem cptAll {l:List U} (hb:l.length<2^57) (hal:Al Ok l) (hn:l.length<n):
 ∃r,cpt ((),(),()) l=some r/\r.1.1=0/\0<=r.1.2/\r.1.2<=r.2.length/\r.2.take r.1.2.toNat=comp e l:=by
 rw[hP]
 refine tD (fun h2=>tS ⟨rfl,by dsimp only;omega,by dsimp only;omega,?_⟩) (fun h2=>?_)
 .dsimp only
  rw[QJ (by omega)]
  match l,h2 with
  | [],_=>rfl
  | [x],_=>rfl
  |x::y::l,h2=>simp at h2;omega
 refine tB (Q:=fun s=>Sum.elim (fun q:PUnit×List U=>q.2=l/\comp e l=l) (fun q:(Int×Int)×List U=>q.1.1=0/\0<=q.1.2/\q.1.2<=q.2.length/\q.2.take q.1.2.toNat=comp e l) s) ?_ fun s hs'=>?_
 .refine mu (τ:=Int×List U) (L:=C4) (fun p=>1<=p.1/\p.1<=l.length/\p.2=l/\comp e (l.take p.1.toNat)=l.take p.1.toNat) (fun p=>(l.length-p.1).toNat) _ ?_ n (1,l) ⟨Qj _,by dsimp only;omega,rfl,?_⟩ (by dsimp only;omega)
  .rintro m ⟨k,D⟩ ⟨i1,i2,i3,i4⟩ aK
   dsimp only at i1 i2 i3 i4 aK⊢
   subst i3
   rw[h4]
   simp only[Int.zero_add,Int.sub_zero,inV]
   simp (disch:=omega) only[wr]
   refine tD (fun hk=>?_) (fun hk=>tS ⟨rfl,?_⟩)
   .refine tI (by omega) (by omega) (tE (aC d (by omega) (by omega)) (tI (by omega) (by omega) (tE (aC d (by omega) (by omega)) (tE (hs _ _ (hal.at d (by omega) (by omega)) (hal.at d (by omega) (by omega))) ?_))))
    have hct:=tK e d (l:=D) (k:=k.toNat) (by omega) (by omega)
    rw[show (k.toNat:Int)=k by omega] at hct
    cases he:e (gI d D k) (gI d D (k-1)) with
    |true=>
     rw[he,cond_true] at hct
     rw[cond_true]
     refine tG (decide_eq_true (by omega)) ?_
     refine tB (Ph (d:=d) hs h9 (l:=D) (k:=k) i1 hk hb hal (by rw[hct,i4]) hn) fun r=>?_
     rintro⟨r1,r2,r3,r4⟩
     refine tG (decide_eq_true (by omega)) ?_
     have hcl:(clrL r.2 r.1 (r.2.length:Int) z).length=r.2.length:=by
      unfold clrL
      rw[Qc,Qc,Qs,List.length_replicate,QY];omega
     rw[hcl]
     refine tG (decide_eq_true (by omega)) (tS ⟨rfl,by dsimp only;omega,by dsimp only;rw[hcl];omega,?_⟩)
     dsimp only
     unfold clrL
     rw[Rf (by rw[Qs];omega),List.take_take,Nat.min_self]
     exact r4
    |false=>
     rw[he,cond_false] at hct
     rw[cond_false]
     refine aK (k+1,D) ⟨by dsimp only;omega,by dsimp only;omega,rfl,?_⟩ (by dsimp only;omega)
     dsimp only
     rw[show (k+1).toNat=k.toNat+1 by omega,hct,i4]
     have hlt:k.toNat<D.length:=by omega
     have eg:gI d D k=D[k.toNat]:=by unfold gI;rw[Qh hlt];rfl
     rw[eg,List.take_append_getElem hlt]
   .rw[QJ (by omega)] at i4
    exact i4
  .dsimp only
   match l,h2 with
   | [],h2=>simp at h2
   |x::l,_=>rfl
 .rcases s with q|q
  .obtain⟨e1,e2⟩:=hs'
   refine tS ⟨rfl,by dsimp only;omega,by dsimp only;omega,?_⟩
   dsimp only
   rw[QJ (by omega),e1,e2]
  .exact tS hs'
end
end Pq
end
section
open Go Go.Proofs Aq Pq
namespace Sh
def isI (nm:List UInt8) (x:Pred):Bool:=bif x.Op==(6:Int) then x.Name==nm else false
def inR (x:Pred) (v:Int):Bool:=bif decide (v>=x.N) then decide (v<=x.M) else false
def toldS (nm:List UInt8) (l:List Pred) (v:Int):List Bool:=(l.filter (isI nm)).map fun x=>inR x v
def candP (d:Def) (x:Pred):List Int:=(bif (bif decide (x.N>d.Lo) then decide (x.N<=d.Hi) else false) then [x.N] else [])++(bif (bif decide (x.M>=d.Lo) then decide (x.M<d.Hi) else false) then [x.M+1] else [])
def candS (d:Def) (l:List Pred):List Int:=(l.filter (isI d.Name)).flatMap (candP d)
theorem candP_mem {d:Def} {x:Pred} {v:Int}:v∈candP d x↔(v=x.N/\d.Lo<x.N/\x.N<=d.Hi)\/(v=x.M+1/\d.Lo<=x.M/\x.M<d.Hi):=by
 unfold candP
 rw[List.mem_append]
 refine or_congr ?_ ?_
 .by_cases h1:x.N>d.Lo<;>by_cases h2:x.N<=d.Hi<;>simp[h1,h2]<;>first|done| (intro _;omega)|omega
 .by_cases h1:x.M>=d.Lo<;>by_cases h2:x.M<d.Hi<;>simp[h1,h2]<;>first|done| (intro _;omega)|omega
theorem candS_rng {d:Def} {l:List Pred} {v:Int} (h:v∈candS d l):d.Lo<v/\v<=d.Hi:=by
 unfold candS at h
 obtain⟨x,_,hx⟩:=List.mem_flatMap.1 h
 rcases candP_mem.1 hx with ⟨rfl,h1,h2⟩| ⟨rfl,h1,h2⟩<;>omega
theorem inR_iff {x:Pred} {v:Int}:inR x v=true↔x.N<=v/\v<=x.M:=by
 unfold inR
 by_cases h:v>=x.N
 .rw[decide_eq_true h,cond_true,decide_eq_true_iff];omega
 .rw[decide_eq_false h,cond_false];simp;omega
theorem told_bd {d:Def} {l:List Pred} {v:Int} (h1:d.Lo<v) (h2:v<=d.Hi) (h:toldS d.Name l v≠toldS d.Name l (v-1)):v∈candS d l:=by
 unfold toldS at h
 have:∃x∈l.filter (isI d.Name),inR x v≠inR x (v-1):=by
  refine Classical.byContradiction fun hn=>h ?_
  refine QZ fun x hx=>?_
  exact Classical.byContradiction fun hne=>hn ⟨x,hx,hne⟩
 obtain⟨x,hx,hne⟩:=this
 unfold candS
 refine List.mem_flatMap.2 ⟨x,hx,candP_mem.2 ?_⟩
 cases ha:inR x v with
 |true=>
  have ha':=inR_iff.1 ha
  have hb:¬(x.N<=v-1/\v-1<=x.M):=fun k=>hne (by rw[ha,inR_iff.2 k])
  exact .inl (by omega)
 |false=>
  have ha':¬(x.N<=v/\v<=x.M):=fun k=>by rw[inR_iff.2 k] at ha;cases ha
  have hb:x.N<=v-1/\v-1<=x.M:=by
   refine inR_iff.1 ?_
   cases hc:inR x (v-1) with
   |true=>rfl
   |false=>exact absurd (ha.trans hc.symm) hne
  exact .inr (by omega)
def RS (t:Int->List Bool):List Int->List Int
 | []=>[]
 |y::l=>bif t (y-1)==t y then RS t l else y::RS t l
theorem const_run (t:Int->List Bool) (p:Int):∀k:Nat,(∀v,p<v->v<=p+k->t v=t (v-1))->t (p+k)=t p
 |0,_=>by rw[show p+((0:Nat):Int)=p by omega]
 |k+1,h=>by
  rw[h (p+((k+1:Nat):Int)) (by omega) (by omega),show p+((k+1:Nat):Int)-1=p+(k:Int) by omega]
  exact const_run t p k fun v h1 h2=>h v h1 (by omega)
theorem compG_RS {t:Int->List Bool} {hi:Int}:∀(S:List Int) (p:Int),(p::S).Pairwise (· < ·)->(∀x∈S,x<=hi)->(∀v,p<v->v<=hi->t v≠t (v-1)->v∈S)->compG (fun a b=>t a==t b) p S=RS t S
 | [],_,_,_,_=>rfl
 |y::S,p,hs,hh,hb=>by
  have hs1:=List.pairwise_cons.1 hs
  have hs2:=List.pairwise_cons.1 hs1.2
  have hpy:p<y:=hs1.1 y (Qa ..)
  have hc:t (y-1)=t p:=by
   have:=const_run t p (y-1-p).toNat fun v h1 h2=>by
    refine Classical.byContradiction fun hne=>?_
    have hy:=hh y (Qa ..)
    have hm:=hb v h1 (by omega) hne
    rcases P9.1 hm with rfl|hm
    .omega
    .have:=hs2.1 v hm;omega
   rw[show p+(((y-1-p).toNat:Nat):Int)=y-1 by omega] at this
   exact this
  have ih:=compG_RS S y hs1.2 (fun x hx=>hh x (Qb _ hx)) fun v h1 h2 h3=>by
   rcases P9.1 (hb v (by omega) h2 h3) with rfl|h
   .omega
   .exact h
  show (bif t y==t p then compG _ y S else y::compG _ y S)=bif t (y-1)==t y then RS t S else y::RS t S
  rw[ih,hc]
  have:(t y==t p)=(t p==t y):=by
   by_cases h:t y=t p
   .rw[h]
   .rw[beq_eq_false_iff_ne.2 h,beq_eq_false_iff_ne.2 (Ne.symm h)]
  rw[this]
theorem comp_RS {t:Int->List Bool} {hi p:Int} {S:List Int} (h1:(p::S).Pairwise (· < ·)) (h2:∀x∈S,x<=hi) (h3:∀v,p<v->v<=hi->t v≠t (v-1)->v∈S):comp (fun a b=>t a==t b) (p::S)=p::RS t S:=by
 show p::compG _ p S=_
 rw[compG_RS S p h1 h2 h3]
def nxt (last:Int):List Int->Int->Int
 | [],m=>m
 |c::cs,m=>nxt last cs (bif (bif decide (c>last) then decide (c<m) else false) then c else m)
theorem nxt_spec (last:Int):∀(cs:List Int) (m:Int),nxt last cs m<=m/\(∀c∈cs,last<c->nxt last cs m<=c)/\(nxt last cs m=m\/(nxt last cs m∈cs/\last<nxt last cs m))
 | [],m=>⟨Qj _,(fun c hc=>by cases hc),.inl rfl⟩
 |c::cs,m=>by
  have hif:(bif (bif decide (c>last) then decide (c<m) else false) then c else m)=if last<c/\c<m then c else m:=by
   by_cases h1:c>last<;>by_cases h2:c<m<;>simp[h1,h2]<;>intro _<;>omega
  obtain⟨h1,h2,h3⟩:=nxt_spec last cs (if last<c/\c<m then c else m)
  unfold nxt
  rw[hif]
  by_cases hc:last<c/\c<m
  .rw[if_pos hc] at*
   refine⟨by omega,fun x hx hl=>?_,?_⟩
   .rcases P9.1 hx with rfl|hx
    .exact h1
    .exact h2 x hx hl
   .rcases h3 with h3|h3
    .rw[h3];exact .inr ⟨Qa ..,hc.1⟩
    .exact .inr ⟨Qb _ h3.1,h3.2⟩
  .rw[if_neg hc] at*
   refine⟨h1,fun x hx hl=>?_,?_⟩
   .rcases P9.1 hx with rfl|hx
    .omega
    .exact h2 x hx hl
   .rcases h3 with h3|h3
    .exact .inl h3
    .exact .inr ⟨Qb _ h3.1,h3.2⟩
theorem nxt_cons {last m y:Int} {cs S:List Int} (hs:(y::S).Pairwise (· < ·)) (hm:∀x,last<x->(x∈cs↔x∈y::S)) (hy:last<y) (hlt:y<m):nxt last cs m=y:=by
 obtain⟨h1,h2,h3⟩:=nxt_spec last cs m
 have ha:=h2 y ((hm y hy).2 (Qa ..)) hy
 rcases h3 with h3| ⟨h3,h4⟩
 .omega
 .rcases P9.1 ((hm _ h4).1 h3) with h|h
  .exact h
  .have:=(List.pairwise_cons.1 hs).1 _ h;omega
theorem nxt_nil {last m:Int} {cs:List Int} (hm:∀x,last<x->x∉cs):nxt last cs m=m:=by
 obtain⟨h1,h2,h3⟩:=nxt_spec last cs m
 rcases h3 with h3| ⟨h3,h4⟩
 .exact h3
 .exact absurd h3 (hm _ h4)
theorem asc_of {l:List Int} (h:l.Pairwise fun x y=>¬y<x):∀p,(∀y∈l,p<=y)->(∀y∈compG (fun a b=>a==b) p l,p<y)/\(compG (fun a b=>a==b) p l).Pairwise (· < ·)/\∀x,x∈p::compG (fun a b=>a==b) p l↔x∈p::l:=by
 induction l with
 |nil=>intro p _;exact⟨(fun y hy=>by cases hy),.nil,fun x=>Iff.rfl⟩
 |cons z l ih=>
  intro p hp
  have h':=List.pairwise_cons.1 h
  have hpz:=hp z (Qa ..)
  obtain⟨i1,i2,i3⟩:=ih h'.2 z fun y hy=>by have:=h'.1 y hy;omega
  show (∀y∈(bif z==p then compG _ z l else z::compG _ z l),p<y)/\(bif z==p then compG _ z l else z::compG _ z l).Pairwise (· < ·)/\_
  by_cases e:z=p
  .subst e
   have:(z==z)=true:=by simp
   refine⟨by rw[this];exact i1,by rw[this];exact i2,fun x=>?_⟩
   show x∈z::(bif z==z then compG _ z l else z::compG _ z l)↔_
   rw[this,cond_true,i3]
   simp
  .have:(z==p)=false:=by simpa using e
   refine⟨?_,?_,fun x=>?_⟩
   .rw[this]
    intro y hy
    rcases P9.1 hy with rfl|hy
    .omega
    .have:=i1 y hy;omega
   .rw[this]
    exact List.pairwise_cons.2 ⟨i1,i2⟩
   .show x∈p::(bif z==p then compG _ z l else z::compG _ z l)↔_
    rw[this,cond_false,P9,i3,P9 (a:=x) (b:=p)]
theorem comp_asc {l:List Int} (h:l.Pairwise fun x y=>¬y<x):(comp (fun a b=>a==b) l).Pairwise (· < ·)/\∀x,x∈comp (fun a b=>a==b) l↔x∈l:=by
 cases l with
 |nil=>exact⟨.nil,fun x=>Iff.rfl⟩
 |cons z l=>
  have h':=List.pairwise_cons.1 h
  obtain⟨i1,i2,i3⟩:=asc_of h'.2 z fun y hy=>by have:=h'.1 y hy;omega
  exact⟨List.pairwise_cons.2 ⟨i1,i2⟩,i3⟩
end Sh
end
