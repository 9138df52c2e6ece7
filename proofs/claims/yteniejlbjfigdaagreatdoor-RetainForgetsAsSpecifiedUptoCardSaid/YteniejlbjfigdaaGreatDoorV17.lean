/- Part of the proof of a law. -/
import Derived.ChangeShapes
import Derived.IntWalk
import Derived.Test.YteniejlbjfigdaaGreatDoorV14
import Derived.Test.YteniejlbjfigdaaGreatDoorV16
import Derived.WideShapes
set_option linter.all false
set_option linter.unusedSimpArgs false
set_option linter.unusedSectionVars false
section
open Go Go.Proofs Aq
namespace Sh
theorem ze {α:Type} (l:List α) (i:Nat):aK l (i:Int)=l[i]? :=by
 unfold aK
 by_cases h:i<l.length
 ·rw[if_pos ⟨by omega,by omega⟩];simp
 ·rw[if_neg (by omega)];simp;omega
theorem dw {α:Type} {l:List α} {i:Nat} {x:α} (h:l[i]? =some x):aK l (i:Int)=some x:=by rw[ze,h]
theorem lM {α:Type} {l:List α} {i:Nat} {x:α} (h:l[i]? =some x):i<l.length:=by
 rw[List.getElem?_eq_some_iff] at h;exact h.1
theorem eD {α:Type} {l:List α} {i:Nat} {x:α} (h:l[i]? =some x):decide ((i:Int)< ((l.length:Nat):Int))=true:=by
 have:=lM h;simp;omega
theorem BL {α:Type} (l:List α):decide (((l.length:Nat):Int)< ((l.length:Nat):Int))=false:=by simp
theorem dx {i:Nat} (h:i<2^62):IntKind.wrap .i64 ((i:Int)+(1:Int))=((i+1:Nat):Int):=by
 rw[IntKind.wrap_i64];omega
def foldI {α β σ:Type} (step:α→Nat→σ→(σ→β)→β) (fin:σ→β):Nat→List α→σ→β
 |_,[],s=>fin s
 |i,x::l,s=>step x i s fun s=>foldI step fin (i+1) l s
theorem as3 {α β σ:Type} {L:Nat→σ→Int→Option β} {l:List α} (step:α→Nat→σ→(σ→Option β)→Option β) (fin:σ→Option β)
 (hs:∀m (i:Nat) x s,l[i]? =some x→L (m+1) s (i:Int)=step x i s fun s=>L m s ((i+1:Nat):Int)) (hf:∀m s,L (m+1) s ((l.length:Nat):Int)=fin s)
 (hc:∀x (i:Nat) s k k',(∀s,k s=k' s)→step x i s k=step x i s k'):∀(k i m:Nat) (s:σ),i+k=l.length→k<m→L m s (i:Int)=foldI step fin i (l.drop i) s:=by
 intro k
 induction k with
 |zero=>
  intro i m s hi hm
  obtain⟨m,rfl⟩:∃m',m=m'+1:=⟨m-1,by omega⟩
  obtain rfl:i=l.length:=by omega
  rw[hf,List.drop_length];rfl
 |succ k ih=>
  intro i m s hi hm
  obtain⟨m,rfl⟩:∃m',m=m'+1:=⟨m-1,by omega⟩
  have hlt:i<l.length:=by omega
  have hx:l[i]? =some l[i]:=List.getElem?_eq_getElem hlt
  rw[hs m i l[i] s hx,List.drop_eq_getElem_cons hlt]
  exact hc _ _ _ _ _ fun s=>ih (i+1) m s (by omega) (by omega)
theorem Yt {α β:Type} {L:Nat→Int→Option β} {l:List α} (step:α→Nat→Option β→Option β) (fin:Option β)
 (hs:∀m (i:Nat) x,l[i]? =some x→L (m+1) (i:Int)=step x i (L m ((i+1:Nat):Int))) (hf:∀m,L (m+1) ((l.length:Nat):Int)=fin) {m:Nat} (hm:l.length<m):
 L m (0:Int)=foldI (σ:=Unit) (fun x i _ k=>step x i (k ())) (fun _=>fin) 0 l ():=by
 have:=as3 (L:=fun m (_:Unit) i=>L m i) (l:=l) (fun x i _ k=>step x i (k ())) (fun _=>fin) (fun m i x _ h=>hs m i x h) (fun m _=>hf m) (fun x i s k k' h=>by rw[h]) l.length 0 m () (by omega) hm
 simpa using this
theorem Sb {α:Type} {γ:Type} (p:α→Bool) (f:Nat→γ) (z:γ):∀(l:List α) (i:Nat),foldI (σ:=Unit) (fun x i _ (k:Unit→Option γ)=>bif p x then some (f i) else k ()) (fun _=>some z) i l ()=some (match l.findIdx? p with|some j=>f (i+j)|none=>z)
 | [],i=>rfl
 |x::l,i=>by
  show (bif p x then some (f i) else foldI _ _ (i+1) l ())=_
  rw[List.findIdx?_cons]
  cases hp:p x
  ·rw[cond_false,Sb p f z l (i+1)]
   simp only[Bool.false_eq_true,if_false]
   cases l.findIdx? p with
   |none=>rfl
   |some j=>simp only[Option.map_some];rw[Nat.add_right_comm,Nat.add_assoc]
  ·simp
def findD (s:aF) (x:List UInt8):Int:=match s.Defs.findIdx? (fun d=>d.Name==x) with
 |some i=>(i:Int)
 |none=> -1
theorem as4 {n:Nat} {s:aF} {x:List UInt8} (h:s.Defs.length<n) (hb:s.Defs.length<2^62):Ec n (s,x)=some (findD s x):=by
 have:=Yt (L:=fun m i=>Ky n s x m i) (l:=s.Defs) (fun d i r=>bif d.Name==x then some (.inr (i:Int)) else r) (some (.inl ()))
  (fun m i d hd=>by
    have hlt:=lM hd
    rw[agi,eD hd,dw hd,dx (by omega)];rfl)
  (fun m=>by rw[agi,BL];rfl) h
 rw[arZ,this,Sb (fun d:Def=>d.Name==x) (fun i=>(Sum.inr (i:Int):PUnit⊕Int)) (.inl ())]
 unfold findD
 cases s.Defs.findIdx? (fun d=>d.Name==x) with
 |none=>rfl
 |some j=>simp;rfl
theorem ahd {n:Nat} {l:List (List UInt8)} {x:List UInt8} (h:l.length<n) (hb:l.length<2^62):yA n (l,x)=some (l.any (· ==x)):=by
 have:=Yt (L:=fun m i=>Kv n l x m i) (l:=l) (fun d i r=>bif d==x then some (.inr true) else r) (some (.inl ()))
  (fun m i d hd=>by
    have hlt:=lM hd
    rw[af9,eD hd,dw hd,dx (by omega)];rfl)
  (fun m=>by rw[af9,BL];rfl) h
 rw[arR,this,Sb (fun d:List UInt8=>d==x) (fun i=>(Sum.inr true:PUnit⊕Bool)) (.inl ())]
 cases hf:l.findIdx? (fun d=>d==x) with
 |none=>
  rw[List.findIdx?_eq_none_iff] at hf
  have:l.any (· ==x)=false:=by rw[List.any_eq_false];intro y hy;simpa using hf y hy
  rw[this];rfl
 |some j=>
  obtain⟨hj,h2,_⟩:=List.findIdx?_eq_some_iff_getElem.1 hf
  have:l.any (· ==x)=true:=by rw[List.any_eq_true];exact⟨l[j],List.getElem_mem hj,h2⟩
  rw[this];rfl
theorem rU {τ β:Type} {L:Nat→τ→Option β} (Inv:τ→Prop) (mu:τ→Nat) (Post:β→Prop)
 (h:∀m p,Inv p→(∀p',Inv p'→mu p'<mu p→∃r,L m p'=some r∧Post r)→∃r,L (m+1) p=some r∧Post r):∀m p,Inv p→mu p<m→∃r,L m p=some r∧Post r
 |0,p,_,hm=>by omega
 |m+1,p,hp,hm=>h m p hp fun p' hp' hlt=>rU Inv mu Post h m p' hp' (by omega)
theorem eX {α:Type} {P:α→Prop} {c:Bool} {a b:Option α} (ha:c=true→∃r,a=some r∧P r) (hb:c=false→∃r,b=some r∧P r):∃r,(bif c then a else b)=some r∧P r:=by
 cases c
 ·exact hb rfl
 ·exact ha rfl
theorem bg {α β:Type} {P:β→Prop} {o:Option α} {f:α→Option β} (h:∃x,o=some x∧∃r,f x=some r∧P r):∃r,o.bind f=some r∧P r:=by
 obtain⟨x,hx,h⟩:=h
 rw[hx];exact h
theorem cB {α:Type} {P:α→Prop} {a:α} (h:P a):∃r,some a=some r∧P r:=⟨a,rfl,h⟩
theorem ahe {α:Type} {l:List α} {i:Int} (h1:0≤i) (h2:decide (i< ((l.length:Nat):Int))=true):∃x,aK l i=some x:=by
 obtain⟨j,rfl⟩:=Int.eq_ofNat_of_zero_le h1
 rw[ze]
 exact⟨l[j]'(by simp at h2;omega),List.getElem?_eq_getElem _⟩
theorem KP {α:Type} {c:Bool} {o:Option α} {d:α} (h:c=true→∃x,o=some x):∃x,jc c o d=some x:=by
 cases c
 ·exact⟨d,rfl⟩
 ·exact h rfl
theorem as5 {n:Nat} {e:Entry} (h:e.aI.length<n) (hb:e.aI.length<2^62):∃b,Ak n e=some b:=by
 obtain⟨r,hr,_⟩:=rU (L:=fun m i=>yQ n e m i) (fun i=>0≤i∧i≤e.aI.length) (fun i=>(e.aI.length-i).toNat) (fun _=>True)
  (fun m i hi ih=>by
    rw[XY]
    refine eX (fun hc=> ?_) (fun _=>cB trivial)
    have hc':decide (i< ((e.aI.length:Nat):Int))=true:=by
     revert hc;cases decide (i< ((e.aI.length:Nat):Int))<;>simp
    obtain⟨x,hx⟩:=ahe hi.1 hc'
    refine bg ⟨x,hx, ?_⟩
    rw[hx]
    obtain⟨y,hy⟩:=KP (c:= !(decide ((((x.Name.length:Nat):Int))> ((300:Int))))) (o:=some x) (d:=(⟨[],(0:Int),(0:Int),[]⟩:Attr)) (fun _=>⟨x,rfl⟩)
    refine bg ⟨y,hy, ?_⟩
    refine eX (fun _=>cB trivial) (fun _=> ?_)
    have h3:=of_decide_eq_true hc'
    rw[IntKind.wrap_i64]
    have e2:(i+1+9223372036854775808)% 18446744073709551616-9223372036854775808=i+1:=by omega
    rw[e2]
    exact ih _ ⟨by omega,by omega⟩ (by omega)) n (0:Int) ⟨by omega,by omega⟩ (by simpa using h)
 rw[af3,hr]
 cases r with
 |inl q=>exact⟨_,rfl⟩
 |inr q=>exact⟨_,rfl⟩
end Sh
end
section
open Go Go.Proofs Aq
namespace Sh
end Sh
end
section
open Go Go.Proofs Aq
namespace Sh
def Yu (l:List Attr) (x:List UInt8):Option Attr:=l.find? fun a=>a.Name==x
mutual
def ahf (l:List Attr):Pred→Bool
 | ⟨op,name,n,m,s,subs⟩=>
   if op=1 then true else if op=2 then ahg l subs else if op=3 then anyS l subs else if op=4 then !anyS l subs else
   if op=5 then (Yu l name).isSome else
   if op=6 then (match Yu l name with|some a=>a.Kind==(1:Int)&& decide (a.N≥n)&& decide (a.N≤m)|none=>false) else
   if op=7 then (match Yu l name with|some a=>a.Kind==(2:Int)&& a.S==s|none=>false) else false
def ahg (l:List Attr):List Pred→Bool
 | []=>true
 |p::ps=>ahf l p&& ahg l ps
def anyS (l:List Attr):List Pred→Bool
 | []=>false
 |p::ps=>ahf l p||anyS l ps
end
mutual
def KQ:Pred→Nat
 | ⟨_,_,_,_,_,subs⟩=>Fj subs+1
def Fj:List Pred→Nat
 | []=>0
 |p::ps=>KQ p+Fj ps
end
end Sh
end
section
open Go Go.Proofs Aq
namespace Sh
end Sh
end
section
open Go Go.Proofs Aq
namespace Sh
theorem u6 {α β σ:Type} {L:Nat→σ→Int→Option β} {l:List α} (hs:∀m (i:Nat) x s,l[i]? =some x→(∀s,∃r,L m s ((i+1:Nat):Int)=some r)→∃r,L (m+1) s (i:Int)=some r) (hf:∀m s (i:Nat),l.length≤i→∃r,L (m+1) s (i:Int)=some r):
 ∀(k i m:Nat) (s:σ),l.length≤i+k→k<m→∃r,L m s (i:Int)=some r:=by
 intro k
 induction k with
 |zero=>
  intro i m s hi hm
  obtain⟨m,rfl⟩:∃m',m=m'+1:=⟨m-1,by omega⟩
  exact hf m s i (by omega)
 |succ k ih=>
  intro i m s hi hm
  obtain⟨m,rfl⟩:∃m',m=m'+1:=⟨m-1,by omega⟩
  by_cases h:l.length≤i
  ·exact hf m s i h
  ·exact hs m i _ s (List.getElem?_eq_getElem (by omega)) fun s=>ih (i+1) m s (by omega) (by omega)
theorem eT {α:Type} {l:List α} {i:Nat} (h:l.length≤i):decide ((i:Int)< ((l.length:Nat):Int))=false:=by simp;omega
def pJ (s:aF) (n:Nat):Prop:=s.Defs.length<n∧s.Defs.length<2^62∧∀d∈s.Defs,d.Name.length<n∧d.Name.length<2^62∧d.Words.length<n∧d.Words.length<2^62∧∀w∈d.Words,w.length<n∧w.length<2^62
theorem ahh {n:Nat} {x:List UInt8} (h:x.length<n) (hb:x.length<2^62) (hn:6<n):∃b:Bool,Am n x=some b:=by
 obtain⟨r,hr⟩:=u6 (L:=fun m (_:Unit) i=>yT n x m i) (l:=x)
  (fun m i c _ hc ih=>by
    have hlt:=lM hc
    show∃r,yT n x (m+1) (i:Int)=some r
    rw[aga,eD hc,dw hc,dx (by omega),cond_true,Option.bind_some]
    cases (bif !(bif decide ((((c.toNat:Nat):Int))≥((97:Int))) then decide ((((c.toNat:Nat):Int))≤((122:Int))) else false) then bif (i:Int)==((0:Int)) then true else !(bif bif decide ((((c.toNat:Nat):Int))≥((48:Int))) then decide ((((c.toNat:Nat):Int))≤((57:Int))) else false then true else (((c.toNat:Nat):Int))==((95:Int))) else false)
    ·exact ih ()
    ·exact⟨_,rfl⟩)
  (fun m _ i hi=>by
    show∃r,yT n x (m+1) (i:Int)=some r
    rw[aga,eT hi];exact⟨_,rfl⟩) x.length 0 n () (by omega) h
 have hr':yT n x n (0:Int)=some r:=hr
 rw[arS,hr']
 cases r with
 |inl q=>
  obtain⟨b,hb'⟩:=KP (c:=bif decide ((((x.length:Nat):Int))≥((1:Int))) then decide ((((x.length:Nat):Int))≤((40:Int))) else false) (o:=yA n (([[(97:UInt8),(108:UInt8),(108:UInt8)],[(97:UInt8),(110:UInt8),(100:UInt8)],[(104:UInt8),(97:UInt8),(115:UInt8)],[(105:UInt8),(110:UInt8)],[(110:UInt8),(111:UInt8),(116:UInt8)],[(111:UInt8),(114:UInt8)]],x))) (d:=false) (fun _=>⟨_,ahd (show 6<n from hn) (show 6<2^62 by omega)⟩)
  rw[Option.bind_some]
  show∃b,Option.bind (jc _ _ _) _=some b
  rw[hb']
  exact⟨_,rfl⟩
 |inr q=>exact⟨q,rfl⟩
theorem as6 {n:Nat} {l:List (List UInt8)} (h:l.length<n) (hb:l.length<2^62) (hw:∀w∈l,w.length<n∧w.length<2^62) (hn:6<n):∃e:Int,D8 n l=some e:=by
 rw[arT]
 cases (bif decide ((((l.length:Nat):Int))< ((1:Int))) then true else decide ((((l.length:Nat):Int))> ((50:Int))))
 ·obtain⟨r,hr⟩:=u6 (L:=fun m (_:Unit) i=>yU n l m i) (l:=l)
   (fun m i c _ hc ih=>by
     have hlt:=lM hc
     show∃r,yU n l (m+1) (i:Int)=some r
     obtain⟨b,hb'⟩:=ahh (hw c (List.mem_of_getElem? hc)).1 (hw c (List.mem_of_getElem? hc)).2 hn
     rw[agb,eD hc,dw hc,dx (by omega),cond_true,Option.bind_some,hb']
     cases b
     ·exact⟨_,rfl⟩
     ·exact ih ())
   (fun m _ i hi=>by
     show∃r,yU n l (m+1) (i:Int)=some r
     rw[agb,eT hi];exact⟨_,rfl⟩) l.length 0 n () (by omega) h
  have hr':yU n l n (0:Int)=some r:=hr
  rw[cond_false,hr',Option.bind_some]
  cases r with
  |inr q=>exact⟨q,rfl⟩
  |inl q=>
   obtain⟨r,hr2⟩:=u6 (L:=fun m (_:Unit) i=>yV n l m (i+1)) (l:=l.tail)
    (fun m i c _ hc ih=>by
      have hc':l[i+1]? =some c:=by rw[List.getElem?_tail] at hc;exact hc
      have hlt:=lM hc'
      show∃r,yV n l (m+1) ((i:Int)+1)=some r
      have ei:(i:Int)+1=((i+1:Nat):Int):=by omega
      have e0:IntKind.wrap .i64 (((i+1:Nat):Int)-(1:Int))=(i:Int):=by rw[IntKind.wrap_i64];omega
      have hi0:l[i]? =some l[i]:=List.getElem?_eq_getElem (by omega)
      rw[ei,agc,eD hc',dw hc',dx (by omega),e0,dw hi0,cond_true,Option.bind_some,Option.bind_some]
      cases (Go.Op.bytesLess c l[i]||c==l[i])
      ·have:=ih ()
       have e1:(((i+1:Nat):Int))+1=((i+1+1:Nat):Int):=by omega
       simp only[e1] at this
       exact this
      ·exact⟨_,rfl⟩)
    (fun m _ i hi=>by
      show∃r,yV n l (m+1) ((i:Int)+1)=some r
      have ei:(i:Int)+1=((i+1:Nat):Int):=by omega
      rw[ei,agc,eT (by rw[List.length_tail] at hi;omega)];exact⟨_,rfl⟩) l.length 0 n () (by rw[List.length_tail];omega) h
   have hr2':yV n l n (1:Int)=some r:=hr2
   rw[Sum.elim_inl,hr2',Option.bind_some]
   cases r with
   |inl q=>exact⟨0,rfl⟩
   |inr q=>exact⟨q,rfl⟩
 ·exact⟨_,rfl⟩
theorem jq {α:Type} {c:Bool} {a b:Option α} (ha:∃r,a=some r) (hb:∃r,b=some r):∃r,(bif c then a else b)=some r:=by
 cases c
 ·exact hb
 ·exact ha
theorem as7 {n:Nat} {d:Def} {x:List UInt8} (h:d.Name.length<n∧d.Name.length<2^62∧d.Words.length<n∧d.Words.length<2^62∧∀w∈d.Words,w.length<n∧w.length<2^62) (hn:6<n):∃e:Int,D9 n (d,x)=some e:=by
 obtain⟨b,hb⟩:=ahh h.1 h.2.1 hn
 obtain⟨e,he⟩:=as6 h.2.2.1 h.2.2.2.1 h.2.2.2.2 hn
 rw[arV,hb]
 show∃e:Int,(bif !b then some ((5:Int)) else _)=some e
 refine jq ⟨_,rfl⟩ (jq ⟨_,rfl⟩ (jq (jq ⟨_,rfl⟩ (jq ⟨_,rfl⟩ ⟨_,rfl⟩)) (jq (jq ⟨_,rfl⟩ ?_) ⟨_,rfl⟩)))
 rw[he];exact⟨e,rfl⟩
theorem ahi {n:Nat} {s:aF} (h:pJ s n) (hn:6<n):∃e:Int,Ap n s=some e:=by
 obtain⟨h1,h2,h3⟩:=h
 obtain⟨b,hb⟩:=KP (c:= !(bif decide (s.gq< ((1:Int))) then true else decide (s.gq> ((32:Int))))) (o:=D7 n s.iG) (d:=false) (fun _=>by rw[arQ];exact⟨_,rfl⟩)
 obtain⟨r,hr⟩:=u6 (L:=fun m (x:List UInt8) i=>yX n s m (x,i)) (l:=s.Defs)
  (fun m i d x hd ih=>by
    have hlt:=lM hd
    show∃r,yX n s (m+1) (x,(i:Int))=some r
    obtain⟨e,he⟩:=as7 (x:=x) (h3 d (List.mem_of_getElem? hd)) hn
    rw[agd,eD hd,dw hd,dx (by omega),cond_true,Option.bind_some,he]
    show∃r,(bif e !=(0:Int) then _ else _)=some r
    exact jq ⟨_,rfl⟩ (ih _))
  (fun m x i hi=>by
    show∃r,yX n s (m+1) (x,(i:Int))=some r
    rw[agd,eT hi];exact⟨_,rfl⟩) s.Defs.length 0 n [] (by omega) h1
 have hr':yX n s n ([],(0:Int))=some r:=hr
 rw[arW]
 show∃e:Int,Option.bind (jc _ _ _) _=some e
 rw[hb]
 show∃e:Int,(bif _ then some ((1:Int)) else _)=some e
 refine jq ⟨_,rfl⟩ (jq ⟨_,rfl⟩ ?_)
 rw[hr',Option.bind_some]
 cases r with
 |inl q=>exact⟨0,rfl⟩
 |inr q=>exact⟨q,rfl⟩
theorem as8 {n:Nat} {s:aF} {k:Int} (h:pJ s n):∃b:Bool,D6 n (s,k)=some b:=by
 obtain⟨h1,h2,h3⟩:=h
 obtain⟨r,hr⟩:=u6 (L:=fun m (_:Unit) i=>yS n s k m i) (l:=s.Defs)
  (fun m i d _ hd ih=>by
    have hlt:=lM hd
    obtain⟨w1,w2,w3,w4,w5⟩:=h3 d (List.mem_of_getElem? hd)
    show∃r,yS n s k (m+1) (i:Int)=some r
    obtain⟨r,hr⟩:=u6 (L:=fun m (_:Unit) j=>yR n s k (i:Int) d m j) (l:=d.Words)
     (fun m j w _ hw ih=>by
       have hlt:=lM hw
       show∃r,yR n s k (i:Int) d (m+1) (j:Int)=some r
       rw[af6,eD hw,dw hw,dx (by omega),cond_true,Option.bind_some]
       exact jq ⟨_,rfl⟩ (ih ()))
     (fun m _ j hj=>by
       show∃r,yR n s k (i:Int) d (m+1) (j:Int)=some r
       rw[af6,eT hj];exact⟨_,rfl⟩) d.Words.length 0 n () (by omega) w3
    have hr':yR n s k (i:Int) d n (0:Int)=some r:=hr
    rw[af7,eD hd,dw hd,dx (by omega),Option.bind_some,hr']
    refine jq (jq ⟨_,rfl⟩ ?_) ⟨_,rfl⟩
    cases r with
    |inl q=>exact ih ()
    |inr q=>exact⟨_,rfl⟩)
  (fun m _ i hi=>by
    show∃r,yS n s k (m+1) (i:Int)=some r
    rw[af7,eT hi];exact⟨_,rfl⟩) s.Defs.length 0 n () (by omega) h1
 have hr':yS n s k n (0:Int)=some r:=hr
 rw[arP,hr',Option.bind_some]
 cases r with
 |inl q=>exact⟨_,rfl⟩
 |inr q=>exact⟨q,rfl⟩
end Sh
end
section
open Go Go.Proofs Aq
namespace Sh
end Sh
end
section
open Go Go.Proofs Aq
namespace Sh
end Sh
end
section
open Go Go.Proofs Aq
namespace Sh
end Sh
end
section
open Go Go.Proofs Aq
namespace Sh
def ahj (l:List Event) (n:Nat):Prop:=l.length<n∧l.length<2^62∧∀x∈l,x.aI.length<n∧x.aI.length<2^62
theorem as9 {n:Nat} {l:List Event} {k:Int} (h:ahj l n):∃b:Bool,yx n (l,k)=some b:=by
 obtain⟨h1,h2,h3⟩:=h
 obtain⟨r,hr⟩:=u6 (L:=fun m (_:Unit) i=>tL n l k m i) (l:=l)
  (fun m i x _ hx ih=>by
    have hlt:=lM hx
    obtain⟨a1,a2⟩:=h3 x (List.mem_of_getElem? hx)
    show∃r,tL n l k (m+1) (i:Int)=some r
    rw[RH,eD hx,dw hx,dx (by omega)]
    refine jq ?_ ⟨_,rfl⟩
    rw[Option.bind_some,Option.bind_some]
    obtain⟨b,hb⟩:=as5 (n:=n) (e:=⟨0,0,0,0,0,0,0,x.Vec,x.aI⟩) a1 a2
    rw[hb]
    show∃r,(bif !b then _ else _)=some r
    exact jq ⟨_,rfl⟩ (ih ()))
  (fun m _ i hi=>by
    show∃r,tL n l k (m+1) (i:Int)=some r
    rw[RH,eT hi];exact⟨_,rfl⟩) l.length 0 n () (by omega) h1
 have hr':tL n l k n (0:Int)=some r:=hr
 rw[af5,hr',Option.bind_some]
 cases r with
 |inl q=>exact⟨_,rfl⟩
 |inr q=>exact⟨q,rfl⟩
end Sh
end
section
open Go Go.Proofs Aq
namespace Sh
theorem ata {n:Nat} {b:Book} {d:Int} (h:b.Rows.length<n) (hb:b.Rows.length<2^62):∃r:Bool,Ea n (b,d)=some r:=by
 have:=Yt (L:=fun m i=>Kw n b d m i) (l:=b.Rows) (fun x i r=>bif x.Entry.ID==d then some (.inr true) else r) (some (.inl ()))
  (fun m i x hx=>by
    have hlt:=lM hx
    rw[agf,eD hx,dw hx,dx (by omega)];rfl)
  (fun m=>by rw[agf,BL];rfl) h
 rw[arX,this,Sb (fun x:Row=>x.Entry.ID==d) (fun i=>(Sum.inr true:PUnit⊕Bool)) (.inl ())]
 cases b.Rows.findIdx? (fun x:Row=>x.Entry.ID==d)<;>exact⟨_,rfl⟩
theorem atb {n:Nat} {l:List Int} (h:l.length<n) (hb:l.length<2^62):∃r:Bool,Eb n l=some r:=by
 obtain⟨r,hr⟩:=u6 (L:=fun m (_:Unit) i=>yY n l m i) (l:=l)
  (fun m i x _ hx ih=>by
    have hlt:=lM hx
    show∃r,yY n l (m+1) (i:Int)=some r
    rw[agh,eD hx,dw hx,dx (by omega)]
    obtain⟨z,hz⟩:=KP (c:= !(decide (x< ((-1000:Int))))) (o:=some x) (d:=(0:Int)) (fun _=>⟨_,rfl⟩)
    simp only[cond_true,Option.bind_some,hz]
    exact jq ⟨_,rfl⟩ (ih ()))
  (fun m _ i hi=>by
    show∃r,yY n l (m+1) (i:Int)=some r
    rw[agh,eT hi];exact⟨_,rfl⟩) l.length 0 n () (by omega) (by omega)
 have hr':yY n l n (0:Int)=some r:=hr
 rw[arY,hr',Option.bind_some]
 cases r<;>exact⟨_,rfl⟩
theorem atc {n:Nat} {d:Def} {a:Attr} (h:d.Words.length<n) (hb:d.Words.length<2^62):∃r:Int,wz n (d,a)=some r:=by
 rw[ar0,ahd h hb]
 exact jq ⟨_,rfl⟩ (jq (jq ⟨_,rfl⟩ (jq ⟨_,rfl⟩ ⟨_,rfl⟩)) (jq ⟨_,rfl⟩ (jq ⟨_,rfl⟩ ⟨_,rfl⟩)))
theorem atd {s:aF} {x:List UInt8} (h:¬findD s x<0):∃(i:Nat) (d:Def),findD s x=(i:Int)∧s.Defs[i]? =some d:=by
 unfold findD at h⊢
 cases hf:s.Defs.findIdx? (fun d=>d.Name==x) with
 |none=>rw[hf] at h;exact absurd (by decide) h
 |some i=>
  obtain⟨hi,_⟩:=List.findIdx?_eq_some_iff_getElem.mp hf
  exact⟨i,s.Defs[i],rfl,List.getElem?_eq_getElem hi⟩
theorem ate {n:Nat} {s:aF} {l:List Attr} (hs:pJ s n) (h:l.length<n) (hb:l.length<2^62):∃r:Int,Ed n (s,l)=some r:=by
 obtain⟨s1,s2,s3⟩:=hs
 obtain⟨r,hr⟩:=u6 (L:=fun m (_:Unit) i=>tN n s l m i) (l:=l)
  (fun m i x _ hx ih=>by
    have hlt:=lM hx
    have ih':∃r,tN n s l m ((i+1:Nat):Int)=some r:=ih ()
    show∃r,tN n s l (m+1) (i:Int)=some r
    rw[agj,eD hx,dw hx,dx (by omega)]
    simp only[cond_true,Option.bind_some]
    rw[as4 s1 s2]
    show∃r,(bif decide (findD s x.Name<0) then some (Sum.inr (5:Int)) else _)=some r
    by_cases hf:findD s x.Name<0
    ·rw[decide_eq_true hf];exact⟨_,rfl⟩
    obtain⟨j,d,hj,hd⟩:=atd hf
    rw[decide_eq_false hf,hj,dw hd]
    have hv:∃v:Int,wz n (d,x)=some v:=by
     obtain⟨_,_,w1,w2,_⟩:=s3 d (List.mem_of_getElem? hd)
     exact atc w1 w2
    obtain⟨v,hv⟩:=hv
    have tail:∃r,((wz n (d,x)).bind fun (eB:Int)=>bif eB !=(0:Int) then some (Sum.inr eB) else tN n s l m ((i+1:Nat):Int))=some r:=by
     rw[hv];exact jq ⟨_,rfl⟩ ih'
    show∃r,(bif decide ((i:Int)>0) then _ else _)=some r
    cases i with
    |zero=>exact tail
    |succ k=>
     have hk:k<l.length:=by omega
     have hy:l[k]? =some l[k]:=List.getElem?_eq_getElem hk
     have hw:IntKind.wrap .i64 (((k+1:Nat):Int)-(1:Int))=((k:Nat):Int):=by
      rw[show (((k+1:Nat):Int)-(1:Int))=((k:Nat):Int) by omega]
      rw[IntKind.wrap_i64];omega
     rw[decide_eq_true (show ((k+1:Nat):Int)>0 by omega),hw,dw hy]
     show∃r,(bif _ then some (Sum.inr (6:Int)) else _)=some r
     exact jq ⟨_,rfl⟩ tail)
  (fun m _ i hi=>by
    show∃r,tN n s l (m+1) (i:Int)=some r
    rw[agj,eT hi];exact⟨_,rfl⟩) l.length 0 n () (by omega) (by omega)
 have hr':tN n s l n (0:Int)=some r:=hr
 rw[ar1,hr',Option.bind_some]
 cases r<;>exact⟨_,rfl⟩
def jF (v:List Int) (a:List Attr):Prop:=v.length≤40∧a.length≤20∧∀x∈a,x.Name.length≤300∧x.S.length≤300
def BM (e:Entry) (n:Nat):Prop:=e.Vec.length<n∧e.Vec.length<2^62∧e.aI.length<n∧e.aI.length<2^62∧jF e.Vec e.aI
theorem ahk {n:Nat} {s:aF} {e:Entry} (hs:pJ s n) (h:BM e n):∃r:Int,Au n (s,e)=some r:=by
 obtain⟨h1,h2,h3,h4,_⟩:=h
 obtain⟨b,hb⟩:=atb h1 h2
 obtain⟨r,hr⟩:=ate hs h3 h4
 rw[ar2,hb,hr]
 exact jq ⟨_,rfl⟩ (jq ⟨_,rfl⟩ (jq ⟨_,rfl⟩ ⟨_,rfl⟩))
theorem atf {n:Nat} {b:Book} {d:Int} (h:b.Rows.length<n) (hb:b.Rows.length<2^62):∃r:Int,Av n (b,d)=some r:=by
 obtain⟨r,hr⟩:=u6 (L:=fun m (s:Int) i=>tO n b d m (s,i)) (l:=b.Rows)
  (fun m i x s hx ih=>by
    have hlt:=lM hx
    show∃r,tO n b d (m+1) (s,(i:Int))=some r
    rw[X0,eD hx,dw hx,dx (by omega)]
    simp only[cond_true,Option.bind_some]
    exact jq (ih _) (ih _))
  (fun m s i hi=>by
    show∃r,tO n b d (m+1) (s,(i:Int))=some r
    rw[X0,eT hi];exact⟨_,rfl⟩) b.Rows.length 0 n 0 (by omega) (by omega)
 have hr':tO n b d n (0,0)=some r:=hr
 rw[agk,hr'];exact⟨_,rfl⟩
end Sh
end
section
open Go Go.Proofs Aq
namespace Sh
theorem bs {α β:Type} {o:Option α} {a:α} {f:α→Option β} {r:Option β} (h:o=some a) (k:f a=r):o.bind f=r:=by
 rw[h];exact k
mutual
theorem atg:∀p:Pred,(pre p).length=KQ p
 | ⟨op,name,n,m,s,subs⟩=>by simp only[pre,KQ,List.length_cons,ahl subs]
theorem ahl:∀l:List Pred,(mW l).length=Fj l
 | []=>rfl
 |p::l=>by simp only[mW,Fj,List.length_append,atg p,ahl l]
end
end Sh
end
section
open Go Go.Proofs Aq
namespace Sh
theorem KR (a b:List UInt8):eH R .str a b=(a==b):=rfl
theorem ahm (x y:List UInt8):∀m:List (List UInt8×Bool),iZ (eH R Ty.str) y (kP (eH R Ty.str) x true m)=if y=x then some true else iZ (eH R Ty.str) y m
 | []=>by
   show (bif eH R .str y x then some true else none)=_
   rw[KR]
   by_cases e:y=x
   ·rw[if_pos e,e];simp
   ·have h:(y==x)=false:=by simpa using e
    rw[if_neg e,h];rfl
 | (a,v)::m=>by
   have ih:=ahm x y m
   show iZ (eH R Ty.str) y (bif eH R .str x a then (x,true)::m else (a,v)::kP (eH R Ty.str) x true m)=if y=x then some true else (bif eH R .str y a then some v else iZ (eH R Ty.str) y m)
   rw[KR,KR]
   by_cases h:x=a
   ·subst h
    rw[beq_self_eq_true,cond_true]
    show (bif eH R .str y x then some true else iZ (eH R Ty.str) y m)=_
    rw[KR]
    by_cases e:y=x
    ·subst e;simp
    ·have h:(y==x)=false:=by simpa using e
     rw[if_neg e,h];rfl
   ·have hx:(x==a)=false:=by simpa using h
    rw[hx,cond_false]
    show (bif eH R .str y a then some v else iZ (eH R Ty.str) y (kP (eH R Ty.str) x true m))=_
    rw[ih,KR]
    by_cases e:y=a
    ·subst e
     have:¬y=x:=fun e=>h e.symm
     simp[this]
    ·have h2:(y==a)=false:=by simpa using e
     rw[h2];rfl
def KS (m:List (List UInt8×Bool)) (met:List (List UInt8)):Prop:=∀y:List UInt8,nG false (iZ (eH R Ty.str) y m)=met.contains y
theorem KS.nil:KS [] []:=fun _=>rfl
theorem KS.add {m:List (List UInt8×Bool)} {met:List (List UInt8)} (h:KS m met) (x:List UInt8):KS (kP (eH R Ty.str) x true m) (met++[x]):=fun y=>by
 have h1:nG false (iZ (eH R Ty.str) y (kP (eH R Ty.str) x true m))=nG false (if y=x then some true else iZ (eH R Ty.str) y m):=congrArg (nG false) (ahm x y m)
 have h2:nG false (if y=x then some true else iZ (eH R Ty.str) y m)=(met++[x]).contains y:=by
  by_cases e:y=x
  ·rw[if_pos e,e];simp[nG]
  ·have h3:=h y
   rw[if_neg e]
   refine h3.trans ?_
   simp[e]
 exact h1.trans h2
end Sh
end
section
open Go Go.Proofs Aq
namespace Sh
theorem Sc {a k:Nat} (h:a<2^30) (hk:k≤2^12):bC a k=true:=by
 unfold bC
 have h1:a*k≤2^30*2^12:=Nat.mul_le_mul (Nat.le_of_lt h) hk
 have e:(2:Nat)^30*2^12≤2^47:=by decide
 rw[Bool.and_eq_true,decide_eq_true_iff,decide_eq_true_iff]
 exact⟨by omega,by omega⟩
theorem Sd {α:Type} {l:List α} {i:Nat} (h:i<l.length):decide (0≤(i:Int)∧(i:Int)< ((l.length:Nat):Int))=true:=decide_eq_true ⟨by omega,by omega⟩
theorem ahn {α:Type} {c:Bool} {x d:α}:jc c (some x) d=some (bif c then x else d):=by cases c<;>rfl
def u7 (id pK commit:Int) (r:Row):Row:=if r.Entry.ID=id∧r.Entry.From=pK∧r.dF=0∧r.Entry.dJ<commit then ⟨r.Entry,commit⟩ else r
theorem set_mid {α:Type} (a:List α) (x y:α) (b:List α):mh (a++x::b) (a.length:Int) y=a++y::b:=by
 unfold mh
 rw[show ((a.length:Int)).toNat=a.length from rfl,List.set_append_right _ _ (Nat.le_refl _),Nat.sub_self];rfl
theorem aho {n:Nat} {rows:List Row} {id pK commit:Int} (h:rows.length<n) (hb:rows.length<2^30):yB n (rows,(id,(pK,commit)))=some (rows.map (u7 id pK commit)):=by
 have key:∀(b a:List Row) (m:Nat),a.length+b.length=rows.length→b.length<m→EL n id pK commit m ((a.length:Int),a++b)=some ((),a++b.map (u7 id pK commit)):=by
  intro b
  induction b with
  |nil=>
   intro a m hl hm
   obtain⟨m,rfl⟩:∃m',m=m'+1:=⟨m-1,by simp at hm;omega⟩
   rw[agl,List.append_nil,BL];simp
  |cons x b ih=>
   intro a m hl hm
   obtain⟨m,rfl⟩:∃m',m=m'+1:=⟨m-1,by simp at hm;omega⟩
   simp only[List.length_cons] at hl hm
   have hx:(a++x::b)[a.length]? =some x:=by simp
   have hin:=Sd (lM hx)
   have ih':=fun y=>ih (a++[y]) m (by simp;omega) (by omega)
   have e0:∀y,(((a++[y]).length:Nat):Int)=((a.length+1:Nat):Int):=fun y=>by simp
   rw[agl,eD hx,cond_true,hin,cond_true]
   refine bs (dw hx) ?_
   have imp:∀b:Bool,GX b true=true:=fun b=>by cases b<;>rfl
   have hw:∀(c:Bool) (d:Row),jc c (aK (a++x::b) ((a.length:Nat):Int)) d=some (bif c then x else d):=fun c d=>by rw[dw hx];exact ahn
   rw[imp,cond_true]
   refine bs (hw _ _) ?_
   rw[imp,cond_true]
   refine bs (hw _ _) ?_
   rw[imp,cond_true]
   refine bs (hw _ _) ?_
   have hset:mh (a++x::b) ((a.length:Nat):Int) (⟨x.Entry,commit⟩:Row)=a++[(⟨x.Entry,commit⟩:Row)]++b:=by rw[set_mid];simp
   by_cases c1:x.Entry.ID=id
   ·have e1:(x.Entry.ID==id)=true:=by simpa using c1
    simp only[e1,cond_true]
    by_cases c2:x.Entry.From=pK
    ·have e2:(x.Entry.From==pK)=true:=by simpa using c2
     simp only[e2,cond_true]
     by_cases c3:x.dF=0
     ·have e3:(x.dF==(0:Int))=true:=by simpa using c3
      simp only[e3,cond_true]
      by_cases c4:x.Entry.dJ<commit
      ·rw[decide_eq_true c4,cond_true]
       refine bs (dw hx) ?_
       rw[dx (by omega),hset,←e0,ih']
       simp[u7,c1,c2,c3,c4]
      ·rw[decide_eq_false c4,cond_false,dx (by omega),show a++x::b=a++[x]++b by simp,←e0 x,ih']
       simp[u7,c1,c2,c3,c4]
     ·have e3:(x.dF==(0:Int))=false:=by simpa using c3
      simp only[e3,cond_false]
      rw[dx (by omega),show a++x::b=a++[x]++b by simp,←e0 x,ih']
      simp[u7,c3]
    ·have e2:(x.Entry.From==pK)=false:=by simpa using c2
     simp only[e2,cond_false]
     rw[dx (by omega),show a++x::b=a++[x]++b by simp,←e0 x,ih']
     simp[u7,c2]
   ·have e1:(x.Entry.ID==id)=false:=by simpa using c1
    simp only[e1,cond_false]
    rw[dx (by omega),show a++x::b=a++[x]++b by simp,←e0 x,ih']
    simp[u7,c1]
 rw[ar4,Sc hb (by omega),cond_true]
 exact bs (key rows [] n (by simp) h) rfl
theorem ahp {i:Nat} (h:0<i) (hb:i<2^62):IntKind.wrap .i64 ((i:Int)-(1:Int))=((i-1:Nat):Int):=by
 rw[IntKind.wrap_i64];omega
theorem ahq {α:Type} {l:List α} {i:Int} {x y:α} (h:y∈mh l i x):y∈l∨y=x:=by
 unfold mh at h
 exact List.mem_or_eq_of_mem_set h
theorem Yv {α:Type} (l:List α) (i:Int) (x:α):(mh l i x).length=l.length:=by unfold mh;simp
theorem ath {n:Nat} {b:Book} {id i:Int} {x:Row} (hx:aK b.Rows i=some x):∀(k m:Nat) (out:List Row),k<out.length→k<m→k<2^62→(∀r∈out,r∈b.Rows)→
 ∃(k':Nat) (out':List Row),Kz n b id i m ((k:Int),out)=some ((k':Int),out')∧k'<out'.length∧out'.length=out.length∧∀r∈out',r∈b.Rows:=by
 intro k
 induction k with
 |zero=>
  intro m out hk hm hb ho
  obtain⟨m,rfl⟩:∃m',m=m'+1:=⟨m-1,by omega⟩
  exact⟨0,out,by rw[agm];rfl,hk,rfl,ho⟩
 |succ k ih=>
  intro m out hk hm hb ho
  obtain⟨m,rfl⟩:∃m',m=m'+1:=⟨m-1,by omega⟩
  have hk1:k<out.length:=by omega
  have hy:aK out ((k:Nat):Int)=some out[k]:=by rw[ze,List.getElem?_eq_getElem hk1]
  have hz:aK out (((k+1:Nat)):Int)=some out[k+1]:=by rw[ze,List.getElem?_eq_getElem hk]
  have hym:out[k]∈out:=List.getElem_mem hk1
  generalize out[k]=y at hy hym
  generalize out[k+1]=z at hz
  have hw:IntKind.wrap .i64 (((k+1:Nat):Int)-(1:Int))=((k:Nat):Int):=by rw[ahp (by omega) hb];rfl
  rw[agm,decide_eq_true (by omega),cond_true,hw,Sd hk1,cond_true]
  by_cases c:y.Entry.From>x.Entry.From
  ·obtain⟨k',out',h1,h2,h3,h4⟩:=ih m (mh out ((k+1:Nat):Int) y) (by rw[Yv];exact hk1) (by omega) (by omega) (fun r hr=>by
    rcases ahq hr with h|h
    ·exact ho r h
    ·rw[h];exact ho y hym)
   refine⟨k',out', ?_,h2,by rw[h3,Yv],h4⟩
   refine bs hy (bs hx ?_)
   rw[decide_eq_true c,cond_true]
   refine bs hy ?_
   rw[Sd hk,cond_true]
   exact bs hz h1
  ·refine⟨k+1,out, ?_,hk,rfl,ho⟩
   refine bs hy (bs hx ?_)
   rw[decide_eq_false c,cond_false]
theorem ahr {n:Nat} {b:Book} {id:Int} (h:b.Rows.length<n) (hb:b.Rows.length<2^29):∃l:List Row,rJ n (b,id)=some l∧l.length≤b.Rows.length∧∀r∈l,r∈b.Rows:=by
 have key:∀(k i m:Nat) (out:List Row),i+k=b.Rows.length→k<m→out.length≤i→(∀r∈out,r∈b.Rows)→∃q:PUnit×List Row,Bz n b id m (((),(i:Int)),out)=some q∧q.2.length≤b.Rows.length∧∀r∈q.2,r∈b.Rows:=by
  intro k
  induction k with
  |zero=>
   intro i m out hi hm ho hr
   obtain⟨m,rfl⟩:∃m',m=m'+1:=⟨m-1,by omega⟩
   exact⟨((),out),by rw[agn,decide_eq_false (by omega)];rfl,by show out.length≤_;omega,hr⟩
  |succ k ih=>
   intro i m out hi hm ho hr
   obtain⟨m,rfl⟩:∃m',m=m'+1:=⟨m-1,by omega⟩
   have hlt:i<b.Rows.length:=by omega
   have hx:aK b.Rows (i:Int)=some b.Rows[i]:=by rw[ze,List.getElem?_eq_getElem hlt]
   have hxm:b.Rows[i]∈b.Rows:=List.getElem_mem hlt
   generalize b.Rows[i]=x at hx hxm
   have hw:∀(c:Bool) (d:Row),jc c (aK b.Rows ((i:Nat):Int)) d=some (bif c then x else d):=fun c d=>by rw[hx];exact ahn
   have next:∀out':List Row,out'.length≤i+1→(∀r∈out',r∈b.Rows)→∃q:PUnit×List Row,Bz n b id m (((),IntKind.wrap .i64 ((i:Int)+(1:Int))),out')=some q∧q.2.length≤b.Rows.length∧∀r∈q.2,r∈b.Rows:=fun out' h1 h2=>by
    rw[dx (by omega)];exact ih (i+1) m out' (by omega) (by omega) h1 h2
   rw[agn,decide_eq_true (by omega),cond_true]
   refine bg ⟨x,hx, ?_⟩
   refine bg ⟨_,hw _ _, ?_⟩
   refine eX (fun _=> ?_) (fun _=>next out (by omega) hr)
   refine bg ⟨x,hx, ?_⟩
   rw[Sc (show out.length+[x].length<2^30 by simp;omega) (by omega),cond_true]
   obtain⟨k',out',h1,h2,h3,h4⟩:=ath (n:=n) (b:=b) (id:=id) hx out.length n (out++[x]) (by simp) (by omega) (by omega) (fun r hr'=>by
    rcases List.mem_append.1 hr' with h|h
    ·exact hr r h
    ·simp at h;rw[h];exact hxm)
   refine bg ⟨_,h1, ?_⟩
   refine bg ⟨x,hx, ?_⟩
   dsimp only
   rw[Sd h2,cond_true]
   refine bg ⟨out'[k'],by rw[ze,List.getElem?_eq_getElem h2], ?_⟩
   refine next _ (by rw[Yv,h3];simp;omega) (fun r hr'=> ?_)
   rcases ahq hr' with h|h
   ·exact h4 r h
   ·rw[h];exact hxm
 obtain⟨l,h1,h2,h3⟩:=key b.Rows.length 0 n [] (by omega) h (by simp) (by simp)
 exact⟨l.2,by rw[ar6];exact bs h1 rfl,h2,h3⟩
end Sh
end
section
open Go Go.Proofs Aq
namespace Sh
def kS (n:Nat) (c:Int) (r:Row):Prop:=(r.dF=0∨(1≤r.dF∧r.dF≤c))∧BM r.Entry n
structure BI (n:Nat) (s:aF) (b:Book):Prop where
 schema:b.aF=s
 commit:b.aH=((b.dn.length:Nat):Int)
 days:b.dn.length≤2^30
 rows:b.Rows.length≤65536
 row:∀r∈b.Rows,kS n b.aH r
theorem kS.le {n:Nat} {c c':Int} {r:Row} (h:kS n c r) (hc:c≤c'):kS n c' r:=⟨h.1.imp id fun ⟨a,b⟩=>⟨a,by omega⟩,h.2⟩
def Si (e:Event) (n:Nat):Prop:=e.Vec.length<n∧e.Vec.length<2^62∧e.aI.length<n∧e.aI.length<2^62
def KT (e:Event) (n:Nat):Prop:=e.Vec.length<n∧e.Vec.length<2^62∧e.aI.length<n∧e.aI.length<2^62∧jF e.Vec e.aI
theorem ahs {n:Nat} {c:Int} {l:List Row} (h:∀r∈l,kS n c r) (id pK:Int) (hc:1≤c):∀r∈l.map (u7 id pK c),kS n c r:=by
 intro r hr
 obtain⟨x,hx,rfl⟩:=List.mem_map.1 hr
 unfold u7
 split
 ·exact⟨.inr ⟨hc,Int.le_refl _⟩,(h x hx).2⟩
 ·exact h x hx
theorem wN {α:Type} {l:List α} {i:Nat} (h:i<l.length):∃x,aK l (i:Int)=some x∧x∈l:=⟨l[i],by rw[ze,List.getElem?_eq_getElem h],List.getElem_mem h⟩
theorem Fp {a b:Nat} (h:a+b<2^62):IntKind.wrap .i64 ((((a:Nat):Int))+(((b:Nat):Int)))=((a+b:Nat):Int):=by
 rw[IntKind.wrap_i64];omega
theorem Fq {α:Type} {P:α→Prop} {a k:Nat} {o:Option α} (ho:∃r,o=some r∧P r) (h:a<2^31) (hk:k≤2^12:=by omega):∃r,(bif bC a k then o else none)=some r∧P r:=by
 have:bC a k=true:=by
  unfold bC
  have h1:a*k≤2^31*2^12:=Nat.mul_le_mul (Nat.le_of_lt h) hk
  have e:(2:Nat)^31*2^12≤2^47:=by decide
  rw[Bool.and_eq_true,decide_eq_true_iff,decide_eq_true_iff]
  exact⟨by omega,by omega⟩
 rw[this];exact ho
theorem Sj {α:Type} {a k:Nat} {o:Option α} (h:a<2^30) (hk:k≤2^12:=by omega):(bif bC a k then o else none)=o:=by
 rw[Sc h hk];rfl
def BP (n:Nat) (s:aF) (r:aU):Prop:=BI n s r.B
theorem ati {n:Nat} {b:Book} {e:Event} {l:List Row} {to:List bQ} {more:Entry} (hn:2^20<n) (hl:l.length≤65536) (hlt:to.length=l.length) (hlr:∀r∈l,BM r.Entry n) (hc:1≤e.aH):
 ∀(k i m:Nat) (ver:Int) (rows added:List Row),i+k=l.length→k<m→rows.length≤65536→(∀r∈rows,kS n e.aH r)→added.length≤i→(∀r∈added,kS n e.aH r)→
 ∃q:Int×(List Row)×List Row,pE n b e l to more m (ver,(rows,(added,(i:Int))))=some q∧q.2.1.length=rows.length∧(∀r∈q.2.1,kS n e.aH r)∧q.2.2.length≤l.length∧∀r∈q.2.2,kS n e.aH r:=by
 intro k
 induction k with
 |zero=>
  intro i m ver rows added hi hm h1 h2 h3 h4
  obtain⟨m,rfl⟩:∃m',m=m'+1:=⟨m-1,by omega⟩
  exact⟨_,by rw[X3,decide_eq_false (by omega)];rfl,rfl,h2,by show added.length≤_;omega,h4⟩
 |succ k ih=>
  intro i m ver rows added hi hm h1 h2 h3 h4
  obtain⟨m,rfl⟩:∃m',m=m'+1:=⟨m-1,by omega⟩
  obtain⟨x,hx,hxm⟩:=wN (l:=l) (i:=i) (by omega)
  obtain⟨d,hd,_⟩:=wN (l:=to) (i:=i) (by omega)
  have aht:=fun pK=>aho (n:=n) (rows:=rows) (id:=e.ID) (pK:=pK) (commit:=e.aH) (by omega) (by omega)
  have nx:∀(ver:Int) (rows' qE:List Row),rows'.length=rows.length→(∀r∈rows',kS n e.aH r)→qE.length≤i+1→(∀r∈qE,kS n e.aH r)→
   ∃q:Int×(List Row)×List Row,pE n b e l to more m (ver,(rows',(qE,IntKind.wrap .i64 ((i:Int)+(1:Int)))))=some q∧q.2.1.length=rows.length∧(∀r∈q.2.1,kS n e.aH r)∧q.2.2.length≤l.length∧∀r∈q.2.2,kS n e.aH r:=fun ver rows' qE k1 k2 k3 k4=>by
   rw[dx (by omega)]
   have:=ih (i+1) m ver rows' qE (by omega) (by omega) (by omega) k2 k3 k4
   rw[k1] at this;exact this
  have hadd:∀(y:Row),kS n e.aH y→∀r∈added++[y],kS n e.aH r:=fun y hy r hr=>by
   rcases List.mem_append.1 hr with h|h
   ·exact h4 r h
   ·simp at h;rw[h];exact hy
  have grow:∀(c:Bool) (rows':List Row) (ver Sl f t:Int),rows'.length=rows.length→(∀r∈rows',kS n e.aH r)→∃q:Int×(List Row)×List Row,(bif c then
        (aK to (i:Int)).bind fun (kR:bQ)=>
        (aK to (i:Int)).bind fun (fC:bQ)=>
        bif bC (added.length+([(⟨(⟨x.Entry.ID,Sl,x.Entry.dY,x.Entry.fQ,kR.from_,fC.to,e.aH,x.Entry.Vec,x.Entry.aI⟩:Entry),(0:Int)⟩:Row)].length)) 112 then
         pE n b e l to more m ((Sl,(rows',(added++[(⟨(⟨x.Entry.ID,Sl,x.Entry.dY,x.Entry.fQ,kR.from_,fC.to,e.aH,x.Entry.Vec,x.Entry.aI⟩:Entry),(0:Int)⟩:Row)],Go.IntKind.wrap Go.IntKind.i64 ((i:Int)+((1:Int)))))))
        else
         none
   else
    pE n b e l to more m ((ver,(rows',(added,Go.IntKind.wrap Go.IntKind.i64 ((i:Int)+((1:Int))))))))=some q∧q.2.1.length=rows.length∧(∀r∈q.2.1,kS n e.aH r)∧q.2.2.length≤l.length∧∀r∈q.2.2,kS n e.aH r:=by
   intro c rows' ver Sl f t k1 k2
   refine eX (fun _=> ?_) (fun _=>nx _ _ _ k1 k2 (by omega) h4)
   refine bg ⟨d,hd, ?_⟩
   refine bg ⟨d,hd, ?_⟩
   refine Fq (nx _ _ _ k1 k2 (by simp;omega) (hadd _ ⟨.inl rfl,hlr x hxm⟩)) (by simp;omega)
  rw[X3,decide_eq_true (by omega),cond_true]
  refine bg ⟨x,hx, ?_⟩
  refine bg ⟨d,hd, ?_⟩
  refine eX (fun _=> ?_) (fun _=> ?_)
  ·refine bg ⟨d,hd, ?_⟩
   refine eX (fun _=>nx _ _ _ rfl h2 (by omega) h4) (fun _=> ?_)
   refine bg ⟨_,aht _, ?_⟩
   refine bg ⟨d,hd, ?_⟩
   refine bg ⟨d,hd, ?_⟩
   exact grow _ _ _ _ 0 0 (by simp) (ahs h2 _ _ hc)
  ·refine bg ⟨_,aht _, ?_⟩
   refine bg ⟨d,hd, ?_⟩
   refine bg ⟨d,hd, ?_⟩
   exact grow _ _ _ _ 0 0 (by simp) (ahs h2 _ _ hc)
theorem KU {n:Nat} {s:aF} {b:Book} {e:Event} {l:List Row} {to:List bQ} {more:Entry} (hn:2^20<n) (hs:pJ s n) (hb:BI n s b) (hl:l.length≤65536) (hlt:to.length=l.length) (hlr:∀r∈l,BM r.Entry n)
 (hm:BM more n) (hc:e.aH=b.aH+1) (hc2:e.aH≤2^30):∃r:aU,rH n (b,(e,(l,(to,more))))=some r∧BP n s r:=by
 have hcl:=hb.commit
 have Yw:=hb.rows
 have hdl:b.dn.length<2^30:=by omega
 have hc1:1≤e.aH:=by omega
 obtain⟨v,hv⟩:=atf (n:=n) (b:=b) (d:=e.ID) (by omega) (by omega)
 obtain⟨⟨ver,rows,added⟩,h1,h2,h3,h4,h5⟩:=ati (b:=b) (more:=more) hn hl hlt hlr hc1 l.length 0 n v b.Rows [] (by omega) (by omega) Yw (fun r hr=>(hb.row r hr).le (by omega)) (by simp) (by simp)
 dsimp only at h2 h3 h4 h5
 have fin:∀qE:List Row,qE.length≤65537→(∀r∈qE,kS n e.aH r)→∃r:aU,(bif decide ((Go.IntKind.wrap Go.IntKind.i64 ((((rows.length:Nat):Int))+(((qE.length:Nat):Int))))> ((65536:Int))) then
       some ((⟨b,(2:Int)⟩:aU))
  else
   bif bC (((0:Nat))+b.dn.length) 8 then
    bif bC ((([]++b.dn).length)+([e.Day].length)) 8 then
     bif bC (((0:Nat))+rows.length) 112 then
      bif bC ((([]++rows).length)+qE.length) 112 then
       some ((⟨(⟨b.aF,e.aH,e.Day,([]++b.dn)++[e.Day],([]++rows)++qE⟩:Book),(0:Int)⟩:aU))
      else
       none
     else
      none
    else
     none
   else
    none)=some r∧BP n s r:=by
  intro qE k1 k2
  rw[Fp (by omega)]
  refine eX (fun _=>cB (show BI n s b from hb)) (fun hx=> ?_)
  have hx':rows.length+qE.length≤65536:=by
   have:=of_decide_eq_false hx;omega
  refine Fq (Fq (Fq (Fq ?_ (by simp;omega)) (by simp;omega)) (by simp;omega)) (by simp;omega)
  refine cB ?_
  show BI n s _
  exact⟨hb.schema,by simp;omega,by simp;omega,by simp;omega,fun r hr=>by
   simp only[List.nil_append,List.mem_append] at hr
   rcases hr with h|h
   ·exact h3 r h
   ·exact k2 r h⟩
 rw[X4]
 refine bg ⟨v,hv, ?_⟩
 refine bg ⟨_,h1, ?_⟩
 dsimp only
 refine eX (fun _=> ?_) (fun _=>fin added (by omega) h5)
 obtain⟨er,her⟩:=ahk (n:=n) (s:=s) (e:=⟨more.ID,Go.IntKind.wrap Go.IntKind.i64 (ver+((1:Int))),more.dY,more.fQ,more.From,more.To,more.dJ,more.Vec,more.aI⟩) hs hm
 rw[hb.schema]
 refine bg ⟨er,her, ?_⟩
 refine eX (fun _=>cB (show BI n s b from hb)) (fun _=> ?_)
 refine Fq ?_ (by simp;omega)
 have:=fin (added++[(⟨(⟨more.ID,Go.IntKind.wrap Go.IntKind.i64 (ver+((1:Int))),more.dY,more.fQ,more.From,more.To,more.dJ,more.Vec,more.aI⟩:Entry),(0:Int)⟩:Row)]) (by simp;omega) (fun r hr=>by
  rcases List.mem_append.1 hr with h|h
  ·exact h5 r h
  ·simp at h;rw[h];exact⟨.inl rfl,hm⟩)
 rw[hb.schema] at this
 exact this
theorem atj {n:Nat} {s:aF} {b:Book} {e:Event} (hn:2^20<n) (hs:pJ s n) (hb:BI n s b) (he:KT e n) (hc:e.aH=b.aH+1) (hc2:e.aH≤2^30):∃r:aU,Aw n (b,e)=some r∧BP n s r:=by
 have hr:=hb.rows
 obtain⟨h,hh⟩:=ata (n:=n) (b:=b) (d:=e.ID) (by omega) (by omega)
 rw[X5]
 refine bg ⟨h,hh, ?_⟩
 refine eX (fun _=>cB (show BI n s b from hb)) (fun _=> ?_)
 obtain⟨er,her⟩:=ahk (n:=n) (s:=s) (e:=⟨e.ID,(1:Int),e.dY,e.Day,e.Until,(1048577:Int),e.aH,e.Vec,e.aI⟩) hs he
 rw[hb.schema]
 refine bg ⟨er,her, ?_⟩
 refine eX (fun _=>cB (show BI n s b from hb)) (fun _=> ?_)
 obtain⟨r,h1,h2⟩:=KU (l:=[]) (to:=[]) (more:=⟨e.ID,(1:Int),e.dY,e.Day,e.Until,(1048577:Int),e.aH,e.Vec,e.aI⟩) hn hs hb (by simp) rfl (by simp) he hc hc2
 exact bg ⟨r,h1,cB h2⟩
theorem Yx {n:Nat} {l:List Row} (h:l≠[]) (hb:l.length<2^62):∃x:Int,sZ n l=some x:=by
 have hp:0<l.length:=List.length_pos_iff.2 h
 obtain⟨x,hx,_⟩:=wN (l:=l) (i:=l.length-1) (by omega)
 exact⟨x.Entry.To,by rw[agp,ahp hp hb];exact bs hx rfl⟩
theorem Yy {L:Nat→List bQ→Int→Option (List bQ)} {l:List Row} (hl:l.length≤65536) (hs:∀m (i:Nat) (acc:List bQ),i<l.length→acc.length=i→∃d,L (m+1) acc (i:Int)=L m (acc++[d]) ((i+1:Nat):Int)) (hf:∀m acc,L (m+1) acc ((l.length:Nat):Int)=some acc) {n:Nat} (hn:l.length<n):∃to:List bQ,L n [] (0:Int)=some to∧to.length=l.length:=by
 have key:∀(k i m:Nat) (acc:List bQ),i+k=l.length→k<m→acc.length=i→∃to:List bQ,L m acc (i:Int)=some to∧to.length=l.length:=by
  intro k
  induction k with
  |zero=>
   intro i m acc hi hm ha
   obtain⟨m,rfl⟩:∃m',m=m'+1:=⟨m-1,by omega⟩
   obtain rfl:i=l.length:=by omega
   exact⟨acc,hf _ _,ha⟩
  |succ k ih=>
   intro i m acc hi hm ha
   obtain⟨m,rfl⟩:∃m',m=m'+1:=⟨m-1,by omega⟩
   obtain⟨d,hd⟩:=hs m i acc (by omega) ha
   rw[hd]
   exact ih (i+1) m _ (by omega) (by omega) (by simp[ha])
 exact key l.length 0 n [] (by omega) hn rfl
theorem Yz {n:Nat} {s:aF} {b:Book} {l:List Row} (hb:BI n s b) (hl:∀r∈l,r∈b.Rows):∀r∈l,BM r.Entry n:=fun r hr=>(hb.row r (hl r hr)).2
theorem atm {n:Nat} {s:aF} {b:Book} {e:Event} {l:List Row} (hn:2^20<n) (hs:pJ s n) (hb:BI n s b) (he:KT e n) (hc:e.aH=b.aH+1) (hc2:e.aH≤2^30) (hne:l≠[]) (hl:l.length≤65536) (hlr:∀r∈l,r∈b.Rows):∃r:aU,qx n (b,(e,l))=some r∧BP n s r:=by
 have hp:0<l.length:=List.length_pos_iff.2 hne
 obtain⟨x,hx,hxm⟩:=wN (l:=l) (i:=0) hp
 obtain⟨t,ht⟩:=Yx (n:=n) hne (by omega)
 obtain⟨t',ht'⟩:=KP (c:= !(decide (e.From< ((0:Int))))) (o:=sZ n l) (d:=(0:Int)) (fun _=>⟨t,ht⟩)
 obtain⟨to,h1,h2⟩:=Yy (L:=fun m acc i=>wH n b e l x m (acc,i)) (n:=n) hl (fun m i acc hi ha=>by
  obtain⟨y,hy,_⟩:=wN (l:=l) (i:=i) hi
  refine⟨⟨y.Entry.From,oO y.Entry.To (imax (imax e.From x.Entry.From) y.Entry.From)⟩, ?_⟩
  show wH n b e l x (m+1) (acc,(i:Int))=_
  rw[X6,decide_eq_true (by omega),cond_true]
  refine bs hy ?_
  rw[dx (by omega)];exact Sj (by simp;omega))
  (fun m acc=>by
    show wH n b e l x (m+1) (acc,((l.length:Nat):Int))=_
    rw[X6,BL];rfl) (by omega)
 obtain⟨r,h3,h4⟩:=KU (l:=l) (to:=to) (more:=⟨x.Entry.ID,x.Entry.bU,x.Entry.dY,x.Entry.fQ,imax e.From x.Entry.From,t,e.aH,e.Vec,e.aI⟩) hn hs hb hl h2 (Yz hb hlr) he hc hc2
 rw[X7]
 refine bg ⟨x,hx, ?_⟩
 refine bg ⟨t',ht', ?_⟩
 refine eX (fun _=>cB (show BI n s b from hb)) (fun _=> ?_)
 refine bg ⟨to,h1, ?_⟩
 refine bg ⟨x,hx, ?_⟩
 refine bg ⟨t,ht, ?_⟩
 exact bg ⟨r,h3,cB h4⟩
theorem YA {n:Nat} (hn:2^20<n):BM (⟨(0:Int),(0:Int),(0:Int),(0:Int),(0:Int),(0:Int),(0:Int),[],[]⟩:Entry) n:=⟨by simp;omega,by simp,by simp;omega,by simp,by simp,by simp,fun x hx=>absurd hx List.not_mem_nil⟩
theorem atn {n:Nat} {s:aF} {b:Book} {e:Event} {l:List Row} (hn:2^20<n) (hs:pJ s n) (hb:BI n s b) (hc:e.aH=b.aH+1) (hc2:e.aH≤2^30) (hne:l≠[]) (hl:l.length≤65536) (hlr:∀r∈l,r∈b.Rows):∃r:aU,qy n (b,(e,l))=some r∧BP n s r:=by
 obtain⟨t,ht⟩:=Yx (n:=n) hne (by omega)
 obtain⟨to,h1,h2⟩:=Yy (L:=fun m acc i=>wI n b e l m (acc,i)) (n:=n) hl (fun m i acc hi ha=>by
  obtain⟨y,hy,_⟩:=wN (l:=l) (i:=i) hi
  refine⟨⟨y.Entry.From,oO y.Entry.To (imax e.From y.Entry.From)⟩, ?_⟩
  show wI n b e l (m+1) (acc,(i:Int))=_
  rw[X8,decide_eq_true (by omega),cond_true]
  refine bs hy ?_
  rw[dx (by omega)];exact Sj (by simp;omega))
  (fun m acc=>by
    show wI n b e l (m+1) (acc,((l.length:Nat):Int))=_
    rw[X8,BL];rfl) (by omega)
 obtain⟨r,h3,h4⟩:=KU (l:=l) (to:=to) hn hs hb hl h2 (Yz hb hlr) (YA hn) hc hc2
 rw[X9]
 refine eX (fun _=> ?_) (fun _=>cB (show BI n s b from hb))
 refine bg ⟨t,ht, ?_⟩
 refine eX (fun _=>cB (show BI n s b from hb)) (fun _=> ?_)
 refine bg ⟨to,h1, ?_⟩
 exact bg ⟨r,h3,cB h4⟩
theorem ato {n:Nat} {s:aF} {b:Book} {e:Event} {l:List Row} (hn:2^20<n) (hs:pJ s n) (hb:BI n s b) (hc:e.aH=b.aH+1) (hc2:e.aH≤2^30) (hne:l≠[]) (hl:l.length≤65536) (hlr:∀r∈l,r∈b.Rows):∃r:aU,qz n (b,(e,l))=some r∧BP n s r:=by
 have hp:0<l.length:=List.length_pos_iff.2 hne
 obtain⟨x,hx,hxm⟩:=wN (l:=l) (i:=0) hp
 obtain⟨t,ht⟩:=Yx (n:=n) hne (by omega)
 obtain⟨to,h1,h2⟩:=Yy (L:=fun m acc i=>uY n b e l x m (acc,i)) (n:=n) hl (fun m i acc hi ha=>by
  obtain⟨y,hy,_⟩:=wN (l:=l) (i:=i) hi
  refine⟨bif bif (i:Int)==((0:Int)) then decide (e.Until<x.Entry.From) else false then ⟨e.Until,y.Entry.To⟩ else ⟨imax y.Entry.From (oO e.Until y.Entry.To),y.Entry.To⟩, ?_⟩
  show uY n b e l x (m+1) (acc,(i:Int))=_
  rw[Ya,decide_eq_true (by omega),cond_true]
  refine bs hy ?_
  cases (bif (i:Int)==((0:Int)) then decide (e.Until<x.Entry.From) else false)
  ·rw[cond_false,cond_false,dx (by omega)];exact Sj (by simp;omega)
  ·rw[cond_true,cond_true,dx (by omega)];exact Sj (by simp;omega))
  (fun m acc=>by
    show uY n b e l x (m+1) (acc,((l.length:Nat):Int))=_
    rw[Ya,BL];rfl) (by omega)
 obtain⟨r,h3,h4⟩:=KU (l:=l) (to:=to) hn hs hb hl h2 (Yz hb hlr) (YA hn) hc hc2
 rw[Yb]
 refine bg ⟨x,hx, ?_⟩
 refine eX (fun _=>cB (show BI n s b from hb)) (fun _=> ?_)
 refine eX (fun _=> ?_) (fun _=>cB (show BI n s b from hb))
 refine bg ⟨t,ht, ?_⟩
 refine eX (fun _=>cB (show BI n s b from hb)) (fun _=> ?_)
 refine bg ⟨to,h1, ?_⟩
 exact bg ⟨r,h3,cB h4⟩
theorem atp {n:Nat} {s:aF} {b:Book} {e:Event} (hn:2^20<n) (hs:pJ s n) (hb:BI n s b) (he:KT e n):∃r:aU,yC n (b,e)=some r∧BP n s r:=by
 have hcl:=hb.commit
 have Yw:=hb.rows
 have hdl:=hb.days
 rw[Yc]
 refine eX (fun _=>cB (show BI n s b from hb)) (fun hcond=> ?_)
 have hw:IntKind.wrap .i64 (b.aH+(1:Int))=b.aH+1:=by rw[hcl,IntKind.wrap_i64];omega
 rw[hw] at hcond
 have hc:e.aH=b.aH+1:=by
  by_cases c:e.aH=b.aH+1
  ·exact c
  ·rw[bne_iff_ne.2 c] at hcond;simp at hcond
 have hc2:e.aH≤2^30:=by
  by_cases c:e.aH> (1073741824:Int)
  ·rw[decide_eq_true c] at hcond
   cases h:(e.aH !=b.aH+1)<;>rw[h] at hcond<;>simp at hcond
  ·omega
 obtain⟨l,hl1,hl2,hl3⟩:=ahr (n:=n) (b:=b) (id:=e.ID) (by omega) (by omega)
 have err:∀k:Int,∃r:aU,some ((⟨b,k⟩:aU))=some r∧BP n s r:=fun k=>cB (show BI n s b from hb)
 have live:∃r:aU,((rJ n ((b,e.ID))).bind fun (r5:List Row)=>
          bif (((r5.length:Nat):Int))==((0:Int)) then
           some ((⟨b,(5:Int)⟩:aU))
          else
           bif e.Kind==((2:Int)) then
            (qx n ((b,(e,r5)))).bind fun (r6:aU)=>
            some r6
           else
            bif e.Kind==((3:Int)) then
             (qy n ((b,(e,r5)))).bind fun (r7:aU)=>
             some r7
            else
             (qz n ((b,(e,r5)))).bind fun (r8:aU)=>
             some r8)=some r∧BP n s r:=by
  refine bg ⟨l,hl1, ?_⟩
  refine eX (fun _=>err 5) (fun hne=> ?_)
  have hne':l≠[]:=by rintro rfl;simp at hne
  have YB:l.length≤65536:=Nat.le_trans hl2 Yw
  refine eX (fun _=> ?_) (fun _=>eX (fun _=> ?_) (fun _=> ?_))
  ·obtain⟨r,h1,h2⟩:=atm hn hs hb he hc hc2 hne' YB hl3
   exact bg ⟨r,h1,cB h2⟩
  ·obtain⟨r,h1,h2⟩:=atn hn hs hb hc hc2 hne' YB hl3
   exact bg ⟨r,h1,cB h2⟩
  ·obtain⟨r,h1,h2⟩:=ato hn hs hb hc hc2 hne' YB hl3
   exact bg ⟨r,h1,cB h2⟩
 refine eX (fun _=> ?_) (fun _=>eX (fun _=> ?_) (fun _=>eX (fun _=>live) (fun _=>eX (fun _=>live) (fun _=>eX (fun _=>live) (fun _=>err 1)))))
 ·obtain⟨r,h1,h2⟩:=atj hn hs hb he hc hc2
  exact bg ⟨r,h1,cB h2⟩
 ·obtain⟨r,h1,h2⟩:=KU (l:=[]) (to:=[]) hn hs hb (by simp) rfl (by simp) (YA hn) hc hc2
  exact bg ⟨r,h1,cB h2⟩
def ahu:aF:=⟨0,0,[]⟩
def YC (n:Nat) (s:aF) (r:dH):Prop:=BI n s r.B∨r.B=⟨ahu,0,0,[],[]⟩
theorem atq {n:Nat} {s:aF} {l:List Event} (hn:2^20<n) (hs:pJ s n) (hl:l.length<n) (hb:l.length<2^62) (he:∀e∈l,KT e n):∃r:dH,yD n (s,l)=some r∧YC n s r:=by
 obtain⟨e0,he0⟩:=ahi hs (by omega)
 obtain⟨nw,hnw,atr⟩:∃b:aU,Ar n s=some b∧(b.E=0→BI n s b.B):=by
  rw[XZ]
  refine bg ⟨e0,he0, ?_⟩
  refine eX (fun h=>cB fun h2=> ?_) (fun _=>cB fun _=> ?_)
  ·have h3:e0=0:=h2
   rw[h3] at h;simp at h
  ·exact⟨rfl,rfl,by simp,by simp,by simp⟩
 have key:∀(k i m:Nat) (f:dH) (bk:aU),i+k=l.length→k<m→(bk.E=0→BI n s bk.B)→∃q:(PUnit×dH×aU)⊕(PUnit×dH),yZ n l m ((i:Int),(f,bk))=some q∧(match q with
  |.inl q=>q.2.2.E=0→BI n s q.2.2.B
  |.inr q=>YC n s q.2):=by
  intro k
  induction k with
  |zero=>
   intro i m f bk hi hm hbk
   obtain⟨m,rfl⟩:∃m',m=m'+1:=⟨m-1,by omega⟩
   exact⟨.inl ((),(f,bk)),by rw[RN,decide_eq_false (by omega)];rfl,hbk⟩
  |succ k ih=>
   intro i m f bk hi hm hbk
   obtain⟨m,rfl⟩:∃m',m=m'+1:=⟨m-1,by omega⟩
   obtain⟨x,hx,hxm⟩:=wN (l:=l) (i:=i) (by omega)
   rw[RN,decide_eq_true (by omega),cond_true]
   refine eX (fun hz=> ?_) (fun _=>cB hbk)
   have hB:=hbk (by simpa using hz)
   obtain⟨r,h1,h2⟩:=atp hn hs hB (he x hxm)
   refine bg ⟨x,hx, ?_⟩
   refine bg ⟨r,h1, ?_⟩
   refine eX (fun _=>cB (.inl hB)) (fun _=> ?_)
   rw[dx (by omega)]
   exact ih (i+1) m f r (by omega) (by omega) fun _=>h2
 obtain⟨q,h1,h2⟩:=key l.length 0 n ⟨⟨ahu,0,0,[],[]⟩,0,0⟩ nw (by omega) hl atr
 rw[Yd]
 refine bg ⟨nw,hnw, ?_⟩
 refine bg ⟨q,h1, ?_⟩
 cases q with
 |inl q=>
  refine eX (fun _=>cB (.inr rfl)) (fun hz=>cB (.inl (h2 (by simpa using hz))))
 |inr q=>exact cB h2
end Sh
end
section
open Go Go.Proofs Aq
namespace Sh
theorem ahv (n:Nat):yE n (())=some true:=by unfold yE;rfl
theorem ahw {n:Nat} {e:Entry} (hb:e.aI.length<2^62):∀(m i:Nat),yQ n e m (i:Int)=some (.inl ())→∀j (hj:j<e.aI.length),i≤j→j≤20→e.aI[j].Name.length≤300∧e.aI[j].S.length≤300
 |0,i,h,_,_,_,_=>by rw[af2] at h;cases h
 |m+1,i,h,j,hj,hij,h20=>by
  rw[XY] at h
  have hi:i<e.aI.length:=by omega
  have e1:decide ((i:Int)< ((e.aI.length:Nat):Int))=true:=decide_eq_true (by omega)
  have e2:decide ((i:Int)≤(20:Int))=true:=decide_eq_true (by omega)
  have hx:e.aI[i]? =some e.aI[i]:=List.getElem?_eq_getElem hi
  rw[e1,e2,dw hx,dx (by omega)] at h
  simp only[cond_true,Option.bind_some] at h
  cases hn:decide (((e.aI[i].Name.length:Nat):Int)> (300:Int)) with
  |true=>
   rw[hn] at h
   simp only[Bool.not_true,jc,cond_false,cond_true,Option.bind_some] at h
   cases h
  |false=>
   rw[hn] at h
   simp only[Bool.not_false,jc,cond_true,cond_false,Option.bind_some] at h
   cases hs:decide (((e.aI[i].S.length:Nat):Int)> (300:Int)) with
   |true=>rw[hs] at h;cases h
   |false=>
    rw[hs] at h
    have h1:=of_decide_eq_false hn
    have h2:=of_decide_eq_false hs
    by_cases hji:j=i
    ·subst hji;exact⟨by omega,by omega⟩
    ·exact ahw hb m (i+1) h j hj (by omega) h20
theorem att {n:Nat} {e:Entry} (hb:e.aI.length<2^62) (h:Ak n e=some true):jF e.Vec e.aI:=by
 rw[af3] at h
 obtain⟨r,hr,h⟩:=Option.bind_eq_some_iff.1 h
 cases r with
 |inr b=>
  have:∀(m i:Nat) b,i≤2^62→yQ n e m (i:Int)=some (.inr b)→b=false:=by
   intro m
   induction m with
   |zero=>intro i b _ h;rw[af2] at h;cases h
   |succ m ih=>
    intro i b hi h
    rw[XY] at h
    cases hc:(bif decide ((i:Int)< ((e.aI.length:Nat):Int)) then decide ((i:Int)≤(20:Int)) else false) with
    |false=>rw[hc] at h;cases h
    |true=>
     rw[hc] at h
     have hlt:i<e.aI.length:=by
      cases hd:decide ((i:Int)< ((e.aI.length:Nat):Int)) with
      |false=>rw[hd] at hc;cases hc
      |true=>have:=of_decide_eq_true hd;omega
     rw[cond_true,dx (by omega)] at h
     obtain⟨x,_,h⟩:=Option.bind_eq_some_iff.1 h
     obtain⟨y,_,h⟩:=Option.bind_eq_some_iff.1 h
     revert h
     cases (bif decide (((x.Name.length:Nat):Int)> (300:Int)) then true else decide (((y.S.length:Nat):Int)> (300:Int))) with
     |true=>intro h;cases h;rfl
     |false=>intro h;exact ih (i+1) b (by omega) h
  have hb':=this n 0 b (by omega) hr
  subst hb'
  cases h
 |inl u=>
  have h':some (bif decide (((e.Vec.length:Nat):Int)≤(40:Int)) then decide (((e.aI.length:Nat):Int)≤(20:Int)) else false)=some true:=h
  cases hv:decide (((e.Vec.length:Nat):Int)≤(40:Int)) with
  |false=>rw[hv] at h';cases h'
  |true=>
   rw[hv] at h'
   have h1:=of_decide_eq_true hv
   have h2:=of_decide_eq_true (Option.some.inj h')
   refine⟨by omega,by omega,fun x hx=> ?_⟩
   obtain⟨j,hj,rfl⟩:=List.mem_iff_getElem.1 hx
   exact ahw hb n 0 hr j hj (Nat.zero_le _) (by omega)
theorem ahx {n:Nat} {l:List Event} {k:Int} (hb:l.length<2^62) (ha:∀e∈l,e.aI.length<2^62):∀(m i:Nat),tL n l k m (i:Int)=some (.inl ())→∀j (hj:j<l.length),i≤j→(j:Int)≤k→jF l[j].Vec l[j].aI
 |0,i,h,_,_,_,_=>by rw[af4] at h;cases h
 |m+1,i,h,j,hj,hij,hk=>by
  rw[RH] at h
  have hi:i<l.length:=by omega
  have e1:decide ((i:Int)< ((l.length:Nat):Int))=true:=decide_eq_true (by omega)
  have e2:decide ((i:Int)≤k)=true:=decide_eq_true (by omega)
  have hx:l[i]? =some l[i]:=List.getElem?_eq_getElem hi
  rw[e1,e2,dw hx,dx (by omega)] at h
  simp only[cond_true,Option.bind_some] at h
  obtain⟨b,hf,h⟩:=Option.bind_eq_some_iff.1 h
  cases b with
  |false=>cases h
  |true=>
   by_cases hji:j=i
   ·subst hji;exact att (e:=⟨0,0,0,0,0,0,0,l[j].Vec,l[j].aI⟩) (ha _ (List.getElem_mem _)) hf
   ·exact ahx hb ha m (i+1) h j hj (by omega) hk
theorem atu {n:Nat} {l:List Event} {k:Int} (hb:l.length<2^62) (ha:∀e∈l,e.aI.length<2^62) (h:yx n (l,k)=some true):∀e∈l,jF e.Vec e.aI:=by
 rw[af5] at h
 obtain⟨r,hr,h⟩:=Option.bind_eq_some_iff.1 h
 cases r with
 |inr b=>
  have:∀(m i:Nat) b,i≤2^62→tL n l k m (i:Int)=some (.inr b)→b=false:=by
   intro m
   induction m with
   |zero=>intro i b _ h;rw[af4] at h;cases h
   |succ m ih=>
    intro i b hi h
    rw[RH] at h
    cases hc:(bif decide ((i:Int)< ((l.length:Nat):Int)) then decide ((i:Int)≤k) else false) with
    |false=>rw[hc] at h;cases h
    |true=>
     rw[hc] at h
     have hlt:i<l.length:=by
      cases hd:decide ((i:Int)< ((l.length:Nat):Int)) with
      |false=>rw[hd] at hc;cases hc
      |true=>have:=of_decide_eq_true hd;omega
     rw[cond_true,dx (by omega)] at h
     obtain⟨x,_,h⟩:=Option.bind_eq_some_iff.1 h
     obtain⟨y,_,h⟩:=Option.bind_eq_some_iff.1 h
     obtain⟨f,_,h⟩:=Option.bind_eq_some_iff.1 h
     revert h
     cases f with
     |false=>intro h;cases h;rfl
     |true=>intro h;exact ih (i+1) b (by omega) h
  have hb':=this n 0 b (by omega) hr
  subst hb'
  cases h
 |inl u=>
  have h':some (decide (((l.length:Nat):Int)≤k))=some true:=h
  have h2:=of_decide_eq_true (Option.some.inj h')
  intro x hx
  obtain⟨j,hj,rfl⟩:=List.mem_iff_getElem.1 hx
  exact ahx hb ha n 0 hr j hj (Nat.zero_le _) (by omega)
theorem atv {n:Nat} {l:List Event} {k:Int} (hb:l.length<2^62) (he:∀e∈l,Si e n) (h:yx n (l,k)=some true):∀e∈l,KT e n:=fun e hx=>
 ⟨(he e hx).1,(he e hx).2.1,(he e hx).2.2.1,(he e hx).2.2.2,atu hb (fun y hy=>(he y hy).2.2.2) h e hx⟩
end Sh
end
section
namespace Aq
open Go Go.RowKit
mutual
def jG:V→Nat
 |.str s=>s.length+1
 |.agg cs=>lN cs
 |.aj _ l=>lN l+1
 |_=>1
def lN:List V→Nat
 | []=>0
 |v::l=>jG v+lN l
end
def Fu (k:IntKind) (n:Int):Nat:=if (Lit.int k n).wf=true then 0 else 2^64
theorem atw {k:IntKind} {n:Int} (h:(Lit.int k n).wf=true):Fu k n=0:=if_pos h
theorem atx {k:IntKind} {n:Int} (h:Fu k n<2^64):k.min≤n∧n≤k.max:=by
 unfold Fu at h
 split at h
 ·rename_i hw
  simp only[Lit.wf,Bool.and_eq_true,decide_eq_true_eq] at hw
  exact hw
 ·exact absurd h (Nat.lt_irrefl _)
mutual
def gZ:V→Nat
 |.str s=>s.length+1
 |.agg cs=>jN cs
 |.aj _ l=>jN l+1
 |.int k n=>1+Fu k n
 |_=>1
def jN:List V→Nat
 | []=>0
 |v::l=>gZ v+jN l
end
mutual
theorem ahy:∀v:V,jG v≤gZ v
 |.str s=>by simp[jG,gZ]
 |.agg cs=>by simp only[jG,gZ];exact Sm cs
 |.aj _ l=>by simp only[jG,gZ];exact Nat.add_le_add_right (Sm l) 1
 |.int k n=>by simp[jG,gZ]
 |.bool _|.fU|.fB|.eY|.iA|.bJ _|.vw .. |.ref .. |.cK .. |.aM .. |.fn .. |.dD .. |.iface .. |.raw _=>by simp[jG,gZ]
theorem Sm:∀l:List V,lN l≤jN l
 | []=>Nat.le_refl _
 |v::l=>by simp only[lN,jN];exact Nat.add_le_add (ahy v) (Sm l)
end
structure Bulk (H:Type) (bk:DataW H→Nat) (bs:List (DataW H)→Nat):Prop where
 one:∀d,1≤bk d
 str:∀s,s.length+1≤bk (.lit (.string s))
 agg:∀l,bs l≤bk (.agg l)
 sl:∀l r,bs l+1≤bk (.slice l r)
 nil:bs []=0
 cons:∀d l,bs (d::l)=bk d+bs l
section
variable {H:Type} {bk:DataW H→Nat} {bs:List (DataW H)→Nat} (hb:Bulk H bk bs)
include hb
theorem Bulk.append (a b:List (DataW H)):bs (a++b)=bs a+bs b:=by
 induction a with
 |nil=>simp[hb.nil]
 |cons v a ih=>simp only[List.cons_append,hb.cons,ih];omega
end
def pO {α β γ:Type} (Q:α→β→γ→Prop):List α→List β→List γ→Prop
 | [],[],[]=>True
 |t::ts,c::cs,d::ds=>Q t c d∧pO Q ts cs ds
 |_,_,_=>False
theorem pO.append {α β γ:Type} {Q:α→β→γ→Prop}:∀{a a':List α} {b b':List β} {c c':List γ},pO Q a b c→pO Q a' b' c'→pO Q (a++a') (b++b') (c++c')
 | [],_,[],_,[],_,_,h=>h
 |_::_,_,_::_,_,_::_,_,h,h'=>⟨h.1,h.2.append h'⟩
 | [],_,_::_,_,_,_,h,_=>h.elim
 | [],_,[],_,_::_,_,h,_=>h.elim
 |_::_,_,[],_,_,_,h,_=>h.elim
 |_::_,_,_::_,_,[],_,h,_=>h.elim
theorem pO.mono {α β γ:Type} {Q Q':α→β→γ→Prop} (hq:∀a b c,Q a b c→Q' a b c):∀{a:List α} {b:List β} {c:List γ},pO Q a b c→pO Q' a b c
 | [],[],[],_=>trivial
 |_::_,_::_,_::_,h=>⟨hq _ _ _ h.1,h.2.mono hq⟩
 | [],_::_,_,h=>h.elim
 | [],[],_::_,h=>h.elim
 |_::_,[],_,h=>h.elim
 |_::_,_::_,[],h=>h.elim
theorem pO.len {α β γ:Type} {Q:α→β→γ→Prop}:∀{a:List α} {b:List β} {c:List γ},pO Q a b c→a.length=b.length
 | [],[],[],_=>rfl
 |_::_,_::_,_::_,h=>by simp[h.2.len]
 | [],_::_,_,h=>h.elim
 | [],[],_::_,h=>h.elim
 |_::_,[],_,h=>h.elim
 |_::_,_::_,[],h=>h.elim
section
variable (P:Program)
def KV (t:TypeId):Option (List (Nat×TypeId)):=match P.underlying t with
 |some (.struct fs)=>some (fs.toList.map fun f=>(f.offset,f.type))
 |some (.array n e)=>some ((List.range n).map fun i=>(i*P.cellsOf e,e))
 |_=>none
def Fv (t:TypeId):Bool:=match P.underlying t with
 |some .bool=>true
 |some (.int _)=>true
 |some .string=>true
 |some (.slice _)=>true
 |_=>false
def KW:List (Nat×TypeId)→Nat→Nat→Bool
 | [],off,tot=>off==tot
 | (o,u)::l,off,tot=>o==off&& KW l (off+P.cellsOf u) tot
def Fw:Nat→TypeId→Option (List TypeId)
 |0,_=>none
 |k+1,t=>match KV P t with
  |some ps=>if KW P ps 0 (P.cellsOf t)=true then (ps.mapM fun (p:Nat×TypeId)=>match Fw k p.2 with
    |some l=>if l.length=P.cellsOf p.2 then some l else none
    |none=>none).map List.flatten else none
  |none=>if Fv P t=true∧P.cellsOf t=1 then some [t] else none
end
section
variable {P:Program} {w:World} {H:Type} {enc:TypeId×Value→H} {bk:DataW H→Nat} {bs:List (DataW H)→Nat}
abbrev jS (enc:TypeId×Value→H) (P:Program) (w:World) (f:Nat) (t:TypeId) (cs:List Value):Option (DataW H×List MemPlace):=DataW.trod enc P w 0 (fun _=>true) true f t cs
theorem aty {fuel:Nat} {t:TypeId} {cs:List Value} {d:DataW H} {ps:List MemPlace} {pl:List (Nat×TypeId)} (hp:KV P t=some pl) (h:jS enc P w (fuel+1) t cs=some (d,ps)):
 cs.length=P.cellsOf t∧∃xs,pl.mapM (fun p=>jS enc P w fuel p.2 ((cs.drop p.1).take (P.cellsOf p.2)))=some xs∧d= .agg (xs.map (·.1)):=by
 unfold KV at hp
 split at hp
 ·rename_i fs hu
  simp only[Option.some.injEq] at hp
  subst hp
  simp only[jS,DataW.trod,hu] at h
  split at h
  ·rename_i hl
   simp only[Option.map_eq_some_iff,Prod.mk.injEq] at h
   obtain⟨xs,h1,rfl,rfl⟩:=h
   refine⟨hl,xs, ?_,rfl⟩
   rw[List.mapM_map]
   exact h1
  ·cases h
 ·rename_i n e hu
  simp only[Option.some.injEq] at hp
  subst hp
  simp only[jS,DataW.trod,hu] at h
  split at h
  ·rename_i hl
   simp only[Option.map_eq_some_iff,Prod.mk.injEq] at h
   obtain⟨xs,h1,rfl,rfl⟩:=h
   refine⟨hl,xs, ?_,rfl⟩
   rw[List.mapM_map]
   exact h1
  ·cases h
 ·cases hp
def YD (enc:TypeId×Value→H) (P:Program) (w:World) (fuel:Nat) (u:TypeId) (c:Value) (d:DataW H):Prop:=∃f p,f≤fuel∧jS enc P w f u [c]=some (d,p)∧Fv P u=true
theorem ahz {fuel:Nat} {t:TypeId} {cs:List Value} {x:DataW H×List MemPlace} (hl:Fv P t=true) (h:jS enc P w fuel t cs=some x):∃c,cs=[c]:=by
 cases fuel with
 |zero=>simp[jS,DataW.trod] at h
 |succ f=>
  unfold Fv at hl
  split at hl
  all_goals (rename_i hu;simp only[jS,DataW.trod,hu] at h;split at h<;>first|exact⟨_,rfl⟩|simp_all)
theorem atz (hb:Bulk H bk bs):∀(k fuel:Nat) (t:TypeId) (cs:List Value) (d:DataW H) (ps:List MemPlace) (ts:List TypeId),Fw P k t=some ts→jS enc P w fuel t cs=some (d,ps)→
 ∃ds,pO (YD enc P w fuel) ts cs ds∧bs ds≤bk d:=by
 intro k
 induction k with
 |zero=>intro fuel t cs d ps ts h;simp[Fw] at h
 |succ k ih=>
  intro fuel t cs d ps ts h ht
  simp only[Fw] at h
  split at h
  ·rename_i pl hp
   split at h
   ·rename_i hcon
    cases fuel with
    |zero=>simp[jS,DataW.trod] at ht
    |succ fuel=>
     obtain⟨hl,xs,hx,rfl⟩:=aty hp ht
     simp only[Option.map_eq_some_iff] at h
     obtain⟨Fx,atA,rfl⟩:=h
     have key:∀(pl:List (Nat×TypeId)) (off:Nat) (xs:List (DataW H×List MemPlace)) (Fx:List (List TypeId)),KW P pl off cs.length=true→
      pl.mapM (fun p=>jS enc P w fuel p.2 ((cs.drop p.1).take (P.cellsOf p.2)))=some xs→
      (pl.mapM fun p=>match Fw P k p.2 with
        |some l=>if l.length=P.cellsOf p.2 then some l else none
        |none=>none)=some Fx→∃ds,pO (YD enc P w (fuel+1)) Fx.flatten (cs.drop off) ds∧bs ds≤bs (xs.map (·.1)):=by
      intro pl
      induction pl with
      |nil=>
       intro off xs Fx hc h1 h2
       simp only[List.mapM_nil,Option.pure_def,Option.some.injEq] at h1 h2
       subst h1;subst h2
       simp only[KW,beq_iff_eq] at hc
       rw[hc,List.drop_length]
       exact⟨[],trivial,Nat.le_refl _⟩
      |cons p pl ihp=>
       intro off xs Fx hc h1 h2
       obtain⟨o,u⟩:=p
       simp only[KW,Bool.and_eq_true,beq_iff_eq] at hc
       obtain⟨rfl,hc⟩:=hc
       simp only[List.mapM_cons,Option.bind_eq_bind,Option.bind_eq_some_iff,Option.pure_def,Option.some.injEq] at h1 h2
       obtain⟨⟨d1,p1⟩,g1,xs',g2,rfl⟩:=h1
       obtain⟨l1,g3,axa,g4,rfl⟩:=h2
       split at g3
       ·rename_i l0 hl0
        split at g3
        ·cases g3
         obtain⟨ds1,a1,a2⟩:=ih _ _ _ _ _ _ hl0 g1
         obtain⟨ds2,a3,a4⟩:=ihp _ _ _ hc g2 g4
         refine⟨ds1++ds2, ?_, ?_⟩
         ·rw[List.flatten_cons]
          have e:cs.drop o=(cs.drop o).take (P.cellsOf u)++cs.drop (o+P.cellsOf u):=by
           rw[←List.drop_drop,List.take_append_drop]
          rw[e]
          exact pO.append (a1.mono fun _ _ _ ⟨f,q,h1,h2⟩=>⟨f,q,Nat.le_succ_of_le h1,h2⟩) a3
         ·rw[hb.append,List.map_cons,hb.cons];show _≤bk d1+_;omega
        ·cases g3
       ·cases g3
     have:=key pl 0 xs Fx (by rw[hl];exact hcon) hx atA
     obtain⟨ds,h1,h2⟩:=this
     exact⟨ds,by simpa using h1,Nat.le_trans h2 (hb.agg _)⟩
   ·cases h
  ·split at h
   ·rename_i hlf
    simp only[Option.some.injEq] at h
    subst h
    obtain⟨c,rfl⟩:=ahz hlf.1 ht
    refine⟨[d],⟨⟨fuel,ps,Nat.le_refl _,ht,hlf.1⟩,trivial⟩, ?_⟩
    rw[hb.cons,hb.nil];omega
   ·cases h
def oF (K:aR) (T:Nat→Nat) (w:World) (vs:List V) (cs:List Value):Prop:=vs.length=cs.length∧∀j,j<vs.length→Rel K T w (vs.getD j ay) (cs.getD j undef)
theorem oF.cons {K:aR} {T:Nat→Nat} {v:V} {c:Value} {vs:List V} {cs:List Value} (h:Rel K T w v c) (hs:oF K T w vs cs):oF K T w (v::vs) (c::cs):=by
 refine⟨by simp[hs.1],fun j hj=> ?_⟩
 cases j with
 |zero=>exact h
 |succ j=>simpa using hs.2 j (by simpa using hj)
variable (R:jB)
def mX (P:Program) (t:TypeId):Ty→Bool
 |.int k=>match P.underlying t with
  |some (.int k')=>decide (k'=k)
  |_=>false
 |.bool=>match P.underlying t with
  |some .bool=>true
  |_=>false
 |.str=>match P.underlying t with
  |some .string=>true
  |_=>false
 |.slice τ=>match P.underlying t with
  |some (.slice e)=>decide (R.ty e=some τ)&& decide (0<P.cellsOf e)
  |_=>false
 |.st n=>match Fw P 10 t with
  |some ts=>decide (ts.map R.ty=(R.lf n).map some)&& (KV P t).isSome
  |none=>false
def allI (w:World) (b o:Nat):Prop:=∃v,w.cell? (at_ b o)=some v
abbrev KA (w:World):aR:=aR.lend (allI w) (fun b=> ∃es bV,w.heap[b]? =some (.map es bV))
theorem YE {α β:Type} {f:α→Option β}:∀{l:List α} {r:List β},l.mapM f=some r→r.length=l.length∧∀(i:Nat) (hi:i<l.length) (hr:i<r.length),f l[i]=some r[i]:=by
 intro l
 induction l with
 |nil=>intro r h;simp at h;subst h;exact⟨rfl,fun i hi=>absurd hi (Nat.not_lt_zero i)⟩
 |cons a l ih=>
  intro r h
  simp only[List.mapM_cons,Option.bind_eq_bind,Option.bind_eq_some_iff,Option.pure_def,Option.some.injEq] at h
  obtain⟨y,h1,ys,h2,rfl⟩:=h
  obtain⟨h3,h4⟩:=ih h2
  refine⟨by simp[h3],fun i hi hr=> ?_⟩
  cases i with
  |zero=>exact h1
  |succ i=>exact h4 i (by simpa using hi) (by simpa using hr)
theorem ahA {base:Nat} {a:Addr} {n:Nat} {cs:List Value} (h:w.cells? base a n=some cs):cs.length=n∧∀j,j<n→w.cell? (a.add j)=some (cs.getD j undef):=by
 unfold World.cells? at h
 split at h
 ·obtain⟨h1,h2⟩:=YE h
  rw[List.length_range] at h1
  refine⟨h1,fun j hj=> ?_⟩
  have:=h2 j (by simpa using hj) (by omega)
  simp only[List.getElem_range] at this
  rw[this,List.getD_eq_getElem?_getD,List.getElem?_eq_getElem (by omega)]
  rfl
 ·cases h
theorem plain_of_cell {a:Addr} {v:Value} (h:w.cell? a=some v):a=at_ a.block a.off:=by
 unfold World.cell? at h
 obtain⟨b,o,s⟩:=a
 cases s with
 |none=>rfl
 |some s=>dsimp only at h;split at h<;>simp at h
theorem ahB (hb:Bulk H bk bs) (hR:oh R) {T:Nat→Nat} {Q:TypeId→Value→DataW H→Prop} (hq:∀u c d τ,Q u c d→R.ty u=some τ→nJ τ=true→∃x:Den R.T τ,Rel (KA w) T w (aD R τ x) c∧gZ (aD R τ x)≤bk d):
 ∀(l:List Ty) (ts:List TypeId) (cs:List Value) (ds:List (DataW H)),l.all nJ=true→ts.map R.ty=l.map some→pO Q ts cs ds→∃p:mO R.T l,oF (KA w) T w (encs R l p) cs∧jN (encs R l p)≤bs ds
 | [],ts,cs,ds,_,hm,h=>by
   have:ts=[]:=by simpa using hm
   subst this
   cases cs with
   |nil=>cases ds with
    |nil=>exact⟨(),⟨rfl,fun j hj=>absurd hj (Nat.not_lt_zero j)⟩,by rw[hb.nil];exact Nat.le_refl _⟩
    |cons=>exact h.elim
   |cons=>exact h.elim
 | [τ],ts,cs,ds,hl,hm,h=>by
   cases ts with
   |nil=>simp at hm
   |cons u ts=>
    simp only[List.map_cons,List.map_nil,List.cons.injEq,List.map_eq_nil_iff] at hm
    obtain⟨hu,rfl⟩:=hm
    cases cs with
    |nil=>exact h.elim
    |cons c cs=>cases ds with
     |nil=>exact h.elim
     |cons d ds=>
      obtain⟨h1,h2⟩:=h
      cases cs with
      |cons=>exact h2.elim
      |nil=>cases ds with
       |cons=>exact h2.elim
       |nil=>
        obtain⟨x,h3,h4⟩:=hq u c d τ h1 hu (by simpa using hl)
        refine⟨x,oF.cons h3 ⟨rfl,fun j hj=>absurd hj (Nat.not_lt_zero j)⟩, ?_⟩
        rw[hb.cons,hb.nil]
        show gZ _+0≤_
        omega
 |τ::τ'::l,ts,cs,ds,hl,hm,h=>by
  cases ts with
  |nil=>simp at hm
  |cons u ts=>
   rw[List.map_cons,List.map_cons] at hm
   injection hm with hu hm
   cases cs with
   |nil=>exact h.elim
   |cons c cs=>cases ds with
    |nil=>exact h.elim
    |cons d ds=>
     obtain⟨h1,h2⟩:=h
     rw[List.all_cons,Bool.and_eq_true] at hl
     obtain⟨x,h3,h4⟩:=hq u c d τ h1 hu hl.1
     obtain⟨p,h5,h6⟩:=ahB hb hR hq (τ'::l) ts cs ds hl.2 hm h2
     refine⟨(x,p),oF.cons h3 h5, ?_⟩
     rw[hb.cons]
     show gZ (aD R τ x)+jN (encs R (τ'::l) p)≤_
     omega
theorem atD (τ:Ty) (hl:nJ τ=true) (x:Den R.T τ):(aD R τ x).cells=[aD R τ x]:=by
 cases τ with
 |st n=>simp[nJ] at hl
 |_=>rfl
theorem atE (hb:Bulk H bk bs) (hR:oh R) {T:Nat→Nat} (hty:∀t τ,R.ty t=some τ→mX R P t τ=true):∀(fuel:Nat) (t:TypeId) (cs:List Value) (d:DataW H) (ps:List MemPlace) (τ:Ty),R.ty t=some τ→jS enc P w fuel t cs=some (d,ps)→
 ∃x:Den R.T τ,oF (KA w) T w (aD R τ x).cells cs∧gZ (aD R τ x)≤bk d:=by
 intro fuel
 induction fuel using Nat.strongRecOn with
 |_ fuel ih=>
  have leaf:∀f,f≤fuel→∀u c d p τ,nJ τ=true→R.ty u=some τ→jS enc P w f u [c]=some (d,p)→∃x:Den R.T τ,Rel (KA w) T w (aD R τ x) c∧gZ (aD R τ x)≤bk d:=by
   intro f hf u c d p τ hl hu h
   cases f with
   |zero=>simp[jS,DataW.trod] at h
   |succ f=>
    have ho:=hty u τ hu
    cases τ with
    |st n=>simp[nJ] at hl
    |int k=>
     simp only[mX] at ho
     split at ho
     ·rename_i k' hk
      have:=of_decide_eq_true ho
      subst this
      cases c with
      |int k2 n=>
       simp only[jS,DataW.trod,hk] at h
       split at h
       ·rename_i hkk
        obtain⟨rfl,hwf⟩:=hkk
        simp only[Option.some.injEq,Prod.mk.injEq] at h
        obtain⟨rfl,rfl⟩:=h
        exact⟨(n:Int),.int _ _,by show 1+Fu _ _≤_;rw[atw hwf];exact hb.one _⟩
       ·cases h
      |_=>simp only[jS,DataW.trod,hk] at h;cases h
     ·cases ho
    |bool=>
     simp only[mX] at ho
     split at ho
     ·rename_i hk
      cases c with
      |bool b=>exact⟨(b:Bool),.bool _,hb.one _⟩
      |_=>simp only[jS,DataW.trod,hk] at h;cases h
     ·cases ho
    |str=>
     simp only[mX] at ho
     split at ho
     ·rename_i hk
      cases c with
      |string b=>
       simp only[jS,DataW.trod,hk] at h
       split at h
       ·simp only[Option.some.injEq,Prod.mk.injEq] at h
        obtain⟨rfl,rfl⟩:=h
        exact⟨b.data.toList,.str _ _ rfl,hb.str _⟩
       ·cases h
      |_=>simp only[jS,DataW.trod,hk] at h;cases h
     ·cases ho
    |slice τ=>
     simp only[mX] at ho
     split at ho
     ·rename_i e hk
      rw[Bool.and_eq_true] at ho
      have he:=of_decide_eq_true ho.1
      have hpos:=of_decide_eq_true ho.2
      cases c with
      |slice a len cap=>
       cases a with
       |none=>
        cases len with
        |succ n=>simp only[jS,DataW.trod,hk] at h;cases h
        |zero=>cases cap with
         |succ n=>simp only[jS,DataW.trod,hk] at h;cases h
         |zero=>exact⟨([]:List (Den R.T τ)),.eu .sh none (fun _=>rfl) trivial,hb.one _⟩
       |some a=>
        simp only[jS,DataW.trod,hk] at h
        split at h
        ·rename_i hc
         obtain⟨_,hlc,_⟩:=hc
         simp only[Option.bind_eq_some_iff,if_true,Option.map_eq_some_iff,Prod.mk.injEq] at h
         obtain⟨elems,h1,rest,h2,rfl,rfl⟩:=h
         obtain⟨e1,e2⟩:=YE h1
         obtain⟨r1,r2⟩:=YE h2
         rw[List.length_range] at e1 r1
         have hplain:0<cap→a=at_ a.block a.off:=fun hcap=>by
          have hread:∃i cs x,w.cells? 0 (a.add (i*P.cellsOf e)) (P.cellsOf e)=some cs∧jS enc P w f e cs=some x∧i=0:=by
           by_cases hl0:0<len
           ·have:=e2 0 (by simpa using hl0) (by omega)
            simp only[List.getElem_range,Option.bind_eq_some_iff] at this
            obtain⟨cs,g1,g2⟩:=this
            exact⟨0,cs,_,g1,g2,rfl⟩
           ·have:=r2 0 (by simp;omega) (by omega)
            simp only[List.getElem_range,Option.bind_eq_some_iff] at this
            obtain⟨cs,g1,g2⟩:=this
            exact⟨len+0,cs,_,g1,g2,by omega⟩
          obtain⟨i,cs,_,g1,_,rfl⟩:=hread
          have:=(ahA g1).2 0 hpos
          have ha:(a.add (0*P.cellsOf e)).add 0=a:=by simp[Addr.add]
          rw[ha] at this
          exact plain_of_cell this
         have hel:∀i,∃x:Den R.T τ,∃Fy:List Value,∀hi:i<elems.length,(∀j,j<P.cellsOf e→w.cell? ((a.add (i*P.cellsOf e)).add j)=some (Fy.getD j undef))∧Fy.length=P.cellsOf e∧
          oF (KA w) T w (aD R τ x).cells Fy∧gZ (aD R τ x)≤bk elems[i].1:=fun i=>by
          by_cases hi:i<elems.length
          ·have:=e2 i (by simpa using (by omega:i<len)) hi
           simp only[List.getElem_range,Option.bind_eq_some_iff] at this
           obtain⟨Fy,g1,g2⟩:=this
           obtain⟨c1,c2⟩:=ahA g1
           obtain⟨x,x1,x2⟩:=ih f (by omega) e Fy elems[i].1 elems[i].2 τ he g2
           exact⟨x,Fy,fun _=>⟨c2,c1,x1,x2⟩⟩
          ·exact⟨CG R τ,[],fun h=>absurd h hi⟩
         let xs:List (Den R.T τ):=(List.range elems.length).map fun i=>(hel i).choose
         have hxs:∀i (hi:i<xs.length) (hi':i<elems.length),(∀j,j<P.cellsOf e→w.cell? ((a.add (i*P.cellsOf e)).add j)=some ((hel i).choose_spec.choose.getD j undef))∧(hel i).choose_spec.choose.length=P.cellsOf e∧
          oF (KA w) T w (aD R τ xs[i]).cells (hel i).choose_spec.choose∧gZ (aD R τ xs[i])≤bk elems[i].1:=fun i hi hi'=>by
          have:=(hel i).choose_spec.choose_spec hi'
          have e:xs[i]=(hel i).choose:=by simp[xs]
          rw[e];exact this
         have hxl:xs.length=len:=by simp[xs,e1]
         refine⟨(xs:List (Den R.T τ)), ?_, ?_⟩
         ·show Rel _ _ _ (.aj .sh (xs.map (aD R τ))) (.slice (some a) len cap)
          by_cases hcap:0<cap
          ·obtain⟨b,o,s⟩:=a
           have hs:s=none:=by
            have:=hplain hcap
            simp only[at_,Addr.mk.injEq] at this
            exact this.2.2
           subst hs
           have key:Rel (KA w) T w (.aj .sh (xs.map (aD R τ))) (.slice (some (at_ b o)) (xs.map (aD R τ)).length cap):=by
            refine .aj .sh _ b o (P.cellsOf e) cap (fun i j=>if hi:i<elems.length then (hel i).choose_spec.choose.getD j undef else undef) (by rw[List.length_map,hxl];exact hlc) (fun i hi=> ?_) (fun i j hi hj=> ?_) (fun i j hi hj=> ?_) trivial
            all_goals
             rw[List.length_map] at hi
             have hi':i<elems.length:=by omega
             obtain⟨y1,y2,y3,y4⟩:=hxs i hi hi'
             have hg:(xs.map (aD R τ)).getD i ay=aD R τ xs[i]:=by simp[List.getD,hi]
            ·rw[hg];exact y3.1.trans y2
            ·rw[dif_pos hi']
             have hadd:at_ b (o+i*P.cellsOf e+j)=((⟨b,o,none⟩:Addr).add (i*P.cellsOf e)).add j:=by
              rw[show (⟨b,o,none⟩:Addr)=at_ b o from rfl,addr_add,addr_add]
             have this:=(congrArg w.cell? hadd).trans (y1 j hj)
             exact⟨this,_,this⟩
            ·rw[hg,dif_pos hi']
             exact y3.2 j (by rw[y3.1,y2];exact hj)
           rw[List.length_map,hxl] at key
           exact key
          ·have h0:len=0:=by omega
           have h0':cap=0:=by omega
           subst h0;subst h0'
           have:xs=[]:=List.eq_nil_of_length_eq_zero hxl
           rw[this]
           exact .eu .sh (some a) (fun h=>by cases h) trivial
         ·show jN (xs.map (aD R τ))+1≤_
          refine Nat.le_trans (Nat.succ_le_succ ?_) (hb.sl _ _)
          have atF:∀(l:List (Den R.T τ)) (m:List (DataW H×List MemPlace)),l.length=m.length→(∀i (hi:i<l.length) (hi':i<m.length),gZ (aD R τ l[i])≤bk m[i].1)→jN (l.map (aD R τ))≤bs (m.map (·.1)):=by
           intro l
           induction l with
           |nil=>intro m _ _;exact Nat.zero_le _
           |cons x l ihl=>
            intro m hm hle
            cases m with
            |nil=>simp at hm
            |cons y m=>
             rw[List.map_cons,List.map_cons,hb.cons]
             have h0:=hle 0 (by simp) (by simp)
             have h1:=ihl m (by simpa using hm) (fun i hi hi'=>hle (i+1) (by simpa using hi) (by simpa using hi'))
             simp only[List.getElem_cons_zero] at h0
             show gZ _+jN _≤_
             omega
          exact atF xs elems (by rw[hxl,e1]) fun i hi hi'=>(hxs i hi hi').2.2.2
        ·cases h
      |_=>simp only[jS,DataW.trod,hk] at h;cases h
     ·cases ho
  have ho:=hty
  intro t cs d ps τ ht h
  cases τ with
  |st n=>
   have ho:=hty t _ ht
   simp only[mX] at ho
   split at ho
   ·rename_i ts hts
    rw[Bool.and_eq_true] at ho
    have hm:=of_decide_eq_true ho.1
    obtain⟨ds,h1,h2⟩:=atz hb _ _ _ _ _ _ _ hts h
    obtain⟨p,h3,h4⟩:=ahB R hb hR (Q:=YD enc P w fuel) (T:=T) (fun u c d τ hq hu hl=>by
     obtain⟨f,q,hf,hq,_⟩:=hq
     exact leaf f hf u c d q τ hl hu hq) (R.lf n) ts cs ds (hR.leaf n) hm h1
    refine⟨R.to n p, ?_, ?_⟩
    ·show oF _ _ _ (R.enc n (R.to n p)).cells cs
     rw[hR.enc,hR.G7];exact h3
    ·show gZ (R.enc n (R.to n p))≤_
     rw[hR.enc,hR.G7]
     exact Nat.le_trans h4 h2
   ·cases ho
  |_=>
   have hl:Fv P t=true:=by
    have ho:=hty t _ ht
    simp only[mX] at ho
    split at ho
    ·rename_i hu;simp[Fv,hu]
    ·cases ho
   obtain⟨c,rfl⟩:=ahz hl h
   obtain⟨x,h1,h2⟩:=leaf fuel (Nat.le_refl _) t c d ps _ rfl ht h
   refine⟨x, ?_,h2⟩
   rw[atD R _ rfl]
   exact oF.cons h1 ⟨rfl,fun j hj=>absurd hj (Nat.not_lt_zero j)⟩
end
end Aq
end
