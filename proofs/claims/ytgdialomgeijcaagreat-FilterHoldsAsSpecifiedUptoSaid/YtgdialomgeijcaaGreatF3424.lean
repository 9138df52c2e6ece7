/- Part of the proof of a law. -/
import Derived.IntWalk
import Derived.Test.YtgdialomgeijcaaGreatF3412
import Derived.Test.YtgdialomgeijcaaGreatF3423
set_option linter.all false
set_option linter.unusedSimpArgs false
set_option linter.unusedSectionVars false
section
open Go Go.Proofs Aq
namespace Sh
theorem Wo {α:Type} (l:List α) (i:Nat):dX l (i:Int)=l[i]? :=by
 unfold dX
 by_cases h:i<l.length
 ·rw[if_pos ⟨by omega,by omega⟩];simp
 ·rw[if_neg (by omega)];simp;omega
theorem oq {α:Type} {l:List α} {i:Nat} {x:α} (h:l[i]? =some x):dX l (i:Int)=some x:=by rw[Wo,h]
theorem qI {α:Type} {l:List α} {i:Nat} {x:α} (h:l[i]? =some x):i<l.length:=by
 rw[List.getElem?_eq_some_iff] at h;exact h.1
theorem o9 {α:Type} {l:List α} {i:Nat} {x:α} (h:l[i]? =some x):decide ((i:Int)< ((l.length:Nat):Int))=true:=by
 have:=qI h;simp;omega
theorem sK {α:Type} (l:List α):decide (((l.length:Nat):Int)< ((l.length:Nat):Int))=false:=by simp
theorem pq {i:Nat} (h:i<2^62):IntKind.wrap .i64 ((i:Int)+(1:Int))=((i+1:Nat):Int):=by
 rw[IntKind.wrap_i64];omega
def foldI {α β σ:Type} (step:α→Nat→σ→(σ→β)→β) (fin:σ→β):Nat→List α→σ→β
 |_,[],s=>fin s
 |i,x::l,s=>step x i s fun s=>foldI step fin (i+1) l s
theorem Oa {α β σ:Type} {L:Nat→σ→Int→Option β} {l:List α} (step:α→Nat→σ→(σ→Option β)→Option β) (fin:σ→Option β)
 (hs:∀m (i:Nat) x s,l[i]? =some x→L (m+1) s (i:Int)=step x i s fun s=>L m s ((i+1:Nat):Int)) (hf:∀m s,L (m+1) s ((l.length:Nat):Int)=fin s)
 (hc:∀x (i:Nat) s k k',(∀s,k s=k' s)→step x i s k=step x i s k'):∀(k i m:Nat) (s:σ),i+k=l.length→k<m→L m s (i:Int)=foldI step fin i (l.drop i) s:=by
 intro k
 induction k with
 |zero=>
  intro i m s hi hm
  obtain⟨m,rfl⟩:∃m',m=m'+1:=⟨m-1,by omega⟩
  obtain rfl:i=l.length:=by omega
  rw[hf,List.drop_length];rfl
 |succ k ih=>
  intro i m s hi hm
  obtain⟨m,rfl⟩:∃m',m=m'+1:=⟨m-1,by omega⟩
  have hlt:i<l.length:=by omega
  have hx:l[i]? =some l[i]:=List.getElem?_eq_getElem hlt
  rw[hs m i l[i] s hx,List.drop_eq_getElem_cons hlt]
  exact hc _ _ _ _ _ fun s=>ih (i+1) m s (by omega) (by omega)
theorem Br {α β:Type} {L:Nat→Int→Option β} {l:List α} (step:α→Nat→Option β→Option β) (fin:Option β)
 (hs:∀m (i:Nat) x,l[i]? =some x→L (m+1) (i:Int)=step x i (L m ((i+1:Nat):Int))) (hf:∀m,L (m+1) ((l.length:Nat):Int)=fin) {m:Nat} (hm:l.length<m):
 L m (0:Int)=foldI (σ:=Unit) (fun x i _ k=>step x i (k ())) (fun _=>fin) 0 l ():=by
 have:=Oa (L:=fun m (_:Unit) i=>L m i) (l:=l) (fun x i _ k=>step x i (k ())) (fun _=>fin) (fun m i x _ h=>hs m i x h) (fun m _=>hf m) (fun x i s k k' h=>by rw[h]) l.length 0 m () (by omega) hm
 simpa using this
theorem Oc {α:Type} {γ:Type} (p:α→Bool) (f:Nat→γ) (z:γ):∀(l:List α) (i:Nat),foldI (σ:=Unit) (fun x i _ (k:Unit→Option γ)=>bif p x then some (f i) else k ()) (fun _=>some z) i l ()=some (match l.findIdx? p with|some j=>f (i+j)|none=>z)
 | [],i=>rfl
 |x::l,i=>by
  show (bif p x then some (f i) else foldI _ _ (i+1) l ())=_
  rw[List.findIdx?_cons]
  cases hp:p x
  ·rw[cond_false,Oc p f z l (i+1)]
   simp only[Bool.false_eq_true,if_false]
   cases l.findIdx? p with
   |none=>rfl
   |some j=>simp only[Option.map_some];rw[Nat.add_right_comm,Nat.add_assoc]
  ·simp
theorem agX {α:Type} {c:Bool} {o:Option α} {d:α} (h:c=true→∃x,o=some x):∃x,Ga c o d=some x:=by
 cases c
 ·exact⟨d,rfl⟩
 ·exact h rfl
theorem Wp {α γ:Type} (p:α→Bool) (f z:γ):∀(l:List α) (i:Nat),foldI (σ:=Unit) (fun x _ _ (k:Unit→Option γ)=>bif p x then some f else k ()) (fun _=>some z) i l ()=some (bif l.any p then f else z)
 | [],i=>rfl
 |x::l,i=>by
  show (bif p x then some f else foldI _ _ (i+1) l ())=_
  rw[List.any_cons]
  cases p x
  ·exact Wp p f z l (i+1)
  ·rfl
end Sh
end
section
open Go Go.Proofs Aq
namespace Sh
def lg (l:List Attr) (x:List UInt8):Option Attr:=l.find? fun a=>a.Name==x
mutual
def eT (l:List Attr):Pred→Bool
 | ⟨op,name,n,m,s,subs⟩=>
   if op=1 then true else if op=2 then Bt l subs else if op=3 then anyS l subs else if op=4 then !anyS l subs else
   if op=5 then (lg l name).isSome else
   if op=6 then (match lg l name with|some a=>a.Kind==(1:Int)&& decide (a.N≥n)&& decide (a.N≤m)|none=>false) else
   if op=7 then (match lg l name with|some a=>a.Kind==(2:Int)&& a.S==s|none=>false) else false
def Bt (l:List Attr):List Pred→Bool
 | []=>true
 |p::ps=>eT l p&& Bt l ps
def anyS (l:List Attr):List Pred→Bool
 | []=>false
 |p::ps=>eT l p||anyS l ps
end
mutual
def bV:Pred→Nat
 | ⟨_,_,_,_,_,subs⟩=>pz subs+1
def pz:List Pred→Nat
 | []=>0
 |p::ps=>bV p+pz ps
end
theorem wu (p:Pred):1≤bV p:=by cases p;simp[bV]
theorem wz (p:Pred):bV p=pz p.aG+1:=by cases p;simp[bV]
theorem uH:∀l:List Pred,l.length≤pz l
 | []=>by simp
 |p::l=>by have:=uH l;have:=wu p;simp[pz];omega
theorem uI:∀{l:List Pred} {p:Pred},p∈l→bV p≤pz l
 | [],_,h=>by simp at h
 |q::l,p,h=>by
  rcases List.mem_cons.1 h with rfl|h
  ·simp[pz]
  ·have:=uI h;simp[pz];omega
theorem Od (l:List Attr):∀ps:List Pred,Bt l ps=ps.all (eT l)
 | []=>rfl
 |p::ps=>by rw[Bt,Od l ps,List.all_cons]
theorem Oe (l:List Attr):∀ps:List Pred,anyS l ps=ps.any (eT l)
 | []=>rfl
 |p::ps=>by rw[anyS,Oe l ps,List.any_cons]
theorem Wq {α:Type} (p:α→Bool):∀l:List α,(match l.findIdx? p with|some j=>l[j]? |none=>none)=l.find? p
 | []=>rfl
 |a::l=>by
  rw[List.findIdx?_cons,List.find?_cons]
  cases hp:p a
  ·have:=Wq p l
   simp only[Bool.false_eq_true,if_false]
   cases h:l.findIdx? p with
   |none=>rw[h] at this;simpa using this
   |some j=>rw[h] at this;simpa using this
  ·simp
theorem agY {n:Nat} {l:List Attr} {x:List UInt8} (h:l.length<n) (hb:l.length<2^62):vY n (l,x)=some (match lg l x with|some a=>(a,true)|none=>(⟨[],0,0,[]⟩,false)):=by
 have:=Br (L:=fun m i=>ED n l x m i) (l:=l) (fun d i r=>bif d.Name==x then some (.inr (i:Int)) else r) (some (.inl ()))
  (fun m i d hd=>by
    have hlt:=qI hd
    rw[V5,o9 hd,oq hd,pq (by omega)]
    simp only[cond_true,Option.bind_some,agp];rfl)
  (fun m=>by rw[V5,sK];rfl) h
 rw[agr,agq,this,Oc (fun d:Attr=>d.Name==x) (fun i=>(Sum.inr (i:Int):PUnit⊕Int)) (.inl ())]
 have hg:=Wq (fun d:Attr=>d.Name==x) l
 unfold lg
 rw[←hg]
 cases hf:l.findIdx? (fun d=>d.Name==x) with
 |none=>rfl
 |some j=>
  obtain⟨hj,_,_⟩:=List.findIdx?_eq_some_iff_getElem.1 hf
  simp only[Option.bind_some,Sum.elim_inr,Nat.zero_add]
  have e:decide (((j:Nat):Int)< (0:Int))=false:=by simp
  show (bif decide (((j:Nat):Int)< (0:Int)) then (some ((⟨[],(0:Int),(0:Int),[]⟩:Attr),false):Option (Attr×Bool)) else (dX l ((j:Nat):Int)).bind fun r4=>some (r4,true))=_
  rw[e,cond_false,Wo,List.getElem?_eq_getElem hj];rfl
theorem agZ {n:Nat} {l:List Attr} {x:List UInt8} (h:l.length<n) (hb:l.length<2^62):vZ n (l,x)=some (match lg l x with|some a=>⟨a,true⟩|none=>⟨⟨[],0,0,[]⟩,false⟩):=by
 have:=Br (L:=fun m i=>Bn n l x m (i,⟨⟨[],0,0,[]⟩,false⟩)) (l:=l) (fun d _ r=>bif d.Name==x then some (.inr ((),⟨d,true⟩)) else r) (some (.inl ((),⟨⟨[],0,0,[]⟩,false⟩)))
  (fun m i d hd=>by
    have hlt:=qI hd
    rw[V9,o9 hd,oq hd,pq (by omega)];rfl)
  (fun m=>by rw[V9,sK];rfl) h
 have key:∀(l:List Attr) (i:Nat),foldI (σ:=Unit) (fun (d:Attr) (_:Nat) (_:Unit) (k:Unit→Option ((PUnit×dz)⊕(PUnit×dz)))=>bif d.Name==x then some (.inr ((),⟨d,true⟩)) else k ()) (fun _=>some (.inl ((),⟨⟨[],0,0,[]⟩,false⟩))) i l ()=
  some (match l.find? (fun a=>a.Name==x) with|some a=>.inr ((),⟨a,true⟩)|none=>.inl ((),⟨⟨[],0,0,[]⟩,false⟩)):=by
  intro l
  induction l with
  |nil=>intro i;rfl
  |cons a l ih=>
   intro i
   show (bif a.Name==x then _ else foldI _ _ (i+1) l ())=_
   rw[List.find?_cons]
   cases a.Name==x
   ·exact ih (i+1)
   ·rfl
 have uJ:Bn n l x n ((0:Int),⟨⟨[],0,0,[]⟩,false⟩)=_:=this
 rw[agB,uJ,key l 0]
 unfold lg
 cases l.find? (fun a=>a.Name==x)<;>rfl
theorem Og {α:Type} (p:α→Bool):∀(l:List α) (i:Nat) (s:Int),0≤s→s+l.length<2^62→
 foldI (fun x _ s (k:Int→Option Int)=>bif p x then k (IntKind.wrap .i64 (s+(1:Int))) else k s) (fun s=>some s) i l s=some (s+(l.countP p:Nat))
 | [],i,s,_,_=>by simp[foldI]
 |x::l,i,s,h1,h2=>by
  simp only[List.length_cons] at h2
  have e:IntKind.wrap .i64 (s+(1:Int))=s+1:=by rw[IntKind.wrap_i64];omega
  show (bif p x then foldI _ _ (i+1) l (IntKind.wrap .i64 (s+(1:Int))) else foldI _ _ (i+1) l s)=_
  rw[List.countP_cons]
  cases hp:p x
  ·rw[cond_false,Og p l (i+1) s h1 (by omega)];simp
  ·rw[cond_true,e,Og p l (i+1) (s+1) (by omega) (by omega)]
   simp;omega
theorem Ws {n:Nat} {l:List Attr} (h:l.length<n) (hb:l.length<2^62):∀(g:Nat) (p:Pred),bV p≤g→bV p<n→bV p<2^62→Bg n g (p,l)=some (eT l p)
 |0,p,hg,_,_=>by have:=wu p;omega
 |g+1,p,hg,hn,hp=>by
  have hs:=wz p
  have hlen:=uH p.aG
  have:=Oa (L:=fun m s i=>yx n g p l m (s,i)) (l:=p.aG) (fun x _ s k=>bif eT l x then k (IntKind.wrap .i64 (s+(1:Int))) else k s) (fun s=>some s)
   (fun m i x s hx=>by
     have hlt:=qI hx
     have hm:x∈p.aG:=List.mem_of_getElem? hx
     have hsz:=uI hm
     rw[Wd,o9 hx,oq hx,pq (by omega)]
     simp only[cond_true,Option.bind_some,Pred.jZ]
     rw[Ws h hb g x (by omega) (by omega) (by omega)];rfl)
   (fun m s=>by rw[Wd,sK];rfl) (fun x i s k k' hk=>by rw[hk,hk]) p.aG.length 0 n (0:Int) (by omega) (by omega)
  rw[List.drop_zero,Og (eT l) p.aG 0 0 (by omega) (by omega)] at this
  have uJ:yx n g p l n ((0:Int),(0:Int))=_:=this
  rw[agC,uJ,Option.bind_some]
  have hget:=agZ (n:=n) (l:=l) (x:=p.Name) h hb
  have e1:(0+((p.aG.countP (eT l):Nat):Int)==(((p.aG.length:Nat)):Int))=Bt l p.aG:=by
   rw[Od,Bool.eq_iff_iff,beq_iff_eq,List.all_eq_true,Int.zero_add,Int.natCast_inj,List.countP_eq_length]
  have e2:decide (0+((p.aG.countP (eT l):Nat):Int)> (0:Int))=anyS l p.aG:=by
   rw[Oe,Bool.eq_iff_iff,decide_eq_true_iff,List.any_eq_true]
   have:=List.countP_pos_iff (p:=eT l) (l:=p.aG)
   constructor
   ·intro h;exact this.1 (by omega)
   ·intro h;have:=this.2 h;omega
  have e3:(0+((p.aG.countP (eT l):Nat):Int)==(0:Int))= !anyS l p.aG:=by
   rw[←e2,Bool.eq_iff_iff];simp
  cases hgA:lg l p.Name with
  |none=>
   rw[hgA] at hget
   obtain⟨op,name,a,b,s,subs⟩:=p
   change vZ n (l,name)=_ at hget
   change lg l name=_ at hgA
   dsimp only at e1 e2 e3⊢
   rw[hget]
   change (bif op==(1:Int) then _ else _)=_
   unfold eT
   simp only[e1,e2,e3,hgA]
   by_cases o1:op=1
   · (simp[o1];try rfl)
   ·by_cases o2:op=2
    · (simp[o2];try rfl)
    ·by_cases o3:op=3
     · (simp[o3];try rfl)
     ·by_cases o4:op=4
      · (simp[o4];try rfl)
      ·by_cases o5:op=5
       · (simp[o5];try rfl)
       ·by_cases o6:op=6
        · (simp[o6];try rfl)
        ·have b1:(op==(1:Int))=false:=by simpa using o1
         have b2:(op==(2:Int))=false:=by simpa using o2
         have b3:(op==(3:Int))=false:=by simpa using o3
         have b4:(op==(4:Int))=false:=by simpa using o4
         have b5:(op==(5:Int))=false:=by simpa using o5
         have b6:(op==(6:Int))=false:=by simpa using o6
         rw[b1,b2,b3,b4,b5,b6]
         by_cases o7:op=7
         · (simp[o7];try rfl)
         ·have b7:(op==(7:Int))=false:=by simpa using o7
          rw[b7]
          (simp[o1,o2,o3,o4,o5,o6,o7];try rfl)
  |some at_=>
   rw[hgA] at hget
   obtain⟨op,name,a,b,s,subs⟩:=p
   change vZ n (l,name)=_ at hget
   change lg l name=_ at hgA
   dsimp only at e1 e2 e3⊢
   rw[hget]
   change (bif op==(1:Int) then _ else _)=_
   unfold eT
   simp only[e1,e2,e3,hgA]
   by_cases o1:op=1
   · (simp[o1];try rfl)
   ·by_cases o2:op=2
    · (simp[o2];try rfl)
    ·by_cases o3:op=3
     · (simp[o3];try rfl)
     ·by_cases o4:op=4
      · (simp[o4];try rfl)
      ·by_cases o5:op=5
       · (simp[o5];try rfl)
       ·by_cases o6:op=6
        · (simp[o6];try rfl)
        ·have b1:(op==(1:Int))=false:=by simpa using o1
         have b2:(op==(2:Int))=false:=by simpa using o2
         have b3:(op==(3:Int))=false:=by simpa using o3
         have b4:(op==(4:Int))=false:=by simpa using o4
         have b5:(op==(5:Int))=false:=by simpa using o5
         have b6:(op==(6:Int))=false:=by simpa using o6
         rw[b1,b2,b3,b4,b5,b6]
         by_cases o7:op=7
         · (simp[o7];try rfl)
         ·have b7:(op==(7:Int))=false:=by simpa using o7
          rw[b7]
          (simp[o1,o2,o3,o4,o5,o6,o7];try rfl)
end Sh
end
section
open Go Go.Proofs Aq
namespace Sh
theorem ag0 {n g:Nat} {l:List Attr} {p:Pred} (hH:∀x∈p.aG,sw n g (l,x)=some (eT l x)) (hn:p.aG.length<n) (hb:p.aG.length<2^62):Ei n (g+1) (l,p)=some (Bt l p.aG):=by
 have:=Br (L:=fun m i=>EF n g l p m i) (l:=p.aG) (fun x _ r=>bif !(eT l x) then some (.inr false) else r) (some (.inl ()))
  (fun m i x hx=>by
    have hlt:=qI hx
    rw[V6,o9 hx,oq hx,pq (by omega)]
    simp only[cond_true,Option.bind_some,Pred.jZ]
    rw[hH x (List.mem_of_getElem? hx)];rfl)
  (fun m=>by rw[V6,sK];rfl) hn
 rw[agw,this,Wp (fun x=> !(eT l x)) (Sum.inr false:PUnit⊕Bool) (.inl ())]
 rw[Od]
 cases h:p.aG.any fun x=> !(eT l x)
 ·have:p.aG.all (eT l)=true:=by
   rw[List.all_eq_true];rw[List.any_eq_false] at h
   intro x hx;have:=h x hx;simpa using this
  rw[this];rfl
 ·have:p.aG.all (eT l)=false:=by
   rw[List.all_eq_false];rw[List.any_eq_true] at h
   obtain⟨x,hx,h2⟩:=h
   exact⟨x,hx,by simpa using h2⟩
  rw[this];rfl
theorem Wt {n g:Nat} {l:List Attr} {ps:List Pred} (hH:∀x∈ps,sw n g (l,x)=some (eT l x)) (hn:ps.length<n) (hb:ps.length<2^62):Ej n (g+2) (ps,(l,()))=some (anyS l ps):=by
 have:=Br (L:=fun m i=>EG n g ps l m i) (l:=ps) (fun x i r=>bif eT l x then some (.inr (i:Int)) else r) (some (.inl ()))
  (fun m i x hx=>by
    have hlt:=qI hx
    rw[V8,o9 hx,oq hx,pq (by omega)]
    simp only[cond_true,Option.bind_some,Pred.jZ]
    rw[hH x (List.mem_of_getElem? hx)];rfl)
  (fun m=>by rw[V8,sK];rfl) hn
 rw[agx,agy,this,Oc (eT l) (fun i=>(Sum.inr (i:Int):PUnit⊕Int)) (.inl ())]
 rw[Oe]
 cases hf:ps.findIdx? (eT l) with
 |none=>
  rw[List.findIdx?_eq_none_iff] at hf
  have:ps.any (eT l)=false:=by rw[List.any_eq_false];intro y hy;simpa using hf y hy
  rw[this];rfl
 |some j=>
  obtain⟨hj,h2,_⟩:=List.findIdx?_eq_some_iff_getElem.1 hf
  have:ps.any (eT l)=true:=by rw[List.any_eq_true];exact⟨ps[j],List.getElem_mem hj,h2⟩
  rw[this]
  show some (decide (((0+j:Nat):Int)≥(0:Int)))=some true
  rw[decide_eq_true (by omega)]
theorem Wu {n:Nat} {l:List Attr} (h:l.length<n) (hb:l.length<2^62):∀(k g:Nat) (p:Pred),bV p≤k→6*bV p≤g→bV p<n→bV p<2^62→sw n g (l,p)=some (eT l p)
 |0,g,p,hk,_,_,_=>by have:=wu p;omega
 |k+1,g,p,hk,hg,hn,hp=>by
  have hs:=wz p
  have hlen:=uH p.aG
  have hpos:=wu p
  obtain⟨g,rfl⟩:∃g',g=g'+6:=⟨g-6,by omega⟩
  have hsub:∀g',g≤g'→∀x∈p.aG,sw n g' (l,x)=some (eT l x):=fun g' hg' x hx=>by
   have:=uI hx
   exact Wu h hb k g' x (by omega) (by omega) (by omega) (by omega)
  have hand:=ag0 (n:=n) (g:=g+4) (l:=l) (p:=p) (hsub _ (by omega)) (by omega) (by omega)
  have hor:Bd n (g+5) (l,p)=some (anyS l p.aG):=by
   rw[V7,Wt (n:=n) (g:=g+2) (hsub _ (by omega)) (by omega) (by omega)];rfl
  have hnot:El n (g+5) (l,p)=some (!anyS l p.aG):=by
   rw[agz,Pred.jZ,V7,Wt (n:=n) (g:=g+1) (hsub _ (by omega)) (by omega) (by omega)];rfl
  have hget:=agY (n:=n) (l:=l) (x:=p.Name) h hb
  have hhas:A9 n (l,p)=some (lg l p.Name).isSome:=by
   rw[ags,hget];cases lg l p.Name<;>rfl
  have ag1:Ba n (l,p)=some (match lg l p.Name with|some a=>a.Kind==(1:Int)&& decide (a.N≥p.N)&& decide (a.N≤p.M)|none=>false):=by
   rw[agt,hget]
   cases lg l p.Name with
   |none=>rfl
   |some a=>
    change some _=some _
    congr 1
    change (bif bif bif true then a.Kind==(1:Int) else false then decide (a.N≥p.N) else false then decide (a.N≤p.M) else false)=(a.Kind==(1:Int)&& decide (a.N≥p.N)&& decide (a.N≤p.M))
    cases a.Kind==(1:Int)<;>cases decide (a.N≥p.N)<;>cases decide (a.N≤p.M)<;>rfl
  have hword:Bb n (l,p)=some (match lg l p.Name with|some a=>a.Kind==(2:Int)&& a.S==p.S|none=>false):=by
   rw[agu,hget]
   cases lg l p.Name with
   |none=>rfl
   |some a=>
    change some _=some _
    congr 1
    change (bif bif true then a.Kind==(2:Int) else false then a.S==p.S else false)=(a.Kind==(2:Int)&& a.S==p.S)
    cases a.Kind==(2:Int)<;>cases a.S==p.S<;>rfl
  have hall:A8 n (l,p)=some true:=by rw[agn]
  rw[agv]
  simp only[Pred.jZ]
  rw[hall,hand,hor,hnot,hhas,ag1,hword]
  obtain⟨op,name,a,b,s,subs⟩:=p
  unfold eT
  dsimp only
  by_cases o1:op=1
  · (simp[o1];try rfl)
  ·have b1:(op==(1:Int))=false:=by simpa using o1
   rw[b1,if_neg o1]
   by_cases o2:op=2
   · (simp[o2];try rfl)
   ·have b2:(op==(2:Int))=false:=by simpa using o2
    rw[b2,if_neg o2]
    by_cases o3:op=3
    · (simp[o3];try rfl)
    ·have b3:(op==(3:Int))=false:=by simpa using o3
     rw[b3,if_neg o3]
     by_cases o4:op=4
     · (simp[o4];try rfl)
     ·have b4:(op==(4:Int))=false:=by simpa using o4
      rw[b4,if_neg o4]
      by_cases o5:op=5
      · (simp[o5];try rfl)
      ·have b5:(op==(5:Int))=false:=by simpa using o5
       rw[b5,if_neg o5]
       by_cases o6:op=6
       · (simp[o6];try rfl)
       ·have b6:(op==(6:Int))=false:=by simpa using o6
        rw[b6,if_neg o6]
        by_cases o7:op=7
        · (simp[o7];try rfl)
        ·have b7:(op==(7:Int))=false:=by simpa using o7
         rw[b7,if_neg o7];rfl
theorem ag2 {n:Nat} {l:List Attr} {p:Pred} (h:l.length<n) (hb:l.length<2^62) (hp:6*bV p<n) (hq:bV p<2^62):Bf n (p,l)=some (eT l p):=by
 have e:Bc n (l,p)=sw n n (l,p):=by unfold Bc;rfl
 rw[agA,Pred.jZ,e,Wu h hb (bV p) n p (Nat.le_refl _) (by omega) (by omega) hq];rfl
end Sh
end
section
open Go Go.Proofs Aq
namespace Sh
def qJ:List Pred→List Pred→List Pred
 |acc,[]=>acc
 |acc,x::l=>if acc.length<1000 then qJ (acc++(pre x).take 1000) l else acc
theorem Wv:∀(l acc:List Pred),(qJ acc l).take 1000=(acc++jE l).take 1000
 | [],acc=>by simp[qJ,jE]
 |x::l,acc=>by
  rw[qJ,jE]
  split
  ·rename_i h
   rw[Wv l,←List.append_assoc]
   by_cases h2:(pre x).length≤1000
   ·rw[List.take_of_length_le h2]
   ·have l1:1000≤(acc++(pre x).take 1000).length:=by rw[List.length_append,List.length_take];omega
    have l2:1000≤(acc++pre x).length:=by rw[List.length_append];omega
    rw[List.take_append_of_le_length l1,List.take_append_of_le_length l2,List.take_append,List.take_append,List.take_take]
    congr 2;omega
  ·rename_i h
   rw[List.take_append_of_le_length (by omega)]
theorem ag3 {a:Nat} (h:a<2000):iY a 80=true:=by
 unfold iY
 rw[Bool.and_eq_true,decide_eq_true_iff,decide_eq_true_iff]
 exact⟨by omega,by omega⟩
theorem Ww {n:Nat}:∀(g:Nat) (p:Pred),bV p≤g→bV p<n→bV p<2^62→AY n g p=some ((pre p).take 1000)
 |0,p,hg,_,_=>by have:=wu p;omega
 |g+1,p,hg,hn,hp=>by
  have hs:=wz p
  have hlen:=uH p.aG
  have:=Oa (L:=fun m (s:List Pred) i=>wm n g p m (s,i)) (l:=p.aG) (fun x _ s k=>if s.length<1000 then k (s++(pre x).take 1000) else some s) (fun s=>some s)
   (fun m i x s hx=>by
     have hlt:=qI hx
     have hm:x∈p.aG:=List.mem_of_getElem? hx
     have hsz:=uI hm
     show wm n g p (m+1) (s,(i:Int))=_
     rw[V3,o9 hx,oq hx,pq (by omega)]
     simp only[cond_true,Option.bind_some,Pred.jZ]
     rw[Ww g x (by omega) (by omega) (by omega)]
     by_cases h:s.length<1000
     ·have e:decide (((s.length:Nat):Int)< (1000:Int))=true:=by simp;omega
      have hl:((pre x).take 1000).length≤1000:=by simp;omega
      rw[e,if_pos h,cond_true]
      show (bif iY (s.length+((pre x).take 1000).length) 80 then _ else none)=_
      rw[ag3 (by omega)];rfl
     ·have e:decide (((s.length:Nat):Int)< (1000:Int))=false:=by simp;omega
      rw[e,if_neg h];rfl)
   (fun m s=>by
     show wm n g p (m+1) (s,((p.aG.length:Nat):Int))=_
     rw[V3,sK];rfl) (fun x i s k k' hk=>by rw[hk]) p.aG.length 0 n [p] (by omega) (by omega)
  have key:∀(l:List Pred) (i:Nat) (s:List Pred),foldI (fun (x:Pred) (_:Nat) (s:List Pred) (k:List Pred→Option (List Pred))=>if s.length<1000 then k (s++(pre x).take 1000) else some s) (fun s=>some s) i l s=some (qJ s l):=by
   intro l
   induction l with
   |nil=>intro i s;rfl
   |cons x l ih=>
    intro i s
    show (if s.length<1000 then foldI _ _ (i+1) l (s++(pre x).take 1000) else some s)=_
    rw[qJ]
    split
    ·exact ih (i+1) _
    ·rfl
  rw[List.drop_zero,key] at this
  have uJ:wm n g p n ([p],(0:Int))=some (qJ [p] p.aG):=this
  rw[agk,Pred.jZ,uJ,Option.bind_some,pre_eq]
  have ht:=Wv p.aG [p]
  have e2:Int.toNat (1000:Int)=1000:=rfl
  by_cases h:(qJ [p] p.aG).length>1000
  ·have e:decide ((((qJ [p] p.aG).length:Nat):Int)> (1000:Int))=true:=by simp;omega
   have e3:jw (1000:Int) (qJ [p] p.aG).length=true:=by unfold jw;simp;omega
   rw[e,cond_true,e3,cond_true,e2,ht];rfl
  ·have e:decide ((((qJ [p] p.aG).length:Nat):Int)> (1000:Int))=false:=by simp;omega
   rw[e,cond_false]
   rw[List.take_of_length_le (by omega)] at ht
   rw[ht];rfl
theorem ag4 {n:Nat} {p:Pred} (hn:bV p<n) (hp:bV p<2^62):xZ n p=some ((pre p).take 1000):=by
 have e:xZ n p=AY n n p:=by unfold xZ;rfl
 rw[e,Ww n p (by omega) hn hp]
end Sh
end
section
open Go Go.Proofs Aq
namespace Sh
theorem ag5 {α β σ:Type} {L:Nat→σ→Int→Option β} {l:List α} (hs:∀m (i:Nat) x s,l[i]? =some x→(∀s,∃r,L m s ((i+1:Nat):Int)=some r)→∃r,L (m+1) s (i:Int)=some r) (hf:∀m s (i:Nat),l.length≤i→∃r,L (m+1) s (i:Int)=some r):
 ∀(k i m:Nat) (s:σ),l.length≤i+k→k<m→∃r,L m s (i:Int)=some r:=by
 intro k
 induction k with
 |zero=>
  intro i m s hi hm
  obtain⟨m,rfl⟩:∃m',m=m'+1:=⟨m-1,by omega⟩
  exact hf m s i (by omega)
 |succ k ih=>
  intro i m s hi hm
  obtain⟨m,rfl⟩:∃m',m=m'+1:=⟨m-1,by omega⟩
  by_cases h:l.length≤i
  ·exact hf m s i h
  ·exact hs m i _ s (List.getElem?_eq_getElem (by omega)) fun s=>ih (i+1) m s (by omega) (by omega)
theorem ag6 {α:Type} {l:List α} {i:Nat} (h:l.length≤i):decide ((i:Int)< ((l.length:Nat):Int))=false:=by simp;omega
theorem Wx {α:Type} {c:Bool} {a b:Option α} (ha:∃r,a=some r) (hb:∃r,b=some r):∃r,(bif c then a else b)=some r:=by
 cases c
 ·exact hb
 ·exact ha
theorem Wy {n:Nat} {p:Pred} (hn:bV p<n) (hp:bV p<2^62):vV n p=some (((((pre p).take 1000).length:Nat)):Int):=by
 rw[agl,Pred.jZ,ag4 hn hp];rfl
theorem Wz {n:Nat}:∀(g:Nat) (p:Pred) (k:Int),bV p≤g→bV p<n→bV p<2^62→∃b:Bool,AZ n g (p,k)=some b
 |0,p,k,hg,_,_=>by have:=wu p;omega
 |g+1,p,k,hg,hn,hp=>by
  have hs:=wz p
  have hlen:=uH p.aG
  obtain⟨r,hr⟩:=ag5 (L:=fun m (_:Unit) i=>wo n g p k m i) (l:=p.aG)
   (fun m i x _ hx ih=>by
     have hlt:=qI hx
     have hsz:=uI (List.mem_of_getElem? hx)
     show∃r,wo n g p k (m+1) (i:Int)=some r
     obtain⟨b,hb⟩:=Wz (n:=n) g x (IntKind.wrap .i64 (k-(1:Int))) (by omega) (by omega) (by omega)
     rw[V4,o9 hx,oq hx,pq (by omega),cond_true,Option.bind_some,Pred.jZ,hb]
     show∃r,(bif !b then _ else _)=some r
     exact Wx ⟨_,rfl⟩ (ih ()))
   (fun m _ i hi=>by
     show∃r,wo n g p k (m+1) (i:Int)=some r
     rw[V4,ag6 hi];exact⟨_,rfl⟩) p.aG.length 0 n () (by omega) (by omega)
  have hr':wo n g p k n (0:Int)=some r:=hr
  obtain⟨z,hz⟩:=agX (c:= !(decide (k< ((1:Int))))) (o:=vV n p) (d:=(0:Int)) (fun _=>⟨_,Wy hn hp⟩)
  rw[agm,Pred.jZ]
  show∃b:Bool,Option.bind (Ga _ _ _) _=some b
  rw[hz]
  show∃b:Bool,(bif _ then some false else _)=some b
  refine Wx ⟨_,rfl⟩ ?_
  rw[hr',Option.bind_some]
  cases r with
  |inl q=>exact⟨true,rfl⟩
  |inr q=>exact⟨q,rfl⟩
theorem WA {n:Nat} {p:Pred} {k:Int} (hn:bV p<n) (hp:bV p<2^62):∃b:Bool,vW n (p,k)=some b:=by
 have e:vW n (p,k)=AZ n n (p,k):=by unfold vW;rfl
 rw[e];exact Wz n p k (by omega) hn hp
theorem bs {α β:Type} {o:Option α} {a:α} {f:α→Option β} {r:Option β} (h:o=some a) (k:f a=r):o.bind f=r:=by
 rw[h];exact k
mutual
theorem WB:∀p:Pred,(pre p).length=bV p
 | ⟨op,name,n,m,s,subs⟩=>by simp only[pre,bV,List.length_cons,WC subs]
theorem WC:∀l:List Pred,(jE l).length=pz l
 | []=>rfl
 |p::l=>by simp only[jE,pz,List.length_append,WB p,WC l]
end
theorem ag7 {p:Pred} (h:bV p<2^62):AX p=some (pre p):=by
 unfold AX;rw[WB,if_pos h]
theorem WE {n:Nat}:∀(l:List Pred) (c:Nat),c<1000→uG n l ((),(c:Int))=some (if c+l.length<1000 then .inl ((),((c+l.length:Nat):Int)) else .inr ((),(1000:Int)))
 | [],c,hc=>by
   rw[agE,if_pos (by simpa using hc)];rfl
 |x::l,c,hc=>by
  have:=agF n x l (c:Int)
  rw[show uG n (x::l) ((),(c:Int))=_ from this,pq (by omega)]
  by_cases h:c+1=1000
  ·have e:((((c+1:Nat):Int))==(1000:Int))=true:=by rw[h];rfl
   rw[e,cond_true,if_neg (by simp;omega),h];rfl
  ·have e:((((c+1:Nat):Int))==(1000:Int))=false:=by simp;omega
   rw[e,cond_false]
   have:=WE (n:=n) l (c+1) (by omega)
   rw[show uG n l ((),(((c+1:Nat):Int)))=_ from this]
   have e2:c+1+l.length=c+(x::l).length:=by simp;omega
   rw[e2]
theorem ag8 {n:Nat} {p:Pred} (h:bV p<2^62):Bh n p=some ((((pre p).take 1000).length:Nat):Int):=by
 rw[agG,Pred.jZ]
 refine bs (agD n p) ?_
 show ((AX p.re).bind _).bind _=_
 rw[Pred.jZ]
 rw[ag7 h,Option.bind_some]
 have:=WE (n:=n) (pre p) 0 (by omega)
 rw[show uG n (pre p) ((),(0:Int))=_ from this,Nat.zero_add]
 by_cases c:(pre p).length<1000
 ·rw[if_pos c,List.take_of_length_le (by omega)];rfl
 ·rw[if_neg c,List.length_take,Nat.min_eq_left (by omega)];rfl
end Sh
end
section
open Go Go.Proofs Aq
namespace Sh
def lq (a b:Int):Int:=bif decide (a<b) then-1 else bif decide (a>b) then 1 else 0
def iM:List Int→Int
 | []=>0
 |x::l=>bif x !=0 then x else iM l
mutual
def eY:Pred→Pred→Int
 | ⟨o,m,a,b,s,l⟩,⟨o',m',a',b',s',l'⟩=>iM [lq o o',qp m m',lq a a',lq b b',qp s s',cmpL l l']
def cmpL:List Pred→List Pred→Int
 | [],[]=>0
 | [],_::_=> -1
 |_::_,[]=>1
 |p::l,q::m=>bif eY p q !=0 then eY p q else cmpL l m
end
def Bu (x y:Pred):List Int:=[lq x.Op y.Op,qp x.Name y.Name,lq x.N y.N,lq x.M y.M,qp x.S y.S]
theorem WG (x y:Pred):eY x y=iM (Bu x y++[cmpL x.aG y.aG]):=by cases x;cases y;rfl
theorem ag9 (l:List Int) (z:Int):iM (l++[z])=bif iM l !=0 then iM l else z:=by
 induction l with
 |nil=>
  show (bif z !=0 then z else 0)=z
  cases h:z !=0
  ·have:z=0:=by simpa using h
   rw[this];rfl
  ·rfl
 |cons x l ih=>
  show (bif x !=0 then x else iM (l++[z]))=bif (bif x !=0 then x else iM l) !=0 then (bif x !=0 then x else iM l) else z
  cases h:x !=0
  ·simp only[cond_false];exact ih
  ·simp only[cond_true,h]
theorem WH:∀a b:List UInt8,qp a b=bif Go.Op.bytesLess a b then-1 else bif !((Go.Op.bytesLess a b)||(a==b)) then 1 else 0
 | [],[]=>by rfl
 | [],_::_=>by rfl
 |_::_,[]=>by rfl
 |x::a,y::b=>by
  have ih:=WH a b
  unfold qp at ih⊢
  show (if x<y then-1 else if y<x then 1 else Lib.compareBytes a b)=_
  rw[show Go.Op.bytesLess (x::a) (y::b)=(decide (x<y)||(x==y&& Go.Op.bytesLess a b)) from rfl,ih]
  by_cases h1:x<y
  ·simp[h1]
  ·by_cases h2:y<x
   ·have h3:¬x=y:=fun e=>by subst e;exact h1 h2
    have h4:(x==y)=false:=by simpa using h3
    simp only[h1,h2,if_false,if_true,decide_false,h4,Bool.false_and,Bool.or_self,Bool.false_or,cond_false,Bool.not_false,cond_true]
    rw[show ((x::a)==(y::b))=false from by simp[h3]];rfl
   ·have h3:x=y:=by
     have e1:¬x.toNat<y.toNat:=h1
     have e2:¬y.toNat<x.toNat:=h2
     exact UInt8.toNat_inj.1 (by omega)
    subst h3
    simp[h1]
theorem Iy {n:Nat} {a b:Int}:uF n (a,b)=some (lq a b):=by
 rw[agM]
 unfold lq
 cases decide (a<b)<;>cases decide (a>b)<;>rfl
theorem WI {n:Nat} {a b:List UInt8}:yt n (a,b)=some (qp a b):=by
 rw[agN,WH]
 cases Go.Op.bytesLess a b<;>cases a==b<;>rfl
theorem Oh {n:Nat} {a b:Int}:cmp_Compare_int n (a,b)=some (lq a b):=by
 rw[agI]
 have e:∀x:Int,cmp_isNaN_int n x=some false:=fun x=>by rw[agH,bne_self_eq_false]
 rw[e a,e b]
 unfold lq
 show (bif decide (a<b) then some (-1:Int) else bif decide (a>b) then some 1 else some 0)=_
 cases decide (a<b)<;>cases decide (a>b)<;>rfl
theorem WJ {n:Nat} {a b:List UInt8}:strings_Compare n (a,b)=some (qp a b):=by
 unfold strings_Compare;rfl
theorem Oi:∀(l:List Int) (i:Nat),foldI (σ:=Unit) (fun (x:Int) (_:Nat) (_:Unit) (k:Unit→Option (PUnit⊕Int))=>bif x !=0 then some (.inr x) else k ()) (fun _=>some (.inl ())) i l ()=some (bif iM l !=0 then .inr (iM l) else .inl ())
 | [],_=>rfl
 |x::l,i=>by
  show (bif x !=0 then some (Sum.inr x) else foldI _ _ (i+1) l ())=some (bif (bif x !=0 then x else iM l) !=0 then (Sum.inr (bif x !=0 then x else iM l):PUnit⊕Int) else Sum.inl ())
  cases h:x !=0
  ·simp only[cond_false];exact Oi l (i+1)
  ·simp only[cond_true,h]
theorem aha {n:Nat} {l:List Int} (hn:l.length<n) (hb:l.length<2^62):Bj n l=some (iM l):=by
 have:=Br (L:=fun m i=>Bo n l m i) (l:=l) (fun x _ r=>bif x !=0 then some (.inr x) else r) (some (.inl ()))
  (fun m i x hx=>by
    have hlt:=qI hx
    rw[Wh,o9 hx,oq hx,pq (by omega)];rfl)
  (fun m=>by rw[Wh,sK];rfl) hn
 have uJ:Bo n l n (0:Int)=_:=this
 rw[agJ,uJ,Oi]
 cases h:iM l !=0
 ·have:iM l=0:=by simpa using h
  rw[this];rfl
 ·rfl
def yC:List Pred→List Pred→PUnit⊕Int
 | [],_=>.inl ()
 |_::_,[]=>.inr 1
 |p::l,q::m=>bif eY p q !=0 then .inr (eY p q) else yC l m
theorem WK:∀l m:List Pred,Sum.elim (fun _=>bif decide (((l.length:Nat):Int)< ((m.length:Nat):Int)) then (-1:Int) else 0) id (yC l m)=cmpL l m
 | [],[]=>by rfl
 | [],q::m=>by
   have e:decide ((([]:List Pred).length:Int)< (((q::m).length:Nat):Int))=true:=by simp
   show (bif _ then (-1:Int) else 0)= -1
   rw[e];rfl
 |p::l,[]=>by rfl
 |p::l,q::m=>by
  have ih:=WK l m
  have e:decide ((((p::l).length:Nat):Int)< (((q::m).length:Nat):Int))=decide (((l.length:Nat):Int)< ((m.length:Nat):Int)):=by
   simp only[List.length_cons];congr 1;apply propext;omega
  rw[e]
  show Sum.elim _ id (bif eY p q !=0 then .inr (eY p q) else yC l m)=bif eY p q !=0 then eY p q else cmpL l m
  cases eY p q !=0
  ·exact ih
  ·rfl
def yD:List Pred→List Pred→PUnit⊕Int
 | [],_=>.inl ()
 |_::_,[]=>.inl ()
 |p::l,q::m=>bif eY p q !=0 then .inr (eY p q) else yD l m
theorem WL:∀l m:List Pred,Sum.elim (fun _=>lq ((l.length:Nat):Int) ((m.length:Nat):Int)) id (yD l m)=cmpL l m
 | [],[]=>by rfl
 | [],q::m=>by
   have e:decide ((([]:List Pred).length:Int)< (((q::m).length:Nat):Int))=true:=by simp
   show (bif _ then (-1:Int) else _)= -1
   rw[e];rfl
 |p::l,[]=>by
  have e1:decide ((((p::l).length:Nat):Int)< ((([]:List Pred).length:Nat):Int))=false:=by rw[decide_eq_false_iff_not];simp only[List.length_cons,List.length_nil];omega
  have e2:decide ((((p::l).length:Nat):Int)> ((([]:List Pred).length:Nat):Int))=true:=by rw[decide_eq_true_iff];simp only[List.length_cons,List.length_nil];omega
  show lq (((p::l).length:Nat):Int) ((([]:List Pred).length:Nat):Int)=1
  unfold lq
  rw[e1,e2];rfl
 |p::l,q::m=>by
  have ih:=WL l m
  have e:lq (((p::l).length:Nat):Int) (((q::m).length:Nat):Int)=lq ((l.length:Nat):Int) ((m.length:Nat):Int):=by
   have e1:decide ((((p::l).length:Nat):Int)< (((q::m).length:Nat):Int))=decide (((l.length:Nat):Int)< ((m.length:Nat):Int)):=by
    simp only[List.length_cons];congr 1;apply propext;omega
   have e2:decide ((((p::l).length:Nat):Int)> (((q::m).length:Nat):Int))=decide (((l.length:Nat):Int)> ((m.length:Nat):Int)):=by
    simp only[List.length_cons];congr 1;apply propext;omega
   unfold lq;rw[e1,e2]
  rw[e]
  show Sum.elim _ id (bif eY p q !=0 then .inr (eY p q) else yD l m)=bif eY p q !=0 then eY p q else cmpL l m
  cases eY p q !=0
  ·exact ih
  ·rfl
theorem drop_cons {α:Type} {l:List α} {i:Nat} {x:α} (h:l[i]? =some x):l.drop i=x::l.drop (i+1):=by
 have hlt:=qI h
 rw[List.drop_eq_getElem_cons hlt]
 congr 1
 exact(List.getElem?_eq_some_iff.1 h).2
theorem ahb {n g:Nat} {l m:List Pred} (hH:∀x∈l,∀y∈m,yh n g (x,y)=some (eY x y)) (hl:l.length<2^62) (hm:m.length<2^62):∀(k i c:Nat),i+k=l.length→k<c→i≤m.length→
 Bp n g l m c (i:Int)=some (yC (l.drop i) (m.drop i)):=by
 intro k
 induction k with
 |zero=>
  intro i c hi hc _
  obtain⟨c,rfl⟩:∃c',c=c'+1:=⟨c-1,by omega⟩
  have:i=l.length:=by omega
  subst this
  rw[Wi,sK,List.drop_length];rfl
 |succ k ih=>
  intro i c hi hc him
  obtain⟨c,rfl⟩:∃c',c=c'+1:=⟨c-1,by omega⟩
  obtain⟨x,hx⟩:∃x,l[i]? =some x:=⟨l[i]'(by omega),by simp⟩
  rw[Wi,o9 hx,oq hx,drop_cons hx]
  by_cases hge:m.length≤i
  ·have e:decide (((i:Nat):Int)≥((m.length:Nat):Int))=true:=by simp;omega
   have:m.drop i=[]:=List.drop_eq_nil_of_le hge
   rw[this]
   show (bif decide (((i:Nat):Int)≥((m.length:Nat):Int)) then _ else _)=_
   rw[e];rfl
  ·have e:decide (((i:Nat):Int)≥((m.length:Nat):Int))=false:=by simp;omega
   obtain⟨y,hy⟩:∃y,m[i]? =some y:=⟨m[i]'(by omega),by simp⟩
   rw[drop_cons hy]
   show (bif decide (((i:Nat):Int)≥((m.length:Nat):Int)) then _ else _)=_
   rw[e,cond_false]
   refine bs (oq hy) ?_
   rw[Pred.jZ,Pred.jZ]
   refine bs (hH x (List.mem_of_getElem? hx) y (List.mem_of_getElem? hy)) ?_
   rw[pq (by omega),ih (i+1) c (by omega) (by omega) (by omega)]
   show _=some (bif eY x y !=0 then .inr (eY x y) else yC (l.drop (i+1)) (m.drop (i+1)))
   cases eY x y !=0<;>rfl
theorem WM {n:Nat} (hn:8<n):∀(k g:Nat) (x y:Pred),bV x≤k→2*bV x≤g→bV x<n→bV x<2^62→bV y<2^62→yh n g (x,y)=some (eY x y)
 |0,g,x,y,hk,_,_,_,_=>by have:=wu x;omega
 |k+1,g,x,y,hk,hg,hxn,hx,hy=>by
  have hs:=wz x
  have hlen:=uH x.aG
  have hs':=wz y
  have hlen':=uH y.aG
  obtain⟨g,rfl⟩:∃g',g=g'+2:=⟨g-2,by omega⟩
  have hL:=ahb (n:=n) (g:=g) (l:=x.aG) (m:=y.aG) (fun a ha b hb=>by
   have h1:=uI ha
   have h2:=uI hb
   exact WM hn k g a b (by omega) (by omega) (by omega) (by omega) (by omega)) (by omega) (by omega) x.aG.length 0 n (by omega) (by omega) (Nat.zero_le _)
  have hL':Bp n g x.aG y.aG n (0:Int)=some (yC x.aG y.aG):=hL
  have hF:EA n (g+1) (x.aG,(y.aG,((),())))=some (cmpL x.aG y.aG):=by
   rw[agL,hL',←WK]
   cases yC x.aG y.aG with
   |inl u=>
    show (bif decide (((x.aG.length:Nat):Int)< ((y.aG.length:Nat):Int)) then some (-1:Int) else some 0)=some (bif decide (((x.aG.length:Nat):Int)< ((y.aG.length:Nat):Int)) then (-1:Int) else 0)
    cases decide (((x.aG.length:Nat):Int)< ((y.aG.length:Nat):Int))<;>rfl
   |inr v=>rfl
  rw[agK,WG]
  refine bs Oh (bs WJ (bs Oh (bs Oh (bs WJ ?_))))
  refine bs hF ?_
  refine bs (aha (show 6<n by omega) (show 6<2^62 by decide)) ?_
  rfl
theorem ahc {n g:Nat} {x y:Pred} {a b c d e:Int} (hn:8<n):yA n g x y a b c d e n (0:Int)=some (bif iM [a,b,c,d,e] !=0 then .inr (iM [a,b,c,d,e]) else .inl ()):=by
 have:=Br (L:=fun m i=>yA n g x y a b c d e m i) (l:=[a,b,c,d,e]) (fun x _ r=>bif x !=0 then some (.inr x) else r) (some (.inl ()))
  (fun m i x hx=>by
    have hlt:=qI hx
    simp only[List.length_cons,List.length_nil] at hlt
    rw[Wj,o9 hx,oq hx,pq (by omega)];rfl)
  (fun m=>by rw[Wj,sK];rfl) (show 5<n by omega)
 have uJ:yA n g x y a b c d e n (0:Int)=_:=this
 rw[uJ,Oi]
theorem ahd {n g:Nat} {p q:Pred} (hH:∀x∈p.aG,∀y∈q.aG,yu n g (x,y)=some (eY x y)) (hl:p.aG.length<2^62) (hm:q.aG.length<2^62):∀(k i c:Nat),i+k=p.aG.length→k<c→i≤q.aG.length→
 yB n g p q c (i:Int)=some (yD (p.aG.drop i) (q.aG.drop i)):=by
 intro k
 induction k with
 |zero=>
  intro i c hi hc _
  obtain⟨c,rfl⟩:∃c',c=c'+1:=⟨c-1,by omega⟩
  have:i=p.aG.length:=by omega
  subst this
  rw[Wm,sK,List.drop_length];rfl
 |succ k ih=>
  intro i c hi hc him
  obtain⟨c,rfl⟩:∃c',c=c'+1:=⟨c-1,by omega⟩
  obtain⟨x,hx⟩:∃x,p.aG[i]? =some x:=⟨p.aG[i]'(by omega),by simp⟩
  rw[Wm,o9 hx,cond_true,drop_cons hx]
  by_cases hge:q.aG.length≤i
  ·have e:decide (((i:Nat):Int)< ((q.aG.length:Nat):Int))=false:=by simp;omega
   have:q.aG.drop i=[]:=List.drop_eq_nil_of_le hge
   rw[this,e];rfl
  ·obtain⟨y,hy⟩:∃y,q.aG[i]? =some y:=⟨q.aG[i]'(by omega),by simp⟩
   rw[drop_cons hy,o9 hy,cond_true]
   refine bs (oq hx) (bs (oq hy) ?_)
   rw[Pred.jZ,Pred.jZ]
   refine bs (hH x (List.mem_of_getElem? hx) y (List.mem_of_getElem? hy)) ?_
   rw[pq (by omega),ih (i+1) c (by omega) (by omega) (by omega)]
   show _=some (bif eY x y !=0 then .inr (eY x y) else yD (p.aG.drop (i+1)) (q.aG.drop (i+1)))
   cases eY x y !=0<;>rfl
theorem WO {n:Nat} (hn:8<n):∀(g:Nat) (x y:Pred),bV x≤g→bV x<n→bV x<2^62→bV y<2^62→yu n g (x,y)=some (eY x y)
 |0,x,y,hg,_,_,_=>by have:=wu x;omega
 |g+1,x,y,hg,hxn,hx,hy=>by
  have hs:=wz x
  have hlen:=uH x.aG
  have hs':=wz y
  have hlen':=uH y.aG
  have hL:=ahd (n:=n) (g:=g) (p:=x) (q:=y) (fun a ha b hb=>by
   have h1:=uI ha
   have h2:=uI hb
   exact WO hn g a b (by omega) (by omega) (by omega) (by omega)) (by omega) (by omega) x.aG.length 0 n (by omega) (by omega) (Nat.zero_le _)
  have hL':yB n g x y n (0:Int)=some (yD x.aG y.aG):=hL
  rw[agP,WG,ag9]
  refine bs Iy (bs WI (bs Iy (bs Iy (bs WI ?_))))
  refine bs (ahc hn) ?_
  show Sum.elim _ _ (bif iM (Bu x y) !=0 then .inr (iM (Bu x y)) else .inl ())=some (bif iM (Bu x y) !=0 then iM (Bu x y) else cmpL x.aG y.aG)
  cases iM (Bu x y) !=0
  ·show (yB n g x y n (0:Int)).bind _=some (cmpL x.aG y.aG)
   refine bs hL' ?_
   rw[←WL]
   cases yD x.aG y.aG with
   |inl u=>
    exact bs Iy rfl
   |inr v=>rfl
  ·rfl
theorem ahe {n:Nat} {x y:Pred} (hn:8<n) (hx:2*bV x<n) (hx2:bV x<2^62) (hy:bV y<2^62):yj n (x,y)=some (eY x y)∧yw n (x,y)=some (eY x y):=by
 have e1:yj n (x,y)=yh n n (x,y):=by unfold yj;rfl
 have e2:yw n (x,y)=yu n n (x,y):=by unfold yw;rfl
 rw[e1,e2]
 exact⟨WM hn (bV x) n x y (Nat.le_refl _) (by omega) (by omega) hx2 hy,WO hn n x y (by omega) (by omega) hx2 hy⟩
end Sh
end
section
open Go Go.Proofs Aq
namespace Sh
theorem ahf {α:Type} (f:α→V) (hf:∀x,1≤mQ (f x)) (l:List α):l.length≤nU (l.map f):=by
 induction l with
 |nil=>exact Nat.zero_le _
 |cons x l ih=>
  have:=hf x
  show l.length+1≤mQ (f x)+nU (l.map f)
  omega
mutual
theorem WQ:∀p:Pred,bV p≤mQ (Pred.vr p)
 | ⟨op,name,n,m,s,subs⟩=>by
   have:=WR subs
   simp only[bV,Pred.vr,mQ,nU]
   omega
theorem WR:∀l:List Pred,pz l≤nU (Pred.vl l)
 | []=>Nat.zero_le _
 |p::l=>by
  have:=WQ p
  have:=WR l
  simp only[pz,Pred.vl,nU]
  omega
end
theorem WS (x:Pred):bV x≤gP (Pred.v x):=by
 rw[←Pred.Mx];exact Nat.le_trans (WQ x) (Mr _)
theorem ahg (l:List Attr):l.length≤gP (lv Attr.v l):=by
 have h:=ahf Attr.v (fun x=>by
  show 1≤nU x.c
  unfold Attr.c
  simp only[nU,mQ];omega) l
 have h2:mQ (lv Attr.v l)≤gP (lv Attr.v l):=Mr _
 have h3:mQ (lv Attr.v l)=nU (l.map Attr.v)+1:=rfl
 omega
theorem ahh {n:Nat} {x y:Pred} {l:List Attr} (hx:6*bV x<n) (hx2:bV x<2^62) (hy:6*bV y<n) (hy2:bV y<2^62) (hl:l.length<n) (hl2:l.length<2^62) (hn:8<n):Iw n (x,(y,l))=some true:=by
 rw[agU]
 simp only[Pred.jZ]
 obtain⟨b1,h1⟩:=WA (n:=n) (p:=x) (k:=100) (by omega) hx2
 obtain⟨b2,h2⟩:=WA (n:=n) (p:=y) (k:=100) (by omega) hy2
 have hs:vX n ()=some true:=aeZ n ()
 have hH1:=ag2 (n:=n) (l:=l) (p:=x) hl hl2 hx hx2
 have hH2:x9 n (x,l)=some (eT l x):=by
  have e:x9 n (x,l)=Bg n n (x,l):=by unfold x9;rfl
  rw[e];exact Ws hl hl2 n x (by omega) (by omega) hx2
 have hS1:=ag8 (n:=n) (p:=x) hx2
 have hS2:=Wy (n:=n) (p:=x) (by omega) hx2
 obtain⟨hC1,hC2⟩:=ahe (n:=n) (x:=x) (y:=y) hn (by omega) hx2 hy2
 refine bs h1 (bs h2 ?_)
 generalize (bif bif !b1 then true else !b2 then true else decide (((l.length:Nat):Int)> (20:Int)))=c
 cases c
 ·simp only[cond_false]
  refine bs hs ?_
  simp only[cond_true]
  refine bs hH1 (bs hH2 ?_)
  have e1:(eT l x==eT l x)=true:=beq_self_eq_true _
  show (bif eT l x==eT l x then _ else _)=_
  rw[e1,cond_true]
  refine bs hS1 (bs hS2 ?_)
  have e2:(((((pre x).take 1000).length:Nat):Int)==((((pre x).take 1000).length:Nat):Int))=true:=beq_self_eq_true _
  show (bif ((((pre x).take 1000).length:Nat):Int)==((((pre x).take 1000).length:Nat):Int) then _ else _)=_
  rw[e2,cond_true]
  refine bs hC1 (bs hC2 ?_)
  have e3:(eY x y==eY x y)=true:=beq_self_eq_true _
  show some (eY x y==eY x y)=_
  rw[e3]
 ·simp only[cond_true]
  exact bs hs rfl
end Sh
end
