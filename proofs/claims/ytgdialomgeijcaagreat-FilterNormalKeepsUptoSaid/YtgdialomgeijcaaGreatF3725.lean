import Derived.IntWalk
import Derived.Test.YtgdialomgeijcaaGreatF3724
set_option linter.all false
open Go.IntKind (wrap)
section
open Go Go.Proofs Aq
namespace Sh
theorem idxL_nat {α:Type} (l:List α) (i:Nat):idxL l (i:Int)=l[i]? :=by
 unfold idxL
 by_cases h:i<l.length
 ·rw[if_pos ⟨by omega,by omega⟩];simp
 ·rw[if_neg (by omega)];simp;omega
theorem idxL_of {α:Type} {l:List α} {i:Nat} {x:α} (h:l[i]? =some x):idxL l (i:Int)=some x:=by rw[idxL_nat,h]
theorem lt_of_get {α:Type} {l:List α} {i:Nat} {x:α} (h:l[i]? =some x):i<l.length:=by
 rw[SH] at h;exact h.1
theorem dec_of {α:Type} {l:List α} {i:Nat} {x:α} (h:l[i]? =some x):decide ((i:Int)< (l.length:Int))=true:=by
 have:=lt_of_get h;simp;omega
theorem dec_end {α:Type} (l:List α):decide ((l.length:Int)< (l.length:Int))=false:=by simp
theorem wrap_succ {i:Nat} (h:i<2^62):wrap .i64 ((i:Int)+(1:Int))=((i+1:Nat):Int):=by
 rw[IntKind.wrap_i64];omega
def foldI {α β σ:Type} (step:α->Nat->σ->(σ->β)->β) (fin:σ->β):Nat->List α->σ->β
 |_,[],s=>fin s
 |i,x::l,s=>step x i s fun s=>foldI step fin (i+1) l s
theorem loop_st {α β σ:Type} {L:Nat->σ->Int->Option β} {l:List α} (step:α->Nat->σ->(σ->Option β)->Option β) (fin:σ->Option β)
 (hs:∀m (i:Nat) x s,l[i]? =some x->L (m+1) s (i:Int)=step x i s fun s=>L m s ((i+1:Nat):Int)) (hf:∀m s,L (m+1) s (l.length:Int)=fin s)
 (hc:∀x (i:Nat) s k k',(∀s,k s=k' s)->step x i s k=step x i s k'):∀(k i m:Nat) (s:σ),i+k=l.length->k<m->L m s (i:Int)=foldI step fin i (l.drop i) s:=by
 intro k
 induction k with
 |zero=>
  intro i m s hi hm
  obtain⟨m,rfl⟩:∃m',m=m'+1:=⟨m-1,by omega⟩
  obtain rfl:i=l.length:=by omega
  rw[hf,List.drop_length];rfl
 |succ k ih=>
  intro i m s hi hm
  obtain⟨m,rfl⟩:∃m',m=m'+1:=⟨m-1,by omega⟩
  have hlt:i<l.length:=by omega
  have hx:l[i]? =some l[i]:=Sc hlt
  rw[hs m i l[i] s hx,Tz hlt]
  exact hc _ _ _ _ _ fun s=>ih (i+1) m s (by omega) (by omega)
theorem loop_ix {α β:Type} {L:Nat->Int->Option β} {l:List α} (step:α->Nat->Option β->Option β) (fin:Option β)
 (hs:∀m (i:Nat) x,l[i]? =some x->L (m+1) (i:Int)=step x i (L m ((i+1:Nat):Int))) (hf:∀m,L (m+1) (l.length:Int)=fin) {m:Nat} (hm:l.length<m):
 L m (0:Int)=foldI (σ:=Unit) (fun x i _ k=>step x i (k ())) (fun _=>fin) 0 l ():=by
 have:=loop_st (L:=fun m (_:Unit) i=>L m i) (l:=l) (fun x i _ k=>step x i (k ())) (fun _=>fin) (fun m i x _ h=>hs m i x h) (fun m _=>hf m) (fun x i s k k' h=>by rw[h]) l.length 0 m () (by omega) hm
 simpa using this
theorem foldI_find {α:Type} {γ:Type} (p:α->Bool) (f:Nat->γ) (z:γ):∀(l:List α) (i:Nat),foldI (σ:=Unit) (fun x i _ (k:Unit->Option γ)=>bif p x then some (f i) else k ()) (fun _=>some z) i l ()=some (match l.findIdx? p with|some j=>f (i+j)|none=>z)
 | [],i=>rfl
 |x::l,i=>by
  show (bif p x then some (f i) else foldI _ _ (i+1) l ())=_
  rw[List.findIdx?_cons]
  cases hp:p x
  ·rw[cond_false,foldI_find p f z l (i+1)]
   simp only[RH,if_false]
   cases l.findIdx? p with
   |none=>rfl
   |some j=>simp only[Option.map_some];rw[Nat.add_right_comm,Sy]
  ·simp
theorem whenO_total {α:Type} {c:Bool} {o:Option α} {d:α} (h:c=true->∃x,o=some x):∃x,whenO c o d=some x:=by
 cases c
 ·exact⟨d,rfl⟩
 ·exact h rfl
theorem foldI_any {α γ:Type} (p:α->Bool) (f z:γ):∀(l:List α) (i:Nat),foldI (σ:=Unit) (fun x _ _ (k:Unit->Option γ)=>bif p x then some f else k ()) (fun _=>some z) i l ()=some (bif l.any p then f else z)
 | [],i=>rfl
 |x::l,i=>by
  show (bif p x then some f else foldI _ _ (i+1) l ())=_
  rw[List.any_cons]
  cases p x
  ·exact foldI_any p f z l (i+1)
  ·rfl
def getA (l:List Attr) (x:List UInt8):Option Attr:=l.find? fun a=>a.Name==x
mutual
def holdsS (l:List Attr):Pred->Bool
 | ⟨op,name,n,m,s,subs⟩=>
   if op=1 then true else if op=2 then allS l subs else if op=3 then anyS l subs else if op=4 then !anyS l subs else
   if op=5 then (getA l name).isSome else
   if op=6 then (match getA l name with|some a=>a.Kind==(1:Int)&& decide (a.N>=n)&& decide (a.N<=m)|none=>false) else
   if op=7 then (match getA l name with|some a=>a.Kind==(2:Int)&& a.S==s|none=>false) else false
def allS (l:List Attr):List Pred->Bool
 | []=>true
 |p::ps=>holdsS l p&& allS l ps
def anyS (l:List Attr):List Pred->Bool
 | []=>false
 |p::ps=>holdsS l p||anyS l ps
end
mutual
def szP:Pred->Nat
 | ⟨_,_,_,_,_,subs⟩=>szL subs+1
def szL:List Pred->Nat
 | []=>0
 |p::ps=>szP p+szL ps
end
theorem szP_pos (p:Pred):1<=szP p:=by cases p;simp[szP]
theorem szP_subs (p:Pred):szP p=szL p.Subs+1:=by cases p;simp[szP]
theorem szL_len:∀l:List Pred,l.length<=szL l
 | []=>by simp
 |p::l=>by have:=szL_len l;have:=szP_pos p;simp[szL];omega
theorem szL_mem:∀{l:List Pred} {p:Pred},p∈l->szP p<=szL l
 | [],_,h=>by simp at h
 |q::l,p,h=>by
  rcases RL.1 h with rfl|h
  ·simp[szL]
  ·have:=szL_mem h;simp[szL];omega
theorem allS_eq (l:List Attr):∀ps:List Pred,allS l ps=ps.all (holdsS l)
 | []=>rfl
 |p::ps=>by rw[allS,allS_eq l ps,List.all_cons]
theorem anyS_eq (l:List Attr):∀ps:List Pred,anyS l ps=ps.any (holdsS l)
 | []=>rfl
 |p::ps=>by rw[anyS,anyS_eq l ps,List.any_cons]
theorem get_find {α:Type} (p:α->Bool):∀l:List α,(match l.findIdx? p with|some j=>l[j]? |none=>none)=l.find? p
 | []=>rfl
 |a::l=>by
  rw[List.findIdx?_cons,List.find?_cons]
  cases hp:p a
  ·have:=get_find p l
   simp only[RH,if_false]
   cases h:l.findIdx? p with
   |none=>rw[h] at this;simpa using this
   |some j=>rw[h] at this;simpa using this
  ·simp
theorem ZL_spec {n:Nat} {l:List Attr} {x:List UInt8} (h:l.length<n) (hb:l.length<2^62):ZL n (l,x)=some (match getA l x with|some a=>(a,true)|none=>(⟨[],0,0,[]⟩,false)):=by
 have:=loop_ix (L:=fun m i=>ZC_L2 n l x m i) (l:=l) (fun d i r=>bif d.Name==x then some (.inr (i:Int)) else r) (some (.inl ()))
  (fun m i d hd=>by
    have hlt:=lt_of_get hd
    rw[ZC_L2_s,dec_of hd,idxL_of hd,wrap_succ (by omega)]
    simp only[cond_true,Option.bind_some,Xh_eq];rfl)
  (fun m=>by rw[ZC_L2_s,dec_end];rfl) h
 rw[ZL_eq,ZC_eq,this,foldI_find (fun d:Attr=>d.Name==x) (fun i=>(Sum.inr (i:Int):PUnit⊕Int)) (.inl ())]
 have hg:=get_find (fun d:Attr=>d.Name==x) l
 unfold getA
 rw[<-hg]
 cases hf:l.findIdx? (fun d=>d.Name==x) with
 |none=>rfl
 |some j=>
  obtain⟨hj,_,_⟩:=List.findIdx?_eq_some_iff_getElem.1 hf
  simp only[Option.bind_some,Sum.elim_inr,Sr]
  have e:decide (((j:Nat):Int)< (0:Int))=false:=by simp
  show (bif decide (((j:Nat):Int)< (0:Int)) then (some ((⟨[],(0:Int),(0:Int),[]⟩:Attr),false):Option (Attr×Bool)) else (idxL l ((j:Nat):Int)).bind fun r4=>some (r4,true))=_
  rw[e,cond_false,idxL_nat,Sc hj];rfl
end Sh
end
section
open Go Go.Proofs Aq
namespace Sh
theorem all_loop {n g:Nat} {l:List Attr} {p:Pred} (hH:∀x∈p.Subs,Zi_m n g (l,x)=some (holdsS l x)) (hn:p.Subs.length<n) (hb:p.Subs.length<2^62):Zh_m n (g+1) (l,p)=some (allS l p.Subs):=by
 have:=loop_ix (L:=fun m i=>Zh_m_L2 n g l p m i) (l:=p.Subs) (fun x _ r=>bif !(holdsS l x) then some (.inr false) else r) (some (.inl ()))
  (fun m i x hx=>by
    have hlt:=lt_of_get hx
    rw[Zh_m_L2_s,dec_of hx,idxL_of hx,wrap_succ (by omega)]
    simp only[cond_true,Option.bind_some,Pred.re_eq]
    rw[hH x (Sw hx)];rfl)
  (fun m=>by rw[Zh_m_L2_s,dec_end];rfl) hn
 rw[Zh_m_eq,this,foldI_any (fun x=>!(holdsS l x)) (Sum.inr false:PUnit⊕Bool) (.inl ())]
 rw[allS_eq]
 cases h:p.Subs.any fun x=>!(holdsS l x)
 ·have:p.Subs.all (holdsS l)=true:=by
   rw[RZ];rw[List.any_eq_false] at h
   intro x hx;have:=h x hx;simpa using this
  rw[this];rfl
 ·have:p.Subs.all (holdsS l)=false:=by
   rw[List.all_eq_false];rw[List.any_eq_true] at h
   obtain⟨x,hx,h2⟩:=h
   exact⟨x,hx,by simpa using h2⟩
  rw[this];rfl
theorem any_loop {n g:Nat} {l:List Attr} {ps:List Pred} (hH:∀x∈ps,Zi_m n g (l,x)=some (holdsS l x)) (hn:ps.length<n) (hb:ps.length<2^62):Zq_m n (g+2) (ps,(l,()))=some (anyS l ps):=by
 have:=loop_ix (L:=fun m i=>Zj_m_L2 n g ps l m i) (l:=ps) (fun x i r=>bif holdsS l x then some (.inr (i:Int)) else r) (some (.inl ()))
  (fun m i x hx=>by
    have hlt:=lt_of_get hx
    rw[Zj_m_L2_s,dec_of hx,idxL_of hx,wrap_succ (by omega)]
    simp only[cond_true,Option.bind_some,Pred.re_eq]
    rw[hH x (Sw hx)];rfl)
  (fun m=>by rw[Zj_m_L2_s,dec_end];rfl) hn
 rw[Zq_m_eq,Zj_m_eq,this,foldI_find (holdsS l) (fun i=>(Sum.inr (i:Int):PUnit⊕Int)) (.inl ())]
 rw[anyS_eq]
 cases hf:ps.findIdx? (holdsS l) with
 |none=>
  rw[List.findIdx?_eq_none_iff] at hf
  have:ps.any (holdsS l)=false:=by rw[List.any_eq_false];intro y hy;simpa using hf y hy
  rw[this];rfl
 |some j=>
  obtain⟨hj,h2,_⟩:=List.findIdx?_eq_some_iff_getElem.1 hf
  have:ps.any (holdsS l)=true:=by rw[List.any_eq_true];exact⟨ps[j],SI hj,h2⟩
  rw[this]
  show some (decide (((0+j:Nat):Int)>=(0:Int)))=some true
  rw[decide_eq_true (by omega)]
theorem Zi_m_spec {n:Nat} {l:List Attr} (h:l.length<n) (hb:l.length<2^62):∀(k g:Nat) (p:Pred),szP p<=k->6*szP p<=g->szP p<n->szP p<2^62->Zi_m n g (l,p)=some (holdsS l p)
 |0,g,p,hk,_,_,_=>by have:=szP_pos p;omega
 |k+1,g,p,hk,hg,hn,hp=>by
  have hs:=szP_subs p
  have hlen:=szL_len p.Subs
  have hpos:=szP_pos p
  obtain⟨g,rfl⟩:∃g',g=g'+6:=⟨g-6,by omega⟩
  have hsub:∀g',g<=g'->∀x∈p.Subs,Zi_m n g' (l,x)=some (holdsS l x):=fun g' hg' x hx=>by
   have:=szL_mem hx
   exact Zi_m_spec h hb k g' x (by omega) (by omega) (by omega) (by omega)
  have hand:=all_loop (n:=n) (g:=g+4) (l:=l) (p:=p) (hsub _ (by omega)) (by omega) (by omega)
  have hor:Zp_m n (g+5) (l,p)=some (anyS l p.Subs):=by
   rw[Zp_m_eq,any_loop (n:=n) (g:=g+2) (hsub _ (by omega)) (by omega) (by omega)];rfl
  have hnot:Zr_m n (g+5) (l,p)=some (!anyS l p.Subs):=by
   rw[Zr_m_eq,Pred.re_eq,Zp_m_eq,any_loop (n:=n) (g:=g+1) (hsub _ (by omega)) (by omega) (by omega)];rfl
  have hget:=ZL_spec (n:=n) (l:=l) (x:=p.Name) h hb
  have hhas:ZZ n (l,p)=some (getA l p.Name).isSome:=by
   rw[ZZ_eq,hget];cases getA l p.Name<;>rfl
  have hnum:Xa n (l,p)=some (match getA l p.Name with|some a=>a.Kind==(1:Int)&& decide (a.N>=p.N)&& decide (a.N<=p.M)|none=>false):=by
   rw[Xa_eq,hget]
   cases getA l p.Name with
   |none=>rfl
   |some a=>
    change some _=some _
    congr 1
    change (bif bif bif true then a.Kind==(1:Int) else false then decide (a.N>=p.N) else false then decide (a.N<=p.M) else false)=(a.Kind==(1:Int)&& decide (a.N>=p.N)&& decide (a.N<=p.M))
    cases a.Kind==(1:Int)<;>cases decide (a.N>=p.N)<;>cases decide (a.N<=p.M)<;>rfl
  have hword:Xb n (l,p)=some (match getA l p.Name with|some a=>a.Kind==(2:Int)&& a.S==p.S|none=>false):=by
   rw[Xb_eq,hget]
   cases getA l p.Name with
   |none=>rfl
   |some a=>
    change some _=some _
    congr 1
    change (bif bif true then a.Kind==(2:Int) else false then a.S==p.S else false)=(a.Kind==(2:Int)&& a.S==p.S)
    cases a.Kind==(2:Int)<;>cases a.S==p.S<;>rfl
  have hall:ZY n (l,p)=some true:=by rw[ZY_eq]
  rw[Zi_m_eq]
  simp only[Pred.re_eq]
  rw[hall,hand,hor,hnot,hhas,hnum,hword]
  obtain⟨op,name,a,b,s,subs⟩:=p
  unfold holdsS
  dsimp only
  by_cases o1:op=1
  · (simp[o1];try rfl)
  ·have b1:(op==(1:Int))=false:=by simpa using o1
   rw[b1,if_neg o1]
   by_cases o2:op=2
   · (simp[o2];try rfl)
   ·have b2:(op==(2:Int))=false:=by simpa using o2
    rw[b2,if_neg o2]
    by_cases o3:op=3
    · (simp[o3];try rfl)
    ·have b3:(op==(3:Int))=false:=by simpa using o3
     rw[b3,if_neg o3]
     by_cases o4:op=4
     · (simp[o4];try rfl)
     ·have b4:(op==(4:Int))=false:=by simpa using o4
      rw[b4,if_neg o4]
      by_cases o5:op=5
      · (simp[o5];try rfl)
      ·have b5:(op==(5:Int))=false:=by simpa using o5
       rw[b5,if_neg o5]
       by_cases o6:op=6
       · (simp[o6];try rfl)
       ·have b6:(op==(6:Int))=false:=by simpa using o6
        rw[b6,if_neg o6]
        by_cases o7:op=7
        · (simp[o7];try rfl)
        ·have b7:(op==(7:Int))=false:=by simpa using o7
         rw[b7,if_neg o7];rfl
theorem ZJ_spec {n:Nat} {l:List Attr} {p:Pred} (h:l.length<n) (hb:l.length<2^62) (hp:6*szP p<n) (hq:szP p<2^62):ZJ n (p,l)=some (holdsS l p):=by
 have e:Zi n (l,p)=Zi_m n n (l,p):=by unfold Zi;rfl
 rw[ZJ_eq,Pred.re_eq,e,Zi_m_spec h hb (szP p) n p (mF _) (by omega) (by omega) hq];rfl
def accS:List Pred->List Pred->List Pred
 |acc,[]=>acc
 |acc,x::l=>if acc.length<1000 then accS (acc++(pre x).take 1000) l else acc
theorem accS_take:∀(l acc:List Pred),(accS acc l).take 1000=(acc++preL l).take 1000
 | [],acc=>by simp[accS,preL]
 |x::l,acc=>by
  rw[accS,preL]
  split
  ·rename_i h
   rw[accS_take l,<-Si]
   by_cases h2:(pre x).length<=1000
   ·rw[R7 h2]
   ·have l1:1000<=(acc++(pre x).take 1000).length:=by rw[RY,R3];omega
    have l2:1000<=(acc++pre x).length:=by rw[RY];omega
    rw[Td l1,Td l2,List.take_append,List.take_append,List.take_take]
    congr 2;omega
  ·rename_i h
   rw[Td (by omega)]
theorem room_2000 {a:Nat} (h:a<2000):roomOK a 80=true:=by
 unfold roomOK
 rw[RD,decide_eq_true_iff,decide_eq_true_iff]
 exact⟨by omega,by omega⟩
theorem Zb_m_spec {n:Nat}:∀(g:Nat) (p:Pred),szP p<=g->szP p<n->szP p<2^62->Zb_m n g p=some ((pre p).take 1000)
 |0,p,hg,_,_=>by have:=szP_pos p;omega
 |g+1,p,hg,hn,hp=>by
  have hs:=szP_subs p
  have hlen:=szL_len p.Subs
  have:=loop_st (L:=fun m (s:List Pred) i=>Zb_m_L3 n g p m (s,i)) (l:=p.Subs) (fun x _ s k=>if s.length<1000 then k (s++(pre x).take 1000) else some s) (fun s=>some s)
   (fun m i x s hx=>by
     have hlt:=lt_of_get hx
     have hm:x∈p.Subs:=Sw hx
     have hsz:=szL_mem hm
     show Zb_m_L3 n g p (m+1) (s,(i:Int))=_
     rw[Zb_m_L3_s,dec_of hx,idxL_of hx,wrap_succ (by omega)]
     simp only[cond_true,Option.bind_some,Pred.re_eq]
     rw[Zb_m_spec g x (by omega) (by omega) (by omega)]
     by_cases h:s.length<1000
     ·have e:decide ((s.length:Int)< (1000:Int))=true:=by simp;omega
      have hl:((pre x).take 1000).length<=1000:=by simp;omega
      rw[e,if_pos h,cond_true]
      show (bif roomOK (s.length+((pre x).take 1000).length) 80 then _ else none)=_
      rw[room_2000 (by omega)];rfl
     ·have e:decide ((s.length:Int)< (1000:Int))=false:=by simp;omega
      rw[e,if_neg h];rfl)
   (fun m s=>by
     show Zb_m_L3 n g p (m+1) (s,((p.Subs.length:Nat):Int))=_
     rw[Zb_m_L3_s,dec_end];rfl) (fun x i s k k' hk=>by rw[hk]) p.Subs.length 0 n [p] (by omega) (by omega)
  have key:∀(l:List Pred) (i:Nat) (s:List Pred),foldI (fun (x:Pred) (_:Nat) (s:List Pred) (k:List Pred->Option (List Pred))=>if s.length<1000 then k (s++(pre x).take 1000) else some s) (fun s=>some s) i l s=some (accS s l):=by
   intro l
   induction l with
   |nil=>intro i s;rfl
   |cons x l ih=>
    intro i s
    show (if s.length<1000 then foldI _ _ (i+1) l (s++(pre x).take 1000) else some s)=_
    rw[accS]
    split
    ·exact ih (i+1) _
    ·rfl
  rw[Tv,key] at this
  have this':Zb_m_L3 n g p n ([p],(0:Int))=some (accS [p] p.Subs):=this
  rw[Zb_m_eq,Pred.re_eq,this',Option.bind_some,pre_eq]
  have ht:=accS_take p.Subs [p]
  have e2:Int.toNat (1000:Int)=1000:=rfl
  by_cases h:(accS [p] p.Subs).length>1000
  ·have e:decide ((((accS [p] p.Subs).length:Nat):Int)> (1000:Int))=true:=by simp;omega
   have e3:inB (1000:Int) (accS [p] p.Subs).length=true:=by unfold inB;simp;omega
   rw[e,cond_true,e3,cond_true,e2,ht];rfl
  ·have e:decide ((((accS [p] p.Subs).length:Nat):Int)> (1000:Int))=false:=by simp;omega
   rw[e,cond_false]
   rw[R7 (by omega)] at ht
   rw[ht];rfl
theorem Zb_spec {n:Nat} {p:Pred} (hn:szP p<n) (hp:szP p<2^62):Zb n p=some ((pre p).take 1000):=by
 have e:Zb n p=Zb_m n n p:=by unfold Zb;rfl
 rw[e,Zb_m_spec n p (by omega) hn hp]
theorem loop_tot {α β σ:Type} {L:Nat->σ->Int->Option β} {l:List α} (hs:∀m (i:Nat) x s,l[i]? =some x->(∀s,∃r,L m s ((i+1:Nat):Int)=some r)->∃r,L (m+1) s (i:Int)=some r) (hf:∀m s (i:Nat),l.length<=i->∃r,L (m+1) s (i:Int)=some r):
 ∀(k i m:Nat) (s:σ),l.length<=i+k->k<m->∃r,L m s (i:Int)=some r:=by
 intro k
 induction k with
 |zero=>
  intro i m s hi hm
  obtain⟨m,rfl⟩:∃m',m=m'+1:=⟨m-1,by omega⟩
  exact hf m s i (by omega)
 |succ k ih=>
  intro i m s hi hm
  obtain⟨m,rfl⟩:∃m',m=m'+1:=⟨m-1,by omega⟩
  by_cases h:l.length<=i
  ·exact hf m s i h
  ·exact hs m i _ s (Sc (by omega)) fun s=>ih (i+1) m s (by omega) (by omega)
theorem dec_ge {α:Type} {l:List α} {i:Nat} (h:l.length<=i):decide ((i:Int)< (l.length:Int))=false:=by simp;omega
theorem bifx {α:Type} {c:Bool} {a b:Option α} (ha:∃r,a=some r) (hb:∃r,b=some r):∃r,(bif c then a else b)=some r:=by
 cases c
 ·exact hb
 ·exact ha
theorem ZO_spec {n:Nat} {p:Pred} (hn:szP p<n) (hp:szP p<2^62):ZO n p=some (((((pre p).take 1000).length:Nat)):Int):=by
 rw[ZO_eq,Pred.re_eq,Zb_spec hn hp];rfl
theorem Zc_m_total {n:Nat}:∀(g:Nat) (p:Pred) (k:Int),szP p<=g->szP p<n->szP p<2^62->∃b:Bool,Zc_m n g (p,k)=some b
 |0,p,k,hg,_,_=>by have:=szP_pos p;omega
 |g+1,p,k,hg,hn,hp=>by
  have hs:=szP_subs p
  have hlen:=szL_len p.Subs
  obtain⟨r,hr⟩:=loop_tot (L:=fun m (_:Unit) i=>Zc_m_L4 n g p k m i) (l:=p.Subs)
   (fun m i x _ hx ih=>by
     have hlt:=lt_of_get hx
     have hsz:=szL_mem (Sw hx)
     show∃r,Zc_m_L4 n g p k (m+1) (i:Int)=some r
     obtain⟨b,hb⟩:=Zc_m_total (n:=n) g x (wrap .i64 (k-(1:Int))) (by omega) (by omega) (by omega)
     rw[Zc_m_L4_s,dec_of hx,idxL_of hx,wrap_succ (by omega),cond_true,Option.bind_some,Pred.re_eq,hb]
     show∃r,(bif !b then _ else _)=some r
     exact bifx ⟨_,rfl⟩ (ih ()))
   (fun m _ i hi=>by
     show∃r,Zc_m_L4 n g p k (m+1) (i:Int)=some r
     rw[Zc_m_L4_s,dec_ge hi];exact⟨_,rfl⟩) p.Subs.length 0 n () (by omega) (by omega)
  have hr':Zc_m_L4 n g p k n (0:Int)=some r:=hr
  obtain⟨z,hz⟩:=whenO_total (c:= !(decide (k< (1:Int)))) (o:=ZO n p) (d:=(0:Int)) (fun _=>⟨_,ZO_spec hn hp⟩)
  rw[Zc_m_eq,Pred.re_eq]
  show∃b:Bool,Option.bind (whenO _ _ _) _=some b
  rw[hz]
  show∃b:Bool,(bif _ then some false else _)=some b
  refine bifx ⟨_,rfl⟩ ?_
  rw[hr',Option.bind_some]
  cases r with
  |inl q=>exact⟨true,rfl⟩
  |inr q=>exact⟨q,rfl⟩
theorem Zc_total {n:Nat} {p:Pred} {k:Int} (hn:szP p<n) (hp:szP p<2^62):∃b:Bool,Zc n (p,k)=some b:=by
 have e:Zc n (p,k)=Zc_m n n (p,k):=by unfold Zc;rfl
 rw[e];exact Zc_m_total n p k (by omega) hn hp
theorem bs {α β:Type} {o:Option α} {a:α} {f:α->Option β} {r:Option β} (h:o=some a) (k:f a=r):o.bind f=r:=by
 rw[h];exact k
mutual
theorem pre_len:∀p:Pred,(pre p).length=szP p
 | ⟨op,name,n,m,s,subs⟩=>by simp only[pre,szP,List.length_cons,preL_len' subs]
theorem preL_len':∀l:List Pred,(preL l).length=szL l
 | []=>rfl
 |p::l=>by simp only[preL,szL,RY,pre_len p,preL_len' l]
end
theorem partsO_some {p:Pred} (h:szP p<2^62):partsO p=some (pre p):=by
 unfold partsO;rw[pre_len,if_pos h]
theorem filter_Size_R_spec {n:Nat}:∀(l:List Pred) (c:Nat),c<1000->Zs_R3 n l ((),(c:Int))=some (if c+l.length<1000 then .inl ((),((c+l.length:Nat):Int)) else .inr ((),(1000:Int)))
 | [],c,hc=>by
   rw[Zs_R3_0,if_pos (by simpa using hc)];rfl
 |x::l,c,hc=>by
  have:=Zs_R3_s n x l (c:Int)
  rw[show Zs_R3 n (x::l) ((),(c:Int))=_ from this,wrap_succ (by omega)]
  by_cases h:c+1=1000
  ·have e:((((c+1:Nat):Int))==(1000:Int))=true:=by rw[h];rfl
   rw[e,cond_true,if_neg (by simp;omega),h];rfl
  ·have e:((((c+1:Nat):Int))==(1000:Int))=false:=by simp;omega
   rw[e,cond_false]
   have:=filter_Size_R_spec (n:=n) l (c+1) (by omega)
   rw[show Zs_R3 n l ((),(((c+1:Nat):Int)))=_ from this]
   have e2:c+1+l.length=c+(x::l).length:=by simp;omega
   rw[e2]
theorem Zs_spec {n:Nat} {p:Pred} (h:szP p<2^62):Zs n p=some ((((pre p).take 1000).length:Nat):Int):=by
 rw[Zs_eq,Pred.re_eq]
 refine bs (Xc_eq n p) ?_
 show ((partsO p.re).bind _).bind _=_
 rw[Pred.re_eq]
 rw[partsO_some h,Option.bind_some]
 have:=filter_Size_R_spec (n:=n) (pre p) 0 (by omega)
 rw[show Zs_R3 n (pre p) ((),(0:Int))=_ from this,Sr]
 by_cases c:(pre p).length<1000
 ·rw[if_pos c,R7 (by omega)];rfl
 ·rw[if_neg c,R3,Tm (by omega)];rfl
end Sh
end
section
open Go Go.Proofs Aq
namespace Sh
def cmpI (a b:Int):Int:=bif decide (a<b) then-1 else bif decide (a>b) then 1 else 0
def orL:List Int->Int
 | []=>0
 |x::l=>bif x !=0 then x else orL l
mutual
def cmpP:Pred->Pred->Int
 | ⟨o,m,a,b,s,l⟩,⟨o',m',a',b',s',l'⟩=>orL [cmpI o o',cmpS m m',cmpI a a',cmpI b b',cmpS s s',cmpL l l']
def cmpL:List Pred->List Pred->Int
 | [],[]=>0
 | [],_::_=>-1
 |_::_,[]=>1
 |p::l,q::m=>bif cmpP p q !=0 then cmpP p q else cmpL l m
end
def fiv (x y:Pred):List Int:=[cmpI x.Op y.Op,cmpS x.Name y.Name,cmpI x.N y.N,cmpI x.M y.M,cmpS x.S y.S]
theorem cmpP_eq (x y:Pred):cmpP x y=orL (fiv x y++[cmpL x.Subs y.Subs]):=by cases x;cases y;rfl
theorem cmp_Compare_spec {n:Nat} {a b:Int}:ZW n (a,b)=some (cmpI a b):=by
 rw[ZW_eq]
 have e:∀x:Int,Xg n x=some false:=fun x=>by rw[Xg_eq,bne_self_eq_false]
 rw[e a,e b]
 unfold cmpI
 show (bif decide (a<b) then some (-1:Int) else bif decide (a>b) then some 1 else some 0)=_
 cases decide (a<b)<;>cases decide (a>b)<;>rfl
theorem Xk_spec {n:Nat} {a b:List UInt8}:Xk n (a,b)=some (cmpS a b):=by
 unfold Xk;rfl
theorem foldI_or:∀(l:List Int) (i:Nat),foldI (σ:=Unit) (fun (x:Int) (_:Nat) (_:Unit) (k:Unit->Option (PUnit⊕Int))=>bif x !=0 then some (.inr x) else k ()) (fun _=>some (.inl ())) i l ()=some (bif orL l !=0 then .inr (orL l) else .inl ())
 | [],_=>rfl
 |x::l,i=>by
  show (bif x !=0 then some (Sum.inr x) else foldI _ _ (i+1) l ())=some (bif (bif x !=0 then x else orL l) !=0 then (Sum.inr (bif x !=0 then x else orL l):PUnit⊕Int) else Sum.inl ())
  cases h:x !=0
  ·simp only[cond_false];exact foldI_or l (i+1)
  ·simp only[cond_true,h]
theorem cmp_Or_spec {n:Nat} {l:List Int} (hn:l.length<n) (hb:l.length<2^62):ZA n l=some (orL l):=by
 have:=loop_ix (L:=fun m i=>ZA_L3 n l m i) (l:=l) (fun x _ r=>bif x !=0 then some (.inr x) else r) (some (.inl ()))
  (fun m i x hx=>by
    have hlt:=lt_of_get hx
    rw[ZA_L3_s,dec_of hx,idxL_of hx,wrap_succ (by omega)];rfl)
  (fun m=>by rw[ZA_L3_s,dec_end];rfl) hn
 have this':ZA_L3 n l n (0:Int)=_:=this
 rw[ZA_eq,this',foldI_or]
 cases h:orL l !=0
 ·have:orL l=0:=by simpa using h
  rw[this];rfl
 ·rfl
def lpF:List Pred->List Pred->PUnit⊕Int
 | [],_=>.inl ()
 |_::_,[]=>.inr 1
 |p::l,q::m=>bif cmpP p q !=0 then .inr (cmpP p q) else lpF l m
theorem lpF_fin:∀l m:List Pred,Sum.elim (fun _=>bif decide ((l.length:Int)< (m.length:Int)) then (-1:Int) else 0) id (lpF l m)=cmpL l m
 | [],[]=>by rfl
 | [],q::m=>by
   have e:decide ((([]:List Pred).length:Int)< (((q::m).length:Nat):Int))=true:=by simp
   show (bif _ then (-1:Int) else 0)= -1
   rw[e];rfl
 |p::l,[]=>by rfl
 |p::l,q::m=>by
  have ih:=lpF_fin l m
  have e:decide ((((p::l).length:Nat):Int)< (((q::m).length:Nat):Int))=decide ((l.length:Int)< (m.length:Int)):=by
   simp only[List.length_cons];congr 1;apply propext;omega
  rw[e]
  show Sum.elim _ id (bif cmpP p q !=0 then .inr (cmpP p q) else lpF l m)=bif cmpP p q !=0 then cmpP p q else cmpL l m
  cases cmpP p q !=0
  ·exact ih
  ·rfl
theorem drop_cons {α:Type} {l:List α} {i:Nat} {x:α} (h:l[i]? =some x):l.drop i=x::l.drop (i+1):=by
 have hlt:=lt_of_get h
 rw[Tz hlt]
 congr 1
 exact(SH.1 h).2
theorem fun_loop {n g:Nat} {l m:List Pred} (hH:∀x∈l,∀y∈m,QR_m n g (x,y)=some (cmpP x y)) (hl:l.length<2^62) (hm:m.length<2^62):∀(k i c:Nat),i+k=l.length->k<c->i<=m.length->
 Zf_m_L2 n g l m c (i:Int)=some (lpF (l.drop i) (m.drop i)):=by
 intro k
 induction k with
 |zero=>
  intro i c hi hc _
  obtain⟨c,rfl⟩:∃c',c=c'+1:=⟨c-1,by omega⟩
  have:i=l.length:=by omega
  subst this
  rw[Zf_m_L2_s,dec_end,List.drop_length];rfl
 |succ k ih=>
  intro i c hi hc him
  obtain⟨c,rfl⟩:∃c',c=c'+1:=⟨c-1,by omega⟩
  obtain⟨x,hx⟩:∃x,l[i]? =some x:=⟨l[i]'(by omega),by simp⟩
  rw[Zf_m_L2_s,dec_of hx,idxL_of hx,drop_cons hx]
  by_cases hge:m.length<=i
  ·have e:decide (((i:Nat):Int)>=(m.length:Int))=true:=by simp;omega
   have:m.drop i=[]:=TA hge
   rw[this]
   show (bif decide (((i:Nat):Int)>=(m.length:Int)) then _ else _)=_
   rw[e];rfl
  ·have e:decide (((i:Nat):Int)>=(m.length:Int))=false:=by simp;omega
   obtain⟨y,hy⟩:∃y,m[i]? =some y:=⟨m[i]'(by omega),by simp⟩
   rw[drop_cons hy]
   show (bif decide (((i:Nat):Int)>=(m.length:Int)) then _ else _)=_
   rw[e,cond_false]
   refine bs (idxL_of hy) ?_
   rw[Pred.re_eq,Pred.re_eq]
   refine bs (hH x (Sw hx) y (Sw hy)) ?_
   rw[wrap_succ (by omega),ih (i+1) c (by omega) (by omega) (by omega)]
   show _=some (bif cmpP x y !=0 then .inr (cmpP x y) else lpF (l.drop (i+1)) (m.drop (i+1)))
   cases cmpP x y !=0<;>rfl
theorem QR_m_spec {n:Nat} (hn:8<n):∀(k g:Nat) (x y:Pred),szP x<=k->2*szP x<=g->szP x<n->szP x<2^62->szP y<2^62->QR_m n g (x,y)=some (cmpP x y)
 |0,g,x,y,hk,_,_,_,_=>by have:=szP_pos x;omega
 |k+1,g,x,y,hk,hg,hxn,hx,hy=>by
  have hs:=szP_subs x
  have hlen:=szL_len x.Subs
  have hs':=szP_subs y
  have hlen':=szL_len y.Subs
  obtain⟨g,rfl⟩:∃g',g=g'+2:=⟨g-2,by omega⟩
  have hL:=fun_loop (n:=n) (g:=g) (l:=x.Subs) (m:=y.Subs) (fun a ha b hb=>by
   have h1:=szL_mem ha
   have h2:=szL_mem hb
   exact QR_m_spec hn k g a b (by omega) (by omega) (by omega) (by omega) (by omega)) (by omega) (by omega) x.Subs.length 0 n (by omega) (by omega) (Sb _)
  have hL':Zf_m_L2 n g x.Subs y.Subs n (0:Int)=some (lpF x.Subs y.Subs):=hL
  have hF:Zf_m n (g+1) (x.Subs,(y.Subs,((),())))=some (cmpL x.Subs y.Subs):=by
   rw[Zf_m_eq,hL',<-lpF_fin]
   cases lpF x.Subs y.Subs with
   |inl u=>
    show (bif decide (((x.Subs.length:Nat):Int)< ((y.Subs.length:Nat):Int)) then some (-1:Int) else some 0)=some (bif decide (((x.Subs.length:Nat):Int)< ((y.Subs.length:Nat):Int)) then (-1:Int) else 0)
    cases decide (((x.Subs.length:Nat):Int)< ((y.Subs.length:Nat):Int))<;>rfl
   |inr v=>rfl
  rw[QR_m_eq,cmpP_eq]
  refine bs cmp_Compare_spec (bs Xk_spec (bs cmp_Compare_spec (bs cmp_Compare_spec (bs Xk_spec ?_))))
  refine bs hF ?_
  refine bs (cmp_Or_spec (show 6<n by omega) (show 6<2^62 by decide)) ?_
  rfl
end Sh
end
section
open Go Go.Proofs Aq
namespace Sh
theorem vszL_mem {l:List V} {v:V} (h:v∈l):vsz v<=vszL l:=by
 induction l with
 |nil=>cases h
 |cons x l ih=>
  rcases RL.1 h with rfl|h
  ·show vsz v<=vsz v+vszL l;omega
  ·have:=ih h
   show vsz v<=vsz x+vszL l;omega
theorem lst_mem {α:Type} (f:α->V) {l:List α} {x:α} (h:x∈l):vsz (f x)<=vszL (l.map f):=vszL_mem (List.mem_map_of_mem h)
theorem lst_len {α:Type} (f:α->V) (hf:∀x,1<=vsz (f x)) (l:List α):l.length<=vszL (l.map f):=by
 induction l with
 |nil=>exact Sb _
 |cons x l ih=>
  have:=hf x
  show l.length+1<=vsz (f x)+vszL (l.map f)
  omega
mutual
theorem szP_vsz:∀p:Pred,szP p<=vsz (Pred.vr p)
 | ⟨op,name,n,m,s,subs⟩=>by
   have:=szL_vsz subs
   simp only[szP,Pred.vr,vsz,vszL]
   omega
theorem szL_vsz:∀l:List Pred,szL l<=vszL (Pred.vl l)
 | []=>Sb _
 |p::l=>by
  have:=szP_vsz p
  have:=szL_vsz l
  simp only[szL,Pred.vl,vszL]
  omega
end
theorem pred_small (x:Pred):szP x<=vsr (Pred.v x):=by
 rw[<-Pred.vr_eq];exact RG (szP_vsz x) (vsz_le _)
theorem attrs_small (l:List Attr):l.length<=vsr (lv Attr.v l):=by
 have h:=lst_len Attr.v (fun x=>by
  show 1<=vszL x.c
  unfold Attr.c
  simp only[vszL,vsz];omega) l
 have h2:vsz (lv Attr.v l)<=vsr (lv Attr.v l):=vsz_le _
 have h3:vsz (lv Attr.v l)=vszL (l.map Attr.v)+1:=rfl
 omega
end Sh
end
section
open Go Go.Proofs Aq
namespace Sh
theorem Zz_spec {n:Nat} {l:List (List UInt8)} {x:List UInt8} (h:l.length<n) (hb:l.length<2^62):Zz n (l,x)=some (l.any (· ==x)):=by
 have:=loop_ix (L:=fun m i=>Zz_L2 n l x m i) (l:=l) (fun d i r=>bif d==x then some (.inr true) else r) (some (.inl ()))
  (fun m i d hd=>by
    have hlt:=lt_of_get hd
    rw[Zz_L2_s,dec_of hd,idxL_of hd,wrap_succ (by omega)];rfl)
  (fun m=>by rw[Zz_L2_s,dec_end];rfl) h
 rw[Zz_eq,this,foldI_find (fun d:List UInt8=>d==x) (fun i=>(Sum.inr true:PUnit⊕Bool)) (.inl ())]
 cases hf:l.findIdx? (fun d=>d==x) with
 |none=>
  rw[List.findIdx?_eq_none_iff] at hf
  have:l.any (· ==x)=false:=by rw[List.any_eq_false];intro y hy;simpa using hf y hy
  rw[this];rfl
 |some j=>
  obtain⟨hj,h2,_⟩:=List.findIdx?_eq_some_iff_getElem.1 hf
  have:l.any (· ==x)=true:=by rw[List.any_eq_true];exact⟨l[j],SI hj,h2⟩
  rw[this];rfl
def SmallS (s:Schema) (n:Nat):Prop:=s.Defs.length<n/\s.Defs.length<2^62/\∀d∈s.Defs,d.Name.length<n/\d.Name.length<2^62/\d.Words.length<n/\d.Words.length<2^62/\∀w∈d.Words,w.length<n/\w.length<2^62
theorem Zx_total {n:Nat} {x:List UInt8} (h:x.length<n) (hb:x.length<2^62) (hn:6<n):∃b:Bool,Zx n x=some b:=by
 obtain⟨r,hr⟩:=loop_tot (L:=fun m (_:Unit) i=>Zx_L2 n x m i) (l:=x)
  (fun m i c _ hc ih=>by
    have hlt:=lt_of_get hc
    show∃r,Zx_L2 n x (m+1) (i:Int)=some r
    rw[Zx_L2_s,dec_of hc,idxL_of hc,wrap_succ (by omega),cond_true,Option.bind_some]
    cases (bif !(bif decide ((c.toNat:Int)>=(97:Int)) then decide ((c.toNat:Int)<=(122:Int)) else false) then bif (i:Int)==(0:Int) then true else !(bif bif decide ((c.toNat:Int)>=(48:Int)) then decide ((c.toNat:Int)<=(57:Int)) else false then true else (c.toNat:Int)==(95:Int)) else false)
    ·exact ih ()
    ·exact⟨_,rfl⟩)
  (fun m _ i hi=>by
    show∃r,Zx_L2 n x (m+1) (i:Int)=some r
    rw[Zx_L2_s,dec_ge hi];exact⟨_,rfl⟩) x.length 0 n () (by omega) h
 have hr':Zx_L2 n x n (0:Int)=some r:=hr
 rw[Zx_eq,hr']
 cases r with
 |inl q=>
  obtain⟨b,hb'⟩:=whenO_total (c:=bif decide ((x.length:Int)>=(1:Int)) then decide ((x.length:Int)<=(40:Int)) else false) (o:=Zz n (([[(97:UInt8),(108:UInt8),(108:UInt8)],[(97:UInt8),(110:UInt8),(100:UInt8)],[(104:UInt8),(97:UInt8),(115:UInt8)],[(105:UInt8),(110:UInt8)],[(110:UInt8),(111:UInt8),(116:UInt8)],[(111:UInt8),(114:UInt8)]],x))) (d:=false) (fun _=>⟨_,Zz_spec (show 6<n from hn) (show 6<2^62 by omega)⟩)
  rw[Option.bind_some]
  show∃b,Option.bind (whenO _ _ _) _=some b
  rw[hb']
  exact⟨_,rfl⟩
 |inr q=>exact⟨q,rfl⟩
theorem Zn_total {n:Nat} {l:List (List UInt8)} (h:l.length<n) (hb:l.length<2^62) (hw:∀w∈l,w.length<n/\w.length<2^62) (hn:6<n):∃e:Int,Zn n l=some e:=by
 rw[Zn_eq]
 cases (bif decide ((l.length:Int)< (1:Int)) then true else decide ((l.length:Int)> (50:Int)))
 ·obtain⟨r,hr⟩:=loop_tot (L:=fun m (_:Unit) i=>Zn_L4 n l m i) (l:=l)
   (fun m i c _ hc ih=>by
     have hlt:=lt_of_get hc
     show∃r,Zn_L4 n l (m+1) (i:Int)=some r
     obtain⟨b,hb'⟩:=Zx_total (hw c (Sw hc)).1 (hw c (Sw hc)).2 hn
     rw[Zn_L4_s,dec_of hc,idxL_of hc,wrap_succ (by omega),cond_true,Option.bind_some,hb']
     cases b
     ·exact⟨_,rfl⟩
     ·exact ih ())
   (fun m _ i hi=>by
     show∃r,Zn_L4 n l (m+1) (i:Int)=some r
     rw[Zn_L4_s,dec_ge hi];exact⟨_,rfl⟩) l.length 0 n () (by omega) h
  have hr':Zn_L4 n l n (0:Int)=some r:=hr
  rw[cond_false,hr',Option.bind_some]
  cases r with
  |inr q=>exact⟨q,rfl⟩
  |inl q=>
   obtain⟨r,hr2⟩:=loop_tot (L:=fun m (_:Unit) i=>Zn_L9 n l m (i+1)) (l:=l.tail)
    (fun m i c _ hc ih=>by
      have hc':l[i+1]? =some c:=by rw[List.getElem?_tail] at hc;exact hc
      have hlt:=lt_of_get hc'
      show∃r,Zn_L9 n l (m+1) ((i:Int)+1)=some r
      have ei:(i:Int)+1=((i+1:Nat):Int):=by omega
      have e0:wrap .i64 (((i+1:Nat):Int)-(1:Int))=(i:Int):=by rw[IntKind.wrap_i64];omega
      have hi0:l[i]? =some l[i]:=Sc (by omega)
      rw[ei,Zn_L9_s,dec_of hc',idxL_of hc',wrap_succ (by omega),e0,idxL_of hi0,cond_true,Option.bind_some,Option.bind_some]
      cases (Go.Op.bytesLess c l[i]||c==l[i])
      ·have:=ih ()
       have e1:(((i+1:Nat):Int))+1=((i+1+1:Nat):Int):=by omega
       simp only[e1] at this
       exact this
      ·exact⟨_,rfl⟩)
    (fun m _ i hi=>by
      show∃r,Zn_L9 n l (m+1) ((i:Int)+1)=some r
      have ei:(i:Int)+1=((i+1:Nat):Int):=by omega
      rw[ei,Zn_L9_s,dec_ge (by rw[List.length_tail] at hi;omega)];exact⟨_,rfl⟩) l.length 0 n () (by rw[List.length_tail];omega) h
   have hr2':Zn_L9 n l n (1:Int)=some r:=hr2
   rw[Sum.elim_inl,hr2',Option.bind_some]
   cases r with
   |inl q=>exact⟨0,rfl⟩
   |inr q=>exact⟨q,rfl⟩
 ·exact⟨_,rfl⟩
theorem ZT_total {n:Nat} {d:Def} {x:List UInt8} (h:d.Name.length<n/\d.Name.length<2^62/\d.Words.length<n/\d.Words.length<2^62/\∀w∈d.Words,w.length<n/\w.length<2^62) (hn:6<n):∃e:Int,ZT n (d,x)=some e:=by
 obtain⟨b,hb⟩:=Zx_total h.1 h.2.1 hn
 obtain⟨e,he⟩:=Zn_total h.2.2.1 h.2.2.2.1 h.2.2.2.2 hn
 rw[ZT_eq,hb]
 show∃e:Int,(bif !b then some (5:Int) else _)=some e
 refine bifx ⟨_,rfl⟩ (bifx ⟨_,rfl⟩ (bifx (bifx ⟨_,rfl⟩ (bifx ⟨_,rfl⟩ ⟨_,rfl⟩)) (bifx (bifx ⟨_,rfl⟩ ?_) ⟨_,rfl⟩)))
 rw[he];exact⟨e,rfl⟩
theorem Zy_total {n:Nat} {s:Schema} (h:SmallS s n) (hn:6<n):∃e:Int,Zy n s=some e:=by
 obtain⟨h1,h2,h3⟩:=h
 obtain⟨b,hb⟩:=whenO_total (c:= !(bif decide (s.Dims< (1:Int)) then true else decide (s.Dims> (32:Int)))) (o:=Xi n s.Metric) (d:=false) (fun _=>by rw[Xi_eq];exact⟨_,rfl⟩)
 obtain⟨r,hr⟩:=loop_tot (L:=fun m (x:List UInt8) i=>Zy_L7 n s m (x,i)) (l:=s.Defs)
  (fun m i d x hd ih=>by
    have hlt:=lt_of_get hd
    show∃r,Zy_L7 n s (m+1) (x,(i:Int))=some r
    obtain⟨e,he⟩:=ZT_total (x:=x) (h3 d (Sw hd)) hn
    rw[Zy_L7_s,dec_of hd,idxL_of hd,wrap_succ (by omega),cond_true,Option.bind_some,he]
    show∃r,(bif e !=(0:Int) then _ else _)=some r
    exact bifx ⟨_,rfl⟩ (ih _))
  (fun m x i hi=>by
    show∃r,Zy_L7 n s (m+1) (x,(i:Int))=some r
    rw[Zy_L7_s,dec_ge hi];exact⟨_,rfl⟩) s.Defs.length 0 n [] (by omega) h1
 have hr':Zy_L7 n s n ([],(0:Int))=some r:=hr
 rw[Zy_eq]
 show∃e:Int,Option.bind (whenO _ _ _) _=some e
 rw[hb]
 show∃e:Int,(bif _ then some (1:Int) else _)=some e
 refine bifx ⟨_,rfl⟩ (bifx ⟨_,rfl⟩ ?_)
 rw[hr',Option.bind_some]
 cases r with
 |inl q=>exact⟨0,rfl⟩
 |inr q=>exact⟨q,rfl⟩
theorem Zm_total {n:Nat} {s:Schema} {k:Int} (h:SmallS s n):∃b:Bool,Zm n (s,k)=some b:=by
 obtain⟨h1,h2,h3⟩:=h
 obtain⟨r,hr⟩:=loop_tot (L:=fun m (_:Unit) i=>Zm_L2 n s k m i) (l:=s.Defs)
  (fun m i d _ hd ih=>by
    have hlt:=lt_of_get hd
    obtain⟨w1,w2,w3,w4,w5⟩:=h3 d (Sw hd)
    show∃r,Zm_L2 n s k (m+1) (i:Int)=some r
    obtain⟨r,hr⟩:=loop_tot (L:=fun m (_:Unit) j=>Zm_L8 n s k (i:Int) d m j) (l:=d.Words)
     (fun m j w _ hw ih=>by
       have hlt:=lt_of_get hw
       show∃r,Zm_L8 n s k (i:Int) d (m+1) (j:Int)=some r
       rw[Zm_L8_s,dec_of hw,idxL_of hw,wrap_succ (by omega),cond_true,Option.bind_some]
       exact bifx ⟨_,rfl⟩ (ih ()))
     (fun m _ j hj=>by
       show∃r,Zm_L8 n s k (i:Int) d (m+1) (j:Int)=some r
       rw[Zm_L8_s,dec_ge hj];exact⟨_,rfl⟩) d.Words.length 0 n () (by omega) w3
    have hr':Zm_L8 n s k (i:Int) d n (0:Int)=some r:=hr
    rw[Zm_L2_s,dec_of hd,idxL_of hd,wrap_succ (by omega),Option.bind_some,hr']
    refine bifx (bifx ⟨_,rfl⟩ ?_) ⟨_,rfl⟩
    cases r with
    |inl q=>exact ih ()
    |inr q=>exact⟨_,rfl⟩)
  (fun m _ i hi=>by
    show∃r,Zm_L2 n s k (m+1) (i:Int)=some r
    rw[Zm_L2_s,dec_ge hi];exact⟨_,rfl⟩) s.Defs.length 0 n () (by omega) h1
 have hr':Zm_L2 n s k n (0:Int)=some r:=hr
 rw[Zm_eq,hr',Option.bind_some]
 cases r with
 |inl q=>exact⟨_,rfl⟩
 |inr q=>exact⟨q,rfl⟩
def formS (p:Pred):Bool:=
 if (p.Op<5/\p.Name≠[])\/(p.Op≠6/\(p.N≠0\/p.M≠0))\/(p.Op≠7/\p.S≠[]) then false else
 if p.N>p.M then false else
 if p.Op=2\/p.Op=3 then decide (p.Subs≠[]) else
 if p.Op=4 then decide (p.Subs.length=1) else decide (p.Subs=[])
theorem len_zero {α:Type} (l:List α):((l.length:Int)==(0:Int))=decide (l=[]):=by
 cases l with
 |nil=>simp
 |cons a l=>simp<;>omega
theorem nil_beq (l:List UInt8):(l==[])=decide (l=[]):=by cases l<;>simp
theorem ZU_spec (n:Nat) (p:Pred):ZU n p=some (formS p):=by
 obtain⟨op,name,a,b,s,subs⟩:=p
 rw[ZU_eq]
 simp only[len_zero,nil_beq]
 have key:(bif bif bif bif !(decide (op>=(5:Int))) then !(decide (name=[])) else false then true else bif op !=(6:Int) then bif a !=(0:Int) then true else b !=(0:Int) else false then true else bif op !=(7:Int) then !(decide (s=[])) else false then
  some false
  else
   bif bif bif decide (a>b) then true else bif bif op==(2:Int) then true else op==(3:Int) then decide (subs=[]) else false then true else bif op==(4:Int) then (subs.length:Int) !=(1:Int) else false then
    some false
   else
    some (bif bif bif op==(2:Int) then true else op==(3:Int) then true else op==(4:Int) then true else decide (subs=[])))=some (formS ⟨op,name,a,b,s,subs⟩):=by
  unfold formS
  dsimp only
  by_cases c1:(op<5/\name≠[])\/(op≠6/\(a≠0\/b≠0))\/(op≠7/\s≠[])
  ·rw[if_pos c1]
   have:(bif bif bif !(decide (op>=(5:Int))) then !(decide (name=[])) else false then true else bif op !=(6:Int) then bif a !=(0:Int) then true else b !=(0:Int) else false then true else bif op !=(7:Int) then !(decide (s=[])) else false)=true:=by
    simp only[Bool.cond_true_right,Bool.cond_false_right,Bool.cond_true_left,SX,RD,decide_eq_true_iff,bne_iff_ne,SK,decide_eq_false_iff_not]
    rcases c1 with c|c|c
    ·exact .inl (.inl ⟨by omega,c.2⟩)
    ·exact .inl (.inr c)
    ·exact .inr c
   rw[this];rfl
  ·rw[if_neg c1]
   have:(bif bif bif !(decide (op>=(5:Int))) then !(decide (name=[])) else false then true else bif op !=(6:Int) then bif a !=(0:Int) then true else b !=(0:Int) else false then true else bif op !=(7:Int) then !(decide (s=[])) else false)=false:=by
    rw[Bool.eq_false_iff]
    intro h
    simp only[Bool.cond_true_right,Bool.cond_false_right,Bool.cond_true_left,SX,RD,decide_eq_true_iff,bne_iff_ne,SK,decide_eq_false_iff_not] at h
    rcases h with (h|h)|h
    ·exact c1 (.inl ⟨by omega,h.2⟩)
    ·exact c1 (.inr (.inl h))
    ·exact c1 (.inr (.inr h))
   rw[this,cond_false]
   by_cases c2:a>b
   ·rw[if_pos c2,decide_eq_true c2];rfl
   ·rw[if_neg c2,decide_eq_false c2,cond_false]
    by_cases c3:op=2\/op=3
    ·rw[if_pos c3]
     have h4:(op==(4:Int))=false:=by rcases c3 with rfl|rfl<;>rfl
     have:(bif op==(2:Int) then true else op==(3:Int))=true:=by rcases c3 with rfl|rfl<;>rfl
     rw[this,h4]
     by_cases hs:subs=[]<;>simp[hs]
    ·rw[if_neg c3]
     have:(bif op==(2:Int) then true else op==(3:Int))=false:=by
      rw[Bool.eq_false_iff];intro h;simp at h;exact c3 h
     rw[this,cond_false]
     by_cases c4:op=4
     ·rw[if_pos c4,c4]
      by_cases hl:subs.length=1
      ·simp[hl]
      ·have:((subs.length:Int) !=(1:Int))=true:=by rw[bne_iff_ne];omega
       rw[this];simp[hl]
     ·rw[if_neg c4]
      have:(op==(4:Int))=false:=by simpa using c4
      rw[this];rfl
 exact key
theorem ZV_spec {n:Nat} {s:Schema} {x:List UInt8} (h:s.Defs.length<n) (hb:s.Defs.length<2^62):ZV n (s,x)=some (match s.Defs.find? (fun d=>d.Name==x) with|some d=>(d,true)|none=>(⟨[],0,0,0,[]⟩,false)):=by
 have:=loop_ix (L:=fun m i=>ZG_L2 n s.Defs x m i) (l:=s.Defs) (fun d i r=>bif d.Name==x then some (.inr (i:Int)) else r) (some (.inl ()))
  (fun m i d hd=>by
    have hlt:=lt_of_get hd
    rw[ZG_L2_s,dec_of hd,idxL_of hd,wrap_succ (by omega)]
    simp only[cond_true,Option.bind_some,Xm_eq];rfl)
  (fun m=>by rw[ZG_L2_s,dec_end];rfl) h
 rw[ZV_eq,ZG_eq,this,foldI_find (fun d:Def=>d.Name==x) (fun i=>(Sum.inr (i:Int):PUnit⊕Int)) (.inl ())]
 have hg:=get_find (fun d:Def=>d.Name==x) s.Defs
 rw[<-hg]
 cases hf:s.Defs.findIdx? (fun d=>d.Name==x) with
 |none=>rfl
 |some j=>
  obtain⟨hj,_,_⟩:=List.findIdx?_eq_some_iff_getElem.1 hf
  simp only[Option.bind_some,Sum.elim_inr,Sr]
  have e:decide (((j:Nat):Int)< (0:Int))=false:=by simp
  show (bif decide (((j:Nat):Int)< (0:Int)) then (some ((⟨[],(0:Int),(0:Int),(0:Int),[]⟩:Def),false):Option (Def×Bool)) else (idxL s.Defs ((j:Nat):Int)).bind fun r4=>some (r4,true))=_
  rw[e,cond_false,idxL_nat,Sc hj];rfl
def checkP (s:Schema) (x:Pred):Option Int:=
 if x.Op<1\/x.Op>7 then some 1 else
 if formS x=false then some 3 else
 if x.Op<5 then none else
 match s.Defs.find? (fun d=>d.Name==x.Name) with
 |none=>some 5
 |some d=>if (x.Op=6/\d.Kind≠1)\/(x.Op=7/\d.Kind≠2) then some 130 else none
def checkL (s:Schema):List Pred->Option Int
 | []=>none
 |x::l=>match checkP s x with
  |some e=>some e
  |none=>checkL s l
theorem filter_Check_R_spec {n:Nat} {s:Schema} (hd:s.Defs.length<n) (hdb:s.Defs.length<2^62):∀l:List Pred,Zt_R5 n s l ((),(0:Int))=some (match checkL s l with|some e=>.inr ((),e)|none=>.inl ((),(0:Int)))
 | []=>Zt_R5_0 n s 0
 |x::l=>by
  have ih:=filter_Check_R_spec (n:=n) (s:=s) hd hdb l
  have:=Zt_R5_s n s x l (0:Int)
  rw[show Zt_R5 n s (x::l) ((),(0:Int))=_ from this,Pred.re_eq]
  rw[checkL]
  unfold checkP
  by_cases c1:x.Op<1\/x.Op>7
  ·rw[if_pos c1]
   have:(bif decide (x.Op< (1:Int)) then true else decide (x.Op> (7:Int)))=true:=by
    rcases c1 with c|c
    ·rw[decide_eq_true c];rfl
    ·rw[decide_eq_true c];cases decide (x.Op<1)<;>rfl
   rw[this];rfl
  ·rw[if_neg c1]
   have:(bif decide (x.Op< (1:Int)) then true else decide (x.Op> (7:Int)))=false:=by
    rw[decide_eq_false (by omega),decide_eq_false (by omega)];rfl
   rw[this,cond_false]
   refine bs (ZU_spec n x) ?_
   cases hform:formS x
   ·rw[if_pos rfl];rfl
   ·rw[if_neg (by simp)]
    show (bif decide (x.Op< (5:Int)) then _ else _)=_
    by_cases c2:x.Op<5
    ·rw[if_pos c2,decide_eq_true c2,cond_true];exact ih
    ·rw[if_neg c2,decide_eq_false c2,cond_false]
     refine bs (ZV_spec hd hdb) ?_
     cases hf:s.Defs.find? (fun d=>d.Name==x.Name) with
     |none=>rfl
     |some d=>
      dsimp only
      have o:x.Op=5\/x.Op=6\/x.Op=7:=by omega
      have key:(bif bif bif x.Op==(6:Int) then d.Kind !=(1:Int) else false then true else bif x.Op==(7:Int) then d.Kind !=(2:Int) else false then
       some (.inr (((),(130:Int)))) else Zt_R5 n s l (((),(0:Int))))=(if (x.Op=6/\d.Kind≠1)\/(x.Op=7/\d.Kind≠2) then some (.inr (((),(130:Int)))) else Zt_R5 n s l (((),(0:Int)))):=by
       by_cases k1:d.Kind=1<;>by_cases k2:d.Kind=2<;>rcases o with o|o|o<;>simp[o,k1,k2]<;>first
        | (have h1:(d.Kind !=(1:Int))=true:=bne_iff_ne.2 (by omega);rw[h1];rfl)
        | (have h2:(d.Kind !=(2:Int))=true:=bne_iff_ne.2 (by omega);rw[h2];rfl)
      rw[show Zt_R5 n s l (((),(0:Int)))=_ from ih] at key⊢
      refine key.trans ?_
      by_cases c3:(x.Op=6/\d.Kind≠1)\/(x.Op=7/\d.Kind≠2)
      ·rw[if_pos c3,if_pos c3]
      ·rw[if_neg c3,if_neg c3]
theorem Zt_spec {n:Nat} {s:Schema} {p:Pred} (hp:szP p<2^62) (hd:s.Defs.length<n) (hdb:s.Defs.length<2^62):
 Zt n (s,p)=some (if ((pre p).take 1000).length>64 then 2 else (checkL s ((pre p).take 1000)).getD 0):=by
 rw[Zt_eq,Pred.re_eq]
 refine bs (Zs_spec hp) ?_
 show (bif decide ((((((pre p).take 1000).length:Nat):Int))> (64:Int)) then _ else _)=_
 by_cases c:((pre p).take 1000).length>64
 ·rw[if_pos c,decide_eq_true (by omega)];rfl
 ·rw[if_neg c,decide_eq_false (by omega),cond_false]
  refine bs (Xc_eq n p) ?_
  show ((partsO p.re).bind _).bind _=_
  rw[Pred.re_eq]
  have hlen:(pre p).length<=64:=by rw[R3] at c;omega
  rw[partsO_some hp,Option.bind_some,filter_Check_R_spec hd hdb,R7 (by omega)]
  cases checkL s (pre p)<;>rfl
structure CLaw {α:Type} (c:α->α->Int):Prop where
 anti:∀x y,c y x= -c x y
 trans:∀x y z,c x y<=0->c y z<=0->c x z<=0
 eq:∀x y,c x y=0->x=y
theorem cmpI_val (a b:Int):(a<b/\cmpI a b= -1)\/(a=b/\cmpI a b=0)\/(b<a/\cmpI a b=1):=by
 unfold cmpI
 by_cases h:a<b
 ·rw[decide_eq_true h];exact .inl ⟨h,rfl⟩
 ·rw[decide_eq_false h]
  by_cases k:a>b
  ·rw[decide_eq_true k];exact .inr (.inr ⟨k,rfl⟩)
  ·rw[decide_eq_false k];exact .inr (.inl ⟨by omega,rfl⟩)
theorem cmpI_law:CLaw cmpI where
 anti:=fun x y=>by rcases cmpI_val x y with h|h|h<;>rcases cmpI_val y x with k|k|k<;>omega
 trans:=fun x y z h1 h2=>by rcases cmpI_val x y with h|h|h<;>rcases cmpI_val y z with k|k|k<;>rcases cmpI_val x z with l|l|l<;>omega
 eq:=fun x y h=>by rcases cmpI_val x y with k|k|k<;>omega
theorem cmpS_cons (x y:UInt8) (a b:List UInt8):(x<y/\cmpS (x::a) (y::b)= -1)\/(x=y/\cmpS (x::a) (y::b)=cmpS a b)\/(y<x/\cmpS (x::a) (y::b)=1):=by
 have e:cmpS (x::a) (y::b)=if x<y then-1 else if y<x then 1 else cmpS a b:=rfl
 rw[e]
 by_cases h:x<y
 ·exact .inl ⟨h,by rw[if_pos h]⟩
 ·by_cases k:y<x
  ·exact .inr (.inr ⟨k,by rw[if_neg h,if_pos k]⟩)
  ·refine .inr (.inl ⟨?_,by rw[if_neg h,if_neg k]⟩)
   have e1:¬x.toNat<y.toNat:=h
   have e2:¬y.toNat<x.toNat:=k
   exact UInt8.toNat_inj.1 (by omega)
theorem cmpS_anti:∀a b:List UInt8,cmpS b a= -cmpS a b
 | [],[]=>rfl
 | [],_::_=>rfl
 |_::_,[]=>rfl
 |x::a,y::b=>by
  have ih:=cmpS_anti a b
  rcases cmpS_cons x y a b with ⟨h1,h2⟩| ⟨h1,h2⟩| ⟨h1,h2⟩<;>rcases cmpS_cons y x b a with ⟨k1,k2⟩| ⟨k1,k2⟩| ⟨k1,k2⟩<;>rw[h2,k2]
  all_goals first
   |rfl
   |exact ih
   |exact absurd h1 (UInt8.lt_asymm k1)
   | (subst k1;exact absurd h1 (UInt8.lt_irrefl _))
   | (subst h1;exact absurd k1 (UInt8.lt_irrefl _))
theorem cmpS_eq:∀a b:List UInt8,cmpS a b=0->a=b
 | [],[],_=>rfl
 | [],_::_,h=>by cases h
 |_::_,[],h=>by cases h
 |x::a,y::b,h=>by
  rcases cmpS_cons x y a b with ⟨h1,h2⟩| ⟨h1,h2⟩| ⟨h1,h2⟩
  ·rw[h2] at h;cases h
  ·rw[h2] at h;rw[h1,cmpS_eq a b h]
  ·rw[h2] at h;cases h
theorem cmpS_trans:∀a b c:List UInt8,cmpS a b<=0->cmpS b c<=0->cmpS a c<=0
 | [],_,[],_,_=>R5 0
 | [],_,_::_,_,_=>by show (-1:Int)<=0;omega
 |x::a,[],_,h,_=>by have h:(1:Int)<=0:=h;omega
 |x::a,y::b,[],_,h=>by have h:(1:Int)<=0:=h;omega
 |x::a,y::b,z::c,h,k=>by
  rcases cmpS_cons x z a c with ⟨l1,l2⟩| ⟨l1,l2⟩| ⟨l1,l2⟩
  ·rw[l2];omega
  ·rcases cmpS_cons x y a b with ⟨h1,h2⟩| ⟨h1,h2⟩| ⟨h1,h2⟩
   ·rcases cmpS_cons y z b c with ⟨k1,k2⟩| ⟨k1,k2⟩| ⟨k1,k2⟩
    ·subst l1;exact absurd h1 (UInt8.lt_asymm k1)
    ·subst l1;subst k1;exact absurd h1 (UInt8.lt_irrefl _)
    ·rw[k2] at k;omega
   ·rcases cmpS_cons y z b c with ⟨k1,k2⟩| ⟨k1,k2⟩| ⟨k1,k2⟩
    ·subst l1;subst h1;exact absurd k1 (UInt8.lt_irrefl _)
    ·rw[l2];rw[h2] at h;rw[k2] at k;exact cmpS_trans a b c h k
    ·rw[k2] at k;omega
   ·rw[h2] at h;omega
  ·exfalso
   have hxy:x<=y:=by
    rcases cmpS_cons x y a b with ⟨h1,h2⟩| ⟨h1,h2⟩| ⟨h1,h2⟩
    ·exact UInt8.le_of_lt h1
    ·rw[h1];exact UInt8.le_refl _
    ·rw[h2] at h;omega
   have hyz:y<=z:=by
    rcases cmpS_cons y z b c with ⟨h1,h2⟩| ⟨h1,h2⟩| ⟨h1,h2⟩
    ·exact UInt8.le_of_lt h1
    ·rw[h1];exact UInt8.le_refl _
    ·rw[h2] at k;omega
   have e1:x.toNat<=y.toNat:=hxy
   have e2:y.toNat<=z.toNat:=hyz
   have e3:z.toNat<x.toNat:=l1
   omega
theorem cmpS_law:CLaw cmpS:=⟨cmpS_anti,cmpS_trans,cmpS_eq⟩
def lex (a b:Int):Int:=bif a !=0 then a else b
theorem lex_val (a b:Int):(a≠0/\lex a b=a)\/(a=0/\lex a b=b):=by
 unfold lex
 cases h:a !=0
 ·exact .inr ⟨by simpa using h,rfl⟩
 ·exact .inl ⟨by simpa using h,rfl⟩
theorem lex_anti {a b a' b':Int} (h:a'= -a) (k:b'= -b):lex a' b'= -lex a b:=by
 rcases lex_val a b with e|e<;>rcases lex_val a' b' with f|f<;>omega
theorem lex_zero {a b:Int} (h:lex a b=0):a=0/\b=0:=by
 rcases lex_val a b with e|e<;>omega
theorem lex_trans {a1 a2 a3 b1 b2 b3:Int} (h:a1<=0->a2<=0->a3<=0) (h1:a2<=0-> -a3<=0-> -a1<=0) (h2: -a3<=0->a1<=0-> -a2<=0) (k:b1<=0->b2<=0->b3<=0):lex a1 b1<=0->lex a2 b2<=0->lex a3 b3<=0:=by
 rcases lex_val a1 b1 with e|e<;>rcases lex_val a2 b2 with f|f<;>rcases lex_val a3 b3 with g|g<;>omega
theorem CLaw.tri {α:Type} {c:α->α->Int} (h:CLaw c) (x y z:α):(c x y<=0->c y z<=0->c x z<=0)/\(c y z<=0-> -c x z<=0-> -c x y<=0)/\(-c x z<=0->c x y<=0-> -c y z<=0):=by
 refine⟨h.trans x y z,fun a b=>?_,fun a b=>?_⟩
 ·rw[<-h.anti x z] at b;rw[<-h.anti x y];exact h.trans y z x a b
 ·rw[<-h.anti x z] at a;rw[<-h.anti y z];exact h.trans z x y a b
theorem cmpP_lex (x y:Pred):cmpP x y=lex (cmpI x.Op y.Op) (lex (cmpS x.Name y.Name) (lex (cmpI x.N y.N) (lex (cmpI x.M y.M) (lex (cmpS x.S y.S) (lex (cmpL x.Subs y.Subs) 0))))):=by
 rw[cmpP_eq];rfl
theorem lex0 (b:Int):lex b 0=b:=by rcases lex_val b 0 with h|h<;>omega
theorem cmpL_cons (p q:Pred) (l m:List Pred):cmpL (p::l) (q::m)=lex (cmpP p q) (cmpL l m):=by
 rw[cmpL];rfl
mutual
theorem cmpP_anti:∀x y:Pred,cmpP y x= -cmpP x y
 | ⟨o,m,a,b,s,l⟩,⟨o',m',a',b',s',l'⟩=>by
   rw[cmpP_lex,cmpP_lex]
   exact lex_anti (cmpI_law.anti _ _) (lex_anti (cmpS_law.anti _ _) (lex_anti (cmpI_law.anti _ _) (lex_anti (cmpI_law.anti _ _) (lex_anti (cmpS_law.anti _ _) (lex_anti (cmpL_anti l l') rfl)))))
theorem cmpL_anti:∀l m:List Pred,cmpL m l= -cmpL l m
 | [],[]=>by rfl
 | [],_::_=>by rfl
 |_::_,[]=>by rfl
 |p::l,q::m=>by
  rw[cmpL_cons,cmpL_cons]
  exact lex_anti (cmpP_anti p q) (cmpL_anti l m)
end
mutual
theorem cmpP_zero:∀x y:Pred,cmpP x y=0->x=y
 | ⟨o,m,a,b,s,l⟩,⟨o',m',a',b',s',l'⟩,h=>by
   rw[cmpP_lex] at h
   obtain⟨h1,h⟩:=lex_zero h
   obtain⟨h2,h⟩:=lex_zero h
   obtain⟨h3,h⟩:=lex_zero h
   obtain⟨h4,h⟩:=lex_zero h
   obtain⟨h5,h⟩:=lex_zero h
   obtain⟨h6,h⟩:=lex_zero h
   have e1:=cmpI_law.eq _ _ h1
   have e2:=cmpS_law.eq _ _ h2
   have e3:=cmpI_law.eq _ _ h3
   have e4:=cmpI_law.eq _ _ h4
   have e5:=cmpS_law.eq _ _ h5
   have e6:=cmpL_zero l l' h6
   dsimp only at e1 e2 e3 e4 e5
   subst e1;subst e2;subst e3;subst e4;subst e5;subst e6
   rfl
theorem cmpL_zero:∀l m:List Pred,cmpL l m=0->l=m
 | [],[],_=>rfl
 | [],_::_,h=>by rw[cmpL] at h;cases h
 |_::_,[],h=>by rw[cmpL] at h;cases h
 |p::l,q::m,h=>by
  rw[cmpL_cons] at h
  obtain⟨h1,h2⟩:=lex_zero h
  rw[cmpP_zero p q h1,cmpL_zero l m h2]
end
theorem cmpPL_trans:∀k:Nat,(∀x y z:Pred,szP x<=k->szP y<=k->szP z<=k->cmpP x y<=0->cmpP y z<=0->cmpP x z<=0)/\(∀x y z:List Pred,szL x<=k->szL y<=k->szL z<=k->cmpL x y<=0->cmpL y z<=0->cmpL x z<=0)
 |0=>by
  refine⟨fun x=>?_,fun x y z hx hy hz=>?_⟩
  ·intro y z h;have:=szP_pos x;omega
  ·have nil:∀l:List Pred,szL l<=0->l=[]:=fun l h=>by
    cases l with
    |nil=>rfl
    |cons p l=>have:=szP_pos p;simp only[szL] at h;omega
   rw[nil x hx,nil y hy,nil z hz]
   exact fun _ h=>h
 |k+1=>by
  have ih:=cmpPL_trans k
  have hP:∀x y z:Pred,szP x<=k+1->szP y<=k+1->szP z<=k+1->cmpP x y<=0->cmpP y z<=0->cmpP x z<=0:=fun x y z hx hy hz=>by
   rw[szP_subs] at hx hy hz
   rw[cmpP_lex,cmpP_lex,cmpP_lex,lex0,lex0,lex0]
   obtain⟨a1,a2,a3⟩:=cmpI_law.tri x.Op y.Op z.Op
   obtain⟨b1,b2,b3⟩:=cmpS_law.tri x.Name y.Name z.Name
   obtain⟨c1,c2,c3⟩:=cmpI_law.tri x.N y.N z.N
   obtain⟨d1,d2,d3⟩:=cmpI_law.tri x.M y.M z.M
   obtain⟨e1,e2,e3⟩:=cmpS_law.tri x.S y.S z.S
   exact lex_trans a1 a2 a3 (lex_trans b1 b2 b3 (lex_trans c1 c2 c3 (lex_trans d1 d2 d3 (lex_trans e1 e2 e3 (ih.2 x.Subs y.Subs z.Subs (by omega) (by omega) (by omega))))))
  refine⟨hP,?_⟩
  have lists:∀x y z:List Pred,szL x<=k+1->szL y<=k+1->szL z<=k+1->cmpL x y<=0->cmpL y z<=0->cmpL x z<=0:=by
   intro x
   induction x with
   |nil=>
    intro y z _ _ _ _ _
    cases z with
    |nil=>rw[cmpL];omega
    |cons q m=>rw[cmpL];omega
   |cons p l ihl=>
    intro y z hx hy hz h1 h2
    cases y with
    |nil=>rw[cmpL] at h1;omega
    |cons q m=>
     cases z with
     |nil=>rw[cmpL] at h2;omega
     |cons r s=>
      rw[cmpL_cons] at h1 h2⊢
      simp only[szL] at hx hy hz
      have t1:=hP p q r (by omega) (by omega) (by omega)
      have t2:=hP q r p (by omega) (by omega) (by omega)
      have t3:=hP r p q (by omega) (by omega) (by omega)
      rw[cmpP_anti p r,cmpP_anti p q] at t2
      rw[cmpP_anti p r,cmpP_anti q r] at t3
      exact lex_trans t1 t2 t3 (ihl m s (by omega) (by omega) (by omega)) h1 h2
  exact lists
theorem cmpP_law:CLaw cmpP where
 anti:=cmpP_anti
 trans:=fun x y z=>(cmpPL_trans (szP x+szP y+szP z)).1 x y z (by omega) (by omega) (by omega)
 eq:=cmpP_zero
theorem cmpP_self (x:Pred):cmpP x x=0:=by have:=cmpP_anti x x;omega
end Sh
end
section
open Go Aq
namespace Pq
variable {α β γ:Type}
theorem tG {c:Bool} {o:Option α} {P:α->Prop} (h:c=true) (k:∃r,o=some r/\P r):∃r,(bif c then o else none)=some r/\P r:=by rw[h];exact k
theorem tI {i:Int} {n:Nat} {o:Option α} {P:α->Prop} (h0:0<=i) (h1:i<n) (k:∃r,o=some r/\P r):∃r,(bif decide (0<=i/\i< ((n:Nat):Int)) then o else none)=some r/\P r:=tG (decide_eq_true ⟨h0,h1⟩) k
theorem tD {p:Prop} [Decidable p] {a b:Option α} {P:α->Prop} (ha:p->∃r,a=some r/\P r) (hb:¬p->∃r,b=some r/\P r):∃r,(bif decide p then a else b)=some r/\P r:=by
 by_cases h:p
 ·rw[decide_eq_true h];exact ha h
 ·rw[decide_eq_false h];exact hb h
theorem tN {p:Prop} [Decidable p] {a b:Option α} {P:α->Prop} (ha:¬p->∃r,a=some r/\P r) (hb:p->∃r,b=some r/\P r):∃r,(bif !decide p then a else b)=some r/\P r:=by
 by_cases h:p
 ·rw[decide_eq_true h];exact hb h
 ·rw[decide_eq_false h];exact ha h
theorem tC {c:Bool} {a b:Option α} {P:α->Prop} (ha:c=true->∃r,a=some r/\P r) (hb:c=false->∃r,b=some r/\P r):∃r,(bif c then a else b)=some r/\P r:=by
 cases c
 ·exact hb rfl
 ·exact ha rfl
theorem tS {a:α} {P:α->Prop} (h:P a):∃r,some a=some r/\P r:=⟨a,rfl,h⟩
theorem tB {o:Option α} {f:α->Option β} {Q:α->Prop} {P:β->Prop} (h:∃x,o=some x/\Q x) (k:∀x,Q x->∃r,f x=some r/\P r):∃r,o.bind f=some r/\P r:=by
 obtain⟨x,e,q⟩:=h
 rw[e];exact k x q
theorem tE {o:Option α} {f:α->Option β} {x:α} {P:β->Prop} (h:o=some x) (k:∃r,f x=some r/\P r):∃r,o.bind f=some r/\P r:=by rw[h];exact k
theorem tW {o:Option α} {P Q:α->Prop} (h:∃r,o=some r/\Q r) (k:∀r,Q r->P r):∃r,o=some r/\P r:=by
 obtain⟨x,e,q⟩:=h
 exact⟨x,e,k x q⟩
theorem mu {τ:Type} {L:Nat->τ->Option β} (Inv:τ->Prop) (vv:τ->Nat) (Post:β->Prop)
 (h:∀m p,Inv p->(∀p',Inv p'->vv p'<vv p->∃r,L m p'=some r/\Post r)->∃r,L (m+1) p=some r/\Post r):∀m p,Inv p->vv p<m->∃r,L m p=some r/\Post r
 |0,p,_,hm=>by omega
 |m+1,p,hp,hm=>h m p hp fun p' hp' hlt=>mu Inv vv Post h m p' hp' (by omega)
theorem wr {i:Int} (h0: -(2^62)<=i) (h:i<=2^62):wrap .i64 i=i:=by rw[IntKind.wrap_i64];omega
def gI (d:α) (l:List α) (i:Int):α:=(l[i.toNat]?).getD d
theorem aG (d:α) {l:List α} {i:Int} (h0:0<=i) (h1:i<l.length):idxL l i=some (gI d l i):=by
 unfold idxL gI
 rw[if_pos ⟨h0,h1⟩]
 have:i.toNat<l.length:=by omega
 rw[Sc this];rfl
theorem QX (d:α) {l:List α} {i:Int} (h0:0<=i) (h1:i<l.length):gI d l i∈l:=by
 unfold gI
 have:i.toNat<l.length:=by omega
 rw[Sc this]
 exact SI _
theorem aC {l:List α} {i:Int} {x:α}:(setL l i x).length=l.length:=by unfold setL;exact List.length_set
theorem Ae {d:α} {l:List α} {i k:Int} {x:α} (h0:0<=i) (h1:i<l.length) (hk:0<=k):gI d (setL l i x) k=if k=i then x else gI d l k:=by
 unfold gI setL
 rw[List.getElem?_set]
 by_cases e:k=i
 ·subst e
  rw[if_pos rfl,if_pos rfl,if_pos (by omega)];rfl
 ·rw[if_neg e,if_neg (by omega)]
def swp (d:α) (l:List α) (i j:Int):List α:=setL (setL l i (gI d l j)) j (gI d l i)
theorem bg {d:α} {l:List α} {i j:Int}:(swp d l i j).length=l.length:=by unfold swp;rw[aC,aC]
theorem eO {d:α} {l:List α} {i j k:Int} (h0:0<=i) (h1:i<l.length) (h2:0<=j) (h3:j<l.length) (hk:0<=k):gI d (swp d l i j) k=if k=j then gI d l i else if k=i then gI d l j else gI d l k:=by
 unfold swp
 rw[Ae h2 (by rw[aC];exact h3) hk,Ae h0 h1 hk]
theorem QY {d:α} {l:List α} {i j:Int} (h0:0<=i) (h1:i<l.length) (h2:0<=j) (h3:j<l.length):(swp d l i j).Perm l:=by
 have a1:i.toNat<l.toArray.size:=by simp;omega
 have a2:j.toNat<l.toArray.size:=by simp;omega
 have:=(Array.swap_perm (xs:=l.toArray) a1 a2).toList
 have e:(l.toArray.swap i.toNat j.toNat a1 a2).toList=swp d l i j:=by
  unfold swp setL gI
  rw[Array.toList_swap]
  simp only[List.size_toArray] at a1 a2
  rw[Sc a1,Sc a2]
  simp
 rw[e] at this
 exact this
structure Rp (d:α) (a b:Int) (l l':List α):Prop where
 len:l'.length=l.length
 out:∀k,0<=k->(k<a\/b<=k)->gI d l' k=gI d l k
 perm:l'.Perm l
 all:∀φ:α->Prop,(∀k,a<=k->k<b->φ (gI d l k))->∀k,a<=k->k<b->φ (gI d l' k)
theorem Rp.refl (d:α) (a b:Int) (l:List α):Rp d a b l l:=⟨rfl,fun _ _ _=>rfl,List.Perm.refl _,fun _ h=>h⟩
theorem Rp.trans {d:α} {a b:Int} {l l' l'':List α} (h:Rp d a b l l') (k:Rp d a b l' l''):Rp d a b l l'':=
 ⟨k.len.trans h.len,fun i h0 h1=>(k.out i h0 h1).trans (h.out i h0 h1),k.perm.trans h.perm,fun φ hφ=>k.all φ (h.all φ hφ)⟩
theorem Rp.swp {d:α} {a b i j:Int} {l l':List α} (h:Rp d a b l l') (ha:0<=a) (hb:b<=l.length) (i0:a<=i) (i1:i<b) (j0:a<=j) (j1:j<b):Rp d a b l (swp d l' i j):=by
 have hl:=h.len
 refine h.trans ⟨bg,fun k k0 k1=>?_,QY (by omega) (by omega) (by omega) (by omega),fun φ hφ k k0 k1=>?_⟩
 ·rw[eO (by omega) (by omega) (by omega) (by omega) k0,if_neg (by omega),if_neg (by omega)]
 ·rw[eO (by omega) (by omega) (by omega) (by omega) (by omega)]
  split
  ·exact hφ i i0 i1
  ·split
   ·exact hφ j j0 j1
   ·exact hφ k k0 k1
theorem Rp.wide {d:α} {a b a' b':Int} {l l':List α} (h:Rp d a b l l') (ha:a'<=a) (hb:b<=b') (h0:0<=a'):Rp d a' b' l l':=by
 refine⟨h.len,fun k k0 k1=>h.out k k0 (by omega),h.perm,fun φ hφ k k0 k1=>?_⟩
 by_cases hk:a<=k/\k<b
 ·have:=h.all (fun x=>φ x) (fun i i0 i1=>hφ i (by omega) (by omega)) k hk.1 hk.2
  exact this
 ·rw[h.out k (by omega) (by omega)]
  exact hφ k k0 k1
structure Ord (lt:α->α->Prop):Prop where
 asym:∀x y,lt x y->¬lt y x
 neg:∀x y z,¬lt x y->¬lt y z->¬lt x z
theorem Ord.iM {lt:α->α->Prop} (h:Ord lt) (x:α):¬lt x x:=fun k=>h.asym x x k k
theorem Ord.trans {lt:α->α->Prop} (h:Ord lt) {x y z:α} (h1:lt x y) (h2:lt y z):lt x z:=by
 refine Classical.byContradiction fun k=>?_
 exact h.neg x z y k (h.asym y z h2) h1
def Sd (lt:α->α->Prop) (d:α) (a b:Int) (l:List α):Prop:=∀i j,a<=i->i<j->j<b->¬lt (gI d l j) (gI d l i)
theorem Sd.QZ {lt:α->α->Prop} (ho:Ord lt) {d:α} {a b:Int} {l:List α} (h:∀i,a<i->i<b->¬lt (gI d l i) (gI d l (i-1))):Sd lt d a b l:=by
 have key:∀(k:Nat) (i j:Int),a<=i->j=i+1+k->j<b->¬lt (gI d l j) (gI d l i):=by
  intro k
  induction k with
  |zero=>
   intro i j h0 h1 h2
   have:=h j (by omega) h2
   rwa[show j-1=i by omega] at this
  |succ k ih=>
   intro i j h0 h1 h2
   exact ho.neg _ _ _ (h j (by omega) h2) (ih i (j-1) h0 (by omega) (by omega))
 intro i j h0 h1 h2
 exact key (j-i-1).toNat i j h0 (by omega) h2
theorem Sd.pw {lt:α->α->Prop} {d:α} {l:List α} (h:Sd lt d 0 l.length l):l.Pairwise fun x y=>¬lt y x:=by
 rw[List.pairwise_iff_getElem]
 intro i j hi hj hij
 have:=h (i:Int) (j:Int) (by omega) (by omega) (by omega)
 unfold gI at this
 rw[Int.toNat_natCast,Int.toNat_natCast,Sc hi,Sc hj] at this
 exact this
def Al (Ok:α->Prop) (l:List α):Prop:=∀x∈l,Ok x
theorem Rp.al {Ok:α->Prop} {d:α} {a b:Int} {l l':List α} (h:Rp d a b l l') (k:Al Ok l):Al Ok l':=fun x hx=>k x (h.perm.mem_iff.1 hx)
theorem Al.at {Ok:α->Prop} {l:List α} (h:Al Ok l) (d:α) {i:Int} (h0:0<=i) (h1:i<l.length):Ok (gI d l i):=h _ (QX d h0 h1)
def CmpO (Ok:α->Prop) (lt:α->α->Prop) (cmp:α×α->Option Int):Prop:=∀a b,Ok a->Ok b->∃r,cmp (a,b)=some r/\(r<0↔lt a b)
theorem tM {Ok:α->Prop} {lt:α->α->Prop} {cmp:α×α->Option Int} (h:CmpO Ok lt cmp) {a b:α} {f:Int->Option β} {P:β->Prop} (ha:Ok a) (hb:Ok b) (k:∀r,(r<0↔lt a b)->∃s,f r=some s/\P s):∃s,(cmp (a,b)).bind f=some s/\P s:=by
 obtain⟨r,e,h⟩:=h a b ha hb
 rw[e];exact k r h
end Pq
end
section
open Go Aq
namespace Pq
variable {α:Type}
section
variable {d:α} {Ok:α->Prop} {lt:α->α->Prop} {cmp:α×α->Option Int} (hc:CmpO Ok lt cmp) (ho:Ord lt) {L4:Int->Int->Int->Nat->Int×List α->Option (PUnit×List α)}
 (h4:∀(x1 x2 x4:Int) (m:Nat) (x6:Int) (x7:List α),L4 x1 x2 x4 (m+1) (x6,x7)=
   bif decide (x6>x1) then
    bif decide (0<=x6/\x6< (x7.length:Int)) then
     (idxL x7 x6).bind fun (r8:α)=>
     bif decide (0<=(wrap .i64 (x6-(1:Int)))/\(wrap .i64 (x6-(1:Int)))< (x7.length:Int)) then
      (idxL x7 (wrap .i64 (x6-(1:Int)))).bind fun (r9:α)=>
      (cmp (r8,r9)).bind fun (r10:Int)=>
      bif decide (r10< (0:Int)) then
       bif decide (0<=(wrap .i64 (x6-(1:Int)))/\(wrap .i64 (x6-(1:Int)))< (x7.length:Int)) then
        (idxL x7 (wrap .i64 (x6-(1:Int)))).bind fun (r11:α)=>
        bif decide (0<=x6/\x6< (x7.length:Int)) then
         (idxL x7 x6).bind fun (r12:α)=>
         bif decide (0<=x6/\x6< (x7.length:Int)) then
          (idxL x7 x6).bind fun (_:α)=>
          bif decide (0<=(wrap .i64 (x6-(1:Int)))/\(wrap .i64 (x6-(1:Int)))< (((setL x7 x6 r11).length:Nat):Int)) then
           (idxL (setL x7 x6 r11) (wrap .i64 (x6-(1:Int)))).bind fun (_:α)=>
           L4 x1 x2 x4 m ((wrap .i64 (x6-(1:Int)),setL (setL x7 x6 r11) (wrap .i64 (x6-(1:Int))) r12))
          else
           none
         else
          none
        else
         none
       else
        none
      else
       some (((),x7))
     else
      none
    else
     none
   else
    some (((),x7)))
include hc ho h4
theorem Q0 {a i x2 x4:Int} {l:List α} {m:Nat} (h0:0<=a) (h1:a<=i) (h2:i<l.length) (hb:l.length<2^60) (hal:Al Ok l) (hs:Sd lt d a i l) (hm:(i-a).toNat<m):
 ∃r,L4 a x2 x4 m (i,l)=some r/\Rp d a (i+1) l r.2/\Sd lt d a (i+1) r.2:=by
 refine mu (τ:=Int×List α) (L:=L4 a x2 x4) (fun p=>a<=p.1/\p.1<=i/\Rp d a (i+1) l p.2/\(∀u v,a<=u->u<v->v<=i->u≠p.1->v≠p.1->¬lt (gI d p.2 v) (gI d p.2 u))/\(∀v,p.1<v->v<=i->¬lt (gI d p.2 v) (gI d p.2 p.1))) (fun p=>(p.1-a).toNat) _ ?_ m (i,l) ⟨h1,R5 _,.refl _ _ _ _,fun u v k1 k2 k3 k4 k5=>hs u v k1 k2 (by omega),fun v k1 k2=>by omega⟩ hm
 rintro m ⟨j,D⟩ ⟨i1,i2,i3,i4,i5⟩ aS
 dsimp only at i1 i2 i3 i4 i5 aS⊢
 have hl:=i3.len
 have bO:=i3.al hal
 rw[h4]
 simp (disch:=omega) only[wr]
 refine tD (fun hj=>?_) (fun hj=>?_)
 ·refine tI (by omega) (by omega) (tE (aG d (by omega) (by omega)) (tI (by omega) (by omega) (tE (aG d (by omega) (by omega)) (tM hc (bO.at d (by omega) (by omega)) (bO.at d (by omega) (by omega)) fun r hr=>?_))))
  refine tD (fun hlt=>?_) (fun hlt=>?_)
  ·refine tI (by omega) (by omega) (tE (aG d (by omega) (by omega)) (tI (by omega) (by omega) (tE (aG d (by omega) (by omega)) (tI (by omega) (by omega) (tE (aG d (by omega) (by omega)) (tI (by omega) (by rw[aC];omega) (tE (aG d (by omega) (by rw[aC];omega)) ?_)))))))
   have hlt':=hr.1 hlt
   refine aS (j-1,swp d D j (j-1)) ⟨by dsimp only;omega,by dsimp only;omega,i3.swp h0 (by omega) (by omega) (by omega) (by omega) (by omega),fun u v k1 k2 k3 k4 k5=>?_,fun v k1 k2=>?_⟩ (by dsimp only;omega)
   ·dsimp only at k4 k5⊢
    rw[eO (by omega) (by omega) (by omega) (by omega) (by omega),eO (by omega) (by omega) (by omega) (by omega) (by omega),if_neg k5,if_neg k4]
    by_cases e1:v=j
    ·rw[if_pos e1]
     by_cases e2:u=j
     ·omega
     ·rw[if_neg e2]
      exact i4 u (j-1) k1 (by omega) (by omega) e2 (by omega)
    ·rw[if_neg e1]
     by_cases e2:u=j
     ·rw[if_pos e2]
      exact i4 (j-1) v (by omega) (by omega) k3 (by omega) e1
     ·rw[if_neg e2]
      exact i4 u v k1 k2 k3 e2 e1
   ·dsimp only at k1 k2⊢
    rw[eO (by omega) (by omega) (by omega) (by omega) (by omega),eO (by omega) (by omega) (by omega) (by omega) (by omega),if_neg (by omega),if_pos rfl]
    by_cases e1:v=j
    ·rw[if_pos e1];exact ho.asym _ _ hlt'
    ·rw[if_neg e1];exact i5 v (by omega) k2
  ·refine tS ⟨i3,?_⟩
   have hlt':¬lt (gI d D j) (gI d D (j-1)):=fun h=>hlt (hr.2 h)
   intro u v k1 k2 k3
   by_cases e1:v=j
   ·subst e1
    by_cases e2:u=v-1
    ·rw[e2];exact hlt'
    ·exact ho.neg _ _ _ hlt' (i4 u (v-1) k1 (by omega) (by omega) (by omega) (by omega))
   ·by_cases e2:u=j
    ·subst e2;exact i5 v k2 (by omega)
    ·exact i4 u v k1 k2 (by omega) e2 e1
 ·refine tS ⟨i3,?_⟩
  have e:j=a:=by omega
  intro u v k1 k2 k3
  by_cases e2:u=j
  ·subst e2;exact i5 v k2 (by omega)
  ·exact i4 u v k1 k2 (by omega) e2 (by omega)
variable {n:Nat} {L1:Int->Int->Nat->Int×List α->Option (PUnit×List α)}
 (h1:∀(x1 x2:Int) (m:Nat) (x4:Int) (x5:List α),L1 x1 x2 (m+1) (x4,x5)=
   bif decide (x4<x2) then
    (L4 x1 x2 x4 n ((x4,x5))).bind fun (r15:PUnit×List α)=>
    L1 x1 x2 m ((wrap .i64 (x4+(1:Int)),r15.2))
   else
    some (((),x5)))
include h1
theorem insAll {a b:Int} {l:List α} (h0:0<=a) (hab:a<=b) (h2:b<=l.length) (hb:l.length<2^60) (hal:Al Ok l) (hn:(b-a).toNat+1<n):
 ∃r,L1 a b n (wrap .i64 (a+1),l)=some r/\Rp d a b l r.2/\Sd lt d a b r.2:=by
 rw[wr (by omega) (by omega)]
 refine mu (τ:=Int×List α) (L:=L1 a b) (fun p=>a<p.1/\(p.1<=b\/p.1=a+1)/\Rp d a b l p.2/\Sd lt d a p.1 p.2) (fun p=>(b-p.1).toNat) _ ?_ n (a+1,l) ⟨by dsimp only;omega,.inr rfl,.refl _ _ _ _,fun u v k1 k2 k3=>by dsimp only at k3;omega⟩ (by dsimp only;omega)
 rintro m ⟨i,D⟩ ⟨i1,i2,i3,i4⟩ aS
 dsimp only at i1 i2 i3 i4 aS⊢
 have hl:=i3.len
 rw[h1]
 refine tD (fun hi=>?_) (fun hi=>?_)
 ·refine tB (Q0 hc ho h4 (d:=d) h0 (by omega) (by omega) (by omega) (i3.al hal) i4 (by omega)) fun r ⟨r1,r2⟩=>?_
  rw[wr (by omega) (by omega)]
  exact aS (i+1,r.2) ⟨by dsimp only;omega,.inl (by dsimp only;omega),i3.trans (r1.wide (R5 _) (by omega) h0),r2⟩ (by dsimp only;omega)
 ·refine tS ⟨i3,?_⟩
  intro u v k1 k2 k3
  exact i4 u v k1 k2 (by omega)
end
section
variable {d:α} {n:Nat} {L2:Nat->(Int×Int)×List α->Option (PUnit×List α)}
 (h2:∀(m:Nat) (x4 x5:Int) (x6:List α),L2 (m+1) ((x4,x5),x6)=
   bif decide (x4<x5) then
    bif decide (0<=x5/\x5< (x6.length:Int)) then
     (idxL x6 x5).bind fun (r7:α)=>
     bif decide (0<=x4/\x4< (x6.length:Int)) then
      (idxL x6 x4).bind fun (r8:α)=>
      bif decide (0<=x4/\x4< (x6.length:Int)) then
       (idxL x6 x4).bind fun (_:α)=>
       bif decide (0<=x5/\x5< (((setL x6 x4 r7).length:Nat):Int)) then
        (idxL (setL x6 x4 r7) x5).bind fun (_:α)=>
        L2 m (((wrap .i64 (x4+(1:Int)),wrap .i64 (x5-(1:Int))),setL (setL x6 x4 r7) x5 r8))
       else
        none
      else
       none
     else
      none
    else
     none
   else
    some (((),x6)))
include h2
theorem revAll {a b:Int} {l:List α} (h0:0<=a) (hab:a<=b) (h3:b<=l.length) (hb:l.length<2^60) (hn:(b-a).toNat+1<n):
 ∃r,L2 n ((a,wrap .i64 (b-1)),l)=some r/\Rp d a b l r.2:=by
 rw[wr (by omega) (by omega)]
 refine mu (τ:=(Int×Int)×List α) (L:=L2) (fun p=>a<=p.1.1/\p.1.2<b/\a-1<=p.1.2/\p.1.1<=b/\Rp d a b l p.2) (fun p=>(p.1.2-p.1.1+1).toNat) _ ?_ n ((a,b-1),l) ⟨R5 _,by dsimp only;omega,by dsimp only;omega,by dsimp only;omega,.refl _ _ _ _⟩ (by dsimp only;omega)
 rintro m ⟨⟨i,j⟩,D⟩ ⟨i1,i2,i3,i4,i5⟩ aS
 dsimp only at i1 i2 i3 i4 i5 aS⊢
 have hl:=i5.len
 rw[h2]
 refine tD (fun hi=>?_) (fun hi=>tS i5)
 refine tI (by omega) (by omega) (tE (aG d (by omega) (by omega)) (tI (by omega) (by omega) (tE (aG d (by omega) (by omega)) (tI (by omega) (by omega) (tE (aG d (by omega) (by omega)) (tI (by omega) (by rw[aC];omega) (tE (aG d (by omega) (by rw[aC];omega)) ?_)))))))
 rw[wr (by omega) (by omega),wr (by omega) (by omega)]
 exact aS ((i+1,j-1),swp d D i j) ⟨by dsimp only;omega,by dsimp only;omega,by dsimp only;omega,by dsimp only;omega,i5.swp h0 (by omega) (by omega) (by omega) (by omega) (by omega)⟩ (by dsimp only;omega)
end
end Pq
end
