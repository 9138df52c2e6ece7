import Derived.Test.YtgdialomgeijcaaGreatF3520
import Derived.Test.YtgdialomgeijcaaGreatF3522
set_option linter.all false
open Go.IntKind (wrap)
section
open Go Go.Proofs Aq
namespace Sh
theorem idxL_nat {U:Type} (l:List U) (i:Nat):idxL l (i:Int)=l[i]? :=by
 unfold idxL
 by_cases h:i<l.length
 .rw[if_pos ⟨by omega,by omega⟩];simp
 .rw[if_neg (by omega)];simp;omega
theorem idxL_of {U:Type} {l:List U} {i:Nat} {x:U} (h:l[i]? =some x):idxL l (i:Int)=some x:=by rw[idxL_nat,h]
theorem lt_of_get {U:Type} {l:List U} {i:Nat} {x:U} (h:l[i]? =some x):i<l.length:=by
 rw[QL] at h;exact h.1
theorem dec_of {U:Type} {l:List U} {i:Nat} {x:U} (h:l[i]? =some x):decide ((i:Int)< (l.length:Int))=true:=by
 have:=lt_of_get h;simp;omega
theorem dec_end {U:Type} (l:List U):decide ((l.length:Int)< (l.length:Int))=false:=by simp
theorem wrap_succ {i:Nat} (h:i<2^62):wrap .i64 ((i:Int)+(1:Int))=((i+1:Nat):Int):=by
 rw[IntKind.wrap_i64];omega
def foldI {U β Y:Type} (step:U->Nat->Y->(Y->β)->β) (fin:Y->β):Nat->List U->Y->β
 |_,[],s=>fin s
 |i,x::l,s=>step x i s fun s=>foldI step fin (i+1) l s
theorem loop_st {U β Y:Type} {L:Nat->Y->Int->Option β} {l:List U} (step:U->Nat->Y->(Y->Option β)->Option β) (fin:Y->Option β)
 (hs:∀m (i:Nat) x s,l[i]? =some x->L (m+1) s (i:Int)=step x i s fun s=>L m s ((i+1:Nat):Int)) (hf:∀m s,L (m+1) s (l.length:Int)=fin s)
 (hc:∀x (i:Nat) s k k',(∀s,k s=k' s)->step x i s k=step x i s k'):∀(k i m:Nat) (s:Y),i+k=l.length->k<m->L m s (i:Int)=foldI step fin i (l.drop i) s:=by
 intro k
 induction k with
 |zero=>
  intro i m s hi hm
  obtain⟨m,rfl⟩:∃m',m=m'+1:=⟨m-1,by omega⟩
  obtain rfl:i=l.length:=by omega
  rw[hf,List.drop_length];rfl
 |succ k ih=>
  intro i m s hi hm
  obtain⟨m,rfl⟩:∃m',m=m'+1:=⟨m-1,by omega⟩
  have hlt:i<l.length:=by omega
  have hx:l[i]? =some l[i]:=Qh hlt
  rw[hs m i l[i] s hx,Qq hlt]
  exact hc _ _ _ _ _ fun s=>ih (i+1) m s (by omega) (by omega)
theorem loop_ix {U β:Type} {L:Nat->Int->Option β} {l:List U} (step:U->Nat->Option β->Option β) (fin:Option β)
 (hs:∀m (i:Nat) x,l[i]? =some x->L (m+1) (i:Int)=step x i (L m ((i+1:Nat):Int))) (hf:∀m,L (m+1) (l.length:Int)=fin) {m:Nat} (hm:l.length<m):
 L m (0:Int)=foldI (Y:=Unit) (fun x i _ k=>step x i (k ())) (fun _=>fin) 0 l ():=by
 have:=loop_st (L:=fun m (_:Unit) i=>L m i) (l:=l) (fun x i _ k=>step x i (k ())) (fun _=>fin) (fun m i x _ h=>hs m i x h) (fun m _=>hf m) (fun x i s k k' h=>by rw[h]) l.length 0 m () (by omega) hm
 simpa using this
theorem foldI_find {U:Type} {γ:Type} (p:U->Bool) (f:Nat->γ) (z:γ):∀(l:List U) (i:Nat),foldI (Y:=Unit) (fun x i _ (k:Unit->Option γ)=>bif p x then some (f i) else k ()) (fun _=>some z) i l ()=some (match l.findIdx? p with|some j=>f (i+j)|none=>z)
 | [],i=>rfl
 |x::l,i=>by
  show (bif p x then some (f i) else foldI _ _ (i+1) l ())=_
  rw[List.findIdx?_cons]
  cases hp:p x
  .rw[cond_false,foldI_find p f z l (i+1)]
   simp only[P8,if_false]
   cases l.findIdx? p with
   |none=>rfl
   |some j=>simp only[Option.map_some];rw[Nat.add_right_comm,QK]
  .simp
theorem whenO_total {U:Type} {c:Bool} {o:Option U} {d:U} (h:c=true->∃x,o=some x):∃x,whenO c o d=some x:=by
 cases c
 .exact⟨d,rfl⟩
 .exact h rfl
def getA (l:List Attr) (x:List UInt8):Option Attr:=l.find? fun a=>a.Name==x
mutual
def holdsS (l:List Attr):Pred->Bool
 | ⟨op,name,n,m,s,subs⟩=>
   if op=1 then true else if op=2 then allS l subs else if op=3 then anyS l subs else if op=4 then !anyS l subs else
   if op=5 then (getA l name).isSome else
   if op=6 then (match getA l name with|some a=>a.Kind==(1:Int)&& decide (a.N>=n)&& decide (a.N<=m)|none=>false) else
   if op=7 then (match getA l name with|some a=>a.Kind==(2:Int)&& a.S==s|none=>false) else false
def allS (l:List Attr):List Pred->Bool
 | []=>true
 |p::ps=>holdsS l p&& allS l ps
def anyS (l:List Attr):List Pred->Bool
 | []=>false
 |p::ps=>holdsS l p||anyS l ps
end
mutual
def szP:Pred->Nat
 | ⟨_,_,_,_,_,subs⟩=>szL subs+1
def szL:List Pred->Nat
 | []=>0
 |p::ps=>szP p+szL ps
end
theorem szP_pos (p:Pred):1<=szP p:=by cases p;simp[szP]
theorem szP_subs (p:Pred):szP p=szL p.Subs+1:=by cases p;simp[szP]
theorem szL_len:∀l:List Pred,l.length<=szL l
 | []=>by simp
 |p::l=>by have:=szL_len l;have:=szP_pos p;simp[szL];omega
theorem szL_mem:∀{l:List Pred} {p:Pred},p∈l->szP p<=szL l
 | [],_,h=>by simp at h
 |q::l,p,h=>by
  rcases P9.1 h with rfl|h
  .simp[szL]
  .have:=szL_mem h;simp[szL];omega
theorem allS_eq (l:List Attr):∀ps:List Pred,allS l ps=ps.all (holdsS l)
 | []=>rfl
 |p::ps=>by rw[allS,allS_eq l ps,List.all_cons]
theorem anyS_eq (l:List Attr):∀ps:List Pred,anyS l ps=ps.any (holdsS l)
 | []=>rfl
 |p::ps=>by rw[anyS,anyS_eq l ps,List.any_cons]
theorem get_find {U:Type} (p:U->Bool):∀l:List U,(match l.findIdx? p with|some j=>l[j]? |none=>none)=l.find? p
 | []=>rfl
 |a::l=>by
  rw[List.findIdx?_cons,List.find?_cons]
  cases hp:p a
  .have:=get_find p l
   simp only[P8,if_false]
   cases h:l.findIdx? p with
   |none=>rw[h] at this;simpa using this
   |some j=>rw[h] at this;simpa using this
  .simp
end Sh
end
section
open Go Go.Proofs Aq
namespace Sh
end Sh
end
section
open Go Go.Proofs Aq
namespace Sh
def accS:List Pred->List Pred->List Pred
 |acc,[]=>acc
 |acc,x::l=>if acc.length<1000 then accS (acc++(pre x).take 1000) l else acc
theorem accS_take:∀(l acc:List Pred),(accS acc l).take 1000=(acc++preL l).take 1000
 | [],acc=>by simp[accS,preL]
 |x::l,acc=>by
  rw[accS,preL]
  split
  .rename_i h
   rw[accS_take l,<-Qt]
   by_cases h2:(pre x).length<=1000
   .rw[QJ h2]
   .have l1:1000<=(acc++(pre x).take 1000).length:=by rw[Qc,Qs];omega
    have l2:1000<=(acc++pre x).length:=by rw[Qc];omega
    rw[Rf l1,Rf l2,List.take_append,List.take_append,List.take_take]
    congr 2;omega
  .rename_i h
   rw[Rf (by omega)]
theorem room_2000 {a:Nat} (h:a<2000):roomOK a 80=true:=by
 unfold roomOK
 rw[P6,decide_eq_true_iff,decide_eq_true_iff]
 exact⟨by omega,by omega⟩
theorem Zc_m_spec {n:Nat}:∀(g:Nat) (p:Pred),szP p<=g->szP p<n->szP p<2^62->Zc_m n g p=some ((pre p).take 1000)
 |0,p,hg,_,_=>by have:=szP_pos p;omega
 |g+1,p,hg,hn,hp=>by
  have hs:=szP_subs p
  have hlen:=szL_len p.Subs
  have:=loop_st (L:=fun m (s:List Pred) i=>Zc_m_L3 n g p m (s,i)) (l:=p.Subs) (fun x _ s k=>if s.length<1000 then k (s++(pre x).take 1000) else some s) (fun s=>some s)
   (fun m i x s hx=>by
     have hlt:=lt_of_get hx
     have hm:x∈p.Subs:=Qw hx
     have hsz:=szL_mem hm
     show Zc_m_L3 n g p (m+1) (s,(i:Int))=_
     rw[Zc_m_L3_s,dec_of hx,idxL_of hx,wrap_succ (by omega)]
     simp only[cond_true,Option.bind_some,Pred.re_eq]
     rw[Zc_m_spec g x (by omega) (by omega) (by omega)]
     by_cases h:s.length<1000
     .have e:decide ((s.length:Int)< (1000:Int))=true:=by simp;omega
      have hl:((pre x).take 1000).length<=1000:=by simp;omega
      rw[e,if_pos h,cond_true]
      show (bif roomOK (s.length+((pre x).take 1000).length) 80 then _ else none)=_
      rw[room_2000 (by omega)];rfl
     .have e:decide ((s.length:Int)< (1000:Int))=false:=by simp;omega
      rw[e,if_neg h];rfl)
   (fun m s=>by
     show Zc_m_L3 n g p (m+1) (s,((p.Subs.length:Nat):Int))=_
     rw[Zc_m_L3_s,dec_end];rfl) (fun x i s k k' hk=>by rw[hk]) p.Subs.length 0 n [p] (by omega) (by omega)
  have key:∀(l:List Pred) (i:Nat) (s:List Pred),foldI (fun (x:Pred) (_:Nat) (s:List Pred) (k:List Pred->Option (List Pred))=>if s.length<1000 then k (s++(pre x).take 1000) else some s) (fun s=>some s) i l s=some (accS s l):=by
   intro l
   induction l with
   |nil=>intro i s;rfl
   |cons x l ih=>
    intro i s
    show (if s.length<1000 then foldI _ _ (i+1) l (s++(pre x).take 1000) else some s)=_
    rw[accS]
    split
    .exact ih (i+1) _
    .rfl
  rw[Qu,key] at this
  have this':Zc_m_L3 n g p n ([p],(0:Int))=some (accS [p] p.Subs):=this
  rw[Zc_m_eq,Pred.re_eq,this',Option.bind_some,pre_eq]
  have ht:=accS_take p.Subs [p]
  have e2:Int.toNat (1000:Int)=1000:=rfl
  by_cases h:(accS [p] p.Subs).length>1000
  .have e:decide ((((accS [p] p.Subs).length:Nat):Int)> (1000:Int))=true:=by simp;omega
   have e3:inB (1000:Int) (accS [p] p.Subs).length=true:=by unfold inB;simp;omega
   rw[e,cond_true,e3,cond_true,e2,ht];rfl
  .have e:decide ((((accS [p] p.Subs).length:Nat):Int)> (1000:Int))=false:=by simp;omega
   rw[e,cond_false]
   rw[QJ (by omega)] at ht
   rw[ht];rfl
theorem Zc_spec {n:Nat} {p:Pred} (hn:szP p<n) (hp:szP p<2^62):Zc n p=some ((pre p).take 1000):=by
 have e:Zc n p=Zc_m n n p:=by unfold Zc;rfl
 rw[e,Zc_m_spec n p (by omega) hn hp]
theorem loop_tot {U β Y:Type} {L:Nat->Y->Int->Option β} {l:List U} (hs:∀m (i:Nat) x s,l[i]? =some x->(∀s,∃r,L m s ((i+1:Nat):Int)=some r)->∃r,L (m+1) s (i:Int)=some r) (hf:∀m s (i:Nat),l.length<=i->∃r,L (m+1) s (i:Int)=some r):
 ∀(k i m:Nat) (s:Y),l.length<=i+k->k<m->∃r,L m s (i:Int)=some r:=by
 intro k
 induction k with
 |zero=>
  intro i m s hi hm
  obtain⟨m,rfl⟩:∃m',m=m'+1:=⟨m-1,by omega⟩
  exact hf m s i (by omega)
 |succ k ih=>
  intro i m s hi hm
  obtain⟨m,rfl⟩:∃m',m=m'+1:=⟨m-1,by omega⟩
  by_cases h:l.length<=i
  .exact hf m s i h
  .exact hs m i _ s (Qh (by omega)) fun s=>ih (i+1) m s (by omega) (by omega)
theorem dec_ge {U:Type} {l:List U} {i:Nat} (h:l.length<=i):decide ((i:Int)< (l.length:Int))=false:=by simp;omega
theorem bifx {U:Type} {c:Bool} {a b:Option U} (ha:∃r,a=some r) (hb:∃r,b=some r):∃r,(bif c then a else b)=some r:=by
 cases c
 .exact hb
 .exact ha
theorem Xt_spec {n:Nat} {p:Pred} (hn:szP p<n) (hp:szP p<2^62):Xt n p=some (((((pre p).take 1000).length:Nat)):Int):=by
 rw[Xt_eq,Pred.re_eq,Zc_spec hn hp];rfl
theorem Zd_m_total {n:Nat}:∀(g:Nat) (p:Pred) (k:Int),szP p<=g->szP p<n->szP p<2^62->∃b:Bool,Zd_m n g (p,k)=some b
 |0,p,k,hg,_,_=>by have:=szP_pos p;omega
 |g+1,p,k,hg,hn,hp=>by
  have hs:=szP_subs p
  have hlen:=szL_len p.Subs
  obtain⟨r,hr⟩:=loop_tot (L:=fun m (_:Unit) i=>Zd_m_L4 n g p k m i) (l:=p.Subs)
   (fun m i x _ hx ih=>by
     have hlt:=lt_of_get hx
     have hsz:=szL_mem (Qw hx)
     show∃r,Zd_m_L4 n g p k (m+1) (i:Int)=some r
     obtain⟨b,hb⟩:=Zd_m_total (n:=n) g x (wrap .i64 (k-(1:Int))) (by omega) (by omega) (by omega)
     rw[Zd_m_L4_s,dec_of hx,idxL_of hx,wrap_succ (by omega),cond_true,Option.bind_some,Pred.re_eq,hb]
     show∃r,(bif !b then _ else _)=some r
     exact bifx ⟨_,rfl⟩ (ih ()))
   (fun m _ i hi=>by
     show∃r,Zd_m_L4 n g p k (m+1) (i:Int)=some r
     rw[Zd_m_L4_s,dec_ge hi];exact⟨_,rfl⟩) p.Subs.length 0 n () (by omega) (by omega)
  have hr':Zd_m_L4 n g p k n (0:Int)=some r:=hr
  obtain⟨z,hz⟩:=whenO_total (c:= !(decide (k< (1:Int)))) (o:=Xt n p) (d:=(0:Int)) (fun _=>⟨_,Xt_spec hn hp⟩)
  rw[Zd_m_eq,Pred.re_eq]
  show∃b:Bool,Option.bind (whenO _ _ _) _=some b
  rw[hz]
  show∃b:Bool,(bif _ then some false else _)=some b
  refine bifx ⟨_,rfl⟩ ?_
  rw[hr',Option.bind_some]
  cases r with
  |inl q=>exact⟨true,rfl⟩
  |inr q=>exact⟨q,rfl⟩
theorem Zd_total {n:Nat} {p:Pred} {k:Int} (hn:szP p<n) (hp:szP p<2^62):∃b:Bool,Zd n (p,k)=some b:=by
 have e:Zd n (p,k)=Zd_m n n (p,k):=by unfold Zd;rfl
 rw[e];exact Zd_m_total n p k (by omega) hn hp
theorem bs {U β:Type} {o:Option U} {a:U} {f:U->Option β} {r:Option β} (h:o=some a) (k:f a=r):o.bind f=r:=by
 rw[h];exact k
mutual
theorem pre_len:∀p:Pred,(pre p).length=szP p
 | ⟨op,name,n,m,s,subs⟩=>by simp only[pre,szP,List.length_cons,preL_len' subs]
theorem preL_len':∀l:List Pred,(preL l).length=szL l
 | []=>rfl
 |p::l=>by simp only[preL,szL,Qc,pre_len p,preL_len' l]
end
theorem partsO_some {p:Pred} (h:szP p<2^62):partsO p=some (pre p):=by
 unfold partsO;rw[pre_len,if_pos h]
theorem filter_Size_R_spec {n:Nat}:∀(l:List Pred) (c:Nat),c<1000->ZD_R3 n l ((),(c:Int))=some (if c+l.length<1000 then .inl ((),((c+l.length:Nat):Int)) else .inr ((),(1000:Int)))
 | [],c,hc=>by
   rw[ZD_R3_0,if_pos (by simpa using hc)];rfl
 |x::l,c,hc=>by
  have:=ZD_R3_s n x l (c:Int)
  rw[show ZD_R3 n (x::l) ((),(c:Int))=_ from this,wrap_succ (by omega)]
  by_cases h:c+1=1000
  .have e:((((c+1:Nat):Int))==(1000:Int))=true:=by rw[h];rfl
   rw[e,cond_true,if_neg (by simp;omega),h];rfl
  .have e:((((c+1:Nat):Int))==(1000:Int))=false:=by simp;omega
   rw[e,cond_false]
   have:=filter_Size_R_spec (n:=n) l (c+1) (by omega)
   rw[show ZD_R3 n l ((),(((c+1:Nat):Int)))=_ from this]
   have e2:c+1+l.length=c+(x::l).length:=by simp;omega
   rw[e2]
theorem ZD_spec {n:Nat} {p:Pred} (h:szP p<2^62):ZD n p=some ((((pre p).take 1000).length:Nat):Int):=by
 rw[ZD_eq,Pred.re_eq]
 refine bs (Xe_eq n p) ?_
 show ((partsO p.re).bind _).bind _=_
 rw[Pred.re_eq]
 rw[partsO_some h,Option.bind_some]
 have:=filter_Size_R_spec (n:=n) (pre p) 0 (by omega)
 rw[show ZD_R3 n (pre p) ((),(0:Int))=_ from this,Qz]
 by_cases c:(pre p).length<1000
 .rw[if_pos c,QJ (by omega)];rfl
 .rw[if_neg c,Qs,Nat.min_eq_left (by omega)];rfl
end Sh
end
section
open Go Go.Proofs Aq
namespace Sh
def cmpI (a b:Int):Int:=bif decide (a<b) then-1 else bif decide (a>b) then 1 else 0
def orL:List Int->Int
 | []=>0
 |x::l=>bif x !=0 then x else orL l
mutual
def cmpP:Pred->Pred->Int
 | ⟨o,m,a,b,s,l⟩,⟨o',m',a',b',s',l'⟩=>orL [cmpI o o',cmpS m m',cmpI a a',cmpI b b',cmpS s s',cmpL l l']
def cmpL:List Pred->List Pred->Int
 | [],[]=>0
 | [],_::_=>-1
 |_::_,[]=>1
 |p::l,q::m=>bif cmpP p q !=0 then cmpP p q else cmpL l m
end
def fiv (x y:Pred):List Int:=[cmpI x.Op y.Op,cmpS x.Name y.Name,cmpI x.N y.N,cmpI x.M y.M,cmpS x.S y.S]
theorem cmpP_eq (x y:Pred):cmpP x y=orL (fiv x y++[cmpL x.Subs y.Subs]):=by cases x;cases y;rfl
theorem orL_app (l:List Int) (z:Int):orL (l++[z])=bif orL l !=0 then orL l else z:=by
 induction l with
 |nil=>
  show (bif z !=0 then z else 0)=z
  cases h:z !=0
  .have:z=0:=by simpa using h
   rw[this];rfl
  .rfl
 |cons x l ih=>
  show (bif x !=0 then x else orL (l++[z]))=bif (bif x !=0 then x else orL l) !=0 then (bif x !=0 then x else orL l) else z
  cases h:x !=0
  .simp only[cond_false];exact ih
  .simp only[cond_true,h]
theorem cmpS_texts:∀a b:List UInt8,cmpS a b=bif Go.Op.bytesLess a b then-1 else bif !((Go.Op.bytesLess a b)||(a==b)) then 1 else 0
 | [],[]=>by rfl
 | [],_::_=>by rfl
 |_::_,[]=>by rfl
 |x::a,y::b=>by
  have ih:=cmpS_texts a b
  unfold cmpS at ih⊢
  show (if x<y then-1 else if y<x then 1 else Lib.compareBytes a b)=_
  rw[show Go.Op.bytesLess (x::a) (y::b)=(decide (x<y)||(x==y&& Go.Op.bytesLess a b)) from rfl,ih]
  by_cases h1:x<y
  .simp[h1]
  .by_cases h2:y<x
   .have h3:¬x=y:=fun e=>by subst e;exact h1 h2
    have h4:(x==y)=false:=by simpa using h3
    simp only[h1,h2,if_false,if_true,decide_false,h4,Bool.false_and,Bool.or_self,Bool.false_or,cond_false,Bool.not_false,cond_true]
    rw[show ((x::a)==(y::b))=false from by simp[h3]];rfl
   .have h3:x=y:=by
     have e1:¬x.toNat<y.toNat:=h1
     have e2:¬y.toNat<x.toNat:=h2
     exact UInt8.toNat_inj.1 (by omega)
    subst h3
    simp[h1]
theorem Xc_spec {n:Nat} {a b:Int}:Xc n (a,b)=some (cmpI a b):=by
 rw[Xc_eq]
 unfold cmpI
 cases decide (a<b)<;>cases decide (a>b)<;>rfl
theorem Xj_spec {n:Nat} {a b:List UInt8}:Xj n (a,b)=some (cmpS a b):=by
 rw[Xj_eq,cmpS_texts]
 cases Go.Op.bytesLess a b<;>cases a==b<;>rfl
theorem cmp_Compare_spec {n:Nat} {a b:Int}:XA n (a,b)=some (cmpI a b):=by
 rw[XA_eq]
 have e:∀x:Int,Xn n x=some false:=fun x=>by rw[Xn_eq,bne_self_eq_false]
 rw[e a,e b]
 unfold cmpI
 show (bif decide (a<b) then some (-1:Int) else bif decide (a>b) then some 1 else some 0)=_
 cases decide (a<b)<;>cases decide (a>b)<;>rfl
theorem XK_spec {n:Nat} {a b:List UInt8}:XK n (a,b)=some (cmpS a b):=by
 unfold XK;rfl
theorem foldI_or:∀(l:List Int) (i:Nat),foldI (Y:=Unit) (fun (x:Int) (_:Nat) (_:Unit) (k:Unit->Option (PUnit⊕Int))=>bif x !=0 then some (.inr x) else k ()) (fun _=>some (.inl ())) i l ()=some (bif orL l !=0 then .inr (orL l) else .inl ())
 | [],_=>rfl
 |x::l,i=>by
  show (bif x !=0 then some (Sum.inr x) else foldI _ _ (i+1) l ())=some (bif (bif x !=0 then x else orL l) !=0 then (Sum.inr (bif x !=0 then x else orL l):PUnit⊕Int) else Sum.inl ())
  cases h:x !=0
  .simp only[cond_false];exact foldI_or l (i+1)
  .simp only[cond_true,h]
theorem cmp_Or_spec {n:Nat} {l:List Int} (hn:l.length<n) (hb:l.length<2^62):ZS n l=some (orL l):=by
 have:=loop_ix (L:=fun m i=>ZS_L3 n l m i) (l:=l) (fun x _ r=>bif x !=0 then some (.inr x) else r) (some (.inl ()))
  (fun m i x hx=>by
    have hlt:=lt_of_get hx
    rw[ZS_L3_s,dec_of hx,idxL_of hx,wrap_succ (by omega)];rfl)
  (fun m=>by rw[ZS_L3_s,dec_end];rfl) hn
 have this':ZS_L3 n l n (0:Int)=_:=this
 rw[ZS_eq,this',foldI_or]
 cases h:orL l !=0
 .have:orL l=0:=by simpa using h
  rw[this];rfl
 .rfl
def lpF:List Pred->List Pred->PUnit⊕Int
 | [],_=>.inl ()
 |_::_,[]=>.inr 1
 |p::l,q::m=>bif cmpP p q !=0 then .inr (cmpP p q) else lpF l m
theorem lpF_fin:∀l m:List Pred,Sum.elim (fun _=>bif decide ((l.length:Int)< (m.length:Int)) then (-1:Int) else 0) id (lpF l m)=cmpL l m
 | [],[]=>by rfl
 | [],q::m=>by
   have e:decide ((([]:List Pred).length:Int)< (((q::m).length:Nat):Int))=true:=by simp
   show (bif _ then (-1:Int) else 0)= -1
   rw[e];rfl
 |p::l,[]=>by rfl
 |p::l,q::m=>by
  have ih:=lpF_fin l m
  have e:decide ((((p::l).length:Nat):Int)< (((q::m).length:Nat):Int))=decide ((l.length:Int)< (m.length:Int)):=by
   simp only[List.length_cons];congr 1;apply propext;omega
  rw[e]
  show Sum.elim _ id (bif cmpP p q !=0 then .inr (cmpP p q) else lpF l m)=bif cmpP p q !=0 then cmpP p q else cmpL l m
  cases cmpP p q !=0
  .exact ih
  .rfl
def lpR:List Pred->List Pred->PUnit⊕Int
 | [],_=>.inl ()
 |_::_,[]=>.inl ()
 |p::l,q::m=>bif cmpP p q !=0 then .inr (cmpP p q) else lpR l m
theorem lpR_fin:∀l m:List Pred,Sum.elim (fun _=>cmpI (l.length:Int) (m.length:Int)) id (lpR l m)=cmpL l m
 | [],[]=>by rfl
 | [],q::m=>by
   have e:decide ((([]:List Pred).length:Int)< (((q::m).length:Nat):Int))=true:=by simp
   show (bif _ then (-1:Int) else _)= -1
   rw[e];rfl
 |p::l,[]=>by
  have e1:decide ((((p::l).length:Nat):Int)< ((([]:List Pred).length:Nat):Int))=false:=by rw[decide_eq_false_iff_not];simp only[List.length_cons,List.length_nil];omega
  have e2:decide ((((p::l).length:Nat):Int)> ((([]:List Pred).length:Nat):Int))=true:=by rw[decide_eq_true_iff];simp only[List.length_cons,List.length_nil];omega
  show cmpI (((p::l).length:Nat):Int) ((([]:List Pred).length:Nat):Int)=1
  unfold cmpI
  rw[e1,e2];rfl
 |p::l,q::m=>by
  have ih:=lpR_fin l m
  have e:cmpI (((p::l).length:Nat):Int) (((q::m).length:Nat):Int)=cmpI (l.length:Int) (m.length:Int):=by
   have e1:decide ((((p::l).length:Nat):Int)< (((q::m).length:Nat):Int))=decide ((l.length:Int)< (m.length:Int)):=by
    simp only[List.length_cons];congr 1;apply propext;omega
   have e2:decide ((((p::l).length:Nat):Int)> (((q::m).length:Nat):Int))=decide ((l.length:Int)> (m.length:Int)):=by
    simp only[List.length_cons];congr 1;apply propext;omega
   unfold cmpI;rw[e1,e2]
  rw[e]
  show Sum.elim _ id (bif cmpP p q !=0 then .inr (cmpP p q) else lpR l m)=bif cmpP p q !=0 then cmpP p q else cmpL l m
  cases cmpP p q !=0
  .exact ih
  .rfl
theorem drop_cons {U:Type} {l:List U} {i:Nat} {x:U} (h:l[i]? =some x):l.drop i=x::l.drop (i+1):=by
 have hlt:=lt_of_get h
 rw[Qq hlt]
 congr 1
 exact(QL.1 h).2
theorem fun_loop {n g:Nat} {l m:List Pred} (hH:∀x∈l,∀y∈m,Zf_m n g (x,y)=some (cmpP x y)) (hl:l.length<2^62) (hm:m.length<2^62):∀(k i c:Nat),i+k=l.length->k<c->i<=m.length->
 Zg_m_L2 n g l m c (i:Int)=some (lpF (l.drop i) (m.drop i)):=by
 intro k
 induction k with
 |zero=>
  intro i c hi hc _
  obtain⟨c,rfl⟩:∃c',c=c'+1:=⟨c-1,by omega⟩
  have:i=l.length:=by omega
  subst this
  rw[Zg_m_L2_s,dec_end,List.drop_length];rfl
 |succ k ih=>
  intro i c hi hc him
  obtain⟨c,rfl⟩:∃c',c=c'+1:=⟨c-1,by omega⟩
  obtain⟨x,hx⟩:∃x,l[i]? =some x:=⟨l[i]'(by omega),by simp⟩
  rw[Zg_m_L2_s,dec_of hx,idxL_of hx,drop_cons hx]
  by_cases hge:m.length<=i
  .have e:decide (((i:Nat):Int)>=(m.length:Int))=true:=by simp;omega
   have:m.drop i=[]:=Ra hge
   rw[this]
   show (bif decide (((i:Nat):Int)>=(m.length:Int)) then _ else _)=_
   rw[e];rfl
  .have e:decide (((i:Nat):Int)>=(m.length:Int))=false:=by simp;omega
   obtain⟨y,hy⟩:∃y,m[i]? =some y:=⟨m[i]'(by omega),by simp⟩
   rw[drop_cons hy]
   show (bif decide (((i:Nat):Int)>=(m.length:Int)) then _ else _)=_
   rw[e,cond_false]
   refine bs (idxL_of hy) ?_
   rw[Pred.re_eq,Pred.re_eq]
   refine bs (hH x (Qw hx) y (Qw hy)) ?_
   rw[wrap_succ (by omega),ih (i+1) c (by omega) (by omega) (by omega)]
   show _=some (bif cmpP x y !=0 then .inr (cmpP x y) else lpF (l.drop (i+1)) (m.drop (i+1)))
   cases cmpP x y !=0<;>rfl
theorem Zf_m_spec {n:Nat} (hn:8<n):∀(k g:Nat) (x y:Pred),szP x<=k->2*szP x<=g->szP x<n->szP x<2^62->szP y<2^62->Zf_m n g (x,y)=some (cmpP x y)
 |0,g,x,y,hk,_,_,_,_=>by have:=szP_pos x;omega
 |k+1,g,x,y,hk,hg,hxn,hx,hy=>by
  have hs:=szP_subs x
  have hlen:=szL_len x.Subs
  have hs':=szP_subs y
  have hlen':=szL_len y.Subs
  obtain⟨g,rfl⟩:∃g',g=g'+2:=⟨g-2,by omega⟩
  have hL:=fun_loop (n:=n) (g:=g) (l:=x.Subs) (m:=y.Subs) (fun a ha b hb=>by
   have h1:=szL_mem ha
   have h2:=szL_mem hb
   exact Zf_m_spec hn k g a b (by omega) (by omega) (by omega) (by omega) (by omega)) (by omega) (by omega) x.Subs.length 0 n (by omega) (by omega) (QF _)
  have hL':Zg_m_L2 n g x.Subs y.Subs n (0:Int)=some (lpF x.Subs y.Subs):=hL
  have hF:Zg_m n (g+1) (x.Subs,(y.Subs,((),())))=some (cmpL x.Subs y.Subs):=by
   rw[Zg_m_eq,hL',<-lpF_fin]
   cases lpF x.Subs y.Subs with
   |inl u=>
    show (bif decide (((x.Subs.length:Nat):Int)< ((y.Subs.length:Nat):Int)) then some (-1:Int) else some 0)=some (bif decide (((x.Subs.length:Nat):Int)< ((y.Subs.length:Nat):Int)) then (-1:Int) else 0)
    cases decide (((x.Subs.length:Nat):Int)< ((y.Subs.length:Nat):Int))<;>rfl
   |inr v=>rfl
  rw[Zf_m_eq,cmpP_eq]
  refine bs cmp_Compare_spec (bs XK_spec (bs cmp_Compare_spec (bs cmp_Compare_spec (bs XK_spec ?_))))
  refine bs hF ?_
  refine bs (cmp_Or_spec (show 6<n by omega) (show 6<2^62 by decide)) ?_
  rfl
theorem ref_or {n g:Nat} {x y:Pred} {a b c d e:Int} (hn:8<n):QR_m_L3 n g x y a b c d e n (0:Int)=some (bif orL [a,b,c,d,e] !=0 then .inr (orL [a,b,c,d,e]) else .inl ()):=by
 have:=loop_ix (L:=fun m i=>QR_m_L3 n g x y a b c d e m i) (l:=[a,b,c,d,e]) (fun x _ r=>bif x !=0 then some (.inr x) else r) (some (.inl ()))
  (fun m i x hx=>by
    have hlt:=lt_of_get hx
    simp only[List.length_cons,List.length_nil] at hlt
    rw[QR_m_L3_s,dec_of hx,idxL_of hx,wrap_succ (by omega)];rfl)
  (fun m=>by rw[QR_m_L3_s,dec_end];rfl) (show 5<n by omega)
 have this':QR_m_L3 n g x y a b c d e n (0:Int)=_:=this
 rw[this',foldI_or]
theorem ref_loop {n g:Nat} {p q:Pred} (hH:∀x∈p.Subs,∀y∈q.Subs,QR_m n g (x,y)=some (cmpP x y)) (hl:p.Subs.length<2^62) (hm:q.Subs.length<2^62):∀(k i c:Nat),i+k=p.Subs.length->k<c->i<=q.Subs.length->
 QR_m_L8 n g p q c (i:Int)=some (lpR (p.Subs.drop i) (q.Subs.drop i)):=by
 intro k
 induction k with
 |zero=>
  intro i c hi hc _
  obtain⟨c,rfl⟩:∃c',c=c'+1:=⟨c-1,by omega⟩
  have:i=p.Subs.length:=by omega
  subst this
  rw[QR_m_L8_s,dec_end,List.drop_length];rfl
 |succ k ih=>
  intro i c hi hc him
  obtain⟨c,rfl⟩:∃c',c=c'+1:=⟨c-1,by omega⟩
  obtain⟨x,hx⟩:∃x,p.Subs[i]? =some x:=⟨p.Subs[i]'(by omega),by simp⟩
  rw[QR_m_L8_s,dec_of hx,cond_true,drop_cons hx]
  by_cases hge:q.Subs.length<=i
  .have e:decide (((i:Nat):Int)< ((q.Subs.length:Nat):Int))=false:=by simp;omega
   have:q.Subs.drop i=[]:=Ra hge
   rw[this,e];rfl
  .obtain⟨y,hy⟩:∃y,q.Subs[i]? =some y:=⟨q.Subs[i]'(by omega),by simp⟩
   rw[drop_cons hy,dec_of hy,cond_true]
   refine bs (idxL_of hx) (bs (idxL_of hy) ?_)
   rw[Pred.re_eq,Pred.re_eq]
   refine bs (hH x (Qw hx) y (Qw hy)) ?_
   rw[wrap_succ (by omega),ih (i+1) c (by omega) (by omega) (by omega)]
   show _=some (bif cmpP x y !=0 then .inr (cmpP x y) else lpR (p.Subs.drop (i+1)) (q.Subs.drop (i+1)))
   cases cmpP x y !=0<;>rfl
theorem QR_m_spec {n:Nat} (hn:8<n):∀(g:Nat) (x y:Pred),szP x<=g->szP x<n->szP x<2^62->szP y<2^62->QR_m n g (x,y)=some (cmpP x y)
 |0,x,y,hg,_,_,_=>by have:=szP_pos x;omega
 |g+1,x,y,hg,hxn,hx,hy=>by
  have hs:=szP_subs x
  have hlen:=szL_len x.Subs
  have hs':=szP_subs y
  have hlen':=szL_len y.Subs
  have hL:=ref_loop (n:=n) (g:=g) (p:=x) (q:=y) (fun a ha b hb=>by
   have h1:=szL_mem ha
   have h2:=szL_mem hb
   exact QR_m_spec hn g a b (by omega) (by omega) (by omega) (by omega)) (by omega) (by omega) x.Subs.length 0 n (by omega) (by omega) (QF _)
  have hL':QR_m_L8 n g x y n (0:Int)=some (lpR x.Subs y.Subs):=hL
  rw[QR_m_eq,cmpP_eq,orL_app]
  refine bs Xc_spec (bs Xj_spec (bs Xc_spec (bs Xc_spec (bs Xj_spec ?_))))
  refine bs (ref_or hn) ?_
  show Sum.elim _ _ (bif orL (fiv x y) !=0 then .inr (orL (fiv x y)) else .inl ())=some (bif orL (fiv x y) !=0 then orL (fiv x y) else cmpL x.Subs y.Subs)
  cases orL (fiv x y) !=0
  .show (QR_m_L8 n g x y n (0:Int)).bind _=some (cmpL x.Subs y.Subs)
   refine bs hL' ?_
   rw[<-lpR_fin]
   cases lpR x.Subs y.Subs with
   |inl u=>
    exact bs Xc_spec rfl
   |inr v=>rfl
  .rfl
theorem Compare_same {n:Nat} {x y:Pred} (hn:8<n) (hx:2*szP x<n) (hx2:szP x<2^62) (hy:szP y<2^62):Zf n (x,y)=some (cmpP x y)/\QR n (x,y)=some (cmpP x y):=by
 have e1:Zf n (x,y)=Zf_m n n (x,y):=by unfold Zf;rfl
 have e2:QR n (x,y)=QR_m n n (x,y):=by unfold QR;rfl
 rw[e1,e2]
 exact⟨Zf_m_spec hn (szP x) n x y (mF _) (by omega) (by omega) hx2 hy,QR_m_spec hn n x y (by omega) (by omega) hx2 hy⟩
end Sh
end
section
open Go Go.Proofs Aq
namespace Sh
structure CLaw {U:Type} (c:U->U->Int):Prop where
 anti:∀x y,c y x= -c x y
 trans:∀x y z,c x y<=0->c y z<=0->c x z<=0
 eq:∀x y,c x y=0->x=y
theorem cmpI_val (a b:Int):(a<b/\cmpI a b= -1)\/(a=b/\cmpI a b=0)\/(b<a/\cmpI a b=1):=by
 unfold cmpI
 by_cases h:a<b
 .rw[decide_eq_true h];exact .inl ⟨h,rfl⟩
 .rw[decide_eq_false h]
  by_cases k:a>b
  .rw[decide_eq_true k];exact .inr (.inr ⟨k,rfl⟩)
  .rw[decide_eq_false k];exact .inr (.inl ⟨by omega,rfl⟩)
theorem cmpI_law:CLaw cmpI where
 anti:=fun x y=>by rcases cmpI_val x y with h|h|h<;>rcases cmpI_val y x with k|k|k<;>omega
 trans:=fun x y z h1 h2=>by rcases cmpI_val x y with h|h|h<;>rcases cmpI_val y z with k|k|k<;>rcases cmpI_val x z with l|l|l<;>omega
 eq:=fun x y h=>by rcases cmpI_val x y with k|k|k<;>omega
theorem cmpS_cons (x y:UInt8) (a b:List UInt8):(x<y/\cmpS (x::a) (y::b)= -1)\/(x=y/\cmpS (x::a) (y::b)=cmpS a b)\/(y<x/\cmpS (x::a) (y::b)=1):=by
 have e:cmpS (x::a) (y::b)=if x<y then-1 else if y<x then 1 else cmpS a b:=rfl
 rw[e]
 by_cases h:x<y
 .exact .inl ⟨h,by rw[if_pos h]⟩
 .by_cases k:y<x
  .exact .inr (.inr ⟨k,by rw[if_neg h,if_pos k]⟩)
  .refine .inr (.inl ⟨?_,by rw[if_neg h,if_neg k]⟩)
   have e1:¬x.toNat<y.toNat:=h
   have e2:¬y.toNat<x.toNat:=k
   exact UInt8.toNat_inj.1 (by omega)
theorem cmpS_anti:∀a b:List UInt8,cmpS b a= -cmpS a b
 | [],[]=>rfl
 | [],_::_=>rfl
 |_::_,[]=>rfl
 |x::a,y::b=>by
  have ih:=cmpS_anti a b
  rcases cmpS_cons x y a b with ⟨h1,h2⟩| ⟨h1,h2⟩| ⟨h1,h2⟩<;>rcases cmpS_cons y x b a with ⟨k1,k2⟩| ⟨k1,k2⟩| ⟨k1,k2⟩<;>rw[h2,k2]
  all_goals first
   |rfl
   |exact ih
   |exact absurd h1 (UInt8.lt_asymm k1)
   | (subst k1;exact absurd h1 (UInt8.lt_irrefl _))
   | (subst h1;exact absurd k1 (UInt8.lt_irrefl _))
theorem cmpS_eq:∀a b:List UInt8,cmpS a b=0->a=b
 | [],[],_=>rfl
 | [],_::_,h=>by cases h
 |_::_,[],h=>by cases h
 |x::a,y::b,h=>by
  rcases cmpS_cons x y a b with ⟨h1,h2⟩| ⟨h1,h2⟩| ⟨h1,h2⟩
  .rw[h2] at h;cases h
  .rw[h2] at h;rw[h1,cmpS_eq a b h]
  .rw[h2] at h;cases h
theorem cmpS_trans:∀a b c:List UInt8,cmpS a b<=0->cmpS b c<=0->cmpS a c<=0
 | [],_,[],_,_=>Qj 0
 | [],_,_::_,_,_=>by show (-1:Int)<=0;omega
 |x::a,[],_,h,_=>by have h:(1:Int)<=0:=h;omega
 |x::a,y::b,[],_,h=>by have h:(1:Int)<=0:=h;omega
 |x::a,y::b,z::c,h,k=>by
  rcases cmpS_cons x z a c with ⟨l1,l2⟩| ⟨l1,l2⟩| ⟨l1,l2⟩
  .rw[l2];omega
  .rcases cmpS_cons x y a b with ⟨h1,h2⟩| ⟨h1,h2⟩| ⟨h1,h2⟩
   .rcases cmpS_cons y z b c with ⟨k1,k2⟩| ⟨k1,k2⟩| ⟨k1,k2⟩
    .subst l1;exact absurd h1 (UInt8.lt_asymm k1)
    .subst l1;subst k1;exact absurd h1 (UInt8.lt_irrefl _)
    .rw[k2] at k;omega
   .rcases cmpS_cons y z b c with ⟨k1,k2⟩| ⟨k1,k2⟩| ⟨k1,k2⟩
    .subst l1;subst h1;exact absurd k1 (UInt8.lt_irrefl _)
    .rw[l2];rw[h2] at h;rw[k2] at k;exact cmpS_trans a b c h k
    .rw[k2] at k;omega
   .rw[h2] at h;omega
  .exfalso
   have hxy:x<=y:=by
    rcases cmpS_cons x y a b with ⟨h1,h2⟩| ⟨h1,h2⟩| ⟨h1,h2⟩
    .exact UInt8.le_of_lt h1
    .rw[h1];exact UInt8.le_refl _
    .rw[h2] at h;omega
   have hyz:y<=z:=by
    rcases cmpS_cons y z b c with ⟨h1,h2⟩| ⟨h1,h2⟩| ⟨h1,h2⟩
    .exact UInt8.le_of_lt h1
    .rw[h1];exact UInt8.le_refl _
    .rw[h2] at k;omega
   have e1:x.toNat<=y.toNat:=hxy
   have e2:y.toNat<=z.toNat:=hyz
   have e3:z.toNat<x.toNat:=l1
   omega
theorem cmpS_law:CLaw cmpS:=⟨cmpS_anti,cmpS_trans,cmpS_eq⟩
def lex (a b:Int):Int:=bif a !=0 then a else b
theorem lex_val (a b:Int):(a≠0/\lex a b=a)\/(a=0/\lex a b=b):=by
 unfold lex
 cases h:a !=0
 .exact .inr ⟨by simpa using h,rfl⟩
 .exact .inl ⟨by simpa using h,rfl⟩
theorem lex_anti {a b a' b':Int} (h:a'= -a) (k:b'= -b):lex a' b'= -lex a b:=by
 rcases lex_val a b with e|e<;>rcases lex_val a' b' with f|f<;>omega
theorem lex_zero {a b:Int} (h:lex a b=0):a=0/\b=0:=by
 rcases lex_val a b with e|e<;>omega
theorem lex_trans {a1 a2 a3 b1 b2 b3:Int} (h:a1<=0->a2<=0->a3<=0) (h1:a2<=0-> -a3<=0-> -a1<=0) (h2: -a3<=0->a1<=0-> -a2<=0) (k:b1<=0->b2<=0->b3<=0):lex a1 b1<=0->lex a2 b2<=0->lex a3 b3<=0:=by
 rcases lex_val a1 b1 with e|e<;>rcases lex_val a2 b2 with f|f<;>rcases lex_val a3 b3 with g|g<;>omega
theorem CLaw.tri {U:Type} {c:U->U->Int} (h:CLaw c) (x y z:U):(c x y<=0->c y z<=0->c x z<=0)/\(c y z<=0-> -c x z<=0-> -c x y<=0)/\(-c x z<=0->c x y<=0-> -c y z<=0):=by
 refine⟨h.trans x y z,fun a b=>?_,fun a b=>?_⟩
 .rw[<-h.anti x z] at b;rw[<-h.anti x y];exact h.trans y z x a b
 .rw[<-h.anti x z] at a;rw[<-h.anti y z];exact h.trans z x y a b
theorem cmpP_lex (x y:Pred):cmpP x y=lex (cmpI x.Op y.Op) (lex (cmpS x.Name y.Name) (lex (cmpI x.N y.N) (lex (cmpI x.M y.M) (lex (cmpS x.S y.S) (lex (cmpL x.Subs y.Subs) 0))))):=by
 rw[cmpP_eq];rfl
theorem lex0 (b:Int):lex b 0=b:=by rcases lex_val b 0 with h|h<;>omega
theorem cmpL_cons (p q:Pred) (l m:List Pred):cmpL (p::l) (q::m)=lex (cmpP p q) (cmpL l m):=by
 rw[cmpL];rfl
mutual
theorem cmpP_anti:∀x y:Pred,cmpP y x= -cmpP x y
 | ⟨o,m,a,b,s,l⟩,⟨o',m',a',b',s',l'⟩=>by
   rw[cmpP_lex,cmpP_lex]
   exact lex_anti (cmpI_law.anti _ _) (lex_anti (cmpS_law.anti _ _) (lex_anti (cmpI_law.anti _ _) (lex_anti (cmpI_law.anti _ _) (lex_anti (cmpS_law.anti _ _) (lex_anti (cmpL_anti l l') rfl)))))
theorem cmpL_anti:∀l m:List Pred,cmpL m l= -cmpL l m
 | [],[]=>by rfl
 | [],_::_=>by rfl
 |_::_,[]=>by rfl
 |p::l,q::m=>by
  rw[cmpL_cons,cmpL_cons]
  exact lex_anti (cmpP_anti p q) (cmpL_anti l m)
end
mutual
theorem cmpP_zero:∀x y:Pred,cmpP x y=0->x=y
 | ⟨o,m,a,b,s,l⟩,⟨o',m',a',b',s',l'⟩,h=>by
   rw[cmpP_lex] at h
   obtain⟨h1,h⟩:=lex_zero h
   obtain⟨h2,h⟩:=lex_zero h
   obtain⟨h3,h⟩:=lex_zero h
   obtain⟨h4,h⟩:=lex_zero h
   obtain⟨h5,h⟩:=lex_zero h
   obtain⟨h6,h⟩:=lex_zero h
   have e1:=cmpI_law.eq _ _ h1
   have e2:=cmpS_law.eq _ _ h2
   have e3:=cmpI_law.eq _ _ h3
   have e4:=cmpI_law.eq _ _ h4
   have e5:=cmpS_law.eq _ _ h5
   have e6:=cmpL_zero l l' h6
   dsimp only at e1 e2 e3 e4 e5
   subst e1;subst e2;subst e3;subst e4;subst e5;subst e6
   rfl
theorem cmpL_zero:∀l m:List Pred,cmpL l m=0->l=m
 | [],[],_=>rfl
 | [],_::_,h=>by rw[cmpL] at h;cases h
 |_::_,[],h=>by rw[cmpL] at h;cases h
 |p::l,q::m,h=>by
  rw[cmpL_cons] at h
  obtain⟨h1,h2⟩:=lex_zero h
  rw[cmpP_zero p q h1,cmpL_zero l m h2]
end
theorem cmpPL_trans:∀k:Nat,(∀x y z:Pred,szP x<=k->szP y<=k->szP z<=k->cmpP x y<=0->cmpP y z<=0->cmpP x z<=0)/\(∀x y z:List Pred,szL x<=k->szL y<=k->szL z<=k->cmpL x y<=0->cmpL y z<=0->cmpL x z<=0)
 |0=>by
  refine⟨fun x=>?_,fun x y z hx hy hz=>?_⟩
  .intro y z h;have:=szP_pos x;omega
  .have nil:∀l:List Pred,szL l<=0->l=[]:=fun l h=>by
    cases l with
    |nil=>rfl
    |cons p l=>have:=szP_pos p;simp only[szL] at h;omega
   rw[nil x hx,nil y hy,nil z hz]
   exact fun _ h=>h
 |k+1=>by
  have ih:=cmpPL_trans k
  have hP:∀x y z:Pred,szP x<=k+1->szP y<=k+1->szP z<=k+1->cmpP x y<=0->cmpP y z<=0->cmpP x z<=0:=fun x y z hx hy hz=>by
   rw[szP_subs] at hx hy hz
   rw[cmpP_lex,cmpP_lex,cmpP_lex,lex0,lex0,lex0]
   obtain⟨a1,a2,a3⟩:=cmpI_law.tri x.Op y.Op z.Op
   obtain⟨b1,b2,b3⟩:=cmpS_law.tri x.Name y.Name z.Name
   obtain⟨c1,c2,c3⟩:=cmpI_law.tri x.N y.N z.N
   obtain⟨d1,d2,d3⟩:=cmpI_law.tri x.M y.M z.M
   obtain⟨e1,e2,e3⟩:=cmpS_law.tri x.S y.S z.S
   exact lex_trans a1 a2 a3 (lex_trans b1 b2 b3 (lex_trans c1 c2 c3 (lex_trans d1 d2 d3 (lex_trans e1 e2 e3 (ih.2 x.Subs y.Subs z.Subs (by omega) (by omega) (by omega))))))
  refine⟨hP,?_⟩
  have lists:∀x y z:List Pred,szL x<=k+1->szL y<=k+1->szL z<=k+1->cmpL x y<=0->cmpL y z<=0->cmpL x z<=0:=by
   intro x
   induction x with
   |nil=>
    intro y z _ _ _ _ _
    cases z with
    |nil=>rw[cmpL];omega
    |cons q m=>rw[cmpL];omega
   |cons p l ihl=>
    intro y z hx hy hz h1 h2
    cases y with
    |nil=>rw[cmpL] at h1;omega
    |cons q m=>
     cases z with
     |nil=>rw[cmpL] at h2;omega
     |cons r s=>
      rw[cmpL_cons] at h1 h2⊢
      simp only[szL] at hx hy hz
      have t1:=hP p q r (by omega) (by omega) (by omega)
      have t2:=hP q r p (by omega) (by omega) (by omega)
      have t3:=hP r p q (by omega) (by omega) (by omega)
      rw[cmpP_anti p r,cmpP_anti p q] at t2
      rw[cmpP_anti p r,cmpP_anti q r] at t3
      exact lex_trans t1 t2 t3 (ihl m s (by omega) (by omega) (by omega)) h1 h2
  exact lists
theorem cmpP_law:CLaw cmpP where
 anti:=cmpP_anti
 trans:=fun x y z=>(cmpPL_trans (szP x+szP y+szP z)).1 x y z (by omega) (by omega) (by omega)
 eq:=cmpP_zero
theorem cmpP_self (x:Pred):cmpP x x=0:=by have:=cmpP_anti x x;omega
end Sh
end
section
open Go Aq
namespace Pq
variable {U:Type}
section
variable {d:U} {Ok:U->Prop} {lt:U->U->Prop} {K:{β:Type}->U->U->(Bool->Option β)->Option β} (hc:CmpO Ok lt K) (ho:Ord lt) {L4:Int->Int->Int->Nat->Int×List U->Option (PUnit×List U)}
 (h4:∀(x1 x2 x4:Int) (m:Nat) (x6:Int) (x7:List U),L4 x1 x2 x4 (m+1) (x6,x7)=
   bif decide (x6>x1) then
    bif decide (0<=x6/\x6< (x7.length:Int)) then
     (idxL x7 x6).bind fun (r8:U)=>
     bif decide (0<=(wrap .i64 (x6-(1:Int)))/\(wrap .i64 (x6-(1:Int)))< (x7.length:Int)) then
      (idxL x7 (wrap .i64 (x6-(1:Int)))).bind fun (r9:U)=>
      K r8 r9 fun (r10:Bool)=>
      bif r10 then
       bif decide (0<=(wrap .i64 (x6-(1:Int)))/\(wrap .i64 (x6-(1:Int)))< (x7.length:Int)) then
        (idxL x7 (wrap .i64 (x6-(1:Int)))).bind fun (r11:U)=>
        bif decide (0<=x6/\x6< (x7.length:Int)) then
         (idxL x7 x6).bind fun (r12:U)=>
         bif decide (0<=x6/\x6< (x7.length:Int)) then
          (idxL x7 x6).bind fun (_:U)=>
          bif decide (0<=(wrap .i64 (x6-(1:Int)))/\(wrap .i64 (x6-(1:Int)))< (((setL x7 x6 r11).length:Nat):Int)) then
           (idxL (setL x7 x6 r11) (wrap .i64 (x6-(1:Int)))).bind fun (_:U)=>
           L4 x1 x2 x4 m ((wrap .i64 (x6-(1:Int)),setL (setL x7 x6 r11) (wrap .i64 (x6-(1:Int))) r12))
          else
           none
         else
          none
        else
         none
       else
        none
      else
       some (((),x7))
     else
      none
    else
     none
   else
    some (((),x7)))
include hc ho h4
theorem Pj {a i x2 x4:Int} {l:List U} {m:Nat} (h0:0<=a) (h1:a<=i) (h2:i<l.length) (hb:l.length<2^60) (hal:Al Ok l) (hs:Sd lt d a i l) (hm:(i-a).toNat<m):
 ∃r,L4 a x2 x4 m (i,l)=some r/\Rp d a (i+1) l r.2/\Sd lt d a (i+1) r.2:=by
 refine mu (τ:=Int×List U) (L:=L4 a x2 x4) (fun p=>a<=p.1/\p.1<=i/\Rp d a (i+1) l p.2/\(∀u v,a<=u->u<v->v<=i->u≠p.1->v≠p.1->¬lt (gI d p.2 v) (gI d p.2 u))/\(∀v,p.1<v->v<=i->¬lt (gI d p.2 v) (gI d p.2 p.1))) (fun p=>(p.1-a).toNat) _ ?_ m (i,l) ⟨h1,Qj _,.refl _ _ _ _,fun u v k1 k2 k3 k4 k5=>hs u v k1 k2 (by omega),fun v k1 k2=>by omega⟩ hm
 rintro m ⟨j,D⟩ ⟨i1,i2,i3,i4,i5⟩ aK
 dsimp only at i1 i2 i3 i4 i5 aK⊢
 have hl:=i3.len
 have bG:=i3.al hal
 rw[h4]
 simp (disch:=omega) only[wr]
 refine tD (fun hj=>?_) (fun hj=>?_)
 .refine tI (by omega) (by omega) (tE (aC d (by omega) (by omega)) (tI (by omega) (by omega) (tE (aC d (by omega) (by omega)) (tM hc (bG.at d (by omega) (by omega)) (bG.at d (by omega) (by omega)) fun r hr=>?_))))
  refine tD (fun hlt=>?_) (fun hlt=>?_)
  .refine tI (by omega) (by omega) (tE (aC d (by omega) (by omega)) (tI (by omega) (by omega) (tE (aC d (by omega) (by omega)) (tI (by omega) (by omega) (tE (aC d (by omega) (by omega)) (tI (by omega) (by rw[aA];omega) (tE (aC d (by omega) (by rw[aA];omega)) ?_)))))))
   have hlt':=hr.1 hlt
   refine aK (j-1,swp d D j (j-1)) ⟨by dsimp only;omega,by dsimp only;omega,i3.swp h0 (by omega) (by omega) (by omega) (by omega) (by omega),fun u v k1 k2 k3 k4 k5=>?_,fun v k1 k2=>?_⟩ (by dsimp only;omega)
   .dsimp only at k4 k5⊢
    rw[dQ (by omega) (by omega) (by omega) (by omega) (by omega),dQ (by omega) (by omega) (by omega) (by omega) (by omega),if_neg k5,if_neg k4]
    by_cases e1:v=j
    .rw[if_pos e1]
     by_cases e2:u=j
     .omega
     .rw[if_neg e2]
      exact i4 u (j-1) k1 (by omega) (by omega) e2 (by omega)
    .rw[if_neg e1]
     by_cases e2:u=j
     .rw[if_pos e2]
      exact i4 (j-1) v (by omega) (by omega) k3 (by omega) e1
     .rw[if_neg e2]
      exact i4 u v k1 k2 k3 e2 e1
   .dsimp only at k1 k2⊢
    rw[dQ (by omega) (by omega) (by omega) (by omega) (by omega),dQ (by omega) (by omega) (by omega) (by omega) (by omega),if_neg (by omega),if_pos rfl]
    by_cases e1:v=j
    .rw[if_pos e1];exact ho.asym _ _ hlt'
    .rw[if_neg e1];exact i5 v (by omega) k2
  .refine tS ⟨i3,?_⟩
   have hlt':¬lt (gI d D j) (gI d D (j-1)):=fun h=>hlt (hr.2 h)
   intro u v k1 k2 k3
   by_cases e1:v=j
   .subst e1
    by_cases e2:u=v-1
    .rw[e2];exact hlt'
    .exact ho.neg _ _ _ hlt' (i4 u (v-1) k1 (by omega) (by omega) (by omega) (by omega))
   .by_cases e2:u=j
    .subst e2;exact i5 v k2 (by omega)
    .exact i4 u v k1 k2 (by omega) e2 e1
 .refine tS ⟨i3,?_⟩
  have e:j=a:=by omega
  intro u v k1 k2 k3
  by_cases e2:u=j
  .subst e2;exact i5 v k2 (by omega)
  .exact i4 u v k1 k2 (by omega) e2 (by omega)
variable {n:Nat} {L1:Int->Int->Nat->Int×List U->Option (PUnit×List U)}
 (h1:∀(x1 x2:Int) (m:Nat) (x4:Int) (x5:List U),L1 x1 x2 (m+1) (x4,x5)=
   bif decide (x4<x2) then
    (L4 x1 x2 x4 n ((x4,x5))).bind fun (r15:PUnit×List U)=>
    L1 x1 x2 m ((wrap .i64 (x4+(1:Int)),r15.2))
   else
    some (((),x5)))
include h1
theorem insAll {a b:Int} {l:List U} (h0:0<=a) (hab:a<=b) (h2:b<=l.length) (hb:l.length<2^60) (hal:Al Ok l) (hn:(b-a).toNat+1<n):
 ∃r,L1 a b n (wrap .i64 (a+1),l)=some r/\Rp d a b l r.2/\Sd lt d a b r.2:=by
 rw[wr (by omega) (by omega)]
 refine mu (τ:=Int×List U) (L:=L1 a b) (fun p=>a<p.1/\(p.1<=b\/p.1=a+1)/\Rp d a b l p.2/\Sd lt d a p.1 p.2) (fun p=>(b-p.1).toNat) _ ?_ n (a+1,l) ⟨by dsimp only;omega,.inr rfl,.refl _ _ _ _,fun u v k1 k2 k3=>by dsimp only at k3;omega⟩ (by dsimp only;omega)
 rintro m ⟨i,D⟩ ⟨i1,i2,i3,i4⟩ aK
 dsimp only at i1 i2 i3 i4 aK⊢
 have hl:=i3.len
 rw[h1]
 refine tD (fun hi=>?_) (fun hi=>?_)
 .refine tB (Pj hc ho h4 (d:=d) h0 (by omega) (by omega) (by omega) (i3.al hal) i4 (by omega)) fun r ⟨r1,r2⟩=>?_
  rw[wr (by omega) (by omega)]
  exact aK (i+1,r.2) ⟨by dsimp only;omega,.inl (by dsimp only;omega),i3.trans (r1.wide (Qj _) (by omega) h0),r2⟩ (by dsimp only;omega)
 .refine tS ⟨i3,?_⟩
  intro u v k1 k2 k3
  exact i4 u v k1 k2 (by omega)
end
section
variable {d:U} {n:Nat} {L2:Nat->(Int×Int)×List U->Option (PUnit×List U)}
 (h2:∀(m:Nat) (x4 x5:Int) (x6:List U),L2 (m+1) ((x4,x5),x6)=
   bif decide (x4<x5) then
    bif decide (0<=x5/\x5< (x6.length:Int)) then
     (idxL x6 x5).bind fun (r7:U)=>
     bif decide (0<=x4/\x4< (x6.length:Int)) then
      (idxL x6 x4).bind fun (r8:U)=>
      bif decide (0<=x4/\x4< (x6.length:Int)) then
       (idxL x6 x4).bind fun (_:U)=>
       bif decide (0<=x5/\x5< (((setL x6 x4 r7).length:Nat):Int)) then
        (idxL (setL x6 x4 r7) x5).bind fun (_:U)=>
        L2 m (((wrap .i64 (x4+(1:Int)),wrap .i64 (x5-(1:Int))),setL (setL x6 x4 r7) x5 r8))
       else
        none
      else
       none
     else
      none
    else
     none
   else
    some (((),x6)))
include h2
theorem revAll {a b:Int} {l:List U} (h0:0<=a) (hab:a<=b) (h3:b<=l.length) (hb:l.length<2^60) (hn:(b-a).toNat+1<n):
 ∃r,L2 n ((a,wrap .i64 (b-1)),l)=some r/\Rp d a b l r.2:=by
 rw[wr (by omega) (by omega)]
 refine mu (τ:=(Int×Int)×List U) (L:=L2) (fun p=>a<=p.1.1/\p.1.2<b/\a-1<=p.1.2/\p.1.1<=b/\Rp d a b l p.2) (fun p=>(p.1.2-p.1.1+1).toNat) _ ?_ n ((a,b-1),l) ⟨Qj _,by dsimp only;omega,by dsimp only;omega,by dsimp only;omega,.refl _ _ _ _⟩ (by dsimp only;omega)
 rintro m ⟨⟨i,j⟩,D⟩ ⟨i1,i2,i3,i4,i5⟩ aK
 dsimp only at i1 i2 i3 i4 i5 aK⊢
 have hl:=i5.len
 rw[h2]
 refine tD (fun hi=>?_) (fun hi=>tS i5)
 refine tI (by omega) (by omega) (tE (aC d (by omega) (by omega)) (tI (by omega) (by omega) (tE (aC d (by omega) (by omega)) (tI (by omega) (by omega) (tE (aC d (by omega) (by omega)) (tI (by omega) (by rw[aA];omega) (tE (aC d (by omega) (by rw[aA];omega)) ?_)))))))
 rw[wr (by omega) (by omega),wr (by omega) (by omega)]
 exact aK ((i+1,j-1),swp d D i j) ⟨by dsimp only;omega,by dsimp only;omega,by dsimp only;omega,by dsimp only;omega,i5.swp h0 (by omega) (by omega) (by omega) (by omega) (by omega)⟩ (by dsimp only;omega)
end
end Pq
end
section
open Go Aq
namespace Pq
variable {U:Type}
def Hp (lt:U->U->Prop) (d:U) (f s hi:Int) (l:List U):Prop:=∀i c,s<=i->(c=2*i+1\/c=2*i+2)->c<hi->¬lt (gI d l (f+i)) (gI d l (f+c))
def two {β:Type} (r:(PUnit×β)⊕(PUnit×β)):β:=Sum.elim (fun q=>q.2) (fun q=>q.2) r
section
variable {d:U} {Ok:U->Prop} {lt:U->U->Prop} {K:{β:Type}->U->U->(Bool->Option β)->Option β} (hc:CmpO Ok lt K) (ho:Ord lt) {S1:Int->Int->Nat->(Int×List U)->Option ((PUnit×List U)⊕(PUnit×List U))}
 (hS1:∀(x2 x3:Int) (m:Nat) (x5:Int) (x6:List U),S1 x2 x3 (m+1) (x5,x6)=
   bif decide ((wrap .i64 ((wrap .i64 ((2:Int)*x5))+(1:Int)))>=x2) then
    some (.inl (((),x6)))
   else
    Option.bind (α:=Int) (
     bif decide ((wrap .i64 ((wrap .i64 ((wrap .i64 ((2:Int)*x5))+(1:Int)))+(1:Int)))<x2) then
      bif decide (0<=(wrap .i64 (x3+(wrap .i64 ((wrap .i64 ((2:Int)*x5))+(1:Int)))))/\(wrap .i64 (x3+(wrap .i64 ((wrap .i64 ((2:Int)*x5))+(1:Int)))))< (x6.length:Int)) then
       (idxL x6 (wrap .i64 (x3+(wrap .i64 ((wrap .i64 ((2:Int)*x5))+(1:Int)))))).bind fun (r7:U)=>
       bif decide (0<=(wrap .i64 ((wrap .i64 (x3+(wrap .i64 ((wrap .i64 ((2:Int)*x5))+(1:Int)))))+(1:Int)))/\(wrap .i64 ((wrap .i64 (x3+(wrap .i64 ((wrap .i64 ((2:Int)*x5))+(1:Int)))))+(1:Int)))< (x6.length:Int)) then
        (idxL x6 (wrap .i64 ((wrap .i64 (x3+(wrap .i64 ((wrap .i64 ((2:Int)*x5))+(1:Int)))))+(1:Int)))).bind fun (r8:U)=>
        K r7 r8 fun (r9:Bool)=>
        bif r9 then
         some (wrap .i64 ((wrap .i64 ((wrap .i64 ((2:Int)*x5))+(1:Int)))+(1:Int)))
        else
         some (wrap .i64 ((wrap .i64 ((2:Int)*x5))+(1:Int)))
       else
        none
      else
       none
     else
      some (wrap .i64 ((wrap .i64 ((2:Int)*x5))+(1:Int)))) fun (r10:Int)=>
    bif decide (0<=(wrap .i64 (x3+x5))/\(wrap .i64 (x3+x5))< (x6.length:Int)) then
     (idxL x6 (wrap .i64 (x3+x5))).bind fun (r11:U)=>
     bif decide (0<=(wrap .i64 (x3+r10))/\(wrap .i64 (x3+r10))< (x6.length:Int)) then
      (idxL x6 (wrap .i64 (x3+r10))).bind fun (r12:U)=>
      K r11 r12 fun (r13:Bool)=>
      bif !(r13) then
       some (.inr (((),x6)))
      else
       bif decide (0<=(wrap .i64 (x3+r10))/\(wrap .i64 (x3+r10))< (x6.length:Int)) then
        (idxL x6 (wrap .i64 (x3+r10))).bind fun (r14:U)=>
        bif decide (0<=(wrap .i64 (x3+x5))/\(wrap .i64 (x3+x5))< (x6.length:Int)) then
         (idxL x6 (wrap .i64 (x3+x5))).bind fun (r15:U)=>
         bif decide (0<=(wrap .i64 (x3+x5))/\(wrap .i64 (x3+x5))< (x6.length:Int)) then
          (idxL x6 (wrap .i64 (x3+x5))).bind fun (r16:U)=>
          bif decide (0<=(wrap .i64 (x3+r10))/\(wrap .i64 (x3+r10))< (((setL x6 (wrap .i64 (x3+x5)) r14).length:Nat):Int)) then
           (idxL (setL x6 (wrap .i64 (x3+x5)) r14) (wrap .i64 (x3+r10))).bind fun (r17:U)=>
           S1 x2 x3 m ((r10,setL (setL x6 (wrap .i64 (x3+x5)) r14) (wrap .i64 (x3+r10)) r15))
          else
           none
         else
          none
        else
         none
       else
        none
     else
      none
    else
     none)
include hc ho hS1
theorem Pk {f lo hi:Int} {l:List U} {m:Nat} (h0:0<=f) (hlo:0<=lo) (hlb:lo<2^58) (hhi:0<=hi) (hf:f+hi<=l.length) (hb:l.length<2^58) (hal:Al Ok l) (hh:Hp lt d f (lo+1) hi l) (hm:(hi-lo).toNat<m):
 ∃r,S1 hi f m (lo,l)=some r/\Rp d f (f+hi) l (two r)/\Hp lt d f lo hi (two r):=by
 refine mu (τ:=Int×List U) (L:=S1 hi f) (fun p=>lo<=p.1/\(p.1=lo\/p.1<hi)/\Rp d f (f+hi) l p.2/\(∀i c,lo<=i->i≠p.1->(c=2*i+1\/c=2*i+2)->c<hi->¬lt (gI d p.2 (f+i)) (gI d p.2 (f+c)))/\
  (∀q c,lo<=q->(p.1=2*q+1\/p.1=2*q+2)->(c=2*p.1+1\/c=2*p.1+2)->c<hi->¬lt (gI d p.2 (f+q)) (gI d p.2 (f+c)))) (fun p=>(hi-p.1).toNat) _ ?_ m (lo,l)
  ⟨Qj _,.inl rfl,.refl _ _ _ _,fun i c k1 k2 k3 k4=>hh i c (by dsimp only at k2;omega) k3 k4,fun q c k1 k2=>by dsimp only at k2;omega⟩ hm
 rintro m ⟨x,D⟩ ⟨i1,i2,i3,i4,i5⟩ aK
 dsimp only at i1 i2 i3 i4 i5 aK⊢
 have hl:=i3.len
 have bG:=i3.al hal
 rw[hS1]
 simp (disch:=omega) only[wr]
 refine tD (fun hge=>tS ⟨i3,fun i c k1 k2 k3=>?_⟩) (fun hge=>?_)
 .by_cases e:i=x
  .omega
  .exact i4 i c k1 e k2 k3
 refine tB (Q:=fun c=>(c=2*x+1\/c=2*x+2)/\c<hi/\∀c',(c'=2*x+1\/c'=2*x+2)->c'<hi->¬lt (gI d D (f+c)) (gI d D (f+c'))) ?_ fun c=>?_
 .refine tD (fun h2=>?_) (fun h2=>tS ⟨.inl rfl,by omega,fun c' k1 k2=>?_⟩)
  .refine tI (by omega) (by omega) (tE (aC d (by omega) (by omega)) (tI (by omega) (by omega) (tE (aC d (by omega) (by omega)) (tM hc (bG.at d (by omega) (by omega)) (bG.at d (by omega) (by omega)) fun r hr=>?_))))
   have e2:f+(2*x+1)+1=f+(2*x+2):=by omega
   rw[e2] at hr
   refine tD (fun h3=>tS ⟨.inr (by omega),by omega,fun c' k1 k2=>?_⟩) (fun h3=>tS ⟨.inl rfl,by omega,fun c' k1 k2=>?_⟩)
   .have hlt:=hr.1 h3
    rw[show 2*x+1+1=2*x+2 by omega]
    rcases k1 with rfl|rfl
    .exact ho.asym _ _ hlt
    .exact ho.gN _
   .rcases k1 with rfl|rfl
    .exact ho.gN _
    .exact fun h=>h3 (hr.2 h)
  .have e:c'=2*x+1:=by omega
   rw[e];exact ho.gN _
 .rintro⟨hc1,hc2,hc3⟩
  simp (disch:=omega) only[wr]
  refine tI (by omega) (by omega) (tE (aC d (by omega) (by omega)) (tI (by omega) (by omega) (tE (aC d (by omega) (by omega)) (tM hc (bG.at d (by omega) (by omega)) (bG.at d (by omega) (by omega)) fun r hr=>?_))))
  refine tN (fun h3=>tS ⟨i3,fun i c' k1 k2 k3=>?_⟩) (fun h3=>?_)
  .by_cases e:i=x
   .subst e
    exact ho.neg _ _ _ (fun h=>h3 (hr.2 h)) (hc3 c' k2 k3)
   .exact i4 i c' k1 e k2 k3
  .have hlt:=hr.1 h3
   refine tI (by omega) (by omega) (tE (aC d (by omega) (by omega)) (tI (by omega) (by omega) (tE (aC d (by omega) (by omega)) (tI (by omega) (by omega) (tE (aC d (by omega) (by omega)) (tI (by omega) (by rw[aA];omega) (tE (aC d (by omega) (by rw[aA];omega)) ?_)))))))
   have sw:∀k,0<=k->gI d (swp d D (f+x) (f+c)) (f+k)=if k=c then gI d D (f+x) else if k=x then gI d D (f+c) else gI d D (f+k):=fun k hk=>by
    rw[dQ (by omega) (by omega) (by omega) (by omega) (by omega)]
    by_cases e1:k=c
    .rw[if_pos e1,if_pos (by omega)]
    .rw[if_neg e1,if_neg (by omega)]
     by_cases e2:k=x
     .rw[if_pos e2,if_pos (by omega)]
     .rw[if_neg e2,if_neg (by omega)]
   refine aK (c,swp d D (f+x) (f+c)) ⟨by dsimp only;omega,.inr hc2,i3.swp h0 (by omega) (by omega) (by omega) (by omega) (by omega),fun i c' k1 k2 k3 k4=>?_,fun q c' k1 k2 k3 k4=>?_⟩ (by dsimp only;omega)
   .dsimp only at k2⊢
    rw[sw i (by omega),sw c' (by omega),if_neg k2]
    by_cases e1:c'=c
    .have ei:i=x:=by omega
     rw[if_pos e1,if_pos ei]
     exact ho.asym _ _ hlt
    .rw[if_neg e1]
     by_cases e2:c'=x
     .rw[if_pos e2,if_neg (by omega)]
      exact i5 i c k1 (by omega) hc1 hc2
     .rw[if_neg e2]
      by_cases e3:i=x
      .rw[if_pos e3]
       exact hc3 c' (by omega) k4
      .rw[if_neg e3]
       exact i4 i c' k1 e3 k3 k4
   .dsimp only at k2 k3⊢
    have eq:q=x:=by omega
    rw[sw q (by omega),sw c' (by omega),if_neg (by omega),if_pos eq,if_neg (by omega),if_neg (by omega)]
    exact i4 c c' (by omega) (by omega) k3 k4
variable {n:Nat} {sift:Unit×Int×Int×Int×(Unit×Unit)->List U->Option (PUnit×List U)}
 (hS:∀(x1 x2 x3:Int) (x4:List U),sift (((),(x1,(x2,(x3,((),())))))) (x4)=
   (S1 x2 x3 n ((x1,x4))).bind fun (r18:(PUnit×List U)⊕(PUnit×List U))=>
   Sum.elim (fun (q19:PUnit×List U)=>
    some (((),q19.2)))
    (fun (q20:PUnit×List U)=>
     some (((),q20.2))) r18)
include hS
theorem Fg {f lo hi:Int} {l:List U} (h0:0<=f) (hlo:0<=lo) (hlb:lo<2^58) (hhi:0<=hi) (hf:f+hi<=l.length) (hb:l.length<2^58) (hal:Al Ok l) (hh:Hp lt d f (lo+1) hi l) (hn:hi.toNat<n):
 ∃r,sift ((),lo,hi,f,((),())) l=some r/\Rp d f (f+hi) l r.2/\Hp lt d f lo hi r.2:=by
 rw[hS]
 refine tB (Pk hc ho hS1 (d:=d) h0 hlo hlb hhi hf hb hal hh (by omega)) fun r=>?_
 rintro⟨r1,r2⟩
 rcases r with r|r<;>exact tS ⟨r1,r2⟩
variable {H4:Int->Int->Nat->(Int×List U)->Option (PUnit×List U)} {H8:Int->Nat->(Int×List U)->Option (PUnit×List U)}
 (qC:∀(x1 x2:Int) (m:Nat) (x4:Int) (x5:List U),H4 x1 x2 (m+1) (x4,x5)=
   bif decide (x4>=(0:Int)) then
    (sift (((),(x4,(wrap .i64 (x2-x1),(x1,((),())))))) x5).bind fun (r6:PUnit×List U)=>
    H4 x1 x2 m ((wrap .i64 (x4-(1:Int)),r6.2))
   else
    some (((),x5)))
 (yR:∀(x1:Int) (m:Nat) (x8:Int) (x9:List U),H8 x1 (m+1) (x8,x9)=
   bif decide (x8>=(0:Int)) then
    bif decide (0<=(wrap .i64 (x1+x8))/\(wrap .i64 (x1+x8))< (x9.length:Int)) then
     (idxL x9 (wrap .i64 (x1+x8))).bind fun (r10:U)=>
     bif decide (0<=x1/\x1< (x9.length:Int)) then
      (idxL x9 x1).bind fun (r11:U)=>
      bif decide (0<=x1/\x1< (x9.length:Int)) then
       (idxL x9 x1).bind fun (r12:U)=>
       bif decide (0<=(wrap .i64 (x1+x8))/\(wrap .i64 (x1+x8))< (((setL x9 x1 r10).length:Nat):Int)) then
        (idxL (setL x9 x1 r10) (wrap .i64 (x1+x8))).bind fun (r13:U)=>
        (sift (((),((0:Int),(x8,(x1,((),())))))) (setL (setL x9 x1 r10) (wrap .i64 (x1+x8)) r11)).bind fun (r14:PUnit×List U)=>
        H8 x1 m ((wrap .i64 (x8-(1:Int)),r14.2))
       else
        none
      else
       none
     else
      none
    else
     none
   else
    some (((),x9)))
include qC
theorem build {a b:Int} {l:List U} {m:Nat} {k:Int} (h0:0<=a) (hab:a<=b) (hbl:b<=l.length) (hb:l.length<2^57) (hal:Al Ok l) (hn:(b-a).toNat<n) (hk: -1<=k) (hkb:k<2^57) (hh:Hp lt d a (k+1) (b-a) l) (hm:(k+1).toNat<m):
 ∃r,H4 a b m (k,l)=some r/\Rp d a b l r.2/\Hp lt d a 0 (b-a) r.2:=by
 refine mu (τ:=Int×List U) (L:=H4 a b) (fun p=>-1<=p.1/\p.1<=k/\Rp d a b l p.2/\Hp lt d a (p.1+1) (b-a) p.2) (fun p=>(p.1+1).toNat) _ ?_ m (k,l) ⟨hk,Qj _,.refl _ _ _ _,hh⟩ hm
 rintro m ⟨x,D⟩ ⟨i1,i2,i3,i4⟩ aK
 dsimp only at i1 i2 i3 i4 aK⊢
 have hl:=i3.len
 rw[qC]
 refine tD (fun hge=>?_) (fun hge=>tS ⟨i3,?_⟩)
 .simp (disch:=omega) only[wr]
  refine tB (Fg hc ho hS1 hS (d:=d) h0 (by omega) (by omega) (by omega) (by omega) (by omega) (i3.al hal) i4 hn) fun r=>?_
  rintro⟨r1,r2⟩
  rw[show a+(b-a)=b by omega] at r1
  exact aK (x-1,r.2) ⟨by dsimp only;omega,by dsimp only;omega,i3.trans r1,by rw[show x-1+1=x by omega];exact r2⟩ (by dsimp only;omega)
 .rw[show x+1=0 by omega] at i4
  exact i4
omit hc hS1 hS qC in
theorem Hp.root {f hi:Int} {l:List U} (h:Hp lt d f 0 hi l):∀(k:Nat),(k:Int)<hi->¬lt (gI d l f) (gI d l (f+k)):=by
 intro k
 induction k using Nat.strongRecOn with
 |_ k ih=>
  intro hk
  cases k with
  |zero=>rw[show f+((0:Nat):Int)=f by omega];exact ho.gN _
  |succ k=>
   have h1:=ih (k/2) (by omega) (by omega)
   exact ho.neg _ _ _ h1 (h ((k/2:Nat):Int) ((k+1:Nat):Int) (by omega) (by omega) hk)
include yR
theorem pop {a b:Int} {l:List U} {m:Nat} (h0:0<=a) (hab:a<=b) (hbl:b<=l.length) (hb:l.length<2^57) (hal:Al Ok l) (hn:(b-a).toNat<n) (hh:Hp lt d a 0 (b-a) l) (hm:(b-a).toNat<m):
 ∃r,H8 a m (b-a-1,l)=some r/\Rp d a b l r.2/\Sd lt d a b r.2:=by
 refine mu (τ:=Int×List U) (L:=H8 a) (fun p=>-1<=p.1/\p.1<b-a/\Rp d a b l p.2/\Hp lt d a 0 (p.1+1) p.2/\Sd lt d (a+p.1+1) b p.2/\(∀u v,a<=u->u<=a+p.1->a+p.1<v->v<b->¬lt (gI d p.2 v) (gI d p.2 u))) (fun p=>(p.1+1).toNat) _ ?_ m (b-a-1,l)
  ⟨by dsimp only;omega,by dsimp only;omega,.refl _ _ _ _,by rw[show b-a-1+1=b-a by omega];exact hh,fun u v k1 k2 k3=>by dsimp only at k1;omega,fun u v k1 k2 k3 k4=>by dsimp only at k3;omega⟩ (by dsimp only;omega)
 rintro m ⟨x,D⟩ ⟨i1,i2,i3,i4,i5,i6⟩ aK
 dsimp only at i1 i2 i3 i4 i5 i6 aK⊢
 have hl:=i3.len
 rw[yR]
 simp (disch:=omega) only[wr]
 refine tD (fun hge=>?_) (fun hge=>tS ⟨i3,fun u v k1 k2 k3=>i5 u v (by omega) k2 k3⟩)
 refine tI (by omega) (by omega) (tE (aC d (by omega) (by omega)) (tI (by omega) (by omega) (tE (aC d (by omega) (by omega)) (tI (by omega) (by omega) (tE (aC d (by omega) (by omega)) (tI (by omega) (by rw[aA];omega) (tE (aC d (by omega) (by rw[aA];omega)) ?_)))))))
 have sw:∀k,0<=k->gI d (swp d D a (a+x)) (a+k)=if k=x then gI d D a else if k=0 then gI d D (a+x) else gI d D (a+k):=fun k hk=>by
  rw[dQ (by omega) (by omega) (by omega) (by omega) (by omega)]
  by_cases e1:k=x
  .rw[if_pos e1,if_pos (by omega)]
  .rw[if_neg e1,if_neg (by omega)]
   by_cases e2:k=0
   .rw[if_pos e2,if_pos (by omega)]
   .rw[if_neg e2,if_neg (by omega)]
 have s1:Rp d a b l (swp d D a (a+x)):=i3.swp h0 (by omega) (by omega) (by omega) (by omega) (by omega)
 have hroot:∀k,0<=k->k<=x->¬lt (gI d D a) (gI d D (a+k)):=fun k k0 k1=>by
  have:=Hp.root ho i4 k.toNat (by omega)
  rwa[show (k.toNat:Int)=k by omega] at this
 refine tB (Fg hc ho hS1 hS (d:=d) (hi:=x) (lo:=0) (l:=swp d D a (a+x)) h0 (by omega) (by omega) hge (by rw[aT];omega) (by rw[aT];omega) (s1.al hal) (fun i c k1 k2 k3=>?_) (by omega)) fun r=>?_
 .rw[sw i (by omega),sw c (by omega),if_neg (by omega),if_neg (by omega),if_neg (by omega),if_neg (by omega)]
  exact i4 i c (by omega) k2 (by omega)
 .rintro⟨r1,r2⟩
  have hM:∀k,x<=k->a+k<b->gI d r.2 (a+k)=gI d (swp d D a (a+x)) (a+k):=fun k k0 k1=>r1.out _ (by omega) (by omega)
  have sm:∀φ:U->Prop,(∀k,0<=k->k<=x->φ (gI d D (a+k)))->∀u,a<=u->u<a+x->φ (gI d r.2 u):=fun φ hφ u k0 k1=>by
   refine r1.all φ (fun w w0 w1=>?_) u k0 k1
   have:=sw (w-a) (by omega)
   rw[show a+(w-a)=w by omega] at this
   rw[this,if_neg (by omega)]
   by_cases e:w-a=0
   .rw[if_pos e];exact hφ x (by omega) (by omega)
   .rw[if_neg e]
    have:=hφ (w-a) (by omega) (by omega)
    rwa[show a+(w-a)=w by omega] at this
  refine aK (x-1,r.2) ⟨by dsimp only;omega,by dsimp only;omega,s1.trans (r1.wide (Qj _) (by omega) h0),by rw[show x-1+1=x by omega];exact r2,fun u v k1 k2 k3=>?_,fun u v k1 k2 k3 k4=>?_⟩ (by dsimp only;omega)
  .dsimp only at k1⊢
   have e1:=hM (u-a) (by omega) (by omega)
   have e2:=hM (v-a) (by omega) (by omega)
   rw[show a+(u-a)=u by omega] at e1
   rw[show a+(v-a)=v by omega] at e2
   have e3:=sw (u-a) (by omega)
   have e4:=sw (v-a) (by omega)
   rw[show a+(u-a)=u by omega] at e3
   rw[show a+(v-a)=v by omega] at e4
   rw[e1,e2,e3,e4,if_neg (by omega:¬v-a=x),if_neg (by omega:¬v-a=0)]
   by_cases e:u-a=x
   .rw[if_pos e]
    exact i6 a v (by omega) (by omega) (by omega) k3
   .rw[if_neg e,if_neg (by omega)]
    exact i5 u v (by omega) k2 k3
  .dsimp only at k2 k3⊢
   have e2:=hM (v-a) (by omega) (by omega)
   rw[show a+(v-a)=v by omega] at e2
   have e4:=sw (v-a) (by omega)
   rw[show a+(v-a)=v by omega] at e4
   rw[e2,e4,if_neg (by omega:¬v-a=0)]
   by_cases e:v-a=x
   .rw[if_pos e]
    exact sm (fun z=>¬lt (gI d D a) z) (fun k k0 k1=>hroot k k0 k1) u k1 (by omega)
   .rw[if_neg e]
    exact sm (fun z=>¬lt (gI d D v) z) (fun k k0 k1=>i6 (a+k) v (by omega) (by omega) (by omega) k4) u k1 (by omega)
variable {heap:Unit×Int×Int×(Unit×Unit)->List U->Option (PUnit×List U)}
 (hH:∀(x1 x2:Int) (x3:List U),heap (((),(x1,(x2,((),()))))) (x3)=
   bif !((2:Int)==(0:Int)) then
    (H4 x1 x2 n ((wrap .i64 (Int.tdiv (wrap .i64 ((wrap .i64 (x2-x1))-(1:Int))) (2:Int)),x3))).bind fun (r7:PUnit×List U)=>
    (H8 x1 n ((wrap .i64 ((wrap .i64 (x2-x1))-(1:Int)),r7.2))).bind fun (r15:PUnit×List U)=>
    some (((),r15.2))
   else
    none)
include hH
theorem heapAll {a b:Int} {l:List U} (h0:0<=a) (hab:a<=b) (hbl:b<=l.length) (hb:l.length<2^57) (hal:Al Ok l) (hn:(b-a).toNat+1<n):
 ∃r,heap ((),a,b,((),())) l=some r/\Rp d a b l r.2/\Sd lt d a b r.2:=by
 rw[hH]
 simp (disch:=omega) only[wr]
 refine tG (by decide) ?_
 have ht:Int.tdiv (b-a-1) 2<=b-a/\ -1<=Int.tdiv (b-a-1) 2/\(0<b-a->b-a-1<2*Int.tdiv (b-a-1) 2+2/\0<=Int.tdiv (b-a-1) 2):=by
  by_cases h:0<b-a
  .rw[Int.tdiv_eq_ediv_of_nonneg (by omega)];omega
  .rw[show b-a-1= -1 by omega];simp;omega
 rw[wr (i:=Int.tdiv (b-a-1) 2) (by omega) (by omega)]
 refine tB (build hc ho hS1 hS qC (d:=d) (k:=Int.tdiv (b-a-1) 2) h0 hab hbl hb hal (by omega) (by omega) (by omega) (fun i c k1 k2 k3=>?_) (by omega)) fun r=>?_
 .omega
 .rintro⟨r1,r2⟩
  have hl:=r1.len
  refine tB (pop hc ho hS1 hS qC yR (d:=d) h0 hab (by omega) (by omega) (r1.al hal) (by omega) r2 (by omega)) fun s=>?_
  rintro⟨s1,s2⟩
  exact tS ⟨r1.trans s1,s2⟩
end
end Pq
end
