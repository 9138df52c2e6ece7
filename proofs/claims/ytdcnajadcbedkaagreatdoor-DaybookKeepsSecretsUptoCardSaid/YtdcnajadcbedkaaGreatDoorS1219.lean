/- Part of the proof of a law. -/
import Derived.IntWalk
import Derived.KernelRfl
import Derived.Test.YtdcnajadcbedkaaGreatDoorS1218
set_option linter.all false
section
open Go Go.Proofs Aq
namespace Sh
theorem Aa {α:Type} (l:List α) (i:Nat):aB l (i:Int)=l[i]? :=by
 unfold aB
 by_cases h:i<l.length
 ·rw[if_pos ⟨by omega,by omega⟩];simp
 ·rw[if_neg (by omega)];simp;omega
theorem fC {α:Type} {l:List α} {i:Nat} {x:α} (h:l[i]? =some x):aB l (i:Int)=some x:=by rw[Aa,h]
theorem qj {α:Type} {l:List α} {i:Nat} {x:α} (h:l[i]? =some x):i<l.length:=by
 rw[afM] at h;exact h.1
theorem jM {α:Type} {l:List α} {i:Nat} {x:α} (h:l[i]? =some x):decide ((i:Int)< ((l.length:Nat):Int))=true:=by
 have:=qj h;simp;omega
theorem Ab {α:Type} (l:List α):decide (((l.length:Nat):Int)< ((l.length:Nat):Int))=false:=by simp
theorem fE {i:Nat} (h:i<2^62):IntKind.wrap .i64 ((i:Int)+(1:Int))=((i+1:Nat):Int):=by
 rw[IntKind.wrap_i64];omega
def foldI {α β σ:Type} (step:α->Nat->σ->(σ->β)->β) (fin:σ->β):Nat->List α->σ->β
 |_,[],s=>fin s
 |i,x::l,s=>step x i s fun s=>foldI step fin (i+1) l s
theorem alh {α β σ:Type} {L:Nat->σ->Int->Option β} {l:List α} (step:α->Nat->σ->(σ->Option β)->Option β) (fin:σ->Option β)
 (hs:∀m (i:Nat) x s,l[i]? =some x->L (m+1) s (i:Int)=step x i s fun s=>L m s ((i+1:Nat):Int)) (hf:∀m s,L (m+1) s ((l.length:Nat):Int)=fin s)
 (hc:∀x (i:Nat) s k k',(∀s,k s=k' s)->step x i s k=step x i s k'):∀(k i m:Nat) (s:σ),i+k=l.length->k<m->L m s (i:Int)=foldI step fin i (l.drop i) s:=by
 intro k
 induction k with
 |zero=>
  intro i m s hi hm
  obtain⟨m,rfl⟩:∃m',m=m'+1:=⟨m-1,by omega⟩
  obtain rfl:i=l.length:=by omega
  rw[hf,List.drop_length];rfl
 |succ k ih=>
  intro i m s hi hm
  obtain⟨m,rfl⟩:∃m',m=m'+1:=⟨m-1,by omega⟩
  have hlt:i<l.length:=by omega
  have hx:l[i]? =some l[i]:=acR hlt
  rw[hs m i l[i] s hx,al2 hlt]
  exact hc _ _ _ _ _ fun s=>ih (i+1) m s (by omega) (by omega)
theorem Uk {α β:Type} {L:Nat->Int->Option β} {l:List α} (step:α->Nat->Option β->Option β) (fin:Option β)
 (hs:∀m (i:Nat) x,l[i]? =some x->L (m+1) (i:Int)=step x i (L m ((i+1:Nat):Int))) (hf:∀m,L (m+1) ((l.length:Nat):Int)=fin) {m:Nat} (hm:l.length<m):
 L m (0:Int)=foldI (σ:=Unit) (fun x i _ k=>step x i (k ())) (fun _=>fin) 0 l ():=by
 have:=alh (L:=fun m (_:Unit) i=>L m i) (l:=l) (fun x i _ k=>step x i (k ())) (fun _=>fin) (fun m i x _ h=>hs m i x h) (fun m _=>hf m) (fun x i s k k' h=>by rw[h]) l.length 0 m () (by omega) hm
 simpa using this
theorem Na {α:Type} {γ:Type} (p:α->Bool) (f:Nat->γ) (z:γ):∀(l:List α) (i:Nat),foldI (σ:=Unit) (fun x i _ (k:Unit->Option γ)=>bif p x then some (f i) else k ()) (fun _=>some z) i l ()=some (match l.findIdx? p with|some j=>f (i+j)|none=>z)
 | [],i=>rfl
 |x::l,i=>by
  show (bif p x then some (f i) else foldI _ _ (i+1) l ())=_
  rw[List.findIdx?_cons]
  cases hp:p x
  ·rw[cond_false,Na p f z l (i+1)]
   simp only[aap,if_false]
   cases l.findIdx? p with
   |none=>rfl
   |some j=>simp only[Option.map_some];rw[Nat.add_right_comm,agh]
  ·simp
theorem wB {α β σ:Type} {L:Nat->σ->Int->Option β} {l:List α} (hs:∀m (i:Nat) x s,l[i]? =some x->(∀s,∃r,L m s ((i+1:Nat):Int)=some r)->∃r,L (m+1) s (i:Int)=some r) (hf:∀m s (i:Nat),l.length<=i->∃r,L (m+1) s (i:Int)=some r):
 ∀(k i m:Nat) (s:σ),l.length<=i+k->k<m->∃r,L m s (i:Int)=some r:=by
 intro k
 induction k with
 |zero=>
  intro i m s hi hm
  obtain⟨m,rfl⟩:∃m',m=m'+1:=⟨m-1,by omega⟩
  exact hf m s i (by omega)
 |succ k ih=>
  intro i m s hi hm
  obtain⟨m,rfl⟩:∃m',m=m'+1:=⟨m-1,by omega⟩
  by_cases h:l.length<=i
  ·exact hf m s i h
  ·exact hs m i _ s (acR (by omega)) fun s=>ih (i+1) m s (by omega) (by omega)
theorem ql {α:Type} {l:List α} {i:Nat} (h:l.length<=i):decide ((i:Int)< ((l.length:Nat):Int))=false:=by simp;omega
theorem bs {α β:Type} {o:Option α} {a:α} {f:α->Option β} {r:Option β} (h:o=some a) (k:f a=r):o.bind f=r:=by
 rw[h];exact k
theorem uO {a k:Nat} (h:a<2^30) (hk:k<=2^12):bJ a k=true:=by
 unfold bJ
 have h1:a*k<=2^30*2^12:=Nat.mul_le_mul (Nat.le_of_lt h) hk
 have e:(2:Nat)^30*2^12<=2^47:=by decide
 rw[aan,decide_eq_true_iff,decide_eq_true_iff]
 exact⟨by omega,by omega⟩
theorem HY {α:Type} {l:List α} {i:Nat} (h:i<l.length):decide (0<=(i:Int)/\(i:Int)< ((l.length:Nat):Int))=true:=decide_eq_true ⟨by omega,by omega⟩
theorem Ul {α:Type} {c:Bool} {x d:α}:iQ c (some x) d=some (bif c then x else d):=by cases c<;>rfl
theorem HZ {i:Nat} (h:0<i) (hb:i<2^62):IntKind.wrap .i64 ((i:Int)-(1:Int))=((i-1:Nat):Int):=by
 rw[IntKind.wrap_i64];omega
theorem yE {α:Type} {l:List α} {i:Nat} (h:i<l.length):∃x,aB l (i:Int)=some x/\x∈l:=⟨l[i],by rw[Aa,acR h],aed h⟩
theorem ali {a b:Nat} (h:a+b<2^62):IntKind.wrap .i64 ((((a:Nat):Int))+(((b:Nat):Int)))=((a+b:Nat):Int):=by
 rw[IntKind.wrap_i64];omega
theorem Nb {α:Type} {a k:Nat} {o:Option α} (h:a<2^30) (hk:k<=2^12:=by omega):(bif bJ a k then o else none)=o:=by
 rw[uO h hk];rfl
theorem Um {τ β:Type} {L:Nat->τ->Option β} (Inv:τ->Prop) (mu:τ->Nat) (Post:β->Prop)
 (h:∀m p,Inv p->(∀p',Inv p'->mu p'<mu p->∃r,L m p'=some r/\Post r)->∃r,L (m+1) p=some r/\Post r):∀m p,Inv p->mu p<m->∃r,L m p=some r/\Post r
 |0,p,_,hm=>by omega
 |m+1,p,hp,hm=>h m p hp fun p' hp' hlt=>Um Inv mu Post h m p' hp' (by omega)
theorem gN {α:Type} {P:α->Prop} {c:Bool} {a b:Option α} (ha:c=true->∃r,a=some r/\P r) (hb:c=false->∃r,b=some r/\P r):∃r,(bif c then a else b)=some r/\P r:=by
 cases c
 ·exact hb rfl
 ·exact ha rfl
theorem cu {α β:Type} {P:β->Prop} {o:Option α} {f:α->Option β} (h:∃x,o=some x/\∃r,f x=some r/\P r):∃r,o.bind f=some r/\P r:=by
 obtain⟨x,hx,h⟩:=h
 rw[hx];exact h
theorem fM {α:Type} {P:α->Prop} {a:α} (h:P a):∃r,some a=some r/\P r:=⟨a,rfl,h⟩
theorem alj {α:Type} {l:List α} {i:Int} (h1:0<=i) (h2:decide (i< ((l.length:Nat):Int))=true):∃x,aB l i=some x:=by
 obtain⟨j,rfl⟩:=Int.eq_ofNat_of_zero_le h1
 rw[Aa]
 exact⟨l[j]'(by simp at h2;omega),acR _⟩
theorem alk {x:Int} (h:0<=x):IntKind.wrap .u64 (Int.tdiv x 128)=IntKind.wrap .u64 (x/128):=by rw[Int.tdiv_eq_ediv_of_nonneg h]
theorem bT {α:Type} {c:Bool} {a b r:Option α} (h:c=true) (k:a=r):(bif c then a else b)=r:=by rw[h];exact k
theorem bF {α:Type} {c:Bool} {a b r:Option α} (h:c=false) (k:b=r):(bif c then a else b)=r:=by rw[h];exact k
end Sh
end
section
open Go Go.Proofs Aq
namespace Sh
theorem gT {α:Type} {P:α->Prop} {c:Bool} {o:Option α} (h:c=true) (ho:∃r,o=some r/\P r):∃r,(bif c then o else none)=some r/\P r:=by rw[h];exact ho
theorem su {i:Int} {n:Nat} (h:0<=i/\i<n):eX i n=true:=decide_eq_true h
theorem Nc {i:Int} {n:Nat} (h:0<=i/\i<=n):kF i n=true:=decide_eq_true h
def rotl (x k:Int):Int:=kR IntKind.u32 (mQ IntKind.u32 x (jr IntKind.u64 (IntKind.wrap .u64 k) 31)) (aD IntKind.u32 x (IntKind.wrap .u64 (32-jr IntKind.u64 (IntKind.wrap .u64 k) 31)))
theorem Un (x:Int):0<=IntKind.wrap .u64 x:=by rw[IntKind.wrap_u64];exact Int.emod_nonneg _ (by decide)
theorem Ac (n:Nat) (x k:Int):sj n (x,k)=some (rotl x k):=by
 rw[ak8,decide_eq_true (show (0:Int)<=jr IntKind.u64 (IntKind.wrap .u64 k) 31 from Un _),decide_eq_true (Un _)]
 rfl
def yF (x a b c:Int):Int:=eD IntKind.u32 (eD IntKind.u32 (rotl x (IntKind.wrap .i64 (0-a))) (rotl x (IntKind.wrap .i64 (0-b)))) (rotl x (IntKind.wrap .i64 (0-c)))
theorem abb (n:Nat) (x a b c:Int):zW n (x,(a,(b,c)))=some (yF x a b c):=by
 rw[ala,Ac,Ac,Ac]
 rfl
theorem Ad {i:Int} (h0:0<=i) (h:i<2^62):IntKind.wrap .i64 (i+(1:Int))=i+1:=by rw[IntKind.wrap_i64];omega
theorem j4 {i:Int} (h0: -(2^62)<=i) (h:i<2^62):IntKind.wrap .i64 i=i:=by rw[IntKind.wrap_i64];omega
end Sh
end
section
open Go Go.Proofs Aq
namespace Sh
theorem sD {a k:Nat} (h:a<2^30) (hk:k<=2^12):bJ a k=true:=uO h hk
theorem alm {x:Int} (h0:0<=x):0<=aD IntKind.u64 x 7/\aD IntKind.u64 x 7=x/128:=by
 have e:aD IntKind.u64 x 7=x.fdiv (2^7):=rfl
 rw[e,Int.fdiv_eq_ediv_of_nonneg x (by decide)]
 exact⟨Int.ediv_nonneg h0 (by decide),rfl⟩
end Sh
end
section
open Go Go.Proofs Aq
namespace Sh
theorem aln (k:IntKind) (a b:Int):kR k a b=kR k b a:=by unfold kR;rw[BitVec.or_comm]
theorem alo (k:IntKind) (a b:Int):eD k a b=eD k b a:=by unfold eD;rw[BitVec.xor_comm]
def jh (x k:Int):Int:=kR IntKind.u32 (aD IntKind.u32 x k) (mQ IntKind.u32 x (IntKind.wrap .i64 (32-k)))
theorem uP {x k j i:Int} (h1:jr IntKind.u64 (IntKind.wrap .u64 k) 31=i) (h2:IntKind.wrap .u64 (32-i)=j) (h3:IntKind.wrap .i64 (32-j)=i):rotl x k=jh x j:=by
 unfold rotl jh
 rw[h1,h2,h3,aln]
theorem abd (x:Int) {a b c:Int} (ha:rotl x (IntKind.wrap .i64 (0-a))=jh x a) (hb:rotl x (IntKind.wrap .i64 (0-b))=jh x b) (hc:rotl x (IntKind.wrap .i64 (0-c))=jh x c):
 yF x a b c=eD IntKind.u32 (eD IntKind.u32 (jh x a) (jh x b)) (jh x c):=by
 unfold yF;rw[ha,hb,hc]
theorem alp (x:Int):yF x 6 11 25=eD IntKind.u32 (eD IntKind.u32 (jh x 6) (jh x 11)) (jh x 25):=
 abd x (uP (i:=26) (by decide) (by decide) (by decide)) (uP (i:=21) (by decide) (by decide) (by decide)) (uP (i:=7) (by decide) (by decide) (by decide))
theorem alq (x:Int):yF x 2 13 22=eD IntKind.u32 (eD IntKind.u32 (jh x 2) (jh x 13)) (jh x 22):=
 abd x (uP (i:=30) (by decide) (by decide) (by decide)) (uP (i:=19) (by decide) (by decide) (by decide)) (uP (i:=10) (by decide) (by decide) (by decide))
theorem alr (x:Int):rotl x (-7)=jh x 7:=uP (i:=25) (by decide) (by decide) (by decide)
theorem als (x:Int):rotl x (-18)=jh x 18:=uP (i:=14) (by decide) (by decide) (by decide)
theorem alu (x:Int):rotl x (-17)=jh x 17:=uP (i:=15) (by decide) (by decide) (by decide)
theorem alv (x:Int):rotl x (-19)=jh x 19:=uP (i:=13) (by decide) (by decide) (by decide)
theorem Nf {a b:Int} (k:Nat) (ha0:0<=a) (ha:a% 2^k=0) (ha1:a<2^32) (hb0:0<=b) (hb1:b<2^k) (hk:k<=32):kR IntKind.u32 a b=a+b:=by
 obtain⟨c,rfl⟩:∃c:Nat,a=((c*2^k:Nat):Int):=by
  refine⟨(a/2^k).toNat, ?_⟩
  have h1:=Int.mul_ediv_add_emod a (2^k)
  rw[ha,Int.add_zero] at h1
  have h2:0<=a/2^k:=Int.ediv_nonneg ha0 (Int.pow_nonneg (by decide))
  rw[Int.natCast_mul,amj h2,Int.mul_comm]
  push_cast
  exact h1.symm
 obtain⟨d,rfl⟩:∃d:Nat,b=(d:Int):=⟨b.toNat,(amj hb0).symm⟩
 have hd:d<2^k:=by exact_mod_cast hb1
 have hkk:2^k<=2^32:=Nat.pow_le_pow_right (by decide) hk
 have hc:c*2^k<2^32:=by exact_mod_cast ha1
 have hsum:c*2^k|||d=c*2^k+d:=by
  rw[<-Nat.shiftLeft_eq,Nat.shiftLeft_add_eq_or_of_lt hd]
 have hlt:c*2^k|||d<2^32:=Nat.or_lt_two_pow hc (by omega)
 unfold kR
 have e1:(BitVec.ofInt IntKind.u32.bits ((c*2^k:Nat):Int)|||BitVec.ofInt IntKind.u32.bits ((d:Nat):Int)).toNat=c*2^k+d:=by
  rw[BitVec.toNat_or]
  simp only[BitVec.ofInt_natCast,BitVec.toNat_ofNat]
  show (c*2^k)% 2^32|||d% 2^32=_
  rw[amb hc,amb (by omega),hsum]
 rw[e1,IntKind.wrap_u32]
 have:c*2^k+d<2^32:=by omega
 omega
end Sh
end
section
open Go Go.Proofs Aq
namespace Sh
theorem alx {n:Nat} {v w:Vec n} (h:v.l=w.l):v=w:=by cases v;cases w;cases h;rfl
theorem at_set {n:Nat} (v:Vec n) {i:Int} (y:Int) (h0:0<=i) (h1:i<n):(v.set i y).at' i=y:=by
 show (v.l.set i.toNat y).getD i.toNat 0=y
 rw[adH,List.getElem?_set_self (by rw[v.h];omega)];rfl
theorem aly {n:Nat} (v:Vec n) {i j:Int} (y:Int) (h0:0<=i) (h1:0<=j) (h:i≠j):(v.set i y).at' j=v.at' j:=by
 show (v.l.set i.toNat y).getD j.toNat 0=v.l.getD j.toNat 0
 rw[adH,List.getElem?_set_ne (by omega),adH]
theorem Uo {n:Nat} (v:Vec n) (i a b:Int):(v.set i a).set i b=v.set i b:=alx (List.set_set ..)
def kK (l:List Int):Prop:=∀x∈l,0<=x/\x<256
theorem Ng {l:List Int} (h:kK l) (i:Nat):0<=l.getD i 0/\l.getD i 0<256:=by
 rw[adH]
 cases hi:l[i]? with
 |none=>exact⟨ajN _,by decide⟩
 |some x=>exact h x (ajn hi)
theorem wrap32 {x:Int} (h0:0<=x) (h1:x<2^32):IntKind.wrap .u32 x=x:=by rw[IntKind.wrap_u32];omega
def Uq (a b c d:Int):Int:=kR IntKind.u32 (kR IntKind.u32 (kR IntKind.u32 (mQ IntKind.u32 (IntKind.wrap .u32 a) 24) (mQ IntKind.u32 (IntKind.wrap .u32 b) 16)) (mQ IntKind.u32 (IntKind.wrap .u32 c) 8)) (IntKind.wrap .u32 d)
theorem Nh {x:Int} (k:Nat) (h0:0<=x) (h1:x*2^k<2^32) (hk:k<=32):mQ IntKind.u32 x (k:Nat)=x*2^k:=by
 unfold mQ
 have:min (((k:Nat):Int)).toNat IntKind.u32.bits=k:=by show min (((k:Nat):Int)).toNat 32=k;rw[Int.toNat_natCast];omega
 rw[this,wrap32 (Int.mul_nonneg h0 (Int.pow_nonneg (by decide))) h1]
theorem alz {a b c d:Int} (ha:0<=a/\a<256) (hb:0<=b/\b<256) (hc:0<=c/\c<256) (hd:0<=d/\d<256):Uq a b c d=a*2^24+b*2^16+c*2^8+d:=by
 unfold Uq
 rw[wrap32 (by omega) (by omega),wrap32 (by omega) (by omega),wrap32 (by omega) (by omega),wrap32 (by omega) (by omega)]
 rw[show mQ IntKind.u32 a 24=a*2^24 from Nh 24 (by omega) (by omega) (by decide),show mQ IntKind.u32 b 16=b*2^16 from Nh 16 (by omega) (by omega) (by decide),show mQ IntKind.u32 c 8=c*2^8 from Nh 8 (by omega) (by omega) (by decide)]
 have h1:kR IntKind.u32 (a*2^24) (b*2^16)=a*2^24+b*2^16:=Nf 24 (by omega) (by omega) (by omega) (by omega) (by omega) (by decide)
 have h2:kR IntKind.u32 (a*2^24+b*2^16) (c*2^8)=a*2^24+b*2^16+c*2^8:=Nf 16 (by omega) (by omega) (by omega) (by omega) (by omega) (by decide)
 have h3:kR IntKind.u32 (a*2^24+b*2^16+c*2^8) d=a*2^24+b*2^16+c*2^8+d:=Nf 8 (by omega) (by omega) (by omega) (by omega) (by omega) (by decide)
 rw[h1,h2,h3]
theorem Ni {x d:Int} (h0:0<=x) (h1:x<2^24) (hd:0<=d/\d<256):kR IntKind.u32 (mQ IntKind.u32 x 8) (IntKind.wrap .u32 d)=x*256+d:=by
 rw[wrap32 (by omega) (by omega),show mQ IntKind.u32 x 8=x*2^8 from Nh 8 (by omega) (by omega) (by decide),Nf 8 (by omega) (by omega) (by omega) (by omega) (by omega) (by decide)];omega
def Ur (x:List Int) (i:Int):Int:=Uq (x.getD (4*i.toNat) 0) (x.getD (4*i.toNat+1) 0) (x.getD (4*i.toNat+2) 0) (x.getD (4*i.toNat+3) 0)
theorem alA {n m:Nat} {x1:List Int} {i:Int} (h:x1.length=64) (h0:0<=i) (h1:i<16) (hb:kK x1) (v:Vec 64) (hv:v.at' i=0):zZ n x1 i (m+5) (0,v)=some ((),v.set i (Ur x1 i)):=by
 have hl:List.drop (Int.toNat (IntKind.wrap .i64 (4*i))) (List.take (Int.toNat (IntKind.wrap .i64 (IntKind.wrap .i64 (4*i)+4))) x1)=[x1.getD (4*i.toNat) 0,x1.getD (4*i.toNat+1) 0,x1.getD (4*i.toNat+2) 0,x1.getD (4*i.toNat+3) 0]:=by
  rw[j4 (i:=4*i) (by omega) (by omega),j4 (by omega) (by omega)]
  apply List.ext_getElem?
  intro j
  rw[List.getElem?_drop]
  by_cases hj:j<4
  ·rw[List.getElem?_take_of_lt (by omega)]
   have e:(4*i).toNat+j=4*i.toNat+j:=by omega
   rw[e]
   have hg:∀k,k<64->x1[k]? =some (x1.getD k 0):=fun k hk=>by rw[adH,acR (by omega)];rfl
   rw[hg _ (by omega)]
   rcases j with _|_|_|_|j
   all_goals first| (exact absurd hj (by omega))|rfl
  ·rw[List.getElem?_eq_none (by rw[ads];omega),List.getElem?_eq_none (by simp;omega)]
 have ba:=Ng hb (4*i.toNat)
 have bb:=Ng hb (4*i.toNat+1)
 have bc:=Ng hb (4*i.toNat+2)
 have bd:=Ng hb (4*i.toNat+3)
 unfold Ur
 generalize x1.getD (4*i.toNat) 0=a at hl ba⊢
 generalize x1.getD (4*i.toNat+1) 0=b at hl bb⊢
 generalize x1.getD (4*i.toNat+2) 0=c at hl bc⊢
 generalize x1.getD (4*i.toNat+3) 0=d at hl bd⊢
 have hin:eX i 64=true:=su ⟨h0,by omega⟩
 have st:∀(m:Nat) (x4:Int) (x5:Vec 64) (y:Int),aB [a,b,c,d] x4=some y->0<=x4->x4<4->zZ n x1 i (m+1) (x4,x5)=zZ n x1 i m (x4+1,x5.set i (kR IntKind.u32 (mQ IntKind.u32 (x5.at' i) 8) (IntKind.wrap .u32 y))):=by
  intro m x4 x5 y hy k0 k1
  rw[aa2,hl,decide_eq_true (show x4< (([a,b,c,d]:List Int).length:Nat) by simp;omega),hy,hin,Ad k0 (by omega)]
  rfl
 rw[st (m+4) 0 v a rfl (by decide) (by decide),st (m+3) (0+1) _ b rfl (by decide) (by decide),st (m+2) (0+1+1) _ c rfl (by decide) (by decide),st (m+1) (0+1+1+1) _ d rfl (by decide) (by decide)]
 rw[aa2,hl]
 rw[hv,at_set _ _ h0 (by show i<64;omega),at_set _ _ h0 (by show i<64;omega),at_set _ _ h0 (by show i<64;omega),Uo,Uo,Uo]
 have e1:=Ni (x:=0) (d:=a) (by decide) (by decide) ba
 rw[e1,Ni (by omega) (by omega) bb,Ni (by omega) (by omega) bc,Ni (by omega) (by omega) bd,alz ba bb bc bd]
 have e2:(((0*256+a)*256+b)*256+c)*256+d=a*2^24+b*2^16+c*2^8+d:=by omega
 rw[e2]
 rfl
end Sh
end
section
open Go Go.Proofs Aq
namespace Sh
def Us (w:Vec 64) (i:Int):Vec 64:=w.set i (IntKind.wrap .u32 (IntKind.wrap .u32 (IntKind.wrap .u32 (w.at' (i-16)+eD IntKind.u32 (eD IntKind.u32 (jh (w.at' (i-15)) 7) (jh (w.at' (i-15)) 18)) (aD IntKind.u32 (w.at' (i-15)) 3))+w.at' (i-7))+
 eD IntKind.u32 (eD IntKind.u32 (jh (w.at' (i-2)) 17) (jh (w.at' (i-2)) 19)) (aD IntKind.u32 (w.at' (i-2)) 10)))
def abe (x:List Int) (w:Vec 64) (i:Int):Vec 64:=w.set i (Ur x i)
def qm {α:Type} (f:α->Int->α):Nat->Int->α->α
 |0,_,w=>w
 |k+1,i,w=>qm f k (i+1) (f w i)
def Nj (x:List Int):Vec 64:=qm Us 48 16 (qm (abe x) 16 0 (Vec.rep 64 0))
theorem hS2 {n:Nat} {x:List Int}:∀(k:Nat) (i:Int) (w:Vec 64) (m:Nat),i+k=64->16<=i->k<m->z8 n x m (i,w)=some ((),qm Us k i w):=by
 intro k
 induction k with
 |zero=>
  intro i w m hi h16 hm
  obtain⟨m,rfl⟩:∃q,m=q+1:=⟨m-1,by omega⟩
  rw[Ui,decide_eq_false (by omega)];rfl
 |succ k ih=>
  intro i w m hi h16 hm
  obtain⟨m,rfl⟩:∃q,m=q+1:=⟨m-1,by omega⟩
  rw[Ui,decide_eq_true (show i<64 by omega),decide_eq_false (show¬i<16 by omega),cond_true,cond_false]
  rw[j4 (i:=i-15) (by omega) (by omega),j4 (i:=i-2) (by omega) (by omega),j4 (i:=i-16) (by omega) (by omega),j4 (i:=i-7) (by omega) (by omega),Ad (by omega) (by omega)]
  rw[su (i:=i-15) ⟨by omega,by omega⟩,su (i:=i-2) ⟨by omega,by omega⟩,su (i:=i-16) ⟨by omega,by omega⟩,su (i:=i-7) ⟨by omega,by omega⟩,su (i:=i) ⟨by omega,by omega⟩]
  rw[Ac,Ac,Ac,Ac,alr,als,alu,alv]
  exact ih (i+1) _ m (by omega) (by omega) (by omega)
theorem hS1 {n:Nat} {x:List Int} (hx:x.length=64) (hb:kK x) (hn:60<n):∀(k:Nat) (i:Int) (w:Vec 64) (m:Nat),i+k=16->0<=i->(∀j,i<=j->w.at' j=0)->k+48<m->z8 n x m (i,w)=some ((),qm Us 48 16 (qm (abe x) k i w)):=by
 intro k
 induction k with
 |zero=>
  intro i w m hi h0 hw hm
  obtain rfl:i=16:=by omega
  exact hS2 48 16 w m (by decide) (by decide) (by omega)
 |succ k ih=>
  intro i w m hi h0 hw hm
  obtain⟨m,rfl⟩:∃q,m=q+1:=⟨m-1,by omega⟩
  rw[Ui,decide_eq_true (show i<64 by omega),decide_eq_true (show i<16 by omega),cond_true,cond_true]
  rw[j4 (i:=4*i) (by omega) (by omega),j4 (i:=4*i+4) (by omega) (by omega),Ad (by omega) (by omega)]
  rw[Nc (i:=4*i+4) ⟨by omega,by omega⟩,Nc (i:=4*i) ⟨by omega,by omega⟩,Bool.and_self,cond_true]
  obtain⟨q,rfl⟩:∃q,n=q+5:=⟨n-5,by omega⟩
  rw[alA hx h0 (by omega) hb w (hw i (ajN _))]
  exact ih (i+1) _ m (by omega) (by omega) (fun j hj=>by rw[aly _ _ h0 (by omega) (by omega)];exact hw j (by omega)) (by omega)
theorem alB {n:Nat} {x:List Int} (hx:x.length=64) (hb:kK x) (hn:70<n):DC n x=some (Nj x):=by
 rw[ak9]
 have h:=hS1 (n:=n) hx hb (by omega) 16 0 (Vec.rep 64 0) n (by decide) (by decide) (fun j _=>by
  show (List.replicate 64 (0:Int)).getD j.toNat 0=0
  rw[adH,List.getElem?_replicate]
  split<;>rfl) (by omega)
 rw[h];rfl
end Sh
end
section
open Go Go.Proofs Aq
namespace Sh
def tF (h a b c k w:Int):Int:=IntKind.wrap .u32 (IntKind.wrap .u32 (IntKind.wrap .u32 (IntKind.wrap .u32 (h+eD IntKind.u32 (eD IntKind.u32 (jh a 6) (jh a 11)) (jh a 25))+eD IntKind.u32 (jr IntKind.u32 a b) (jr IntKind.u32 (eD IntKind.u32 a 4294967295) c))+k)+w)
def uF (a b c:Int):Int:=IntKind.wrap .u32 (eD IntKind.u32 (eD IntKind.u32 (jh a 2) (jh a 13)) (jh a 22)+eD IntKind.u32 (eD IntKind.u32 (jr IntKind.u32 a b) (jr IntKind.u32 a c)) (jr IntKind.u32 b c))
def Ut (w:Vec 64) (s:Vec 8) (i:Int):Vec 8:=
 Vec.lit 8 [IntKind.wrap .u32 (tF (s.at' 7) (s.at' 4) (s.at' 5) (s.at' 6) (yA.at' i) (w.at' i)+uF (s.at' 0) (s.at' 1) (s.at' 2)),s.at' 0,s.at' 1,s.at' 2,IntKind.wrap .u32 (s.at' 3+tF (s.at' 7) (s.at' 4) (s.at' 5) (s.at' 6) (yA.at' i) (w.at' i)),s.at' 4,s.at' 5,s.at' 6]
def abf (v s:Vec 8) (i:Int):Vec 8:=s.set i (IntKind.wrap .u32 (s.at' i+v.at' i))
def abg (v e:Vec 4) (s:Vec 8) (i:Int):Vec 8:=(s.set i (IntKind.wrap .u32 (s.at' i+v.at' i))).set (i+4) (IntKind.wrap .u32 ((s.set i (IntKind.wrap .u32 (s.at' i+v.at' i))).at' (i+4)+e.at' i))
def cat (v e:Vec 4):Vec 8:=Vec.lit 8 (v.l++e.l)
theorem Nk (v:Vec 4):∃a b c d,v=Vec.lit 4 [a,b,c,d]:=by
 obtain⟨l,h⟩:=v
 match l,h with
 | [a,b,c,d],_=>exact⟨a,b,c,d,rfl⟩
theorem abh (v:Vec 8):∃a b c d e f g h,v=Vec.lit 8 [a,b,c,d,e,f,g,h]:=by
 obtain⟨l,hl⟩:=v
 match l,hl with
 | [a,b,c,d,e,f,g,h],_=>exact⟨a,b,c,d,e,f,g,h,rfl⟩
theorem add_eq (v e:Vec 4) (s:Vec 8):qm (abg v e) 4 0 s=qm (abf (cat v e)) 8 0 s:=by
 obtain⟨a,b,c,d,rfl⟩:=Nk v
 obtain⟨a',b',c',d',rfl⟩:=Nk e
 obtain⟨s0,s1,s2,s3,s4,s5,s6,s7,rfl⟩:=abh s
 kernel_rfl
theorem alC (s:Vec 8):cat (s.slc 0 4) (s.slc 4 4)=s:=by
 obtain⟨s0,s1,s2,s3,s4,s5,s6,s7,rfl⟩:=abh s
 kernel_rfl
def wC (h:Vec 8) (x:List Int):Vec 8:=qm (abf (qm (Ut (Nj x)) 64 0 h)) 8 0 h
theorem alD (w:Vec 64) (v e:Vec 4) (i:Int):cat (Vec.lit 4 [IntKind.wrap .u32 (IntKind.wrap .u32 (IntKind.wrap .u32 (IntKind.wrap .u32 (IntKind.wrap .u32 (e.at' 3+yF (e.at' 0) 6 11 25)+eD IntKind.u32 (jr IntKind.u32 (e.at' 0) (e.at' 1)) (jr IntKind.u32 (eD IntKind.u32 4294967295 (e.at' 0)) (e.at' 2)))+yA.at' i)+w.at' i)+IntKind.wrap .u32 (yF (v.at' 0) 2 13 22+eD IntKind.u32 (eD IntKind.u32 (jr IntKind.u32 (v.at' 0) (v.at' 1)) (jr IntKind.u32 (v.at' 0) (v.at' 2))) (jr IntKind.u32 (v.at' 1) (v.at' 2)))),v.at' 0,v.at' 1,v.at' 2])
 (Vec.lit 4 [IntKind.wrap .u32 (v.at' 3+IntKind.wrap .u32 (IntKind.wrap .u32 (IntKind.wrap .u32 (IntKind.wrap .u32 (e.at' 3+yF (e.at' 0) 6 11 25)+eD IntKind.u32 (jr IntKind.u32 (e.at' 0) (e.at' 1)) (jr IntKind.u32 (eD IntKind.u32 4294967295 (e.at' 0)) (e.at' 2)))+yA.at' i)+w.at' i)),e.at' 0,e.at' 1,e.at' 2])=Ut w (cat v e) i:=by
 obtain⟨a,b,c,d,rfl⟩:=Nk v
 obtain⟨a',b',c',d',rfl⟩:=Nk e
 rw[alp,alq,alo IntKind.u32 4294967295]
 rfl
theorem hR {n:Nat} {x1:Vec 8} {w:Vec 64}:∀(k:Nat) (i:Int) (v e:Vec 4) (m:Nat),i+k=64->0<=i->k<m->∃v' e',DT n x1 w m (i,(v,e))=some ((),(v',e'))/\cat v' e'=qm (Ut w) k i (cat v e):=by
 intro k
 induction k with
 |zero=>
  intro i v e m hi h0 hm
  obtain⟨m,rfl⟩:∃q,m=q+1:=⟨m-1,by omega⟩
  refine⟨v,e, ?_,rfl⟩
  rw[aa3,decide_eq_false (by omega)];rfl
 |succ k ih=>
  intro i v e m hi h0 hm
  obtain⟨m,rfl⟩:∃q,m=q+1:=⟨m-1,by omega⟩
  obtain⟨v',e',h1,h2⟩:=ih (i+1) _ _ m (by omega) (by omega) (by omega)
  rw[alD] at h2
  refine⟨v',e', ?_,h2⟩
  rw[aa3,decide_eq_true (show i<64 by omega),cond_true,su (i:=i) (n:=64) ⟨by omega,by omega⟩,Ad (by omega) (by omega),abb,abb]
  exact h1
theorem hA {n:Nat} {v e:Vec 4}:∀(k:Nat) (i:Int) (s:Vec 8) (m:Nat),i+k=4->0<=i->k<m->DU n ((),(v,e)) m (i,s)=some ((),qm (abg v e) k i s):=by
 intro k
 induction k with
 |zero=>
  intro i s m hi h0 hm
  obtain⟨m,rfl⟩:∃q,m=q+1:=⟨m-1,by omega⟩
  rw[aa4,decide_eq_false (by omega)];rfl
 |succ k ih=>
  intro i s m hi h0 hm
  obtain⟨m,rfl⟩:∃q,m=q+1:=⟨m-1,by omega⟩
  rw[aa4,decide_eq_true (show i<4 by omega),cond_true,su (i:=i) (n:=8) ⟨by omega,by omega⟩,su (i:=i) (n:=4) ⟨by omega,by omega⟩,Ad (by omega) (by omega),j4 (i:=i+4) (by omega) (by omega),su (i:=i+4) (n:=8) ⟨by omega,by omega⟩]
  exact ih (i+1) _ m (by omega) (by omega) (by omega)
theorem hcomp {n:Nat} {h:Vec 8} {x:List Int} (hx:x.length=64) (hb:kK x) (hn:70<n):DF n (h,x)=some (wC h x):=by
 rw[alb,alB hx hb hn]
 obtain⟨v',e',h1,h2⟩:=hR (n:=n) (x1:=h) (w:=Nj x) 64 0 (h.slc 0 4) (h.slc 4 4) n (by decide) (by decide) (by omega)
 show ((DT n h (Nj x) n (0,(h.slc 0 4,h.slc 4 4))).bind _)=_
 rw[h1]
 show ((DU n ((),(v',e')) n (0,h)).bind _)=_
 rw[hA 4 0 h n (by decide) (by decide) (by omega),add_eq,h2,alC]
 rfl
end Sh
end
section
open Go Go.Proofs Aq
namespace Sh
def Ae:Nat->Vec 8->List Int->Vec 8
 |0,h,_=>h
 |k+1,h,l=>Ae k (wC h (l.take 64)) (l.drop 64)
theorem alE:∀(q:Nat) (h:Vec 8) (d b:List Int),d.length=64*q->b.length=64->Ae (q+1) h (d++b)=wC (Ae q h d) b:=by
 intro q
 induction q with
 |zero=>
  intro h d b hd hb
  obtain rfl:d=[]:=adK (by omega)
  show wC h (b.take 64)=wC h b
  rw[agk (by omega)]
 |succ q ih=>
  intro h d b hd hb
  show Ae (q+1) (wC h ((d++b).take 64)) ((d++b).drop 64)=wC (Ae q (wC h (d.take 64)) (d.drop 64)) b
  rw[amg (by omega),anW (by omega)]
  exact ih _ _ _ (by rw[aft];omega) hb
def IV:Vec 8:=Vec.lit 8 [1779033703,3144134277,1013904242,2773480762,1359893119,2600822924,528734635,1541459225]
def mR (l:List UInt8):List Int:=l.map fun b=>((b.toNat:Nat):Int)
def Af (l:List Int):List UInt8:=l.map fun n=>UInt8.ofNat n.toNat
theorem abj (l:List UInt8):kK (mR l):=by
 intro x hx
 obtain⟨b,_,rfl⟩:=ajQ.1 hx
 have:=UInt8.toNat_lt b
 omega
theorem Uu {l:List Int} (h:kK l):mR (Af l)=l:=by
 unfold mR Af
 rw[aj1]
 conv=>rhs;rw[<-List.map_id l]
 apply al6
 intro x hx
 obtain⟨h0,h1⟩:=h x hx
 show ((UInt8.ofNat x.toNat).toNat:Int)=x
 rw[UInt8.toNat_ofNat_of_lt' (show x.toNat<256 by omega)]
 omega
theorem alF (l:List UInt8):(mR l).length=l.length:=aau ..
theorem DZ (l:List Int):(Af l).length=l.length:=aau ..
theorem D5 {l m:List Int} (h:kK l) (g:kK m):kK (l++m):=fun x hx=>(agj.1 hx).elim (h x) (g x)
theorem alG {l m:List Int} (h:kK (l++m)):kK m:=fun x hx=>h x (akd _ hx)
def uQ (bs:List Int) (h:Vec 8) (v:Vec 64) (c:Int):Prop:=
 ∃q done tail,bs=done++tail/\done.length=64*q/\tail.length<64/\h=Ae q IV done/\v.l.take tail.length=tail/\c=((bs.length:Nat):Int)/\kK bs
theorem GJ {n:Nat} {l:List Int} (h:l.length=n):(Vec.lit n l).l=l:=by unfold Vec.lit;rw[dif_pos h]
theorem abk {x:Int} (h0:0<=x) (h1:x<2^62):IntKind.wrap .u64 x=x:=by rw[IntKind.wrap_u64];omega
theorem hAdd {n:Nat} (hn:70<n):∀(k:Nat) (text:List UInt8) (bs:List Int) (h:Vec 8) (v:Vec 64) (c:Int) (m:Nat),text.length<=k->uQ bs h v c->bs.length+text.length<2^61->k<m->
 ∃h' v' c',DV n m (text,(h,(v,c)))=some ((),(h',(v',c')))/\uQ (bs++mR text) h' v' c':=by
 intro k
 induction k with
 |zero=>
  intro text bs h v c m hk hs hl hm
  obtain⟨m,rfl⟩:∃q,m=q+1:=⟨m-1,by omega⟩
  obtain rfl:text=[]:=adK (by omega)
  refine⟨h,v,c, ?_,by simpa [mR] using hs⟩
  rw[Uj];rfl
 |succ k ih=>
  intro text bs h v c m hk hs hl hm
  obtain⟨m,rfl⟩:∃q,m=q+1:=⟨m-1,by omega⟩
  by_cases ht:text=[]
  ·subst ht
   refine⟨h,v,c, ?_,by simpa [mR] using hs⟩
   rw[Uj];rfl
  ·obtain⟨q,done,tail,hb,hd,htl,hh,hv,hc,hB⟩:=hs
   have hpos:0<text.length:=ajm.2 ht
   have hne:(!(text==[]))=true:=by cases text with
    |nil=>exact absurd rfl ht
    |cons a l=>rfl
   have hbl:bs.length=64*q+tail.length:=by rw[hb,iP,hd]
   have alH:Int.tmod c 64=((tail.length:Nat):Int):=by
    rw[hc,Int.tmod_eq_emod_of_nonneg (by omega)];omega
   rw[Uj,hne,cond_true,alH,j4 (i:=((tail.length:Nat):Int)) (by omega) (by omega)]
   have hcut:List.take (Int.toNat (64-((tail.length:Nat):Int))) (List.map (fun b:UInt8=>((b.toNat:Nat):Int)) text)=mR (text.take (64-tail.length)):=by
    unfold mR
    rw[show Int.toNat (64-((tail.length:Nat):Int))=64-tail.length by omega,List.map_take]
   rw[hcut]
   generalize hj:64-tail.length=j
   have hlen:(mR (text.take j)).length=min j text.length:=by rw[alF,ads]
   have hsplit:mR text=mR (text.take j)++mR (text.drop j):=by unfold mR;rw[<-afr,aga]
   have hdrop:List.drop (Int.toNat (((mR (text.take j)).length:Nat):Int)) text=text.drop j:=by
    rw[Int.toNat_natCast,hlen]
    by_cases h:j<=text.length
    ·rw[akc h]
    ·rw[Nat.min_eq_right (by omega),List.drop_length,amm (by omega)]
   generalize ht':mR (text.take j)=t at hlen hsplit hdrop⊢
   have Uv:kK t:=ht'▸abj _
   have hlit:(v.rO ((tail.length:Nat):Int) t).l=tail++t++v.l.drop (tail.length+t.length):=by
    show (Vec.lit 64 (v.l.take (((tail.length:Nat):Int)).toNat++t++v.l.drop ((((tail.length:Nat):Int)).toNat+t.length))).l=_
    rw[Int.toNat_natCast,GJ (by rw[hv,iP,iP,aft,v.h];omega),hv]
   have g1:ni 64 (some ((tail.length:Nat):Int)) none=true:=decide_eq_true ⟨by omega,by omega⟩
   have g2:kF (((t.length:Nat)):Int) text.length=true:=Nc ⟨by omega,by omega⟩
   rw[show (!((64:Int)==0))=true from rfl,cond_true,g1,cond_true,g2,cond_true,j4 (by omega) (by omega)]
   have alI:IntKind.wrap .u64 (c+IntKind.wrap .u64 ((t.length:Nat):Int))=(((bs++t).length:Nat):Int):=by
    rw[abk (x:=((t.length:Nat):Int)) (by omega) (by omega),abk (by omega) (by omega),hc,iP];omega
   rw[alI,hdrop]
   have hrl:(text.drop j).length<=k:=by rw[aft];omega
   have hnl:(bs++t).length+(text.drop j).length<2^61:=by rw[iP,aft];omega
   cases hfull:(((tail.length:Nat):Int)+((t.length:Nat):Int)==64) with
   |true=>
    have hf:tail.length+t.length=64:=by have:=eq_of_beq hfull;omega
    have hblk:(v.rO ((tail.length:Nat):Int) t).l=tail++t:=by rw[hlit,amm (by rw[v.h];omega),aeX]
    have FU:kK (tail++t):=D5 (alG (hb▸hB)) Uv
    rw[cond_true,hblk,hcomp (by rw[iP];omega) FU hn]
    have hs':uQ (bs++t) (wC h (tail++t)) (v.rO ((tail.length:Nat):Int) t) (((bs++t).length:Nat):Int):=by
     refine⟨q+1,done++(tail++t),[], ?_, ?_,by decide, ?_,rfl,rfl,D5 hB Uv⟩
     ·rw[hb,aeX,acF]
     ·rw[iP,iP,hd];omega
     ·rw[alE q IV done (tail++t) hd (by rw[iP];omega),hh]
    obtain⟨h',v',c',e1,e2⟩:=ih _ _ _ _ _ m hrl hs' hnl (by omega)
    refine⟨h',v',c',e1, ?_⟩
    rw[hsplit,<-acF];exact e2
   |false=>
    have hf:tail.length+t.length≠64:=fun e=>by
     have:(((tail.length:Nat):Int)+((t.length:Nat):Int)==64)=true:=by rw[beq_iff_eq];omega
     rw[this] at hfull;cases hfull
    rw[cond_false]
    have hs':uQ (bs++t) h (v.rO ((tail.length:Nat):Int) t) (((bs++t).length:Nat):Int):=by
     refine⟨q,done,tail++t, ?_,hd, ?_,hh, ?_,rfl,D5 hB Uv⟩
     ·rw[hb,acF]
     ·rw[iP];omega
     ·rw[hlit,amg (RS _),List.take_length]
    obtain⟨h',v',c',e1,e2⟩:=ih _ _ _ _ _ m hrl hs' hnl (by omega)
    refine⟨h',v',c',e1, ?_⟩
    rw[hsplit,<-acF];exact e2
theorem Uw {n:Nat} {text:List UInt8} {bs:List Int} {h:Vec 8} {v:Vec 64} {c:Int} (hn:70<n) (hs:uQ bs h v c) (hl:bs.length+text.length<2^61) (hm:text.length<n):
 ∃h' v' c',wz n ((h,(v,c)),text)=some (h',(v',c'))/\uQ (bs++mR text) h' v' c':=by
 obtain⟨h',v',c',e1,e2⟩:=hAdd hn text.length text bs h v c n (RS _) hs hl hm
 refine⟨h',v',c', ?_,e2⟩
 rw[alc,e1];rfl
end Sh
end
section
open Go Go.Proofs Aq
namespace Sh
def abl (c i:Int):Int:=IntKind.wrap .u8 (aD IntKind.u64 (IntKind.wrap .u64 (8*c)) (IntKind.wrap .i64 (56-IntKind.wrap .i64 (8*i))))
def Ah (c:Int):Nat->Int->List Int
 |0,_=>[]
 |k+1,i=>abl c i::Ah c k (i+1)
theorem abm (c:Int):∀(k:Nat) (i:Int),(Ah c k i).length=k
 |0,_=>rfl
 |k+1,i=>by rw[Ah,List.length_cons,abm c k]
theorem abn (x:Int):0<=IntKind.wrap .u8 x/\IntKind.wrap .u8 x<256:=by
 rw[IntKind.wrap_u8];exact⟨Int.emod_nonneg _ (by decide),Int.emod_lt_of_pos _ (by decide)⟩
theorem abo (c:Int):∀(k:Nat) (i:Int),kK (Ah c k i)
 |0,_=>fun x hx=>by cases hx
 |k+1,i=>fun x hx=>by
  rcases adf.1 hx with rfl|hx
  ·exact abn _
  ·exact abo c k _ x hx
theorem H6 {a k:Nat} (h:a<2^30) (hk:k<=2^12):bJ a k=true:=sD h hk
theorem alJ {n:Nat} {x1:Vec 8} {x2:Vec 64} {c:Nat} (hc:c<2^29):∀(z:Nat) (p:List Int) (m:Nat),(c+p.length+z)% 64=56->z<64->p.length+z<2^20->z<m->Hz n x1 x2 (c:Nat) m p=some (p++List.replicate z 0):=by
 intro z
 induction z with
 |zero=>
  intro p m hz h64 hb hm
  obtain⟨m,rfl⟩:∃q,m=q+1:=⟨m-1,by omega⟩
  rw[aa6,j4 (i:=((c:Nat):Int)) (by omega) (by omega),j4 (by omega) (by omega),Int.tmod_eq_emod_of_nonneg (by omega)]
  have:(((c:Nat):Int)+((p.length:Nat):Int))% 64=56:=by omega
  rw[this];simp
 |succ z ih=>
  intro p m hz h64 hb hm
  obtain⟨m,rfl⟩:∃q,m=q+1:=⟨m-1,by omega⟩
  rw[aa6,j4 (i:=((c:Nat):Int)) (by omega) (by omega),j4 (by omega) (by omega),Int.tmod_eq_emod_of_nonneg (by omega)]
  have:((((c:Nat):Int)+((p.length:Nat):Int))% 64 !=56)=true:=by
   rw[bne_iff_ne];omega
  rw[this,show (!((64:Int)==0))=true from rfl,cond_true,cond_true,H6 (by simp;omega) (by decide),cond_true,ih (p++[0]) m (by rw[iP,List.length_singleton];omega) (by omega) (by rw[iP,List.length_singleton];omega) (by omega),acF]
  rfl
theorem hLen {n:Nat} {x1:Vec 8} {x2:Vec 64} {c:Int}:∀(k:Nat) (i:Int) (p:List Int) (m:Nat),i+k=8->0<=i->p.length+k<2^29->k<m->DX n x1 x2 c m (p,i)=some (p++Ah c k i):=by
 intro k
 induction k with
 |zero=>
  intro i p m hi h0 hb hm
  obtain⟨m,rfl⟩:∃q,m=q+1:=⟨m-1,by omega⟩
  rw[aa7,decide_eq_false (by omega),Ah,aeX];rfl
 |succ k ih=>
  intro i p m hi h0 hb hm
  obtain⟨m,rfl⟩:∃q,m=q+1:=⟨m-1,by omega⟩
  rw[aa7,decide_eq_true (show i<8 by omega),cond_true]
  rw[decide_eq_true (show (0:Int)<=IntKind.wrap .i64 (56-IntKind.wrap .i64 (8*i)) by rw[j4 (i:=8*i) (by omega) (by omega),j4 (by omega) (by omega)];omega),cond_true,H6 (by simp;omega) (by decide),cond_true,Ad h0 (by omega)]
  have:=ih (i+1) (p++[abl c i]) m (by omega) (by omega) (by rw[iP,List.length_singleton];omega) (by omega)
  rw[acF] at this
  exact this
def zpad (c:Nat):Nat:=(55+64-c% 64)% 64
theorem alK (c:Nat):(c+1+zpad c)% 64=56/\zpad c<64:=by unfold zpad;omega
def Ai (c:Nat):List Int:=([128]++List.replicate (zpad c) 0)++Ah (c:Nat) 8 0
theorem Ux (c:Nat):(Ai c).length=1+zpad c+8:=by unfold Ai;simp only[iP,List.length_singleton,List.length_replicate,abm]
theorem alL (c:Nat):kK (Ai c):=by
 refine D5 (D5 ?_ ?_) (abo _ _ _)
 ·intro x hx;rw[adu.1 hx];decide
 ·intro x hx;rw[(List.mem_replicate.1 hx).2];decide
def abp (h:Vec 8) (o:Vec 32) (i:Int):Vec 32:=o.set i (IntKind.wrap .u8 (aD IntKind.u32 (h.at' (IntKind.wrap .i64 (Int.tdiv i 4))) (IntKind.wrap .i64 (24-IntKind.wrap .i64 (8*Int.tmod i 4)))))
def abq (h:Vec 8):Vec 32:=qm (abp h) 32 0 (Vec.rep 32 0)
theorem alM {i:Int} (h0:0<=i) (h1:i<32):eX (IntKind.wrap .i64 (Int.tdiv i 4)) 8=true/\decide ((0:Int)<=IntKind.wrap .i64 (24-IntKind.wrap .i64 (8*Int.tmod i 4)))=true:=by
 rw[Int.tdiv_eq_ediv_of_nonneg h0,Int.tmod_eq_emod_of_nonneg h0,j4 (i:=i/4) (by omega) (by omega),j4 (i:=8*(i% 4)) (by omega) (by omega),j4 (by omega) (by omega)]
 exact⟨su ⟨by omega,by omega⟩,decide_eq_true (by omega)⟩
theorem hOut {n:Nat} {r9:(Vec 8)×(Vec 64)×Int}:∀(k:Nat) (i:Int) (o:Vec 32) (m:Nat),i+k=32->0<=i->k<m->DY n r9 m (i,o)=some ((),qm (abp r9.1) k i o):=by
 intro k
 induction k with
 |zero=>
  intro i s m hi h0 hm
  obtain⟨m,rfl⟩:∃q,m=q+1:=⟨m-1,by omega⟩
  rw[aa8,decide_eq_false (by omega)];rfl
 |succ k ih=>
  intro i s m hi h0 hm
  obtain⟨m,rfl⟩:∃q,m=q+1:=⟨m-1,by omega⟩
  obtain⟨g1,g2⟩:=alM h0 (show i<32 by omega)
  rw[aa8,decide_eq_true (show i<32 by omega),cond_true,g1,g2,su (i:=i) (n:=32) ⟨by omega,by omega⟩,Ad (by omega) (by omega)]
  exact ih (i+1) _ m (by omega) (by omega) (by omega)
def Nl (b:List Int):Vec 32:=abq (Ae ((b.length+(1+zpad b.length+8))/64) IV (b++Ai b.length))
theorem alN {n:Nat} {b:List Int} {h:Vec 8} {v:Vec 64} {c:Int} (hs:uQ b h v c) (hb:b.length<2^28) (hn:200<n):DL n (h,(v,c))=some (Nl b):=by
 obtain⟨h1,h2⟩:=alK b.length
 have hc:c=((b.length:Nat):Int):=by obtain⟨_,_,_,_,_,_,_,_,e,_⟩:=hs;exact e
 have hB:kK b:=by obtain⟨_,_,_,_,_,_,_,_,_,e⟩:=hs;exact e
 subst hc
 rw[alf,alJ (by omega) (zpad b.length) [128] n (by rw[List.length_singleton];exact h1) h2 (by rw[List.length_singleton];omega) (by omega)]
 show (DX n h v (b.length:Nat) n ([128]++List.replicate (zpad b.length) 0,0)).bind _=_
 rw[hLen 8 0 _ n (by decide) (by decide) (by simp only[iP,List.length_singleton,List.length_replicate];omega) (by omega)]
 obtain⟨h',v',c',e1,e2⟩:=Uw (n:=n) (text:=Af (Ai b.length)) (by omega) hs (by rw[DZ,Ux];omega) (by rw[DZ,Ux];omega)
 show ((wz n ((h,(v,((b.length:Nat):Int))),Af (Ai b.length))).bind _)=_
 rw[e1]
 show ((DY n (h',(v',c')) n (0,Vec.rep 32 0)).bind _)=_
 rw[hOut 32 0 _ n (by decide) (by decide) (by omega)]
 rw[Uu (alL _)] at e2
 obtain⟨q,done,tail,hb',hd,htl,hh,_,_,_⟩:=e2
 have hlen:(b++Ai b.length).length=64*q+tail.length:=by rw[hb',iP,hd]
 rw[iP,Ux] at hlen
 have ht:tail=[]:=adK (by omega)
 subst ht
 rw[aeX] at hb'
 have hq:(b.length+(1+zpad b.length+8))/64=q:=by rw[List.length_nil] at hlen;omega
 show some (abq h')=some (Nl b)
 unfold Nl
 rw[hq,hb',hh]
end Sh
end
section
open Go Go.Proofs Aq
namespace Sh
set_option maxRecDepth 100000
def alO (h:Vec 32):bK:=⟨h.nth 0,h.nth 1,h.nth 2,h.nth 3,h.nth 4,h.nth 5,h.nth 6,h.nth 7,h.nth 8,h.nth 9,h.nth 10,h.nth 11,h.nth 12,h.nth 13,h.nth 14,h.nth 15⟩
end Sh
end
section
open Go Go.Proofs Aq
namespace Sh
def wD:Nat->Int->List Int
 |0,_=>[]
 |k+1,z=>if z>=128 then (z% 128+128)::wD k (z/128) else [z]
theorem alP {z:Int} (h0:0<=z):kR IntKind.u8 (IntKind.wrap .u8 z) 128=z% 128+128:=by
 have h1:IntKind.wrap .u8 z=z% 256:=by rw[IntKind.wrap_u8]
 rw[h1]
 have key:∀a:Nat,a<256->kR IntKind.u8 ((a:Nat):Int) 128=((a% 128+128:Nat):Int):=by
  intro a ha
  have:∀a:Fin 256,kR IntKind.u8 ((a.val:Nat):Int) 128=((a.val% 128+128:Nat):Int):=by decide+kernel
  exact this ⟨a,ha⟩
 have h2:z% 256=(((z% 256).toNat:Nat):Int):=by omega
 rw[h2,key _ (by omega)]
 omega
theorem Uy {x:Int} (h0:0<=x) (h1:x<2^64):IntKind.wrap .u64 x=x:=by rw[IntKind.wrap_u64];omega
theorem alQ {n:Nat}:∀(k:Nat) (z:Int) (p:List Int) (m:Nat),0<=z->z<128^k->z<2^64->p.length+k<2^20->k<=m->0<k->∃q y,DW n m (z,p)=some (y,p++q)/\q++[y]=wD k z/\q.length<k/\0<=y/\y<128:=by
 intro k
 induction k with
 |zero=>intro z p m _ _ _ _ _ h;omega
 |succ k ih=>
  intro z p m h0 h1 h64 hp hm _
  obtain⟨m,rfl⟩:∃q,m=q+1:=⟨m-1,by omega⟩
  by_cases hz:z>=128
  ·have hk:0<k:=by
    rcases Nat.eq_zero_or_pos k with rfl|h
    ·have:z<128:=by simpa using h1
     omega
    ·exact h
   have hd:z/128<128^k:=by
    rw[Int.pow_succ] at h1
    exact Int.ediv_lt_of_lt_mul (by decide) h1
   obtain⟨q,y,e1,e3,e4,e5⟩:=ih (z/128) (p++[z% 128+128]) m (by omega) hd (by omega) (by rw[iP,List.length_singleton];omega) (by omega) hk
   obtain⟨s0,s1⟩:=alm h0
   refine⟨(z% 128+128)::q,y, ?_, ?_, ?_,e5⟩
   ·rw[aa5,decide_eq_true (show z>127 by omega),cond_true,H6 (by simp;omega) (by decide),cond_true,alP h0,s1]
    rw[acF] at e1
    exact e1
   ·rw[wD,if_pos hz,<-e3];rfl
   ·simp;omega
  ·refine⟨[],z, ?_, ?_,by simp,h0,by omega⟩
   ·rw[aa5,decide_eq_false (show¬z>127 by omega),aeX];rfl
   ·rw[wD,if_neg hz];rfl
end Sh
end
section
open Go Go.Proofs Aq
namespace Sh
def rI (x:Int):Prop:= -(2^63)<=x/\x<2^63
def yG (x:Int):Int:=if x<0 then 2*(-1-x)+1 else 2*x
def encI (x:Int):List Int:=wD 10 (yG x)
theorem abr {x:Int} (h:rI x):0<=yG x/\yG x<2^64:=by unfold yG;unfold rI at h;split<;>omega
theorem alR {a:Int} (h0:0<=a) (h1:a<2^64):eD IntKind.u64 a 0=a:=by
 unfold eD
 obtain⟨c,rfl⟩:∃c:Nat,a=(c:Int):=⟨a.toNat,(amj h0).symm⟩
 have hc:c<2^64:=by exact_mod_cast h1
 have e:(BitVec.ofInt IntKind.u64.bits (c:Int)^^^BitVec.ofInt IntKind.u64.bits 0).toNat=c:=by
  show (BitVec.ofInt 64 (c:Int)^^^0#64).toNat=_
  rw[BitVec.xor_zero,BitVec.ofInt_natCast,BitVec.toNat_ofNat,amb hc]
 rw[e]
 exact Uy h0 h1
theorem alS {a:Int} (h0:0<=a) (h1:a<2^64):eD IntKind.u64 a (2^64-1)=2^64-1-a:=by
 unfold eD
 obtain⟨c,rfl⟩:∃c:Nat,a=(c:Int):=⟨a.toNat,(amj h0).symm⟩
 have hc:c<2^64:=by exact_mod_cast h1
 have e:(BitVec.ofInt IntKind.u64.bits (c:Int)^^^BitVec.ofInt IntKind.u64.bits (2^64-1)).toNat=2^64-1-c:=by
  show (BitVec.ofInt 64 (c:Int)^^^BitVec.ofInt 64 (2^64-1)).toNat=_
  rw[show BitVec.ofInt 64 (2^64-1)=BitVec.allOnes 64 by decide,BitVec.xor_allOnes,BitVec.toNat_not,BitVec.ofInt_natCast,BitVec.toNat_ofNat,amb hc]
 rw[e,IntKind.wrap_u64]
 omega
theorem alT {x:Int} (h:rI x):eD IntKind.u64 (mQ IntKind.u64 (IntKind.wrap .u64 x) 1) (IntKind.wrap .u64 (aD IntKind.i64 x 63))=yG x:=by
 obtain⟨a,b⟩:=h
 have hs:mQ IntKind.u64 (IntKind.wrap .u64 x) 1=IntKind.wrap .u64 (IntKind.wrap .u64 x*2):=rfl
 have hr:aD IntKind.i64 x 63=x.fdiv (2^63):=rfl
 rw[hs,hr,Int.fdiv_eq_ediv_of_nonneg _ (by decide)]
 unfold yG
 by_cases hx:x<0
 ·rw[if_pos hx,show x/2^63= -1 by omega,show IntKind.wrap .u64 (-1)=2^64-1 by rw[IntKind.wrap_u64];decide]
  have:IntKind.wrap .u64 (IntKind.wrap .u64 x*2)=2*x+2^64:=by rw[IntKind.wrap_u64,IntKind.wrap_u64];omega
  rw[this,alS (by omega) (by omega)]
  omega
 ·rw[if_neg hx,show x/2^63=0 by omega,Uy (x:=x) (by omega) (by omega),Uy (x:=x*2) (by omega) (by omega),show IntKind.wrap .u64 0=0 by rw[IntKind.wrap_u64];decide,alR (by omega) (by omega)]
  omega
theorem abt:∀(k:Nat) (z:Int),0<=z->kK (wD k z)
 |0,_,_=>fun x hx=>by cases hx
 |k+1,z,h=>by
  unfold wD
  split
  ·intro x hx
   rcases adf.1 hx with rfl|hx
   ·omega
   ·exact abt k _ (by omega) x hx
  ·intro x hx
   rw[adu.1 hx];omega
theorem alU {x:Int} (h:rI x):kK (encI x):=abt 10 _ (abr h).1
theorem abu:∀(k:Nat) (z:Int),(wD k z).length<=k
 |0,_=>RS _
 |k+1,z=>by
  unfold wD
  split
  ·rw[List.length_cons];have:=abu k (z/128);omega
  ·simp
theorem alV (x:Int):(encI x).length<=10:=abu _ _
theorem alW {y:Int} (h0:0<=y) (h1:y<128):IntKind.wrap .u8 y=y:=by rw[IntKind.wrap_u8];omega
theorem alX {n:Nat} {x:Int} (h:rI x) (hn:20<n):zY n x=some (encI x):=by
 obtain⟨z0,z1⟩:=abr h
 obtain⟨q,y,e1,e3,e4,e5,e6⟩:=alQ (n:=n) 10 (yG x) [] n z0 (Int.lt_of_lt_of_le z1 (by decide)) z1 (by decide) (by omega) (by decide)
 rw[ald,alT h]
 show ((DW n n (yG x,[])).bind _)=_
 rw[e1,List.nil_append,Option.bind_some]
 rw[H6 (by show q.length+1<_;omega) (by decide),cond_true,alW e5 e6,e3]
 rfl
theorem gR {α:Type} {c:Bool} {o r:Option α} (h:c=true) (k:o=r):(bif c then o else none)=r:=by rw[h];exact k
def oQ (s:List UInt8):List Int:=encI (s.length:Nat)++mR s
theorem abv {k:Nat} (h:k<2^62):rI ((k:Nat):Int):=by unfold rI;omega
theorem alY {s:List UInt8} (h:s.length<2^62):kK (oQ s):=D5 (alU (abv h)) (abj _)
theorem alZ {n:Nat} {s:List UInt8} (h:s.length<2^29) (hn:20<n):DJ n s=some (oQ s):=by
 have hl:=alV ((s.length:Nat):Int)
 rw[ale]
 exact bs (alX (abv (by omega)) hn) (gR (H6 (by rw[aau];omega) (by decide)) rfl)
end Sh
end
section
open Go Go.Proofs Aq
namespace Sh
def yH {α:Type} (f:α->List Int) (l:List α):Nat:=l.foldr (fun x s=>(f x).length+s) 0
theorem abw {α:Type} (f:α->List Int):∀l:List α,(l.flatMap f).length=yH f l
 | []=>rfl
 |x::l=>by rw[afn,iP,abw f l];rfl
theorem al0 (n:Nat):∃v,Dz n ()=some (IV,(v,(0:Int))):=by
 rw[ak7]
 exact⟨_,rfl⟩
theorem al1 {n:Nat} {ls:List (List UInt8)} (hb:∀x∈ls,x.length<2^28) (hlen:ls.length<2^62) (hn:70<n):∀(k i m:Nat) (b:List Int) (h:Vec 8) (v:Vec 64) (c:Int),i+k=ls.length->k<m->uQ b h v c->b.length+yH oQ (ls.drop i)<2^28->yH oQ (ls.drop i)<n->
 ∃h' v' c',HV n ls m ((i:Int),(h,(v,c)))=some ((),(h',(v',c')))/\uQ (b++(ls.drop i).flatMap oQ) h' v' c':=by
 intro k
 induction k with
 |zero=>
  intro i m b h v c hi hm hs _ _
  obtain⟨m,rfl⟩:∃m',m=m'+1:=⟨m-1,by omega⟩
  refine⟨h,v,c, ?_, ?_⟩
  ·rw[aa9,ql (by omega)];rfl
  ·rw[al8 (by omega),List.flatMap_nil,aeX];exact hs
 |succ k ih=>
  intro i m b h v c hi hm hs hsz abx
  obtain⟨m,rfl⟩:∃m',m=m'+1:=⟨m-1,by omega⟩
  have hlt:i<ls.length:=by omega
  have hx:ls[i]? =some ls[i]:=acR hlt
  have hd:ls.drop i=ls[i]::ls.drop (i+1):=al2 hlt
  rw[hd] at hsz abx⊢
  have hm':=hb ls[i] (aed hlt)
  generalize ls[i]=x at hx hsz abx hm'⊢
  have e:yH oQ (x::ls.drop (i+1))=(oQ x).length+yH oQ (ls.drop (i+1)):=rfl
  have hB:kK (oQ x):=alY (by omega)
  obtain⟨h1,v1,c1,g1,g2⟩:=Uw (n:=n) (text:=Af (oQ x)) hn hs (by rw[DZ];omega) (by rw[DZ];omega)
  rw[Uu hB] at g2
  obtain⟨h2,v2,c2,g3,g4⟩:=ih (i+1) m (b++oQ x) h1 v1 c1 (by omega) (by omega) g2 (by rw[iP];omega) (by omega)
  refine⟨h2,v2,c2, ?_, ?_⟩
  ·rw[aa9,jM hx,fC hx,fE (by omega),cond_true]
   exact bs rfl (bs (alZ (by omega) (by omega)) (bs g1 g3))
  ·rw[afn,<-acF];exact g4
def inF (t:Int) (ls:List (List UInt8)):List Int:=[IntKind.wrap .u8 t]++ls.flatMap oQ
def qo (t:Int) (ls:List (List UInt8)):bK:=alO (Nl (inF t ls))
theorem hOf {n:Nat} {t:Int} {ls:List (List UInt8)} (hb:∀x∈ls,x.length<2^28) (hs:1+yH oQ ls<2^28) (hsn:yH oQ ls<n) (hl:ls.length<n) (hn:200<n) (hlen:ls.length<2^62):Hy n (t,ls)=some (qo t ls):=by
 rw[alg]
 obtain⟨v,hv⟩:=al0 n
 have s0:uQ [] IV v 0:=⟨0,[],[],rfl,rfl,by decide,rfl,rfl,rfl,fun x hx=>by cases hx⟩
 have hB1:kK [IntKind.wrap .u8 t]:=fun x hx=>by rw[adu.1 hx];exact abn t
 obtain⟨h1,v1,c1,g1,g2⟩:=Uw (n:=n) (text:=Af [IntKind.wrap .u8 t]) (by omega) s0 (by rw[DZ];simp) (by rw[DZ];simp;omega)
 rw[Uu hB1,List.nil_append] at g2
 obtain⟨h2,v2,c2,g3,g4⟩:=al1 (n:=n) hb hlen (by omega) ls.length 0 n _ h1 v1 c1 (by omega) hl g2 (by rw[al9,List.length_singleton];exact hs) (by rw[al9];exact hsn)
 rw[al9] at g4
 have g5:=alN (n:=n) g4 (by rw[iP,List.length_singleton,abw];exact hs) hn
 refine bs hv (bs g1 (bs g3 ?_))
 refine bs g5 ?_
 exact gR (by decide) (gR (by decide) rfl)
end Sh
end
