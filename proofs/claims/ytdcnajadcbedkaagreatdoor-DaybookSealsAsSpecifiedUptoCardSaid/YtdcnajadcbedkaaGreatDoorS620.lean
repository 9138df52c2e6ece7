/- Part of the proof of a law. -/
import Derived.IntWalk
import Derived.KernelRfl
import Derived.Test.YtdcnajadcbedkaaGreatDoorS619
set_option linter.all false
set_option linter.unusedSimpArgs false
set_option linter.unusedSectionVars false
section
open Go Go.Proofs Aq
namespace Sh
set_option linter.unusedVariables false
theorem aj4 {α:Type} (l:List α) (i:Nat):dw l (i:Int)=l[i]? :=by
 unfold dw
 by_cases h:i<l.length
 ·rw[if_pos ⟨by omega,by omega⟩];simp
 ·rw[if_neg (by omega)];simp;omega
theorem iT {α:Type} {l:List α} {i:Nat} {x:α} (h:l[i]? =some x):dw l (i:Int)=some x:=by rw[aj4,h]
theorem aj5 {α:Type} {l:List α} {i:Nat} {x:α} (h:l[i]? =some x):i<l.length:=by
 rw[List.getElem?_eq_some_iff] at h;exact h.1
theorem o8 {α:Type} {l:List α} {i:Nat} {x:α} (h:l[i]? =some x):decide ((i:Int)< ((l.length:Nat):Int))=true:=by
 have:=aj5 h;simp;omega
theorem oh {i:Nat} (h:i<2^62):IntKind.wrap .i64 ((i:Int)+(1:Int))=((i+1:Nat):Int):=by
 rw[IntKind.wrap_i64];omega
theorem o9 {α:Type} {l:List α} {i:Nat} (h:l.length≤i):decide ((i:Int)< ((l.length:Nat):Int))=false:=by simp;omega
theorem bs {α β:Type} {o:Option α} {a:α} {f:α→Option β} {r:Option β} (h:o=some a) (k:f a=r):o.bind f=r:=by
 rw[h];exact k
theorem aj6 {a k:Nat} (h:a<2^30) (hk:k≤2^12):dG a k=true:=by
 unfold dG
 have h1:a*k≤2^30*2^12:=Nat.mul_le_mul (Nat.le_of_lt h) hk
 have e:(2:Nat)^30*2^12≤2^47:=by decide
 rw[Bool.and_eq_true,decide_eq_true_iff,decide_eq_true_iff]
 exact⟨by omega,by omega⟩
theorem aj7 {α:Type} {c:Bool} {x d:α}:eY c (some x) d=some (bif c then x else d):=by cases c<;>rfl
theorem RN {i:Nat} (h:0<i) (hb:i<2^62):IntKind.wrap .i64 ((i:Int)-(1:Int))=((i-1:Nat):Int):=by
 rw[IntKind.wrap_i64];omega
theorem aj8 {a b:Nat} (h:a+b<2^62):IntKind.wrap .i64 ((((a:Nat):Int))+(((b:Nat):Int)))=((a+b:Nat):Int):=by
 rw[IntKind.wrap_i64];omega
theorem aj9 {x:Int} (h:0≤x):IntKind.wrap IntKind.u64 (Int.tdiv x 128)=IntKind.wrap IntKind.u64 (x/128):=by rw[Int.tdiv_eq_ediv_of_nonneg h]
theorem bT {α:Type} {c:Bool} {a b r:Option α} (h:c=true) (k:a=r):(bif c then a else b)=r:=by rw[h];exact k
theorem bF {α:Type} {c:Bool} {a b r:Option α} (h:c=false) (k:b=r):(bif c then a else b)=r:=by rw[h];exact k
end Sh
end
section
open Go Go.Proofs Aq
namespace Sh
theorem jV {i:Int} {n:Nat} (h:0≤i∧i<n):bq i n=true:=decide_eq_true h
theorem Fu {i:Int} {n:Nat} (h:0≤i∧i≤n):jr i n=true:=decide_eq_true h
def rotl (x k:Int):Int:=iQ IntKind.u32 (jM IntKind.u32 x (fE IntKind.u64 (IntKind.wrap IntKind.u64 k) 31)) (gH IntKind.u32 x (IntKind.wrap IntKind.u64 (32-fE IntKind.u64 (IntKind.wrap IntKind.u64 k) 31)))
theorem ZX (x:Int):0≤IntKind.wrap IntKind.u64 x:=by rw[IntKind.wrap_u64];exact Int.emod_nonneg _ (by decide)
theorem yt (n:Nat) (x k:Int):qp n (x,k)=some (rotl x k):=by
 rw[ajK,decide_eq_true (show (0:Int)≤fE IntKind.u64 (IntKind.wrap IntKind.u64 k) 31 from ZX _),decide_eq_true (ZX _)]
 rfl
def wo (x a b c:Int):Int:=cK IntKind.u32 (cK IntKind.u32 (rotl x (IntKind.wrap IntKind.i64 (0-a))) (rotl x (IntKind.wrap IntKind.i64 (0-b)))) (rotl x (IntKind.wrap IntKind.i64 (0-c)))
theorem ZY (n:Nat) (x a b c:Int):xU n (x,(a,(b,c)))=some (wo x a b c):=by
 rw[ajM,yt,yt,yt]
 rfl
theorem pq {i:Int} (h0:0≤i) (h:i<2^62):IntKind.wrap .i64 (i+(1:Int))=i+1:=by rw[IntKind.wrap_i64];omega
theorem fZ {i:Int} (h0: -(2^62)≤i) (h:i<2^62):IntKind.wrap .i64 i=i:=by rw[IntKind.wrap_i64];omega
end Sh
end
section
open Go Go.Proofs Aq
namespace Sh
theorem akb {a k:Nat} (h:a<2^30) (hk:k≤2^12):dG a k=true:=aj6 h hk
theorem akc {x:Int} (h0:0≤x):0≤gH IntKind.u64 x 7∧gH IntKind.u64 x 7=x/128:=by
 have e:gH IntKind.u64 x 7=x.fdiv (2^7):=rfl
 rw[e,Int.fdiv_eq_ediv_of_nonneg x (by decide)]
 exact⟨Int.ediv_nonneg h0 (by decide),rfl⟩
end Sh
end
section
open Go Go.Proofs Aq
namespace Sh
theorem akd (k:IntKind) (a b:Int):iQ k a b=iQ k b a:=by unfold iQ;rw[BitVec.or_comm]
theorem ake (k:IntKind) (a b:Int):cK k a b=cK k b a:=by unfold cK;rw[BitVec.xor_comm]
def iB (x k:Int):Int:=iQ IntKind.u32 (gH IntKind.u32 x k) (jM IntKind.u32 x (IntKind.wrap IntKind.i64 (32-k)))
theorem sj (n:Nat) (x k:Int) (h0:0≤k) (h1:k≤32):nA n (x,k)=some (iB x k):=by
 rw[ajX,decide_eq_true h0,cond_true,decide_eq_true (by rw[fZ (by omega) (by omega)];omega:(0:Int)≤IntKind.wrap IntKind.i64 (32-k))]
 rfl
theorem su {x k j i:Int} (h1:fE IntKind.u64 (IntKind.wrap IntKind.u64 k) 31=i) (h2:IntKind.wrap IntKind.u64 (32-i)=j) (h3:IntKind.wrap IntKind.i64 (32-j)=i):rotl x k=iB x j:=by
 unfold rotl iB
 rw[h1,h2,h3,akd]
theorem Z0 (x:Int) {a b c:Int} (ha:rotl x (IntKind.wrap IntKind.i64 (0-a))=iB x a) (hb:rotl x (IntKind.wrap IntKind.i64 (0-b))=iB x b) (hc:rotl x (IntKind.wrap IntKind.i64 (0-c))=iB x c):
 wo x a b c=cK IntKind.u32 (cK IntKind.u32 (iB x a) (iB x b)) (iB x c):=by
 unfold wo;rw[ha,hb,hc]
theorem akf (x:Int):wo x 6 11 25=cK IntKind.u32 (cK IntKind.u32 (iB x 6) (iB x 11)) (iB x 25):=
 Z0 x (su (i:=26) (by decide) (by decide) (by decide)) (su (i:=21) (by decide) (by decide) (by decide)) (su (i:=7) (by decide) (by decide) (by decide))
theorem akg (x:Int):wo x 2 13 22=cK IntKind.u32 (cK IntKind.u32 (iB x 2) (iB x 13)) (iB x 22):=
 Z0 x (su (i:=30) (by decide) (by decide) (by decide)) (su (i:=19) (by decide) (by decide) (by decide)) (su (i:=10) (by decide) (by decide) (by decide))
theorem akh (x:Int):rotl x (-7)=iB x 7:=su (i:=25) (by decide) (by decide) (by decide)
theorem aki (x:Int):rotl x (-18)=iB x 18:=su (i:=14) (by decide) (by decide) (by decide)
theorem akj (x:Int):rotl x (-17)=iB x 17:=su (i:=15) (by decide) (by decide) (by decide)
theorem akk (x:Int):rotl x (-19)=iB x 19:=su (i:=13) (by decide) (by decide) (by decide)
theorem Ld {a b:Int} (k:Nat) (ha0:0≤a) (ha:a% 2^k=0) (ha1:a<2^32) (hb0:0≤b) (hb1:b<2^k) (hk:k≤32):iQ IntKind.u32 a b=a+b:=by
 obtain⟨c,rfl⟩:∃c:Nat,a=((c*2^k:Nat):Int):=by
  refine⟨(a/2^k).toNat, ?_⟩
  have h1:=Int.mul_ediv_add_emod a (2^k)
  rw[ha,Int.add_zero] at h1
  have h2:0≤a/2^k:=Int.ediv_nonneg ha0 (Int.pow_nonneg (by decide))
  rw[Int.natCast_mul,Int.toNat_of_nonneg h2,Int.mul_comm]
  push_cast
  exact h1.symm
 obtain⟨d,rfl⟩:∃d:Nat,b=(d:Int):=⟨b.toNat,(Int.toNat_of_nonneg hb0).symm⟩
 have hd:d<2^k:=by exact_mod_cast hb1
 have hkk:2^k≤2^32:=Nat.pow_le_pow_right (by decide) hk
 have hc:c*2^k<2^32:=by exact_mod_cast ha1
 have hsum:c*2^k|||d=c*2^k+d:=by
  rw[←Nat.shiftLeft_eq,Nat.shiftLeft_add_eq_or_of_lt hd]
 have hlt:c*2^k|||d<2^32:=Nat.or_lt_two_pow hc (by omega)
 unfold iQ
 have e1:(BitVec.ofInt IntKind.u32.bits ((c*2^k:Nat):Int)|||BitVec.ofInt IntKind.u32.bits ((d:Nat):Int)).toNat=c*2^k+d:=by
  rw[BitVec.toNat_or]
  simp only[BitVec.ofInt_natCast,BitVec.toNat_ofNat]
  show (c*2^k)% 2^32|||d% 2^32=_
  rw[Nat.mod_eq_of_lt hc,Nat.mod_eq_of_lt (by omega),hsum]
 rw[e1,IntKind.wrap_u32]
 have:c*2^k+d<2^32:=by omega
 omega
end Sh
end
section
open Go Go.Proofs Aq
namespace Sh
theorem akl {n:Nat} {v w:Vec n} (h:v.l=w.l):v=w:=by cases v;cases w;cases h;rfl
theorem at_set {n:Nat} (v:Vec n) {i:Int} (y:Int) (h0:0≤i) (h1:i<n):(v.set i y).at' i=y:=by
 show (v.l.set i.toNat y).getD i.toNat 0=y
 rw[List.getD_eq_getElem?_getD,List.getElem?_set_self (by rw[v.h];omega)];rfl
theorem akm {n:Nat} (v:Vec n) {i j:Int} (y:Int) (h0:0≤i) (h1:0≤j) (h:i≠j):(v.set i y).at' j=v.at' j:=by
 show (v.l.set i.toNat y).getD j.toNat 0=v.l.getD j.toNat 0
 rw[List.getD_eq_getElem?_getD,List.getElem?_set_ne (by omega),List.getD_eq_getElem?_getD]
theorem RP {n:Nat} (v:Vec n) (i a b:Int):(v.set i a).set i b=v.set i b:=akl (List.set_set ..)
def iH (l:List Int):Prop:=∀x∈l,0≤x∧x<256
theorem Le {l:List Int} (h:iH l) (i:Nat):0≤l.getD i 0∧l.getD i 0<256:=by
 rw[List.getD_eq_getElem?_getD]
 cases hi:l[i]? with
 |none=>exact⟨Int.le_refl _,by decide⟩
 |some x=>exact h x (List.mem_of_getElem? hi)
theorem wrap32 {x:Int} (h0:0≤x) (h1:x<2^32):IntKind.wrap IntKind.u32 x=x:=by rw[IntKind.wrap_u32];omega
def RQ (a b c d:Int):Int:=iQ IntKind.u32 (iQ IntKind.u32 (iQ IntKind.u32 (jM IntKind.u32 (IntKind.wrap IntKind.u32 a) 24) (jM IntKind.u32 (IntKind.wrap IntKind.u32 b) 16)) (jM IntKind.u32 (IntKind.wrap IntKind.u32 c) 8)) (IntKind.wrap IntKind.u32 d)
theorem Lf {x:Int} (k:Nat) (h0:0≤x) (h1:x*2^k<2^32) (hk:k≤32):jM IntKind.u32 x (k:Nat)=x*2^k:=by
 unfold jM
 have:min (((k:Nat):Int)).toNat IntKind.u32.bits=k:=by show min (((k:Nat):Int)).toNat 32=k;rw[Int.toNat_natCast];omega
 rw[this,wrap32 (Int.mul_nonneg h0 (Int.pow_nonneg (by decide))) h1]
theorem akn {a b c d:Int} (ha:0≤a∧a<256) (hb:0≤b∧b<256) (hc:0≤c∧c<256) (hd:0≤d∧d<256):RQ a b c d=a*2^24+b*2^16+c*2^8+d:=by
 unfold RQ
 rw[wrap32 (by omega) (by omega),wrap32 (by omega) (by omega),wrap32 (by omega) (by omega),wrap32 (by omega) (by omega)]
 rw[show jM IntKind.u32 a 24=a*2^24 from Lf 24 (by omega) (by omega) (by decide),show jM IntKind.u32 b 16=b*2^16 from Lf 16 (by omega) (by omega) (by decide),show jM IntKind.u32 c 8=c*2^8 from Lf 8 (by omega) (by omega) (by decide)]
 have h1:iQ IntKind.u32 (a*2^24) (b*2^16)=a*2^24+b*2^16:=Ld 24 (by omega) (by omega) (by omega) (by omega) (by omega) (by decide)
 have h2:iQ IntKind.u32 (a*2^24+b*2^16) (c*2^8)=a*2^24+b*2^16+c*2^8:=Ld 16 (by omega) (by omega) (by omega) (by omega) (by omega) (by decide)
 have h3:iQ IntKind.u32 (a*2^24+b*2^16+c*2^8) d=a*2^24+b*2^16+c*2^8+d:=Ld 8 (by omega) (by omega) (by omega) (by omega) (by omega) (by decide)
 rw[h1,h2,h3]
theorem Lg {x d:Int} (h0:0≤x) (h1:x<2^24) (hd:0≤d∧d<256):iQ IntKind.u32 (jM IntKind.u32 x 8) (IntKind.wrap IntKind.u32 d)=x*256+d:=by
 rw[wrap32 (by omega) (by omega),show jM IntKind.u32 x 8=x*2^8 from Lf 8 (by omega) (by omega) (by decide),Ld 8 (by omega) (by omega) (by omega) (by omega) (by omega) (by decide)];omega
def RU (x:List Int) (i:Int):Int:=RQ (x.getD (4*i.toNat) 0) (x.getD (4*i.toNat+1) 0) (x.getD (4*i.toNat+2) 0) (x.getD (4*i.toNat+3) 0)
theorem ako {n m:Nat} {x1:List Int} {i:Int} (h:x1.length=64) (h0:0≤i) (h1:i<16) (hb:iH x1) (v:Vec 64) (hv:v.at' i=0):yh n x1 i (m+5) (0,v)=some ((),v.set i (RU x1 i)):=by
 have hl:List.drop (Int.toNat (IntKind.wrap IntKind.i64 (4*i))) (List.take (Int.toNat (IntKind.wrap IntKind.i64 (IntKind.wrap IntKind.i64 (4*i)+4))) x1)=[x1.getD (4*i.toNat) 0,x1.getD (4*i.toNat+1) 0,x1.getD (4*i.toNat+2) 0,x1.getD (4*i.toNat+3) 0]:=by
  rw[fZ (i:=4*i) (by omega) (by omega),fZ (by omega) (by omega)]
  apply List.ext_getElem?
  intro j
  rw[List.getElem?_drop]
  by_cases hj:j<4
  ·rw[List.getElem?_take_of_lt (by omega)]
   have e:(4*i).toNat+j=4*i.toNat+j:=by omega
   rw[e]
   have hg:∀k,k<64→x1[k]? =some (x1.getD k 0):=fun k hk=>by rw[List.getD_eq_getElem?_getD,List.getElem?_eq_getElem (by omega)];rfl
   rw[hg _ (by omega)]
   rcases j with _|_|_|_|j
   all_goals first| (exact absurd hj (by omega))|rfl
  ·rw[List.getElem?_eq_none (by rw[List.length_take];omega),List.getElem?_eq_none (by simp;omega)]
 have ba:=Le hb (4*i.toNat)
 have bb:=Le hb (4*i.toNat+1)
 have bc:=Le hb (4*i.toNat+2)
 have bd:=Le hb (4*i.toNat+3)
 unfold RU
 generalize x1.getD (4*i.toNat) 0=a at hl ba⊢
 generalize x1.getD (4*i.toNat+1) 0=b at hl bb⊢
 generalize x1.getD (4*i.toNat+2) 0=c at hl bc⊢
 generalize x1.getD (4*i.toNat+3) 0=d at hl bd⊢
 have hin:bq i 64=true:=jV ⟨h0,by omega⟩
 have st:∀(m:Nat) (x4:Int) (x5:Vec 64) (y:Int),dw [a,b,c,d] x4=some y→0≤x4→x4<4→yh n x1 i (m+1) (x4,x5)=yh n x1 i m (x4+1,x5.set i (iQ IntKind.u32 (jM IntKind.u32 (x5.at' i) 8) (IntKind.wrap IntKind.u32 y))):=by
  intro m x4 x5 y hy k0 k1
  rw[ZB,hl,decide_eq_true (show x4< (([a,b,c,d]:List Int).length:Nat) by simp;omega),hy,hin,pq k0 (by omega)]
  rfl
 rw[st (m+4) 0 v a rfl (by decide) (by decide),st (m+3) (0+1) _ b rfl (by decide) (by decide),st (m+2) (0+1+1) _ c rfl (by decide) (by decide),st (m+1) (0+1+1+1) _ d rfl (by decide) (by decide)]
 rw[ZB,hl]
 rw[hv,at_set _ _ h0 (by show i<64;omega),at_set _ _ h0 (by show i<64;omega),at_set _ _ h0 (by show i<64;omega),RP,RP,RP]
 have e1:=Lg (x:=0) (d:=a) (by decide) (by decide) ba
 rw[e1,Lg (by omega) (by omega) bb,Lg (by omega) (by omega) bc,Lg (by omega) (by omega) bd,akn ba bb bc bd]
 have e2:(((0*256+a)*256+b)*256+c)*256+d=a*2^24+b*2^16+c*2^8+d:=by omega
 rw[e2]
 rfl
end Sh
end
section
open Go Go.Proofs Aq
namespace Sh
def Lh (w:Vec 64) (i:Int):Vec 64:=w.set i (IntKind.wrap IntKind.u32 (IntKind.wrap IntKind.u32 (IntKind.wrap IntKind.u32 (w.at' (i-16)+cK IntKind.u32 (cK IntKind.u32 (iB (w.at' (i-15)) 7) (iB (w.at' (i-15)) 18)) (gH IntKind.u32 (w.at' (i-15)) 3))+w.at' (i-7))+
 cK IntKind.u32 (cK IntKind.u32 (iB (w.at' (i-2)) 17) (iB (w.at' (i-2)) 19)) (gH IntKind.u32 (w.at' (i-2)) 10)))
def Li (x:List Int) (w:Vec 64) (i:Int):Vec 64:=w.set i (RU x i)
def jW {α:Type} (f:α→Int→α):Nat→Int→α→α
 |0,_,w=>w
 |k+1,i,w=>jW f k (i+1) (f w i)
def yu (x:List Int):Vec 64:=jW Lh 48 16 (jW (Li x) 16 0 (Vec.rep 64 0))
theorem hS2 {n:Nat} {x:List Int}:∀(k:Nat) (i:Int) (w:Vec 64) (m:Nat),i+k=64→16≤i→k<m→yj n x m (i,w)=some ((),jW Lh k i w):=by
 intro k
 induction k with
 |zero=>
  intro i w m hi h16 hm
  obtain⟨m,rfl⟩:∃q,m=q+1:=⟨m-1,by omega⟩
  rw[RH,decide_eq_false (by omega)];rfl
 |succ k ih=>
  intro i w m hi h16 hm
  obtain⟨m,rfl⟩:∃q,m=q+1:=⟨m-1,by omega⟩
  rw[RH,decide_eq_true (show i<64 by omega),decide_eq_false (show¬i<16 by omega),cond_true,cond_false]
  rw[fZ (i:=i-15) (by omega) (by omega),fZ (i:=i-2) (by omega) (by omega),fZ (i:=i-16) (by omega) (by omega),fZ (i:=i-7) (by omega) (by omega),pq (by omega) (by omega)]
  rw[jV (i:=i-15) ⟨by omega,by omega⟩,jV (i:=i-2) ⟨by omega,by omega⟩,jV (i:=i-16) ⟨by omega,by omega⟩,jV (i:=i-7) ⟨by omega,by omega⟩,jV (i:=i) ⟨by omega,by omega⟩]
  rw[yt,yt,yt,yt,akh,aki,akj,akk]
  exact ih (i+1) _ m (by omega) (by omega) (by omega)
theorem hS1 {n:Nat} {x:List Int} (hx:x.length=64) (hb:iH x) (hn:60<n):∀(k:Nat) (i:Int) (w:Vec 64) (m:Nat),i+k=16→0≤i→(∀j,i≤j→w.at' j=0)→k+48<m→yj n x m (i,w)=some ((),jW Lh 48 16 (jW (Li x) k i w)):=by
 intro k
 induction k with
 |zero=>
  intro i w m hi h0 hw hm
  obtain rfl:i=16:=by omega
  exact hS2 48 16 w m (by decide) (by decide) (by omega)
 |succ k ih=>
  intro i w m hi h0 hw hm
  obtain⟨m,rfl⟩:∃q,m=q+1:=⟨m-1,by omega⟩
  rw[RH,decide_eq_true (show i<64 by omega),decide_eq_true (show i<16 by omega),cond_true,cond_true]
  rw[fZ (i:=4*i) (by omega) (by omega),fZ (i:=4*i+4) (by omega) (by omega),pq (by omega) (by omega)]
  rw[Fu (i:=4*i+4) ⟨by omega,by omega⟩,Fu (i:=4*i) ⟨by omega,by omega⟩,Bool.and_self,cond_true]
  obtain⟨q,rfl⟩:∃q,n=q+5:=⟨n-5,by omega⟩
  rw[ako hx h0 (by omega) hb w (hw i (Int.le_refl _))]
  exact ih (i+1) _ m (by omega) (by omega) (fun j hj=>by rw[akm _ _ h0 (by omega) (by omega)];exact hw j (by omega)) (by omega)
theorem akp {n:Nat} {x:List Int} (hx:x.length=64) (hb:iH x) (hn:70<n):AY n x=some (yu x):=by
 rw[ajL]
 have h:=hS1 (n:=n) hx hb (by omega) 16 0 (Vec.rep 64 0) n (by decide) (by decide) (fun j _=>by
  show (List.replicate 64 (0:Int)).getD j.toNat 0=0
  rw[List.getD_eq_getElem?_getD,List.getElem?_replicate]
  split<;>rfl) (by omega)
 rw[h];rfl
theorem rS1 {n:Nat} {x:List Int} (hx:x.length=64):∀(k:Nat) (i:Int) (w:Vec 64) (m:Nat),i+k=16→0≤i→k<m→Fj n x m (i,w)=some ((),jW (Li x) k i w):=by
 intro k
 induction k with
 |zero=>
  intro i w m hi h0 hm
  obtain⟨m,rfl⟩:∃q,m=q+1:=⟨m-1,by omega⟩
  rw[ZO,decide_eq_false (by omega)];rfl
 |succ k ih=>
  intro i w m hi h0 hm
  obtain⟨m,rfl⟩:∃q,m=q+1:=⟨m-1,by omega⟩
  have hg:∀k:Nat,k<64→dw x ((k:Nat):Int)=some (x.getD k 0):=fun k hk=>by
   unfold dw
   rw[if_pos ⟨by omega,by omega⟩,Int.toNat_natCast,List.getD_eq_getElem?_getD,List.getElem?_eq_getElem (by omega)];rfl
  rw[ZO,decide_eq_true (show i<16 by omega),cond_true]
  rw[fZ (i:=4*i) (by omega) (by omega),fZ (i:=4*i+1) (by omega) (by omega),fZ (i:=4*i+2) (by omega) (by omega),fZ (i:=4*i+3) (by omega) (by omega),pq (by omega) (by omega)]
  rw[show (4*i:Int)=((4*i.toNat:Nat):Int) by omega,hg _ (by omega),show ((4*i.toNat:Nat):Int)+1=((4*i.toNat+1:Nat):Int) by omega,hg _ (by omega),show ((4*i.toNat:Nat):Int)+2=((4*i.toNat+2:Nat):Int) by omega,hg _ (by omega),show ((4*i.toNat:Nat):Int)+3=((4*i.toNat+3:Nat):Int) by omega,hg _ (by omega)]
  rw[jV (i:=i) ⟨by omega,by omega⟩]
  exact ih (i+1) _ m (by omega) (by omega) (by omega)
theorem rS2 {n:Nat}:∀(k:Nat) (i:Int) (w:Vec 64) (m:Nat),i+k=64→16≤i→k<m→BA n m (i,w)=some ((),jW Lh k i w):=by
 intro k
 induction k with
 |zero=>
  intro i w m hi h16 hm
  obtain⟨m,rfl⟩:∃q,m=q+1:=⟨m-1,by omega⟩
  rw[ZP,decide_eq_false (by omega)];rfl
 |succ k ih=>
  intro i w m hi h16 hm
  obtain⟨m,rfl⟩:∃q,m=q+1:=⟨m-1,by omega⟩
  rw[ZP,decide_eq_true (show i<64 by omega),cond_true]
  rw[fZ (i:=i-15) (by omega) (by omega),fZ (i:=i-2) (by omega) (by omega),fZ (i:=i-16) (by omega) (by omega),fZ (i:=i-7) (by omega) (by omega),pq (by omega) (by omega)]
  rw[jV (i:=i-15) ⟨by omega,by omega⟩,jV (i:=i-2) ⟨by omega,by omega⟩,jV (i:=i-16) ⟨by omega,by omega⟩,jV (i:=i-7) ⟨by omega,by omega⟩,jV (i:=i) ⟨by omega,by omega⟩]
  rw[sj _ _ _ (by decide) (by decide),sj _ _ _ (by decide) (by decide),sj _ _ _ (by decide) (by decide),sj _ _ _ (by decide) (by decide)]
  exact ih (i+1) _ m (by omega) (by omega) (by omega)
theorem aks {n:Nat} {x:List Int} (hx:x.length=64) (hn:70<n):Bh n x=some (yu x):=by
 rw[ajY,rS1 hx 16 0 (Vec.rep 64 0) n (by decide) (by decide) (by omega)]
 show (BA n n (16,jW (Li x) 16 0 (Vec.rep 64 0))).bind _=_
 rw[rS2 48 16 _ n (by decide) (by decide) (by omega)];rfl
end Sh
end
section
open Go Go.Proofs Aq
namespace Sh
def tF (h a b c k w:Int):Int:=IntKind.wrap IntKind.u32 (IntKind.wrap IntKind.u32 (IntKind.wrap IntKind.u32 (IntKind.wrap IntKind.u32 (h+cK IntKind.u32 (cK IntKind.u32 (iB a 6) (iB a 11)) (iB a 25))+cK IntKind.u32 (fE IntKind.u32 a b) (fE IntKind.u32 (cK IntKind.u32 a 4294967295) c))+k)+w)
def uF (a b c:Int):Int:=IntKind.wrap IntKind.u32 (cK IntKind.u32 (cK IntKind.u32 (iB a 2) (iB a 13)) (iB a 22)+cK IntKind.u32 (cK IntKind.u32 (fE IntKind.u32 a b) (fE IntKind.u32 a c)) (fE IntKind.u32 b c))
def Fv (w:Vec 64) (s:Vec 8) (i:Int):Vec 8:=
 Vec.lit 8 [IntKind.wrap IntKind.u32 (tF (s.at' 7) (s.at' 4) (s.at' 5) (s.at' 6) (rX.at' i) (w.at' i)+uF (s.at' 0) (s.at' 1) (s.at' 2)),s.at' 0,s.at' 1,s.at' 2,IntKind.wrap IntKind.u32 (s.at' 3+tF (s.at' 7) (s.at' 4) (s.at' 5) (s.at' 6) (rX.at' i) (w.at' i)),s.at' 4,s.at' 5,s.at' 6]
def RV (v s:Vec 8) (i:Int):Vec 8:=s.set i (IntKind.wrap IntKind.u32 (s.at' i+v.at' i))
def Z4 (v e:Vec 4) (s:Vec 8) (i:Int):Vec 8:=(s.set i (IntKind.wrap IntKind.u32 (s.at' i+v.at' i))).set (i+4) (IntKind.wrap IntKind.u32 ((s.set i (IntKind.wrap IntKind.u32 (s.at' i+v.at' i))).at' (i+4)+e.at' i))
def cat (v e:Vec 4):Vec 8:=Vec.lit 8 (v.l++e.l)
theorem Lj (v:Vec 4):∃a b c d,v=Vec.lit 4 [a,b,c,d]:=by
 obtain⟨l,h⟩:=v
 match l,h with
 | [a,b,c,d],_=>exact⟨a,b,c,d,rfl⟩
theorem Z5 (v:Vec 8):∃a b c d e f g h,v=Vec.lit 8 [a,b,c,d,e,f,g,h]:=by
 obtain⟨l,hl⟩:=v
 match l,hl with
 | [a,b,c,d,e,f,g,h],_=>exact⟨a,b,c,d,e,f,g,h,rfl⟩
theorem add_eq (v e:Vec 4) (s:Vec 8):jW (Z4 v e) 4 0 s=jW (RV (cat v e)) 8 0 s:=by
 obtain⟨a,b,c,d,rfl⟩:=Lj v
 obtain⟨a',b',c',d',rfl⟩:=Lj e
 obtain⟨s0,s1,s2,s3,s4,s5,s6,s7,rfl⟩:=Z5 s
 kernel_rfl
theorem akt (s:Vec 8):cat (s.slc 0 4) (s.slc 4 4)=s:=by
 obtain⟨s0,s1,s2,s3,s4,s5,s6,s7,rfl⟩:=Z5 s
 kernel_rfl
def sw (h:Vec 8) (x:List Int):Vec 8:=jW (RV (jW (Fv (yu x)) 64 0 h)) 8 0 h
theorem rR {n:Nat} {r2:List Int} {x3:Int} {x4:Vec 8} {w:Vec 64}:∀(k:Nat) (i:Int) (s:Vec 8) (m:Nat),i+k=64→0≤i→k<m→BD n r2 x3 x4 w m (i,s)=some ((),jW (Fv w) k i s):=by
 intro k
 induction k with
 |zero=>
  intro i s m hi h0 hm
  obtain⟨m,rfl⟩:∃q,m=q+1:=⟨m-1,by omega⟩
  rw[ZQ,decide_eq_false (by omega)];rfl
 |succ k ih=>
  intro i s m hi h0 hm
  obtain⟨m,rfl⟩:∃q,m=q+1:=⟨m-1,by omega⟩
  rw[ZQ,decide_eq_true (show i<64 by omega),cond_true,jV (i:=i) (n:=64) ⟨by omega,by omega⟩,pq (by omega) (by omega)]
  rw[sj _ _ _ (by decide) (by decide),sj _ _ _ (by decide) (by decide),sj _ _ _ (by decide) (by decide),sj _ _ _ (by decide) (by decide),sj _ _ _ (by decide) (by decide),sj _ _ _ (by decide) (by decide)]
  exact ih (i+1) _ m (by omega) (by omega) (by omega)
theorem aku (w:Vec 64) (v e:Vec 4) (i:Int):cat (Vec.lit 4 [IntKind.wrap IntKind.u32 (IntKind.wrap IntKind.u32 (IntKind.wrap IntKind.u32 (IntKind.wrap IntKind.u32 (IntKind.wrap IntKind.u32 (e.at' 3+wo (e.at' 0) 6 11 25)+cK IntKind.u32 (fE IntKind.u32 (e.at' 0) (e.at' 1)) (fE IntKind.u32 (cK IntKind.u32 4294967295 (e.at' 0)) (e.at' 2)))+rX.at' i)+w.at' i)+IntKind.wrap IntKind.u32 (wo (v.at' 0) 2 13 22+cK IntKind.u32 (cK IntKind.u32 (fE IntKind.u32 (v.at' 0) (v.at' 1)) (fE IntKind.u32 (v.at' 0) (v.at' 2))) (fE IntKind.u32 (v.at' 1) (v.at' 2)))),v.at' 0,v.at' 1,v.at' 2])
 (Vec.lit 4 [IntKind.wrap IntKind.u32 (v.at' 3+IntKind.wrap IntKind.u32 (IntKind.wrap IntKind.u32 (IntKind.wrap IntKind.u32 (IntKind.wrap IntKind.u32 (e.at' 3+wo (e.at' 0) 6 11 25)+cK IntKind.u32 (fE IntKind.u32 (e.at' 0) (e.at' 1)) (fE IntKind.u32 (cK IntKind.u32 4294967295 (e.at' 0)) (e.at' 2)))+rX.at' i)+w.at' i)),e.at' 0,e.at' 1,e.at' 2])=Fv w (cat v e) i:=by
 obtain⟨a,b,c,d,rfl⟩:=Lj v
 obtain⟨a',b',c',d',rfl⟩:=Lj e
 rw[akf,akg,ake IntKind.u32 4294967295]
 rfl
theorem hR {n:Nat} {x1:Vec 8} {w:Vec 64}:∀(k:Nat) (i:Int) (v e:Vec 4) (m:Nat),i+k=64→0≤i→k<m→∃v' e',Bp n x1 w m (i,(v,e))=some ((),(v',e'))∧cat v' e'=jW (Fv w) k i (cat v e):=by
 intro k
 induction k with
 |zero=>
  intro i v e m hi h0 hm
  obtain⟨m,rfl⟩:∃q,m=q+1:=⟨m-1,by omega⟩
  refine⟨v,e, ?_,rfl⟩
  rw[ZC,decide_eq_false (by omega)];rfl
 |succ k ih=>
  intro i v e m hi h0 hm
  obtain⟨m,rfl⟩:∃q,m=q+1:=⟨m-1,by omega⟩
  obtain⟨v',e',h1,h2⟩:=ih (i+1) _ _ m (by omega) (by omega) (by omega)
  rw[aku] at h2
  refine⟨v',e', ?_,h2⟩
  rw[ZC,decide_eq_true (show i<64 by omega),cond_true,jV (i:=i) (n:=64) ⟨by omega,by omega⟩,pq (by omega) (by omega),ZY,ZY]
  exact h1
theorem rA {n:Nat} {r2:List Int} {x3:Int} {v:Vec 8}:∀(k:Nat) (i:Int) (s:Vec 8) (m:Nat),i+k=8→0≤i→k<m→BF n r2 x3 ((),v) m (i,s)=some ((),jW (RV v) k i s):=by
 intro k
 induction k with
 |zero=>
  intro i s m hi h0 hm
  obtain⟨m,rfl⟩:∃q,m=q+1:=⟨m-1,by omega⟩
  rw[ZR,decide_eq_false (by omega)];rfl
 |succ k ih=>
  intro i s m hi h0 hm
  obtain⟨m,rfl⟩:∃q,m=q+1:=⟨m-1,by omega⟩
  rw[ZR,decide_eq_true (show i<8 by omega),cond_true,jV (i:=i) (n:=8) ⟨by omega,by omega⟩,pq (by omega) (by omega)]
  exact ih (i+1) _ m (by omega) (by omega) (by omega)
theorem hA {n:Nat} {v e:Vec 4}:∀(k:Nat) (i:Int) (s:Vec 8) (m:Nat),i+k=4→0≤i→k<m→Bq n ((),(v,e)) m (i,s)=some ((),jW (Z4 v e) k i s):=by
 intro k
 induction k with
 |zero=>
  intro i s m hi h0 hm
  obtain⟨m,rfl⟩:∃q,m=q+1:=⟨m-1,by omega⟩
  rw[ZE,decide_eq_false (by omega)];rfl
 |succ k ih=>
  intro i s m hi h0 hm
  obtain⟨m,rfl⟩:∃q,m=q+1:=⟨m-1,by omega⟩
  rw[ZE,decide_eq_true (show i<4 by omega),cond_true,jV (i:=i) (n:=8) ⟨by omega,by omega⟩,jV (i:=i) (n:=4) ⟨by omega,by omega⟩,pq (by omega) (by omega),fZ (i:=i+4) (by omega) (by omega),jV (i:=i+4) (n:=8) ⟨by omega,by omega⟩]
  exact ih (i+1) _ m (by omega) (by omega) (by omega)
theorem hcomp {n:Nat} {h:Vec 8} {x:List Int} (hx:x.length=64) (hb:iH x) (hn:70<n):AZ n (h,x)=some (sw h x):=by
 rw[ajN,akp hx hb hn]
 obtain⟨v',e',h1,h2⟩:=hR (n:=n) (x1:=h) (w:=yu x) 64 0 (h.slc 0 4) (h.slc 4 4) n (by decide) (by decide) (by omega)
 show ((Bp n h (yu x) n (0,(h.slc 0 4,h.slc 4 4))).bind _)=_
 rw[h1]
 show ((Bq n ((),(v',e')) n (0,h)).bind _)=_
 rw[hA 4 0 h n (by decide) (by decide) (by omega),add_eq,h2,akt]
 rfl
end Sh
end
section
open Go Go.Proofs Aq
namespace Sh
def uE:Nat→Vec 8→List Int→Vec 8
 |0,h,_=>h
 |k+1,h,l=>uE k (sw h (l.take 64)) (l.drop 64)
theorem akv:∀(q:Nat) (h:Vec 8) (d b:List Int),d.length=64*q→b.length=64→uE (q+1) h (d++b)=sw (uE q h d) b:=by
 intro q
 induction q with
 |zero=>
  intro h d b hd hb
  obtain rfl:d=[]:=List.eq_nil_of_length_eq_zero (by omega)
  show sw h (b.take 64)=sw h b
  rw[List.take_of_length_le (by omega)]
 |succ q ih=>
  intro h d b hd hb
  show uE (q+1) (sw h ((d++b).take 64)) ((d++b).drop 64)=sw (uE q (sw h (d.take 64)) (d.drop 64)) b
  rw[List.take_append_of_le_length (by omega),List.drop_append_of_le_length (by omega)]
  exact ih _ _ _ (by rw[List.length_drop];omega) hb
def IV:Vec 8:=Vec.lit 8 [1779033703,3144134277,1013904242,2773480762,1359893119,2600822924,528734635,1541459225]
def lu (l:List UInt8):List Int:=l.map fun b=>((b.toNat:Nat):Int)
def uG (l:List Int):List UInt8:=l.map fun n=>UInt8.ofNat n.toNat
theorem Z6 (l:List UInt8):iH (lu l):=by
 intro x hx
 obtain⟨b,_,rfl⟩:=List.mem_map.1 hx
 have:=UInt8.toNat_lt b
 omega
theorem RX {l:List Int} (h:iH l):lu (uG l)=l:=by
 unfold lu uG
 rw[List.map_map]
 conv=>rhs;rw[←List.map_id l]
 apply List.map_congr_left
 intro x hx
 obtain⟨h0,h1⟩:=h x hx
 show ((UInt8.ofNat x.toNat).toNat:Int)=x
 rw[UInt8.toNat_ofNat_of_lt' (show x.toNat<256 by omega)]
 omega
theorem Z7 (l:List UInt8):(lu l).length=l.length:=List.length_map ..
theorem yw (l:List Int):(uG l).length=l.length:=List.length_map ..
theorem uH {l m:List Int} (h:iH l) (g:iH m):iH (l++m):=fun x hx=>(List.mem_append.1 hx).elim (h x) (g x)
theorem akw {l m:List Int} (h:iH (l++m)):iH m:=fun x hx=>h x (List.mem_append_right _ hx)
def sD (bs:List Int) (h:Vec 8) (v:Vec 64) (c:Int):Prop:=
 ∃q done tail,bs=done++tail∧done.length=64*q∧tail.length<64∧h=uE q IV done∧v.l.take tail.length=tail∧c=((bs.length:Nat):Int)∧iH bs
theorem Ef {n:Nat} {l:List Int} (h:l.length=n):(Vec.lit n l).l=l:=by unfold Vec.lit;rw[dif_pos h]
theorem RY {x:Int} (h0:0≤x) (h1:x<2^62):IntKind.wrap IntKind.u64 x=x:=by rw[IntKind.wrap_u64];omega
theorem hAdd {n:Nat} (hn:70<n):∀(k:Nat) (text:List UInt8) (bs:List Int) (h:Vec 8) (v:Vec 64) (c:Int) (m:Nat),text.length≤k→sD bs h v c→bs.length+text.length<2^61→k<m→
 ∃h' v' c',Br n m (text,(h,(v,c)))=some ((),(h',(v',c')))∧sD (bs++lu text) h' v' c':=by
 intro k
 induction k with
 |zero=>
  intro text bs h v c m hk hs hl hm
  obtain⟨m,rfl⟩:∃q,m=q+1:=⟨m-1,by omega⟩
  obtain rfl:text=[]:=List.eq_nil_of_length_eq_zero (by omega)
  refine⟨h,v,c, ?_,by simpa [lu] using hs⟩
  rw[RI];rfl
 |succ k ih=>
  intro text bs h v c m hk hs hl hm
  obtain⟨m,rfl⟩:∃q,m=q+1:=⟨m-1,by omega⟩
  by_cases ht:text=[]
  ·subst ht
   refine⟨h,v,c, ?_,by simpa [lu] using hs⟩
   rw[RI];rfl
  ·obtain⟨q,done,tail,hb,hd,htl,hh,hv,hc,hB⟩:=hs
   have hpos:0<text.length:=List.length_pos_iff.2 ht
   have hne:(!(text==[]))=true:=by cases text with
    |nil=>exact absurd rfl ht
    |cons a l=>rfl
   have hbl:bs.length=64*q+tail.length:=by rw[hb,List.length_append,hd]
   have akx:Int.tmod c 64=((tail.length:Nat):Int):=by
    rw[hc,Int.tmod_eq_emod_of_nonneg (by omega)];omega
   rw[RI,hne,cond_true,akx,fZ (i:=((tail.length:Nat):Int)) (by omega) (by omega)]
   have hcut:List.take (Int.toNat (64-((tail.length:Nat):Int))) (List.map (fun b:UInt8=>((b.toNat:Nat):Int)) text)=lu (text.take (64-tail.length)):=by
    unfold lu
    rw[show Int.toNat (64-((tail.length:Nat):Int))=64-tail.length by omega,List.map_take]
   rw[hcut]
   generalize hj:64-tail.length=j
   have hlen:(lu (text.take j)).length=min j text.length:=by rw[Z7,List.length_take]
   have hsplit:lu text=lu (text.take j)++lu (text.drop j):=by unfold lu;rw[←List.map_append,List.take_append_drop]
   have hdrop:List.drop (Int.toNat (((lu (text.take j)).length:Nat):Int)) text=text.drop j:=by
    rw[Int.toNat_natCast,hlen]
    by_cases h:j≤text.length
    ·rw[Nat.min_eq_left h]
    ·rw[Nat.min_eq_right (by omega),List.drop_length,List.drop_of_length_le (by omega)]
   generalize ht':lu (text.take j)=t at hlen hsplit hdrop⊢
   have RZ:iH t:=ht'▸Z6 _
   have hlit:(v.pX ((tail.length:Nat):Int) t).l=tail++t++v.l.drop (tail.length+t.length):=by
    show (Vec.lit 64 (v.l.take (((tail.length:Nat):Int)).toNat++t++v.l.drop ((((tail.length:Nat):Int)).toNat+t.length))).l=_
    rw[Int.toNat_natCast,Ef (by rw[hv,List.length_append,List.length_append,List.length_drop,v.h];omega),hv]
   have g1:l9 64 (some ((tail.length:Nat):Int)) none=true:=decide_eq_true ⟨by omega,by omega⟩
   have g2:jr (((t.length:Nat)):Int) text.length=true:=Fu ⟨by omega,by omega⟩
   rw[show (!((64:Int)==0))=true from rfl,cond_true,g1,cond_true,g2,cond_true,fZ (by omega) (by omega)]
   have aky:IntKind.wrap IntKind.u64 (c+IntKind.wrap IntKind.u64 ((t.length:Nat):Int))=(((bs++t).length:Nat):Int):=by
    rw[RY (x:=((t.length:Nat):Int)) (by omega) (by omega),RY (by omega) (by omega),hc,List.length_append];omega
   rw[aky,hdrop]
   have hrl:(text.drop j).length≤k:=by rw[List.length_drop];omega
   have hnl:(bs++t).length+(text.drop j).length<2^61:=by rw[List.length_append,List.length_drop];omega
   cases hfull:(((tail.length:Nat):Int)+((t.length:Nat):Int)==64) with
   |true=>
    have hf:tail.length+t.length=64:=by have:=eq_of_beq hfull;omega
    have hblk:(v.pX ((tail.length:Nat):Int) t).l=tail++t:=by rw[hlit,List.drop_of_length_le (by rw[v.h];omega),List.append_nil]
    have Dr:iH (tail++t):=uH (akw (hb▸hB)) RZ
    rw[cond_true,hblk,hcomp (by rw[List.length_append];omega) Dr hn]
    have hs':sD (bs++t) (sw h (tail++t)) (v.pX ((tail.length:Nat):Int) t) (((bs++t).length:Nat):Int):=by
     refine⟨q+1,done++(tail++t),[], ?_, ?_,by decide, ?_,rfl,rfl,uH hB RZ⟩
     ·rw[hb,List.append_nil,List.append_assoc]
     ·rw[List.length_append,List.length_append,hd];omega
     ·rw[akv q IV done (tail++t) hd (by rw[List.length_append];omega),hh]
    obtain⟨h',v',c',e1,e2⟩:=ih _ _ _ _ _ m hrl hs' hnl (by omega)
    refine⟨h',v',c',e1, ?_⟩
    rw[hsplit,←List.append_assoc];exact e2
   |false=>
    have hf:tail.length+t.length≠64:=fun e=>by
     have:(((tail.length:Nat):Int)+((t.length:Nat):Int)==64)=true:=by rw[beq_iff_eq];omega
     rw[this] at hfull;cases hfull
    rw[cond_false]
    have hs':sD (bs++t) h (v.pX ((tail.length:Nat):Int) t) (((bs++t).length:Nat):Int):=by
     refine⟨q,done,tail++t, ?_,hd, ?_,hh, ?_,rfl,uH hB RZ⟩
     ·rw[hb,List.append_assoc]
     ·rw[List.length_append];omega
     ·rw[hlit,List.take_append_of_le_length (Nat.le_refl _),List.take_length]
    obtain⟨h',v',c',e1,e2⟩:=ih _ _ _ _ _ m hrl hs' hnl (by omega)
    refine⟨h',v',c',e1, ?_⟩
    rw[hsplit,←List.append_assoc];exact e2
theorem R3 {n:Nat} {text:List UInt8} {bs:List Int} {h:Vec 8} {v:Vec 64} {c:Int} (hn:70<n) (hs:sD bs h v c) (hl:bs.length+text.length<2^61) (hm:text.length<n):
 ∃h' v' c',uo n ((h,(v,c)),text)=some (h',(v',c'))∧sD (bs++lu text) h' v' c':=by
 obtain⟨h',v',c',e1,e2⟩:=hAdd hn text.length text bs h v c n (Nat.le_refl _) hs hl hm
 refine⟨h',v',c', ?_,e2⟩
 rw[ajO,e1];rfl
end Sh
end
section
open Go Go.Proofs Aq
namespace Sh
def R4 (c i:Int):Int:=IntKind.wrap IntKind.u8 (gH IntKind.u64 (IntKind.wrap IntKind.u64 (8*c)) (IntKind.wrap IntKind.i64 (56-IntKind.wrap IntKind.i64 (8*i))))
def uI (c:Int):Nat→Int→List Int
 |0,_=>[]
 |k+1,i=>R4 c i::uI c k (i+1)
theorem Z8 (c:Int):∀(k:Nat) (i:Int),(uI c k i).length=k
 |0,_=>rfl
 |k+1,i=>by rw[uI,List.length_cons,Z8 c k]
theorem R5 (x:Int):0≤IntKind.wrap IntKind.u8 x∧IntKind.wrap IntKind.u8 x<256:=by
 rw[IntKind.wrap_u8];exact⟨Int.emod_nonneg _ (by decide),Int.emod_lt_of_pos _ (by decide)⟩
theorem Z9 (c:Int):∀(k:Nat) (i:Int),iH (uI c k i)
 |0,_=>fun x hx=>by cases hx
 |k+1,i=>fun x hx=>by
  rcases List.mem_cons.1 hx with rfl|hx
  ·exact R5 _
  ·exact Z9 c k _ x hx
theorem jy {a k:Nat} (h:a<2^30) (hk:k≤2^12):dG a k=true:=akb h hk
theorem akz {n:Nat} {x1:Vec 8} {x2:Vec 64} {c:Nat} (hc:c<2^29):∀(z:Nat) (p:List Int) (m:Nat),(c+p.length+z)% 64=56→z<64→p.length+z<2^20→z<m→Fb n x1 x2 (c:Nat) m p=some (p++List.replicate z 0):=by
 intro z
 induction z with
 |zero=>
  intro p m hz h64 hb hm
  obtain⟨m,rfl⟩:∃q,m=q+1:=⟨m-1,by omega⟩
  rw[ZG,fZ (i:=((c:Nat):Int)) (by omega) (by omega),fZ (by omega) (by omega),Int.tmod_eq_emod_of_nonneg (by omega)]
  have:(((c:Nat):Int)+((p.length:Nat):Int))% 64=56:=by omega
  rw[this];simp
 |succ z ih=>
  intro p m hz h64 hb hm
  obtain⟨m,rfl⟩:∃q,m=q+1:=⟨m-1,by omega⟩
  rw[ZG,fZ (i:=((c:Nat):Int)) (by omega) (by omega),fZ (by omega) (by omega),Int.tmod_eq_emod_of_nonneg (by omega)]
  have:((((c:Nat):Int)+((p.length:Nat):Int))% 64 !=56)=true:=by
   rw[bne_iff_ne];omega
  rw[this,show (!((64:Int)==0))=true from rfl,cond_true,cond_true,jy (by simp;omega) (by decide),cond_true,ih (p++[0]) m (by rw[List.length_append,List.length_singleton];omega) (by omega) (by rw[List.length_append,List.length_singleton];omega) (by omega),List.append_assoc]
  rfl
theorem akA {n:Nat} {x1:List Int}:∀(z:Nat) (p:List Int) (m:Nat),(p.length+z)% 64=56→z<64→p.length+z<2^29→z<m→Fh n x1 m p=some (p++List.replicate z 0):=by
 intro z
 induction z with
 |zero=>
  intro p m hz h64 hb hm
  obtain⟨m,rfl⟩:∃q,m=q+1:=⟨m-1,by omega⟩
  rw[ZM,Int.tmod_eq_emod_of_nonneg (by omega)]
  have:(((p.length:Nat):Int))% 64=56:=by omega
  rw[this];simp
 |succ z ih=>
  intro p m hz h64 hb hm
  obtain⟨m,rfl⟩:∃q,m=q+1:=⟨m-1,by omega⟩
  rw[ZM,Int.tmod_eq_emod_of_nonneg (by omega)]
  have:(((p.length:Nat):Int)% 64 !=56)=true:=by
   rw[bne_iff_ne];omega
  rw[this,show (!((64:Int)==0))=true from rfl,cond_true,cond_true,jy (by simp;omega) (by decide),cond_true,ih (p++[0]) m (by rw[List.length_append,List.length_singleton];omega) (by omega) (by rw[List.length_append,List.length_singleton];omega) (by omega),List.append_assoc]
  rfl
theorem hLen {n:Nat} {x1:Vec 8} {x2:Vec 64} {c:Int}:∀(k:Nat) (i:Int) (p:List Int) (m:Nat),i+k=8→0≤i→p.length+k<2^29→k<m→Bu n x1 x2 c m (p,i)=some (p++uI c k i):=by
 intro k
 induction k with
 |zero=>
  intro i p m hi h0 hb hm
  obtain⟨m,rfl⟩:∃q,m=q+1:=⟨m-1,by omega⟩
  rw[ZH,decide_eq_false (by omega),uI,List.append_nil];rfl
 |succ k ih=>
  intro i p m hi h0 hb hm
  obtain⟨m,rfl⟩:∃q,m=q+1:=⟨m-1,by omega⟩
  rw[ZH,decide_eq_true (show i<8 by omega),cond_true]
  rw[decide_eq_true (show (0:Int)≤IntKind.wrap IntKind.i64 (56-IntKind.wrap IntKind.i64 (8*i)) by rw[fZ (i:=8*i) (by omega) (by omega),fZ (by omega) (by omega)];omega),cond_true,jy (by simp;omega) (by decide),cond_true,pq h0 (by omega)]
  have:=ih (i+1) (p++[R4 c i]) m (by omega) (by omega) (by rw[List.length_append,List.length_singleton];omega) (by omega)
  rw[List.append_assoc] at this
  exact this
theorem akB {n:Nat} {x1:List Int} (hx:x1.length<2^29):∀(k:Nat) (i:Int) (p:List Int) (m:Nat),i+k=8→0≤i→p.length+k<2^30→k<m→Bz n x1 m (p,i)=some (p++uI (x1.length:Nat) k i):=by
 intro k
 induction k with
 |zero=>
  intro i p m hi h0 hb hm
  obtain⟨m,rfl⟩:∃q,m=q+1:=⟨m-1,by omega⟩
  rw[ZN,decide_eq_false (by omega),uI,List.append_nil];rfl
 |succ k ih=>
  intro i p m hi h0 hb hm
  obtain⟨m,rfl⟩:∃q,m=q+1:=⟨m-1,by omega⟩
  rw[ZN,decide_eq_true (show i<8 by omega),cond_true]
  rw[decide_eq_true (show (0:Int)≤IntKind.wrap IntKind.i64 (56-IntKind.wrap IntKind.i64 (8*i)) by rw[fZ (i:=8*i) (by omega) (by omega),fZ (by omega) (by omega)];omega),cond_true,jy (by simp;omega) (by decide),cond_true,pq h0 (by omega),RY (x:=((x1.length:Nat):Int)) (by omega) (by omega)]
  have:=ih (i+1) (p++[R4 (x1.length:Nat) i]) m (by omega) (by omega) (by rw[List.length_append,List.length_singleton];omega) (by omega)
  rw[List.append_assoc] at this
  exact this
def zpad (c:Nat):Nat:=(55+64-c% 64)% 64
theorem R6 (c:Nat):(c+1+zpad c)% 64=56∧zpad c<64:=by unfold zpad;omega
def qw (c:Nat):List Int:=([128]++List.replicate (zpad c) 0)++uI (c:Nat) 8 0
theorem Ll (c:Nat):(qw c).length=1+zpad c+8:=by unfold qw;simp only[List.length_append,List.length_singleton,List.length_replicate,Z8]
theorem aac (c:Nat):iH (qw c):=by
 refine uH (uH ?_ ?_) (Z9 _ _ _)
 ·intro x hx;rw[List.mem_singleton.1 hx];decide
 ·intro x hx;rw[(List.mem_replicate.1 hx).2];decide
theorem akC {n:Nat} {b:List Int} (hb:b.length<2^28) (hn:100<n):Bg n b=some (b++qw b.length):=by
 obtain⟨h1,h2⟩:=R6 b.length
 rw[ajW,jy (by omega) (by decide),cond_true,jy (by simp;omega) (by decide),cond_true]
 rw[List.nil_append,akA (zpad b.length) (b++[128]) n (by rw[List.length_append,List.length_singleton];exact h1) h2 (by rw[List.length_append,List.length_singleton];omega) (by omega)]
 show (Bz n b n (b++[128]++List.replicate (zpad b.length) 0,0)).bind _=_
 rw[akB (by omega) 8 0 _ n (by decide) (by decide) (by simp only[List.length_append,List.length_singleton,List.length_replicate];omega) (by omega)]
 unfold qw
 simp only[Option.bind_some,List.append_assoc]
theorem akD {n:Nat} {r:List Int} (hB:iH r) (hr:r.length<2^29) (hn:100<n):∀(k:Nat) (j:Nat) (h:Vec 8) (m:Nat),j+64*k=r.length→k<m→BG n r m ((j:Nat),h)=some ((),uE k h (r.drop j)):=by
 intro k
 induction k with
 |zero=>
  intro j h m hj hm
  obtain⟨m,rfl⟩:∃q,m=q+1:=⟨m-1,by omega⟩
  rw[ZT,decide_eq_false (by omega)];rfl
 |succ k ih=>
  intro j h m hj hm
  obtain⟨m,rfl⟩:∃q,m=q+1:=⟨m-1,by omega⟩
  rw[ZT,decide_eq_true (by omega),cond_true,fZ (i:=((j:Nat):Int)+64) (by omega) (by omega),Fu (i:=((j:Nat):Int)+64) ⟨by omega,by omega⟩,Fu (i:=((j:Nat):Int)) ⟨by omega,by omega⟩,Bool.and_self,cond_true]
  have hcut:List.drop (Int.toNat ((j:Nat):Int)) (List.take (Int.toNat (((j:Nat):Int)+64)) r)=(r.drop j).take 64:=by
   rw[Int.toNat_natCast,show Int.toNat (((j:Nat):Int)+64)=j+64 by omega,List.drop_take,Nat.add_sub_cancel_left]
  have hw:=aks (n:=n) (x:=(r.drop j).take 64) (by rw[List.length_take,List.length_drop];omega) (by omega)
  rw[←hcut] at hw
  refine bs hw ?_
  rw[hcut]
  show ((BD n r (j:Nat) h (yu ((r.drop j).take 64)) n (0,h)).bind _)=_
  rw[rR 64 0 h n (by decide) (by decide) (by omega)]
  show ((BF n r (j:Nat) ((),jW (Fv (yu ((r.drop j).take 64))) 64 0 h) n (0,h)).bind _)=_
  rw[rA 8 0 h n (by decide) (by decide) (by omega)]
  have:=ih (j+64) (sw h ((r.drop j).take 64)) m (by omega) (by omega)
  rw[←List.drop_drop] at this
  exact this
def R7 (h:Vec 8) (o:Vec 32) (i:Int):Vec 32:=o.set i (IntKind.wrap IntKind.u8 (gH IntKind.u32 (h.at' (IntKind.wrap IntKind.i64 (Int.tdiv i 4))) (IntKind.wrap IntKind.i64 (24-IntKind.wrap IntKind.i64 (8*Int.tmod i 4)))))
def aad (h:Vec 8):Vec 32:=jW (R7 h) 32 0 (Vec.rep 32 0)
theorem aae {i:Int} (h0:0≤i) (h1:i<32):bq (IntKind.wrap IntKind.i64 (Int.tdiv i 4)) 8=true∧decide ((0:Int)≤IntKind.wrap IntKind.i64 (24-IntKind.wrap IntKind.i64 (8*Int.tmod i 4)))=true:=by
 rw[Int.tdiv_eq_ediv_of_nonneg h0,Int.tmod_eq_emod_of_nonneg h0,fZ (i:=i/4) (by omega) (by omega),fZ (i:=8*(i% 4)) (by omega) (by omega),fZ (by omega) (by omega)]
 exact⟨jV ⟨by omega,by omega⟩,decide_eq_true (by omega)⟩
theorem hOut {n:Nat} {r9:(Vec 8)×(Vec 64)×Int}:∀(k:Nat) (i:Int) (o:Vec 32) (m:Nat),i+k=32→0≤i→k<m→Bv n r9 m (i,o)=some ((),jW (R7 r9.1) k i o):=by
 intro k
 induction k with
 |zero=>
  intro i s m hi h0 hm
  obtain⟨m,rfl⟩:∃q,m=q+1:=⟨m-1,by omega⟩
  rw[ZI,decide_eq_false (by omega)];rfl
 |succ k ih=>
  intro i s m hi h0 hm
  obtain⟨m,rfl⟩:∃q,m=q+1:=⟨m-1,by omega⟩
  obtain⟨g1,g2⟩:=aae h0 (show i<32 by omega)
  rw[ZI,decide_eq_true (show i<32 by omega),cond_true,g1,g2,jV (i:=i) (n:=32) ⟨by omega,by omega⟩,pq (by omega) (by omega)]
  exact ih (i+1) _ m (by omega) (by omega) (by omega)
theorem akE {n:Nat} {h:Vec 8}:∀(k:Nat) (i:Int) (o:Vec 32) (m:Nat),i+k=32→0≤i→k<m→BH n ((),h) m (i,o)=some ((),jW (R7 h) k i o):=by
 intro k
 induction k with
 |zero=>
  intro i s m hi h0 hm
  obtain⟨m,rfl⟩:∃q,m=q+1:=⟨m-1,by omega⟩
  rw[ZU,decide_eq_false (by omega)];rfl
 |succ k ih=>
  intro i s m hi h0 hm
  obtain⟨m,rfl⟩:∃q,m=q+1:=⟨m-1,by omega⟩
  obtain⟨g1,g2⟩:=aae h0 (show i<32 by omega)
  rw[ZU,decide_eq_true (show i<32 by omega),cond_true,g1,g2,jV (i:=i) (n:=32) ⟨by omega,by omega⟩,pq (by omega) (by omega)]
  exact ih (i+1) _ m (by omega) (by omega) (by omega)
def Fw (b:List Int):Vec 32:=aad (uE ((b.length+(1+zpad b.length+8))/64) IV (b++qw b.length))
theorem akF {n:Nat} {b:List Int} (hB:iH b) (hb:b.length<2^28) (hbn:b.length<n) (hn:100<n):Bj n b=some (Fw b):=by
 obtain⟨h1,h2⟩:=R6 b.length
 rw[ajZ,akC hb hn]
 have hl:(b++qw b.length).length=b.length+(1+zpad b.length+8):=by rw[List.length_append,Ll]
 show (BG n (b++qw b.length) n (((0:Nat):Int),IV)).bind _=_
 rw[akD (uH hB (aac _)) (by omega) hn ((b.length+(1+zpad b.length+8))/64) 0 IV n (by omega) (by omega)]
 show ((BH n ((),uE _ IV (b++qw b.length)) n (0,Vec.rep 32 0)).bind _)=_
 rw[akE 32 0 _ n (by decide) (by decide) (by omega)]
 rfl
theorem akG {n:Nat} {b:List Int} {h:Vec 8} {v:Vec 64} {c:Int} (hs:sD b h v c) (hb:b.length<2^28) (hn:200<n):Bb n (h,(v,c))=some (Fw b):=by
 obtain⟨h1,h2⟩:=R6 b.length
 have hc:c=((b.length:Nat):Int):=by obtain⟨_,_,_,_,_,_,_,_,e,_⟩:=hs;exact e
 have hB:iH b:=by obtain⟨_,_,_,_,_,_,_,_,_,e⟩:=hs;exact e
 subst hc
 rw[ajR,akz (by omega) (zpad b.length) [128] n (by rw[List.length_singleton];exact h1) h2 (by rw[List.length_singleton];omega) (by omega)]
 show (Bu n h v (b.length:Nat) n ([128]++List.replicate (zpad b.length) 0,0)).bind _=_
 rw[hLen 8 0 _ n (by decide) (by decide) (by simp only[List.length_append,List.length_singleton,List.length_replicate];omega) (by omega)]
 obtain⟨h',v',c',e1,e2⟩:=R3 (n:=n) (text:=uG (qw b.length)) (by omega) hs (by rw[yw,Ll];omega) (by rw[yw,Ll];omega)
 show ((uo n ((h,(v,((b.length:Nat):Int))),uG (qw b.length))).bind _)=_
 rw[e1]
 show ((Bv n (h',(v',c')) n (0,Vec.rep 32 0)).bind _)=_
 rw[hOut 32 0 _ n (by decide) (by decide) (by omega)]
 rw[RX (aac _)] at e2
 obtain⟨q,done,tail,hb',hd,htl,hh,_,_,_⟩:=e2
 have hlen:(b++qw b.length).length=64*q+tail.length:=by rw[hb',List.length_append,hd]
 rw[List.length_append,Ll] at hlen
 have ht:tail=[]:=List.eq_nil_of_length_eq_zero (by omega)
 subst ht
 rw[List.append_nil] at hb'
 have hq:(b.length+(1+zpad b.length+8))/64=q:=by rw[List.length_nil] at hlen;omega
 show some (aad h')=some (Fw b)
 unfold Fw
 rw[hq,hb',hh]
end Sh
end
section
open Go Go.Proofs Aq
namespace Sh
set_option maxRecDepth 100000
def aaf (h:Vec 32):aI:=⟨h.nth 0,h.nth 1,h.nth 2,h.nth 3,h.nth 4,h.nth 5,h.nth 6,h.nth 7,h.nth 8,h.nth 9,h.nth 10,h.nth 11,h.nth 12,h.nth 13,h.nth 14,h.nth 15⟩
theorem akH (n:Nat) (r:List Int):Bl n r=(Bj n r).bind fun h=>some (aaf h):=by kernel_rfl
end Sh
end
section
open Go Go.Proofs Aq
namespace Sh
def uJ:Nat→Int→List Int
 |0,_=>[]
 |k+1,z=>if z≥128 then (z% 128+128)::uJ k (z/128) else [z]
theorem akI {z:Int} (h0:0≤z):iQ IntKind.u8 (IntKind.wrap IntKind.u8 z) 128=z% 128+128:=by
 have h1:IntKind.wrap IntKind.u8 z=z% 256:=by rw[IntKind.wrap_u8]
 rw[h1]
 have key:∀a:Nat,a<256→iQ IntKind.u8 ((a:Nat):Int) 128=((a% 128+128:Nat):Int):=by
  intro a ha
  have:∀a:Fin 256,iQ IntKind.u8 ((a.val:Nat):Int) 128=((a.val% 128+128:Nat):Int):=by decide+kernel
  exact this ⟨a,ha⟩
 have h2:z% 256=(((z% 256).toNat:Nat):Int):=by omega
 rw[h2,key _ (by omega)]
 omega
theorem Lm {x:Int} (h0:0≤x) (h1:x<2^64):IntKind.wrap IntKind.u64 x=x:=by rw[IntKind.wrap_u64];omega
theorem aag {n:Nat}:∀(k:Nat) (z:Int) (p:List Int) (m:Nat),0≤z→z<128^k→z<2^64→p.length+k<2^20→k≤m→0<k→∃q y,Bt n m (z,p)=some (y,p++q)∧Bw n m (z,p)=some (y,p++q)∧q++[y]=uJ k z∧q.length<k∧0≤y∧y<128:=by
 intro k
 induction k with
 |zero=>intro z p m _ _ _ _ _ h;omega
 |succ k ih=>
  intro z p m h0 h1 h64 hp hm _
  obtain⟨m,rfl⟩:∃q,m=q+1:=⟨m-1,by omega⟩
  by_cases hz:z≥128
  ·have hk:0<k:=by
    rcases Nat.eq_zero_or_pos k with rfl|h
    ·have:z<128:=by simpa using h1
     omega
    ·exact h
   have hd:z/128<128^k:=by
    rw[Int.pow_succ] at h1
    exact Int.ediv_lt_of_lt_mul (by decide) h1
   obtain⟨q,y,e1,e2,e3,e4,e5⟩:=ih (z/128) (p++[z% 128+128]) m (by omega) hd (by omega) (by rw[List.length_append,List.length_singleton];omega) (by omega) hk
   obtain⟨s0,s1⟩:=akc h0
   refine⟨(z% 128+128)::q,y, ?_, ?_, ?_, ?_,e5⟩
   ·rw[ZF,decide_eq_true (show z>127 by omega),cond_true,jy (by simp;omega) (by decide),cond_true,akI h0,s1]
    rw[List.append_assoc] at e1
    exact e1
   ·rw[ZK,decide_eq_true hz,cond_true,show (!((128:Int)==0))=true from rfl,cond_true,jy (by simp;omega) (by decide),cond_true,cond_true]
    rw[Int.tmod_eq_emod_of_nonneg h0,aj9 h0,Lm (by omega) (by omega)]
    have hw:IntKind.wrap IntKind.u8 (IntKind.wrap IntKind.u8 (z% 128)+128)=z% 128+128:=by rw[IntKind.wrap_u8,IntKind.wrap_u8];omega
    rw[hw]
    rw[List.append_assoc] at e2
    exact e2
   ·rw[uJ,if_pos hz,←e3];rfl
   ·simp;omega
  ·refine⟨[],z, ?_, ?_, ?_,by simp,h0,by omega⟩
   ·rw[ZF,decide_eq_false (show¬z>127 by omega),List.append_nil];rfl
   ·rw[ZK,decide_eq_false hz,List.append_nil];rfl
   ·rw[uJ,if_neg hz];rfl
end Sh
end
section
open Go Go.Proofs Aq
namespace Sh
def rI (x:Int):Prop:= -(2^63)≤x∧x<2^63
def pz (x:Int):Int:=if x<0 then 2*(-1-x)+1 else 2*x
def encI (x:Int):List Int:=uJ 10 (pz x)
theorem R8 {x:Int} (h:rI x):0≤pz x∧pz x<2^64:=by unfold pz;unfold rI at h;split<;>omega
theorem akJ {a:Int} (h0:0≤a) (h1:a<2^64):cK IntKind.u64 a 0=a:=by
 unfold cK
 obtain⟨c,rfl⟩:∃c:Nat,a=(c:Int):=⟨a.toNat,(Int.toNat_of_nonneg h0).symm⟩
 have hc:c<2^64:=by exact_mod_cast h1
 have e:(BitVec.ofInt IntKind.u64.bits (c:Int)^^^BitVec.ofInt IntKind.u64.bits 0).toNat=c:=by
  show (BitVec.ofInt 64 (c:Int)^^^0#64).toNat=_
  rw[BitVec.xor_zero,BitVec.ofInt_natCast,BitVec.toNat_ofNat,Nat.mod_eq_of_lt hc]
 rw[e]
 exact Lm h0 h1
theorem akK {a:Int} (h0:0≤a) (h1:a<2^64):cK IntKind.u64 a (2^64-1)=2^64-1-a:=by
 unfold cK
 obtain⟨c,rfl⟩:∃c:Nat,a=(c:Int):=⟨a.toNat,(Int.toNat_of_nonneg h0).symm⟩
 have hc:c<2^64:=by exact_mod_cast h1
 have e:(BitVec.ofInt IntKind.u64.bits (c:Int)^^^BitVec.ofInt IntKind.u64.bits (2^64-1)).toNat=2^64-1-c:=by
  show (BitVec.ofInt 64 (c:Int)^^^BitVec.ofInt 64 (2^64-1)).toNat=_
  rw[show BitVec.ofInt 64 (2^64-1)=BitVec.allOnes 64 by decide,BitVec.xor_allOnes,BitVec.toNat_not,BitVec.ofInt_natCast,BitVec.toNat_ofNat,Nat.mod_eq_of_lt hc]
 rw[e,IntKind.wrap_u64]
 omega
theorem akL {x:Int} (h:rI x):cK IntKind.u64 (jM IntKind.u64 (IntKind.wrap IntKind.u64 x) 1) (IntKind.wrap IntKind.u64 (gH IntKind.i64 x 63))=pz x:=by
 obtain⟨a,b⟩:=h
 have hs:jM IntKind.u64 (IntKind.wrap IntKind.u64 x) 1=IntKind.wrap IntKind.u64 (IntKind.wrap IntKind.u64 x*2):=rfl
 have hr:gH IntKind.i64 x 63=x.fdiv (2^63):=rfl
 rw[hs,hr,Int.fdiv_eq_ediv_of_nonneg _ (by decide)]
 unfold pz
 by_cases hx:x<0
 ·rw[if_pos hx,show x/2^63= -1 by omega,show IntKind.wrap IntKind.u64 (-1)=2^64-1 by rw[IntKind.wrap_u64];decide]
  have:IntKind.wrap IntKind.u64 (IntKind.wrap IntKind.u64 x*2)=2*x+2^64:=by rw[IntKind.wrap_u64,IntKind.wrap_u64];omega
  rw[this,akK (by omega) (by omega)]
  omega
 ·rw[if_neg hx,show x/2^63=0 by omega,Lm (x:=x) (by omega) (by omega),Lm (x:=x*2) (by omega) (by omega),show IntKind.wrap IntKind.u64 0=0 by rw[IntKind.wrap_u64];decide,akJ (by omega) (by omega)]
  omega
theorem aah:∀(k:Nat) (z:Int),0≤z→iH (uJ k z)
 |0,_,_=>fun x hx=>by cases hx
 |k+1,z,h=>by
  unfold uJ
  split
  ·intro x hx
   rcases List.mem_cons.1 hx with rfl|hx
   ·omega
   ·exact aah k _ (by omega) x hx
  ·intro x hx
   rw[List.mem_singleton.1 hx];omega
theorem akM {x:Int} (h:rI x):iH (encI x):=aah 10 _ (R8 h).1
theorem aai:∀(k:Nat) (z:Int),(uJ k z).length≤k
 |0,_=>Nat.le_refl _
 |k+1,z=>by
  unfold uJ
  split
  ·rw[List.length_cons];have:=aai k (z/128);omega
  ·simp
theorem uK (x:Int):(encI x).length≤10:=aai _ _
theorem R9 {y:Int} (h0:0≤y) (h1:y<128):IntKind.wrap IntKind.u8 y=y:=by rw[IntKind.wrap_u8];omega
theorem Sb {n:Nat} {x:Int} (h:rI x) (hn:20<n):uq n x=some (encI x):=by
 obtain⟨z0,z1⟩:=R8 h
 obtain⟨q,y,e1,_,e3,e4,e5,e6⟩:=aag (n:=n) 10 (pz x) [] n z0 (Int.lt_of_lt_of_le z1 (by decide)) z1 (by decide) (by omega) (by decide)
 rw[ajP,akL h]
 show ((Bt n n (pz x,[])).bind _)=_
 rw[e1,List.nil_append,Option.bind_some]
 rw[jy (by show q.length+1<_;omega) (by decide),cond_true,R9 e5 e6,e3]
 rfl
theorem Sc {n:Nat} {x:Int} (h:rI x) (hn:20<n):uw n x=some (encI x):=by
 obtain⟨z0,z1⟩:=R8 h
 obtain⟨q,y,_,e1,e3,e4,e5,e6⟩:=aag (n:=n) 10 (pz x) [] n z0 (Int.lt_of_lt_of_le z1 (by decide)) z1 (by decide) (by omega) (by decide)
 obtain⟨a,b⟩:=h
 rw[ajT]
 by_cases hx:x<0
 ·have hz:IntKind.wrap IntKind.u64 (IntKind.wrap IntKind.u64 (IntKind.wrap IntKind.u64 (IntKind.wrap IntKind.i64 (-1-x))*2)+1)=pz x:=by
   unfold pz
   rw[if_pos hx,IntKind.wrap_i64,IntKind.wrap_u64,IntKind.wrap_u64,IntKind.wrap_u64];omega
  rw[decide_eq_true hx,cond_true,hz,e1,List.nil_append,Option.bind_some]
  rw[jy (by show q.length+1<_;omega) (by decide),cond_true,R9 e5 e6,e3]
  rfl
 ·have hz:IntKind.wrap IntKind.u64 (IntKind.wrap IntKind.u64 x*2)=pz x:=by
   unfold pz
   rw[if_neg hx,IntKind.wrap_u64,IntKind.wrap_u64];omega
  rw[decide_eq_false hx,cond_false,hz,e1,List.nil_append,Option.bind_some]
  rw[jy (by show q.length+1<_;omega) (by decide),cond_true,R9 e5 e6,e3]
  rfl
theorem gR {α:Type} {c:Bool} {o r:Option α} (h:c=true) (k:o=r):(bif c then o else none)=r:=by rw[h];exact k
def gP (s:List UInt8):List Int:=encI (s.length:Nat)++lu s
theorem Fx {k:Nat} (h:k<2^62):rI ((k:Nat):Int):=by unfold rI;omega
theorem aaj {s:List UInt8} (h:s.length<2^62):iH (gP s):=uH (akM (Fx h)) (Z6 _)
theorem akN (s:List UInt8):(gP s).length≤s.length+10:=by unfold gP;rw[List.length_append,Z7];have:=uK ((s.length:Nat):Int);omega
theorem akO {n:Nat} {s:List UInt8} (h:s.length<2^29) (hn:20<n):A9 n s=some (gP s):=by
 have hl:=uK ((s.length:Nat):Int)
 rw[ajQ]
 exact bs (Sb (Fx (by omega)) hn) (gR (jy (by rw[List.length_map];omega) (by decide)) rfl)
theorem akP {n:Nat} {s:List UInt8} (h:s.length<2^29) (hn:20<n):Bd n s=some (gP s):=by
 have hl:=uK ((s.length:Nat):Int)
 rw[ajU]
 exact bs (Sc (Fx (by omega)) hn) (gR (jy (by rw[List.length_map];omega) (by decide)) rfl)
end Sh
end
section
open Go Go.Proofs Aq
namespace Sh
def jd {α:Type} (f:α→List Int) (l:List α):Nat:=l.foldr (fun x s=>(f x).length+s) 0
theorem Lp {α:Type} (f:α→List Int):∀l:List α,(l.flatMap f).length=jd f l
 | []=>rfl
 |x::l=>by rw[List.flatMap_cons,List.length_append,Lp f l];rfl
theorem Fy {α:Type} {f:α→List Int} {b:Nat}:∀{l:List α},(∀x∈l,(f x).length≤b)→jd f l≤b*l.length
 | [],_=>Nat.zero_le _
 |x::l,h=>by
  have h1:=h x (by simp)
  have h2:=Fy (f:=f) (l:=l) fun y hy=>h y (List.mem_cons_of_mem _ hy)
  show (f x).length+jd f l≤b*(l.length+1)
  rw[Nat.mul_add,Nat.mul_one];omega
theorem akQ {n:Nat} {l:List Int} (hb:∀x∈l,rI x) (hlen:l.length<2^62) (hn:20<n):∀(k i m:Nat) (a:List Int),i+k=l.length→k<m→a.length+jd encI (l.drop i)<2^29→Fp n l m (a,(i:Int))=some (a++(l.drop i).flatMap encI):=by
 intro k
 induction k with
 |zero=>
  intro i m a hi hm hc
  obtain⟨m,rfl⟩:∃m',m=m'+1:=⟨m-1,by omega⟩
  rw[ZV,o9 (by omega),List.drop_eq_nil_of_le (by omega),List.flatMap_nil,List.append_nil];rfl
 |succ k ih=>
  intro i m a hi hm hc
  obtain⟨m,rfl⟩:∃m',m=m'+1:=⟨m-1,by omega⟩
  have hlt:i<l.length:=by omega
  have hx:l[i]? =some l[i]:=List.getElem?_eq_getElem hlt
  have hd:l.drop i=l[i]::l.drop (i+1):=List.drop_eq_getElem_cons hlt
  rw[hd] at hc⊢
  have hm':=hb l[i] (List.getElem_mem hlt)
  generalize l[i]=x at hx hc hm'⊢
  rw[ZV,o8 hx,iT hx,oh (by omega),cond_true]
  have hsz:jd encI (x::l.drop (i+1))=(encI x).length+jd encI (l.drop (i+1)):=rfl
  have h:=ih (i+1) m (a++encI x) (by omega) (by omega) (by rw[List.length_append];omega)
  rw[List.append_assoc] at h
  exact bs rfl (bs (Sb hm' hn) (gR (jy (by omega) (by decide)) h))
theorem akR {n:Nat} {l:List Int} (hb:∀x∈l,rI x) (hlen:l.length<2^62) (hn:20<n):∀(k i m:Nat) (a:List Int),i+k=l.length→k<m→a.length+jd encI (l.drop i)<2^29→Fq n l m (a,(i:Int))=some (a++(l.drop i).flatMap encI):=by
 intro k
 induction k with
 |zero=>
  intro i m a hi hm hc
  obtain⟨m,rfl⟩:∃m',m=m'+1:=⟨m-1,by omega⟩
  rw[ZW,o9 (by omega),List.drop_eq_nil_of_le (by omega),List.flatMap_nil,List.append_nil];rfl
 |succ k ih=>
  intro i m a hi hm hc
  obtain⟨m,rfl⟩:∃m',m=m'+1:=⟨m-1,by omega⟩
  have hlt:i<l.length:=by omega
  have hx:l[i]? =some l[i]:=List.getElem?_eq_getElem hlt
  have hd:l.drop i=l[i]::l.drop (i+1):=List.drop_eq_getElem_cons hlt
  rw[hd] at hc⊢
  have hm':=hb l[i] (List.getElem_mem hlt)
  generalize l[i]=x at hx hc hm'⊢
  rw[ZW,o8 hx,iT hx,oh (by omega),cond_true]
  have hsz:jd encI (x::l.drop (i+1))=(encI x).length+jd encI (l.drop (i+1)):=rfl
  have h:=ih (i+1) m (a++encI x) (by omega) (by omega) (by rw[List.length_append];omega)
  rw[List.append_assoc] at h
  exact bs rfl (bs (Sc hm' hn) (gR (jy (by omega) (by decide)) h))
def yx (l:List Int):List Int:=encI (l.length:Nat)++l.flatMap encI
theorem aak {α:Type} {f:α→List Int}:∀{l:List α},(∀x∈l,iH (f x))→iH (l.flatMap f)
 | [],_=>fun x hx=>by cases hx
 |x::l,h=>by
  rw[List.flatMap_cons]
  exact uH (h x (by simp)) (aak fun y hy=>h y (List.mem_cons_of_mem _ hy))
theorem akS {l:List Int}:(yx l).length≤10+10*l.length:=by
 unfold yx
 rw[List.length_append,Lp]
 have h1:=uK ((l.length:Nat):Int)
 have h2:=Fy (f:=encI) (b:=10) (l:=l) fun x _=>uK x
 omega
theorem akT {n:Nat} {l:List Int} (hb:∀x∈l,rI x) (hl:l.length<2^20) (hn:l.length<n) (hn2:20<n):Bn n l=some (yx l):=by
 have h1:=uK ((l.length:Nat):Int)
 have h2:=Fy (f:=encI) (b:=10) (l:=l) fun x _=>uK x
 rw[aj2]
 refine bs (?_:_=some (yx l)) rfl
 rw[aj1]
 exact bs (Sb (Fx (by omega)) hn2) (bs (akQ hb (by omega) hn2 l.length 0 n _ (by omega) hn (by rw[List.drop_zero];omega)) rfl)
theorem akU {n:Nat} {l:List Int} (hb:∀x∈l,rI x) (hl:l.length<2^20) (hn:l.length<n) (hn2:20<n):Bo n l=some (yx l):=by
 have h1:=uK ((l.length:Nat):Int)
 have h2:=Fy (f:=encI) (b:=10) (l:=l) fun x _=>uK x
 rw[aj3]
 exact bs (Sc (Fx (by omega)) hn2) (bs (akR hb (by omega) hn2 l.length 0 n _ (by omega) hn (by rw[List.drop_zero];omega)) rfl)
theorem akV (n:Nat):∃v,AX n ()=some (IV,(v,(0:Int))):=by
 rw[ajJ]
 exact⟨_,rfl⟩
theorem akW {n:Nat} {ls:List (List UInt8)} (hb:∀x∈ls,x.length<2^28) (hlen:ls.length<2^62) (hn:70<n):∀(k i m:Nat) (b:List Int) (h:Vec 8) (v:Vec 64) (c:Int),i+k=ls.length→k<m→sD b h v c→b.length+jd gP (ls.drop i)<2^28→jd gP (ls.drop i)<n→
 ∃h' v' c',Fe n ls m ((i:Int),(h,(v,c)))=some ((),(h',(v',c')))∧sD (b++(ls.drop i).flatMap gP) h' v' c':=by
 intro k
 induction k with
 |zero=>
  intro i m b h v c hi hm hs _ _
  obtain⟨m,rfl⟩:∃m',m=m'+1:=⟨m-1,by omega⟩
  refine⟨h,v,c, ?_, ?_⟩
  ·rw[ZJ,o9 (by omega)];rfl
  ·rw[List.drop_eq_nil_of_le (by omega),List.flatMap_nil,List.append_nil];exact hs
 |succ k ih=>
  intro i m b h v c hi hm hs hsz aal
  obtain⟨m,rfl⟩:∃m',m=m'+1:=⟨m-1,by omega⟩
  have hlt:i<ls.length:=by omega
  have hx:ls[i]? =some ls[i]:=List.getElem?_eq_getElem hlt
  have hd:ls.drop i=ls[i]::ls.drop (i+1):=List.drop_eq_getElem_cons hlt
  rw[hd] at hsz aal⊢
  have hm':=hb ls[i] (List.getElem_mem hlt)
  generalize ls[i]=x at hx hsz aal hm'⊢
  have e:jd gP (x::ls.drop (i+1))=(gP x).length+jd gP (ls.drop (i+1)):=rfl
  have hB:iH (gP x):=aaj (by omega)
  obtain⟨h1,v1,c1,g1,g2⟩:=R3 (n:=n) (text:=uG (gP x)) hn hs (by rw[yw];omega) (by rw[yw];omega)
  rw[RX hB] at g2
  obtain⟨h2,v2,c2,g3,g4⟩:=ih (i+1) m (b++gP x) h1 v1 c1 (by omega) (by omega) g2 (by rw[List.length_append];omega) (by omega)
  refine⟨h2,v2,c2, ?_, ?_⟩
  ·rw[ZJ,o8 hx,iT hx,oh (by omega),cond_true]
   exact bs rfl (bs (akO (by omega) (by omega)) (bs g1 g3))
  ·rw[List.flatMap_cons,←List.append_assoc];exact g4
def BI (t:Int) (ls:List (List UInt8)):List Int:=[IntKind.wrap IntKind.u8 t]++ls.flatMap gP
theorem akX (t:Int) {ls:List (List UInt8)} (hb:∀x∈ls,x.length<2^28):iH (BI t ls):=
 uH (fun x hx=>by rw[List.mem_singleton.1 hx];exact R5 t) (aak fun x hx=>aaj (by have:=hb x hx;omega))
def lC (t:Int) (ls:List (List UInt8)):aI:=aaf (Fw (BI t ls))
theorem Sd {n:Nat} {t:Int} {ls:List (List UInt8)} (hb:∀x∈ls,x.length<2^28) (hs:1+jd gP ls<2^28) (hsn:jd gP ls<n) (hl:ls.length<n) (hn:200<n) (hlen:ls.length<2^62):xW n (t,ls)=some (lC t ls):=by
 rw[ajS]
 obtain⟨v,hv⟩:=akV n
 have s0:sD [] IV v 0:=⟨0,[],[],rfl,rfl,by decide,rfl,rfl,rfl,fun x hx=>by cases hx⟩
 have hB1:iH [IntKind.wrap IntKind.u8 t]:=fun x hx=>by rw[List.mem_singleton.1 hx];exact R5 t
 obtain⟨h1,v1,c1,g1,g2⟩:=R3 (n:=n) (text:=uG [IntKind.wrap IntKind.u8 t]) (by omega) s0 (by rw[yw];simp) (by rw[yw];simp;omega)
 rw[RX hB1,List.nil_append] at g2
 obtain⟨h2,v2,c2,g3,g4⟩:=akW (n:=n) hb hlen (by omega) ls.length 0 n _ h1 v1 c1 (by omega) hl g2 (by rw[List.drop_zero,List.length_singleton];exact hs) (by rw[List.drop_zero];exact hsn)
 rw[List.drop_zero] at g4
 have g5:=akG (n:=n) g4 (by rw[List.length_append,List.length_singleton,Lp];exact hs) hn
 refine bs hv (bs g1 (bs g3 ?_))
 refine bs g5 ?_
 exact gR (by decide) (gR (by decide) rfl)
theorem akY {n:Nat} {ls:List (List UInt8)} (hb:∀x∈ls,x.length<2^28) (hlen:ls.length<2^62) (hn:20<n):∀(k i m:Nat) (a:List Int),i+k=ls.length→k<m→a.length+jd gP (ls.drop i)<2^29→Fg n ls m (a,(i:Int))=some (a++(ls.drop i).flatMap gP):=by
 intro k
 induction k with
 |zero=>
  intro i m a hi hm hc
  obtain⟨m,rfl⟩:∃m',m=m'+1:=⟨m-1,by omega⟩
  rw[ZL,o9 (by omega),List.drop_eq_nil_of_le (by omega),List.flatMap_nil,List.append_nil];rfl
 |succ k ih=>
  intro i m a hi hm hc
  obtain⟨m,rfl⟩:∃m',m=m'+1:=⟨m-1,by omega⟩
  have hlt:i<ls.length:=by omega
  have hx:ls[i]? =some ls[i]:=List.getElem?_eq_getElem hlt
  have hd:ls.drop i=ls[i]::ls.drop (i+1):=List.drop_eq_getElem_cons hlt
  rw[hd] at hc⊢
  have hm':=hb ls[i] (List.getElem_mem hlt)
  generalize ls[i]=x at hx hc hm'⊢
  rw[ZL,o8 hx,iT hx,oh (by omega),cond_true]
  have hsz:jd gP (x::ls.drop (i+1))=(gP x).length+jd gP (ls.drop (i+1)):=rfl
  have h:=ih (i+1) m (a++gP x) (by omega) (by omega) (by rw[List.length_append];omega)
  rw[List.append_assoc] at h
  exact bs rfl (bs (akP (by omega) hn) (gR (jy (by omega) (by decide)) h))
theorem rOf {n:Nat} {t:Int} {ls:List (List UInt8)} (hb:∀x∈ls,x.length<2^28) (hs:1+jd gP ls<2^28) (hsn:1+jd gP ls<n) (hl:ls.length<n) (hn:200<n) (hlen:ls.length<2^62):yg n (t,ls)=some (lC t ls):=by
 rw[aj0]
 have h1:Bf n (t,ls)=some (BI t ls):=by
  rw[ajV]
  refine bs (akY hb hlen (by omega) ls.length 0 n _ (by omega) hl (by rw[List.drop_zero,List.length_singleton];omega)) ?_
  rw[List.drop_zero];rfl
 have ao6:(BI t ls).length=1+jd gP ls:=by unfold BI;rw[List.length_append,List.length_singleton,Lp]
 have h2:Bl n (BI t ls)=some (lC t ls):=by
  rw[akH,akF (akX t hb) (by omega) (by omega) (by omega)];rfl
 exact bs h1 (bs h2 rfl)
end Sh
end
