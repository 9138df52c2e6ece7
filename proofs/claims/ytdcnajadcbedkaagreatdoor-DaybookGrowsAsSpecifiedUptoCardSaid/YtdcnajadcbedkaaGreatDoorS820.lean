/- Part of the proof of a law. -/
import Derived.IntWalk
import Derived.KernelRfl
import Derived.Test.YtdcnajadcbedkaaGreatDoorS819
set_option linter.all false
set_option linter.unusedSimpArgs false
set_option linter.unusedSectionVars false
section
open Go Go.Proofs Aq
namespace Sh
set_option linter.unusedVariables false
theorem aj1 {α:Type} (l:List α) (i:Nat):cO l (i:Int)=l[i]? :=by
 unfold cO
 by_cases h:i<l.length
 ·rw[if_pos ⟨by omega,by omega⟩];simp
 ·rw[if_neg (by omega)];simp;omega
theorem gY {α:Type} {l:List α} {i:Nat} {x:α} (h:l[i]? =some x):cO l (i:Int)=some x:=by rw[aj1,h]
theorem aj2 {α:Type} {l:List α} {i:Nat} {x:α} (h:l[i]? =some x):i<l.length:=by
 rw[List.getElem?_eq_some_iff] at h;exact h.1
theorem qg {α:Type} {l:List α} {i:Nat} {x:α} (h:l[i]? =some x):decide ((i:Int)< ((l.length:Nat):Int))=true:=by
 have:=aj2 h;simp;omega
theorem oP {i:Nat} (h:i<2^62):IntKind.wrap .i64 ((i:Int)+(1:Int))=((i+1:Nat):Int):=by
 rw[IntKind.wrap_i64];omega
theorem ZQ {α:Type} (p:α→Bool):∀l:List α,(match l.findIdx? p with|some j=>l[j]? |none=>none)=l.find? p
 | []=>rfl
 |a::l=>by
  rw[List.findIdx?_cons,List.find?_cons]
  cases hp:p a
  ·have:=ZQ p l
   simp only[Bool.false_eq_true,if_false]
   cases h:l.findIdx? p with
   |none=>rw[h] at this;simpa using this
   |some j=>rw[h] at this;simpa using this
  ·simp
theorem qh {α:Type} {l:List α} {i:Nat} (h:l.length≤i):decide ((i:Int)< ((l.length:Nat):Int))=false:=by simp;omega
theorem bs {α β:Type} {o:Option α} {a:α} {f:α→Option β} {r:Option β} (h:o=some a) (k:f a=r):o.bind f=r:=by
 rw[h];exact k
theorem aj3 {a k:Nat} (h:a<2^30) (hk:k≤2^12):dD a k=true:=by
 unfold dD
 have h1:a*k≤2^30*2^12:=Nat.mul_le_mul (Nat.le_of_lt h) hk
 have e:(2:Nat)^30*2^12≤2^47:=by decide
 rw[Bool.and_eq_true,decide_eq_true_iff,decide_eq_true_iff]
 exact⟨by omega,by omega⟩
theorem aj4 {α:Type} {c:Bool} {x d:α}:kH c (some x) d=some (bif c then x else d):=by cases c<;>rfl
theorem En {i:Nat} (h:0<i) (hb:i<2^62):IntKind.wrap .i64 ((i:Int)-(1:Int))=((i-1:Nat):Int):=by
 rw[IntKind.wrap_i64];omega
theorem aj5 {x:Int} (h:0≤x):IntKind.wrap IntKind.u64 (Int.tdiv x 128)=IntKind.wrap IntKind.u64 (x/128):=by rw[Int.tdiv_eq_ediv_of_nonneg h]
theorem bT {α:Type} {c:Bool} {a b r:Option α} (h:c=true) (k:a=r):(bif c then a else b)=r:=by rw[h];exact k
theorem bF {α:Type} {c:Bool} {a b r:Option α} (h:c=false) (k:b=r):(bif c then a else b)=r:=by rw[h];exact k
end Sh
end
section
open Go Go.Proofs Aq
namespace Sh
theorem jP {i:Int} {n:Nat} (h:0≤i∧i<n):bq i n=true:=decide_eq_true h
theorem Eo {i:Int} {n:Nat} (h:0≤i∧i≤n):fI i n=true:=decide_eq_true h
def rotl (x k:Int):Int:=iM IntKind.u32 (jF IntKind.u32 x (fA IntKind.u64 (IntKind.wrap IntKind.u64 k) 31)) (iW IntKind.u32 x (IntKind.wrap IntKind.u64 (32-fA IntKind.u64 (IntKind.wrap IntKind.u64 k) 31)))
theorem ZR (x:Int):0≤IntKind.wrap IntKind.u64 x:=by rw[IntKind.wrap_u64];exact Int.emod_nonneg _ (by decide)
theorem xJ (n:Nat) (x k:Int):qd n (x,k)=some (rotl x k):=by
 rw[ajG,decide_eq_true (show (0:Int)≤fA IntKind.u64 (IntKind.wrap IntKind.u64 k) 31 from ZR _),decide_eq_true (ZR _)]
 rfl
def vN (x a b c:Int):Int:=bX IntKind.u32 (bX IntKind.u32 (rotl x (IntKind.wrap IntKind.i64 (0-a))) (rotl x (IntKind.wrap IntKind.i64 (0-b)))) (rotl x (IntKind.wrap IntKind.i64 (0-c)))
theorem ZT (n:Nat) (x a b c:Int):xB n (x,(a,(b,c)))=some (vN x a b c):=by
 rw[ajI,xJ,xJ,xJ]
 rfl
theorem oQ {i:Int} (h0:0≤i) (h:i<2^62):IntKind.wrap .i64 (i+(1:Int))=i+1:=by rw[IntKind.wrap_i64];omega
theorem fO {i:Int} (h0: -(2^62)≤i) (h:i<2^62):IntKind.wrap .i64 i=i:=by rw[IntKind.wrap_i64];omega
end Sh
end
section
open Go Go.Proofs Aq
namespace Sh
theorem aj6 {a k:Nat} (h:a<2^30) (hk:k≤2^12):dD a k=true:=aj3 h hk
theorem aj7 {x:Int} (h0:0≤x):0≤iW IntKind.u64 x 7∧iW IntKind.u64 x 7=x/128:=by
 have e:iW IntKind.u64 x 7=x.fdiv (2^7):=rfl
 rw[e,Int.fdiv_eq_ediv_of_nonneg x (by decide)]
 exact⟨Int.ediv_nonneg h0 (by decide),rfl⟩
end Sh
end
section
open Go Go.Proofs Aq
namespace Sh
theorem aj8 (k:IntKind) (a b:Int):iM k a b=iM k b a:=by unfold iM;rw[BitVec.or_comm]
theorem aj9 (k:IntKind) (a b:Int):bX k a b=bX k b a:=by unfold bX;rw[BitVec.xor_comm]
def gZ (x k:Int):Int:=iM IntKind.u32 (iW IntKind.u32 x k) (jF IntKind.u32 x (IntKind.wrap IntKind.i64 (32-k)))
theorem rQ (n:Nat) (x k:Int) (h0:0≤k) (h1:k≤32):mZ n (x,k)=some (gZ x k):=by
 rw[ajT,decide_eq_true h0,cond_true,decide_eq_true (by rw[fO (by omega) (by omega)];omega:(0:Int)≤IntKind.wrap IntKind.i64 (32-k))]
 rfl
theorem rU {x k j i:Int} (h1:fA IntKind.u64 (IntKind.wrap IntKind.u64 k) 31=i) (h2:IntKind.wrap IntKind.u64 (32-i)=j) (h3:IntKind.wrap IntKind.i64 (32-j)=i):rotl x k=gZ x j:=by
 unfold rotl gZ
 rw[h1,h2,h3,aj8]
theorem ZU (x:Int) {a b c:Int} (ha:rotl x (IntKind.wrap IntKind.i64 (0-a))=gZ x a) (hb:rotl x (IntKind.wrap IntKind.i64 (0-b))=gZ x b) (hc:rotl x (IntKind.wrap IntKind.i64 (0-c))=gZ x c):
 vN x a b c=bX IntKind.u32 (bX IntKind.u32 (gZ x a) (gZ x b)) (gZ x c):=by
 unfold vN;rw[ha,hb,hc]
theorem akb (x:Int):vN x 6 11 25=bX IntKind.u32 (bX IntKind.u32 (gZ x 6) (gZ x 11)) (gZ x 25):=
 ZU x (rU (i:=26) (by decide) (by decide) (by decide)) (rU (i:=21) (by decide) (by decide) (by decide)) (rU (i:=7) (by decide) (by decide) (by decide))
theorem akc (x:Int):vN x 2 13 22=bX IntKind.u32 (bX IntKind.u32 (gZ x 2) (gZ x 13)) (gZ x 22):=
 ZU x (rU (i:=30) (by decide) (by decide) (by decide)) (rU (i:=19) (by decide) (by decide) (by decide)) (rU (i:=10) (by decide) (by decide) (by decide))
theorem akd (x:Int):rotl x (-7)=gZ x 7:=rU (i:=25) (by decide) (by decide) (by decide)
theorem ake (x:Int):rotl x (-18)=gZ x 18:=rU (i:=14) (by decide) (by decide) (by decide)
theorem akf (x:Int):rotl x (-17)=gZ x 17:=rU (i:=15) (by decide) (by decide) (by decide)
theorem akg (x:Int):rotl x (-19)=gZ x 19:=rU (i:=13) (by decide) (by decide) (by decide)
theorem Kj {a b:Int} (k:Nat) (ha0:0≤a) (ha:a% 2^k=0) (ha1:a<2^32) (hb0:0≤b) (hb1:b<2^k) (hk:k≤32):iM IntKind.u32 a b=a+b:=by
 obtain⟨c,rfl⟩:∃c:Nat,a=((c*2^k:Nat):Int):=by
  refine⟨(a/2^k).toNat, ?_⟩
  have h1:=Int.mul_ediv_add_emod a (2^k)
  rw[ha,Int.add_zero] at h1
  have h2:0≤a/2^k:=Int.ediv_nonneg ha0 (Int.pow_nonneg (by decide))
  rw[Int.natCast_mul,Int.toNat_of_nonneg h2,Int.mul_comm]
  push_cast
  exact h1.symm
 obtain⟨d,rfl⟩:∃d:Nat,b=(d:Int):=⟨b.toNat,(Int.toNat_of_nonneg hb0).symm⟩
 have hd:d<2^k:=by exact_mod_cast hb1
 have hkk:2^k≤2^32:=Nat.pow_le_pow_right (by decide) hk
 have hc:c*2^k<2^32:=by exact_mod_cast ha1
 have hsum:c*2^k|||d=c*2^k+d:=by
  rw[←Nat.shiftLeft_eq,Nat.shiftLeft_add_eq_or_of_lt hd]
 have hlt:c*2^k|||d<2^32:=Nat.or_lt_two_pow hc (by omega)
 unfold iM
 have e1:(BitVec.ofInt IntKind.u32.bits ((c*2^k:Nat):Int)|||BitVec.ofInt IntKind.u32.bits ((d:Nat):Int)).toNat=c*2^k+d:=by
  rw[BitVec.toNat_or]
  simp only[BitVec.ofInt_natCast,BitVec.toNat_ofNat]
  show (c*2^k)% 2^32|||d% 2^32=_
  rw[Nat.mod_eq_of_lt hc,Nat.mod_eq_of_lt (by omega),hsum]
 rw[e1,IntKind.wrap_u32]
 have:c*2^k+d<2^32:=by omega
 omega
end Sh
end
section
open Go Go.Proofs Aq
namespace Sh
theorem akh {n:Nat} {v w:Vec n} (h:v.l=w.l):v=w:=by cases v;cases w;cases h;rfl
theorem at_set {n:Nat} (v:Vec n) {i:Int} (y:Int) (h0:0≤i) (h1:i<n):(v.set i y).at' i=y:=by
 show (v.l.set i.toNat y).getD i.toNat 0=y
 rw[List.getD_eq_getElem?_getD,List.getElem?_set_self (by rw[v.h];omega)];rfl
theorem aki {n:Nat} (v:Vec n) {i j:Int} (y:Int) (h0:0≤i) (h1:0≤j) (h:i≠j):(v.set i y).at' j=v.at' j:=by
 show (v.l.set i.toNat y).getD j.toNat 0=v.l.getD j.toNat 0
 rw[List.getD_eq_getElem?_getD,List.getElem?_set_ne (by omega),List.getD_eq_getElem?_getD]
theorem QN {n:Nat} (v:Vec n) (i a b:Int):(v.set i a).set i b=v.set i b:=akh (List.set_set ..)
def iB (l:List Int):Prop:=∀x∈l,0≤x∧x<256
theorem Kk {l:List Int} (h:iB l) (i:Nat):0≤l.getD i 0∧l.getD i 0<256:=by
 rw[List.getD_eq_getElem?_getD]
 cases hi:l[i]? with
 |none=>exact⟨Int.le_refl _,by decide⟩
 |some x=>exact h x (List.mem_of_getElem? hi)
theorem wrap32 {x:Int} (h0:0≤x) (h1:x<2^32):IntKind.wrap IntKind.u32 x=x:=by rw[IntKind.wrap_u32];omega
def QO (a b c d:Int):Int:=iM IntKind.u32 (iM IntKind.u32 (iM IntKind.u32 (jF IntKind.u32 (IntKind.wrap IntKind.u32 a) 24) (jF IntKind.u32 (IntKind.wrap IntKind.u32 b) 16)) (jF IntKind.u32 (IntKind.wrap IntKind.u32 c) 8)) (IntKind.wrap IntKind.u32 d)
theorem Kl {x:Int} (k:Nat) (h0:0≤x) (h1:x*2^k<2^32) (hk:k≤32):jF IntKind.u32 x (k:Nat)=x*2^k:=by
 unfold jF
 have:min (((k:Nat):Int)).toNat IntKind.u32.bits=k:=by show min (((k:Nat):Int)).toNat 32=k;rw[Int.toNat_natCast];omega
 rw[this,wrap32 (Int.mul_nonneg h0 (Int.pow_nonneg (by decide))) h1]
theorem akj {a b c d:Int} (ha:0≤a∧a<256) (hb:0≤b∧b<256) (hc:0≤c∧c<256) (hd:0≤d∧d<256):QO a b c d=a*2^24+b*2^16+c*2^8+d:=by
 unfold QO
 rw[wrap32 (by omega) (by omega),wrap32 (by omega) (by omega),wrap32 (by omega) (by omega),wrap32 (by omega) (by omega)]
 rw[show jF IntKind.u32 a 24=a*2^24 from Kl 24 (by omega) (by omega) (by decide),show jF IntKind.u32 b 16=b*2^16 from Kl 16 (by omega) (by omega) (by decide),show jF IntKind.u32 c 8=c*2^8 from Kl 8 (by omega) (by omega) (by decide)]
 have h1:iM IntKind.u32 (a*2^24) (b*2^16)=a*2^24+b*2^16:=Kj 24 (by omega) (by omega) (by omega) (by omega) (by omega) (by decide)
 have h2:iM IntKind.u32 (a*2^24+b*2^16) (c*2^8)=a*2^24+b*2^16+c*2^8:=Kj 16 (by omega) (by omega) (by omega) (by omega) (by omega) (by decide)
 have h3:iM IntKind.u32 (a*2^24+b*2^16+c*2^8) d=a*2^24+b*2^16+c*2^8+d:=Kj 8 (by omega) (by omega) (by omega) (by omega) (by omega) (by decide)
 rw[h1,h2,h3]
theorem Km {x d:Int} (h0:0≤x) (h1:x<2^24) (hd:0≤d∧d<256):iM IntKind.u32 (jF IntKind.u32 x 8) (IntKind.wrap IntKind.u32 d)=x*256+d:=by
 rw[wrap32 (by omega) (by omega),show jF IntKind.u32 x 8=x*2^8 from Kl 8 (by omega) (by omega) (by decide),Kj 8 (by omega) (by omega) (by omega) (by omega) (by omega) (by decide)];omega
def QS (x:List Int) (i:Int):Int:=QO (x.getD (4*i.toNat) 0) (x.getD (4*i.toNat+1) 0) (x.getD (4*i.toNat+2) 0) (x.getD (4*i.toNat+3) 0)
theorem akk {n m:Nat} {x1:List Int} {i:Int} (h:x1.length=64) (h0:0≤i) (h1:i<16) (hb:iB x1) (v:Vec 64) (hv:v.at' i=0):xH n x1 i (m+5) (0,v)=some ((),v.set i (QS x1 i)):=by
 have hl:List.drop (Int.toNat (IntKind.wrap IntKind.i64 (4*i))) (List.take (Int.toNat (IntKind.wrap IntKind.i64 (IntKind.wrap IntKind.i64 (4*i)+4))) x1)=[x1.getD (4*i.toNat) 0,x1.getD (4*i.toNat+1) 0,x1.getD (4*i.toNat+2) 0,x1.getD (4*i.toNat+3) 0]:=by
  rw[fO (i:=4*i) (by omega) (by omega),fO (by omega) (by omega)]
  apply List.ext_getElem?
  intro j
  rw[List.getElem?_drop]
  by_cases hj:j<4
  ·rw[List.getElem?_take_of_lt (by omega)]
   have e:(4*i).toNat+j=4*i.toNat+j:=by omega
   rw[e]
   have hg:∀k,k<64→x1[k]? =some (x1.getD k 0):=fun k hk=>by rw[List.getD_eq_getElem?_getD,List.getElem?_eq_getElem (by omega)];rfl
   rw[hg _ (by omega)]
   rcases j with _|_|_|_|j
   all_goals first| (exact absurd hj (by omega))|rfl
  ·rw[List.getElem?_eq_none (by rw[List.length_take];omega),List.getElem?_eq_none (by simp;omega)]
 have ba:=Kk hb (4*i.toNat)
 have bb:=Kk hb (4*i.toNat+1)
 have bc:=Kk hb (4*i.toNat+2)
 have bd:=Kk hb (4*i.toNat+3)
 unfold QS
 generalize x1.getD (4*i.toNat) 0=a at hl ba⊢
 generalize x1.getD (4*i.toNat+1) 0=b at hl bb⊢
 generalize x1.getD (4*i.toNat+2) 0=c at hl bc⊢
 generalize x1.getD (4*i.toNat+3) 0=d at hl bd⊢
 have hin:bq i 64=true:=jP ⟨h0,by omega⟩
 have st:∀(m:Nat) (x4:Int) (x5:Vec 64) (y:Int),cO [a,b,c,d] x4=some y→0≤x4→x4<4→xH n x1 i (m+1) (x4,x5)=xH n x1 i m (x4+1,x5.set i (iM IntKind.u32 (jF IntKind.u32 (x5.at' i) 8) (IntKind.wrap IntKind.u32 y))):=by
  intro m x4 x5 y hy k0 k1
  rw[Zv,hl,decide_eq_true (show x4< (([a,b,c,d]:List Int).length:Nat) by simp;omega),hy,hin,oQ k0 (by omega)]
  rfl
 rw[st (m+4) 0 v a rfl (by decide) (by decide),st (m+3) (0+1) _ b rfl (by decide) (by decide),st (m+2) (0+1+1) _ c rfl (by decide) (by decide),st (m+1) (0+1+1+1) _ d rfl (by decide) (by decide)]
 rw[Zv,hl]
 rw[hv,at_set _ _ h0 (by show i<64;omega),at_set _ _ h0 (by show i<64;omega),at_set _ _ h0 (by show i<64;omega),QN,QN,QN]
 have e1:=Km (x:=0) (d:=a) (by decide) (by decide) ba
 rw[e1,Km (by omega) (by omega) bb,Km (by omega) (by omega) bc,Km (by omega) (by omega) bd,akj ba bb bc bd]
 have e2:(((0*256+a)*256+b)*256+c)*256+d=a*2^24+b*2^16+c*2^8+d:=by omega
 rw[e2]
 rfl
end Sh
end
section
open Go Go.Proofs Aq
namespace Sh
def Kn (w:Vec 64) (i:Int):Vec 64:=w.set i (IntKind.wrap IntKind.u32 (IntKind.wrap IntKind.u32 (IntKind.wrap IntKind.u32 (w.at' (i-16)+bX IntKind.u32 (bX IntKind.u32 (gZ (w.at' (i-15)) 7) (gZ (w.at' (i-15)) 18)) (iW IntKind.u32 (w.at' (i-15)) 3))+w.at' (i-7))+
 bX IntKind.u32 (bX IntKind.u32 (gZ (w.at' (i-2)) 17) (gZ (w.at' (i-2)) 19)) (iW IntKind.u32 (w.at' (i-2)) 10)))
def Ko (x:List Int) (w:Vec 64) (i:Int):Vec 64:=w.set i (QS x i)
def jQ {α:Type} (f:α→Int→α):Nat→Int→α→α
 |0,_,w=>w
 |k+1,i,w=>jQ f k (i+1) (f w i)
def xK (x:List Int):Vec 64:=jQ Kn 48 16 (jQ (Ko x) 16 0 (Vec.rep 64 0))
theorem hS2 {n:Nat} {x:List Int}:∀(k:Nat) (i:Int) (w:Vec 64) (m:Nat),i+k=64→16≤i→k<m→xI n x m (i,w)=some ((),jQ Kn k i w):=by
 intro k
 induction k with
 |zero=>
  intro i w m hi h16 hm
  obtain⟨m,rfl⟩:∃q,m=q+1:=⟨m-1,by omega⟩
  rw[QK,decide_eq_false (by omega)];rfl
 |succ k ih=>
  intro i w m hi h16 hm
  obtain⟨m,rfl⟩:∃q,m=q+1:=⟨m-1,by omega⟩
  rw[QK,decide_eq_true (show i<64 by omega),decide_eq_false (show¬i<16 by omega),cond_true,cond_false]
  rw[fO (i:=i-15) (by omega) (by omega),fO (i:=i-2) (by omega) (by omega),fO (i:=i-16) (by omega) (by omega),fO (i:=i-7) (by omega) (by omega),oQ (by omega) (by omega)]
  rw[jP (i:=i-15) ⟨by omega,by omega⟩,jP (i:=i-2) ⟨by omega,by omega⟩,jP (i:=i-16) ⟨by omega,by omega⟩,jP (i:=i-7) ⟨by omega,by omega⟩,jP (i:=i) ⟨by omega,by omega⟩]
  rw[xJ,xJ,xJ,xJ,akd,ake,akf,akg]
  exact ih (i+1) _ m (by omega) (by omega) (by omega)
theorem hS1 {n:Nat} {x:List Int} (hx:x.length=64) (hb:iB x) (hn:60<n):∀(k:Nat) (i:Int) (w:Vec 64) (m:Nat),i+k=16→0≤i→(∀j,i≤j→w.at' j=0)→k+48<m→xI n x m (i,w)=some ((),jQ Kn 48 16 (jQ (Ko x) k i w)):=by
 intro k
 induction k with
 |zero=>
  intro i w m hi h0 hw hm
  obtain rfl:i=16:=by omega
  exact hS2 48 16 w m (by decide) (by decide) (by omega)
 |succ k ih=>
  intro i w m hi h0 hw hm
  obtain⟨m,rfl⟩:∃q,m=q+1:=⟨m-1,by omega⟩
  rw[QK,decide_eq_true (show i<64 by omega),decide_eq_true (show i<16 by omega),cond_true,cond_true]
  rw[fO (i:=4*i) (by omega) (by omega),fO (i:=4*i+4) (by omega) (by omega),oQ (by omega) (by omega)]
  rw[Eo (i:=4*i+4) ⟨by omega,by omega⟩,Eo (i:=4*i) ⟨by omega,by omega⟩,Bool.and_self,cond_true]
  obtain⟨q,rfl⟩:∃q,n=q+5:=⟨n-5,by omega⟩
  rw[akk hx h0 (by omega) hb w (hw i (Int.le_refl _))]
  exact ih (i+1) _ m (by omega) (by omega) (fun j hj=>by rw[aki _ _ h0 (by omega) (by omega)];exact hw j (by omega)) (by omega)
theorem akl {n:Nat} {x:List Int} (hx:x.length=64) (hb:iB x) (hn:70<n):Aa n x=some (xK x):=by
 rw[ajH]
 have h:=hS1 (n:=n) hx hb (by omega) 16 0 (Vec.rep 64 0) n (by decide) (by decide) (fun j _=>by
  show (List.replicate 64 (0:Int)).getD j.toNat 0=0
  rw[List.getD_eq_getElem?_getD,List.getElem?_replicate]
  split<;>rfl) (by omega)
 rw[h];rfl
theorem rS1 {n:Nat} {x:List Int} (hx:x.length=64):∀(k:Nat) (i:Int) (w:Vec 64) (m:Nat),i+k=16→0≤i→k<m→Ej n x m (i,w)=some ((),jQ (Ko x) k i w):=by
 intro k
 induction k with
 |zero=>
  intro i w m hi h0 hm
  obtain⟨m,rfl⟩:∃q,m=q+1:=⟨m-1,by omega⟩
  rw[ZI,decide_eq_false (by omega)];rfl
 |succ k ih=>
  intro i w m hi h0 hm
  obtain⟨m,rfl⟩:∃q,m=q+1:=⟨m-1,by omega⟩
  have hg:∀k:Nat,k<64→cO x ((k:Nat):Int)=some (x.getD k 0):=fun k hk=>by
   unfold cO
   rw[if_pos ⟨by omega,by omega⟩,Int.toNat_natCast,List.getD_eq_getElem?_getD,List.getElem?_eq_getElem (by omega)];rfl
  rw[ZI,decide_eq_true (show i<16 by omega),cond_true]
  rw[fO (i:=4*i) (by omega) (by omega),fO (i:=4*i+1) (by omega) (by omega),fO (i:=4*i+2) (by omega) (by omega),fO (i:=4*i+3) (by omega) (by omega),oQ (by omega) (by omega)]
  rw[show (4*i:Int)=((4*i.toNat:Nat):Int) by omega,hg _ (by omega),show ((4*i.toNat:Nat):Int)+1=((4*i.toNat+1:Nat):Int) by omega,hg _ (by omega),show ((4*i.toNat:Nat):Int)+2=((4*i.toNat+2:Nat):Int) by omega,hg _ (by omega),show ((4*i.toNat:Nat):Int)+3=((4*i.toNat+3:Nat):Int) by omega,hg _ (by omega)]
  rw[jP (i:=i) ⟨by omega,by omega⟩]
  exact ih (i+1) _ m (by omega) (by omega) (by omega)
theorem rS2 {n:Nat}:∀(k:Nat) (i:Int) (w:Vec 64) (m:Nat),i+k=64→16≤i→k<m→AP n m (i,w)=some ((),jQ Kn k i w):=by
 intro k
 induction k with
 |zero=>
  intro i w m hi h16 hm
  obtain⟨m,rfl⟩:∃q,m=q+1:=⟨m-1,by omega⟩
  rw[ZJ,decide_eq_false (by omega)];rfl
 |succ k ih=>
  intro i w m hi h16 hm
  obtain⟨m,rfl⟩:∃q,m=q+1:=⟨m-1,by omega⟩
  rw[ZJ,decide_eq_true (show i<64 by omega),cond_true]
  rw[fO (i:=i-15) (by omega) (by omega),fO (i:=i-2) (by omega) (by omega),fO (i:=i-16) (by omega) (by omega),fO (i:=i-7) (by omega) (by omega),oQ (by omega) (by omega)]
  rw[jP (i:=i-15) ⟨by omega,by omega⟩,jP (i:=i-2) ⟨by omega,by omega⟩,jP (i:=i-16) ⟨by omega,by omega⟩,jP (i:=i-7) ⟨by omega,by omega⟩,jP (i:=i) ⟨by omega,by omega⟩]
  rw[rQ _ _ _ (by decide) (by decide),rQ _ _ _ (by decide) (by decide),rQ _ _ _ (by decide) (by decide),rQ _ _ _ (by decide) (by decide)]
  exact ih (i+1) _ m (by omega) (by omega) (by omega)
theorem ako {n:Nat} {x:List Int} (hx:x.length=64) (hn:70<n):Am n x=some (xK x):=by
 rw[ajU,rS1 hx 16 0 (Vec.rep 64 0) n (by decide) (by decide) (by omega)]
 show (AP n n (16,jQ (Ko x) 16 0 (Vec.rep 64 0))).bind _=_
 rw[rS2 48 16 _ n (by decide) (by decide) (by omega)];rfl
end Sh
end
section
open Go Go.Proofs Aq
namespace Sh
def tF (h a b c k w:Int):Int:=IntKind.wrap IntKind.u32 (IntKind.wrap IntKind.u32 (IntKind.wrap IntKind.u32 (IntKind.wrap IntKind.u32 (h+bX IntKind.u32 (bX IntKind.u32 (gZ a 6) (gZ a 11)) (gZ a 25))+bX IntKind.u32 (fA IntKind.u32 a b) (fA IntKind.u32 (bX IntKind.u32 a 4294967295) c))+k)+w)
def uF (a b c:Int):Int:=IntKind.wrap IntKind.u32 (bX IntKind.u32 (bX IntKind.u32 (gZ a 2) (gZ a 13)) (gZ a 22)+bX IntKind.u32 (bX IntKind.u32 (fA IntKind.u32 a b) (fA IntKind.u32 a c)) (fA IntKind.u32 b c))
def Ep (w:Vec 64) (s:Vec 8) (i:Int):Vec 8:=
 Vec.lit 8 [IntKind.wrap IntKind.u32 (tF (s.at' 7) (s.at' 4) (s.at' 5) (s.at' 6) (rM.at' i) (w.at' i)+uF (s.at' 0) (s.at' 1) (s.at' 2)),s.at' 0,s.at' 1,s.at' 2,IntKind.wrap IntKind.u32 (s.at' 3+tF (s.at' 7) (s.at' 4) (s.at' 5) (s.at' 6) (rM.at' i) (w.at' i)),s.at' 4,s.at' 5,s.at' 6]
def QT (v s:Vec 8) (i:Int):Vec 8:=s.set i (IntKind.wrap IntKind.u32 (s.at' i+v.at' i))
def ZV (v e:Vec 4) (s:Vec 8) (i:Int):Vec 8:=(s.set i (IntKind.wrap IntKind.u32 (s.at' i+v.at' i))).set (i+4) (IntKind.wrap IntKind.u32 ((s.set i (IntKind.wrap IntKind.u32 (s.at' i+v.at' i))).at' (i+4)+e.at' i))
def cat (v e:Vec 4):Vec 8:=Vec.lit 8 (v.l++e.l)
theorem Kq (v:Vec 4):∃a b c d,v=Vec.lit 4 [a,b,c,d]:=by
 obtain⟨l,h⟩:=v
 match l,h with
 | [a,b,c,d],_=>exact⟨a,b,c,d,rfl⟩
theorem ZW (v:Vec 8):∃a b c d e f g h,v=Vec.lit 8 [a,b,c,d,e,f,g,h]:=by
 obtain⟨l,hl⟩:=v
 match l,hl with
 | [a,b,c,d,e,f,g,h],_=>exact⟨a,b,c,d,e,f,g,h,rfl⟩
theorem add_eq (v e:Vec 4) (s:Vec 8):jQ (ZV v e) 4 0 s=jQ (QT (cat v e)) 8 0 s:=by
 obtain⟨a,b,c,d,rfl⟩:=Kq v
 obtain⟨a',b',c',d',rfl⟩:=Kq e
 obtain⟨s0,s1,s2,s3,s4,s5,s6,s7,rfl⟩:=ZW s
 kernel_rfl
theorem akp (s:Vec 8):cat (s.slc 0 4) (s.slc 4 4)=s:=by
 obtain⟨s0,s1,s2,s3,s4,s5,s6,s7,rfl⟩:=ZW s
 kernel_rfl
def rV (h:Vec 8) (x:List Int):Vec 8:=jQ (QT (jQ (Ep (xK x)) 64 0 h)) 8 0 h
theorem rR {n:Nat} {r2:List Int} {x3:Int} {x4:Vec 8} {w:Vec 64}:∀(k:Nat) (i:Int) (s:Vec 8) (m:Nat),i+k=64→0≤i→k<m→AQ n r2 x3 x4 w m (i,s)=some ((),jQ (Ep w) k i s):=by
 intro k
 induction k with
 |zero=>
  intro i s m hi h0 hm
  obtain⟨m,rfl⟩:∃q,m=q+1:=⟨m-1,by omega⟩
  rw[ZK,decide_eq_false (by omega)];rfl
 |succ k ih=>
  intro i s m hi h0 hm
  obtain⟨m,rfl⟩:∃q,m=q+1:=⟨m-1,by omega⟩
  rw[ZK,decide_eq_true (show i<64 by omega),cond_true,jP (i:=i) (n:=64) ⟨by omega,by omega⟩,oQ (by omega) (by omega)]
  rw[rQ _ _ _ (by decide) (by decide),rQ _ _ _ (by decide) (by decide),rQ _ _ _ (by decide) (by decide),rQ _ _ _ (by decide) (by decide),rQ _ _ _ (by decide) (by decide),rQ _ _ _ (by decide) (by decide)]
  exact ih (i+1) _ m (by omega) (by omega) (by omega)
theorem akq (w:Vec 64) (v e:Vec 4) (i:Int):cat (Vec.lit 4 [IntKind.wrap IntKind.u32 (IntKind.wrap IntKind.u32 (IntKind.wrap IntKind.u32 (IntKind.wrap IntKind.u32 (IntKind.wrap IntKind.u32 (e.at' 3+vN (e.at' 0) 6 11 25)+bX IntKind.u32 (fA IntKind.u32 (e.at' 0) (e.at' 1)) (fA IntKind.u32 (bX IntKind.u32 4294967295 (e.at' 0)) (e.at' 2)))+rM.at' i)+w.at' i)+IntKind.wrap IntKind.u32 (vN (v.at' 0) 2 13 22+bX IntKind.u32 (bX IntKind.u32 (fA IntKind.u32 (v.at' 0) (v.at' 1)) (fA IntKind.u32 (v.at' 0) (v.at' 2))) (fA IntKind.u32 (v.at' 1) (v.at' 2)))),v.at' 0,v.at' 1,v.at' 2])
 (Vec.lit 4 [IntKind.wrap IntKind.u32 (v.at' 3+IntKind.wrap IntKind.u32 (IntKind.wrap IntKind.u32 (IntKind.wrap IntKind.u32 (IntKind.wrap IntKind.u32 (e.at' 3+vN (e.at' 0) 6 11 25)+bX IntKind.u32 (fA IntKind.u32 (e.at' 0) (e.at' 1)) (fA IntKind.u32 (bX IntKind.u32 4294967295 (e.at' 0)) (e.at' 2)))+rM.at' i)+w.at' i)),e.at' 0,e.at' 1,e.at' 2])=Ep w (cat v e) i:=by
 obtain⟨a,b,c,d,rfl⟩:=Kq v
 obtain⟨a',b',c',d',rfl⟩:=Kq e
 rw[akb,akc,aj9 IntKind.u32 4294967295]
 rfl
theorem hR {n:Nat} {x1:Vec 8} {w:Vec 64}:∀(k:Nat) (i:Int) (v e:Vec 4) (m:Nat),i+k=64→0≤i→k<m→∃v' e',Aw n x1 w m (i,(v,e))=some ((),(v',e'))∧cat v' e'=jQ (Ep w) k i (cat v e):=by
 intro k
 induction k with
 |zero=>
  intro i v e m hi h0 hm
  obtain⟨m,rfl⟩:∃q,m=q+1:=⟨m-1,by omega⟩
  refine⟨v,e, ?_,rfl⟩
  rw[Zw,decide_eq_false (by omega)];rfl
 |succ k ih=>
  intro i v e m hi h0 hm
  obtain⟨m,rfl⟩:∃q,m=q+1:=⟨m-1,by omega⟩
  obtain⟨v',e',h1,h2⟩:=ih (i+1) _ _ m (by omega) (by omega) (by omega)
  rw[akq] at h2
  refine⟨v',e', ?_,h2⟩
  rw[Zw,decide_eq_true (show i<64 by omega),cond_true,jP (i:=i) (n:=64) ⟨by omega,by omega⟩,oQ (by omega) (by omega),ZT,ZT]
  exact h1
theorem rA {n:Nat} {r2:List Int} {x3:Int} {v:Vec 8}:∀(k:Nat) (i:Int) (s:Vec 8) (m:Nat),i+k=8→0≤i→k<m→AU n r2 x3 ((),v) m (i,s)=some ((),jQ (QT v) k i s):=by
 intro k
 induction k with
 |zero=>
  intro i s m hi h0 hm
  obtain⟨m,rfl⟩:∃q,m=q+1:=⟨m-1,by omega⟩
  rw[ZL,decide_eq_false (by omega)];rfl
 |succ k ih=>
  intro i s m hi h0 hm
  obtain⟨m,rfl⟩:∃q,m=q+1:=⟨m-1,by omega⟩
  rw[ZL,decide_eq_true (show i<8 by omega),cond_true,jP (i:=i) (n:=8) ⟨by omega,by omega⟩,oQ (by omega) (by omega)]
  exact ih (i+1) _ m (by omega) (by omega) (by omega)
theorem hA {n:Nat} {v e:Vec 4}:∀(k:Nat) (i:Int) (s:Vec 8) (m:Nat),i+k=4→0≤i→k<m→Ay n ((),(v,e)) m (i,s)=some ((),jQ (ZV v e) k i s):=by
 intro k
 induction k with
 |zero=>
  intro i s m hi h0 hm
  obtain⟨m,rfl⟩:∃q,m=q+1:=⟨m-1,by omega⟩
  rw[Zx,decide_eq_false (by omega)];rfl
 |succ k ih=>
  intro i s m hi h0 hm
  obtain⟨m,rfl⟩:∃q,m=q+1:=⟨m-1,by omega⟩
  rw[Zx,decide_eq_true (show i<4 by omega),cond_true,jP (i:=i) (n:=8) ⟨by omega,by omega⟩,jP (i:=i) (n:=4) ⟨by omega,by omega⟩,oQ (by omega) (by omega),fO (i:=i+4) (by omega) (by omega),jP (i:=i+4) (n:=8) ⟨by omega,by omega⟩]
  exact ih (i+1) _ m (by omega) (by omega) (by omega)
theorem hcomp {n:Nat} {h:Vec 8} {x:List Int} (hx:x.length=64) (hb:iB x) (hn:70<n):Ab n (h,x)=some (rV h x):=by
 rw[ajJ,akl hx hb hn]
 obtain⟨v',e',h1,h2⟩:=hR (n:=n) (x1:=h) (w:=xK x) 64 0 (h.slc 0 4) (h.slc 4 4) n (by decide) (by decide) (by omega)
 show ((Aw n h (xK x) n (0,(h.slc 0 4,h.slc 4 4))).bind _)=_
 rw[h1]
 show ((Ay n ((),(v',e')) n (0,h)).bind _)=_
 rw[hA 4 0 h n (by decide) (by decide) (by omega),add_eq,h2,akp]
 rfl
end Sh
end
section
open Go Go.Proofs Aq
namespace Sh
def tX:Nat→Vec 8→List Int→Vec 8
 |0,h,_=>h
 |k+1,h,l=>tX k (rV h (l.take 64)) (l.drop 64)
theorem akr:∀(q:Nat) (h:Vec 8) (d b:List Int),d.length=64*q→b.length=64→tX (q+1) h (d++b)=rV (tX q h d) b:=by
 intro q
 induction q with
 |zero=>
  intro h d b hd hb
  obtain rfl:d=[]:=List.eq_nil_of_length_eq_zero (by omega)
  show rV h (b.take 64)=rV h b
  rw[List.take_of_length_le (by omega)]
 |succ q ih=>
  intro h d b hd hb
  show tX (q+1) (rV h ((d++b).take 64)) ((d++b).drop 64)=rV (tX q (rV h (d.take 64)) (d.drop 64)) b
  rw[List.take_append_of_le_length (by omega),List.drop_append_of_le_length (by omega)]
  exact ih _ _ _ (by rw[List.length_drop];omega) hb
def IV:Vec 8:=Vec.lit 8 [1779033703,3144134277,1013904242,2773480762,1359893119,2600822924,528734635,1541459225]
def kY (l:List UInt8):List Int:=l.map fun b=>((b.toNat:Nat):Int)
def tY (l:List Int):List UInt8:=l.map fun n=>UInt8.ofNat n.toNat
theorem ZX (l:List UInt8):iB (kY l):=by
 intro x hx
 obtain⟨b,_,rfl⟩:=List.mem_map.1 hx
 have:=UInt8.toNat_lt b
 omega
theorem QU {l:List Int} (h:iB l):kY (tY l)=l:=by
 unfold kY tY
 rw[List.map_map]
 conv=>rhs;rw[←List.map_id l]
 apply List.map_congr_left
 intro x hx
 obtain⟨h0,h1⟩:=h x hx
 show ((UInt8.ofNat x.toNat).toNat:Int)=x
 rw[UInt8.toNat_ofNat_of_lt' (show x.toNat<256 by omega)]
 omega
theorem ZY (l:List UInt8):(kY l).length=l.length:=List.length_map ..
theorem xL (l:List Int):(tY l).length=l.length:=List.length_map ..
theorem tZ {l m:List Int} (h:iB l) (g:iB m):iB (l++m):=fun x hx=>(List.mem_append.1 hx).elim (h x) (g x)
theorem aks {l m:List Int} (h:iB (l++m)):iB m:=fun x hx=>h x (List.mem_append_right _ hx)
def rW (bs:List Int) (h:Vec 8) (v:Vec 64) (c:Int):Prop:=
 ∃q done tail,bs=done++tail∧done.length=64*q∧tail.length<64∧h=tX q IV done∧v.l.take tail.length=tail∧c=((bs.length:Nat):Int)∧iB bs
theorem Dc {n:Nat} {l:List Int} (h:l.length=n):(Vec.lit n l).l=l:=by unfold Vec.lit;rw[dif_pos h]
theorem QV {x:Int} (h0:0≤x) (h1:x<2^62):IntKind.wrap IntKind.u64 x=x:=by rw[IntKind.wrap_u64];omega
theorem hAdd {n:Nat} (hn:70<n):∀(k:Nat) (text:List UInt8) (bs:List Int) (h:Vec 8) (v:Vec 64) (c:Int) (m:Nat),text.length≤k→rW bs h v c→bs.length+text.length<2^61→k<m→
 ∃h' v' c',Az n m (text,(h,(v,c)))=some ((),(h',(v',c')))∧rW (bs++kY text) h' v' c':=by
 intro k
 induction k with
 |zero=>
  intro text bs h v c m hk hs hl hm
  obtain⟨m,rfl⟩:∃q,m=q+1:=⟨m-1,by omega⟩
  obtain rfl:text=[]:=List.eq_nil_of_length_eq_zero (by omega)
  refine⟨h,v,c, ?_,by simpa [kY] using hs⟩
  rw[QL];rfl
 |succ k ih=>
  intro text bs h v c m hk hs hl hm
  obtain⟨m,rfl⟩:∃q,m=q+1:=⟨m-1,by omega⟩
  by_cases ht:text=[]
  ·subst ht
   refine⟨h,v,c, ?_,by simpa [kY] using hs⟩
   rw[QL];rfl
  ·obtain⟨q,done,tail,hb,hd,htl,hh,hv,hc,hB⟩:=hs
   have hpos:0<text.length:=List.length_pos_iff.2 ht
   have hne:(!(text==[]))=true:=by cases text with
    |nil=>exact absurd rfl ht
    |cons a l=>rfl
   have hbl:bs.length=64*q+tail.length:=by rw[hb,List.length_append,hd]
   have akt:Int.tmod c 64=((tail.length:Nat):Int):=by
    rw[hc,Int.tmod_eq_emod_of_nonneg (by omega)];omega
   rw[QL,hne,cond_true,akt,fO (i:=((tail.length:Nat):Int)) (by omega) (by omega)]
   have hcut:List.take (Int.toNat (64-((tail.length:Nat):Int))) (List.map (fun b:UInt8=>((b.toNat:Nat):Int)) text)=kY (text.take (64-tail.length)):=by
    unfold kY
    rw[show Int.toNat (64-((tail.length:Nat):Int))=64-tail.length by omega,List.map_take]
   rw[hcut]
   generalize hj:64-tail.length=j
   have hlen:(kY (text.take j)).length=min j text.length:=by rw[ZY,List.length_take]
   have hsplit:kY text=kY (text.take j)++kY (text.drop j):=by unfold kY;rw[←List.map_append,List.take_append_drop]
   have hdrop:List.drop (Int.toNat (((kY (text.take j)).length:Nat):Int)) text=text.drop j:=by
    rw[Int.toNat_natCast,hlen]
    by_cases h:j≤text.length
    ·rw[Nat.min_eq_left h]
    ·rw[Nat.min_eq_right (by omega),List.drop_length,List.drop_of_length_le (by omega)]
   generalize ht':kY (text.take j)=t at hlen hsplit hdrop⊢
   have QW:iB t:=ht'▸ZX _
   have hlit:(v.pK ((tail.length:Nat):Int) t).l=tail++t++v.l.drop (tail.length+t.length):=by
    show (Vec.lit 64 (v.l.take (((tail.length:Nat):Int)).toNat++t++v.l.drop ((((tail.length:Nat):Int)).toNat+t.length))).l=_
    rw[Int.toNat_natCast,Dc (by rw[hv,List.length_append,List.length_append,List.length_drop,v.h];omega),hv]
   have g1:lX 64 (some ((tail.length:Nat):Int)) none=true:=decide_eq_true ⟨by omega,by omega⟩
   have g2:fI (((t.length:Nat)):Int) text.length=true:=Eo ⟨by omega,by omega⟩
   rw[show (!((64:Int)==0))=true from rfl,cond_true,g1,cond_true,g2,cond_true,fO (by omega) (by omega)]
   have aku:IntKind.wrap IntKind.u64 (c+IntKind.wrap IntKind.u64 ((t.length:Nat):Int))=(((bs++t).length:Nat):Int):=by
    rw[QV (x:=((t.length:Nat):Int)) (by omega) (by omega),QV (by omega) (by omega),hc,List.length_append];omega
   rw[aku,hdrop]
   have hrl:(text.drop j).length≤k:=by rw[List.length_drop];omega
   have hnl:(bs++t).length+(text.drop j).length<2^61:=by rw[List.length_append,List.length_drop];omega
   cases hfull:(((tail.length:Nat):Int)+((t.length:Nat):Int)==64) with
   |true=>
    have hf:tail.length+t.length=64:=by have:=eq_of_beq hfull;omega
    have hblk:(v.pK ((tail.length:Nat):Int) t).l=tail++t:=by rw[hlit,List.drop_of_length_le (by rw[v.h];omega),List.append_nil]
    have Ch:iB (tail++t):=tZ (aks (hb▸hB)) QW
    rw[cond_true,hblk,hcomp (by rw[List.length_append];omega) Ch hn]
    have hs':rW (bs++t) (rV h (tail++t)) (v.pK ((tail.length:Nat):Int) t) (((bs++t).length:Nat):Int):=by
     refine⟨q+1,done++(tail++t),[], ?_, ?_,by decide, ?_,rfl,rfl,tZ hB QW⟩
     ·rw[hb,List.append_nil,List.append_assoc]
     ·rw[List.length_append,List.length_append,hd];omega
     ·rw[akr q IV done (tail++t) hd (by rw[List.length_append];omega),hh]
    obtain⟨h',v',c',e1,e2⟩:=ih _ _ _ _ _ m hrl hs' hnl (by omega)
    refine⟨h',v',c',e1, ?_⟩
    rw[hsplit,←List.append_assoc];exact e2
   |false=>
    have hf:tail.length+t.length≠64:=fun e=>by
     have:(((tail.length:Nat):Int)+((t.length:Nat):Int)==64)=true:=by rw[beq_iff_eq];omega
     rw[this] at hfull;cases hfull
    rw[cond_false]
    have hs':rW (bs++t) h (v.pK ((tail.length:Nat):Int) t) (((bs++t).length:Nat):Int):=by
     refine⟨q,done,tail++t, ?_,hd, ?_,hh, ?_,rfl,tZ hB QW⟩
     ·rw[hb,List.append_assoc]
     ·rw[List.length_append];omega
     ·rw[hlit,List.take_append_of_le_length (Nat.le_refl _),List.take_length]
    obtain⟨h',v',c',e1,e2⟩:=ih _ _ _ _ _ m hrl hs' hnl (by omega)
    refine⟨h',v',c',e1, ?_⟩
    rw[hsplit,←List.append_assoc];exact e2
theorem QX {n:Nat} {text:List UInt8} {bs:List Int} {h:Vec 8} {v:Vec 64} {c:Int} (hn:70<n) (hs:rW bs h v c) (hl:bs.length+text.length<2^61) (hm:text.length<n):
 ∃h' v' c',tK n ((h,(v,c)),text)=some (h',(v',c'))∧rW (bs++kY text) h' v' c':=by
 obtain⟨h',v',c',e1,e2⟩:=hAdd hn text.length text bs h v c n (Nat.le_refl _) hs hl hm
 refine⟨h',v',c', ?_,e2⟩
 rw[ajK,e1];rfl
end Sh
end
section
open Go Go.Proofs Aq
namespace Sh
def QY (c i:Int):Int:=IntKind.wrap IntKind.u8 (iW IntKind.u64 (IntKind.wrap IntKind.u64 (8*c)) (IntKind.wrap IntKind.i64 (56-IntKind.wrap IntKind.i64 (8*i))))
def uf (c:Int):Nat→Int→List Int
 |0,_=>[]
 |k+1,i=>QY c i::uf c k (i+1)
theorem Z0 (c:Int):∀(k:Nat) (i:Int),(uf c k i).length=k
 |0,_=>rfl
 |k+1,i=>by rw[uf,List.length_cons,Z0 c k]
theorem QZ (x:Int):0≤IntKind.wrap IntKind.u8 x∧IntKind.wrap IntKind.u8 x<256:=by
 rw[IntKind.wrap_u8];exact⟨Int.emod_nonneg _ (by decide),Int.emod_lt_of_pos _ (by decide)⟩
theorem Z4 (c:Int):∀(k:Nat) (i:Int),iB (uf c k i)
 |0,_=>fun x hx=>by cases hx
 |k+1,i=>fun x hx=>by
  rcases List.mem_cons.1 hx with rfl|hx
  ·exact QZ _
  ·exact Z4 c k _ x hx
theorem jG {a k:Nat} (h:a<2^30) (hk:k≤2^12):dD a k=true:=aj6 h hk
theorem akv {n:Nat} {x1:Vec 8} {x2:Vec 64} {c:Nat} (hc:c<2^29):∀(z:Nat) (p:List Int) (m:Nat),(c+p.length+z)% 64=56→z<64→p.length+z<2^20→z<m→Ee n x1 x2 (c:Nat) m p=some (p++List.replicate z 0):=by
 intro z
 induction z with
 |zero=>
  intro p m hz h64 hb hm
  obtain⟨m,rfl⟩:∃q,m=q+1:=⟨m-1,by omega⟩
  rw[Zz,fO (i:=((c:Nat):Int)) (by omega) (by omega),fO (by omega) (by omega),Int.tmod_eq_emod_of_nonneg (by omega)]
  have:(((c:Nat):Int)+((p.length:Nat):Int))% 64=56:=by omega
  rw[this];simp
 |succ z ih=>
  intro p m hz h64 hb hm
  obtain⟨m,rfl⟩:∃q,m=q+1:=⟨m-1,by omega⟩
  rw[Zz,fO (i:=((c:Nat):Int)) (by omega) (by omega),fO (by omega) (by omega),Int.tmod_eq_emod_of_nonneg (by omega)]
  have:((((c:Nat):Int)+((p.length:Nat):Int))% 64 !=56)=true:=by
   rw[bne_iff_ne];omega
  rw[this,show (!((64:Int)==0))=true from rfl,cond_true,cond_true,jG (by simp;omega) (by decide),cond_true,ih (p++[0]) m (by rw[List.length_append,List.length_singleton];omega) (by omega) (by rw[List.length_append,List.length_singleton];omega) (by omega),List.append_assoc]
  rfl
theorem akw {n:Nat} {x1:List Int}:∀(z:Nat) (p:List Int) (m:Nat),(p.length+z)% 64=56→z<64→p.length+z<2^29→z<m→Ei n x1 m p=some (p++List.replicate z 0):=by
 intro z
 induction z with
 |zero=>
  intro p m hz h64 hb hm
  obtain⟨m,rfl⟩:∃q,m=q+1:=⟨m-1,by omega⟩
  rw[ZG,Int.tmod_eq_emod_of_nonneg (by omega)]
  have:(((p.length:Nat):Int))% 64=56:=by omega
  rw[this];simp
 |succ z ih=>
  intro p m hz h64 hb hm
  obtain⟨m,rfl⟩:∃q,m=q+1:=⟨m-1,by omega⟩
  rw[ZG,Int.tmod_eq_emod_of_nonneg (by omega)]
  have:(((p.length:Nat):Int)% 64 !=56)=true:=by
   rw[bne_iff_ne];omega
  rw[this,show (!((64:Int)==0))=true from rfl,cond_true,cond_true,jG (by simp;omega) (by decide),cond_true,ih (p++[0]) m (by rw[List.length_append,List.length_singleton];omega) (by omega) (by rw[List.length_append,List.length_singleton];omega) (by omega),List.append_assoc]
  rfl
theorem hLen {n:Nat} {x1:Vec 8} {x2:Vec 64} {c:Int}:∀(k:Nat) (i:Int) (p:List Int) (m:Nat),i+k=8→0≤i→p.length+k<2^29→k<m→AB n x1 x2 c m (p,i)=some (p++uf c k i):=by
 intro k
 induction k with
 |zero=>
  intro i p m hi h0 hb hm
  obtain⟨m,rfl⟩:∃q,m=q+1:=⟨m-1,by omega⟩
  rw[ZA,decide_eq_false (by omega),uf,List.append_nil];rfl
 |succ k ih=>
  intro i p m hi h0 hb hm
  obtain⟨m,rfl⟩:∃q,m=q+1:=⟨m-1,by omega⟩
  rw[ZA,decide_eq_true (show i<8 by omega),cond_true]
  rw[decide_eq_true (show (0:Int)≤IntKind.wrap IntKind.i64 (56-IntKind.wrap IntKind.i64 (8*i)) by rw[fO (i:=8*i) (by omega) (by omega),fO (by omega) (by omega)];omega),cond_true,jG (by simp;omega) (by decide),cond_true,oQ h0 (by omega)]
  have:=ih (i+1) (p++[QY c i]) m (by omega) (by omega) (by rw[List.length_append,List.length_singleton];omega) (by omega)
  rw[List.append_assoc] at this
  exact this
theorem akx {n:Nat} {x1:List Int} (hx:x1.length<2^29):∀(k:Nat) (i:Int) (p:List Int) (m:Nat),i+k=8→0≤i→p.length+k<2^30→k<m→AO n x1 m (p,i)=some (p++uf (x1.length:Nat) k i):=by
 intro k
 induction k with
 |zero=>
  intro i p m hi h0 hb hm
  obtain⟨m,rfl⟩:∃q,m=q+1:=⟨m-1,by omega⟩
  rw[ZH,decide_eq_false (by omega),uf,List.append_nil];rfl
 |succ k ih=>
  intro i p m hi h0 hb hm
  obtain⟨m,rfl⟩:∃q,m=q+1:=⟨m-1,by omega⟩
  rw[ZH,decide_eq_true (show i<8 by omega),cond_true]
  rw[decide_eq_true (show (0:Int)≤IntKind.wrap IntKind.i64 (56-IntKind.wrap IntKind.i64 (8*i)) by rw[fO (i:=8*i) (by omega) (by omega),fO (by omega) (by omega)];omega),cond_true,jG (by simp;omega) (by decide),cond_true,oQ h0 (by omega),QV (x:=((x1.length:Nat):Int)) (by omega) (by omega)]
  have:=ih (i+1) (p++[QY (x1.length:Nat) i]) m (by omega) (by omega) (by rw[List.length_append,List.length_singleton];omega) (by omega)
  rw[List.append_assoc] at this
  exact this
def zpad (c:Nat):Nat:=(55+64-c% 64)% 64
theorem Q0 (c:Nat):(c+1+zpad c)% 64=56∧zpad c<64:=by unfold zpad;omega
def qj (c:Nat):List Int:=([128]++List.replicate (zpad c) 0)++uf (c:Nat) 8 0
theorem Kr (c:Nat):(qj c).length=1+zpad c+8:=by unfold qj;simp only[List.length_append,List.length_singleton,List.length_replicate,Z0]
theorem Z5 (c:Nat):iB (qj c):=by
 refine tZ (tZ ?_ ?_) (Z4 _ _ _)
 ·intro x hx;rw[List.mem_singleton.1 hx];decide
 ·intro x hx;rw[(List.mem_replicate.1 hx).2];decide
theorem aky {n:Nat} {b:List Int} (hb:b.length<2^28) (hn:100<n):Al n b=some (b++qj b.length):=by
 obtain⟨h1,h2⟩:=Q0 b.length
 rw[ajS,jG (by omega) (by decide),cond_true,jG (by simp;omega) (by decide),cond_true]
 rw[List.nil_append,akw (zpad b.length) (b++[128]) n (by rw[List.length_append,List.length_singleton];exact h1) h2 (by rw[List.length_append,List.length_singleton];omega) (by omega)]
 show (AO n b n (b++[128]++List.replicate (zpad b.length) 0,0)).bind _=_
 rw[akx (by omega) 8 0 _ n (by decide) (by decide) (by simp only[List.length_append,List.length_singleton,List.length_replicate];omega) (by omega)]
 unfold qj
 simp only[Option.bind_some,List.append_assoc]
theorem akz {n:Nat} {r:List Int} (hB:iB r) (hr:r.length<2^29) (hn:100<n):∀(k:Nat) (j:Nat) (h:Vec 8) (m:Nat),j+64*k=r.length→k<m→AV n r m ((j:Nat),h)=some ((),tX k h (r.drop j)):=by
 intro k
 induction k with
 |zero=>
  intro j h m hj hm
  obtain⟨m,rfl⟩:∃q,m=q+1:=⟨m-1,by omega⟩
  rw[ZM,decide_eq_false (by omega)];rfl
 |succ k ih=>
  intro j h m hj hm
  obtain⟨m,rfl⟩:∃q,m=q+1:=⟨m-1,by omega⟩
  rw[ZM,decide_eq_true (by omega),cond_true,fO (i:=((j:Nat):Int)+64) (by omega) (by omega),Eo (i:=((j:Nat):Int)+64) ⟨by omega,by omega⟩,Eo (i:=((j:Nat):Int)) ⟨by omega,by omega⟩,Bool.and_self,cond_true]
  have hcut:List.drop (Int.toNat ((j:Nat):Int)) (List.take (Int.toNat (((j:Nat):Int)+64)) r)=(r.drop j).take 64:=by
   rw[Int.toNat_natCast,show Int.toNat (((j:Nat):Int)+64)=j+64 by omega,List.drop_take,Nat.add_sub_cancel_left]
  have hw:=ako (n:=n) (x:=(r.drop j).take 64) (by rw[List.length_take,List.length_drop];omega) (by omega)
  rw[←hcut] at hw
  refine bs hw ?_
  rw[hcut]
  show ((AQ n r (j:Nat) h (xK ((r.drop j).take 64)) n (0,h)).bind _)=_
  rw[rR 64 0 h n (by decide) (by decide) (by omega)]
  show ((AU n r (j:Nat) ((),jQ (Ep (xK ((r.drop j).take 64))) 64 0 h) n (0,h)).bind _)=_
  rw[rA 8 0 h n (by decide) (by decide) (by omega)]
  have:=ih (j+64) (rV h ((r.drop j).take 64)) m (by omega) (by omega)
  rw[←List.drop_drop] at this
  exact this
def Q5 (h:Vec 8) (o:Vec 32) (i:Int):Vec 32:=o.set i (IntKind.wrap IntKind.u8 (iW IntKind.u32 (h.at' (IntKind.wrap IntKind.i64 (Int.tdiv i 4))) (IntKind.wrap IntKind.i64 (24-IntKind.wrap IntKind.i64 (8*Int.tmod i 4)))))
def Z6 (h:Vec 8):Vec 32:=jQ (Q5 h) 32 0 (Vec.rep 32 0)
theorem Z7 {i:Int} (h0:0≤i) (h1:i<32):bq (IntKind.wrap IntKind.i64 (Int.tdiv i 4)) 8=true∧decide ((0:Int)≤IntKind.wrap IntKind.i64 (24-IntKind.wrap IntKind.i64 (8*Int.tmod i 4)))=true:=by
 rw[Int.tdiv_eq_ediv_of_nonneg h0,Int.tmod_eq_emod_of_nonneg h0,fO (i:=i/4) (by omega) (by omega),fO (i:=8*(i% 4)) (by omega) (by omega),fO (by omega) (by omega)]
 exact⟨jP ⟨by omega,by omega⟩,decide_eq_true (by omega)⟩
theorem hOut {n:Nat} {r9:(Vec 8)×(Vec 64)×Int}:∀(k:Nat) (i:Int) (o:Vec 32) (m:Nat),i+k=32→0≤i→k<m→AJ n r9 m (i,o)=some ((),jQ (Q5 r9.1) k i o):=by
 intro k
 induction k with
 |zero=>
  intro i s m hi h0 hm
  obtain⟨m,rfl⟩:∃q,m=q+1:=⟨m-1,by omega⟩
  rw[ZB,decide_eq_false (by omega)];rfl
 |succ k ih=>
  intro i s m hi h0 hm
  obtain⟨m,rfl⟩:∃q,m=q+1:=⟨m-1,by omega⟩
  obtain⟨g1,g2⟩:=Z7 h0 (show i<32 by omega)
  rw[ZB,decide_eq_true (show i<32 by omega),cond_true,g1,g2,jP (i:=i) (n:=32) ⟨by omega,by omega⟩,oQ (by omega) (by omega)]
  exact ih (i+1) _ m (by omega) (by omega) (by omega)
theorem akA {n:Nat} {h:Vec 8}:∀(k:Nat) (i:Int) (o:Vec 32) (m:Nat),i+k=32→0≤i→k<m→AX n ((),h) m (i,o)=some ((),jQ (Q5 h) k i o):=by
 intro k
 induction k with
 |zero=>
  intro i s m hi h0 hm
  obtain⟨m,rfl⟩:∃q,m=q+1:=⟨m-1,by omega⟩
  rw[ZN,decide_eq_false (by omega)];rfl
 |succ k ih=>
  intro i s m hi h0 hm
  obtain⟨m,rfl⟩:∃q,m=q+1:=⟨m-1,by omega⟩
  obtain⟨g1,g2⟩:=Z7 h0 (show i<32 by omega)
  rw[ZN,decide_eq_true (show i<32 by omega),cond_true,g1,g2,jP (i:=i) (n:=32) ⟨by omega,by omega⟩,oQ (by omega) (by omega)]
  exact ih (i+1) _ m (by omega) (by omega) (by omega)
def Er (b:List Int):Vec 32:=Z6 (tX ((b.length+(1+zpad b.length+8))/64) IV (b++qj b.length))
theorem akB {n:Nat} {b:List Int} (hB:iB b) (hb:b.length<2^28) (hbn:b.length<n) (hn:100<n):Ao n b=some (Er b):=by
 obtain⟨h1,h2⟩:=Q0 b.length
 rw[ajV,aky hb hn]
 have hl:(b++qj b.length).length=b.length+(1+zpad b.length+8):=by rw[List.length_append,Kr]
 show (AV n (b++qj b.length) n (((0:Nat):Int),IV)).bind _=_
 rw[akz (tZ hB (Z5 _)) (by omega) hn ((b.length+(1+zpad b.length+8))/64) 0 IV n (by omega) (by omega)]
 show ((AX n ((),tX _ IV (b++qj b.length)) n (0,Vec.rep 32 0)).bind _)=_
 rw[akA 32 0 _ n (by decide) (by decide) (by omega)]
 rfl
theorem akC {n:Nat} {b:List Int} {h:Vec 8} {v:Vec 64} {c:Int} (hs:rW b h v c) (hb:b.length<2^28) (hn:200<n):Af n (h,(v,c))=some (Er b):=by
 obtain⟨h1,h2⟩:=Q0 b.length
 have hc:c=((b.length:Nat):Int):=by obtain⟨_,_,_,_,_,_,_,_,e,_⟩:=hs;exact e
 have hB:iB b:=by obtain⟨_,_,_,_,_,_,_,_,_,e⟩:=hs;exact e
 subst hc
 rw[ajN,akv (by omega) (zpad b.length) [128] n (by rw[List.length_singleton];exact h1) h2 (by rw[List.length_singleton];omega) (by omega)]
 show (AB n h v (b.length:Nat) n ([128]++List.replicate (zpad b.length) 0,0)).bind _=_
 rw[hLen 8 0 _ n (by decide) (by decide) (by simp only[List.length_append,List.length_singleton,List.length_replicate];omega) (by omega)]
 obtain⟨h',v',c',e1,e2⟩:=QX (n:=n) (text:=tY (qj b.length)) (by omega) hs (by rw[xL,Kr];omega) (by rw[xL,Kr];omega)
 show ((tK n ((h,(v,((b.length:Nat):Int))),tY (qj b.length))).bind _)=_
 rw[e1]
 show ((AJ n (h',(v',c')) n (0,Vec.rep 32 0)).bind _)=_
 rw[hOut 32 0 _ n (by decide) (by decide) (by omega)]
 rw[QU (Z5 _)] at e2
 obtain⟨q,done,tail,hb',hd,htl,hh,_,_,_⟩:=e2
 have hlen:(b++qj b.length).length=64*q+tail.length:=by rw[hb',List.length_append,hd]
 rw[List.length_append,Kr] at hlen
 have ht:tail=[]:=List.eq_nil_of_length_eq_zero (by omega)
 subst ht
 rw[List.append_nil] at hb'
 have hq:(b.length+(1+zpad b.length+8))/64=q:=by rw[List.length_nil] at hlen;omega
 show some (Z6 h')=some (Er b)
 unfold Er
 rw[hq,hb',hh]
end Sh
end
section
open Go Go.Proofs Aq
namespace Sh
set_option maxRecDepth 100000
def Z8 (h:Vec 32):aJ:=⟨h.nth 0,h.nth 1,h.nth 2,h.nth 3,h.nth 4,h.nth 5,h.nth 6,h.nth 7,h.nth 8,h.nth 9,h.nth 10,h.nth 11,h.nth 12,h.nth 13,h.nth 14,h.nth 15⟩
theorem akD (n:Nat) (r:List Int):Ap n r=(Ao n r).bind fun h=>some (Z8 h):=by kernel_rfl
end Sh
end
section
open Go Go.Proofs Aq
namespace Sh
def ug:Nat→Int→List Int
 |0,_=>[]
 |k+1,z=>if z≥128 then (z% 128+128)::ug k (z/128) else [z]
theorem akE {z:Int} (h0:0≤z):iM IntKind.u8 (IntKind.wrap IntKind.u8 z) 128=z% 128+128:=by
 have h1:IntKind.wrap IntKind.u8 z=z% 256:=by rw[IntKind.wrap_u8]
 rw[h1]
 have key:∀a:Nat,a<256→iM IntKind.u8 ((a:Nat):Int) 128=((a% 128+128:Nat):Int):=by
  intro a ha
  have:∀a:Fin 256,iM IntKind.u8 ((a.val:Nat):Int) 128=((a.val% 128+128:Nat):Int):=by decide+kernel
  exact this ⟨a,ha⟩
 have h2:z% 256=(((z% 256).toNat:Nat):Int):=by omega
 rw[h2,key _ (by omega)]
 omega
theorem Kt {x:Int} (h0:0≤x) (h1:x<2^64):IntKind.wrap IntKind.u64 x=x:=by rw[IntKind.wrap_u64];omega
theorem Z9 {n:Nat}:∀(k:Nat) (z:Int) (p:List Int) (m:Nat),0≤z→z<128^k→z<2^64→p.length+k<2^20→k≤m→0<k→∃q y,AA n m (z,p)=some (y,p++q)∧AL n m (z,p)=some (y,p++q)∧q++[y]=ug k z∧q.length<k∧0≤y∧y<128:=by
 intro k
 induction k with
 |zero=>intro z p m _ _ _ _ _ h;omega
 |succ k ih=>
  intro z p m h0 h1 h64 hp hm _
  obtain⟨m,rfl⟩:∃q,m=q+1:=⟨m-1,by omega⟩
  by_cases hz:z≥128
  ·have hk:0<k:=by
    rcases Nat.eq_zero_or_pos k with rfl|h
    ·have:z<128:=by simpa using h1
     omega
    ·exact h
   have hd:z/128<128^k:=by
    rw[Int.pow_succ] at h1
    exact Int.ediv_lt_of_lt_mul (by decide) h1
   obtain⟨q,y,e1,e2,e3,e4,e5⟩:=ih (z/128) (p++[z% 128+128]) m (by omega) hd (by omega) (by rw[List.length_append,List.length_singleton];omega) (by omega) hk
   obtain⟨s0,s1⟩:=aj7 h0
   refine⟨(z% 128+128)::q,y, ?_, ?_, ?_, ?_,e5⟩
   ·rw[Zy,decide_eq_true (show z>127 by omega),cond_true,jG (by simp;omega) (by decide),cond_true,akE h0,s1]
    rw[List.append_assoc] at e1
    exact e1
   ·rw[ZE,decide_eq_true hz,cond_true,show (!((128:Int)==0))=true from rfl,cond_true,jG (by simp;omega) (by decide),cond_true,cond_true]
    rw[Int.tmod_eq_emod_of_nonneg h0,aj5 h0,Kt (by omega) (by omega)]
    have hw:IntKind.wrap IntKind.u8 (IntKind.wrap IntKind.u8 (z% 128)+128)=z% 128+128:=by rw[IntKind.wrap_u8,IntKind.wrap_u8];omega
    rw[hw]
    rw[List.append_assoc] at e2
    exact e2
   ·rw[ug,if_pos hz,←e3];rfl
   ·simp;omega
  ·refine⟨[],z, ?_, ?_, ?_,by simp,h0,by omega⟩
   ·rw[Zy,decide_eq_false (show¬z>127 by omega),List.append_nil];rfl
   ·rw[ZE,decide_eq_false hz,List.append_nil];rfl
   ·rw[ug,if_neg hz];rfl
end Sh
end
section
open Go Go.Proofs Aq
namespace Sh
def rI (x:Int):Prop:= -(2^63)≤x∧x<2^63
def oU (x:Int):Int:=if x<0 then 2*(-1-x)+1 else 2*x
def encI (x:Int):List Int:=ug 10 (oU x)
theorem Q6 {x:Int} (h:rI x):0≤oU x∧oU x<2^64:=by unfold oU;unfold rI at h;split<;>omega
theorem akF {a:Int} (h0:0≤a) (h1:a<2^64):bX IntKind.u64 a 0=a:=by
 unfold bX
 obtain⟨c,rfl⟩:∃c:Nat,a=(c:Int):=⟨a.toNat,(Int.toNat_of_nonneg h0).symm⟩
 have hc:c<2^64:=by exact_mod_cast h1
 have e:(BitVec.ofInt IntKind.u64.bits (c:Int)^^^BitVec.ofInt IntKind.u64.bits 0).toNat=c:=by
  show (BitVec.ofInt 64 (c:Int)^^^0#64).toNat=_
  rw[BitVec.xor_zero,BitVec.ofInt_natCast,BitVec.toNat_ofNat,Nat.mod_eq_of_lt hc]
 rw[e]
 exact Kt h0 h1
theorem akG {a:Int} (h0:0≤a) (h1:a<2^64):bX IntKind.u64 a (2^64-1)=2^64-1-a:=by
 unfold bX
 obtain⟨c,rfl⟩:∃c:Nat,a=(c:Int):=⟨a.toNat,(Int.toNat_of_nonneg h0).symm⟩
 have hc:c<2^64:=by exact_mod_cast h1
 have e:(BitVec.ofInt IntKind.u64.bits (c:Int)^^^BitVec.ofInt IntKind.u64.bits (2^64-1)).toNat=2^64-1-c:=by
  show (BitVec.ofInt 64 (c:Int)^^^BitVec.ofInt 64 (2^64-1)).toNat=_
  rw[show BitVec.ofInt 64 (2^64-1)=BitVec.allOnes 64 by decide,BitVec.xor_allOnes,BitVec.toNat_not,BitVec.ofInt_natCast,BitVec.toNat_ofNat,Nat.mod_eq_of_lt hc]
 rw[e,IntKind.wrap_u64]
 omega
theorem akH {x:Int} (h:rI x):bX IntKind.u64 (jF IntKind.u64 (IntKind.wrap IntKind.u64 x) 1) (IntKind.wrap IntKind.u64 (iW IntKind.i64 x 63))=oU x:=by
 obtain⟨a,b⟩:=h
 have hs:jF IntKind.u64 (IntKind.wrap IntKind.u64 x) 1=IntKind.wrap IntKind.u64 (IntKind.wrap IntKind.u64 x*2):=rfl
 have hr:iW IntKind.i64 x 63=x.fdiv (2^63):=rfl
 rw[hs,hr,Int.fdiv_eq_ediv_of_nonneg _ (by decide)]
 unfold oU
 by_cases hx:x<0
 ·rw[if_pos hx,show x/2^63= -1 by omega,show IntKind.wrap IntKind.u64 (-1)=2^64-1 by rw[IntKind.wrap_u64];decide]
  have:IntKind.wrap IntKind.u64 (IntKind.wrap IntKind.u64 x*2)=2*x+2^64:=by rw[IntKind.wrap_u64,IntKind.wrap_u64];omega
  rw[this,akG (by omega) (by omega)]
  omega
 ·rw[if_neg hx,show x/2^63=0 by omega,Kt (x:=x) (by omega) (by omega),Kt (x:=x*2) (by omega) (by omega),show IntKind.wrap IntKind.u64 0=0 by rw[IntKind.wrap_u64];decide,akF (by omega) (by omega)]
  omega
theorem aac:∀(k:Nat) (z:Int),0≤z→iB (ug k z)
 |0,_,_=>fun x hx=>by cases hx
 |k+1,z,h=>by
  unfold ug
  split
  ·intro x hx
   rcases List.mem_cons.1 hx with rfl|hx
   ·omega
   ·exact aac k _ (by omega) x hx
  ·intro x hx
   rw[List.mem_singleton.1 hx];omega
theorem akI {x:Int} (h:rI x):iB (encI x):=aac 10 _ (Q6 h).1
theorem aad:∀(k:Nat) (z:Int),(ug k z).length≤k
 |0,_=>Nat.le_refl _
 |k+1,z=>by
  unfold ug
  split
  ·rw[List.length_cons];have:=aad k (z/128);omega
  ·simp
theorem uh (x:Int):(encI x).length≤10:=aad _ _
theorem Q7 {y:Int} (h0:0≤y) (h1:y<128):IntKind.wrap IntKind.u8 y=y:=by rw[IntKind.wrap_u8];omega
theorem Q8 {n:Nat} {x:Int} (h:rI x) (hn:20<n):tL n x=some (encI x):=by
 obtain⟨z0,z1⟩:=Q6 h
 obtain⟨q,y,e1,_,e3,e4,e5,e6⟩:=Z9 (n:=n) 10 (oU x) [] n z0 (Int.lt_of_lt_of_le z1 (by decide)) z1 (by decide) (by omega) (by decide)
 rw[ajL,akH h]
 show ((AA n n (oU x,[])).bind _)=_
 rw[e1,List.nil_append,Option.bind_some]
 rw[jG (by show q.length+1<_;omega) (by decide),cond_true,Q7 e5 e6,e3]
 rfl
theorem Q9 {n:Nat} {x:Int} (h:rI x) (hn:20<n):tN n x=some (encI x):=by
 obtain⟨z0,z1⟩:=Q6 h
 obtain⟨q,y,_,e1,e3,e4,e5,e6⟩:=Z9 (n:=n) 10 (oU x) [] n z0 (Int.lt_of_lt_of_le z1 (by decide)) z1 (by decide) (by omega) (by decide)
 obtain⟨a,b⟩:=h
 rw[ajP]
 by_cases hx:x<0
 ·have hz:IntKind.wrap IntKind.u64 (IntKind.wrap IntKind.u64 (IntKind.wrap IntKind.u64 (IntKind.wrap IntKind.i64 (-1-x))*2)+1)=oU x:=by
   unfold oU
   rw[if_pos hx,IntKind.wrap_i64,IntKind.wrap_u64,IntKind.wrap_u64,IntKind.wrap_u64];omega
  rw[decide_eq_true hx,cond_true,hz,e1,List.nil_append,Option.bind_some]
  rw[jG (by show q.length+1<_;omega) (by decide),cond_true,Q7 e5 e6,e3]
  rfl
 ·have hz:IntKind.wrap IntKind.u64 (IntKind.wrap IntKind.u64 x*2)=oU x:=by
   unfold oU
   rw[if_neg hx,IntKind.wrap_u64,IntKind.wrap_u64];omega
  rw[decide_eq_false hx,cond_false,hz,e1,List.nil_append,Option.bind_some]
  rw[jG (by show q.length+1<_;omega) (by decide),cond_true,Q7 e5 e6,e3]
  rfl
theorem gR {α:Type} {c:Bool} {o r:Option α} (h:c=true) (k:o=r):(bif c then o else none)=r:=by rw[h];exact k
def ig (s:List UInt8):List Int:=encI (s.length:Nat)++kY s
theorem Es {k:Nat} (h:k<2^62):rI ((k:Nat):Int):=by unfold rI;omega
theorem aae {s:List UInt8} (h:s.length<2^62):iB (ig s):=tZ (akI (Es h)) (ZX _)
theorem akJ (s:List UInt8):(ig s).length≤s.length+10:=by unfold ig;rw[List.length_append,ZY];have:=uh ((s.length:Nat):Int);omega
theorem akK {n:Nat} {s:List UInt8} (h:s.length<2^29) (hn:20<n):Ad n s=some (ig s):=by
 have hl:=uh ((s.length:Nat):Int)
 rw[ajM]
 exact bs (Q8 (Es (by omega)) hn) (gR (jG (by rw[List.length_map];omega) (by decide)) rfl)
theorem akL {n:Nat} {s:List UInt8} (h:s.length<2^29) (hn:20<n):Aj n s=some (ig s):=by
 have hl:=uh ((s.length:Nat):Int)
 rw[ajQ]
 exact bs (Q9 (Es (by omega)) hn) (gR (jG (by rw[List.length_map];omega) (by decide)) rfl)
end Sh
end
section
open Go Go.Proofs Aq
namespace Sh
def jm {α:Type} (f:α→List Int) (l:List α):Nat:=l.foldr (fun x s=>(f x).length+s) 0
theorem Ku {α:Type} (f:α→List Int):∀l:List α,(l.flatMap f).length=jm f l
 | []=>rfl
 |x::l=>by rw[List.flatMap_cons,List.length_append,Ku f l];rfl
theorem Et {α:Type} {f:α→List Int} {b:Nat}:∀{l:List α},(∀x∈l,(f x).length≤b)→jm f l≤b*l.length
 | [],_=>Nat.zero_le _
 |x::l,h=>by
  have h1:=h x (by simp)
  have h2:=Et (f:=f) (l:=l) fun y hy=>h y (List.mem_cons_of_mem _ hy)
  show (f x).length+jm f l≤b*(l.length+1)
  rw[Nat.mul_add,Nat.mul_one];omega
theorem akM {n:Nat} {l:List Int} (hb:∀x∈l,rI x) (hlen:l.length<2^62) (hn:20<n):∀(k i m:Nat) (a:List Int),i+k=l.length→k<m→a.length+jm encI (l.drop i)<2^29→El n l m (a,(i:Int))=some (a++(l.drop i).flatMap encI):=by
 intro k
 induction k with
 |zero=>
  intro i m a hi hm hc
  obtain⟨m,rfl⟩:∃m',m=m'+1:=⟨m-1,by omega⟩
  rw[ZO,qh (by omega),List.drop_eq_nil_of_le (by omega),List.flatMap_nil,List.append_nil];rfl
 |succ k ih=>
  intro i m a hi hm hc
  obtain⟨m,rfl⟩:∃m',m=m'+1:=⟨m-1,by omega⟩
  have hlt:i<l.length:=by omega
  have hx:l[i]? =some l[i]:=List.getElem?_eq_getElem hlt
  have hd:l.drop i=l[i]::l.drop (i+1):=List.drop_eq_getElem_cons hlt
  rw[hd] at hc⊢
  have hm':=hb l[i] (List.getElem_mem hlt)
  generalize l[i]=x at hx hc hm'⊢
  rw[ZO,qg hx,gY hx,oP (by omega),cond_true]
  have hsz:jm encI (x::l.drop (i+1))=(encI x).length+jm encI (l.drop (i+1)):=rfl
  have h:=ih (i+1) m (a++encI x) (by omega) (by omega) (by rw[List.length_append];omega)
  rw[List.append_assoc] at h
  exact bs rfl (bs (Q8 hm' hn) (gR (jG (by omega) (by decide)) h))
theorem akN {n:Nat} {l:List Int} (hb:∀x∈l,rI x) (hlen:l.length<2^62) (hn:20<n):∀(k i m:Nat) (a:List Int),i+k=l.length→k<m→a.length+jm encI (l.drop i)<2^29→Em n l m (a,(i:Int))=some (a++(l.drop i).flatMap encI):=by
 intro k
 induction k with
 |zero=>
  intro i m a hi hm hc
  obtain⟨m,rfl⟩:∃m',m=m'+1:=⟨m-1,by omega⟩
  rw[ZP,qh (by omega),List.drop_eq_nil_of_le (by omega),List.flatMap_nil,List.append_nil];rfl
 |succ k ih=>
  intro i m a hi hm hc
  obtain⟨m,rfl⟩:∃m',m=m'+1:=⟨m-1,by omega⟩
  have hlt:i<l.length:=by omega
  have hx:l[i]? =some l[i]:=List.getElem?_eq_getElem hlt
  have hd:l.drop i=l[i]::l.drop (i+1):=List.drop_eq_getElem_cons hlt
  rw[hd] at hc⊢
  have hm':=hb l[i] (List.getElem_mem hlt)
  generalize l[i]=x at hx hc hm'⊢
  rw[ZP,qg hx,gY hx,oP (by omega),cond_true]
  have hsz:jm encI (x::l.drop (i+1))=(encI x).length+jm encI (l.drop (i+1)):=rfl
  have h:=ih (i+1) m (a++encI x) (by omega) (by omega) (by rw[List.length_append];omega)
  rw[List.append_assoc] at h
  exact bs rfl (bs (Q9 hm' hn) (gR (jG (by omega) (by decide)) h))
def xM (l:List Int):List Int:=encI (l.length:Nat)++l.flatMap encI
theorem aaf {α:Type} {f:α→List Int}:∀{l:List α},(∀x∈l,iB (f x))→iB (l.flatMap f)
 | [],_=>fun x hx=>by cases hx
 |x::l,h=>by
  rw[List.flatMap_cons]
  exact tZ (h x (by simp)) (aaf fun y hy=>h y (List.mem_cons_of_mem _ hy))
theorem akO {l:List Int}:(xM l).length≤10+10*l.length:=by
 unfold xM
 rw[List.length_append,Ku]
 have h1:=uh ((l.length:Nat):Int)
 have h2:=Et (f:=encI) (b:=10) (l:=l) fun x _=>uh x
 omega
theorem akP {n:Nat} {l:List Int} (hb:∀x∈l,rI x) (hl:l.length<2^20) (hn:l.length<n) (hn2:20<n):Au n l=some (xM l):=by
 have h1:=uh ((l.length:Nat):Int)
 have h2:=Et (f:=encI) (b:=10) (l:=l) fun x _=>uh x
 rw[ajZ]
 refine bs (?_:_=some (xM l)) rfl
 rw[ajY]
 exact bs (Q8 (Es (by omega)) hn2) (bs (akM hb (by omega) hn2 l.length 0 n _ (by omega) hn (by rw[List.drop_zero];omega)) rfl)
theorem akQ {n:Nat} {l:List Int} (hb:∀x∈l,rI x) (hl:l.length<2^20) (hn:l.length<n) (hn2:20<n):Av n l=some (xM l):=by
 have h1:=uh ((l.length:Nat):Int)
 have h2:=Et (f:=encI) (b:=10) (l:=l) fun x _=>uh x
 rw[aj0]
 exact bs (Q9 (Es (by omega)) hn2) (bs (akN hb (by omega) hn2 l.length 0 n _ (by omega) hn (by rw[List.drop_zero];omega)) rfl)
theorem akR (n:Nat):∃v,z8 n ()=some (IV,(v,(0:Int))):=by
 rw[ajF]
 exact⟨_,rfl⟩
theorem akS {n:Nat} {ls:List (List UInt8)} (hb:∀x∈ls,x.length<2^28) (hlen:ls.length<2^62) (hn:70<n):∀(k i m:Nat) (b:List Int) (h:Vec 8) (v:Vec 64) (c:Int),i+k=ls.length→k<m→rW b h v c→b.length+jm ig (ls.drop i)<2^28→jm ig (ls.drop i)<n→
 ∃h' v' c',Ef n ls m ((i:Int),(h,(v,c)))=some ((),(h',(v',c')))∧rW (b++(ls.drop i).flatMap ig) h' v' c':=by
 intro k
 induction k with
 |zero=>
  intro i m b h v c hi hm hs _ _
  obtain⟨m,rfl⟩:∃m',m=m'+1:=⟨m-1,by omega⟩
  refine⟨h,v,c, ?_, ?_⟩
  ·rw[ZC,qh (by omega)];rfl
  ·rw[List.drop_eq_nil_of_le (by omega),List.flatMap_nil,List.append_nil];exact hs
 |succ k ih=>
  intro i m b h v c hi hm hs hsz aag
  obtain⟨m,rfl⟩:∃m',m=m'+1:=⟨m-1,by omega⟩
  have hlt:i<ls.length:=by omega
  have hx:ls[i]? =some ls[i]:=List.getElem?_eq_getElem hlt
  have hd:ls.drop i=ls[i]::ls.drop (i+1):=List.drop_eq_getElem_cons hlt
  rw[hd] at hsz aag⊢
  have hm':=hb ls[i] (List.getElem_mem hlt)
  generalize ls[i]=x at hx hsz aag hm'⊢
  have e:jm ig (x::ls.drop (i+1))=(ig x).length+jm ig (ls.drop (i+1)):=rfl
  have hB:iB (ig x):=aae (by omega)
  obtain⟨h1,v1,c1,g1,g2⟩:=QX (n:=n) (text:=tY (ig x)) hn hs (by rw[xL];omega) (by rw[xL];omega)
  rw[QU hB] at g2
  obtain⟨h2,v2,c2,g3,g4⟩:=ih (i+1) m (b++ig x) h1 v1 c1 (by omega) (by omega) g2 (by rw[List.length_append];omega) (by omega)
  refine⟨h2,v2,c2, ?_, ?_⟩
  ·rw[ZC,qg hx,gY hx,oP (by omega),cond_true]
   exact bs rfl (bs (akK (by omega) (by omega)) (bs g1 g3))
  ·rw[List.flatMap_cons,←List.append_assoc];exact g4
def AY (t:Int) (ls:List (List UInt8)):List Int:=[IntKind.wrap IntKind.u8 t]++ls.flatMap ig
theorem akT (t:Int) {ls:List (List UInt8)} (hb:∀x∈ls,x.length<2^28):iB (AY t ls):=
 tZ (fun x hx=>by rw[List.mem_singleton.1 hx];exact QZ t) (aaf fun x hx=>aae (by have:=hb x hx;omega))
def lJ (t:Int) (ls:List (List UInt8)):aJ:=Z8 (Er (AY t ls))
theorem hOf {n:Nat} {t:Int} {ls:List (List UInt8)} (hb:∀x∈ls,x.length<2^28) (hs:1+jm ig ls<2^28) (hsn:jm ig ls<n) (hl:ls.length<n) (hn:200<n) (hlen:ls.length<2^62):Ah n (t,ls)=some (lJ t ls):=by
 rw[ajO]
 obtain⟨v,hv⟩:=akR n
 have s0:rW [] IV v 0:=⟨0,[],[],rfl,rfl,by decide,rfl,rfl,rfl,fun x hx=>by cases hx⟩
 have hB1:iB [IntKind.wrap IntKind.u8 t]:=fun x hx=>by rw[List.mem_singleton.1 hx];exact QZ t
 obtain⟨h1,v1,c1,g1,g2⟩:=QX (n:=n) (text:=tY [IntKind.wrap IntKind.u8 t]) (by omega) s0 (by rw[xL];simp) (by rw[xL];simp;omega)
 rw[QU hB1,List.nil_append] at g2
 obtain⟨h2,v2,c2,g3,g4⟩:=akS (n:=n) hb hlen (by omega) ls.length 0 n _ h1 v1 c1 (by omega) hl g2 (by rw[List.drop_zero,List.length_singleton];exact hs) (by rw[List.drop_zero];exact hsn)
 rw[List.drop_zero] at g4
 have g5:=akC (n:=n) g4 (by rw[List.length_append,List.length_singleton,Ku];exact hs) hn
 refine bs hv (bs g1 (bs g3 ?_))
 refine bs g5 ?_
 exact gR (by decide) (gR (by decide) rfl)
theorem akU {n:Nat} {ls:List (List UInt8)} (hb:∀x∈ls,x.length<2^28) (hlen:ls.length<2^62) (hn:20<n):∀(k i m:Nat) (a:List Int),i+k=ls.length→k<m→a.length+jm ig (ls.drop i)<2^29→Eh n ls m (a,(i:Int))=some (a++(ls.drop i).flatMap ig):=by
 intro k
 induction k with
 |zero=>
  intro i m a hi hm hc
  obtain⟨m,rfl⟩:∃m',m=m'+1:=⟨m-1,by omega⟩
  rw[ZF,qh (by omega),List.drop_eq_nil_of_le (by omega),List.flatMap_nil,List.append_nil];rfl
 |succ k ih=>
  intro i m a hi hm hc
  obtain⟨m,rfl⟩:∃m',m=m'+1:=⟨m-1,by omega⟩
  have hlt:i<ls.length:=by omega
  have hx:ls[i]? =some ls[i]:=List.getElem?_eq_getElem hlt
  have hd:ls.drop i=ls[i]::ls.drop (i+1):=List.drop_eq_getElem_cons hlt
  rw[hd] at hc⊢
  have hm':=hb ls[i] (List.getElem_mem hlt)
  generalize ls[i]=x at hx hc hm'⊢
  rw[ZF,qg hx,gY hx,oP (by omega),cond_true]
  have hsz:jm ig (x::ls.drop (i+1))=(ig x).length+jm ig (ls.drop (i+1)):=rfl
  have h:=ih (i+1) m (a++ig x) (by omega) (by omega) (by rw[List.length_append];omega)
  rw[List.append_assoc] at h
  exact bs rfl (bs (akL (by omega) hn) (gR (jG (by omega) (by decide)) h))
theorem rOf {n:Nat} {t:Int} {ls:List (List UInt8)} (hb:∀x∈ls,x.length<2^28) (hs:1+jm ig ls<2^28) (hsn:1+jm ig ls<n) (hl:ls.length<n) (hn:200<n) (hlen:ls.length<2^62):Ar n (t,ls)=some (lJ t ls):=by
 rw[ajX]
 have h1:Ak n (t,ls)=some (AY t ls):=by
  rw[ajR]
  refine bs (akU hb hlen (by omega) ls.length 0 n _ (by omega) hl (by rw[List.drop_zero,List.length_singleton];omega)) ?_
  rw[List.drop_zero];rfl
 have aoG:(AY t ls).length=1+jm ig ls:=by unfold AY;rw[List.length_append,List.length_singleton,Ku]
 have h2:Ap n (AY t ls)=some (lJ t ls):=by
  rw[akD,akB (akT t hb) (by omega) (by omega) (by omega)];rfl
 exact bs h1 (bs h2 rfl)
end Sh
end
