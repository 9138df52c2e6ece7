/- Part of the proof of a law. -/
import Derived.IntWalk
import Derived.KernelRfl
import Derived.Test.YtdcnajadcbedkaaGreatDoorS1119
set_option linter.all false
set_option linter.unusedSimpArgs false
set_option linter.unusedSectionVars false
section
open Go Go.Proofs Aq
namespace Sh
set_option linter.unusedVariables false
theorem Qp {α:Type} (l:List α) (i:Nat):aQ l (i:Int)=l[i]? :=by
 unfold aQ
 by_cases h:i<l.length
 ·rw[if_pos ⟨by omega,by omega⟩];simp
 ·rw[if_neg (by omega)];simp;omega
theorem nQ {α:Type} {l:List α} {i:Nat} {x:α} (h:l[i]? =some x):aQ l (i:Int)=some x:=by rw[Qp,h]
theorem ahR {α:Type} {l:List α} {i:Nat} {x:α} (h:l[i]? =some x):i<l.length:=by
 rw[List.getElem?_eq_some_iff] at h;exact h.1
theorem uH {α:Type} {l:List α} {i:Nat} {x:α} (h:l[i]? =some x):decide ((i:Int)< ((l.length:Nat):Int))=true:=by
 have:=ahR h;simp;omega
theorem mV {i:Nat} (h:i<2^62):IntKind.wrap .i64 ((i:Int)+(1:Int))=((i+1:Nat):Int):=by
 rw[IntKind.wrap_i64];omega
theorem uI {α:Type} {l:List α} {i:Nat} (h:l.length≤i):decide ((i:Int)< ((l.length:Nat):Int))=false:=by simp;omega
theorem bs {α β:Type} {o:Option α} {a:α} {f:α→Option β} {r:Option β} (h:o=some a) (k:f a=r):o.bind f=r:=by
 rw[h];exact k
theorem ahS {a k:Nat} (h:a<2^30) (hk:k≤2^12):bX a k=true:=by
 unfold bX
 have h1:a*k≤2^30*2^12:=Nat.mul_le_mul (Nat.le_of_lt h) hk
 have e:(2:Nat)^30*2^12≤2^47:=by decide
 rw[Bool.and_eq_true,decide_eq_true_iff,decide_eq_true_iff]
 exact⟨by omega,by omega⟩
theorem XO {i:Nat} (h:0<i) (hb:i<2^62):IntKind.wrap .i64 ((i:Int)-(1:Int))=((i-1:Nat):Int):=by
 rw[IntKind.wrap_i64];omega
theorem XP {a b:Nat} (h:a+b<2^62):IntKind.wrap .i64 ((((a:Nat):Int))+(((b:Nat):Int)))=((a+b:Nat):Int):=by
 rw[IntKind.wrap_i64];omega
theorem ahT {x:Int} (h:0≤x):IntKind.wrap IntKind.u64 (Int.tdiv x 128)=IntKind.wrap IntKind.u64 (x/128):=by rw[Int.tdiv_eq_ediv_of_nonneg h]
theorem bT {α:Type} {c:Bool} {a b r:Option α} (h:c=true) (k:a=r):(bif c then a else b)=r:=by rw[h];exact k
theorem bF {α:Type} {c:Bool} {a b r:Option α} (h:c=false) (k:b=r):(bif c then a else b)=r:=by rw[h];exact k
end Sh
end
section
open Go Go.Proofs Aq
namespace Sh
theorem sj {i:Int} {n:Nat} (h:0≤i∧i<n):dQ i n=true:=decide_eq_true h
theorem Qq {i:Int} {n:Nat} (h:0≤i∧i≤n):fB i n=true:=decide_eq_true h
def rotl (x k:Int):Int:=iZ IntKind.u32 (jP IntKind.u32 x (fA IntKind.u64 (IntKind.wrap IntKind.u64 k) 31)) (jQ IntKind.u32 x (IntKind.wrap IntKind.u64 (32-fA IntKind.u64 (IntKind.wrap IntKind.u64 k) 31)))
theorem XQ (x:Int):0≤IntKind.wrap IntKind.u64 x:=by rw[IntKind.wrap_u64];exact Int.emod_nonneg _ (by decide)
theorem yQ (n:Nat) (x k:Int):rZ n (x,k)=some (rotl x k):=by
 rw[ahG,decide_eq_true (show (0:Int)≤fA IntKind.u64 (IntKind.wrap IntKind.u64 k) 31 from XQ _),decide_eq_true (XQ _)]
 rfl
def xw (x a b c:Int):Int:=dh IntKind.u32 (dh IntKind.u32 (rotl x (IntKind.wrap IntKind.i64 (0-a))) (rotl x (IntKind.wrap IntKind.i64 (0-b)))) (rotl x (IntKind.wrap IntKind.i64 (0-c)))
theorem XR (n:Nat) (x a b c:Int):yL n (x,(a,(b,c)))=some (xw x a b c):=by
 rw[ahI,yQ,yQ,yQ]
 rfl
theorem yR {i:Int} (h0:0≤i) (h:i<2^62):IntKind.wrap .i64 (i+(1:Int))=i+1:=by rw[IntKind.wrap_i64];omega
theorem dH {i:Int} (h0: -(2^62)≤i) (h:i<2^62):IntKind.wrap .i64 i=i:=by rw[IntKind.wrap_i64];omega
end Sh
end
section
open Go Go.Proofs Aq
namespace Sh
theorem ahU {a k:Nat} (h:a<2^30) (hk:k≤2^12):bX a k=true:=ahS h hk
theorem ahV {x:Int} (h0:0≤x):0≤jQ IntKind.u64 x 7∧jQ IntKind.u64 x 7=x/128:=by
 have e:jQ IntKind.u64 x 7=x.fdiv (2^7):=rfl
 rw[e,Int.fdiv_eq_ediv_of_nonneg x (by decide)]
 exact⟨Int.ediv_nonneg h0 (by decide),rfl⟩
end Sh
end
section
open Go Go.Proofs Aq
namespace Sh
theorem XT (k:IntKind) (a b:Int):iZ k a b=iZ k b a:=by unfold iZ;rw[BitVec.or_comm]
theorem ahW (k:IntKind) (a b:Int):dh k a b=dh k b a:=by unfold dh;rw[BitVec.xor_comm]
def iT (x k:Int):Int:=iZ IntKind.u32 (jQ IntKind.u32 x k) (jP IntKind.u32 x (IntKind.wrap IntKind.i64 (32-k)))
theorem uJ {x k j i:Int} (h1:fA IntKind.u64 (IntKind.wrap IntKind.u64 k) 31=i) (h2:IntKind.wrap IntKind.u64 (32-i)=j) (h3:IntKind.wrap IntKind.i64 (32-j)=i):rotl x k=iT x j:=by
 unfold rotl iT
 rw[h1,h2,h3,XT]
theorem XU (x:Int) {a b c:Int} (ha:rotl x (IntKind.wrap IntKind.i64 (0-a))=iT x a) (hb:rotl x (IntKind.wrap IntKind.i64 (0-b))=iT x b) (hc:rotl x (IntKind.wrap IntKind.i64 (0-c))=iT x c):
 xw x a b c=dh IntKind.u32 (dh IntKind.u32 (iT x a) (iT x b)) (iT x c):=by
 unfold xw;rw[ha,hb,hc]
theorem ahX (x:Int):xw x 6 11 25=dh IntKind.u32 (dh IntKind.u32 (iT x 6) (iT x 11)) (iT x 25):=
 XU x (uJ (i:=26) (by decide) (by decide) (by decide)) (uJ (i:=21) (by decide) (by decide) (by decide)) (uJ (i:=7) (by decide) (by decide) (by decide))
theorem ahY (x:Int):xw x 2 13 22=dh IntKind.u32 (dh IntKind.u32 (iT x 2) (iT x 13)) (iT x 22):=
 XU x (uJ (i:=30) (by decide) (by decide) (by decide)) (uJ (i:=19) (by decide) (by decide) (by decide)) (uJ (i:=10) (by decide) (by decide) (by decide))
theorem ahZ (x:Int):rotl x (-7)=iT x 7:=uJ (i:=25) (by decide) (by decide) (by decide)
theorem ah0 (x:Int):rotl x (-18)=iT x 18:=uJ (i:=14) (by decide) (by decide) (by decide)
theorem ah1 (x:Int):rotl x (-17)=iT x 17:=uJ (i:=15) (by decide) (by decide) (by decide)
theorem ah2 (x:Int):rotl x (-19)=iT x 19:=uJ (i:=13) (by decide) (by decide) (by decide)
theorem Ki {a b:Int} (k:Nat) (ha0:0≤a) (ha:a% 2^k=0) (ha1:a<2^32) (hb0:0≤b) (hb1:b<2^k) (hk:k≤32):iZ IntKind.u32 a b=a+b:=by
 obtain⟨c,rfl⟩:∃c:Nat,a=((c*2^k:Nat):Int):=by
  refine⟨(a/2^k).toNat, ?_⟩
  have h1:=Int.mul_ediv_add_emod a (2^k)
  rw[ha,Int.add_zero] at h1
  have h2:0≤a/2^k:=Int.ediv_nonneg ha0 (Int.pow_nonneg (by decide))
  rw[Int.natCast_mul,Int.toNat_of_nonneg h2,Int.mul_comm]
  push_cast
  exact h1.symm
 obtain⟨d,rfl⟩:∃d:Nat,b=(d:Int):=⟨b.toNat,(Int.toNat_of_nonneg hb0).symm⟩
 have hd:d<2^k:=by exact_mod_cast hb1
 have hkk:2^k≤2^32:=Nat.pow_le_pow_right (by decide) hk
 have hc:c*2^k<2^32:=by exact_mod_cast ha1
 have hsum:c*2^k|||d=c*2^k+d:=by
  rw[←Nat.shiftLeft_eq,Nat.shiftLeft_add_eq_or_of_lt hd]
 have hlt:c*2^k|||d<2^32:=Nat.or_lt_two_pow hc (by omega)
 unfold iZ
 have e1:(BitVec.ofInt IntKind.u32.bits ((c*2^k:Nat):Int)|||BitVec.ofInt IntKind.u32.bits ((d:Nat):Int)).toNat=c*2^k+d:=by
  rw[BitVec.toNat_or]
  simp only[BitVec.ofInt_natCast,BitVec.toNat_ofNat]
  show (c*2^k)% 2^32|||d% 2^32=_
  rw[Nat.mod_eq_of_lt hc,Nat.mod_eq_of_lt (by omega),hsum]
 rw[e1,IntKind.wrap_u32]
 have:c*2^k+d<2^32:=by omega
 omega
end Sh
end
section
open Go Go.Proofs Aq
namespace Sh
theorem ah3 {n:Nat} {v w:Vec n} (h:v.l=w.l):v=w:=by cases v;cases w;cases h;rfl
theorem at_set {n:Nat} (v:Vec n) {i:Int} (y:Int) (h0:0≤i) (h1:i<n):(v.set i y).at' i=y:=by
 show (v.l.set i.toNat y).getD i.toNat 0=y
 rw[List.getD_eq_getElem?_getD,List.getElem?_set_self (by rw[v.h];omega)];rfl
theorem ah4 {n:Nat} (v:Vec n) {i j:Int} (y:Int) (h0:0≤i) (h1:0≤j) (h:i≠j):(v.set i y).at' j=v.at' j:=by
 show (v.l.set i.toNat y).getD j.toNat 0=v.l.getD j.toNat 0
 rw[List.getD_eq_getElem?_getD,List.getElem?_set_ne (by omega),List.getD_eq_getElem?_getD]
theorem Qr {n:Nat} (v:Vec n) (i a b:Int):(v.set i a).set i b=v.set i b:=ah3 (List.set_set ..)
def bN (l:List Int):Prop:=∀x∈l,0≤x∧x<256
theorem Kj {l:List Int} (h:bN l) (i:Nat):0≤l.getD i 0∧l.getD i 0<256:=by
 rw[List.getD_eq_getElem?_getD]
 cases hi:l[i]? with
 |none=>exact⟨Int.le_refl _,by decide⟩
 |some x=>exact h x (List.mem_of_getElem? hi)
theorem wrap32 {x:Int} (h0:0≤x) (h1:x<2^32):IntKind.wrap IntKind.u32 x=x:=by rw[IntKind.wrap_u32];omega
def Qs (a b c d:Int):Int:=iZ IntKind.u32 (iZ IntKind.u32 (iZ IntKind.u32 (jP IntKind.u32 (IntKind.wrap IntKind.u32 a) 24) (jP IntKind.u32 (IntKind.wrap IntKind.u32 b) 16)) (jP IntKind.u32 (IntKind.wrap IntKind.u32 c) 8)) (IntKind.wrap IntKind.u32 d)
theorem Kk {x:Int} (k:Nat) (h0:0≤x) (h1:x*2^k<2^32) (hk:k≤32):jP IntKind.u32 x (k:Nat)=x*2^k:=by
 unfold jP
 have:min (((k:Nat):Int)).toNat IntKind.u32.bits=k:=by show min (((k:Nat):Int)).toNat 32=k;rw[Int.toNat_natCast];omega
 rw[this,wrap32 (Int.mul_nonneg h0 (Int.pow_nonneg (by decide))) h1]
theorem ah5 {a b c d:Int} (ha:0≤a∧a<256) (hb:0≤b∧b<256) (hc:0≤c∧c<256) (hd:0≤d∧d<256):Qs a b c d=a*2^24+b*2^16+c*2^8+d:=by
 unfold Qs
 rw[wrap32 (by omega) (by omega),wrap32 (by omega) (by omega),wrap32 (by omega) (by omega),wrap32 (by omega) (by omega)]
 rw[show jP IntKind.u32 a 24=a*2^24 from Kk 24 (by omega) (by omega) (by decide),show jP IntKind.u32 b 16=b*2^16 from Kk 16 (by omega) (by omega) (by decide),show jP IntKind.u32 c 8=c*2^8 from Kk 8 (by omega) (by omega) (by decide)]
 have h1:iZ IntKind.u32 (a*2^24) (b*2^16)=a*2^24+b*2^16:=Ki 24 (by omega) (by omega) (by omega) (by omega) (by omega) (by decide)
 have h2:iZ IntKind.u32 (a*2^24+b*2^16) (c*2^8)=a*2^24+b*2^16+c*2^8:=Ki 16 (by omega) (by omega) (by omega) (by omega) (by omega) (by decide)
 have h3:iZ IntKind.u32 (a*2^24+b*2^16+c*2^8) d=a*2^24+b*2^16+c*2^8+d:=Ki 8 (by omega) (by omega) (by omega) (by omega) (by omega) (by decide)
 rw[h1,h2,h3]
theorem Kl {x d:Int} (h0:0≤x) (h1:x<2^24) (hd:0≤d∧d<256):iZ IntKind.u32 (jP IntKind.u32 x 8) (IntKind.wrap IntKind.u32 d)=x*256+d:=by
 rw[wrap32 (by omega) (by omega),show jP IntKind.u32 x 8=x*2^8 from Kk 8 (by omega) (by omega) (by decide),Ki 8 (by omega) (by omega) (by omega) (by omega) (by omega) (by decide)];omega
def Qt (x:List Int) (i:Int):Int:=Qs (x.getD (4*i.toNat) 0) (x.getD (4*i.toNat+1) 0) (x.getD (4*i.toNat+2) 0) (x.getD (4*i.toNat+3) 0)
theorem ah6 {n m:Nat} {x1:List Int} {i:Int} (h:x1.length=64) (h0:0≤i) (h1:i<16) (hb:bN x1) (v:Vec 64) (hv:v.at' i=0):yO n x1 i (m+5) (0,v)=some ((),v.set i (Qt x1 i)):=by
 have hl:List.drop (Int.toNat (IntKind.wrap IntKind.i64 (4*i))) (List.take (Int.toNat (IntKind.wrap IntKind.i64 (IntKind.wrap IntKind.i64 (4*i)+4))) x1)=[x1.getD (4*i.toNat) 0,x1.getD (4*i.toNat+1) 0,x1.getD (4*i.toNat+2) 0,x1.getD (4*i.toNat+3) 0]:=by
  rw[dH (i:=4*i) (by omega) (by omega),dH (by omega) (by omega)]
  apply List.ext_getElem?
  intro j
  rw[List.getElem?_drop]
  by_cases hj:j<4
  ·rw[List.getElem?_take_of_lt (by omega)]
   have e:(4*i).toNat+j=4*i.toNat+j:=by omega
   rw[e]
   have hg:∀k,k<64→x1[k]? =some (x1.getD k 0):=fun k hk=>by rw[List.getD_eq_getElem?_getD,List.getElem?_eq_getElem (by omega)];rfl
   rw[hg _ (by omega)]
   rcases j with _|_|_|_|j
   all_goals first| (exact absurd hj (by omega))|rfl
  ·rw[List.getElem?_eq_none (by rw[List.length_take];omega),List.getElem?_eq_none (by simp;omega)]
 have ba:=Kj hb (4*i.toNat)
 have bb:=Kj hb (4*i.toNat+1)
 have bc:=Kj hb (4*i.toNat+2)
 have bd:=Kj hb (4*i.toNat+3)
 unfold Qt
 generalize x1.getD (4*i.toNat) 0=a at hl ba⊢
 generalize x1.getD (4*i.toNat+1) 0=b at hl bb⊢
 generalize x1.getD (4*i.toNat+2) 0=c at hl bc⊢
 generalize x1.getD (4*i.toNat+3) 0=d at hl bd⊢
 have hin:dQ i 64=true:=sj ⟨h0,by omega⟩
 have st:∀(m:Nat) (x4:Int) (x5:Vec 64) (y:Int),aQ [a,b,c,d] x4=some y→0≤x4→x4<4→yO n x1 i (m+1) (x4,x5)=yO n x1 i m (x4+1,x5.set i (iZ IntKind.u32 (jP IntKind.u32 (x5.at' i) 8) (IntKind.wrap IntKind.u32 y))):=by
  intro m x4 x5 y hy k0 k1
  rw[XE,hl,decide_eq_true (show x4< (([a,b,c,d]:List Int).length:Nat) by simp;omega),hy,hin,yR k0 (by omega)]
  rfl
 rw[st (m+4) 0 v a rfl (by decide) (by decide),st (m+3) (0+1) _ b rfl (by decide) (by decide),st (m+2) (0+1+1) _ c rfl (by decide) (by decide),st (m+1) (0+1+1+1) _ d rfl (by decide) (by decide)]
 rw[XE,hl]
 rw[hv,at_set _ _ h0 (by show i<64;omega),at_set _ _ h0 (by show i<64;omega),at_set _ _ h0 (by show i<64;omega),Qr,Qr,Qr]
 have e1:=Kl (x:=0) (d:=a) (by decide) (by decide) ba
 rw[e1,Kl (by omega) (by omega) bb,Kl (by omega) (by omega) bc,Kl (by omega) (by omega) bd,ah5 ba bb bc bd]
 have e2:(((0*256+a)*256+b)*256+c)*256+d=a*2^24+b*2^16+c*2^8+d:=by omega
 rw[e2]
 rfl
end Sh
end
section
open Go Go.Proofs Aq
namespace Sh
def Qu (w:Vec 64) (i:Int):Vec 64:=w.set i (IntKind.wrap IntKind.u32 (IntKind.wrap IntKind.u32 (IntKind.wrap IntKind.u32 (w.at' (i-16)+dh IntKind.u32 (dh IntKind.u32 (iT (w.at' (i-15)) 7) (iT (w.at' (i-15)) 18)) (jQ IntKind.u32 (w.at' (i-15)) 3))+w.at' (i-7))+
 dh IntKind.u32 (dh IntKind.u32 (iT (w.at' (i-2)) 17) (iT (w.at' (i-2)) 19)) (jQ IntKind.u32 (w.at' (i-2)) 10)))
def XV (x:List Int) (w:Vec 64) (i:Int):Vec 64:=w.set i (Qt x i)
def oM {α:Type} (f:α→Int→α):Nat→Int→α→α
 |0,_,w=>w
 |k+1,i,w=>oM f k (i+1) (f w i)
def Km (x:List Int):Vec 64:=oM Qu 48 16 (oM (XV x) 16 0 (Vec.rep 64 0))
theorem hS2 {n:Nat} {x:List Int}:∀(k:Nat) (i:Int) (w:Vec 64) (m:Nat),i+k=64→16≤i→k<m→yP n x m (i,w)=some ((),oM Qu k i w):=by
 intro k
 induction k with
 |zero=>
  intro i w m hi h16 hm
  obtain⟨m,rfl⟩:∃q,m=q+1:=⟨m-1,by omega⟩
  rw[Qn,decide_eq_false (by omega)];rfl
 |succ k ih=>
  intro i w m hi h16 hm
  obtain⟨m,rfl⟩:∃q,m=q+1:=⟨m-1,by omega⟩
  rw[Qn,decide_eq_true (show i<64 by omega),decide_eq_false (show¬i<16 by omega),cond_true,cond_false]
  rw[dH (i:=i-15) (by omega) (by omega),dH (i:=i-2) (by omega) (by omega),dH (i:=i-16) (by omega) (by omega),dH (i:=i-7) (by omega) (by omega),yR (by omega) (by omega)]
  rw[sj (i:=i-15) ⟨by omega,by omega⟩,sj (i:=i-2) ⟨by omega,by omega⟩,sj (i:=i-16) ⟨by omega,by omega⟩,sj (i:=i-7) ⟨by omega,by omega⟩,sj (i:=i) ⟨by omega,by omega⟩]
  rw[yQ,yQ,yQ,yQ,ahZ,ah0,ah1,ah2]
  exact ih (i+1) _ m (by omega) (by omega) (by omega)
theorem hS1 {n:Nat} {x:List Int} (hx:x.length=64) (hb:bN x) (hn:60<n):∀(k:Nat) (i:Int) (w:Vec 64) (m:Nat),i+k=16→0≤i→(∀j,i≤j→w.at' j=0)→k+48<m→yP n x m (i,w)=some ((),oM Qu 48 16 (oM (XV x) k i w)):=by
 intro k
 induction k with
 |zero=>
  intro i w m hi h0 hw hm
  obtain rfl:i=16:=by omega
  exact hS2 48 16 w m (by decide) (by decide) (by omega)
 |succ k ih=>
  intro i w m hi h0 hw hm
  obtain⟨m,rfl⟩:∃q,m=q+1:=⟨m-1,by omega⟩
  rw[Qn,decide_eq_true (show i<64 by omega),decide_eq_true (show i<16 by omega),cond_true,cond_true]
  rw[dH (i:=4*i) (by omega) (by omega),dH (i:=4*i+4) (by omega) (by omega),yR (by omega) (by omega)]
  rw[Qq (i:=4*i+4) ⟨by omega,by omega⟩,Qq (i:=4*i) ⟨by omega,by omega⟩,Bool.and_self,cond_true]
  obtain⟨q,rfl⟩:∃q,n=q+5:=⟨n-5,by omega⟩
  rw[ah6 hx h0 (by omega) hb w (hw i (Int.le_refl _))]
  exact ih (i+1) _ m (by omega) (by omega) (fun j hj=>by rw[ah4 _ _ h0 (by omega) (by omega)];exact hw j (by omega)) (by omega)
theorem ah7 {n:Nat} {x:List Int} (hx:x.length=64) (hb:bN x) (hn:70<n):BU n x=some (Km x):=by
 rw[ahH]
 have h:=hS1 (n:=n) hx hb (by omega) 16 0 (Vec.rep 64 0) n (by decide) (by decide) (fun j _=>by
  show (List.replicate 64 (0:Int)).getD j.toNat 0=0
  rw[List.getD_eq_getElem?_getD,List.getElem?_replicate]
  split<;>rfl) (by omega)
 rw[h];rfl
end Sh
end
section
open Go Go.Proofs Aq
namespace Sh
def tF (h a b c k w:Int):Int:=IntKind.wrap IntKind.u32 (IntKind.wrap IntKind.u32 (IntKind.wrap IntKind.u32 (IntKind.wrap IntKind.u32 (h+dh IntKind.u32 (dh IntKind.u32 (iT a 6) (iT a 11)) (iT a 25))+dh IntKind.u32 (fA IntKind.u32 a b) (fA IntKind.u32 (dh IntKind.u32 a 4294967295) c))+k)+w)
def uF (a b c:Int):Int:=IntKind.wrap IntKind.u32 (dh IntKind.u32 (dh IntKind.u32 (iT a 2) (iT a 13)) (iT a 22)+dh IntKind.u32 (dh IntKind.u32 (fA IntKind.u32 a b) (fA IntKind.u32 a c)) (fA IntKind.u32 b c))
def Qv (w:Vec 64) (s:Vec 8) (i:Int):Vec 8:=
 Vec.lit 8 [IntKind.wrap IntKind.u32 (tF (s.at' 7) (s.at' 4) (s.at' 5) (s.at' 6) (xg.at' i) (w.at' i)+uF (s.at' 0) (s.at' 1) (s.at' 2)),s.at' 0,s.at' 1,s.at' 2,IntKind.wrap IntKind.u32 (s.at' 3+tF (s.at' 7) (s.at' 4) (s.at' 5) (s.at' 6) (xg.at' i) (w.at' i)),s.at' 4,s.at' 5,s.at' 6]
def XW (v s:Vec 8) (i:Int):Vec 8:=s.set i (IntKind.wrap IntKind.u32 (s.at' i+v.at' i))
def XY (v e:Vec 4) (s:Vec 8) (i:Int):Vec 8:=(s.set i (IntKind.wrap IntKind.u32 (s.at' i+v.at' i))).set (i+4) (IntKind.wrap IntKind.u32 ((s.set i (IntKind.wrap IntKind.u32 (s.at' i+v.at' i))).at' (i+4)+e.at' i))
def cat (v e:Vec 4):Vec 8:=Vec.lit 8 (v.l++e.l)
theorem Kn (v:Vec 4):∃a b c d,v=Vec.lit 4 [a,b,c,d]:=by
 obtain⟨l,h⟩:=v
 match l,h with
 | [a,b,c,d],_=>exact⟨a,b,c,d,rfl⟩
theorem XZ (v:Vec 8):∃a b c d e f g h,v=Vec.lit 8 [a,b,c,d,e,f,g,h]:=by
 obtain⟨l,hl⟩:=v
 match l,hl with
 | [a,b,c,d,e,f,g,h],_=>exact⟨a,b,c,d,e,f,g,h,rfl⟩
theorem add_eq (v e:Vec 4) (s:Vec 8):oM (XY v e) 4 0 s=oM (XW (cat v e)) 8 0 s:=by
 obtain⟨a,b,c,d,rfl⟩:=Kn v
 obtain⟨a',b',c',d',rfl⟩:=Kn e
 obtain⟨s0,s1,s2,s3,s4,s5,s6,s7,rfl⟩:=XZ s
 kernel_rfl
theorem ah8 (s:Vec 8):cat (s.slc 0 4) (s.slc 4 4)=s:=by
 obtain⟨s0,s1,s2,s3,s4,s5,s6,s7,rfl⟩:=XZ s
 kernel_rfl
def vL (h:Vec 8) (x:List Int):Vec 8:=oM (XW (oM (Qv (Km x)) 64 0 h)) 8 0 h
theorem ah9 (w:Vec 64) (v e:Vec 4) (i:Int):cat (Vec.lit 4 [IntKind.wrap IntKind.u32 (IntKind.wrap IntKind.u32 (IntKind.wrap IntKind.u32 (IntKind.wrap IntKind.u32 (IntKind.wrap IntKind.u32 (e.at' 3+xw (e.at' 0) 6 11 25)+dh IntKind.u32 (fA IntKind.u32 (e.at' 0) (e.at' 1)) (fA IntKind.u32 (dh IntKind.u32 4294967295 (e.at' 0)) (e.at' 2)))+xg.at' i)+w.at' i)+IntKind.wrap IntKind.u32 (xw (v.at' 0) 2 13 22+dh IntKind.u32 (dh IntKind.u32 (fA IntKind.u32 (v.at' 0) (v.at' 1)) (fA IntKind.u32 (v.at' 0) (v.at' 2))) (fA IntKind.u32 (v.at' 1) (v.at' 2)))),v.at' 0,v.at' 1,v.at' 2])
 (Vec.lit 4 [IntKind.wrap IntKind.u32 (v.at' 3+IntKind.wrap IntKind.u32 (IntKind.wrap IntKind.u32 (IntKind.wrap IntKind.u32 (IntKind.wrap IntKind.u32 (e.at' 3+xw (e.at' 0) 6 11 25)+dh IntKind.u32 (fA IntKind.u32 (e.at' 0) (e.at' 1)) (fA IntKind.u32 (dh IntKind.u32 4294967295 (e.at' 0)) (e.at' 2)))+xg.at' i)+w.at' i)),e.at' 0,e.at' 1,e.at' 2])=Qv w (cat v e) i:=by
 obtain⟨a,b,c,d,rfl⟩:=Kn v
 obtain⟨a',b',c',d',rfl⟩:=Kn e
 rw[ahX,ahY,ahW IntKind.u32 4294967295]
 rfl
theorem hR {n:Nat} {x1:Vec 8} {w:Vec 64}:∀(k:Nat) (i:Int) (v e:Vec 4) (m:Nat),i+k=64→0≤i→k<m→∃v' e',Ci n x1 w m (i,(v,e))=some ((),(v',e'))∧cat v' e'=oM (Qv w) k i (cat v e):=by
 intro k
 induction k with
 |zero=>
  intro i v e m hi h0 hm
  obtain⟨m,rfl⟩:∃q,m=q+1:=⟨m-1,by omega⟩
  refine⟨v,e, ?_,rfl⟩
  rw[XF,decide_eq_false (by omega)];rfl
 |succ k ih=>
  intro i v e m hi h0 hm
  obtain⟨m,rfl⟩:∃q,m=q+1:=⟨m-1,by omega⟩
  obtain⟨v',e',h1,h2⟩:=ih (i+1) _ _ m (by omega) (by omega) (by omega)
  rw[ah9] at h2
  refine⟨v',e', ?_,h2⟩
  rw[XF,decide_eq_true (show i<64 by omega),cond_true,sj (i:=i) (n:=64) ⟨by omega,by omega⟩,yR (by omega) (by omega),XR,XR]
  exact h1
theorem hA {n:Nat} {v e:Vec 4}:∀(k:Nat) (i:Int) (s:Vec 8) (m:Nat),i+k=4→0≤i→k<m→Cj n ((),(v,e)) m (i,s)=some ((),oM (XY v e) k i s):=by
 intro k
 induction k with
 |zero=>
  intro i s m hi h0 hm
  obtain⟨m,rfl⟩:∃q,m=q+1:=⟨m-1,by omega⟩
  rw[XG,decide_eq_false (by omega)];rfl
 |succ k ih=>
  intro i s m hi h0 hm
  obtain⟨m,rfl⟩:∃q,m=q+1:=⟨m-1,by omega⟩
  rw[XG,decide_eq_true (show i<4 by omega),cond_true,sj (i:=i) (n:=8) ⟨by omega,by omega⟩,sj (i:=i) (n:=4) ⟨by omega,by omega⟩,yR (by omega) (by omega),dH (i:=i+4) (by omega) (by omega),sj (i:=i+4) (n:=8) ⟨by omega,by omega⟩]
  exact ih (i+1) _ m (by omega) (by omega) (by omega)
theorem hcomp {n:Nat} {h:Vec 8} {x:List Int} (hx:x.length=64) (hb:bN x) (hn:70<n):BX n (h,x)=some (vL h x):=by
 rw[ahJ,ah7 hx hb hn]
 obtain⟨v',e',h1,h2⟩:=hR (n:=n) (x1:=h) (w:=Km x) 64 0 (h.slc 0 4) (h.slc 4 4) n (by decide) (by decide) (by omega)
 show ((Ci n h (Km x) n (0,(h.slc 0 4,h.slc 4 4))).bind _)=_
 rw[h1]
 show ((Cj n ((),(v',e')) n (0,h)).bind _)=_
 rw[hA 4 0 h n (by decide) (by decide) (by omega),add_eq,h2,ah8]
 rfl
end Sh
end
section
open Go Go.Proofs Aq
namespace Sh
def yS:Nat→Vec 8→List Int→Vec 8
 |0,h,_=>h
 |k+1,h,l=>yS k (vL h (l.take 64)) (l.drop 64)
theorem aia:∀(q:Nat) (h:Vec 8) (d b:List Int),d.length=64*q→b.length=64→yS (q+1) h (d++b)=vL (yS q h d) b:=by
 intro q
 induction q with
 |zero=>
  intro h d b hd hb
  obtain rfl:d=[]:=List.eq_nil_of_length_eq_zero (by omega)
  show vL h (b.take 64)=vL h b
  rw[List.take_of_length_le (by omega)]
 |succ q ih=>
  intro h d b hd hb
  show yS (q+1) (vL h ((d++b).take 64)) ((d++b).drop 64)=vL (yS q (vL h (d.take 64)) (d.drop 64)) b
  rw[List.take_append_of_le_length (by omega),List.drop_append_of_le_length (by omega)]
  exact ih _ _ _ (by rw[List.length_drop];omega) hb
def IV:Vec 8:=Vec.lit 8 [1779033703,3144134277,1013904242,2773480762,1359893119,2600822924,528734635,1541459225]
def lQ (l:List UInt8):List Int:=l.map fun b=>((b.toNat:Nat):Int)
def yT (l:List Int):List UInt8:=l.map fun n=>UInt8.ofNat n.toNat
theorem X0 (l:List UInt8):bN (lQ l):=by
 intro x hx
 obtain⟨b,_,rfl⟩:=List.mem_map.1 hx
 have:=UInt8.toNat_lt b
 omega
theorem Qw {l:List Int} (h:bN l):lQ (yT l)=l:=by
 unfold lQ yT
 rw[List.map_map]
 conv=>rhs;rw[←List.map_id l]
 apply List.map_congr_left
 intro x hx
 obtain⟨h0,h1⟩:=h x hx
 show ((UInt8.ofNat x.toNat).toNat:Int)=x
 rw[UInt8.toNat_ofNat_of_lt' (show x.toNat<256 by omega)]
 omega
theorem aib (l:List UInt8):(lQ l).length=l.length:=List.length_map ..
theorem Cq (l:List Int):(yT l).length=l.length:=List.length_map ..
theorem uK {l m:List Int} (h:bN l) (g:bN m):bN (l++m):=fun x hx=>(List.mem_append.1 hx).elim (h x) (g x)
theorem aic {l m:List Int} (h:bN (l++m)):bN m:=fun x hx=>h x (List.mem_append_right _ hx)
def uL (bs:List Int) (h:Vec 8) (v:Vec 64) (c:Int):Prop:=
 ∃q done tail,bs=done++tail∧done.length=64*q∧tail.length<64∧h=yS q IV done∧v.l.take tail.length=tail∧c=((bs.length:Nat):Int)∧bN bs
theorem EC {n:Nat} {l:List Int} (h:l.length=n):(Vec.lit n l).l=l:=by unfold Vec.lit;rw[dif_pos h]
theorem X3 {x:Int} (h0:0≤x) (h1:x<2^62):IntKind.wrap IntKind.u64 x=x:=by rw[IntKind.wrap_u64];omega
theorem hAdd {n:Nat} (hn:70<n):∀(k:Nat) (text:List UInt8) (bs:List Int) (h:Vec 8) (v:Vec 64) (c:Int) (m:Nat),text.length≤k→uL bs h v c→bs.length+text.length<2^61→k<m→
 ∃h' v' c',Ck n m (text,(h,(v,c)))=some ((),(h',(v',c')))∧uL (bs++lQ text) h' v' c':=by
 intro k
 induction k with
 |zero=>
  intro text bs h v c m hk hs hl hm
  obtain⟨m,rfl⟩:∃q,m=q+1:=⟨m-1,by omega⟩
  obtain rfl:text=[]:=List.eq_nil_of_length_eq_zero (by omega)
  refine⟨h,v,c, ?_,by simpa [lQ] using hs⟩
  rw[Qo];rfl
 |succ k ih=>
  intro text bs h v c m hk hs hl hm
  obtain⟨m,rfl⟩:∃q,m=q+1:=⟨m-1,by omega⟩
  by_cases ht:text=[]
  ·subst ht
   refine⟨h,v,c, ?_,by simpa [lQ] using hs⟩
   rw[Qo];rfl
  ·obtain⟨q,done,tail,hb,hd,htl,hh,hv,hc,hB⟩:=hs
   have hpos:0<text.length:=List.length_pos_iff.2 ht
   have hne:(!(text==[]))=true:=by cases text with
    |nil=>exact absurd rfl ht
    |cons a l=>rfl
   have hbl:bs.length=64*q+tail.length:=by rw[hb,List.length_append,hd]
   have aie:Int.tmod c 64=((tail.length:Nat):Int):=by
    rw[hc,Int.tmod_eq_emod_of_nonneg (by omega)];omega
   rw[Qo,hne,cond_true,aie,dH (i:=((tail.length:Nat):Int)) (by omega) (by omega)]
   have hcut:List.take (Int.toNat (64-((tail.length:Nat):Int))) (List.map (fun b:UInt8=>((b.toNat:Nat):Int)) text)=lQ (text.take (64-tail.length)):=by
    unfold lQ
    rw[show Int.toNat (64-((tail.length:Nat):Int))=64-tail.length by omega,List.map_take]
   rw[hcut]
   generalize hj:64-tail.length=j
   have hlen:(lQ (text.take j)).length=min j text.length:=by rw[aib,List.length_take]
   have hsplit:lQ text=lQ (text.take j)++lQ (text.drop j):=by unfold lQ;rw[←List.map_append,List.take_append_drop]
   have hdrop:List.drop (Int.toNat (((lQ (text.take j)).length:Nat):Int)) text=text.drop j:=by
    rw[Int.toNat_natCast,hlen]
    by_cases h:j≤text.length
    ·rw[Nat.min_eq_left h]
    ·rw[Nat.min_eq_right (by omega),List.drop_length,List.drop_of_length_le (by omega)]
   generalize ht':lQ (text.take j)=t at hlen hsplit hdrop⊢
   have Qx:bN t:=ht'▸X0 _
   have hlit:(v.rM ((tail.length:Nat):Int) t).l=tail++t++v.l.drop (tail.length+t.length):=by
    show (Vec.lit 64 (v.l.take (((tail.length:Nat):Int)).toNat++t++v.l.drop ((((tail.length:Nat):Int)).toNat+t.length))).l=_
    rw[Int.toNat_natCast,EC (by rw[hv,List.length_append,List.length_append,List.length_drop,v.h];omega),hv]
   have g1:l6 64 (some ((tail.length:Nat):Int)) none=true:=decide_eq_true ⟨by omega,by omega⟩
   have g2:fB (((t.length:Nat)):Int) text.length=true:=Qq ⟨by omega,by omega⟩
   rw[show (!((64:Int)==0))=true from rfl,cond_true,g1,cond_true,g2,cond_true,dH (by omega) (by omega)]
   have aif:IntKind.wrap IntKind.u64 (c+IntKind.wrap IntKind.u64 ((t.length:Nat):Int))=(((bs++t).length:Nat):Int):=by
    rw[X3 (x:=((t.length:Nat):Int)) (by omega) (by omega),X3 (by omega) (by omega),hc,List.length_append];omega
   rw[aif,hdrop]
   have hrl:(text.drop j).length≤k:=by rw[List.length_drop];omega
   have hnl:(bs++t).length+(text.drop j).length<2^61:=by rw[List.length_append,List.length_drop];omega
   cases hfull:(((tail.length:Nat):Int)+((t.length:Nat):Int)==64) with
   |true=>
    have hf:tail.length+t.length=64:=by have:=eq_of_beq hfull;omega
    have hblk:(v.rM ((tail.length:Nat):Int) t).l=tail++t:=by rw[hlit,List.drop_of_length_le (by rw[v.h];omega),List.append_nil]
    have DT:bN (tail++t):=uK (aic (hb▸hB)) Qx
    rw[cond_true,hblk,hcomp (by rw[List.length_append];omega) DT hn]
    have hs':uL (bs++t) (vL h (tail++t)) (v.rM ((tail.length:Nat):Int) t) (((bs++t).length:Nat):Int):=by
     refine⟨q+1,done++(tail++t),[], ?_, ?_,by decide, ?_,rfl,rfl,uK hB Qx⟩
     ·rw[hb,List.append_nil,List.append_assoc]
     ·rw[List.length_append,List.length_append,hd];omega
     ·rw[aia q IV done (tail++t) hd (by rw[List.length_append];omega),hh]
    obtain⟨h',v',c',e1,e2⟩:=ih _ _ _ _ _ m hrl hs' hnl (by omega)
    refine⟨h',v',c',e1, ?_⟩
    rw[hsplit,←List.append_assoc];exact e2
   |false=>
    have hf:tail.length+t.length≠64:=fun e=>by
     have:(((tail.length:Nat):Int)+((t.length:Nat):Int)==64)=true:=by rw[beq_iff_eq];omega
     rw[this] at hfull;cases hfull
    rw[cond_false]
    have hs':uL (bs++t) h (v.rM ((tail.length:Nat):Int) t) (((bs++t).length:Nat):Int):=by
     refine⟨q,done,tail++t, ?_,hd, ?_,hh, ?_,rfl,uK hB Qx⟩
     ·rw[hb,List.append_assoc]
     ·rw[List.length_append];omega
     ·rw[hlit,List.take_append_of_le_length (Nat.le_refl _),List.take_length]
    obtain⟨h',v',c',e1,e2⟩:=ih _ _ _ _ _ m hrl hs' hnl (by omega)
    refine⟨h',v',c',e1, ?_⟩
    rw[hsplit,←List.append_assoc];exact e2
theorem Qy {n:Nat} {text:List UInt8} {bs:List Int} {h:Vec 8} {v:Vec 64} {c:Int} (hn:70<n) (hs:uL bs h v c) (hl:bs.length+text.length<2^61) (hm:text.length<n):
 ∃h' v' c',vK n ((h,(v,c)),text)=some (h',(v',c'))∧uL (bs++lQ text) h' v' c':=by
 obtain⟨h',v',c',e1,e2⟩:=hAdd hn text.length text bs h v c n (Nat.le_refl _) hs hl hm
 refine⟨h',v',c', ?_,e2⟩
 rw[ahK,e1];rfl
end Sh
end
section
open Go Go.Proofs Aq
namespace Sh
def X4 (c i:Int):Int:=IntKind.wrap IntKind.u8 (jQ IntKind.u64 (IntKind.wrap IntKind.u64 (8*c)) (IntKind.wrap IntKind.i64 (56-IntKind.wrap IntKind.i64 (8*i))))
def yU (c:Int):Nat→Int→List Int
 |0,_=>[]
 |k+1,i=>X4 c i::yU c k (i+1)
theorem X5 (c:Int):∀(k:Nat) (i:Int),(yU c k i).length=k
 |0,_=>rfl
 |k+1,i=>by rw[yU,List.length_cons,X5 c k]
theorem X6 (x:Int):0≤IntKind.wrap IntKind.u8 x∧IntKind.wrap IntKind.u8 x<256:=by
 rw[IntKind.wrap_u8];exact⟨Int.emod_nonneg _ (by decide),Int.emod_lt_of_pos _ (by decide)⟩
theorem X7 (c:Int):∀(k:Nat) (i:Int),bN (yU c k i)
 |0,_=>fun x hx=>by cases hx
 |k+1,i=>fun x hx=>by
  rcases List.mem_cons.1 hx with rfl|hx
  ·exact X6 _
  ·exact X7 c k _ x hx
theorem jD {a k:Nat} (h:a<2^30) (hk:k≤2^12):bX a k=true:=ahU h hk
theorem aii {n:Nat} {x1:Vec 8} {x2:Vec 64} {c:Nat} (hc:c<2^29):∀(z:Nat) (p:List Int) (m:Nat),(c+p.length+z)% 64=56→z<64→p.length+z<2^20→z<m→Fg n x1 x2 (c:Nat) m p=some (p++List.replicate z 0):=by
 intro z
 induction z with
 |zero=>
  intro p m hz h64 hb hm
  obtain⟨m,rfl⟩:∃q,m=q+1:=⟨m-1,by omega⟩
  rw[XI,dH (i:=((c:Nat):Int)) (by omega) (by omega),dH (by omega) (by omega),Int.tmod_eq_emod_of_nonneg (by omega)]
  have:(((c:Nat):Int)+((p.length:Nat):Int))% 64=56:=by omega
  rw[this];simp
 |succ z ih=>
  intro p m hz h64 hb hm
  obtain⟨m,rfl⟩:∃q,m=q+1:=⟨m-1,by omega⟩
  rw[XI,dH (i:=((c:Nat):Int)) (by omega) (by omega),dH (by omega) (by omega),Int.tmod_eq_emod_of_nonneg (by omega)]
  have:((((c:Nat):Int)+((p.length:Nat):Int))% 64 !=56)=true:=by
   rw[bne_iff_ne];omega
  rw[this,show (!((64:Int)==0))=true from rfl,cond_true,cond_true,jD (by simp;omega) (by decide),cond_true,ih (p++[0]) m (by rw[List.length_append,List.length_singleton];omega) (by omega) (by rw[List.length_append,List.length_singleton];omega) (by omega),List.append_assoc]
  rfl
theorem hLen {n:Nat} {x1:Vec 8} {x2:Vec 64} {c:Int}:∀(k:Nat) (i:Int) (p:List Int) (m:Nat),i+k=8→0≤i→p.length+k<2^29→k<m→Cn n x1 x2 c m (p,i)=some (p++yU c k i):=by
 intro k
 induction k with
 |zero=>
  intro i p m hi h0 hb hm
  obtain⟨m,rfl⟩:∃q,m=q+1:=⟨m-1,by omega⟩
  rw[XJ,decide_eq_false (by omega),yU,List.append_nil];rfl
 |succ k ih=>
  intro i p m hi h0 hb hm
  obtain⟨m,rfl⟩:∃q,m=q+1:=⟨m-1,by omega⟩
  rw[XJ,decide_eq_true (show i<8 by omega),cond_true]
  rw[decide_eq_true (show (0:Int)≤IntKind.wrap IntKind.i64 (56-IntKind.wrap IntKind.i64 (8*i)) by rw[dH (i:=8*i) (by omega) (by omega),dH (by omega) (by omega)];omega),cond_true,jD (by simp;omega) (by decide),cond_true,yR h0 (by omega)]
  have:=ih (i+1) (p++[X4 c i]) m (by omega) (by omega) (by rw[List.length_append,List.length_singleton];omega) (by omega)
  rw[List.append_assoc] at this
  exact this
def zpad (c:Nat):Nat:=(55+64-c% 64)% 64
theorem aij (c:Nat):(c+1+zpad c)% 64=56∧zpad c<64:=by unfold zpad;omega
def yV (c:Nat):List Int:=([128]++List.replicate (zpad c) 0)++yU (c:Nat) 8 0
theorem Qz (c:Nat):(yV c).length=1+zpad c+8:=by unfold yV;simp only[List.length_append,List.length_singleton,List.length_replicate,X5]
theorem aik (c:Nat):bN (yV c):=by
 refine uK (uK ?_ ?_) (X7 _ _ _)
 ·intro x hx;rw[List.mem_singleton.1 hx];decide
 ·intro x hx;rw[(List.mem_replicate.1 hx).2];decide
def X8 (h:Vec 8) (o:Vec 32) (i:Int):Vec 32:=o.set i (IntKind.wrap IntKind.u8 (jQ IntKind.u32 (h.at' (IntKind.wrap IntKind.i64 (Int.tdiv i 4))) (IntKind.wrap IntKind.i64 (24-IntKind.wrap IntKind.i64 (8*Int.tmod i 4)))))
def X9 (h:Vec 8):Vec 32:=oM (X8 h) 32 0 (Vec.rep 32 0)
theorem ail {i:Int} (h0:0≤i) (h1:i<32):dQ (IntKind.wrap IntKind.i64 (Int.tdiv i 4)) 8=true∧decide ((0:Int)≤IntKind.wrap IntKind.i64 (24-IntKind.wrap IntKind.i64 (8*Int.tmod i 4)))=true:=by
 rw[Int.tdiv_eq_ediv_of_nonneg h0,Int.tmod_eq_emod_of_nonneg h0,dH (i:=i/4) (by omega) (by omega),dH (i:=8*(i% 4)) (by omega) (by omega),dH (by omega) (by omega)]
 exact⟨sj ⟨by omega,by omega⟩,decide_eq_true (by omega)⟩
theorem hOut {n:Nat} {r9:(Vec 8)×(Vec 64)×Int}:∀(k:Nat) (i:Int) (o:Vec 32) (m:Nat),i+k=32→0≤i→k<m→Co n r9 m (i,o)=some ((),oM (X8 r9.1) k i o):=by
 intro k
 induction k with
 |zero=>
  intro i s m hi h0 hm
  obtain⟨m,rfl⟩:∃q,m=q+1:=⟨m-1,by omega⟩
  rw[XK,decide_eq_false (by omega)];rfl
 |succ k ih=>
  intro i s m hi h0 hm
  obtain⟨m,rfl⟩:∃q,m=q+1:=⟨m-1,by omega⟩
  obtain⟨g1,g2⟩:=ail h0 (show i<32 by omega)
  rw[XK,decide_eq_true (show i<32 by omega),cond_true,g1,g2,sj (i:=i) (n:=32) ⟨by omega,by omega⟩,yR (by omega) (by omega)]
  exact ih (i+1) _ m (by omega) (by omega) (by omega)
def Ko (b:List Int):Vec 32:=X9 (yS ((b.length+(1+zpad b.length+8))/64) IV (b++yV b.length))
theorem ain {n:Nat} {b:List Int} {h:Vec 8} {v:Vec 64} {c:Int} (hs:uL b h v c) (hb:b.length<2^28) (hn:200<n):Cc n (h,(v,c))=some (Ko b):=by
 obtain⟨h1,h2⟩:=aij b.length
 have hc:c=((b.length:Nat):Int):=by obtain⟨_,_,_,_,_,_,_,_,e,_⟩:=hs;exact e
 have hB:bN b:=by obtain⟨_,_,_,_,_,_,_,_,_,e⟩:=hs;exact e
 subst hc
 rw[ahN,aii (by omega) (zpad b.length) [128] n (by rw[List.length_singleton];exact h1) h2 (by rw[List.length_singleton];omega) (by omega)]
 show (Cn n h v (b.length:Nat) n ([128]++List.replicate (zpad b.length) 0,0)).bind _=_
 rw[hLen 8 0 _ n (by decide) (by decide) (by simp only[List.length_append,List.length_singleton,List.length_replicate];omega) (by omega)]
 obtain⟨h',v',c',e1,e2⟩:=Qy (n:=n) (text:=yT (yV b.length)) (by omega) hs (by rw[Cq,Qz];omega) (by rw[Cq,Qz];omega)
 show ((vK n ((h,(v,((b.length:Nat):Int))),yT (yV b.length))).bind _)=_
 rw[e1]
 show ((Co n (h',(v',c')) n (0,Vec.rep 32 0)).bind _)=_
 rw[hOut 32 0 _ n (by decide) (by decide) (by omega)]
 rw[Qw (aik _)] at e2
 obtain⟨q,done,tail,hb',hd,htl,hh,_,_,_⟩:=e2
 have hlen:(b++yV b.length).length=64*q+tail.length:=by rw[hb',List.length_append,hd]
 rw[List.length_append,Qz] at hlen
 have ht:tail=[]:=List.eq_nil_of_length_eq_zero (by omega)
 subst ht
 rw[List.append_nil] at hb'
 have hq:(b.length+(1+zpad b.length+8))/64=q:=by rw[List.length_nil] at hlen;omega
 show some (X9 h')=some (Ko b)
 unfold Ko
 rw[hq,hb',hh]
end Sh
end
section
open Go Go.Proofs Aq
namespace Sh
set_option maxRecDepth 100000
def aio (h:Vec 32):aA:=⟨h.nth 0,h.nth 1,h.nth 2,h.nth 3,h.nth 4,h.nth 5,h.nth 6,h.nth 7,h.nth 8,h.nth 9,h.nth 10,h.nth 11,h.nth 12,h.nth 13,h.nth 14,h.nth 15⟩
end Sh
end
section
open Go Go.Proofs Aq
namespace Sh
def jU:Nat→Int→List Int
 |0,_=>[]
 |k+1,z=>if z≥128 then (z% 128+128)::jU k (z/128) else [z]
theorem aip {z:Int} (h0:0≤z):iZ IntKind.u8 (IntKind.wrap IntKind.u8 z) 128=z% 128+128:=by
 have h1:IntKind.wrap IntKind.u8 z=z% 256:=by rw[IntKind.wrap_u8]
 rw[h1]
 have key:∀a:Nat,a<256→iZ IntKind.u8 ((a:Nat):Int) 128=((a% 128+128:Nat):Int):=by
  intro a ha
  have:∀a:Fin 256,iZ IntKind.u8 ((a.val:Nat):Int) 128=((a.val% 128+128:Nat):Int):=by decide+kernel
  exact this ⟨a,ha⟩
 have h2:z% 256=(((z% 256).toNat:Nat):Int):=by omega
 rw[h2,key _ (by omega)]
 omega
theorem tu {x:Int} (h0:0≤x) (h1:x<2^64):IntKind.wrap IntKind.u64 x=x:=by rw[IntKind.wrap_u64];omega
theorem aiq {n:Nat}:∀(k:Nat) (z:Int) (p:List Int) (m:Nat),0≤z→z<128^k→z<2^64→p.length+k<2^20→k≤m→0<k→∃q y,Cm n m (z,p)=some (y,p++q)∧q++[y]=jU k z∧q.length<k∧0≤y∧y<128:=by
 intro k
 induction k with
 |zero=>intro z p m _ _ _ _ _ h;omega
 |succ k ih=>
  intro z p m h0 h1 h64 hp hm _
  obtain⟨m,rfl⟩:∃q,m=q+1:=⟨m-1,by omega⟩
  by_cases hz:z≥128
  ·have hk:0<k:=by
    rcases Nat.eq_zero_or_pos k with rfl|h
    ·have:z<128:=by simpa using h1
     omega
    ·exact h
   have hd:z/128<128^k:=by
    rw[Int.pow_succ] at h1
    exact Int.ediv_lt_of_lt_mul (by decide) h1
   obtain⟨q,y,e1,e3,e4,e5⟩:=ih (z/128) (p++[z% 128+128]) m (by omega) hd (by omega) (by rw[List.length_append,List.length_singleton];omega) (by omega) hk
   obtain⟨s0,s1⟩:=ahV h0
   refine⟨(z% 128+128)::q,y, ?_, ?_, ?_,e5⟩
   ·rw[XH,decide_eq_true (show z>127 by omega),cond_true,jD (by simp;omega) (by decide),cond_true,aip h0,s1]
    rw[List.append_assoc] at e1
    exact e1
   ·rw[jU,if_pos hz,←e3];rfl
   ·simp;omega
  ·refine⟨[],z, ?_, ?_,by simp,h0,by omega⟩
   ·rw[XH,decide_eq_false (show¬z>127 by omega),List.append_nil];rfl
   ·rw[jU,if_neg hz];rfl
end Sh
end
section
open Go Go.Proofs Aq
namespace Sh
def rI (x:Int):Prop:= -(2^63)≤x∧x<2^63
def kZ (x:Int):Int:=if x<0 then 2*(-1-x)+1 else 2*x
def encI (x:Int):List Int:=jU 10 (kZ x)
theorem Kq {x:Int} (h:rI x):0≤kZ x∧kZ x<2^64:=by unfold kZ;unfold rI at h;split<;>omega
theorem air {a:Int} (h0:0≤a) (h1:a<2^64):dh IntKind.u64 a 0=a:=by
 unfold dh
 obtain⟨c,rfl⟩:∃c:Nat,a=(c:Int):=⟨a.toNat,(Int.toNat_of_nonneg h0).symm⟩
 have hc:c<2^64:=by exact_mod_cast h1
 have e:(BitVec.ofInt IntKind.u64.bits (c:Int)^^^BitVec.ofInt IntKind.u64.bits 0).toNat=c:=by
  show (BitVec.ofInt 64 (c:Int)^^^0#64).toNat=_
  rw[BitVec.xor_zero,BitVec.ofInt_natCast,BitVec.toNat_ofNat,Nat.mod_eq_of_lt hc]
 rw[e]
 exact tu h0 h1
theorem ais {a:Int} (h0:0≤a) (h1:a<2^64):dh IntKind.u64 a (2^64-1)=2^64-1-a:=by
 unfold dh
 obtain⟨c,rfl⟩:∃c:Nat,a=(c:Int):=⟨a.toNat,(Int.toNat_of_nonneg h0).symm⟩
 have hc:c<2^64:=by exact_mod_cast h1
 have e:(BitVec.ofInt IntKind.u64.bits (c:Int)^^^BitVec.ofInt IntKind.u64.bits (2^64-1)).toNat=2^64-1-c:=by
  show (BitVec.ofInt 64 (c:Int)^^^BitVec.ofInt 64 (2^64-1)).toNat=_
  rw[show BitVec.ofInt 64 (2^64-1)=BitVec.allOnes 64 by decide,BitVec.xor_allOnes,BitVec.toNat_not,BitVec.ofInt_natCast,BitVec.toNat_ofNat,Nat.mod_eq_of_lt hc]
 rw[e,IntKind.wrap_u64]
 omega
theorem ait {x:Int} (h:rI x):dh IntKind.u64 (jP IntKind.u64 (IntKind.wrap IntKind.u64 x) 1) (IntKind.wrap IntKind.u64 (jQ IntKind.i64 x 63))=kZ x:=by
 obtain⟨a,b⟩:=h
 have hs:jP IntKind.u64 (IntKind.wrap IntKind.u64 x) 1=IntKind.wrap IntKind.u64 (IntKind.wrap IntKind.u64 x*2):=rfl
 have hr:jQ IntKind.i64 x 63=x.fdiv (2^63):=rfl
 rw[hs,hr,Int.fdiv_eq_ediv_of_nonneg _ (by decide)]
 unfold kZ
 by_cases hx:x<0
 ·rw[if_pos hx,show x/2^63= -1 by omega,show IntKind.wrap IntKind.u64 (-1)=2^64-1 by rw[IntKind.wrap_u64];decide]
  have:IntKind.wrap IntKind.u64 (IntKind.wrap IntKind.u64 x*2)=2*x+2^64:=by rw[IntKind.wrap_u64,IntKind.wrap_u64];omega
  rw[this,ais (by omega) (by omega)]
  omega
 ·rw[if_neg hx,show x/2^63=0 by omega,tu (x:=x) (by omega) (by omega),tu (x:=x*2) (by omega) (by omega),show IntKind.wrap IntKind.u64 0=0 by rw[IntKind.wrap_u64];decide,air (by omega) (by omega)]
  omega
theorem Ya:∀(k:Nat) (z:Int),0≤z→bN (jU k z)
 |0,_,_=>fun x hx=>by cases hx
 |k+1,z,h=>by
  unfold jU
  split
  ·intro x hx
   rcases List.mem_cons.1 hx with rfl|hx
   ·omega
   ·exact Ya k _ (by omega) x hx
  ·intro x hx
   rw[List.mem_singleton.1 hx];omega
theorem Kr {x:Int} (h:rI x):bN (encI x):=Ya 10 _ (Kq h).1
theorem Yb:∀(k:Nat) (z:Int),(jU k z).length≤k
 |0,_=>Nat.le_refl _
 |k+1,z=>by
  unfold jU
  split
  ·rw[List.length_cons];have:=Yb k (z/128);omega
  ·simp
theorem pV (x:Int):(encI x).length≤10:=Yb _ _
theorem QA {y:Int} (h0:0≤y) (h1:y<128):IntKind.wrap IntKind.u8 y=y:=by rw[IntKind.wrap_u8];omega
theorem Kt {n:Nat} {x:Int} (h:rI x) (hn:20<n):uE n x=some (encI x):=by
 obtain⟨z0,z1⟩:=Kq h
 obtain⟨q,y,e1,e3,e4,e5,e6⟩:=aiq (n:=n) 10 (kZ x) [] n z0 (Int.lt_of_lt_of_le z1 (by decide)) z1 (by decide) (by omega) (by decide)
 rw[ahL,ait h]
 show ((Cm n n (kZ x,[])).bind _)=_
 rw[e1,List.nil_append,Option.bind_some]
 rw[jD (by show q.length+1<_;omega) (by decide),cond_true,QA e5 e6,e3]
 rfl
theorem gR {α:Type} {c:Bool} {o r:Option α} (h:c=true) (k:o=r):(bif c then o else none)=r:=by rw[h];exact k
def nR (s:List UInt8):List Int:=encI (s.length:Nat)++lQ s
theorem vM {k:Nat} (h:k<2^62):rI ((k:Nat):Int):=by unfold rI;omega
theorem aiu {s:List UInt8} (h:s.length<2^62):bN (nR s):=uK (Kr (vM h)) (X0 _)
theorem aiv {n:Nat} {s:List UInt8} (h:s.length<2^29) (hn:20<n):Ca n s=some (nR s):=by
 have hl:=pV ((s.length:Nat):Int)
 rw[ahM]
 exact bs (Kt (vM (by omega)) hn) (gR (jD (by rw[List.length_map];omega) (by decide)) rfl)
end Sh
end
section
open Go Go.Proofs Aq
namespace Sh
def mW {α:Type} (f:α→List Int) (l:List α):Nat:=l.foldr (fun x s=>(f x).length+s) 0
theorem QB {α:Type} (f:α→List Int):∀l:List α,(l.flatMap f).length=mW f l
 | []=>rfl
 |x::l=>by rw[List.flatMap_cons,List.length_append,QB f l];rfl
theorem Ku {α:Type} {f:α→List Int} {b:Nat}:∀{l:List α},(∀x∈l,(f x).length≤b)→mW f l≤b*l.length
 | [],_=>Nat.zero_le _
 |x::l,h=>by
  have h1:=h x (by simp)
  have h2:=Ku (f:=f) (l:=l) fun y hy=>h y (List.mem_cons_of_mem _ hy)
  show (f x).length+mW f l≤b*(l.length+1)
  rw[Nat.mul_add,Nat.mul_one];omega
theorem aiw {n:Nat} {l:List Int} (hb:∀x∈l,rI x) (hlen:l.length<2^62) (hn:20<n):∀(k i m:Nat) (a:List Int),i+k=l.length→k<m→a.length+mW encI (l.drop i)<2^29→Fj n l m (a,(i:Int))=some (a++(l.drop i).flatMap encI):=by
 intro k
 induction k with
 |zero=>
  intro i m a hi hm hc
  obtain⟨m,rfl⟩:∃m',m=m'+1:=⟨m-1,by omega⟩
  rw[XM,uI (by omega),List.drop_eq_nil_of_le (by omega),List.flatMap_nil,List.append_nil];rfl
 |succ k ih=>
  intro i m a hi hm hc
  obtain⟨m,rfl⟩:∃m',m=m'+1:=⟨m-1,by omega⟩
  have hlt:i<l.length:=by omega
  have hx:l[i]? =some l[i]:=List.getElem?_eq_getElem hlt
  have hd:l.drop i=l[i]::l.drop (i+1):=List.drop_eq_getElem_cons hlt
  rw[hd] at hc⊢
  have hm':=hb l[i] (List.getElem_mem hlt)
  generalize l[i]=x at hx hc hm'⊢
  rw[XM,uH hx,nQ hx,mV (by omega),cond_true]
  have hsz:mW encI (x::l.drop (i+1))=(encI x).length+mW encI (l.drop (i+1)):=rfl
  have h:=ih (i+1) m (a++encI x) (by omega) (by omega) (by rw[List.length_append];omega)
  rw[List.append_assoc] at h
  exact bs rfl (bs (Kt hm' hn) (gR (jD (by omega) (by decide)) h))
def fD (l:List Int):List Int:=encI (l.length:Nat)++l.flatMap encI
theorem QC {α:Type} {f:α→List Int}:∀{l:List α},(∀x∈l,bN (f x))→bN (l.flatMap f)
 | [],_=>fun x hx=>by cases hx
 |x::l,h=>by
  rw[List.flatMap_cons]
  exact uK (h x (by simp)) (QC fun y hy=>h y (List.mem_cons_of_mem _ hy))
theorem aix {l:List Int} (h:∀x∈l,rI x) (hl:l.length<2^62):bN (fD l):=uK (Kr (vM hl)) (QC fun x hx=>Kr (h x hx))
theorem QD {l:List Int}:(fD l).length≤10+10*l.length:=by
 unfold fD
 rw[List.length_append,QB]
 have h1:=pV ((l.length:Nat):Int)
 have h2:=Ku (f:=encI) (b:=10) (l:=l) fun x _=>pV x
 omega
theorem aiy {n:Nat} {l:List Int} (hb:∀x∈l,rI x) (hl:l.length<2^20) (hn:l.length<n) (hn2:20<n):yN n l=some (fD l):=by
 have h1:=pV ((l.length:Nat):Int)
 have h2:=Ku (f:=encI) (b:=10) (l:=l) fun x _=>pV x
 rw[ahQ]
 refine bs (?_:_=some (fD l)) rfl
 rw[ahP]
 exact bs (Kt (vM (by omega)) hn2) (bs (aiw hb (by omega) hn2 l.length 0 n _ (by omega) hn (by rw[List.drop_zero];omega)) rfl)
theorem aiz (n:Nat):∃v,BS n ()=some (IV,(v,(0:Int))):=by
 rw[ahF]
 exact⟨_,rfl⟩
theorem aiA {n:Nat} {ls:List (List UInt8)} (hb:∀x∈ls,x.length<2^28) (hlen:ls.length<2^62) (hn:70<n):∀(k i m:Nat) (b:List Int) (h:Vec 8) (v:Vec 64) (c:Int),i+k=ls.length→k<m→uL b h v c→b.length+mW nR (ls.drop i)<2^28→mW nR (ls.drop i)<n→
 ∃h' v' c',Fh n ls m ((i:Int),(h,(v,c)))=some ((),(h',(v',c')))∧uL (b++(ls.drop i).flatMap nR) h' v' c':=by
 intro k
 induction k with
 |zero=>
  intro i m b h v c hi hm hs _ _
  obtain⟨m,rfl⟩:∃m',m=m'+1:=⟨m-1,by omega⟩
  refine⟨h,v,c, ?_, ?_⟩
  ·rw[XL,uI (by omega)];rfl
  ·rw[List.drop_eq_nil_of_le (by omega),List.flatMap_nil,List.append_nil];exact hs
 |succ k ih=>
  intro i m b h v c hi hm hs hsz Yc
  obtain⟨m,rfl⟩:∃m',m=m'+1:=⟨m-1,by omega⟩
  have hlt:i<ls.length:=by omega
  have hx:ls[i]? =some ls[i]:=List.getElem?_eq_getElem hlt
  have hd:ls.drop i=ls[i]::ls.drop (i+1):=List.drop_eq_getElem_cons hlt
  rw[hd] at hsz Yc⊢
  have hm':=hb ls[i] (List.getElem_mem hlt)
  generalize ls[i]=x at hx hsz Yc hm'⊢
  have e:mW nR (x::ls.drop (i+1))=(nR x).length+mW nR (ls.drop (i+1)):=rfl
  have hB:bN (nR x):=aiu (by omega)
  obtain⟨h1,v1,c1,g1,g2⟩:=Qy (n:=n) (text:=yT (nR x)) hn hs (by rw[Cq];omega) (by rw[Cq];omega)
  rw[Qw hB] at g2
  obtain⟨h2,v2,c2,g3,g4⟩:=ih (i+1) m (b++nR x) h1 v1 c1 (by omega) (by omega) g2 (by rw[List.length_append];omega) (by omega)
  refine⟨h2,v2,c2, ?_, ?_⟩
  ·rw[XL,uH hx,nQ hx,mV (by omega),cond_true]
   exact bs rfl (bs (aiv (by omega) (by omega)) (bs g1 g3))
  ·rw[List.flatMap_cons,←List.append_assoc];exact g4
def inF (t:Int) (ls:List (List UInt8)):List Int:=[IntKind.wrap IntKind.u8 t]++ls.flatMap nR
def oN (t:Int) (ls:List (List UInt8)):aA:=aio (Ko (inF t ls))
theorem hOf {n:Nat} {t:Int} {ls:List (List UInt8)} (hb:∀x∈ls,x.length<2^28) (hs:1+mW nR ls<2^28) (hsn:mW nR ls<n) (hl:ls.length<n) (hn:200<n) (hlen:ls.length<2^62):Fe n (t,ls)=some (oN t ls):=by
 rw[ahO]
 obtain⟨v,hv⟩:=aiz n
 have s0:uL [] IV v 0:=⟨0,[],[],rfl,rfl,by decide,rfl,rfl,rfl,fun x hx=>by cases hx⟩
 have hB1:bN [IntKind.wrap IntKind.u8 t]:=fun x hx=>by rw[List.mem_singleton.1 hx];exact X6 t
 obtain⟨h1,v1,c1,g1,g2⟩:=Qy (n:=n) (text:=yT [IntKind.wrap IntKind.u8 t]) (by omega) s0 (by rw[Cq];simp) (by rw[Cq];simp;omega)
 rw[Qw hB1,List.nil_append] at g2
 obtain⟨h2,v2,c2,g3,g4⟩:=aiA (n:=n) hb hlen (by omega) ls.length 0 n _ h1 v1 c1 (by omega) hl g2 (by rw[List.drop_zero,List.length_singleton];exact hs) (by rw[List.drop_zero];exact hsn)
 rw[List.drop_zero] at g4
 have g5:=ain (n:=n) g4 (by rw[List.length_append,List.length_singleton,QB];exact hs) hn
 refine bs hv (bs g1 (bs g3 ?_))
 refine bs g5 ?_
 exact gR (by decide) (gR (by decide) rfl)
end Sh
end
