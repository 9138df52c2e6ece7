import Derived.IntWalk
import Derived.Test.YtabmooekodficaaGreatDoorF4423
set_option linter.all false
section
open Go Go.Proofs Aq
namespace Sh
theorem abL {α:Type} (l:List α) (i:Nat):idxL l (i:Int)=l[i]? :=by
 unfold idxL
 by_cases h:i<l.length
 ·rw[if_pos ⟨by omega,by omega⟩];simp
 ·rw[if_neg (by omega)];simp;omega
theorem lQ {α:Type} {l:List α} {i:Nat} {x:α} (h:l[i]? =some x):idxL l (i:Int)=some x:=by rw[abL,h]
theorem Jg {α:Type} {l:List α} {i:Nat} {x:α} (h:l[i]? =some x):i<l.length:=by
 rw[afn] at h;exact h.1
theorem oN {α:Type} {l:List α} {i:Nat} {x:α} (h:l[i]? =some x):decide ((i:Int)< ((l.length:Nat):Int))=true:=by
 have:=Jg h;simp;omega
theorem oO {i:Nat} (h:i<2^62):IntKind.wrap .i64 ((i:Int)+(1:Int))=((i+1:Nat):Int):=by
 rw[IntKind.wrap_i64];omega
theorem oP {α:Type} {l:List α} {i:Nat} (h:l.length<=i):decide ((i:Int)< ((l.length:Nat):Int))=false:=by simp;omega
theorem bs {α β:Type} {o:Option α} {a:α} {f:α->Option β} {r:Option β} (h:o=some a) (k:f a=r):o.bind f=r:=by
 rw[h];exact k
theorem abM {a k:Nat} (h:a<2^30) (hk:k<=2^12):roomOK a k=true:=by
 unfold roomOK
 have h1:a*k<=2^30*2^12:=Nat.mul_le_mul (Nat.le_of_lt h) hk
 have e:(2:Nat)^30*2^12<=2^47:=by decide
 rw[RS,decide_eq_true_iff,decide_eq_true_iff]
 exact⟨by omega,by omega⟩
theorem abN {x:Int} (h:0<=x):IntKind.wrap .u64 (Int.tdiv x 128)=IntKind.wrap .u64 (x/128):=by rw[Int.tdiv_eq_ediv_of_nonneg h]
theorem bT {α:Type} {c:Bool} {a b r:Option α} (h:c=true) (k:a=r):(bif c then a else b)=r:=by rw[h];exact k
theorem bF {α:Type} {c:Bool} {a b r:Option α} (h:c=false) (k:b=r):(bif c then a else b)=r:=by rw[h];exact k
end Sh
end
section
open Go Go.Proofs Aq
namespace Sh
theorem eP {i:Int} {n:Nat} (h:0<=i/\i<n):inN i n=true:=decide_eq_true h
theorem lS {i:Int} {n:Nat} (h:0<=i/\i<=n):inB i n=true:=decide_eq_true h
def rotl (x k:Int):Int:=bitOr .u32 (bitShl .u32 x (bitAnd .u64 (IntKind.wrap .u64 k) 31)) (bitShr .u32 x (IntKind.wrap .u64 (32-bitAnd .u64 (IntKind.wrap .u64 k) 31)))
theorem QC (x:Int):0<=IntKind.wrap .u64 x:=by rw[IntKind.wrap_u64];exact Int.emod_nonneg _ (by decide)
theorem qN (n:Nat) (x k:Int):jP n (x,k)=some (rotl x k):=by
 rw[abp,decide_eq_true (show (0:Int)<=bitAnd .u64 (IntKind.wrap .u64 k) 31 from QC _),decide_eq_true (QC _)]
 rfl
def oQ (x a b c:Int):Int:=bitXor .u32 (bitXor .u32 (rotl x (IntKind.wrap .i64 (0-a))) (rotl x (IntKind.wrap .i64 (0-b)))) (rotl x (IntKind.wrap .i64 (0-c)))
theorem QD (n:Nat) (x a b c:Int):qF n (x,(a,(b,c)))=some (oQ x a b c):=by
 rw[abr,qN,qN,qN]
 rfl
theorem jw {i:Int} (h0:0<=i) (h:i<2^62):IntKind.wrap .i64 (i+(1:Int))=i+1:=by rw[IntKind.wrap_i64];omega
theorem aW {i:Int} (h0: -(2^62)<=i) (h:i<2^62):IntKind.wrap .i64 i=i:=by rw[IntKind.wrap_i64];omega
end Sh
end
section
open Go Go.Proofs Aq
namespace Sh
theorem qO {a k:Nat} (h:a<2^30) (hk:k<=2^12):roomOK a k=true:=abM h hk
theorem abO {x:Int} (h0:0<=x):0<=bitShr .u64 x 7/\bitShr .u64 x 7=x/128:=by
 have e:bitShr .u64 x 7=x.fdiv (2^7):=rfl
 rw[e,Int.fdiv_eq_ediv_of_nonneg x (by decide)]
 exact⟨Int.ediv_nonneg h0 (by decide),rfl⟩
end Sh
end
section
open Go Go.Proofs Aq
namespace Sh
theorem abP (k:IntKind) (a b:Int):bitOr k a b=bitOr k b a:=by unfold bitOr;rw[BitVec.or_comm]
theorem abQ (k:IntKind) (a b:Int):bitXor k a b=bitXor k b a:=by unfold bitXor;rw[BitVec.xor_comm]
theorem lT (n:Nat) (x k:Int) (h0:0<=k) (h1:k<=32):iy n (x,k)=some (dn x k):=by
 rw[abF,decide_eq_true h0,cond_true,decide_eq_true (by rw[aW (by omega) (by omega)];omega:(0:Int)<=IntKind.wrap .i64 (32-k))]
 rfl
theorem lU {x k j i:Int} (h1:bitAnd .u64 (IntKind.wrap .u64 k) 31=i) (h2:IntKind.wrap .u64 (32-i)=j) (h3:IntKind.wrap .i64 (32-j)=i):rotl x k=dn x j:=by
 unfold rotl dn
 rw[h1,h2,h3,abP]
theorem QE (x:Int) {a b c:Int} (ha:rotl x (IntKind.wrap .i64 (0-a))=dn x a) (hb:rotl x (IntKind.wrap .i64 (0-b))=dn x b) (hc:rotl x (IntKind.wrap .i64 (0-c))=dn x c):
 oQ x a b c=bitXor .u32 (bitXor .u32 (dn x a) (dn x b)) (dn x c):=by
 unfold oQ;rw[ha,hb,hc]
theorem abR (x:Int):oQ x 6 11 25=bitXor .u32 (bitXor .u32 (dn x 6) (dn x 11)) (dn x 25):=
 QE x (lU (i:=26) (by decide) (by decide) (by decide)) (lU (i:=21) (by decide) (by decide) (by decide)) (lU (i:=7) (by decide) (by decide) (by decide))
theorem abS (x:Int):oQ x 2 13 22=bitXor .u32 (bitXor .u32 (dn x 2) (dn x 13)) (dn x 22):=
 QE x (lU (i:=30) (by decide) (by decide) (by decide)) (lU (i:=19) (by decide) (by decide) (by decide)) (lU (i:=10) (by decide) (by decide) (by decide))
theorem abT (x:Int):rotl x (-7)=dn x 7:=lU (i:=25) (by decide) (by decide) (by decide)
theorem abU (x:Int):rotl x (-18)=dn x 18:=lU (i:=14) (by decide) (by decide) (by decide)
theorem abV (x:Int):rotl x (-17)=dn x 17:=lU (i:=15) (by decide) (by decide) (by decide)
theorem abW (x:Int):rotl x (-19)=dn x 19:=lU (i:=13) (by decide) (by decide) (by decide)
theorem Dj {a b:Int} (k:Nat) (ha0:0<=a) (ha:a% 2^k=0) (ha1:a<2^32) (hb0:0<=b) (hb1:b<2^k) (hk:k<=32):bitOr .u32 a b=a+b:=by
 obtain⟨c,rfl⟩:∃c:Nat,a=((c*2^k:Nat):Int):=by
  refine⟨(a/2^k).toNat,?_⟩
  have h1:=Int.mul_ediv_add_emod a (2^k)
  rw[ha,Int.add_zero] at h1
  have h2:0<=a/2^k:=Int.ediv_nonneg ha0 (Int.pow_nonneg (by decide))
  rw[Int.natCast_mul,afE h2,Int.mul_comm]
  push_cast
  exact h1.symm
 obtain⟨d,rfl⟩:∃d:Nat,b=(d:Int):=⟨b.toNat,(afE hb0).symm⟩
 have hd:d<2^k:=by exact_mod_cast hb1
 have hkk:2^k<=2^32:=Nat.pow_le_pow_right (by decide) hk
 have hc:c*2^k<2^32:=by exact_mod_cast ha1
 have hsum:c*2^k|||d=c*2^k+d:=by
  rw[<-Nat.shiftLeft_eq,Nat.shiftLeft_add_eq_or_of_lt hd]
 have hlt:c*2^k|||d<2^32:=Nat.or_lt_two_pow hc (by omega)
 unfold bitOr
 have e1:(BitVec.ofInt IntKind.u32.bits ((c*2^k:Nat):Int)|||BitVec.ofInt IntKind.u32.bits ((d:Nat):Int)).toNat=c*2^k+d:=by
  rw[BitVec.toNat_or]
  simp only[BitVec.ofInt_natCast,BitVec.toNat_ofNat]
  show (c*2^k)% 2^32|||d% 2^32=_
  rw[afB hc,afB (by omega),hsum]
 rw[e1,IntKind.wrap_u32]
 have:c*2^k+d<2^32:=by omega
 omega
end Sh
end
section
open Go Go.Proofs Aq
namespace Sh
theorem abX {n:Nat} {v w:Vec n} (h:v.l=w.l):v=w:=by cases v;cases w;cases h;rfl
theorem at_set {n:Nat} (v:Vec n) {i:Int} (y:Int) (h0:0<=i) (h1:i<n):(v.set i y).at' i=y:=by
 show (v.l.set i.toNat y).getD i.toNat 0=y
 rw[ae5,List.getElem?_set_self (by rw[v.h];omega)];rfl
theorem abY {n:Nat} (v:Vec n) {i j:Int} (y:Int) (h0:0<=i) (h1:0<=j) (h:i≠j):(v.set i y).at' j=v.at' j:=by
 show (v.l.set i.toNat y).getD j.toNat 0=v.l.getD j.toNat 0
 rw[ae5,List.getElem?_set_ne (by omega),ae5]
theorem Jh {n:Nat} (v:Vec n) (i a b:Int):(v.set i a).set i b=v.set i b:=abX (List.set_set ..)
def dw (l:List Int):Prop:=∀x∈l,0<=x/\x<256
theorem Dk {l:List Int} (h:dw l) (i:Nat):0<=l.getD i 0/\l.getD i 0<256:=by
 rw[ae5]
 cases hi:l[i]? with
 |none=>exact⟨afJ _,by decide⟩
 |some x=>exact h x (afH hi)
theorem wrap32 {x:Int} (h0:0<=x) (h1:x<2^32):IntKind.wrap .u32 x=x:=by rw[IntKind.wrap_u32];omega
theorem Dl {x:Int} (k:Nat) (h0:0<=x) (h1:x*2^k<2^32) (hk:k<=32):bitShl .u32 x (k:Nat)=x*2^k:=by
 unfold bitShl
 have:min (((k:Nat):Int)).toNat IntKind.u32.bits=k:=by show min (((k:Nat):Int)).toNat 32=k;rw[Int.toNat_natCast];omega
 rw[this,wrap32 (Int.mul_nonneg h0 (Int.pow_nonneg (by decide))) h1]
theorem abZ {a b c d:Int} (ha:0<=a/\a<256) (hb:0<=b/\b<256) (hc:0<=c/\c<256) (hd:0<=d/\d<256):IB a b c d=a*2^24+b*2^16+c*2^8+d:=by
 unfold IB
 rw[wrap32 (by omega) (by omega),wrap32 (by omega) (by omega),wrap32 (by omega) (by omega),wrap32 (by omega) (by omega)]
 rw[show bitShl .u32 a 24=a*2^24 from Dl 24 (by omega) (by omega) (by decide),show bitShl .u32 b 16=b*2^16 from Dl 16 (by omega) (by omega) (by decide),show bitShl .u32 c 8=c*2^8 from Dl 8 (by omega) (by omega) (by decide)]
 have h1:bitOr .u32 (a*2^24) (b*2^16)=a*2^24+b*2^16:=Dj 24 (by omega) (by omega) (by omega) (by omega) (by omega) (by decide)
 have h2:bitOr .u32 (a*2^24+b*2^16) (c*2^8)=a*2^24+b*2^16+c*2^8:=Dj 16 (by omega) (by omega) (by omega) (by omega) (by omega) (by decide)
 have h3:bitOr .u32 (a*2^24+b*2^16+c*2^8) d=a*2^24+b*2^16+c*2^8+d:=Dj 8 (by omega) (by omega) (by omega) (by omega) (by omega) (by decide)
 rw[h1,h2,h3]
theorem Dm {x d:Int} (h0:0<=x) (h1:x<2^24) (hd:0<=d/\d<256):bitOr .u32 (bitShl .u32 x 8) (IntKind.wrap .u32 d)=x*256+d:=by
 rw[wrap32 (by omega) (by omega),show bitShl .u32 x 8=x*2^8 from Dl 8 (by omega) (by omega) (by decide),Dj 8 (by omega) (by omega) (by omega) (by omega) (by omega) (by decide)];omega
theorem ab0 {n m:Nat} {x1:List Int} {i:Int} (h:x1.length=64) (h0:0<=i) (h1:i<16) (hb:dw x1) (v:Vec 64) (hv:v.at' i=0):qL n x1 i (m+5) (0,v)=some ((),v.set i (IC x1 i)):=by
 have hl:List.drop (Int.toNat (IntKind.wrap .i64 (4*i))) (List.take (Int.toNat (IntKind.wrap .i64 (IntKind.wrap .i64 (4*i)+4))) x1)=[x1.getD (4*i.toNat) 0,x1.getD (4*i.toNat+1) 0,x1.getD (4*i.toNat+2) 0,x1.getD (4*i.toNat+3) 0]:=by
  rw[aW (i:=4*i) (by omega) (by omega),aW (by omega) (by omega)]
  apply List.ext_getElem?
  intro j
  rw[List.getElem?_drop]
  by_cases hj:j<4
  ·rw[List.getElem?_take_of_lt (by omega)]
   have e:(4*i).toNat+j=4*i.toNat+j:=by omega
   rw[e]
   have hg:∀k,k<64->x1[k]? =some (x1.getD k 0):=fun k hk=>by rw[ae5,afb (by omega)];rfl
   rw[hg _ (by omega)]
   rcases j with _|_|_|_|j
   all_goals first| (exact absurd hj (by omega))|rfl
  ·rw[List.getElem?_eq_none (by rw[aev];omega),List.getElem?_eq_none (by simp;omega)]
 have ba:=Dk hb (4*i.toNat)
 have bb:=Dk hb (4*i.toNat+1)
 have bc:=Dk hb (4*i.toNat+2)
 have bd:=Dk hb (4*i.toNat+3)
 unfold IC
 generalize x1.getD (4*i.toNat) 0=a at hl ba⊢
 generalize x1.getD (4*i.toNat+1) 0=b at hl bb⊢
 generalize x1.getD (4*i.toNat+2) 0=c at hl bc⊢
 generalize x1.getD (4*i.toNat+3) 0=d at hl bd⊢
 have hin:inN i 64=true:=eP ⟨h0,by omega⟩
 have st:∀(m:Nat) (x4:Int) (x5:Vec 64) (y:Int),idxL [a,b,c,d] x4=some y->0<=x4->x4<4->qL n x1 i (m+1) (x4,x5)=qL n x1 i m (x4+1,x5.set i (bitOr .u32 (bitShl .u32 (x5.at' i) 8) (IntKind.wrap .u32 y))):=by
  intro m x4 x5 y hy k0 k1
  rw[Qh,hl,decide_eq_true (show x4< (([a,b,c,d]:List Int).length:Nat) by simp;omega),hy,hin,jw k0 (by omega)]
  rfl
 rw[st (m+4) 0 v a rfl (by decide) (by decide),st (m+3) (0+1) _ b rfl (by decide) (by decide),st (m+2) (0+1+1) _ c rfl (by decide) (by decide),st (m+1) (0+1+1+1) _ d rfl (by decide) (by decide)]
 rw[Qh,hl]
 rw[hv,at_set _ _ h0 (by show i<64;omega),at_set _ _ h0 (by show i<64;omega),at_set _ _ h0 (by show i<64;omega),Jh,Jh,Jh]
 have e1:=Dm (x:=0) (d:=a) (by decide) (by decide) ba
 rw[e1,Dm (by omega) (by omega) bb,Dm (by omega) (by omega) bc,Dm (by omega) (by omega) bd,abZ ba bb bc bd]
 have e2:(((0*256+a)*256+b)*256+c)*256+d=a*2^24+b*2^16+c*2^8+d:=by omega
 rw[e2]
 rfl
end Sh
end
section
open Go Go.Proofs Aq
namespace Sh
theorem hS2 {n:Nat} {x:List Int}:∀(k:Nat) (i:Int) (w:Vec 64) (m:Nat),i+k=64->16<=i->k<m->qM n x m (i,w)=some ((),eO Ci k i w):=by
 intro k
 induction k with
 |zero=>
  intro i w m hi h16 hm
  obtain⟨m,rfl⟩:∃q,m=q+1:=⟨m-1,by omega⟩
  rw[Je,decide_eq_false (by omega)];rfl
 |succ k ih=>
  intro i w m hi h16 hm
  obtain⟨m,rfl⟩:∃q,m=q+1:=⟨m-1,by omega⟩
  rw[Je,decide_eq_true (show i<64 by omega),decide_eq_false (show¬i<16 by omega),cond_true,cond_false]
  rw[aW (i:=i-15) (by omega) (by omega),aW (i:=i-2) (by omega) (by omega),aW (i:=i-16) (by omega) (by omega),aW (i:=i-7) (by omega) (by omega),jw (by omega) (by omega)]
  rw[eP (i:=i-15) ⟨by omega,by omega⟩,eP (i:=i-2) ⟨by omega,by omega⟩,eP (i:=i-16) ⟨by omega,by omega⟩,eP (i:=i-7) ⟨by omega,by omega⟩,eP (i:=i) ⟨by omega,by omega⟩]
  rw[qN,qN,qN,qN,abT,abU,abV,abW]
  exact ih (i+1) _ m (by omega) (by omega) (by omega)
theorem hS1 {n:Nat} {x:List Int} (hx:x.length=64) (hb:dw x) (hn:60<n):∀(k:Nat) (i:Int) (w:Vec 64) (m:Nat),i+k=16->0<=i->(∀j,i<=j->w.at' j=0)->k+48<m->qM n x m (i,w)=some ((),eO Ci 48 16 (eO (Cj x) k i w)):=by
 intro k
 induction k with
 |zero=>
  intro i w m hi h0 hw hm
  obtain rfl:i=16:=by omega
  exact hS2 48 16 w m (by decide) (by decide) (by omega)
 |succ k ih=>
  intro i w m hi h0 hw hm
  obtain⟨m,rfl⟩:∃q,m=q+1:=⟨m-1,by omega⟩
  rw[Je,decide_eq_true (show i<64 by omega),decide_eq_true (show i<16 by omega),cond_true,cond_true]
  rw[aW (i:=4*i) (by omega) (by omega),aW (i:=4*i+4) (by omega) (by omega),jw (by omega) (by omega)]
  rw[lS (i:=4*i+4) ⟨by omega,by omega⟩,lS (i:=4*i) ⟨by omega,by omega⟩,Bool.and_self,cond_true]
  obtain⟨q,rfl⟩:∃q,n=q+5:=⟨n-5,by omega⟩
  rw[ab0 hx h0 (by omega) hb w (hw i (afJ _))]
  exact ih (i+1) _ m (by omega) (by omega) (fun j hj=>by rw[abY _ _ h0 (by omega) (by omega)];exact hw j (by omega)) (by omega)
theorem ab1 {n:Nat} {x:List Int} (hx:x.length=64) (hb:dw x) (hn:70<n):uK n x=some (qA x):=by
 rw[abq]
 have h:=hS1 (n:=n) hx hb (by omega) 16 0 (Vec.rep 64 0) n (by decide) (by decide) (fun j _=>by
  show (List.replicate 64 (0:Int)).getD j.toNat 0=0
  rw[ae5,List.getElem?_replicate]
  split<;>rfl) (by omega)
 rw[h];rfl
theorem rS1 {n:Nat} {x:List Int} (hx:x.length=64):∀(k:Nat) (i:Int) (w:Vec 64) (m:Nat),i+k=16->0<=i->k<m->zl n x m (i,w)=some ((),eO (Cj x) k i w):=by
 intro k
 induction k with
 |zero=>
  intro i w m hi h0 hm
  obtain⟨m,rfl⟩:∃q,m=q+1:=⟨m-1,by omega⟩
  rw[Qu,decide_eq_false (by omega)];rfl
 |succ k ih=>
  intro i w m hi h0 hm
  obtain⟨m,rfl⟩:∃q,m=q+1:=⟨m-1,by omega⟩
  have hg:∀k:Nat,k<64->idxL x ((k:Nat):Int)=some (x.getD k 0):=fun k hk=>by
   unfold idxL
   rw[if_pos ⟨by omega,by omega⟩,Int.toNat_natCast,ae5,afb (by omega)];rfl
  rw[Qu,decide_eq_true (show i<16 by omega),cond_true]
  rw[aW (i:=4*i) (by omega) (by omega),aW (i:=4*i+1) (by omega) (by omega),aW (i:=4*i+2) (by omega) (by omega),aW (i:=4*i+3) (by omega) (by omega),jw (by omega) (by omega)]
  rw[show (4*i:Int)=((4*i.toNat:Nat):Int) by omega,hg _ (by omega),show ((4*i.toNat:Nat):Int)+1=((4*i.toNat+1:Nat):Int) by omega,hg _ (by omega),show ((4*i.toNat:Nat):Int)+2=((4*i.toNat+2:Nat):Int) by omega,hg _ (by omega),show ((4*i.toNat:Nat):Int)+3=((4*i.toNat+3:Nat):Int) by omega,hg _ (by omega)]
  rw[eP (i:=i) ⟨by omega,by omega⟩]
  exact ih (i+1) _ m (by omega) (by omega) (by omega)
theorem rS2 {n:Nat}:∀(k:Nat) (i:Int) (w:Vec 64) (m:Nat),i+k=64->16<=i->k<m->vE n m (i,w)=some ((),eO Ci k i w):=by
 intro k
 induction k with
 |zero=>
  intro i w m hi h16 hm
  obtain⟨m,rfl⟩:∃q,m=q+1:=⟨m-1,by omega⟩
  rw[Qv,decide_eq_false (by omega)];rfl
 |succ k ih=>
  intro i w m hi h16 hm
  obtain⟨m,rfl⟩:∃q,m=q+1:=⟨m-1,by omega⟩
  rw[Qv,decide_eq_true (show i<64 by omega),cond_true]
  rw[aW (i:=i-15) (by omega) (by omega),aW (i:=i-2) (by omega) (by omega),aW (i:=i-16) (by omega) (by omega),aW (i:=i-7) (by omega) (by omega),jw (by omega) (by omega)]
  rw[eP (i:=i-15) ⟨by omega,by omega⟩,eP (i:=i-2) ⟨by omega,by omega⟩,eP (i:=i-16) ⟨by omega,by omega⟩,eP (i:=i-7) ⟨by omega,by omega⟩,eP (i:=i) ⟨by omega,by omega⟩]
  rw[lT _ _ _ (by decide) (by decide),lT _ _ _ (by decide) (by decide),lT _ _ _ (by decide) (by decide),lT _ _ _ (by decide) (by decide)]
  exact ih (i+1) _ m (by omega) (by omega) (by omega)
theorem ab4 {n:Nat} {x:List Int} (hx:x.length=64) (hn:70<n):uW n x=some (qA x):=by
 rw[abG,rS1 hx 16 0 (Vec.rep 64 0) n (by decide) (by decide) (by omega)]
 show (vE n n (16,eO (Cj x) 16 0 (Vec.rep 64 0))).bind _=_
 rw[rS2 48 16 _ n (by decide) (by decide) (by omega)];rfl
end Sh
end
section
open Go Go.Proofs Aq
namespace Sh
def QF (v e:Vec 4) (s:Vec 8) (i:Int):Vec 8:=(s.set i (IntKind.wrap .u32 (s.at' i+v.at' i))).set (i+4) (IntKind.wrap .u32 ((s.set i (IntKind.wrap .u32 (s.at' i+v.at' i))).at' (i+4)+e.at' i))
def cat (v e:Vec 4):Vec 8:=Vec.lit 8 (v.l++e.l)
theorem Dn (v:Vec 4):∃a b c d,v=Vec.lit 4 [a,b,c,d]:=by
 obtain⟨l,h⟩:=v
 match l,h with
 | [a,b,c,d],_=>exact⟨a,b,c,d,rfl⟩
theorem QG (v:Vec 8):∃a b c d e f g h,v=Vec.lit 8 [a,b,c,d,e,f,g,h]:=by
 obtain⟨l,hl⟩:=v
 match l,hl with
 | [a,b,c,d,e,f,g,h],_=>exact⟨a,b,c,d,e,f,g,h,rfl⟩
theorem add_eq (v e:Vec 4) (s:Vec 8):eO (QF v e) 4 0 s=eO (IE (cat v e)) 8 0 s:=by
 obtain⟨a,b,c,d,rfl⟩:=Dn v
 obtain⟨a',b',c',d',rfl⟩:=Dn e
 obtain⟨s0,s1,s2,s3,s4,s5,s6,s7,rfl⟩:=QG s
 kernel_rfl
theorem ab5 (s:Vec 8):cat (s.slc 0 4) (s.slc 4 4)=s:=by
 obtain⟨s0,s1,s2,s3,s4,s5,s6,s7,rfl⟩:=QG s
 kernel_rfl
theorem rR {n:Nat} {r2:List Int} {x3:Int} {x4:Vec 8} {w:Vec 64}:∀(k:Nat) (i:Int) (s:Vec 8) (m:Nat),i+k=64->0<=i->k<m->vF n r2 x3 x4 w m (i,s)=some ((),eO (yH w) k i s):=by
 intro k
 induction k with
 |zero=>
  intro i s m hi h0 hm
  obtain⟨m,rfl⟩:∃q,m=q+1:=⟨m-1,by omega⟩
  rw[Qw,decide_eq_false (by omega)];rfl
 |succ k ih=>
  intro i s m hi h0 hm
  obtain⟨m,rfl⟩:∃q,m=q+1:=⟨m-1,by omega⟩
  rw[Qw,decide_eq_true (show i<64 by omega),cond_true,eP (i:=i) (n:=64) ⟨by omega,by omega⟩,jw (by omega) (by omega)]
  rw[lT _ _ _ (by decide) (by decide),lT _ _ _ (by decide) (by decide),lT _ _ _ (by decide) (by decide),lT _ _ _ (by decide) (by decide),lT _ _ _ (by decide) (by decide),lT _ _ _ (by decide) (by decide)]
  exact ih (i+1) _ m (by omega) (by omega) (by omega)
theorem ab6 (w:Vec 64) (v e:Vec 4) (i:Int):cat (Vec.lit 4 [IntKind.wrap .u32 (IntKind.wrap .u32 (IntKind.wrap .u32 (IntKind.wrap .u32 (IntKind.wrap .u32 (e.at' 3+oQ (e.at' 0) 6 11 25)+bitXor .u32 (bitAnd .u32 (e.at' 0) (e.at' 1)) (bitAnd .u32 (bitXor .u32 4294967295 (e.at' 0)) (e.at' 2)))+lC.at' i)+w.at' i)+IntKind.wrap .u32 (oQ (v.at' 0) 2 13 22+bitXor .u32 (bitXor .u32 (bitAnd .u32 (v.at' 0) (v.at' 1)) (bitAnd .u32 (v.at' 0) (v.at' 2))) (bitAnd .u32 (v.at' 1) (v.at' 2)))),v.at' 0,v.at' 1,v.at' 2])
 (Vec.lit 4 [IntKind.wrap .u32 (v.at' 3+IntKind.wrap .u32 (IntKind.wrap .u32 (IntKind.wrap .u32 (IntKind.wrap .u32 (e.at' 3+oQ (e.at' 0) 6 11 25)+bitXor .u32 (bitAnd .u32 (e.at' 0) (e.at' 1)) (bitAnd .u32 (bitXor .u32 4294967295 (e.at' 0)) (e.at' 2)))+lC.at' i)+w.at' i)),e.at' 0,e.at' 1,e.at' 2])=yH w (cat v e) i:=by
 obtain⟨a,b,c,d,rfl⟩:=Dn v
 obtain⟨a',b',c',d',rfl⟩:=Dn e
 rw[abR,abS,abQ IntKind.u32 4294967295]
 rfl
theorem hR {n:Nat} {x1:Vec 8} {w:Vec 64}:∀(k:Nat) (i:Int) (v e:Vec 4) (m:Nat),i+k=64->0<=i->k<m->∃v' e',u7 n x1 w m (i,(v,e))=some ((),(v',e'))/\cat v' e'=eO (yH w) k i (cat v e):=by
 intro k
 induction k with
 |zero=>
  intro i v e m hi h0 hm
  obtain⟨m,rfl⟩:∃q,m=q+1:=⟨m-1,by omega⟩
  refine⟨v,e,?_,rfl⟩
  rw[Qi,decide_eq_false (by omega)];rfl
 |succ k ih=>
  intro i v e m hi h0 hm
  obtain⟨m,rfl⟩:∃q,m=q+1:=⟨m-1,by omega⟩
  obtain⟨v',e',h1,h2⟩:=ih (i+1) _ _ m (by omega) (by omega) (by omega)
  rw[ab6] at h2
  refine⟨v',e',?_,h2⟩
  rw[Qi,decide_eq_true (show i<64 by omega),cond_true,eP (i:=i) (n:=64) ⟨by omega,by omega⟩,jw (by omega) (by omega),QD,QD]
  exact h1
theorem rA {n:Nat} {r2:List Int} {x3:Int} {v:Vec 8}:∀(k:Nat) (i:Int) (s:Vec 8) (m:Nat),i+k=8->0<=i->k<m->vG n r2 x3 ((),v) m (i,s)=some ((),eO (IE v) k i s):=by
 intro k
 induction k with
 |zero=>
  intro i s m hi h0 hm
  obtain⟨m,rfl⟩:∃q,m=q+1:=⟨m-1,by omega⟩
  rw[Qx,decide_eq_false (by omega)];rfl
 |succ k ih=>
  intro i s m hi h0 hm
  obtain⟨m,rfl⟩:∃q,m=q+1:=⟨m-1,by omega⟩
  rw[Qx,decide_eq_true (show i<8 by omega),cond_true,eP (i:=i) (n:=8) ⟨by omega,by omega⟩,jw (by omega) (by omega)]
  exact ih (i+1) _ m (by omega) (by omega) (by omega)
theorem hA {n:Nat} {v e:Vec 4}:∀(k:Nat) (i:Int) (s:Vec 8) (m:Nat),i+k=4->0<=i->k<m->vg n ((),(v,e)) m (i,s)=some ((),eO (QF v e) k i s):=by
 intro k
 induction k with
 |zero=>
  intro i s m hi h0 hm
  obtain⟨m,rfl⟩:∃q,m=q+1:=⟨m-1,by omega⟩
  rw[Qj,decide_eq_false (by omega)];rfl
 |succ k ih=>
  intro i s m hi h0 hm
  obtain⟨m,rfl⟩:∃q,m=q+1:=⟨m-1,by omega⟩
  rw[Qj,decide_eq_true (show i<4 by omega),cond_true,eP (i:=i) (n:=8) ⟨by omega,by omega⟩,eP (i:=i) (n:=4) ⟨by omega,by omega⟩,jw (by omega) (by omega),aW (i:=i+4) (by omega) (by omega),eP (i:=i+4) (n:=8) ⟨by omega,by omega⟩]
  exact ih (i+1) _ m (by omega) (by omega) (by omega)
theorem hcomp {n:Nat} {h:Vec 8} {x:List Int} (hx:x.length=64) (hb:dw x) (hn:70<n):uL n (h,x)=some (lD h x):=by
 rw[abt,ab1 hx hb hn]
 obtain⟨v',e',h1,h2⟩:=hR (n:=n) (x1:=h) (w:=qA x) 64 0 (h.slc 0 4) (h.slc 4 4) n (by decide) (by decide) (by omega)
 show ((u7 n h (qA x) n (0,(h.slc 0 4,h.slc 4 4))).bind _)=_
 rw[h1]
 show ((vg n ((),(v',e')) n (0,h)).bind _)=_
 rw[hA 4 0 h n (by decide) (by decide) (by omega),add_eq,h2,ab5]
 rfl
end Sh
end
section
open Go Go.Proofs Aq
namespace Sh
theorem ab7:∀(q:Nat) (h:Vec 8) (d b:List Int),d.length=64*q->b.length=64->foldB (q+1) h (d++b)=lD (foldB q h d) b:=by
 intro q
 induction q with
 |zero=>
  intro h d b hd hb
  obtain rfl:d=[]:=afa (by omega)
  show lD h (b.take 64)=lD h b
  rw[afm (by omega)]
 |succ q ih=>
  intro h d b hd hb
  show foldB (q+1) (lD h ((d++b).take 64)) ((d++b).drop 64)=lD (foldB q (lD h (d.take 64)) (d.drop 64)) b
  rw[afM (by omega),afQ (by omega)]
  exact ih _ _ _ (by rw[aex];omega) hb
def jy (l:List Int):List UInt8:=l.map fun n=>UInt8.ofNat n.toNat
theorem QH (l:List UInt8):dw (fK l):=by
 intro x hx
 obtain⟨b,_,rfl⟩:=List.mem_map.1 hx
 have:=UInt8.toNat_lt b
 omega
theorem Ji {l:List Int} (h:dw l):fK (jy l)=l:=by
 unfold fK jy
 rw[afK]
 conv=>rhs;rw[<-List.map_id l]
 apply afG
 intro x hx
 obtain⟨h0,h1⟩:=h x hx
 show ((UInt8.ofNat x.toNat).toNat:Int)=x
 rw[UInt8.toNat_ofNat_of_lt' (show x.toNat<256 by omega)]
 omega
theorem QI (l:List UInt8):(fK l).length=l.length:=ab3 ..
theorem oU (l:List Int):(jy l).length=l.length:=ab3 ..
theorem ny {l m:List Int} (h:dw l) (g:dw m):dw (l++m):=fun x hx=>(afP.1 hx).elim (h x) (g x)
theorem ab8 {l m:List Int} (h:dw (l++m)):dw m:=fun x hx=>h x (afD _ hx)
def lV (bs:List Int) (h:Vec 8) (v:Vec 64) (c:Int):Prop:=
 ∃q done tail,bs=done++tail/\done.length=64*q/\tail.length<64/\h=foldB q IV done/\v.l.take tail.length=tail/\c=((bs.length:Nat):Int)/\dw bs
theorem xU {n:Nat} {l:List Int} (h:l.length=n):(Vec.lit n l).l=l:=by unfold Vec.lit;rw[dif_pos h]
theorem Dp {x:Int} (h0:0<=x) (h1:x<2^62):IntKind.wrap .u64 x=x:=by rw[IntKind.wrap_u64];omega
theorem hAdd {n:Nat} (hn:70<n):∀(k:Nat) (text:List UInt8) (bs:List Int) (h:Vec 8) (v:Vec 64) (c:Int) (m:Nat),text.length<=k->lV bs h v c->bs.length+text.length<2^61->k<m->
 ∃h' v' c',vk n m (text,(h,(v,c)))=some ((),(h',(v',c')))/\lV (bs++fK text) h' v' c':=by
 intro k
 induction k with
 |zero=>
  intro text bs h v c m hk hs hl hm
  obtain⟨m,rfl⟩:∃q,m=q+1:=⟨m-1,by omega⟩
  obtain rfl:text=[]:=afa (by omega)
  refine⟨h,v,c,?_,by simpa [fK] using hs⟩
  rw[Jf];rfl
 |succ k ih=>
  intro text bs h v c m hk hs hl hm
  obtain⟨m,rfl⟩:∃q,m=q+1:=⟨m-1,by omega⟩
  by_cases ht:text=[]
  ·subst ht
   refine⟨h,v,c,?_,by simpa [fK] using hs⟩
   rw[Jf];rfl
  ·obtain⟨q,done,tail,hb,hd,htl,hh,hv,hc,hB⟩:=hs
   have hpos:0<text.length:=afo.2 ht
   have hne:(!(text==[]))=true:=by cases text with
    |nil=>exact absurd rfl ht
    |cons a l=>rfl
   have hbl:bs.length=64*q+tail.length:=by rw[hb,aaG,hd]
   have ab9:Int.tmod c 64=((tail.length:Nat):Int):=by
    rw[hc,Int.tmod_eq_emod_of_nonneg (by omega)];omega
   rw[Jf,hne,cond_true,ab9,aW (i:=((tail.length:Nat):Int)) (by omega) (by omega)]
   have hcut:List.take (Int.toNat (64-((tail.length:Nat):Int))) (List.map (fun b:UInt8=>((b.toNat:Nat):Int)) text)=fK (text.take (64-tail.length)):=by
    unfold fK
    rw[show Int.toNat (64-((tail.length:Nat):Int))=64-tail.length by omega,List.map_take]
   rw[hcut]
   generalize hj:64-tail.length=j
   have hlen:(fK (text.take j)).length=min j text.length:=by rw[QI,aev]
   have hsplit:fK text=fK (text.take j)++fK (text.drop j):=by unfold fK;rw[<-afj,afF]
   have hdrop:List.drop (Int.toNat (((fK (text.take j)).length:Nat):Int)) text=text.drop j:=by
    rw[Int.toNat_natCast,hlen]
    by_cases h:j<=text.length
    ·rw[afC h]
    ·rw[Nat.min_eq_right (by omega),List.drop_length,afO (by omega)]
   generalize ht':fK (text.take j)=t at hlen hsplit hdrop⊢
   have Jj:dw t:=ht'▸QH _
   have hlit:(v.cpy ((tail.length:Nat):Int) t).l=tail++t++v.l.drop (tail.length+t.length):=by
    show (Vec.lit 64 (v.l.take (((tail.length:Nat):Int)).toNat++t++v.l.drop ((((tail.length:Nat):Int)).toNat+t.length))).l=_
    rw[Int.toNat_natCast,xU (by rw[hv,aaG,aaG,aex,v.h];omega),hv]
   have g1:svB 64 (some ((tail.length:Nat):Int)) none=true:=decide_eq_true ⟨by omega,by omega⟩
   have g2:inB (((t.length:Nat)):Int) text.length=true:=lS ⟨by omega,by omega⟩
   rw[show (!((64:Int)==0))=true from rfl,cond_true,g1,cond_true,g2,cond_true,aW (by omega) (by omega)]
   have acd:IntKind.wrap .u64 (c+IntKind.wrap .u64 ((t.length:Nat):Int))=(((bs++t).length:Nat):Int):=by
    rw[Dp (x:=((t.length:Nat):Int)) (by omega) (by omega),Dp (by omega) (by omega),hc,aaG];omega
   rw[acd,hdrop]
   have hrl:(text.drop j).length<=k:=by rw[aex];omega
   have hnl:(bs++t).length+(text.drop j).length<2^61:=by rw[aaG,aex];omega
   cases hfull:(((tail.length:Nat):Int)+((t.length:Nat):Int)==64) with
   |true=>
    have hf:tail.length+t.length=64:=by have:=eq_of_beq hfull;omega
    have hblk:(v.cpy ((tail.length:Nat):Int) t).l=tail++t:=by rw[hlit,afO (by rw[v.h];omega),aeX]
    have xg:dw (tail++t):=ny (ab8 (hb▸hB)) Jj
    rw[cond_true,hblk,hcomp (by rw[aaG];omega) xg hn]
    have hs':lV (bs++t) (lD h (tail++t)) (v.cpy ((tail.length:Nat):Int) t) (((bs++t).length:Nat):Int):=by
     refine⟨q+1,done++(tail++t),[],?_,?_,by decide,?_,rfl,rfl,ny hB Jj⟩
     ·rw[hb,aeX,aeC]
     ·rw[aaG,aaG,hd];omega
     ·rw[ab7 q IV done (tail++t) hd (by rw[aaG];omega),hh]
    obtain⟨h',v',c',e1,e2⟩:=ih _ _ _ _ _ m hrl hs' hnl (by omega)
    refine⟨h',v',c',e1,?_⟩
    rw[hsplit,<-aeC];exact e2
   |false=>
    have hf:tail.length+t.length≠64:=fun e=>by
     have:(((tail.length:Nat):Int)+((t.length:Nat):Int)==64)=true:=by rw[beq_iff_eq];omega
     rw[this] at hfull;cases hfull
    rw[cond_false]
    have hs':lV (bs++t) h (v.cpy ((tail.length:Nat):Int) t) (((bs++t).length:Nat):Int):=by
     refine⟨q,done,tail++t,?_,hd,?_,hh,?_,rfl,ny hB Jj⟩
     ·rw[hb,aeC]
     ·rw[aaG];omega
     ·rw[hlit,afM (iP _),List.take_length]
    obtain⟨h',v',c',e1,e2⟩:=ih _ _ _ _ _ m hrl hs' hnl (by omega)
    refine⟨h',v',c',e1,?_⟩
    rw[hsplit,<-aeC];exact e2
theorem Jk {n:Nat} {text:List UInt8} {bs:List Int} {h:Vec 8} {v:Vec 64} {c:Int} (hn:70<n) (hs:lV bs h v c) (hl:bs.length+text.length<2^61) (hm:text.length<n):
 ∃h' v' c',ng n ((h,(v,c)),text)=some (h',(v',c'))/\lV (bs++fK text) h' v' c':=by
 obtain⟨h',v',c',e1,e2⟩:=hAdd hn text.length text bs h v c n (iP _) hs hl hm
 refine⟨h',v',c',?_,e2⟩
 rw[abu,e1];rfl
end Sh
end
section
open Go Go.Proofs Aq
namespace Sh
theorem QJ (c:Int):∀(k:Nat) (i:Int),(mW c k i).length=k
 |0,_=>rfl
 |k+1,i=>by rw[mW,List.length_cons,QJ c k]
theorem Jl (x:Int):0<=IntKind.wrap .u8 x/\IntKind.wrap .u8 x<256:=by
 rw[IntKind.wrap_u8];exact⟨Int.emod_nonneg _ (by decide),Int.emod_lt_of_pos _ (by decide)⟩
theorem QK (c:Int):∀(k:Nat) (i:Int),dw (mW c k i)
 |0,_=>fun x hx=>by cases hx
 |k+1,i=>fun x hx=>by
  rcases aeQ.1 hx with rfl|hx
  ·exact Jl _
  ·exact QK c k _ x hx
theorem gM {a k:Nat} (h:a<2^30) (hk:k<=2^12):roomOK a k=true:=qO h hk
theorem ace {n:Nat} {x1:Vec 8} {x2:Vec 64} {c:Nat} (hc:c<2^29):∀(z:Nat) (p:List Int) (m:Nat),(c+p.length+z)% 64=56->z<64->p.length+z<2^20->z<m->ze n x1 x2 (c:Nat) m p=some (p++List.replicate z 0):=by
 intro z
 induction z with
 |zero=>
  intro p m hz h64 hb hm
  obtain⟨m,rfl⟩:∃q,m=q+1:=⟨m-1,by omega⟩
  rw[Ql,aW (i:=((c:Nat):Int)) (by omega) (by omega),aW (by omega) (by omega),Int.tmod_eq_emod_of_nonneg (by omega)]
  have:(((c:Nat):Int)+((p.length:Nat):Int))% 64=56:=by omega
  rw[this];simp
 |succ z ih=>
  intro p m hz h64 hb hm
  obtain⟨m,rfl⟩:∃q,m=q+1:=⟨m-1,by omega⟩
  rw[Ql,aW (i:=((c:Nat):Int)) (by omega) (by omega),aW (by omega) (by omega),Int.tmod_eq_emod_of_nonneg (by omega)]
  have:((((c:Nat):Int)+((p.length:Nat):Int))% 64 !=56)=true:=by
   rw[bne_iff_ne];omega
  rw[this,show (!((64:Int)==0))=true from rfl,cond_true,cond_true,gM (by simp;omega) (by decide),cond_true,ih (p++[0]) m (by rw[aaG,List.length_singleton];omega) (by omega) (by rw[aaG,List.length_singleton];omega) (by omega),aeC]
  rfl
theorem acf {n:Nat} {x1:List Int}:∀(z:Nat) (p:List Int) (m:Nat),(p.length+z)% 64=56->z<64->p.length+z<2^29->z<m->zk n x1 m p=some (p++List.replicate z 0):=by
 intro z
 induction z with
 |zero=>
  intro p m hz h64 hb hm
  obtain⟨m,rfl⟩:∃q,m=q+1:=⟨m-1,by omega⟩
  rw[Qs,Int.tmod_eq_emod_of_nonneg (by omega)]
  have:(((p.length:Nat):Int))% 64=56:=by omega
  rw[this];simp
 |succ z ih=>
  intro p m hz h64 hb hm
  obtain⟨m,rfl⟩:∃q,m=q+1:=⟨m-1,by omega⟩
  rw[Qs,Int.tmod_eq_emod_of_nonneg (by omega)]
  have:(((p.length:Nat):Int)% 64 !=56)=true:=by
   rw[bne_iff_ne];omega
  rw[this,show (!((64:Int)==0))=true from rfl,cond_true,cond_true,gM (by simp;omega) (by decide),cond_true,ih (p++[0]) m (by rw[aaG,List.length_singleton];omega) (by omega) (by rw[aaG,List.length_singleton];omega) (by omega),aeC]
  rfl
theorem hLen {n:Nat} {x1:Vec 8} {x2:Vec 64} {c:Int}:∀(k:Nat) (i:Int) (p:List Int) (m:Nat),i+k=8->0<=i->p.length+k<2^29->k<m->vv n x1 x2 c m (p,i)=some (p++mW c k i):=by
 intro k
 induction k with
 |zero=>
  intro i p m hi h0 hb hm
  obtain⟨m,rfl⟩:∃q,m=q+1:=⟨m-1,by omega⟩
  rw[Qm,decide_eq_false (by omega),mW,aeX];rfl
 |succ k ih=>
  intro i p m hi h0 hb hm
  obtain⟨m,rfl⟩:∃q,m=q+1:=⟨m-1,by omega⟩
  rw[Qm,decide_eq_true (show i<8 by omega),cond_true]
  rw[decide_eq_true (show (0:Int)<=IntKind.wrap .i64 (56-IntKind.wrap .i64 (8*i)) by rw[aW (i:=8*i) (by omega) (by omega),aW (by omega) (by omega)];omega),cond_true,gM (by simp;omega) (by decide),cond_true,jw h0 (by omega)]
  have:=ih (i+1) (p++[IG c i]) m (by omega) (by omega) (by rw[aaG,List.length_singleton];omega) (by omega)
  rw[aeC] at this
  exact this
theorem acg {n:Nat} {x1:List Int} (hx:x1.length<2^29):∀(k:Nat) (i:Int) (p:List Int) (m:Nat),i+k=8->0<=i->p.length+k<2^30->k<m->vD n x1 m (p,i)=some (p++mW (x1.length:Nat) k i):=by
 intro k
 induction k with
 |zero=>
  intro i p m hi h0 hb hm
  obtain⟨m,rfl⟩:∃q,m=q+1:=⟨m-1,by omega⟩
  rw[Qt,decide_eq_false (by omega),mW,aeX];rfl
 |succ k ih=>
  intro i p m hi h0 hb hm
  obtain⟨m,rfl⟩:∃q,m=q+1:=⟨m-1,by omega⟩
  rw[Qt,decide_eq_true (show i<8 by omega),cond_true]
  rw[decide_eq_true (show (0:Int)<=IntKind.wrap .i64 (56-IntKind.wrap .i64 (8*i)) by rw[aW (i:=8*i) (by omega) (by omega),aW (by omega) (by omega)];omega),cond_true,gM (by simp;omega) (by decide),cond_true,jw h0 (by omega),Dp (x:=((x1.length:Nat):Int)) (by omega) (by omega)]
  have:=ih (i+1) (p++[IG (x1.length:Nat) i]) m (by omega) (by omega) (by rw[aaG,List.length_singleton];omega) (by omega)
  rw[aeC] at this
  exact this
theorem Jm (c:Nat):(c+1+zpad c)% 64=56/\zpad c<64:=by unfold zpad;omega
theorem Dr (c:Nat):(jO c).length=1+zpad c+8:=by unfold jO;simp only[aaG,List.length_singleton,List.length_replicate,QJ]
theorem QL (c:Nat):dw (jO c):=by
 refine ny (ny ?_ ?_) (QK _ _ _)
 ·intro x hx;rw[aeH.1 hx];decide
 ·intro x hx;rw[(List.mem_replicate.1 hx).2];decide
theorem ach {n:Nat} {b:List Int} (hb:b.length<2^28) (hn:100<n):uV n b=some (b++jO b.length):=by
 obtain⟨h1,h2⟩:=Jm b.length
 rw[abE,gM (by omega) (by decide),cond_true,gM (by simp;omega) (by decide),cond_true]
 rw[List.nil_append,acf (zpad b.length) (b++[128]) n (by rw[aaG,List.length_singleton];exact h1) h2 (by rw[aaG,List.length_singleton];omega) (by omega)]
 show (vD n b n (b++[128]++List.replicate (zpad b.length) 0,0)).bind _=_
 rw[acg (by omega) 8 0 _ n (by decide) (by decide) (by simp only[aaG,List.length_singleton,List.length_replicate];omega) (by omega)]
 unfold jO
 simp only[Option.bind_some,aeC]
theorem aci {n:Nat} {r:List Int} (hB:dw r) (hr:r.length<2^29) (hn:100<n):∀(k:Nat) (j:Nat) (h:Vec 8) (m:Nat),j+64*k=r.length->k<m->vH n r m ((j:Nat),h)=some ((),foldB k h (r.drop j)):=by
 intro k
 induction k with
 |zero=>
  intro j h m hj hm
  obtain⟨m,rfl⟩:∃q,m=q+1:=⟨m-1,by omega⟩
  rw[Qy,decide_eq_false (by omega)];rfl
 |succ k ih=>
  intro j h m hj hm
  obtain⟨m,rfl⟩:∃q,m=q+1:=⟨m-1,by omega⟩
  rw[Qy,decide_eq_true (by omega),cond_true,aW (i:=((j:Nat):Int)+64) (by omega) (by omega),lS (i:=((j:Nat):Int)+64) ⟨by omega,by omega⟩,lS (i:=((j:Nat):Int)) ⟨by omega,by omega⟩,Bool.and_self,cond_true]
  have hcut:List.drop (Int.toNat ((j:Nat):Int)) (List.take (Int.toNat (((j:Nat):Int)+64)) r)=(r.drop j).take 64:=by
   rw[Int.toNat_natCast,show Int.toNat (((j:Nat):Int)+64)=j+64 by omega,List.drop_take,afs]
  have hw:=ab4 (n:=n) (x:=(r.drop j).take 64) (by rw[aev,aex];omega) (by omega)
  rw[<-hcut] at hw
  refine bs hw ?_
  rw[hcut]
  show ((vF n r (j:Nat) h (qA ((r.drop j).take 64)) n (0,h)).bind _)=_
  rw[rR 64 0 h n (by decide) (by decide) (by omega)]
  show ((vG n r (j:Nat) ((),eO (yH (qA ((r.drop j).take 64))) 64 0 h) n (0,h)).bind _)=_
  rw[rA 8 0 h n (by decide) (by decide) (by omega)]
  have:=ih (j+64) (lD h ((r.drop j).take 64)) m (by omega) (by omega)
  rw[<-List.drop_drop] at this
  exact this
theorem QM {i:Int} (h0:0<=i) (h1:i<32):inN (IntKind.wrap .i64 (Int.tdiv i 4)) 8=true/\decide ((0:Int)<=IntKind.wrap .i64 (24-IntKind.wrap .i64 (8*Int.tmod i 4)))=true:=by
 rw[Int.tdiv_eq_ediv_of_nonneg h0,Int.tmod_eq_emod_of_nonneg h0,aW (i:=i/4) (by omega) (by omega),aW (i:=8*(i% 4)) (by omega) (by omega),aW (by omega) (by omega)]
 exact⟨eP ⟨by omega,by omega⟩,decide_eq_true (by omega)⟩
theorem hOut {n:Nat} {r9:(Vec 8)×(Vec 64)×Int}:∀(k:Nat) (i:Int) (o:Vec 32) (m:Nat),i+k=32->0<=i->k<m->vB n r9 m (i,o)=some ((),eO (II r9.1) k i o):=by
 intro k
 induction k with
 |zero=>
  intro i s m hi h0 hm
  obtain⟨m,rfl⟩:∃q,m=q+1:=⟨m-1,by omega⟩
  rw[Qn,decide_eq_false (by omega)];rfl
 |succ k ih=>
  intro i s m hi h0 hm
  obtain⟨m,rfl⟩:∃q,m=q+1:=⟨m-1,by omega⟩
  obtain⟨g1,g2⟩:=QM h0 (show i<32 by omega)
  rw[Qn,decide_eq_true (show i<32 by omega),cond_true,g1,g2,eP (i:=i) (n:=32) ⟨by omega,by omega⟩,jw (by omega) (by omega)]
  exact ih (i+1) _ m (by omega) (by omega) (by omega)
theorem acj {n:Nat} {h:Vec 8}:∀(k:Nat) (i:Int) (o:Vec 32) (m:Nat),i+k=32->0<=i->k<m->vI n ((),h) m (i,o)=some ((),eO (II h) k i o):=by
 intro k
 induction k with
 |zero=>
  intro i s m hi h0 hm
  obtain⟨m,rfl⟩:∃q,m=q+1:=⟨m-1,by omega⟩
  rw[Qz,decide_eq_false (by omega)];rfl
 |succ k ih=>
  intro i s m hi h0 hm
  obtain⟨m,rfl⟩:∃q,m=q+1:=⟨m-1,by omega⟩
  obtain⟨g1,g2⟩:=QM h0 (show i<32 by omega)
  rw[Qz,decide_eq_true (show i<32 by omega),cond_true,g1,g2,eP (i:=i) (n:=32) ⟨by omega,by omega⟩,jw (by omega) (by omega)]
  exact ih (i+1) _ m (by omega) (by omega) (by omega)
theorem acn {n:Nat} {b:List Int} (hB:dw b) (hb:b.length<2^28) (hbn:b.length<n) (hn:100<n):uX n b=some (yI b):=by
 obtain⟨h1,h2⟩:=Jm b.length
 rw[abH,ach hb hn]
 have hl:(b++jO b.length).length=b.length+(1+zpad b.length+8):=by rw[aaG,Dr]
 show (vH n (b++jO b.length) n (((0:Nat):Int),IV)).bind _=_
 rw[aci (ny hB (QL _)) (by omega) hn ((b.length+(1+zpad b.length+8))/64) 0 IV n (by omega) (by omega)]
 show ((vI n ((),foldB _ IV (b++jO b.length)) n (0,Vec.rep 32 0)).bind _)=_
 rw[acj 32 0 _ n (by decide) (by decide) (by omega)]
 rfl
theorem aco {n:Nat} {b:List Int} {h:Vec 8} {v:Vec 64} {c:Int} (hs:lV b h v c) (hb:b.length<2^28) (hn:200<n):uO n (h,(v,c))=some (yI b):=by
 obtain⟨h1,h2⟩:=Jm b.length
 have hc:c=((b.length:Nat):Int):=by obtain⟨_,_,_,_,_,_,_,_,e,_⟩:=hs;exact e
 have hB:dw b:=by obtain⟨_,_,_,_,_,_,_,_,_,e⟩:=hs;exact e
 subst hc
 rw[abx,ace (by omega) (zpad b.length) [128] n (by rw[List.length_singleton];exact h1) h2 (by rw[List.length_singleton];omega) (by omega)]
 show (vv n h v (b.length:Nat) n ([128]++List.replicate (zpad b.length) 0,0)).bind _=_
 rw[hLen 8 0 _ n (by decide) (by decide) (by simp only[aaG,List.length_singleton,List.length_replicate];omega) (by omega)]
 obtain⟨h',v',c',e1,e2⟩:=Jk (n:=n) (text:=jy (jO b.length)) (by omega) hs (by rw[oU,Dr];omega) (by rw[oU,Dr];omega)
 show ((ng n ((h,(v,((b.length:Nat):Int))),jy (jO b.length))).bind _)=_
 rw[e1]
 show ((vB n (h',(v',c')) n (0,Vec.rep 32 0)).bind _)=_
 rw[hOut 32 0 _ n (by decide) (by decide) (by omega)]
 rw[Ji (QL _)] at e2
 obtain⟨q,done,tail,hb',hd,htl,hh,_,_,_⟩:=e2
 have hlen:(b++jO b.length).length=64*q+tail.length:=by rw[hb',aaG,hd]
 rw[aaG,Dr] at hlen
 have ht:tail=[]:=afa (by omega)
 subst ht
 rw[aeX] at hb'
 have hq:(b.length+(1+zpad b.length+8))/64=q:=by rw[List.length_nil] at hlen;omega
 show some (Pn h')=some (yI b)
 unfold yI
 rw[hq,hb',hh]
end Sh
end
section
open Go Go.Proofs Aq
namespace Sh
set_option maxRecDepth 100000
theorem acp (n:Nat) (r:List Int):uY n r=(uX n r).bind fun h=>some (Po h):=by kernel_rfl
end Sh
end
section
open Go Go.Proofs Aq
namespace Sh
theorem acr {z:Int} (h0:0<=z):bitOr .u8 (IntKind.wrap .u8 z) 128=z% 128+128:=by
 have h1:IntKind.wrap .u8 z=z% 256:=by rw[IntKind.wrap_u8]
 rw[h1]
 have key:∀a:Nat,a<256->bitOr .u8 ((a:Nat):Int) 128=((a% 128+128:Nat):Int):=by
  intro a ha
  have:∀a:Fin 256,bitOr .u8 ((a.val:Nat):Int) 128=((a.val% 128+128:Nat):Int):=by decide+kernel
  exact this ⟨a,ha⟩
 have h2:z% 256=(((z% 256).toNat:Nat):Int):=by omega
 rw[h2,key _ (by omega)]
 omega
theorem Dt {x:Int} (h0:0<=x) (h1:x<2^64):IntKind.wrap .u64 x=x:=by rw[IntKind.wrap_u64];omega
theorem QN {n:Nat}:∀(k:Nat) (z:Int) (p:List Int) (m:Nat),0<=z->z<128^k->z<2^64->p.length+k<2^20->k<=m->0<k->∃q y,vo n m (z,p)=some (y,p++q)/\vC n m (z,p)=some (y,p++q)/\q++[y]=mX k z/\q.length<k/\0<=y/\y<128:=by
 intro k
 induction k with
 |zero=>intro z p m _ _ _ _ _ h;omega
 |succ k ih=>
  intro z p m h0 h1 h64 hp hm _
  obtain⟨m,rfl⟩:∃q,m=q+1:=⟨m-1,by omega⟩
  by_cases hz:z>=128
  ·have hk:0<k:=by
    rcases Nat.eq_zero_or_pos k with rfl|h
    ·have:z<128:=by simpa using h1
     omega
    ·exact h
   have hd:z/128<128^k:=by
    rw[Int.pow_succ] at h1
    exact Int.ediv_lt_of_lt_mul (by decide) h1
   obtain⟨q,y,e1,e2,e3,e4,e5⟩:=ih (z/128) (p++[z% 128+128]) m (by omega) hd (by omega) (by rw[aaG,List.length_singleton];omega) (by omega) hk
   obtain⟨s0,s1⟩:=abO h0
   refine⟨(z% 128+128)::q,y,?_,?_,?_,?_,e5⟩
   ·rw[Qk,decide_eq_true (show z>127 by omega),cond_true,gM (by simp;omega) (by decide),cond_true,acr h0,s1]
    rw[aeC] at e1
    exact e1
   ·rw[Qq,decide_eq_true hz,cond_true,show (!((128:Int)==0))=true from rfl,cond_true,gM (by simp;omega) (by decide),cond_true,cond_true]
    rw[Int.tmod_eq_emod_of_nonneg h0,abN h0,Dt (by omega) (by omega)]
    have hw:IntKind.wrap .u8 (IntKind.wrap .u8 (z% 128)+128)=z% 128+128:=by rw[IntKind.wrap_u8,IntKind.wrap_u8];omega
    rw[hw]
    rw[aeC] at e2
    exact e2
   ·rw[mX,if_pos hz,<-e3];rfl
   ·simp;omega
  ·refine⟨[],z,?_,?_,?_,by simp,h0,by omega⟩
   ·rw[Qk,decide_eq_false (show¬z>127 by omega),aeX];rfl
   ·rw[Qq,decide_eq_false hz,aeX];rfl
   ·rw[mX,if_neg hz];rfl
end Sh
end
section
open Go Go.Proofs Aq
namespace Sh
def rI (x:Int):Prop:= -(2^63)<=x/\x<2^63
theorem Jo {x:Int} (h:rI x):0<=jo x/\jo x<2^64:=by unfold jo;unfold rI at h;split<;>omega
theorem acs {a:Int} (h0:0<=a) (h1:a<2^64):bitXor .u64 a 0=a:=by
 unfold bitXor
 obtain⟨c,rfl⟩:∃c:Nat,a=(c:Int):=⟨a.toNat,(afE h0).symm⟩
 have hc:c<2^64:=by exact_mod_cast h1
 have e:(BitVec.ofInt IntKind.u64.bits (c:Int)^^^BitVec.ofInt IntKind.u64.bits 0).toNat=c:=by
  show (BitVec.ofInt 64 (c:Int)^^^0#64).toNat=_
  rw[BitVec.xor_zero,BitVec.ofInt_natCast,BitVec.toNat_ofNat,afB hc]
 rw[e]
 exact Dt h0 h1
theorem acu {a:Int} (h0:0<=a) (h1:a<2^64):bitXor .u64 a (2^64-1)=2^64-1-a:=by
 unfold bitXor
 obtain⟨c,rfl⟩:∃c:Nat,a=(c:Int):=⟨a.toNat,(afE h0).symm⟩
 have hc:c<2^64:=by exact_mod_cast h1
 have e:(BitVec.ofInt IntKind.u64.bits (c:Int)^^^BitVec.ofInt IntKind.u64.bits (2^64-1)).toNat=2^64-1-c:=by
  show (BitVec.ofInt 64 (c:Int)^^^BitVec.ofInt 64 (2^64-1)).toNat=_
  rw[show BitVec.ofInt 64 (2^64-1)=BitVec.allOnes 64 by decide,BitVec.xor_allOnes,BitVec.toNat_not,BitVec.ofInt_natCast,BitVec.toNat_ofNat,afB hc]
 rw[e,IntKind.wrap_u64]
 omega
theorem acv {x:Int} (h:rI x):bitXor .u64 (bitShl .u64 (IntKind.wrap .u64 x) 1) (IntKind.wrap .u64 (bitShr .i64 x 63))=jo x:=by
 obtain⟨a,b⟩:=h
 have hs:bitShl .u64 (IntKind.wrap .u64 x) 1=IntKind.wrap .u64 (IntKind.wrap .u64 x*2):=rfl
 have hr:bitShr .i64 x 63=x.fdiv (2^63):=rfl
 rw[hs,hr,Int.fdiv_eq_ediv_of_nonneg _ (by decide)]
 unfold jo
 by_cases hx:x<0
 ·rw[if_pos hx,show x/2^63= -1 by omega,show IntKind.wrap .u64 (-1)=2^64-1 by rw[IntKind.wrap_u64];decide]
  have:IntKind.wrap .u64 (IntKind.wrap .u64 x*2)=2*x+2^64:=by rw[IntKind.wrap_u64,IntKind.wrap_u64];omega
  rw[this,acu (by omega) (by omega)]
  omega
 ·rw[if_neg hx,show x/2^63=0 by omega,Dt (x:=x) (by omega) (by omega),Dt (x:=x*2) (by omega) (by omega),show IntKind.wrap .u64 0=0 by rw[IntKind.wrap_u64];decide,acs (by omega) (by omega)]
  omega
theorem QO:∀(k:Nat) (z:Int),0<=z->dw (mX k z)
 |0,_,_=>fun x hx=>by cases hx
 |k+1,z,h=>by
  unfold mX
  split
  ·intro x hx
   rcases aeQ.1 hx with rfl|hx
   ·omega
   ·exact QO k _ (by omega) x hx
  ·intro x hx
   rw[aeH.1 hx];omega
theorem acw {x:Int} (h:rI x):dw (encI x):=QO 10 _ (Jo h).1
theorem QS:∀(k:Nat) (z:Int),(mX k z).length<=k
 |0,_=>iP _
 |k+1,z=>by
  unfold mX
  split
  ·rw[List.length_cons];have:=QS k (z/128);omega
  ·simp
theorem nA (x:Int):(encI x).length<=10:=QS _ _
theorem Jp {y:Int} (h0:0<=y) (h1:y<128):IntKind.wrap .u8 y=y:=by rw[IntKind.wrap_u8];omega
theorem Jq {n:Nat} {x:Int} (h:rI x) (hn:20<n):ni n x=some (encI x):=by
 obtain⟨z0,z1⟩:=Jo h
 obtain⟨q,y,e1,_,e3,e4,e5,e6⟩:=QN (n:=n) 10 (jo x) [] n z0 (Int.lt_of_lt_of_le z1 (by decide)) z1 (by decide) (by omega) (by decide)
 rw[abv,acv h]
 show ((vo n n (jo x,[])).bind _)=_
 rw[e1,List.nil_append,Option.bind_some]
 rw[gM (by show q.length+1<_;omega) (by decide),cond_true,Jp e5 e6,e3]
 rfl
theorem Jr {n:Nat} {x:Int} (h:rI x) (hn:20<n):nu n x=some (encI x):=by
 obtain⟨z0,z1⟩:=Jo h
 obtain⟨q,y,_,e1,e3,e4,e5,e6⟩:=QN (n:=n) 10 (jo x) [] n z0 (Int.lt_of_lt_of_le z1 (by decide)) z1 (by decide) (by omega) (by decide)
 obtain⟨a,b⟩:=h
 rw[abB]
 by_cases hx:x<0
 ·have hz:IntKind.wrap .u64 (IntKind.wrap .u64 (IntKind.wrap .u64 (IntKind.wrap .i64 (-1-x))*2)+1)=jo x:=by
   unfold jo
   rw[if_pos hx,IntKind.wrap_i64,IntKind.wrap_u64,IntKind.wrap_u64,IntKind.wrap_u64];omega
  rw[decide_eq_true hx,cond_true,hz,e1,List.nil_append,Option.bind_some]
  rw[gM (by show q.length+1<_;omega) (by decide),cond_true,Jp e5 e6,e3]
  rfl
 ·have hz:IntKind.wrap .u64 (IntKind.wrap .u64 x*2)=jo x:=by
   unfold jo
   rw[if_neg hx,IntKind.wrap_u64,IntKind.wrap_u64];omega
  rw[decide_eq_false hx,cond_false,hz,e1,List.nil_append,Option.bind_some]
  rw[gM (by show q.length+1<_;omega) (by decide),cond_true,Jp e5 e6,e3]
  rfl
theorem gR {α:Type} {c:Bool} {o r:Option α} (h:c=true) (k:o=r):(bif c then o else none)=r:=by rw[h];exact k
theorem zn {k:Nat} (h:k<2^62):rI ((k:Nat):Int):=by unfold rI;omega
theorem QT {s:List UInt8} (h:s.length<2^62):dw (bB s):=ny (acw (zn h)) (QH _)
theorem acy (s:List UInt8):(bB s).length<=s.length+10:=by unfold bB;rw[aaG,QI];have:=nA ((s.length:Nat):Int);omega
theorem acz {n:Nat} {s:List UInt8} (h:s.length<2^29) (hn:20<n):uN n s=some (bB s):=by
 have hl:=nA ((s.length:Nat):Int)
 rw[abw]
 exact bs (Jq (zn (by omega)) hn) (gR (gM (by rw[ab3];omega) (by decide)) rfl)
theorem acA {n:Nat} {s:List UInt8} (h:s.length<2^29) (hn:20<n):uT n s=some (bB s):=by
 have hl:=nA ((s.length:Nat):Int)
 rw[abC]
 exact bs (Jr (zn (by omega)) hn) (gR (gM (by rw[ab3];omega) (by decide)) rfl)
end Sh
end
section
open Go Go.Proofs Aq
namespace Sh
def dN {α:Type} (f:α->List Int) (l:List α):Nat:=l.foldr (fun x s=>(f x).length+s) 0
theorem Du {α:Type} (f:α->List Int):∀l:List α,(l.flatMap f).length=dN f l
 | []=>rfl
 |x::l=>by rw[ae1,aaG,Du f l];rfl
theorem Dv {α:Type} {f:α->List Int} {b:Nat}:∀{l:List α},(∀x∈l,(f x).length<=b)->dN f l<=b*l.length
 | [],_=>afd _
 |x::l,h=>by
  have h1:=h x (by simp)
  have h2:=Dv (f:=f) (l:=l) fun y hy=>h y (ae0 _ hy)
  show (f x).length+dN f l<=b*(l.length+1)
  rw[Nat.mul_add,Nat.mul_one];omega
theorem acB {n:Nat} {l:List Int} (hb:∀x∈l,rI x) (hlen:l.length<2^62) (hn:20<n):∀(k i m:Nat) (a:List Int),i+k=l.length->k<m->a.length+dN encI (l.drop i)<2^29->zh n l m (a,(i:Int))=some (a++(l.drop i).flatMap encI):=by
 intro k
 induction k with
 |zero=>
  intro i m a hi hm hc
  obtain⟨m,rfl⟩:∃m',m=m'+1:=⟨m-1,by omega⟩
  rw[Qp,oP (by omega),aft (by omega),List.flatMap_nil,aeX];rfl
 |succ k ih=>
  intro i m a hi hm hc
  obtain⟨m,rfl⟩:∃m',m=m'+1:=⟨m-1,by omega⟩
  have hlt:i<l.length:=by omega
  have hx:l[i]? =some l[i]:=afb hlt
  have hd:l.drop i=l[i]::l.drop (i+1):=afy hlt
  rw[hd] at hc⊢
  have hm':=hb l[i] (afc hlt)
  generalize l[i]=x at hx hc hm'⊢
  rw[Qp,oN hx,lQ hx,oO (by omega),cond_true]
  have hsz:dN encI (x::l.drop (i+1))=(encI x).length+dN encI (l.drop (i+1)):=rfl
  have h:=ih (i+1) m (a++encI x) (by omega) (by omega) (by rw[aaG];omega)
  rw[aeC] at h
  exact bs rfl (bs (Jq hm' hn) (gR (gM (by omega) (by decide)) h))
theorem acC {n:Nat} {l:List Int} (hb:∀x∈l,rI x) (hlen:l.length<2^62) (hn:20<n):∀(k i m:Nat) (a:List Int),i+k=l.length->k<m->a.length+dN encI (l.drop i)<2^29->zm n l m (a,(i:Int))=some (a++(l.drop i).flatMap encI):=by
 intro k
 induction k with
 |zero=>
  intro i m a hi hm hc
  obtain⟨m,rfl⟩:∃m',m=m'+1:=⟨m-1,by omega⟩
  rw[QA,oP (by omega),aft (by omega),List.flatMap_nil,aeX];rfl
 |succ k ih=>
  intro i m a hi hm hc
  obtain⟨m,rfl⟩:∃m',m=m'+1:=⟨m-1,by omega⟩
  have hlt:i<l.length:=by omega
  have hx:l[i]? =some l[i]:=afb hlt
  have hd:l.drop i=l[i]::l.drop (i+1):=afy hlt
  rw[hd] at hc⊢
  have hm':=hb l[i] (afc hlt)
  generalize l[i]=x at hx hc hm'⊢
  rw[QA,oN hx,lQ hx,oO (by omega),cond_true]
  have hsz:dN encI (x::l.drop (i+1))=(encI x).length+dN encI (l.drop (i+1)):=rfl
  have h:=ih (i+1) m (a++encI x) (by omega) (by omega) (by rw[aaG];omega)
  rw[aeC] at h
  exact bs rfl (bs (Jr hm' hn) (gR (gM (by omega) (by decide)) h))
def kI (l:List Int):List Int:=encI (l.length:Nat)++l.flatMap encI
theorem QU {α:Type} {f:α->List Int}:∀{l:List α},(∀x∈l,dw (f x))->dw (l.flatMap f)
 | [],_=>fun x hx=>by cases hx
 |x::l,h=>by
  rw[ae1]
  exact ny (h x (by simp)) (QU fun y hy=>h y (ae0 _ hy))
theorem acD {l:List Int}:(kI l).length<=10+10*l.length:=by
 unfold kI
 rw[aaG,Du]
 have h1:=nA ((l.length:Nat):Int)
 have h2:=Dv (f:=encI) (b:=10) (l:=l) fun x _=>nA x
 omega
theorem acE {n:Nat} {l:List Int} (hb:∀x∈l,rI x) (hl:l.length<2^20) (hn:l.length<n) (hn2:20<n):qH n l=some (kI l):=by
 have h1:=nA ((l.length:Nat):Int)
 have h2:=Dv (f:=encI) (b:=10) (l:=l) fun x _=>nA x
 rw[abA]
 refine bs (?_:_=some (kI l)) rfl
 rw[abz]
 exact bs (Jq (zn (by omega)) hn2) (bs (acB hb (by omega) hn2 l.length 0 n _ (by omega) hn (by rw[afq];omega)) rfl)
theorem acF {n:Nat} {l:List Int} (hb:∀x∈l,rI x) (hl:l.length<2^20) (hn:l.length<n) (hn2:20<n):qK n l=some (kI l):=by
 have h1:=nA ((l.length:Nat):Int)
 have h2:=Dv (f:=encI) (b:=10) (l:=l) fun x _=>nA x
 rw[abJ]
 exact bs (Jr (zn (by omega)) hn2) (bs (acC hb (by omega) hn2 l.length 0 n _ (by omega) hn (by rw[afq];omega)) rfl)
theorem acG (n:Nat):∃v,uJ n ()=some (IV,(v,(0:Int))):=by
 rw[abo]
 exact⟨_,rfl⟩
theorem acH {n:Nat} {ls:List (List UInt8)} (hb:∀x∈ls,x.length<2^28) (hlen:ls.length<2^62) (hn:70<n):∀(k i m:Nat) (b:List Int) (h:Vec 8) (v:Vec 64) (c:Int),i+k=ls.length->k<m->lV b h v c->b.length+dN bB (ls.drop i)<2^28->dN bB (ls.drop i)<n->
 ∃h' v' c',zf n ls m ((i:Int),(h,(v,c)))=some ((),(h',(v',c')))/\lV (b++(ls.drop i).flatMap bB) h' v' c':=by
 intro k
 induction k with
 |zero=>
  intro i m b h v c hi hm hs _ _
  obtain⟨m,rfl⟩:∃m',m=m'+1:=⟨m-1,by omega⟩
  refine⟨h,v,c,?_,?_⟩
  ·rw[Qo,oP (by omega)];rfl
  ·rw[aft (by omega),List.flatMap_nil,aeX];exact hs
 |succ k ih=>
  intro i m b h v c hi hm hs hsz QV
  obtain⟨m,rfl⟩:∃m',m=m'+1:=⟨m-1,by omega⟩
  have hlt:i<ls.length:=by omega
  have hx:ls[i]? =some ls[i]:=afb hlt
  have hd:ls.drop i=ls[i]::ls.drop (i+1):=afy hlt
  rw[hd] at hsz QV⊢
  have hm':=hb ls[i] (afc hlt)
  generalize ls[i]=x at hx hsz QV hm'⊢
  have e:dN bB (x::ls.drop (i+1))=(bB x).length+dN bB (ls.drop (i+1)):=rfl
  have hB:dw (bB x):=QT (by omega)
  obtain⟨h1,v1,c1,g1,g2⟩:=Jk (n:=n) (text:=jy (bB x)) hn hs (by rw[oU];omega) (by rw[oU];omega)
  rw[Ji hB] at g2
  obtain⟨h2,v2,c2,g3,g4⟩:=ih (i+1) m (b++bB x) h1 v1 c1 (by omega) (by omega) g2 (by rw[aaG];omega) (by omega)
  refine⟨h2,v2,c2,?_,?_⟩
  ·rw[Qo,oN hx,lQ hx,oO (by omega),cond_true]
   exact bs rfl (bs (acz (by omega) (by omega)) (bs g1 g3))
  ·rw[ae1,<-aeC];exact g4
theorem acI (t:Int) {ls:List (List UInt8)} (hb:∀x∈ls,x.length<2^28):dw (uy t ls):=
 ny (fun x hx=>by rw[aeH.1 hx];exact Jl t) (QU fun x hx=>QT (by have:=hb x hx;omega))
theorem Dw {n:Nat} {t:Int} {ls:List (List UInt8)} (hb:∀x∈ls,x.length<2^28) (hs:1+dN bB ls<2^28) (hsn:dN bB ls<n) (hl:ls.length<n) (hn:200<n) (hlen:ls.length<2^62):oL n (t,ls)=some (fM t ls):=by
 rw[aby]
 obtain⟨v,hv⟩:=acG n
 have s0:lV [] IV v 0:=⟨0,[],[],rfl,rfl,by decide,rfl,rfl,rfl,fun x hx=>by cases hx⟩
 have hB1:dw [IntKind.wrap .u8 t]:=fun x hx=>by rw[aeH.1 hx];exact Jl t
 obtain⟨h1,v1,c1,g1,g2⟩:=Jk (n:=n) (text:=jy [IntKind.wrap .u8 t]) (by omega) s0 (by rw[oU];simp) (by rw[oU];simp;omega)
 rw[Ji hB1,List.nil_append] at g2
 obtain⟨h2,v2,c2,g3,g4⟩:=acH (n:=n) hb hlen (by omega) ls.length 0 n _ h1 v1 c1 (by omega) hl g2 (by rw[afq,List.length_singleton];exact hs) (by rw[afq];exact hsn)
 rw[afq] at g4
 have g5:=aco (n:=n) g4 (by rw[aaG,List.length_singleton,Du];exact hs) hn
 refine bs hv (bs g1 (bs g3 ?_))
 refine bs g5 ?_
 exact gR (by decide) (gR (by decide) rfl)
theorem acJ {n:Nat} {ls:List (List UInt8)} (hb:∀x∈ls,x.length<2^28) (hlen:ls.length<2^62) (hn:20<n):∀(k i m:Nat) (a:List Int),i+k=ls.length->k<m->a.length+dN bB (ls.drop i)<2^29->zi n ls m (a,(i:Int))=some (a++(ls.drop i).flatMap bB):=by
 intro k
 induction k with
 |zero=>
  intro i m a hi hm hc
  obtain⟨m,rfl⟩:∃m',m=m'+1:=⟨m-1,by omega⟩
  rw[Qr,oP (by omega),aft (by omega),List.flatMap_nil,aeX];rfl
 |succ k ih=>
  intro i m a hi hm hc
  obtain⟨m,rfl⟩:∃m',m=m'+1:=⟨m-1,by omega⟩
  have hlt:i<ls.length:=by omega
  have hx:ls[i]? =some ls[i]:=afb hlt
  have hd:ls.drop i=ls[i]::ls.drop (i+1):=afy hlt
  rw[hd] at hc⊢
  have hm':=hb ls[i] (afc hlt)
  generalize ls[i]=x at hx hc hm'⊢
  rw[Qr,oN hx,lQ hx,oO (by omega),cond_true]
  have hsz:dN bB (x::ls.drop (i+1))=(bB x).length+dN bB (ls.drop (i+1)):=rfl
  have h:=ih (i+1) m (a++bB x) (by omega) (by omega) (by rw[aaG];omega)
  rw[aeC] at h
  exact bs rfl (bs (acA (by omega) hn) (gR (gM (by omega) (by decide)) h))
theorem Js {n:Nat} {t:Int} {ls:List (List UInt8)} (hb:∀x∈ls,x.length<2^28) (hs:1+dN bB ls<2^28) (hsn:1+dN bB ls<n) (hl:ls.length<n) (hn:200<n) (hlen:ls.length<2^62):oM n (t,ls)=some (fM t ls):=by
 rw[abI]
 have h1:uU n (t,ls)=some (uy t ls):=by
  rw[abD]
  refine bs (acJ hb hlen (by omega) ls.length 0 n _ (by omega) hl (by rw[afq,List.length_singleton];omega)) ?_
  rw[afq];rfl
 have aeY:(uy t ls).length=1+dN bB ls:=by unfold uy;rw[aaG,List.length_singleton,Du]
 have h2:uY n (uy t ls)=some (fM t ls):=by
  rw[acp,acn (acI t hb) (by omega) (by omega) (by omega)];rfl
 exact bs h1 (bs h2 rfl)
end Sh
end
section
open Go Go.Proofs Aq
namespace Sh
set_option maxRecDepth 100000
attribute [local irreducible] fM
theorem vJ {n:Nat} (h:2<=n):1<=aJ n/\aJ n<n:=by
 have h1:2^Nat.log2 (n-1)<=n-1:=Nat.log2_self_le (by omega)
 have h2:0<2^Nat.log2 (n-1):=Nat.pow_pos (by decide)
 unfold aJ;omega
theorem tab_log:∀i:Fin 256,1<=i.val->tabS0[i.val]? =some (UInt8.ofNat (Nat.log2 i.val+1)):=by decide+kernel
theorem tab_idx {x:Nat} (h1:1<=x) (h2:x<256):idxL tabS0 (IntKind.wrap .u8 ((x:Nat):Int))=some (UInt8.ofNat (Nat.log2 x+1)):=by
 have hw:IntKind.wrap .u8 ((x:Nat):Int)=((x:Nat):Int):=by rw[IntKind.wrap_u8];omega
 have hl:tabS0.length=256:=by decide+kernel
 rw[hw]
 unfold idxL
 rw[if_pos ⟨by omega,by rw[hl];omega⟩,Int.toNat_natCast]
 exact tab_log ⟨x,h2⟩ h1
theorem log2_le7 {x:Nat} (h1:1<=x) (h2:x<256):Nat.log2 x<8:=(Nat.log2_lt (by omega)).2 (by omega)
theorem log2_256 {x:Nat} (h:256<=x):Nat.log2 x=8+Nat.log2 (x/256):=by
 have hx:x/256≠0:=by omega
 apply Nat.le_antisymm
 ·apply Nat.le_of_lt_succ
  rw[Nat.log2_lt (by omega)]
  have h1:x/256<2^(Nat.log2 (x/256)+1):=Nat.lt_log2_self
  have h2:2^(8+Nat.log2 (x/256)).succ=256*2^(Nat.log2 (x/256)+1):=by
   rw[Nat.succ_eq_add_one,ae9,Nat.pow_add]
  rw[h2];omega
 ·rw[Nat.le_log2 (by omega),Nat.pow_add]
  have h1:2^Nat.log2 (x/256)<=x/256:=Nat.log2_self_le hx
  have:2^8*2^Nat.log2 (x/256)<=2^8*(x/256):=Nat.mul_le_mul_left _ h1
  omega
theorem len64 {n x:Nat} (h1:1<=x) (h2:x<65536):QQ n ((x:Nat):Int)=some ((Nat.log2 x+1:Nat):Int):=by
 rw[QQ_eq]
 refine bF (decide_eq_false (by omega)) (bF (decide_eq_false (by omega)) ?_)
 by_cases h:256<=x
 ·have hl:=log2_256 h
  have hs:=log2_le7 (x:=x/256) (by omega) (by omega)
  refine bT (decide_eq_true (by omega)) ?_
  refine gR (by decide) ?_
  have hsh:bitShr .u64 ((x:Nat):Int) 8=((x/256:Nat):Int):=by
   show Int.fdiv ((x:Nat):Int) (2^8)=_
   rw[Int.fdiv_eq_ediv_of_nonneg _ (by decide)];omega
  rw[hsh,tab_idx (by omega) (by omega)]
  show some _=_
  congr 1
  rw[UInt8.toNat_ofNat_of_lt' (show Nat.log2 (x/256)+1<256 by omega),hl]
  rw[IntKind.wrap_i64,IntKind.wrap_i64,IntKind.wrap_i64];omega
 ·have hs:=log2_le7 (x:=x) (by omega) (by omega)
  refine bF (decide_eq_false (by omega)) ?_
  rw[tab_idx (by omega) (by omega)]
  show some _=_
  congr 1
  rw[UInt8.toNat_ofNat_of_lt' (show Nat.log2 x+1<256 by omega)]
  rw[IntKind.wrap_i64,IntKind.wrap_i64];omega
theorem log2_div {x k:Nat} (h:2^k<=x):Nat.log2 x=k+Nat.log2 (x/2^k):=by
 have hk:0<2^k:=Nat.pow_pos (by decide)
 have hx:x/2^k≠0:=by
  have:=Nat.div_pos h hk
  omega
 have hx0:x≠0:=by omega
 apply Nat.le_antisymm
 ·apply Nat.le_of_lt_succ
  rw[Nat.log2_lt hx0]
  have h1:x/2^k<2^(Nat.log2 (x/2^k)+1):=Nat.lt_log2_self
  have h2:2^(k+Nat.log2 (x/2^k)).succ=2^(Nat.log2 (x/2^k)+1)*2^k:=by
   rw[Nat.succ_eq_add_one,ae9,Nat.pow_add,afk]
  rw[h2]
  exact(Nat.div_lt_iff_lt_mul hk).1 h1
 ·rw[Nat.le_log2 hx0,Nat.pow_add]
  have h1:2^Nat.log2 (x/2^k)<=x/2^k:=Nat.log2_self_le hx
  have h2:2^k*2^Nat.log2 (x/2^k)<=2^k*(x/2^k):=Nat.mul_le_mul_left _ h1
  exact aaI h2 (Nat.mul_div_le ..)
theorem shrN (x k:Nat) (hk:k<=64):bitShr .u64 ((x:Nat):Int) ((k:Nat):Int)=((x/2^k:Nat):Int):=by
 show Int.fdiv ((x:Nat):Int) (2^min (((k:Nat):Int)).toNat 64)=_
 rw[Int.toNat_natCast,afC hk,Int.fdiv_eq_ediv_of_nonneg _ (by exact Int.le_of_lt (Int.pow_pos (by decide)))]
 rw[Int.natCast_ediv]
 congr 1
theorem tail16 {y a:Nat} (h1:1<=y) (h2:y<256) (ha:a<=64):(idxL tabS0 (IntKind.wrap .u8 ((y:Nat):Int))).bind (fun (r2:UInt8)=>some (IntKind.wrap .i64 (((a:Nat):Int)+IntKind.wrap .i64 (((r2.toNat:Nat):Int)))))=some ((a+Nat.log2 y+1:Nat):Int):=by
 have hs:=log2_le7 h1 h2
 rw[tab_idx h1 h2]
 show some _=_
 congr 1
 rw[UInt8.toNat_ofNat_of_lt' (show Nat.log2 y+1<256 by omega)]
 simp only[IntKind.wrap_i64];omega
theorem len64c {n x:Nat} (h1:4294967296<=x) (h2:x<2^41):QQ n ((x:Nat):Int)=some ((Nat.log2 x+1:Nat):Int):=by
 rw[QQ_eq]
 have hl:=log2_div (x:=x) (k:=32) (by omega)
 have hy1:1<=x/2^32:=by omega
 have hy2:x/2^32<512:=by omega
 have s32:bitShr .u64 ((x:Nat):Int) (32:Int)=((x/2^32:Nat):Int):=shrN x 32 (by decide)
 rw[bT (decide_eq_true (by omega)) rfl,bT (by decide) rfl,s32]
 generalize x/2^32=y at hl hy1 hy2
 rw[bF (decide_eq_false (by omega)) rfl]
 by_cases h8:256<=y
 ·have hl8:=log2_256 h8
  have s8:bitShr .u64 ((y:Nat):Int) (8:Int)=((y/2^8:Nat):Int):=shrN y 8 (by decide)
  rw[bT (decide_eq_true (by omega)) rfl,bT (by decide) rfl,s8,show IntKind.wrap .i64 ((32:Int)+(8:Int))=((40:Nat):Int) by decide]
  refine(tail16 (by omega) (by omega) (by decide)).trans ?_
  rw[hl,hl8,show y/2^8=y/256 by omega]
  congr 2;omega
 ·rw[bF (decide_eq_false (by omega)) rfl,show (32:Int)=((32:Nat):Int) from rfl]
  refine(tail16 (by omega) (by omega) (by decide)).trans ?_
  rw[hl]
theorem len64d {n x:Nat} (h1:65536<=x) (h2:x<4294967296):QQ n ((x:Nat):Int)=some ((Nat.log2 x+1:Nat):Int):=by
 rw[QQ_eq]
 have hl:=log2_div (x:=x) (k:=16) (by omega)
 have hy1:1<=x/2^16:=by omega
 have hy2:x/2^16<65536:=by omega
 have s16:bitShr .u64 ((x:Nat):Int) (16:Int)=((x/2^16:Nat):Int):=shrN x 16 (by decide)
 rw[bF (decide_eq_false (by omega)) rfl,bT (decide_eq_true (by omega)) rfl,bT (by decide) rfl,s16]
 generalize x/2^16=y at hl hy1 hy2
 by_cases h8:256<=y
 ·have hl8:=log2_256 h8
  have s8:bitShr .u64 ((y:Nat):Int) (8:Int)=((y/2^8:Nat):Int):=shrN y 8 (by decide)
  rw[bT (decide_eq_true (by omega)) rfl,bT (by decide) rfl,s8,show IntKind.wrap .i64 (IntKind.wrap .i64 ((0:Int)+(16:Int))+(8:Int))=((24:Nat):Int) by decide]
  refine(tail16 (by omega) (by omega) (by decide)).trans ?_
  rw[hl,hl8,show y/2^8=y/256 by omega]
  congr 2;omega
 ·rw[bF (decide_eq_false (by omega)) rfl,show IntKind.wrap .i64 ((0:Int)+(16:Int))=((16:Nat):Int) by decide]
  refine(tail16 (by omega) (by omega) (by decide)).trans ?_
  rw[hl]
theorem len64b {n x:Nat} (h1:1<=x) (h2:x<2^41):QQ n ((x:Nat):Int)=some ((Nat.log2 x+1:Nat):Int):=by
 by_cases h16:x<65536
 ·exact len64 h1 h16
 by_cases h32:x<4294967296
 ·exact len64d (by omega) h32
 ·exact len64c (by omega) h2
theorem zo {n k:Nat} (h2:2<=k) (h:k<=2^40):lN n ((k:Nat):Int)=some ((aJ k:Nat):Int):=by
 rw[abK,aW (i:=((k:Nat):Int)-1) (by omega) (by omega),Dp (x:=((k:Nat):Int)-1) (by omega) (by omega),show ((k:Nat):Int)-1=((k-1:Nat):Int) by omega]
 have hl:Nat.log2 (k-1)<41:=(Nat.log2_lt (by omega)).2 (by omega)
 have h1:Zs n ((k-1:Nat):Int)=some ((Nat.log2 (k-1)+1:Nat):Int):=by
  rw[Zs_eq];exact bs (len64b (by omega) (by omega)) rfl
 refine bs h1 ?_
 rw[aW (by omega) (by omega)]
 refine gR (decide_eq_true (by omega)) ?_
 have e:(((Nat.log2 (k-1)+1:Nat):Int))-1=((Nat.log2 (k-1):Nat):Int):=by omega
 rw[e]
 show some (IntKind.wrap .i64 (1*2^min (((Nat.log2 (k-1):Nat):Int)).toNat 64))=_
 congr 1
 rw[Int.toNat_natCast,afC (by omega),Int.one_mul]
 have hp:2^Nat.log2 (k-1)<=k-1:=Nat.log2_self_le (by omega)
 have hc:((2^Nat.log2 (k-1):Nat):Int)=(2:Int)^Nat.log2 (k-1):=by push_cast;rfl
 rw[<-hc]
 unfold aJ
 generalize 2^Nat.log2 (k-1)=q at hp⊢
 exact aW (by omega) (by omega)
theorem acK (a b x:ah) (h:oH (a,b)=some x):Pure E 53 [a.v,b.v] x.v:=by
 cases h
 refine Qg 1000 (a,b) _ ?_
 have la:(aY a).length=16:=rfl
 have lb:(aY b).length=16:=rfl
 have le:∀d:ah,(bB (aY d)).length=17:=fun d=>rfl
 have hsz:dN bB [aY a,aY b]=34:=by show (bB (aY a)).length+((bB (aY b)).length+0)=34;rw[le,le]
 rw[QB]
 refine bs (Dw (n:=1000) (t:=31) (ls:=[aY a,aY b]) (fun x hx=>?_) ?_ ?_ (by show 2<1000;decide) (by decide) (by show 2<2^62;decide)) rfl
 ·rcases aeQ.1 hx with rfl|hx
  ·omega
  ·rw[aeH.1 hx];omega
 ·rw[hsz];decide
 ·rw[hsz];decide
theorem acL (p x:Int) (h:kH p=some x):Pure E 50 [.int .i64 p] (.int .i64 x):=by
 unfold kH at h
 split at h
 ·rename_i hc
  cases h
  have:=zo (n:=5) (k:=p.toNat) (by omega) (by omega)
  rw[afE (by omega)] at this
  exact Jd 5 p _ this
 ·cases h
end Sh
end
