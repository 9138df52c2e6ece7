/- Part of the proof of a law. -/
import Derived.IntWalk
import Derived.KernelRfl
import Derived.Test.YtdcnajadcbedkaaGreatDoorS719
set_option linter.all false
set_option linter.unusedSimpArgs false
set_option linter.unusedSectionVars false
section
open Go Go.Proofs Aq
namespace Sh
set_option linter.unusedVariables false
theorem aha {α:Type} (l:List α) (i:Nat):dx l (i:Int)=l[i]? :=by
 unfold dx
 by_cases h:i<l.length
 ·rw[if_pos ⟨by omega,by omega⟩];simp
 ·rw[if_neg (by omega)];simp;omega
theorem gM {α:Type} {l:List α} {i:Nat} {x:α} (h:l[i]? =some x):dx l (i:Int)=some x:=by rw[aha,h]
theorem ahb {α:Type} {l:List α} {i:Nat} {x:α} (h:l[i]? =some x):i<l.length:=by
 rw[List.getElem?_eq_some_iff] at h;exact h.1
theorem vU {α:Type} {l:List α} {i:Nat} {x:α} (h:l[i]? =some x):decide ((i:Int)< ((l.length:Nat):Int))=true:=by
 have:=ahb h;simp;omega
theorem lC {i:Nat} (h:i<2^62):IntKind.wrap .i64 ((i:Int)+(1:Int))=((i+1:Nat):Int):=by
 rw[IntKind.wrap_i64];omega
theorem rV {α:Type} {l:List α} {i:Nat} (h:l.length≤i):decide ((i:Int)< ((l.length:Nat):Int))=false:=by simp;omega
theorem bs {α β:Type} {o:Option α} {a:α} {f:α→Option β} {r:Option β} (h:o=some a) (k:f a=r):o.bind f=r:=by
 rw[h];exact k
theorem ahc {a k:Nat} (h:a<2^30) (hk:k≤2^12):eD a k=true:=by
 unfold eD
 have h1:a*k≤2^30*2^12:=Nat.mul_le_mul (Nat.le_of_lt h) hk
 have e:(2:Nat)^30*2^12≤2^47:=by decide
 rw[Bool.and_eq_true,decide_eq_true_iff,decide_eq_true_iff]
 exact⟨by omega,by omega⟩
theorem ahd {α:Type} {c:Bool} {x d:α}:fD c (some x) d=some (bif c then x else d):=by cases c<;>rfl
theorem Ej {i:Nat} (h:0<i) (hb:i<2^62):IntKind.wrap .i64 ((i:Int)-(1:Int))=((i-1:Nat):Int):=by
 rw[IntKind.wrap_i64];omega
theorem ahe {a b:Nat} (h:a+b<2^62):IntKind.wrap .i64 ((((a:Nat):Int))+(((b:Nat):Int)))=((a+b:Nat):Int):=by
 rw[IntKind.wrap_i64];omega
theorem bT {α:Type} {c:Bool} {a b r:Option α} (h:c=true) (k:a=r):(bif c then a else b)=r:=by rw[h];exact k
theorem bF {α:Type} {c:Bool} {a b r:Option α} (h:c=false) (k:b=r):(bif c then a else b)=r:=by rw[h];exact k
end Sh
end
section
open Go Go.Proofs Aq
namespace Sh
theorem qm {i:Int} {n:Nat} (h:0≤i∧i<n):dM i n=true:=decide_eq_true h
theorem Pd {i:Int} {n:Nat} (h:0≤i∧i≤n):gL i n=true:=decide_eq_true h
def rotl (x k:Int):Int:=jI IntKind.u32 (lu IntKind.u32 x (iL IntKind.u64 (IntKind.wrap IntKind.u64 k) 31)) (iW IntKind.u32 x (IntKind.wrap IntKind.u64 (32-iL IntKind.u64 (IntKind.wrap IntKind.u64 k) 31)))
theorem Xf (x:Int):0≤IntKind.wrap IntKind.u64 x:=by rw[IntKind.wrap_u64];exact Int.emod_nonneg _ (by decide)
theorem xV (n:Nat) (x k:Int):ql n (x,k)=some (rotl x k):=by
 rw[agZ,decide_eq_true (show (0:Int)≤iL IntKind.u64 (IntKind.wrap IntKind.u64 k) 31 from Xf _),decide_eq_true (Xf _)]
 rfl
def vV (x a b c:Int):Int:=dG IntKind.u32 (dG IntKind.u32 (rotl x (IntKind.wrap IntKind.i64 (0-a))) (rotl x (IntKind.wrap IntKind.i64 (0-b)))) (rotl x (IntKind.wrap IntKind.i64 (0-c)))
theorem Xg (n:Nat) (x a b c:Int):xP n (x,(a,(b,c)))=some (vV x a b c):=by
 rw[ag1,xV,xV,xV]
 rfl
theorem xW {i:Int} (h0:0≤i) (h:i<2^62):IntKind.wrap .i64 (i+(1:Int))=i+1:=by rw[IntKind.wrap_i64];omega
theorem ko {i:Int} (h0: -(2^62)≤i) (h:i<2^62):IntKind.wrap .i64 i=i:=by rw[IntKind.wrap_i64];omega
end Sh
end
section
open Go Go.Proofs Aq
namespace Sh
theorem ahf {a k:Nat} (h:a<2^30) (hk:k≤2^12):eD a k=true:=ahc h hk
theorem ahg {x:Int} (h0:0≤x):0≤iW IntKind.u64 x 7∧iW IntKind.u64 x 7=x/128:=by
 have e:iW IntKind.u64 x 7=x.fdiv (2^7):=rfl
 rw[e,Int.fdiv_eq_ediv_of_nonneg x (by decide)]
 exact⟨Int.ediv_nonneg h0 (by decide),rfl⟩
end Sh
end
section
open Go Go.Proofs Aq
namespace Sh
theorem ahh (k:IntKind) (a b:Int):jI k a b=jI k b a:=by unfold jI;rw[BitVec.or_comm]
theorem ahi (k:IntKind) (a b:Int):dG k a b=dG k b a:=by unfold dG;rw[BitVec.xor_comm]
def iD (x k:Int):Int:=jI IntKind.u32 (iW IntKind.u32 x k) (lu IntKind.u32 x (IntKind.wrap IntKind.i64 (32-k)))
theorem rW {x k j i:Int} (h1:iL IntKind.u64 (IntKind.wrap IntKind.u64 k) 31=i) (h2:IntKind.wrap IntKind.u64 (32-i)=j) (h3:IntKind.wrap IntKind.i64 (32-j)=i):rotl x k=iD x j:=by
 unfold rotl iD
 rw[h1,h2,h3,ahh]
theorem Xh (x:Int) {a b c:Int} (ha:rotl x (IntKind.wrap IntKind.i64 (0-a))=iD x a) (hb:rotl x (IntKind.wrap IntKind.i64 (0-b))=iD x b) (hc:rotl x (IntKind.wrap IntKind.i64 (0-c))=iD x c):
 vV x a b c=dG IntKind.u32 (dG IntKind.u32 (iD x a) (iD x b)) (iD x c):=by
 unfold vV;rw[ha,hb,hc]
theorem ahj (x:Int):vV x 6 11 25=dG IntKind.u32 (dG IntKind.u32 (iD x 6) (iD x 11)) (iD x 25):=
 Xh x (rW (i:=26) (by decide) (by decide) (by decide)) (rW (i:=21) (by decide) (by decide) (by decide)) (rW (i:=7) (by decide) (by decide) (by decide))
theorem ahk (x:Int):vV x 2 13 22=dG IntKind.u32 (dG IntKind.u32 (iD x 2) (iD x 13)) (iD x 22):=
 Xh x (rW (i:=30) (by decide) (by decide) (by decide)) (rW (i:=19) (by decide) (by decide) (by decide)) (rW (i:=10) (by decide) (by decide) (by decide))
theorem ahl (x:Int):rotl x (-7)=iD x 7:=rW (i:=25) (by decide) (by decide) (by decide)
theorem ahm (x:Int):rotl x (-18)=iD x 18:=rW (i:=14) (by decide) (by decide) (by decide)
theorem ahn (x:Int):rotl x (-17)=iD x 17:=rW (i:=15) (by decide) (by decide) (by decide)
theorem aho (x:Int):rotl x (-19)=iD x 19:=rW (i:=13) (by decide) (by decide) (by decide)
theorem Ju {a b:Int} (k:Nat) (ha0:0≤a) (ha:a% 2^k=0) (ha1:a<2^32) (hb0:0≤b) (hb1:b<2^k) (hk:k≤32):jI IntKind.u32 a b=a+b:=by
 obtain⟨c,rfl⟩:∃c:Nat,a=((c*2^k:Nat):Int):=by
  refine⟨(a/2^k).toNat, ?_⟩
  have h1:=Int.mul_ediv_add_emod a (2^k)
  rw[ha,Int.add_zero] at h1
  have h2:0≤a/2^k:=Int.ediv_nonneg ha0 (Int.pow_nonneg (by decide))
  rw[Int.natCast_mul,Int.toNat_of_nonneg h2,Int.mul_comm]
  push_cast
  exact h1.symm
 obtain⟨d,rfl⟩:∃d:Nat,b=(d:Int):=⟨b.toNat,(Int.toNat_of_nonneg hb0).symm⟩
 have hd:d<2^k:=by exact_mod_cast hb1
 have hkk:2^k≤2^32:=Nat.pow_le_pow_right (by decide) hk
 have hc:c*2^k<2^32:=by exact_mod_cast ha1
 have hsum:c*2^k|||d=c*2^k+d:=by
  rw[←Nat.shiftLeft_eq,Nat.shiftLeft_add_eq_or_of_lt hd]
 have hlt:c*2^k|||d<2^32:=Nat.or_lt_two_pow hc (by omega)
 unfold jI
 have e1:(BitVec.ofInt IntKind.u32.bits ((c*2^k:Nat):Int)|||BitVec.ofInt IntKind.u32.bits ((d:Nat):Int)).toNat=c*2^k+d:=by
  rw[BitVec.toNat_or]
  simp only[BitVec.ofInt_natCast,BitVec.toNat_ofNat]
  show (c*2^k)% 2^32|||d% 2^32=_
  rw[Nat.mod_eq_of_lt hc,Nat.mod_eq_of_lt (by omega),hsum]
 rw[e1,IntKind.wrap_u32]
 have:c*2^k+d<2^32:=by omega
 omega
end Sh
end
section
open Go Go.Proofs Aq
namespace Sh
theorem ahp {n:Nat} {v w:Vec n} (h:v.l=w.l):v=w:=by cases v;cases w;cases h;rfl
theorem at_set {n:Nat} (v:Vec n) {i:Int} (y:Int) (h0:0≤i) (h1:i<n):(v.set i y).at' i=y:=by
 show (v.l.set i.toNat y).getD i.toNat 0=y
 rw[List.getD_eq_getElem?_getD,List.getElem?_set_self (by rw[v.h];omega)];rfl
theorem ahq {n:Nat} (v:Vec n) {i j:Int} (y:Int) (h0:0≤i) (h1:0≤j) (h:i≠j):(v.set i y).at' j=v.at' j:=by
 show (v.l.set i.toNat y).getD j.toNat 0=v.l.getD j.toNat 0
 rw[List.getD_eq_getElem?_getD,List.getElem?_set_ne (by omega),List.getD_eq_getElem?_getD]
theorem Pe {n:Nat} (v:Vec n) (i a b:Int):(v.set i a).set i b=v.set i b:=ahp (List.set_set ..)
def jD (l:List Int):Prop:=∀x∈l,0≤x∧x<256
theorem Jv {l:List Int} (h:jD l) (i:Nat):0≤l.getD i 0∧l.getD i 0<256:=by
 rw[List.getD_eq_getElem?_getD]
 cases hi:l[i]? with
 |none=>exact⟨Int.le_refl _,by decide⟩
 |some x=>exact h x (List.mem_of_getElem? hi)
theorem wrap32 {x:Int} (h0:0≤x) (h1:x<2^32):IntKind.wrap IntKind.u32 x=x:=by rw[IntKind.wrap_u32];omega
def Pf (a b c d:Int):Int:=jI IntKind.u32 (jI IntKind.u32 (jI IntKind.u32 (lu IntKind.u32 (IntKind.wrap IntKind.u32 a) 24) (lu IntKind.u32 (IntKind.wrap IntKind.u32 b) 16)) (lu IntKind.u32 (IntKind.wrap IntKind.u32 c) 8)) (IntKind.wrap IntKind.u32 d)
theorem Jw {x:Int} (k:Nat) (h0:0≤x) (h1:x*2^k<2^32) (hk:k≤32):lu IntKind.u32 x (k:Nat)=x*2^k:=by
 unfold lu
 have:min (((k:Nat):Int)).toNat IntKind.u32.bits=k:=by show min (((k:Nat):Int)).toNat 32=k;rw[Int.toNat_natCast];omega
 rw[this,wrap32 (Int.mul_nonneg h0 (Int.pow_nonneg (by decide))) h1]
theorem ahr {a b c d:Int} (ha:0≤a∧a<256) (hb:0≤b∧b<256) (hc:0≤c∧c<256) (hd:0≤d∧d<256):Pf a b c d=a*2^24+b*2^16+c*2^8+d:=by
 unfold Pf
 rw[wrap32 (by omega) (by omega),wrap32 (by omega) (by omega),wrap32 (by omega) (by omega),wrap32 (by omega) (by omega)]
 rw[show lu IntKind.u32 a 24=a*2^24 from Jw 24 (by omega) (by omega) (by decide),show lu IntKind.u32 b 16=b*2^16 from Jw 16 (by omega) (by omega) (by decide),show lu IntKind.u32 c 8=c*2^8 from Jw 8 (by omega) (by omega) (by decide)]
 have h1:jI IntKind.u32 (a*2^24) (b*2^16)=a*2^24+b*2^16:=Ju 24 (by omega) (by omega) (by omega) (by omega) (by omega) (by decide)
 have h2:jI IntKind.u32 (a*2^24+b*2^16) (c*2^8)=a*2^24+b*2^16+c*2^8:=Ju 16 (by omega) (by omega) (by omega) (by omega) (by omega) (by decide)
 have h3:jI IntKind.u32 (a*2^24+b*2^16+c*2^8) d=a*2^24+b*2^16+c*2^8+d:=Ju 8 (by omega) (by omega) (by omega) (by omega) (by omega) (by decide)
 rw[h1,h2,h3]
theorem Jy {x d:Int} (h0:0≤x) (h1:x<2^24) (hd:0≤d∧d<256):jI IntKind.u32 (lu IntKind.u32 x 8) (IntKind.wrap IntKind.u32 d)=x*256+d:=by
 rw[wrap32 (by omega) (by omega),show lu IntKind.u32 x 8=x*2^8 from Jw 8 (by omega) (by omega) (by decide),Ju 8 (by omega) (by omega) (by omega) (by omega) (by omega) (by decide)];omega
def Pg (x:List Int) (i:Int):Int:=Pf (x.getD (4*i.toNat) 0) (x.getD (4*i.toNat+1) 0) (x.getD (4*i.toNat+2) 0) (x.getD (4*i.toNat+3) 0)
theorem ahs {n m:Nat} {x1:List Int} {i:Int} (h:x1.length=64) (h0:0≤i) (h1:i<16) (hb:jD x1) (v:Vec 64) (hv:v.at' i=0):xS n x1 i (m+5) (0,v)=some ((),v.set i (Pg x1 i)):=by
 have hl:List.drop (Int.toNat (IntKind.wrap IntKind.i64 (4*i))) (List.take (Int.toNat (IntKind.wrap IntKind.i64 (IntKind.wrap IntKind.i64 (4*i)+4))) x1)=[x1.getD (4*i.toNat) 0,x1.getD (4*i.toNat+1) 0,x1.getD (4*i.toNat+2) 0,x1.getD (4*i.toNat+3) 0]:=by
  rw[ko (i:=4*i) (by omega) (by omega),ko (by omega) (by omega)]
  apply List.ext_getElem?
  intro j
  rw[List.getElem?_drop]
  by_cases hj:j<4
  ·rw[List.getElem?_take_of_lt (by omega)]
   have e:(4*i).toNat+j=4*i.toNat+j:=by omega
   rw[e]
   have hg:∀k,k<64→x1[k]? =some (x1.getD k 0):=fun k hk=>by rw[List.getD_eq_getElem?_getD,List.getElem?_eq_getElem (by omega)];rfl
   rw[hg _ (by omega)]
   rcases j with _|_|_|_|j
   all_goals first| (exact absurd hj (by omega))|rfl
  ·rw[List.getElem?_eq_none (by rw[List.length_take];omega),List.getElem?_eq_none (by simp;omega)]
 have ba:=Jv hb (4*i.toNat)
 have bb:=Jv hb (4*i.toNat+1)
 have bc:=Jv hb (4*i.toNat+2)
 have bd:=Jv hb (4*i.toNat+3)
 unfold Pg
 generalize x1.getD (4*i.toNat) 0=a at hl ba⊢
 generalize x1.getD (4*i.toNat+1) 0=b at hl bb⊢
 generalize x1.getD (4*i.toNat+2) 0=c at hl bc⊢
 generalize x1.getD (4*i.toNat+3) 0=d at hl bd⊢
 have hin:dM i 64=true:=qm ⟨h0,by omega⟩
 have st:∀(m:Nat) (x4:Int) (x5:Vec 64) (y:Int),dx [a,b,c,d] x4=some y→0≤x4→x4<4→xS n x1 i (m+1) (x4,x5)=xS n x1 i m (x4+1,x5.set i (jI IntKind.u32 (lu IntKind.u32 (x5.at' i) 8) (IntKind.wrap IntKind.u32 y))):=by
  intro m x4 x5 y hy k0 k1
  rw[WX,hl,decide_eq_true (show x4< (([a,b,c,d]:List Int).length:Nat) by simp;omega),hy,hin,xW k0 (by omega)]
  rfl
 rw[st (m+4) 0 v a rfl (by decide) (by decide),st (m+3) (0+1) _ b rfl (by decide) (by decide),st (m+2) (0+1+1) _ c rfl (by decide) (by decide),st (m+1) (0+1+1+1) _ d rfl (by decide) (by decide)]
 rw[WX,hl]
 rw[hv,at_set _ _ h0 (by show i<64;omega),at_set _ _ h0 (by show i<64;omega),at_set _ _ h0 (by show i<64;omega),Pe,Pe,Pe]
 have e1:=Jy (x:=0) (d:=a) (by decide) (by decide) ba
 rw[e1,Jy (by omega) (by omega) bb,Jy (by omega) (by omega) bc,Jy (by omega) (by omega) bd,ahr ba bb bc bd]
 have e2:(((0*256+a)*256+b)*256+c)*256+d=a*2^24+b*2^16+c*2^8+d:=by omega
 rw[e2]
 rfl
end Sh
end
section
open Go Go.Proofs Aq
namespace Sh
def Ph (w:Vec 64) (i:Int):Vec 64:=w.set i (IntKind.wrap IntKind.u32 (IntKind.wrap IntKind.u32 (IntKind.wrap IntKind.u32 (w.at' (i-16)+dG IntKind.u32 (dG IntKind.u32 (iD (w.at' (i-15)) 7) (iD (w.at' (i-15)) 18)) (iW IntKind.u32 (w.at' (i-15)) 3))+w.at' (i-7))+
 dG IntKind.u32 (dG IntKind.u32 (iD (w.at' (i-2)) 17) (iD (w.at' (i-2)) 19)) (iW IntKind.u32 (w.at' (i-2)) 10)))
def Xi (x:List Int) (w:Vec 64) (i:Int):Vec 64:=w.set i (Pg x i)
def ou {α:Type} (f:α→Int→α):Nat→Int→α→α
 |0,_,w=>w
 |k+1,i,w=>ou f k (i+1) (f w i)
def Jz (x:List Int):Vec 64:=ou Ph 48 16 (ou (Xi x) 16 0 (Vec.rep 64 0))
theorem hS2 {n:Nat} {x:List Int}:∀(k:Nat) (i:Int) (w:Vec 64) (m:Nat),i+k=64→16≤i→k<m→xU n x m (i,w)=some ((),ou Ph k i w):=by
 intro k
 induction k with
 |zero=>
  intro i w m hi h16 hm
  obtain⟨m,rfl⟩:∃q,m=q+1:=⟨m-1,by omega⟩
  rw[O9,decide_eq_false (by omega)];rfl
 |succ k ih=>
  intro i w m hi h16 hm
  obtain⟨m,rfl⟩:∃q,m=q+1:=⟨m-1,by omega⟩
  rw[O9,decide_eq_true (show i<64 by omega),decide_eq_false (show¬i<16 by omega),cond_true,cond_false]
  rw[ko (i:=i-15) (by omega) (by omega),ko (i:=i-2) (by omega) (by omega),ko (i:=i-16) (by omega) (by omega),ko (i:=i-7) (by omega) (by omega),xW (by omega) (by omega)]
  rw[qm (i:=i-15) ⟨by omega,by omega⟩,qm (i:=i-2) ⟨by omega,by omega⟩,qm (i:=i-16) ⟨by omega,by omega⟩,qm (i:=i-7) ⟨by omega,by omega⟩,qm (i:=i) ⟨by omega,by omega⟩]
  rw[xV,xV,xV,xV,ahl,ahm,ahn,aho]
  exact ih (i+1) _ m (by omega) (by omega) (by omega)
theorem hS1 {n:Nat} {x:List Int} (hx:x.length=64) (hb:jD x) (hn:60<n):∀(k:Nat) (i:Int) (w:Vec 64) (m:Nat),i+k=16→0≤i→(∀j,i≤j→w.at' j=0)→k+48<m→xU n x m (i,w)=some ((),ou Ph 48 16 (ou (Xi x) k i w)):=by
 intro k
 induction k with
 |zero=>
  intro i w m hi h0 hw hm
  obtain rfl:i=16:=by omega
  exact hS2 48 16 w m (by decide) (by decide) (by omega)
 |succ k ih=>
  intro i w m hi h0 hw hm
  obtain⟨m,rfl⟩:∃q,m=q+1:=⟨m-1,by omega⟩
  rw[O9,decide_eq_true (show i<64 by omega),decide_eq_true (show i<16 by omega),cond_true,cond_true]
  rw[ko (i:=4*i) (by omega) (by omega),ko (i:=4*i+4) (by omega) (by omega),xW (by omega) (by omega)]
  rw[Pd (i:=4*i+4) ⟨by omega,by omega⟩,Pd (i:=4*i) ⟨by omega,by omega⟩,Bool.and_self,cond_true]
  obtain⟨q,rfl⟩:∃q,n=q+5:=⟨n-5,by omega⟩
  rw[ahs hx h0 (by omega) hb w (hw i (Int.le_refl _))]
  exact ih (i+1) _ m (by omega) (by omega) (fun j hj=>by rw[ahq _ _ h0 (by omega) (by omega)];exact hw j (by omega)) (by omega)
theorem aht {n:Nat} {x:List Int} (hx:x.length=64) (hb:jD x) (hn:70<n):AB n x=some (Jz x):=by
 rw[ag0]
 have h:=hS1 (n:=n) hx hb (by omega) 16 0 (Vec.rep 64 0) n (by decide) (by decide) (fun j _=>by
  show (List.replicate 64 (0:Int)).getD j.toNat 0=0
  rw[List.getD_eq_getElem?_getD,List.getElem?_replicate]
  split<;>rfl) (by omega)
 rw[h];rfl
end Sh
end
section
open Go Go.Proofs Aq
namespace Sh
def tF (h a b c k w:Int):Int:=IntKind.wrap IntKind.u32 (IntKind.wrap IntKind.u32 (IntKind.wrap IntKind.u32 (IntKind.wrap IntKind.u32 (h+dG IntKind.u32 (dG IntKind.u32 (iD a 6) (iD a 11)) (iD a 25))+dG IntKind.u32 (iL IntKind.u32 a b) (iL IntKind.u32 (dG IntKind.u32 a 4294967295) c))+k)+w)
def uF (a b c:Int):Int:=IntKind.wrap IntKind.u32 (dG IntKind.u32 (dG IntKind.u32 (iD a 2) (iD a 13)) (iD a 22)+dG IntKind.u32 (dG IntKind.u32 (iL IntKind.u32 a b) (iL IntKind.u32 a c)) (iL IntKind.u32 b c))
def Pj (w:Vec 64) (s:Vec 8) (i:Int):Vec 8:=
 Vec.lit 8 [IntKind.wrap IntKind.u32 (tF (s.at' 7) (s.at' 4) (s.at' 5) (s.at' 6) (vQ.at' i) (w.at' i)+uF (s.at' 0) (s.at' 1) (s.at' 2)),s.at' 0,s.at' 1,s.at' 2,IntKind.wrap IntKind.u32 (s.at' 3+tF (s.at' 7) (s.at' 4) (s.at' 5) (s.at' 6) (vQ.at' i) (w.at' i)),s.at' 4,s.at' 5,s.at' 6]
def Xj (v s:Vec 8) (i:Int):Vec 8:=s.set i (IntKind.wrap IntKind.u32 (s.at' i+v.at' i))
def Xk (v e:Vec 4) (s:Vec 8) (i:Int):Vec 8:=(s.set i (IntKind.wrap IntKind.u32 (s.at' i+v.at' i))).set (i+4) (IntKind.wrap IntKind.u32 ((s.set i (IntKind.wrap IntKind.u32 (s.at' i+v.at' i))).at' (i+4)+e.at' i))
def cat (v e:Vec 4):Vec 8:=Vec.lit 8 (v.l++e.l)
theorem JA (v:Vec 4):∃a b c d,v=Vec.lit 4 [a,b,c,d]:=by
 obtain⟨l,h⟩:=v
 match l,h with
 | [a,b,c,d],_=>exact⟨a,b,c,d,rfl⟩
theorem Xl (v:Vec 8):∃a b c d e f g h,v=Vec.lit 8 [a,b,c,d,e,f,g,h]:=by
 obtain⟨l,hl⟩:=v
 match l,hl with
 | [a,b,c,d,e,f,g,h],_=>exact⟨a,b,c,d,e,f,g,h,rfl⟩
theorem add_eq (v e:Vec 4) (s:Vec 8):ou (Xk v e) 4 0 s=ou (Xj (cat v e)) 8 0 s:=by
 obtain⟨a,b,c,d,rfl⟩:=JA v
 obtain⟨a',b',c',d',rfl⟩:=JA e
 obtain⟨s0,s1,s2,s3,s4,s5,s6,s7,rfl⟩:=Xl s
 kernel_rfl
theorem ahu (s:Vec 8):cat (s.slc 0 4) (s.slc 4 4)=s:=by
 obtain⟨s0,s1,s2,s3,s4,s5,s6,s7,rfl⟩:=Xl s
 kernel_rfl
def uh (h:Vec 8) (x:List Int):Vec 8:=ou (Xj (ou (Pj (Jz x)) 64 0 h)) 8 0 h
theorem ahv (w:Vec 64) (v e:Vec 4) (i:Int):cat (Vec.lit 4 [IntKind.wrap IntKind.u32 (IntKind.wrap IntKind.u32 (IntKind.wrap IntKind.u32 (IntKind.wrap IntKind.u32 (IntKind.wrap IntKind.u32 (e.at' 3+vV (e.at' 0) 6 11 25)+dG IntKind.u32 (iL IntKind.u32 (e.at' 0) (e.at' 1)) (iL IntKind.u32 (dG IntKind.u32 4294967295 (e.at' 0)) (e.at' 2)))+vQ.at' i)+w.at' i)+IntKind.wrap IntKind.u32 (vV (v.at' 0) 2 13 22+dG IntKind.u32 (dG IntKind.u32 (iL IntKind.u32 (v.at' 0) (v.at' 1)) (iL IntKind.u32 (v.at' 0) (v.at' 2))) (iL IntKind.u32 (v.at' 1) (v.at' 2)))),v.at' 0,v.at' 1,v.at' 2])
 (Vec.lit 4 [IntKind.wrap IntKind.u32 (v.at' 3+IntKind.wrap IntKind.u32 (IntKind.wrap IntKind.u32 (IntKind.wrap IntKind.u32 (IntKind.wrap IntKind.u32 (e.at' 3+vV (e.at' 0) 6 11 25)+dG IntKind.u32 (iL IntKind.u32 (e.at' 0) (e.at' 1)) (iL IntKind.u32 (dG IntKind.u32 4294967295 (e.at' 0)) (e.at' 2)))+vQ.at' i)+w.at' i)),e.at' 0,e.at' 1,e.at' 2])=Pj w (cat v e) i:=by
 obtain⟨a,b,c,d,rfl⟩:=JA v
 obtain⟨a',b',c',d',rfl⟩:=JA e
 rw[ahj,ahk,ahi IntKind.u32 4294967295]
 rfl
theorem hR {n:Nat} {x1:Vec 8} {w:Vec 64}:∀(k:Nat) (i:Int) (v e:Vec 4) (m:Nat),i+k=64→0≤i→k<m→∃v' e',AV n x1 w m (i,(v,e))=some ((),(v',e'))∧cat v' e'=ou (Pj w) k i (cat v e):=by
 intro k
 induction k with
 |zero=>
  intro i v e m hi h0 hm
  obtain⟨m,rfl⟩:∃q,m=q+1:=⟨m-1,by omega⟩
  refine⟨v,e, ?_,rfl⟩
  rw[WY,decide_eq_false (by omega)];rfl
 |succ k ih=>
  intro i v e m hi h0 hm
  obtain⟨m,rfl⟩:∃q,m=q+1:=⟨m-1,by omega⟩
  obtain⟨v',e',h1,h2⟩:=ih (i+1) _ _ m (by omega) (by omega) (by omega)
  rw[ahv] at h2
  refine⟨v',e', ?_,h2⟩
  rw[WY,decide_eq_true (show i<64 by omega),cond_true,qm (i:=i) (n:=64) ⟨by omega,by omega⟩,xW (by omega) (by omega),Xg,Xg]
  exact h1
theorem hA {n:Nat} {v e:Vec 4}:∀(k:Nat) (i:Int) (s:Vec 8) (m:Nat),i+k=4→0≤i→k<m→AX n ((),(v,e)) m (i,s)=some ((),ou (Xk v e) k i s):=by
 intro k
 induction k with
 |zero=>
  intro i s m hi h0 hm
  obtain⟨m,rfl⟩:∃q,m=q+1:=⟨m-1,by omega⟩
  rw[WZ,decide_eq_false (by omega)];rfl
 |succ k ih=>
  intro i s m hi h0 hm
  obtain⟨m,rfl⟩:∃q,m=q+1:=⟨m-1,by omega⟩
  rw[WZ,decide_eq_true (show i<4 by omega),cond_true,qm (i:=i) (n:=8) ⟨by omega,by omega⟩,qm (i:=i) (n:=4) ⟨by omega,by omega⟩,xW (by omega) (by omega),ko (i:=i+4) (by omega) (by omega),qm (i:=i+4) (n:=8) ⟨by omega,by omega⟩]
  exact ih (i+1) _ m (by omega) (by omega) (by omega)
theorem hcomp {n:Nat} {h:Vec 8} {x:List Int} (hx:x.length=64) (hb:jD x) (hn:70<n):AJ n (h,x)=some (uh h x):=by
 rw[ag2,aht hx hb hn]
 obtain⟨v',e',h1,h2⟩:=hR (n:=n) (x1:=h) (w:=Jz x) 64 0 (h.slc 0 4) (h.slc 4 4) n (by decide) (by decide) (by omega)
 show ((AV n h (Jz x) n (0,(h.slc 0 4,h.slc 4 4))).bind _)=_
 rw[h1]
 show ((AX n ((),(v',e')) n (0,h)).bind _)=_
 rw[hA 4 0 h n (by decide) (by decide) (by omega),add_eq,h2,ahu]
 rfl
end Sh
end
section
open Go Go.Proofs Aq
namespace Sh
def xX:Nat→Vec 8→List Int→Vec 8
 |0,h,_=>h
 |k+1,h,l=>xX k (uh h (l.take 64)) (l.drop 64)
theorem ahw:∀(q:Nat) (h:Vec 8) (d b:List Int),d.length=64*q→b.length=64→xX (q+1) h (d++b)=uh (xX q h d) b:=by
 intro q
 induction q with
 |zero=>
  intro h d b hd hb
  obtain rfl:d=[]:=List.eq_nil_of_length_eq_zero (by omega)
  show uh h (b.take 64)=uh h b
  rw[List.take_of_length_le (by omega)]
 |succ q ih=>
  intro h d b hd hb
  show xX (q+1) (uh h ((d++b).take 64)) ((d++b).drop 64)=uh (xX q (uh h (d.take 64)) (d.drop 64)) b
  rw[List.take_append_of_le_length (by omega),List.drop_append_of_le_length (by omega)]
  exact ih _ _ _ (by rw[List.length_drop];omega) hb
def IV:Vec 8:=Vec.lit 8 [1779033703,3144134277,1013904242,2773480762,1359893119,2600822924,528734635,1541459225]
def lD (l:List UInt8):List Int:=l.map fun b=>((b.toNat:Nat):Int)
def uj (l:List Int):List UInt8:=l.map fun n=>UInt8.ofNat n.toNat
theorem Xm (l:List UInt8):jD (lD l):=by
 intro x hx
 obtain⟨b,_,rfl⟩:=List.mem_map.1 hx
 have:=UInt8.toNat_lt b
 omega
theorem Pk {l:List Int} (h:jD l):lD (uj l)=l:=by
 unfold lD uj
 rw[List.map_map]
 conv=>rhs;rw[←List.map_id l]
 apply List.map_congr_left
 intro x hx
 obtain⟨h0,h1⟩:=h x hx
 show ((UInt8.ofNat x.toNat).toNat:Int)=x
 rw[UInt8.toNat_ofNat_of_lt' (show x.toNat<256 by omega)]
 omega
theorem Xn (l:List UInt8):(lD l).length=l.length:=List.length_map ..
theorem xY (l:List Int):(uj l).length=l.length:=List.length_map ..
theorem Ba {l m:List Int} (h:jD l) (g:jD m):jD (l++m):=fun x hx=>(List.mem_append.1 hx).elim (h x) (g x)
theorem ahx {l m:List Int} (h:jD (l++m)):jD m:=fun x hx=>h x (List.mem_append_right _ hx)
def rX (bs:List Int) (h:Vec 8) (v:Vec 64) (c:Int):Prop:=
 ∃q done tail,bs=done++tail∧done.length=64*q∧tail.length<64∧h=xX q IV done∧v.l.take tail.length=tail∧c=((bs.length:Nat):Int)∧jD bs
theorem Dt {n:Nat} {l:List Int} (h:l.length=n):(Vec.lit n l).l=l:=by unfold Vec.lit;rw[dif_pos h]
theorem Xo {x:Int} (h0:0≤x) (h1:x<2^62):IntKind.wrap IntKind.u64 x=x:=by rw[IntKind.wrap_u64];omega
theorem hAdd {n:Nat} (hn:70<n):∀(k:Nat) (text:List UInt8) (bs:List Int) (h:Vec 8) (v:Vec 64) (c:Int) (m:Nat),text.length≤k→rX bs h v c→bs.length+text.length<2^61→k<m→
 ∃h' v' c',AY n m (text,(h,(v,c)))=some ((),(h',(v',c')))∧rX (bs++lD text) h' v' c':=by
 intro k
 induction k with
 |zero=>
  intro text bs h v c m hk hs hl hm
  obtain⟨m,rfl⟩:∃q,m=q+1:=⟨m-1,by omega⟩
  obtain rfl:text=[]:=List.eq_nil_of_length_eq_zero (by omega)
  refine⟨h,v,c, ?_,by simpa [lD] using hs⟩
  rw[Pb];rfl
 |succ k ih=>
  intro text bs h v c m hk hs hl hm
  obtain⟨m,rfl⟩:∃q,m=q+1:=⟨m-1,by omega⟩
  by_cases ht:text=[]
  ·subst ht
   refine⟨h,v,c, ?_,by simpa [lD] using hs⟩
   rw[Pb];rfl
  ·obtain⟨q,done,tail,hb,hd,htl,hh,hv,hc,hB⟩:=hs
   have hpos:0<text.length:=List.length_pos_iff.2 ht
   have hne:(!(text==[]))=true:=by cases text with
    |nil=>exact absurd rfl ht
    |cons a l=>rfl
   have hbl:bs.length=64*q+tail.length:=by rw[hb,List.length_append,hd]
   have ahy:Int.tmod c 64=((tail.length:Nat):Int):=by
    rw[hc,Int.tmod_eq_emod_of_nonneg (by omega)];omega
   rw[Pb,hne,cond_true,ahy,ko (i:=((tail.length:Nat):Int)) (by omega) (by omega)]
   have hcut:List.take (Int.toNat (64-((tail.length:Nat):Int))) (List.map (fun b:UInt8=>((b.toNat:Nat):Int)) text)=lD (text.take (64-tail.length)):=by
    unfold lD
    rw[show Int.toNat (64-((tail.length:Nat):Int))=64-tail.length by omega,List.map_take]
   rw[hcut]
   generalize hj:64-tail.length=j
   have hlen:(lD (text.take j)).length=min j text.length:=by rw[Xn,List.length_take]
   have hsplit:lD text=lD (text.take j)++lD (text.drop j):=by unfold lD;rw[←List.map_append,List.take_append_drop]
   have hdrop:List.drop (Int.toNat (((lD (text.take j)).length:Nat):Int)) text=text.drop j:=by
    rw[Int.toNat_natCast,hlen]
    by_cases h:j≤text.length
    ·rw[Nat.min_eq_left h]
    ·rw[Nat.min_eq_right (by omega),List.drop_length,List.drop_of_length_le (by omega)]
   generalize ht':lD (text.take j)=t at hlen hsplit hdrop⊢
   have Pm:jD t:=ht'▸Xm _
   have hlit:(v.pU ((tail.length:Nat):Int) t).l=tail++t++v.l.drop (tail.length+t.length):=by
    show (Vec.lit 64 (v.l.take (((tail.length:Nat):Int)).toNat++t++v.l.drop ((((tail.length:Nat):Int)).toNat+t.length))).l=_
    rw[Int.toNat_natCast,Dt (by rw[hv,List.length_append,List.length_append,List.length_drop,v.h];omega),hv]
   have g1:l7 64 (some ((tail.length:Nat):Int)) none=true:=decide_eq_true ⟨by omega,by omega⟩
   have g2:gL (((t.length:Nat)):Int) text.length=true:=Pd ⟨by omega,by omega⟩
   rw[show (!((64:Int)==0))=true from rfl,cond_true,g1,cond_true,g2,cond_true,ko (by omega) (by omega)]
   have ahz:IntKind.wrap IntKind.u64 (c+IntKind.wrap IntKind.u64 ((t.length:Nat):Int))=(((bs++t).length:Nat):Int):=by
    rw[Xo (x:=((t.length:Nat):Int)) (by omega) (by omega),Xo (by omega) (by omega),hc,List.length_append];omega
   rw[ahz,hdrop]
   have hrl:(text.drop j).length≤k:=by rw[List.length_drop];omega
   have hnl:(bs++t).length+(text.drop j).length<2^61:=by rw[List.length_append,List.length_drop];omega
   cases hfull:(((tail.length:Nat):Int)+((t.length:Nat):Int)==64) with
   |true=>
    have hf:tail.length+t.length=64:=by have:=eq_of_beq hfull;omega
    have hblk:(v.pU ((tail.length:Nat):Int) t).l=tail++t:=by rw[hlit,List.drop_of_length_le (by rw[v.h];omega),List.append_nil]
    have Cw:jD (tail++t):=Ba (ahx (hb▸hB)) Pm
    rw[cond_true,hblk,hcomp (by rw[List.length_append];omega) Cw hn]
    have hs':rX (bs++t) (uh h (tail++t)) (v.pU ((tail.length:Nat):Int) t) (((bs++t).length:Nat):Int):=by
     refine⟨q+1,done++(tail++t),[], ?_, ?_,by decide, ?_,rfl,rfl,Ba hB Pm⟩
     ·rw[hb,List.append_nil,List.append_assoc]
     ·rw[List.length_append,List.length_append,hd];omega
     ·rw[ahw q IV done (tail++t) hd (by rw[List.length_append];omega),hh]
    obtain⟨h',v',c',e1,e2⟩:=ih _ _ _ _ _ m hrl hs' hnl (by omega)
    refine⟨h',v',c',e1, ?_⟩
    rw[hsplit,←List.append_assoc];exact e2
   |false=>
    have hf:tail.length+t.length≠64:=fun e=>by
     have:(((tail.length:Nat):Int)+((t.length:Nat):Int)==64)=true:=by rw[beq_iff_eq];omega
     rw[this] at hfull;cases hfull
    rw[cond_false]
    have hs':rX (bs++t) h (v.pU ((tail.length:Nat):Int) t) (((bs++t).length:Nat):Int):=by
     refine⟨q,done,tail++t, ?_,hd, ?_,hh, ?_,rfl,Ba hB Pm⟩
     ·rw[hb,List.append_assoc]
     ·rw[List.length_append];omega
     ·rw[hlit,List.take_append_of_le_length (Nat.le_refl _),List.take_length]
    obtain⟨h',v',c',e1,e2⟩:=ih _ _ _ _ _ m hrl hs' hnl (by omega)
    refine⟨h',v',c',e1, ?_⟩
    rw[hsplit,←List.append_assoc];exact e2
theorem Pn {n:Nat} {text:List UInt8} {bs:List Int} {h:Vec 8} {v:Vec 64} {c:Int} (hn:70<n) (hs:rX bs h v c) (hl:bs.length+text.length<2^61) (hm:text.length<n):
 ∃h' v' c',uf n ((h,(v,c)),text)=some (h',(v',c'))∧rX (bs++lD text) h' v' c':=by
 obtain⟨h',v',c',e1,e2⟩:=hAdd hn text.length text bs h v c n (Nat.le_refl _) hs hl hm
 refine⟨h',v',c', ?_,e2⟩
 rw[ag3,e1];rfl
end Sh
end
section
open Go Go.Proofs Aq
namespace Sh
def Xp (c i:Int):Int:=IntKind.wrap IntKind.u8 (iW IntKind.u64 (IntKind.wrap IntKind.u64 (8*c)) (IntKind.wrap IntKind.i64 (56-IntKind.wrap IntKind.i64 (8*i))))
def xZ (c:Int):Nat→Int→List Int
 |0,_=>[]
 |k+1,i=>Xp c i::xZ c k (i+1)
theorem Xq (c:Int):∀(k:Nat) (i:Int),(xZ c k i).length=k
 |0,_=>rfl
 |k+1,i=>by rw[xZ,List.length_cons,Xq c k]
theorem Xr (x:Int):0≤IntKind.wrap IntKind.u8 x∧IntKind.wrap IntKind.u8 x<256:=by
 rw[IntKind.wrap_u8];exact⟨Int.emod_nonneg _ (by decide),Int.emod_lt_of_pos _ (by decide)⟩
theorem Xt (c:Int):∀(k:Nat) (i:Int),jD (xZ c k i)
 |0,_=>fun x hx=>by cases hx
 |k+1,i=>fun x hx=>by
  rcases List.mem_cons.1 hx with rfl|hx
  ·exact Xr _
  ·exact Xt c k _ x hx
theorem rY {a k:Nat} (h:a<2^30) (hk:k≤2^12):eD a k=true:=ahf h hk
theorem ahA {n:Nat} {x1:Vec 8} {x2:Vec 64} {c:Nat} (hc:c<2^29):∀(z:Nat) (p:List Int) (m:Nat),(c+p.length+z)% 64=56→z<64→p.length+z<2^20→z<m→Ef n x1 x2 (c:Nat) m p=some (p++List.replicate z 0):=by
 intro z
 induction z with
 |zero=>
  intro p m hz h64 hb hm
  obtain⟨m,rfl⟩:∃q,m=q+1:=⟨m-1,by omega⟩
  rw[Xa,ko (i:=((c:Nat):Int)) (by omega) (by omega),ko (by omega) (by omega),Int.tmod_eq_emod_of_nonneg (by omega)]
  have:(((c:Nat):Int)+((p.length:Nat):Int))% 64=56:=by omega
  rw[this];simp
 |succ z ih=>
  intro p m hz h64 hb hm
  obtain⟨m,rfl⟩:∃q,m=q+1:=⟨m-1,by omega⟩
  rw[Xa,ko (i:=((c:Nat):Int)) (by omega) (by omega),ko (by omega) (by omega),Int.tmod_eq_emod_of_nonneg (by omega)]
  have:((((c:Nat):Int)+((p.length:Nat):Int))% 64 !=56)=true:=by
   rw[bne_iff_ne];omega
  rw[this,show (!((64:Int)==0))=true from rfl,cond_true,cond_true,rY (by simp;omega) (by decide),cond_true,ih (p++[0]) m (by rw[List.length_append,List.length_singleton];omega) (by omega) (by rw[List.length_append,List.length_singleton];omega) (by omega),List.append_assoc]
  rfl
theorem hLen {n:Nat} {x1:Vec 8} {x2:Vec 64} {c:Int}:∀(k:Nat) (i:Int) (p:List Int) (m:Nat),i+k=8→0≤i→p.length+k<2^29→k<m→A8 n x1 x2 c m (p,i)=some (p++xZ c k i):=by
 intro k
 induction k with
 |zero=>
  intro i p m hi h0 hb hm
  obtain⟨m,rfl⟩:∃q,m=q+1:=⟨m-1,by omega⟩
  rw[Xb,decide_eq_false (by omega),xZ,List.append_nil];rfl
 |succ k ih=>
  intro i p m hi h0 hb hm
  obtain⟨m,rfl⟩:∃q,m=q+1:=⟨m-1,by omega⟩
  rw[Xb,decide_eq_true (show i<8 by omega),cond_true]
  rw[decide_eq_true (show (0:Int)≤IntKind.wrap IntKind.i64 (56-IntKind.wrap IntKind.i64 (8*i)) by rw[ko (i:=8*i) (by omega) (by omega),ko (by omega) (by omega)];omega),cond_true,rY (by simp;omega) (by decide),cond_true,xW h0 (by omega)]
  have:=ih (i+1) (p++[Xp c i]) m (by omega) (by omega) (by rw[List.length_append,List.length_singleton];omega) (by omega)
  rw[List.append_assoc] at this
  exact this
def zpad (c:Nat):Nat:=(55+64-c% 64)% 64
theorem ahB (c:Nat):(c+1+zpad c)% 64=56∧zpad c<64:=by unfold zpad;omega
def yg (c:Nat):List Int:=([128]++List.replicate (zpad c) 0)++xZ (c:Nat) 8 0
theorem Po (c:Nat):(yg c).length=1+zpad c+8:=by unfold yg;simp only[List.length_append,List.length_singleton,List.length_replicate,Xq]
theorem ahC (c:Nat):jD (yg c):=by
 refine Ba (Ba ?_ ?_) (Xt _ _ _)
 ·intro x hx;rw[List.mem_singleton.1 hx];decide
 ·intro x hx;rw[(List.mem_replicate.1 hx).2];decide
def Xu (h:Vec 8) (o:Vec 32) (i:Int):Vec 32:=o.set i (IntKind.wrap IntKind.u8 (iW IntKind.u32 (h.at' (IntKind.wrap IntKind.i64 (Int.tdiv i 4))) (IntKind.wrap IntKind.i64 (24-IntKind.wrap IntKind.i64 (8*Int.tmod i 4)))))
def Xv (h:Vec 8):Vec 32:=ou (Xu h) 32 0 (Vec.rep 32 0)
theorem ahD {i:Int} (h0:0≤i) (h1:i<32):dM (IntKind.wrap IntKind.i64 (Int.tdiv i 4)) 8=true∧decide ((0:Int)≤IntKind.wrap IntKind.i64 (24-IntKind.wrap IntKind.i64 (8*Int.tmod i 4)))=true:=by
 rw[Int.tdiv_eq_ediv_of_nonneg h0,Int.tmod_eq_emod_of_nonneg h0,ko (i:=i/4) (by omega) (by omega),ko (i:=8*(i% 4)) (by omega) (by omega),ko (by omega) (by omega)]
 exact⟨qm ⟨by omega,by omega⟩,decide_eq_true (by omega)⟩
theorem hOut {n:Nat} {r9:(Vec 8)×(Vec 64)×Int}:∀(k:Nat) (i:Int) (o:Vec 32) (m:Nat),i+k=32→0≤i→k<m→A9 n r9 m (i,o)=some ((),ou (Xu r9.1) k i o):=by
 intro k
 induction k with
 |zero=>
  intro i s m hi h0 hm
  obtain⟨m,rfl⟩:∃q,m=q+1:=⟨m-1,by omega⟩
  rw[Xc,decide_eq_false (by omega)];rfl
 |succ k ih=>
  intro i s m hi h0 hm
  obtain⟨m,rfl⟩:∃q,m=q+1:=⟨m-1,by omega⟩
  obtain⟨g1,g2⟩:=ahD h0 (show i<32 by omega)
  rw[Xc,decide_eq_true (show i<32 by omega),cond_true,g1,g2,qm (i:=i) (n:=32) ⟨by omega,by omega⟩,xW (by omega) (by omega)]
  exact ih (i+1) _ m (by omega) (by omega) (by omega)
def JB (b:List Int):Vec 32:=Xv (xX ((b.length+(1+zpad b.length+8))/64) IV (b++yg b.length))
theorem ahE {n:Nat} {b:List Int} {h:Vec 8} {v:Vec 64} {c:Int} (hs:rX b h v c) (hb:b.length<2^28) (hn:200<n):AQ n (h,(v,c))=some (JB b):=by
 obtain⟨h1,h2⟩:=ahB b.length
 have hc:c=((b.length:Nat):Int):=by obtain⟨_,_,_,_,_,_,_,_,e,_⟩:=hs;exact e
 have hB:jD b:=by obtain⟨_,_,_,_,_,_,_,_,_,e⟩:=hs;exact e
 subst hc
 rw[ag6,ahA (by omega) (zpad b.length) [128] n (by rw[List.length_singleton];exact h1) h2 (by rw[List.length_singleton];omega) (by omega)]
 show (A8 n h v (b.length:Nat) n ([128]++List.replicate (zpad b.length) 0,0)).bind _=_
 rw[hLen 8 0 _ n (by decide) (by decide) (by simp only[List.length_append,List.length_singleton,List.length_replicate];omega) (by omega)]
 obtain⟨h',v',c',e1,e2⟩:=Pn (n:=n) (text:=uj (yg b.length)) (by omega) hs (by rw[xY,Po];omega) (by rw[xY,Po];omega)
 show ((uf n ((h,(v,((b.length:Nat):Int))),uj (yg b.length))).bind _)=_
 rw[e1]
 show ((A9 n (h',(v',c')) n (0,Vec.rep 32 0)).bind _)=_
 rw[hOut 32 0 _ n (by decide) (by decide) (by omega)]
 rw[Pk (ahC _)] at e2
 obtain⟨q,done,tail,hb',hd,htl,hh,_,_,_⟩:=e2
 have hlen:(b++yg b.length).length=64*q+tail.length:=by rw[hb',List.length_append,hd]
 rw[List.length_append,Po] at hlen
 have ht:tail=[]:=List.eq_nil_of_length_eq_zero (by omega)
 subst ht
 rw[List.append_nil] at hb'
 have hq:(b.length+(1+zpad b.length+8))/64=q:=by rw[List.length_nil] at hlen;omega
 show some (Xv h')=some (JB b)
 unfold JB
 rw[hq,hb',hh]
end Sh
end
section
open Go Go.Proofs Aq
namespace Sh
set_option maxRecDepth 100000
def ahF (h:Vec 32):aJ:=⟨h.nth 0,h.nth 1,h.nth 2,h.nth 3,h.nth 4,h.nth 5,h.nth 6,h.nth 7,h.nth 8,h.nth 9,h.nth 10,h.nth 11,h.nth 12,h.nth 13,h.nth 14,h.nth 15⟩
end Sh
end
section
open Go Go.Proofs Aq
namespace Sh
def um:Nat→Int→List Int
 |0,_=>[]
 |k+1,z=>if z≥128 then (z% 128+128)::um k (z/128) else [z]
theorem ahG {z:Int} (h0:0≤z):jI IntKind.u8 (IntKind.wrap IntKind.u8 z) 128=z% 128+128:=by
 have h1:IntKind.wrap IntKind.u8 z=z% 256:=by rw[IntKind.wrap_u8]
 rw[h1]
 have key:∀a:Nat,a<256→jI IntKind.u8 ((a:Nat):Int) 128=((a% 128+128:Nat):Int):=by
  intro a ha
  have:∀a:Fin 256,jI IntKind.u8 ((a.val:Nat):Int) 128=((a.val% 128+128:Nat):Int):=by decide+kernel
  exact this ⟨a,ha⟩
 have h2:z% 256=(((z% 256).toNat:Nat):Int):=by omega
 rw[h2,key _ (by omega)]
 omega
theorem Pp {x:Int} (h0:0≤x) (h1:x<2^64):IntKind.wrap IntKind.u64 x=x:=by rw[IntKind.wrap_u64];omega
theorem ahH {n:Nat}:∀(k:Nat) (z:Int) (p:List Int) (m:Nat),0≤z→z<128^k→z<2^64→p.length+k<2^20→k≤m→0<k→∃q y,AZ n m (z,p)=some (y,p++q)∧q++[y]=um k z∧q.length<k∧0≤y∧y<128:=by
 intro k
 induction k with
 |zero=>intro z p m _ _ _ _ _ h;omega
 |succ k ih=>
  intro z p m h0 h1 h64 hp hm _
  obtain⟨m,rfl⟩:∃q,m=q+1:=⟨m-1,by omega⟩
  by_cases hz:z≥128
  ·have hk:0<k:=by
    rcases Nat.eq_zero_or_pos k with rfl|h
    ·have:z<128:=by simpa using h1
     omega
    ·exact h
   have hd:z/128<128^k:=by
    rw[Int.pow_succ] at h1
    exact Int.ediv_lt_of_lt_mul (by decide) h1
   obtain⟨q,y,e1,e3,e4,e5⟩:=ih (z/128) (p++[z% 128+128]) m (by omega) hd (by omega) (by rw[List.length_append,List.length_singleton];omega) (by omega) hk
   obtain⟨s0,s1⟩:=ahg h0
   refine⟨(z% 128+128)::q,y, ?_, ?_, ?_,e5⟩
   ·rw[W9,decide_eq_true (show z>127 by omega),cond_true,rY (by simp;omega) (by decide),cond_true,ahG h0,s1]
    rw[List.append_assoc] at e1
    exact e1
   ·rw[um,if_pos hz,←e3];rfl
   ·simp;omega
  ·refine⟨[],z, ?_, ?_,by simp,h0,by omega⟩
   ·rw[W9,decide_eq_false (show¬z>127 by omega),List.append_nil];rfl
   ·rw[um,if_neg hz];rfl
end Sh
end
section
open Go Go.Proofs Aq
namespace Sh
def rI (x:Int):Prop:= -(2^63)≤x∧x<2^63
def vW (x:Int):Int:=if x<0 then 2*(-1-x)+1 else 2*x
def encI (x:Int):List Int:=um 10 (vW x)
theorem Xw {x:Int} (h:rI x):0≤vW x∧vW x<2^64:=by unfold vW;unfold rI at h;split<;>omega
theorem ahI {a:Int} (h0:0≤a) (h1:a<2^64):dG IntKind.u64 a 0=a:=by
 unfold dG
 obtain⟨c,rfl⟩:∃c:Nat,a=(c:Int):=⟨a.toNat,(Int.toNat_of_nonneg h0).symm⟩
 have hc:c<2^64:=by exact_mod_cast h1
 have e:(BitVec.ofInt IntKind.u64.bits (c:Int)^^^BitVec.ofInt IntKind.u64.bits 0).toNat=c:=by
  show (BitVec.ofInt 64 (c:Int)^^^0#64).toNat=_
  rw[BitVec.xor_zero,BitVec.ofInt_natCast,BitVec.toNat_ofNat,Nat.mod_eq_of_lt hc]
 rw[e]
 exact Pp h0 h1
theorem ahJ {a:Int} (h0:0≤a) (h1:a<2^64):dG IntKind.u64 a (2^64-1)=2^64-1-a:=by
 unfold dG
 obtain⟨c,rfl⟩:∃c:Nat,a=(c:Int):=⟨a.toNat,(Int.toNat_of_nonneg h0).symm⟩
 have hc:c<2^64:=by exact_mod_cast h1
 have e:(BitVec.ofInt IntKind.u64.bits (c:Int)^^^BitVec.ofInt IntKind.u64.bits (2^64-1)).toNat=2^64-1-c:=by
  show (BitVec.ofInt 64 (c:Int)^^^BitVec.ofInt 64 (2^64-1)).toNat=_
  rw[show BitVec.ofInt 64 (2^64-1)=BitVec.allOnes 64 by decide,BitVec.xor_allOnes,BitVec.toNat_not,BitVec.ofInt_natCast,BitVec.toNat_ofNat,Nat.mod_eq_of_lt hc]
 rw[e,IntKind.wrap_u64]
 omega
theorem ahK {x:Int} (h:rI x):dG IntKind.u64 (lu IntKind.u64 (IntKind.wrap IntKind.u64 x) 1) (IntKind.wrap IntKind.u64 (iW IntKind.i64 x 63))=vW x:=by
 obtain⟨a,b⟩:=h
 have hs:lu IntKind.u64 (IntKind.wrap IntKind.u64 x) 1=IntKind.wrap IntKind.u64 (IntKind.wrap IntKind.u64 x*2):=rfl
 have hr:iW IntKind.i64 x 63=x.fdiv (2^63):=rfl
 rw[hs,hr,Int.fdiv_eq_ediv_of_nonneg _ (by decide)]
 unfold vW
 by_cases hx:x<0
 ·rw[if_pos hx,show x/2^63= -1 by omega,show IntKind.wrap IntKind.u64 (-1)=2^64-1 by rw[IntKind.wrap_u64];decide]
  have:IntKind.wrap IntKind.u64 (IntKind.wrap IntKind.u64 x*2)=2*x+2^64:=by rw[IntKind.wrap_u64,IntKind.wrap_u64];omega
  rw[this,ahJ (by omega) (by omega)]
  omega
 ·rw[if_neg hx,show x/2^63=0 by omega,Pp (x:=x) (by omega) (by omega),Pp (x:=x*2) (by omega) (by omega),show IntKind.wrap IntKind.u64 0=0 by rw[IntKind.wrap_u64];decide,ahI (by omega) (by omega)]
  omega
theorem Xx:∀(k:Nat) (z:Int),0≤z→jD (um k z)
 |0,_,_=>fun x hx=>by cases hx
 |k+1,z,h=>by
  unfold um
  split
  ·intro x hx
   rcases List.mem_cons.1 hx with rfl|hx
   ·omega
   ·exact Xx k _ (by omega) x hx
  ·intro x hx
   rw[List.mem_singleton.1 hx];omega
theorem ahL {x:Int} (h:rI x):jD (encI x):=Xx 10 _ (Xw h).1
theorem Xy:∀(k:Nat) (z:Int),(um k z).length≤k
 |0,_=>Nat.le_refl _
 |k+1,z=>by
  unfold um
  split
  ·rw[List.length_cons];have:=Xy k (z/128);omega
  ·simp
theorem Bb (x:Int):(encI x).length≤10:=Xy _ _
theorem ahM {y:Int} (h0:0≤y) (h1:y<128):IntKind.wrap IntKind.u8 y=y:=by rw[IntKind.wrap_u8];omega
theorem Pq {n:Nat} {x:Int} (h:rI x) (hn:20<n):ug n x=some (encI x):=by
 obtain⟨z0,z1⟩:=Xw h
 obtain⟨q,y,e1,e3,e4,e5,e6⟩:=ahH (n:=n) 10 (vW x) [] n z0 (Int.lt_of_lt_of_le z1 (by decide)) z1 (by decide) (by omega) (by decide)
 rw[ag4,ahK h]
 show ((AZ n n (vW x,[])).bind _)=_
 rw[e1,List.nil_append,Option.bind_some]
 rw[rY (by show q.length+1<_;omega) (by decide),cond_true,ahM e5 e6,e3]
 rfl
theorem gR {α:Type} {c:Bool} {o r:Option α} (h:c=true) (k:o=r):(bif c then o else none)=r:=by rw[h];exact k
def kr (s:List UInt8):List Int:=encI (s.length:Nat)++lD s
theorem Pt {k:Nat} (h:k<2^62):rI ((k:Nat):Int):=by unfold rI;omega
theorem ahN {s:List UInt8} (h:s.length<2^62):jD (kr s):=Ba (ahL (Pt h)) (Xm _)
theorem ahO (s:List UInt8):(kr s).length≤s.length+10:=by unfold kr;rw[List.length_append,Xn];have:=Bb ((s.length:Nat):Int);omega
theorem ahP {n:Nat} {s:List UInt8} (h:s.length<2^29) (hn:20<n):AO n s=some (kr s):=by
 have hl:=Bb ((s.length:Nat):Int)
 rw[ag5]
 exact bs (Pq (Pt (by omega)) hn) (gR (rY (by rw[List.length_map];omega) (by decide)) rfl)
end Sh
end
section
open Go Go.Proofs Aq
namespace Sh
def mh {α:Type} (f:α→List Int) (l:List α):Nat:=l.foldr (fun x s=>(f x).length+s) 0
theorem Pv {α:Type} (f:α→List Int):∀l:List α,(l.flatMap f).length=mh f l
 | []=>rfl
 |x::l=>by rw[List.flatMap_cons,List.length_append,Pv f l];rfl
theorem JC {α:Type} {f:α→List Int} {b:Nat}:∀{l:List α},(∀x∈l,(f x).length≤b)→mh f l≤b*l.length
 | [],_=>Nat.zero_le _
 |x::l,h=>by
  have h1:=h x (by simp)
  have h2:=JC (f:=f) (l:=l) fun y hy=>h y (List.mem_cons_of_mem _ hy)
  show (f x).length+mh f l≤b*(l.length+1)
  rw[Nat.mul_add,Nat.mul_one];omega
theorem ahQ {n:Nat} {l:List Int} (hb:∀x∈l,rI x) (hlen:l.length<2^62) (hn:20<n):∀(k i m:Nat) (a:List Int),i+k=l.length→k<m→a.length+mh encI (l.drop i)<2^29→Ei n l m (a,(i:Int))=some (a++(l.drop i).flatMap encI):=by
 intro k
 induction k with
 |zero=>
  intro i m a hi hm hc
  obtain⟨m,rfl⟩:∃m',m=m'+1:=⟨m-1,by omega⟩
  rw[Xe,rV (by omega),List.drop_eq_nil_of_le (by omega),List.flatMap_nil,List.append_nil];rfl
 |succ k ih=>
  intro i m a hi hm hc
  obtain⟨m,rfl⟩:∃m',m=m'+1:=⟨m-1,by omega⟩
  have hlt:i<l.length:=by omega
  have hx:l[i]? =some l[i]:=List.getElem?_eq_getElem hlt
  have hd:l.drop i=l[i]::l.drop (i+1):=List.drop_eq_getElem_cons hlt
  rw[hd] at hc⊢
  have hm':=hb l[i] (List.getElem_mem hlt)
  generalize l[i]=x at hx hc hm'⊢
  rw[Xe,vU hx,gM hx,lC (by omega),cond_true]
  have hsz:mh encI (x::l.drop (i+1))=(encI x).length+mh encI (l.drop (i+1)):=rfl
  have h:=ih (i+1) m (a++encI x) (by omega) (by omega) (by rw[List.length_append];omega)
  rw[List.append_assoc] at h
  exact bs rfl (bs (Pq hm' hn) (gR (rY (by omega) (by decide)) h))
def Bc (l:List Int):List Int:=encI (l.length:Nat)++l.flatMap encI
theorem ahR {l:List Int}:(Bc l).length≤10+10*l.length:=by
 unfold Bc
 rw[List.length_append,Pv]
 have h1:=Bb ((l.length:Nat):Int)
 have h2:=JC (f:=encI) (b:=10) (l:=l) fun x _=>Bb x
 omega
theorem ahS {n:Nat} {l:List Int} (hb:∀x∈l,rI x) (hl:l.length<2^20) (hn:l.length<n) (hn2:20<n):AU n l=some (Bc l):=by
 have h1:=Bb ((l.length:Nat):Int)
 have h2:=JC (f:=encI) (b:=10) (l:=l) fun x _=>Bb x
 rw[ag9]
 refine bs (?_:_=some (Bc l)) rfl
 rw[ag8]
 exact bs (Pq (Pt (by omega)) hn2) (bs (ahQ hb (by omega) hn2 l.length 0 n _ (by omega) hn (by rw[List.drop_zero];omega)) rfl)
theorem ahT (n:Nat):∃v,AA n ()=some (IV,(v,(0:Int))):=by
 rw[agY]
 exact⟨_,rfl⟩
theorem ahU {n:Nat} {ls:List (List UInt8)} (hb:∀x∈ls,x.length<2^28) (hlen:ls.length<2^62) (hn:70<n):∀(k i m:Nat) (b:List Int) (h:Vec 8) (v:Vec 64) (c:Int),i+k=ls.length→k<m→rX b h v c→b.length+mh kr (ls.drop i)<2^28→mh kr (ls.drop i)<n→
 ∃h' v' c',Eh n ls m ((i:Int),(h,(v,c)))=some ((),(h',(v',c')))∧rX (b++(ls.drop i).flatMap kr) h' v' c':=by
 intro k
 induction k with
 |zero=>
  intro i m b h v c hi hm hs _ _
  obtain⟨m,rfl⟩:∃m',m=m'+1:=⟨m-1,by omega⟩
  refine⟨h,v,c, ?_, ?_⟩
  ·rw[Xd,rV (by omega)];rfl
  ·rw[List.drop_eq_nil_of_le (by omega),List.flatMap_nil,List.append_nil];exact hs
 |succ k ih=>
  intro i m b h v c hi hm hs hsz Xz
  obtain⟨m,rfl⟩:∃m',m=m'+1:=⟨m-1,by omega⟩
  have hlt:i<ls.length:=by omega
  have hx:ls[i]? =some ls[i]:=List.getElem?_eq_getElem hlt
  have hd:ls.drop i=ls[i]::ls.drop (i+1):=List.drop_eq_getElem_cons hlt
  rw[hd] at hsz Xz⊢
  have hm':=hb ls[i] (List.getElem_mem hlt)
  generalize ls[i]=x at hx hsz Xz hm'⊢
  have e:mh kr (x::ls.drop (i+1))=(kr x).length+mh kr (ls.drop (i+1)):=rfl
  have hB:jD (kr x):=ahN (by omega)
  obtain⟨h1,v1,c1,g1,g2⟩:=Pn (n:=n) (text:=uj (kr x)) hn hs (by rw[xY];omega) (by rw[xY];omega)
  rw[Pk hB] at g2
  obtain⟨h2,v2,c2,g3,g4⟩:=ih (i+1) m (b++kr x) h1 v1 c1 (by omega) (by omega) g2 (by rw[List.length_append];omega) (by omega)
  refine⟨h2,v2,c2, ?_, ?_⟩
  ·rw[Xd,vU hx,gM hx,lC (by omega),cond_true]
   exact bs rfl (bs (ahP (by omega) (by omega)) (bs g1 g3))
  ·rw[List.flatMap_cons,←List.append_assoc];exact g4
def inF (t:Int) (ls:List (List UInt8)):List Int:=[IntKind.wrap IntKind.u8 t]++ls.flatMap kr
def mo (t:Int) (ls:List (List UInt8)):aJ:=ahF (JB (inF t ls))
theorem Pw {n:Nat} {t:Int} {ls:List (List UInt8)} (hb:∀x∈ls,x.length<2^28) (hs:1+mh kr ls<2^28) (hsn:mh kr ls<n) (hl:ls.length<n) (hn:200<n) (hlen:ls.length<2^62):xR n (t,ls)=some (mo t ls):=by
 rw[ag7]
 obtain⟨v,hv⟩:=ahT n
 have s0:rX [] IV v 0:=⟨0,[],[],rfl,rfl,by decide,rfl,rfl,rfl,fun x hx=>by cases hx⟩
 have hB1:jD [IntKind.wrap IntKind.u8 t]:=fun x hx=>by rw[List.mem_singleton.1 hx];exact Xr t
 obtain⟨h1,v1,c1,g1,g2⟩:=Pn (n:=n) (text:=uj [IntKind.wrap IntKind.u8 t]) (by omega) s0 (by rw[xY];simp) (by rw[xY];simp;omega)
 rw[Pk hB1,List.nil_append] at g2
 obtain⟨h2,v2,c2,g3,g4⟩:=ahU (n:=n) hb hlen (by omega) ls.length 0 n _ h1 v1 c1 (by omega) hl g2 (by rw[List.drop_zero,List.length_singleton];exact hs) (by rw[List.drop_zero];exact hsn)
 rw[List.drop_zero] at g4
 have g5:=ahE (n:=n) g4 (by rw[List.length_append,List.length_singleton,Pv];exact hs) hn
 refine bs hv (bs g1 (bs g3 ?_))
 refine bs g5 ?_
 exact gR (by decide) (gR (by decide) rfl)
end Sh
end
