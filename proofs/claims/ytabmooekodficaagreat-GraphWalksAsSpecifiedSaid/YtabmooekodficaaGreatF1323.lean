import Derived.Test.YtabmooekodficaaGreatF1322
set_option linter.all false
section
open Go Go.Proofs Aq Pq
namespace Sh
set_option maxRecDepth 100000
theorem gR {α:Type} {c:Bool} {o r:Option α} (h:c=true) (k:o=r):(bif c then o else none)=r:=by rw[h];exact k
theorem bF {α:Type} {c:Bool} {a b r:Option α} (h:c=false) (k:b=r):(bif c then a else b)=r:=by rw[h];exact k
theorem bT {α:Type} {c:Bool} {a b r:Option α} (h:c=true) (k:a=r):(bif c then a else b)=r:=by rw[h];exact k
theorem tab_log:∀i:Fin 256,1<=i.val->tabS0[i.val]? =some (UInt8.ofNat (Nat.log2 i.val+1)):=by decide+kernel
theorem tab_idx {x:Nat} (h1:1<=x) (h2:x<256):idxL tabS0 (IntKind.wrap .u8 ((x:Nat):Int))=some (UInt8.ofNat (Nat.log2 x+1)):=by
 have hw:IntKind.wrap .u8 ((x:Nat):Int)=((x:Nat):Int):=by rw[IntKind.wrap_u8];omega
 have hl:tabS0.length=256:=by decide+kernel
 rw[hw]
 unfold idxL
 rw[if_pos ⟨by omega,by rw[hl];omega⟩,Int.toNat_natCast]
 exact tab_log ⟨x,h2⟩ h1
theorem log2_le7 {x:Nat} (h1:1<=x) (h2:x<256):Nat.log2 x<8:=(Nat.log2_lt (by omega)).2 (by omega)
theorem log2_256 {x:Nat} (h:256<=x):Nat.log2 x=8+Nat.log2 (x/256):=by
 have hx:x/256≠0:=by omega
 apply Nat.le_antisymm
 ·apply Nat.le_of_lt_succ
  rw[Nat.log2_lt (by omega)]
  have h1:x/256<2^(Nat.log2 (x/256)+1):=Nat.lt_log2_self
  have h2:2^(8+Nat.log2 (x/256)).succ=256*2^(Nat.log2 (x/256)+1):=by
   rw[Nat.succ_eq_add_one,SG,Nat.pow_add]
  rw[h2];omega
 ·rw[Nat.le_log2 (by omega),Nat.pow_add]
  have h1:2^Nat.log2 (x/256)<=x/256:=Nat.log2_self_le hx
  have:2^8*2^Nat.log2 (x/256)<=2^8*(x/256):=Nat.mul_le_mul_left _ h1
  omega
theorem len64 {n x:Nat} (h1:1<=x) (h2:x<65536):ZN n ((x:Nat):Int)=some ((Nat.log2 x+1:Nat):Int):=by
 rw[ZN_eq]
 refine bF (decide_eq_false (by omega)) (bF (decide_eq_false (by omega)) ?_)
 by_cases h:256<=x
 ·have hl:=log2_256 h
  have hs:=log2_le7 (x:=x/256) (by omega) (by omega)
  refine bT (decide_eq_true (by omega)) ?_
  refine gR (by decide) ?_
  have hsh:bitShr .u64 ((x:Nat):Int) 8=((x/256:Nat):Int):=by
   show Int.fdiv ((x:Nat):Int) (2^8)=_
   rw[Int.fdiv_eq_ediv_of_nonneg _ (by decide)];omega
  rw[hsh,tab_idx (by omega) (by omega)]
  show some _=_
  congr 1
  rw[UInt8.toNat_ofNat_of_lt' (show Nat.log2 (x/256)+1<256 by omega),hl]
  rw[IntKind.wrap_i64,IntKind.wrap_i64,IntKind.wrap_i64];omega
 ·have hs:=log2_le7 (x:=x) (by omega) (by omega)
  refine bF (decide_eq_false (by omega)) ?_
  rw[tab_idx (by omega) (by omega)]
  show some _=_
  congr 1
  rw[UInt8.toNat_ofNat_of_lt' (show Nat.log2 x+1<256 by omega)]
  rw[IntKind.wrap_i64,IntKind.wrap_i64];omega
theorem log2_div {x k:Nat} (h:2^k<=x):Nat.log2 x=k+Nat.log2 (x/2^k):=by
 have hk:0<2^k:=Nat.pow_pos (by decide)
 have hx:x/2^k≠0:=by
  have:=Nat.div_pos h hk
  omega
 have hx0:x≠0:=by omega
 apply Nat.le_antisymm
 ·apply Nat.le_of_lt_succ
  rw[Nat.log2_lt hx0]
  have h1:x/2^k<2^(Nat.log2 (x/2^k)+1):=Nat.lt_log2_self
  have h2:2^(k+Nat.log2 (x/2^k)).succ=2^(Nat.log2 (x/2^k)+1)*2^k:=by
   rw[Nat.succ_eq_add_one,SG,Nat.pow_add,Ta]
  rw[h2]
  exact(Nat.div_lt_iff_lt_mul hk).1 h1
 ·rw[Nat.le_log2 hx0,Nat.pow_add]
  have h1:2^Nat.log2 (x/2^k)<=x/2^k:=Nat.log2_self_le hx
  have h2:2^k*2^Nat.log2 (x/2^k)<=2^k*(x/2^k):=Nat.mul_le_mul_left _ h1
  exact RV h2 (Nat.mul_div_le ..)
theorem shrN (x k:Nat) (hk:k<=64):bitShr .u64 ((x:Nat):Int) ((k:Nat):Int)=((x/2^k:Nat):Int):=by
 show Int.fdiv ((x:Nat):Int) (2^min (((k:Nat):Int)).toNat 64)=_
 rw[Int.toNat_natCast,Tt hk,Int.fdiv_eq_ediv_of_nonneg _ (by exact Int.le_of_lt (Int.pow_pos (by decide)))]
 rw[Int.natCast_ediv]
 congr 1
theorem tail16 {y a:Nat} (h1:1<=y) (h2:y<256) (ha:a<=64):(idxL tabS0 (IntKind.wrap .u8 ((y:Nat):Int))).bind (fun (r2:UInt8)=>some (IntKind.wrap .i64 (((a:Nat):Int)+IntKind.wrap .i64 (((r2.toNat:Nat):Int)))))=some ((a+Nat.log2 y+1:Nat):Int):=by
 have hs:=log2_le7 h1 h2
 rw[tab_idx h1 h2]
 show some _=_
 congr 1
 rw[UInt8.toNat_ofNat_of_lt' (show Nat.log2 y+1<256 by omega)]
 simp only[IntKind.wrap_i64];omega
theorem len64d {n x:Nat} (h1:65536<=x) (h2:x<4294967296):ZN n ((x:Nat):Int)=some ((Nat.log2 x+1:Nat):Int):=by
 rw[ZN_eq]
 have hl:=log2_div (x:=x) (k:=16) (by omega)
 have hy1:1<=x/2^16:=by omega
 have hy2:x/2^16<65536:=by omega
 have s16:bitShr .u64 ((x:Nat):Int) (16:Int)=((x/2^16:Nat):Int):=shrN x 16 (by decide)
 rw[bF (decide_eq_false (by omega)) rfl,bT (decide_eq_true (by omega)) rfl,bT (by decide) rfl,s16]
 generalize x/2^16=y at hl hy1 hy2
 by_cases h8:256<=y
 ·have hl8:=log2_256 h8
  have s8:bitShr .u64 ((y:Nat):Int) (8:Int)=((y/2^8:Nat):Int):=shrN y 8 (by decide)
  rw[bT (decide_eq_true (by omega)) rfl,bT (by decide) rfl,s8,show IntKind.wrap .i64 (IntKind.wrap .i64 ((0:Int)+(16:Int))+(8:Int))=((24:Nat):Int) by decide]
  refine(tail16 (by omega) (by omega) (by decide)).trans ?_
  rw[hl,hl8,show y/2^8=y/256 by omega]
  congr 2;omega
 ·rw[bF (decide_eq_false (by omega)) rfl,show IntKind.wrap .i64 ((0:Int)+(16:Int))=((16:Nat):Int) by decide]
  refine(tail16 (by omega) (by omega) (by decide)).trans ?_
  rw[hl]
theorem len64c {n x:Nat} (h1:4294967296<=x) (h2:x<2^56+1):ZN n ((x:Nat):Int)=some ((Nat.log2 x+1:Nat):Int):=by
 rw[ZN_eq]
 have hl:=log2_div (x:=x) (k:=32) (by omega)
 have hy1:1<=x/2^32:=by omega
 have hy2:x/2^32<2^24+1:=by omega
 have s32:bitShr .u64 ((x:Nat):Int) (32:Int)=((x/2^32:Nat):Int):=shrN x 32 (by decide)
 rw[bT (decide_eq_true (by omega)) rfl,bT (by decide) rfl,s32]
 generalize x/2^32=y at hl hy1 hy2
 by_cases h16:65536<=y
 ·rw[bT (decide_eq_true (by omega)) rfl,bT (by decide) rfl]
  have hl16:=log2_div (x:=y) (k:=16) (by omega)
  have hz1:1<=y/2^16:=by omega
  have hz2:y/2^16<257:=by omega
  have s16:bitShr .u64 ((y:Nat):Int) (16:Int)=((y/2^16:Nat):Int):=shrN y 16 (by decide)
  rw[s16]
  generalize y/2^16=z at hl16 hz1 hz2
  by_cases h8:256<=z
  ·have hl8:=log2_256 h8
   have s8:bitShr .u64 ((z:Nat):Int) (8:Int)=((z/2^8:Nat):Int):=shrN z 8 (by decide)
   rw[bT (decide_eq_true (by omega)) rfl,bT (by decide) rfl,s8,show IntKind.wrap .i64 (IntKind.wrap .i64 ((32:Int)+(16:Int))+(8:Int))=((56:Nat):Int) by decide]
   refine(tail16 (by omega) (by omega) (by decide)).trans ?_
   rw[hl,hl16,hl8,show z/2^8=z/256 by omega]
   congr 2;omega
  ·rw[bF (decide_eq_false (by omega)) rfl,show IntKind.wrap .i64 ((32:Int)+(16:Int))=((48:Nat):Int) by decide]
   refine(tail16 (by omega) (by omega) (by decide)).trans ?_
   rw[hl,hl16]
   congr 2;omega
 rw[bF (decide_eq_false (by omega)) rfl]
 by_cases h8:256<=y
 ·have hl8:=log2_256 h8
  have s8:bitShr .u64 ((y:Nat):Int) (8:Int)=((y/2^8:Nat):Int):=shrN y 8 (by decide)
  rw[bT (decide_eq_true (by omega)) rfl,bT (by decide) rfl,s8,show IntKind.wrap .i64 ((32:Int)+(8:Int))=((40:Nat):Int) by decide]
  refine(tail16 (by omega) (by omega) (by decide)).trans ?_
  rw[hl,hl8,show y/2^8=y/256 by omega]
  congr 2;omega
 ·rw[bF (decide_eq_false (by omega)) rfl,show (32:Int)=((32:Nat):Int) from rfl]
  refine(tail16 (by omega) (by omega) (by decide)).trans ?_
  rw[hl]
theorem len64b {n x:Nat} (h1:1<=x) (h2:x<2^56+1):ZN n ((x:Nat):Int)=some ((Nat.log2 x+1:Nat):Int):=by
 by_cases h16:x<65536
 ·exact len64 h1 h16
 by_cases h32:x<4294967296
 ·exact len64d (by omega) h32
 ·exact len64c (by omega) h2
def IsRt (c r:Int):Prop:=0<=r/\r*r<=c/\c< (r+1)*(r+1)
theorem sq_le {a b:Int} (h0:0<=a) (h:a<=b):a*a<=b*b:=Int.mul_le_mul h h h0 (by omega)
theorem sq_lt {a b:Int} (h0:0<=a) (h:a<b):a*a<b*b:=by
 have:=sq_le (a:=a+1) (b:=b) (by omega) (by omega)
 have e:(a+1)*(a+1)=a*a+2*a+1:=by rw[Int.add_mul,Int.mul_add,Int.one_mul,Int.mul_one];omega
 omega
theorem IsRt.le {c r x:Int} (h:IsRt c r) (hx:x*x<=c):x<=r:=by
 rcases Int.lt_or_le r x with k|k
 ·have:=sq_le (a:=r+1) (b:=x) (by have:=h.1;omega) (by omega)
  have:=h.2.2;omega
 ·exact k
theorem IsRt.uniq {c r s:Int} (h:IsRt c r) (k:IsRt c s):r=s:=Int.le_antisymm (k.le h.2.1) (h.le k.2.1)
def newt (c x:Int):Int:=Int.tdiv (x+Int.tdiv c x) 2
theorem newt_eq {c x:Int} (hc:0<=c) (hx:0<x):newt c x=(x+c/x)/2:=by
 unfold newt
 have h1:=Int.ediv_nonneg hc (Int.le_of_lt hx)
 rw[Int.tdiv_eq_ediv_of_nonneg hc,Int.tdiv_eq_ediv_of_nonneg (by omega)]
theorem newt_ge {c x r:Int} (h:IsRt c r) (hx:0<x) (hr:0<r):r<=newt c x:=by
 have hc:0<=c:=Int.le_trans (Int.mul_nonneg h.1 h.1) h.2.1
 rw[newt_eq hc hx]
 have h1:2*r-x<=c/x:=by
  rw[Int.le_ediv_iff_mul_le hx]
  have h2:(2*r-x)*x=r*r-(r-x)*(r-x):=by
   rw[Int.sub_mul,Int.sub_mul,Int.mul_sub,Int.mul_sub,Int.mul_assoc]
   have:=Int.mul_comm r x
   omega
  have h3:0<=(r-x)*(r-x):=by
   rcases Int.le_total 0 (r-x) with k|k
   ·exact Int.mul_nonneg k k
   ·have:=Int.mul_nonneg (show 0<= -(r-x) by omega) (show 0<= -(r-x) by omega)
    rwa[Int.neg_mul_neg] at this
  have:=h.2.1
  omega
 omega
theorem newt_stop {c x r:Int} (h:IsRt c r) (hx:0<x) (hr:r<=x) (hs:x<=newt c x):x=r:=by
 have hc:0<=c:=Int.le_trans (Int.mul_nonneg h.1 h.1) h.2.1
 rw[newt_eq hc hx] at hs
 have h1:x<=c/x:=by omega
 rw[Int.le_ediv_iff_mul_le hx] at h1
 have:=h.le h1
 omega
theorem isrt_ex {c:Int} (hc:0<=c):∃r,IsRt c r:=by
 have:∀k:Nat,c< ((k:Int)+1)*((k:Int)+1)->∃r,IsRt c r:=by
  intro k
  induction k with
  |zero=>intro h;exact⟨0,Sb _,by omega,by simpa using h⟩
  |succ k ih=>
   intro h
   rcases Int.lt_or_le c (((k:Int)+1)*((k:Int)+1)) with h1|h1
   ·exact ih h1
   ·exact⟨(k:Int)+1,by omega,h1,by push_cast at h;exact h⟩
 refine this c.toNat ?_
 have e:((c.toNat:Nat):Int)=c:=by omega
 rw[e,Int.add_mul,Int.mul_add,Int.one_mul,Int.mul_one]
 have:=Int.mul_nonneg hc hc
 omega
theorem isqrt_loop {n:Nat} {c r:Int} (h:IsRt c r) (hr:0<r) (hb:c<=2^56):∀(k:Nat) (x:Int) (m:Nat),(x-r).toNat<=k->k<m->r<=x->x<=2^32->Zz_L5 n c m x=some r:=by
 intro k
 induction k with
 |zero=>
  intro x m hk hm hx hx2
  obtain⟨m,rfl⟩:∃m',m=m'+1:=⟨m-1,by omega⟩
  have hxr:x=r:=by omega
  subst hxr
  have hc:0<=c:=Int.le_trans (Int.mul_nonneg h.1 h.1) h.2.1
  have hd0:=Int.ediv_nonneg hc (Int.le_of_lt hr)
  have hd1:c/x<=c:=Int.ediv_le_self _ hc
  have hn:=newt_ge h hr hr
  have hq:Int.tdiv c x=c/x:=Int.tdiv_eq_ediv_of_nonneg hc
  rw[Zz_L5_s,show (x==0)=false from by simp;omega,show ((2:Int)==0)=false from rfl]
  have e:IntKind.wrap .i64 (Int.tdiv (IntKind.wrap .i64 (x+IntKind.wrap .i64 (Int.tdiv c x))) 2)=newt c x:=by
   rw[hq,wr (i:=c/x) (by omega) (by omega),wr (i:=x+c/x) (by omega) (by omega)]
   unfold newt
   rw[hq,Int.tdiv_eq_ediv_of_nonneg (by omega),wr (by omega) (by omega)]
  rw[e,dT (show newt c x>=x from hn)]
  rfl
 |succ k ih=>
  intro x m hk hm hx hx2
  obtain⟨m,rfl⟩:∃m',m=m'+1:=⟨m-1,by omega⟩
  have hx0:0<x:=by omega
  have hc:0<=c:=Int.le_trans (Int.mul_nonneg h.1 h.1) h.2.1
  have hd0:=Int.ediv_nonneg hc (Int.le_of_lt hx0)
  have hd1:c/x<=c:=Int.ediv_le_self _ hc
  have hn:=newt_ge h hx0 hr
  have hq:Int.tdiv c x=c/x:=Int.tdiv_eq_ediv_of_nonneg hc
  rw[Zz_L5_s,show (x==0)=false from by simp;omega,show ((2:Int)==0)=false from rfl]
  have e:IntKind.wrap .i64 (Int.tdiv (IntKind.wrap .i64 (x+IntKind.wrap .i64 (Int.tdiv c x))) 2)=newt c x:=by
   rw[hq,wr (i:=c/x) (by omega) (by omega),wr (i:=x+c/x) (by omega) (by omega)]
   unfold newt
   rw[hq,Int.tdiv_eq_ediv_of_nonneg (by omega),wr (by omega) (by omega)]
  rw[e]
  by_cases hs:x<=newt c x
  ·rw[dT (show newt c x>=x from hs),newt_stop h hx0 hx hs];rfl
  ·rw[dF (show¬newt c x>=x from hs)]
   exact ih _ m (by omega) (by omega) hn (by omega)
theorem isqrt_eq {n:Nat} {c r:Int} (hn:2^34<n) (h:IsRt c r) (hb:c<=2^56):Zz n c=some r:=by
 have hc:0<=c:=Int.le_trans (Int.mul_nonneg h.1 h.1) h.2.1
 refine(Zz_eq ..).trans ?_
 have e0:Xj n (c,((0:Int),(1152921504606846976:Int)))=some c:=by
  refine(Xj_eq ..).trans ?_
  congr 1
  unfold imax imin
  (repeat' split)<;>omega
 refine bs e0 ?_
 by_cases h0:c=0
 ·subst h0
  have:r=0:=h.uniq ⟨Sb _,by decide,by decide⟩
  rw[this];rfl
 ·rw[show (c==0)=false from by simpa using h0,cond_false]
  obtain⟨x,rfl⟩:∃x:Nat,c=(x:Int):=⟨c.toNat,by omega⟩
  have hl:Nat.log2 x<57:=(Nat.log2_lt (by omega)).2 (by omega)
  have ew:IntKind.wrap .u64 ((x:Nat):Int)=((x:Nat):Int):=by rw[IntKind.wrap_u64];omega
  have e1:ZP n (IntKind.wrap .u64 ((x:Nat):Int))=some ((Nat.log2 x+1:Nat):Int):=by
   rw[ew,ZP_eq];exact bs (len64b (by omega) (by omega)) rfl
  refine bs e1 ?_
  rw[show ((2:Int)==0)=false from rfl]
  have e2:IntKind.wrap .i64 (Int.tdiv (IntKind.wrap .i64 (((Nat.log2 x+1:Nat):Int)+1)) 2)=(((Nat.log2 x+2)/2:Nat):Int):=by
   rw[wr (i:=((Nat.log2 x+1:Nat):Int)+1) (by omega) (by omega),Int.tdiv_eq_ediv_of_nonneg (by omega),wr (by omega) (by omega)]
   omega
  rw[e2]
  rw[dT (show (0:Int)<=(((Nat.log2 x+2)/2:Nat):Int) by omega)]
  have e3:bitShl .i64 1 (((Nat.log2 x+2)/2:Nat):Int)=((2^((Nat.log2 x+2)/2):Nat):Int):=by
   show IntKind.wrap .i64 (1*2^min ((((Nat.log2 x+2)/2:Nat):Int)).toNat 64)=_
   rw[Int.toNat_natCast,Tt (by omega),Int.one_mul]
   have h1:2^((Nat.log2 x+2)/2)<=2^29:=Nat.pow_le_pow_right (by decide) (by omega)
   have hc:((2^((Nat.log2 x+2)/2):Nat):Int)=(2:Int)^((Nat.log2 x+2)/2):=by push_cast;rfl
   rw[<-hc]
   generalize 2^((Nat.log2 x+2)/2)=q at h1⊢
   exact wr (by omega) (by omega)
  rw[e3]
  have h1:2^((Nat.log2 x+2)/2)<=2^29:=Nat.pow_le_pow_right (by decide) (by omega)
  have h2:x<2^((Nat.log2 x+2)/2)*2^((Nat.log2 x+2)/2):=by
   rw[<-Nat.pow_add]
   exact R6 Nat.lt_log2_self (Nat.pow_le_pow_right (by decide) (by omega))
  generalize 2^((Nat.log2 x+2)/2)=q at h1 h2
  have hr0:0<r:=by
   have h4:=h.2.2
   have h5:=h.1
   rcases Int.lt_or_le 0 r with k|k
   ·exact k
   ·have:r=0:=by omega
    subst this
    simp at h4;omega
  have hrq:r<=(q:Int):=by
   rcases Int.lt_or_le (q:Int) r with k|k
   ·have h3:=sq_le (a:=(q:Int)) (b:=r) (by omega) (by omega)
    have h4:=h.2.1
    have h5:((q*q:Nat):Int)=(q:Int)*(q:Int):=by push_cast;rfl
    omega
   ·exact k
  exact bs (isqrt_loop (n:=n) h hr0 hb (2^33) (q:Int) n (by omega) (by omega) hrq (by omega)) rfl
end Sh
end
section
open Go Go.Proofs Aq Pq
namespace Sh
set_option maxRecDepth 100000
theorem ralike_eq {n:Nat} {a b:List Int} (hn:100<n) (ha:a.length<=40) (hb:b.length<=40):Xo n (a,b)=some (alikeB a b):=by
 rw[Xo_eq,rvalid_eq hn ha,rvalid_eq hn hb,len_beq]
 unfold alikeB
 cases decide (a.length=b.length)<;>cases vokB a<;>cases vokB b<;>rfl
theorem risqrt_loop {n:Nat} {c r:Int} (h:IsRt c r) (hb:c<=2^56):∀(k:Nat) (x:Int) (m:Nat),k<=31->k<m->0<=x->x+2^k<=2^31->x*x<=c->c< (x+2^k)*(x+2^k)->Zv_L5 n c m (x,(k:Int)-1)=some r:=by
 intro k
 induction k with
 |zero=>
  intro x m hk hm h0 h1 h2 h3
  obtain⟨m,rfl⟩:∃m',m=m'+1:=⟨m-1,by omega⟩
  rw[Zv_L5_s,dF (show¬(((0:Nat):Int)-1>=0) by omega),cond_false]
  have:x=r:=IsRt.uniq (c:=c) ⟨h0,h2,by simpa using h3⟩ h
  rw[this]
 |succ k ih=>
  intro x m hk hm h0 h1 h2 h3
  obtain⟨m,rfl⟩:∃m',m=m'+1:=⟨m-1,by omega⟩
  have hp:(0:Int)<2^k:=Int.pow_pos (by decide)
  have hps:(2:Int)^(k+1)=2*2^k:=by rw[Int.pow_succ];omega
  have e0:((k+1:Nat):Int)-1=(k:Int):=by omega
  have e1:bitShl .i64 1 (k:Int)=2^k:=by
   show IntKind.wrap .i64 (1*2^min ((k:Nat):Int).toNat 64)=_
   rw[Int.toNat_natCast,Tt (by omega),Int.one_mul]
   have h1':2^k<=2^30:=Nat.pow_le_pow_right (by decide) (by omega)
   have hc:((2^k:Nat):Int)=(2:Int)^k:=by push_cast;rfl
   rw[<-hc]
   generalize 2^k=q at h1'⊢
   exact wr (by omega) (by omega)
  rw[hps] at h1 h3
  have e2:IntKind.wrap .i64 (x+2^k)=x+2^k:=wr (by omega) (by omega)
  have hy:(x+2^k)*(x+2^k)<=2^62:=by
   have:=sq_le (a:=x+2^k) (b:=2^31) (by omega) (by omega)
   simpa using this
  have hy0:0<=(x+2^k)*(x+2^k):=Int.mul_nonneg (by omega) (by omega)
  rw[Zv_L5_s,e0,e1,e2,wr (i:=(x+2^k)*(x+2^k)) (by omega) (by omega),dT (show (k:Int)>=0 by omega),cond_true,cond_true,wr (i:=(k:Int)-1) (by omega) (by omega)]
  by_cases hc:(x+2^k)*(x+2^k)<=c
  ·rw[dT hc,cond_true]
   exact ih _ m (by omega) (by omega) (by omega) (by omega) hc (by rw[show x+2^k+2^k=x+2*2^k by omega];exact h3)
  ·rw[dF hc,cond_false]
   exact ih _ m (by omega) (by omega) h0 (by omega) h2 (by omega)
theorem risqrt_eq {n:Nat} {c r:Int} (hn:100<n) (h:IsRt c r) (hb:c<=2^56):Zv n c=some r:=by
 have hc:0<=c:=Int.le_trans (Int.mul_nonneg h.1 h.1) h.2.1
 refine(Zv_eq ..).trans ?_
 rw[dF (show¬c>1152921504606846976 by omega),cond_false]
 refine bs (a:=c) rfl ?_
 exact bs (risqrt_loop (n:=n) h hb 31 0 n (by omega) (by omega) (by omega) (by decide) (by simpa using hc) (by simp;omega)) rfl
def K27 (a:Int):Prop:=0<=a/\a<=134217728
theorem high_ex {n:Nat} {m a b:Int} (hn:2^34<n) (ha:K27 a) (hb:K27 b):∃h:Int,XC n (m,(a,b))=some h/\Xq n (m,(a,b))=some h:=by
 have ha1:=ha.1;have ha2:=ha.2;have hb1:=hb.1;have hb2:=hb.2
 have hm0:0<=4*a*b:=Int.mul_nonneg (by omega) hb1
 have hm1:4*a*b<=2^56:=by
  have:=Int.mul_le_mul (show 4*a<=536870912 by omega) hb2 hb1 (by omega)
  simpa using this
 obtain⟨r,hr⟩:=isrt_ex hm0
 have hr2:r<=2^28:=by
  rcases Int.lt_or_le (2^28) r with k|k
  ·have:=sq_lt (a:=2^28) (b:=r) (by decide) k
   have:=hr.2.1
   omega
  ·exact k
 have hr1:=hr.1
 have ew:IntKind.wrap .i64 (IntKind.wrap .i64 (4*a)*b)=4*a*b:=by
  rw[wr (i:=4*a) (by omega) (by omega),wr (by omega) (by omega)]
 refine⟨bif decide (m=2) then imin (a+b+r) 134217728 else imin (a+b) 134217728,?_,?_⟩
 ·refine(XC_eq ..).trans ?_
  unfold highF hi2
  cases decide (m=2)
  ·refine bs (a:=a+b) ?_ rfl
   show Xa n (a,b)=_
   rw[Xa_eq,wr (by omega) (by omega)]
  ·refine bs (a:=a+b+r) ?_ rfl
   show ZZ n (a,(b,(1:Int)))=_
   rw[ZZ_eq,ew]
   refine bs (isqrt_eq hn hr hm1) ?_
   rw[Int.one_mul,wr (i:=r) (by omega) (by omega),wr (i:=a+b) (by omega) (by omega),wr (by omega) (by omega)]
 ·refine(Xq_eq ..).trans ?_
  rw[show ((m==2)=decide (m=2)) from rfl,ew]
  cases decide (m=2)
  ·rw[cond_false,cond_false,wr (i:=a+b) (by omega) (by omega)]
   unfold imin
   by_cases h:a+b>134217728
   ·rw[dT h,if_pos (by omega)];rfl
   ·rw[dF h]
    rcases Int.lt_or_le 134217728 (a+b) with k|k
    ·omega
    ·rw[if_neg (by omega)];rfl
  ·rw[cond_true,cond_true]
   refine bs (risqrt_eq (by omega) hr hm1) ?_
   rw[wr (i:=a+b) (by omega) (by omega),wr (i:=a+b+r) (by omega) (by omega)]
   unfold imin
   by_cases h:a+b+r>134217728
   ·rw[dT h,if_pos (by omega)];rfl
   ·rw[dF h,if_neg (by omega)];rfl
theorem covers_ex {n:Nat} {m a b:Int} (c:Int) (hn:2^34<n) (ha:K27 a) (hb:K27 b):∃h:Bool,ZR n (m,(a,(b,c)))=some h/\ZV n (m,(a,(b,c)))=some h:=by
 obtain⟨h,h1,h2⟩:=high_ex (m:=m) hn ha hb
 exact⟨decide (h<=c),(ZR_eq ..).trans (bs h1 rfl),(ZV_eq ..).trans (bs h2 rfl)⟩
end Sh
end
section
open Go Go.Proofs Aq Pq
namespace Sh
set_option maxRecDepth 100000
noncomputable abbrev KO (n:Nat) (s:graph_search) {β:Type} (a b:Int) (f:Bool->Option β):Option β:=(Xe n (s,(a,b))).bind fun (c:Int)=>f (decide (c< (0:Int)))
section
variable {n:Nat} {s:graph_search} {Ok:Int->Prop} {lt:Int->Int->Prop} (hc:CmpO Ok lt (KO n s)) (ho:Ord lt)
include hc ho
theorem pdq_slot (hn:400<n) {l:List Int} (hl:l.length<256) (hal:Al Ok l) (lim:Int):∃r:PUnit×List Int,QP n ((),(0:Int),((l.length:Nat):Int),lim,(s,())) l=some r/\r.2.Perm l/\r.2.Pairwise fun x y=>¬lt y x:=by
 have h:=pdqAll (n:=n) (d:=(0:Int)) (K:=KO n s) (PL:=(fun g=>QP_m_L2 n g s)) (pd:=(fun m p q=>QP_m n m (p.1,p.2.1,p.2.2.1,p.2.2.2.1,(s,())) q)) hc ho (ins:=(fun p q=>Zh n (p.1,p.2.1,p.2.2.1,(s,())) q)) (heap:=(fun p q=>Zj n (p.1,p.2.1,p.2.2.1,(s,())) q)) (brk:=(fun p q=>ZF n (p.1,p.2.1,p.2.2.1,(s,())) q)) (rev:=(fun p q=>Zp n (p.1,p.2.1,p.2.2.1,(s,())) q)) (cho:=(fun p=>XE n (p.1,p.2.1,p.2.2.1,(s,())))) (pin:=(fun p q=>Zb n (p.1,p.2.1,p.2.2.1,(s,())) q)) (peq:=(fun p q=>Zf n (p.1,p.2.1,p.2.2.1,p.2.2.2.1,(s,())) q)) (prt:=(fun p q=>QQ n (p.1,p.2.1,p.2.2.1,p.2.2.2.1,(s,())) q))
  (fun h0 h1 h2 h3 h4=>by
    refine tQ (Zh_eq ..) ?_
    exact tB (insAll (n:=n) (d:=(0:Int)) (K:=KO n s) (L4:=(fun a b c=>Zh_L4 n a b s c)) (L1:=(fun a b=>Zh_L1 n a b s)) hc ho (by intros;kernel_rfl) (by intros;kernel_rfl) h0 h1 h2 (by first|omega| (dsimp only;omega)) h4 (by first|omega| (dsimp only;omega))) fun r hr=>tS hr)
  (fun h0 h1 h2 h3 h4=>heapAll (n:=n) (d:=(0:Int)) (K:=KO n s) (S1:=(fun a b=>ZJ_L1 n a b s)) (sift:=(fun p q=>ZJ n (p.1,p.2.1,p.2.2.1,p.2.2.2.1,(s,())) q)) (H4:=(fun a b=>Zj_L4 n a b s)) (H8:=(fun a=>Zj_L8 n a s)) (heap:=(fun p q=>Zj n (p.1,p.2.1,p.2.2.1,(s,())) q)) hc ho (by intros;kernel_rfl) (by intros;kernel_rfl) (by intros;kernel_rfl) (by intros;kernel_rfl) (by intros;kernel_rfl) h0 h1 h2 (by first|omega| (dsimp only;omega)) h4 (by first|omega| (dsimp only;omega)))
  (fun h0 h1 h2 h3=>brkAll (n:=n) (d:=(0:Int)) (np:=Xm n) (xs:=ZL n) (next_le n) (shift_some n) (B5:=ZF_L5 n) (brk:=(fun p q=>ZF n (p.1,p.2.1,p.2.2.1,(s,())) q)) (by intros;kernel_rfl) (by intros;kernel_rfl) h0 h1 h2 h3 (by first|omega| (dsimp only;omega)))
  (fun h0 h1 h2 h3 h4=>choAll (0:Int) (K:=KO n s) hc (o2:=(fun p q=>ZS n (p.1,p.2.1,p.2.2.1,p.2.2.2.1,(s,())) q)) (med:=(fun p q=>ZT n (p.1,p.2.1,p.2.2.1,p.2.2.2.1,p.2.2.2.2.1,(s,())) q)) (mad:=(fun p q=>ZU n (p.1,p.2.1,p.2.2.1,(s,())) q)) (cho:=(fun p=>XE n (p.1,p.2.1,p.2.2.1,(s,())))) (by intros;kernel_rfl) (by intros;kernel_rfl) (by intros;kernel_rfl) (by intros;kernel_rfl) h0 h1 h2 (by first|omega| (dsimp only;omega)) h4)
  (fun h0 h1 h2 h3=>by
    refine tQ (Zp_eq ..) ?_
    exact tB (revAll (n:=n) (d:=(0:Int)) (L2:=Zp_L2 n) (by intros;kernel_rfl) h0 h1 h2 (by first|omega| (dsimp only;omega)) (by first|omega| (dsimp only;omega))) fun r hr=>tS hr)
  (fun h0 h1 h2 h3 h4 h5=>pinAll (n:=n) (d:=(0:Int)) (K:=KO n s) hc ho (I5:=(fun a b c e=>Zb_L5 n a b s c e)) (I14:=(fun a b c e=>Zb_L14 n a b s c e)) (I20:=(fun a b c e=>Zb_L20 n a b s c e)) (IM:=(fun a b=>Zb_L3 n a b s)) (pin:=(fun p q=>Zb n (p.1,p.2.1,p.2.2.1,(s,())) q)) (by intros;kernel_rfl) (by intros;kernel_rfl) (by intros;kernel_rfl) (by intros;kernel_rfl) (by intros;kernel_rfl) h0 h1 h2 (by first|omega| (dsimp only;omega)) h4 (by first|omega| (dsimp only;omega)) h5)
  (fun h0 h1 h2 h3 h4 h5=>peqAll (n:=n) (d:=(0:Int)) (K:=KO n s) hc (E3:=(fun a b c=>Zf_L3 n a s b c)) (E5:=(fun a b c=>Zf_L5 n a s b c)) (EM:=(fun a=>Zf_L503 n a s)) (peq:=(fun p q=>Zf n (p.1,p.2.1,p.2.2.1,p.2.2.2.1,(s,())) q)) (by intros;kernel_rfl) (by intros;kernel_rfl) (by intros;kernel_rfl) (by intros;kernel_rfl) h0 h1 (by first|omega| (dsimp only;omega)) h3 (by first|omega| (dsimp only;omega)) h4 h5)
  (fun h0 h1 h2 h3 h4 h5=>prtAll (n:=n) (d:=(0:Int)) (K:=KO n s) hc ho (P3:=(fun a b c e f g=>QQ_L3 n a b c s e f g)) (P5:=(fun a b c e f g=>QQ_L5 n a b s c e f g)) (P13:=(fun a b c=>QQ_L13 n a s b c)) (P15:=(fun a b c=>QQ_L15 n a s b c)) (PM:=(fun a=>QQ_L513 n a s)) (prt:=(fun p q=>QQ n (p.1,p.2.1,p.2.2.1,p.2.2.2.1,(s,())) q)) (by intros;kernel_rfl) (by intros;kernel_rfl) (by intros;kernel_rfl) (by intros;kernel_rfl) (by intros;kernel_rfl) (by intros;kernel_rfl) h0 h1 (by first|omega| (dsimp only;omega)) h3 (by first|omega| (dsimp only;omega)) h4 h5)
  (by intros;kernel_rfl) (by intros;kernel_rfl) (by first|omega| (dsimp only;omega)) n 0 ((l.length:Nat):Int) lim l (by first|omega| (dsimp only;omega)) (Sb _) (by first|omega| (dsimp only;omega)) (Sb _) hl hal (fun h=>by omega)
 refine tQ (show QP n ((),(0:Int),((l.length:Nat):Int),lim,(s,())) l=QP_m n n ((),(0:Int),((l.length:Nat):Int),lim,(s,())) l by unfold QP;rfl) ?_
 refine tW h fun r hr=>⟨hr.1.perm,?_⟩
 have:=hr.2
 rw[<-hr.1.len] at this
 exact this.pw
theorem sort_slot (hn:400<n) {l:List Int} (hl:l.length<256) (hal:Al Ok l):∃r:PUnit×List Int,ZM n ((),(s,())) l=some r/\r.2.Perm l/\r.2.Pairwise fun x y=>¬lt y x:=by
 refine tQ (ZM_eq ..) ?_
 have hlen:∃r:Int,ZP n (IntKind.wrap .u64 ((l.length:Nat):Int))=some r:=by
  have ew:IntKind.wrap .u64 ((l.length:Nat):Int)=((l.length:Nat):Int):=by rw[IntKind.wrap_u64];omega
  rw[ew]
  by_cases h:l.length=0
  ·rw[h]
   rw[ZP_eq,ZN_eq];exact⟨_,rfl⟩
  ·obtain⟨r,e,_⟩:=len_le (k:=((l.length:Nat):Int)) (by first|omega| (dsimp only;omega)) (by first|omega| (dsimp only;omega)) n
   exact⟨r,e⟩
 obtain⟨r,e⟩:=hlen
 exact tE e (tB (pdq_slot hc ho hn hl hal r) fun s hs=>tS hs)
end
end Sh
end
section
open Go Go.Proofs Aq Pq
namespace Sh
set_option maxRecDepth 100000
def bN (ks:List Int) (x:Int):Prop:=0<=x/\x<ks.length
def aM (ks:List Int) (x:Int):Int:=ks.getD x.toNat 0
def cu (ks:List Int) (a b:Int):Prop:=aM ks a<aM ks b\/(aM ks a=aM ks b/\a<b)
theorem rM {ks:List Int} {a b:Int}:ltS ks a b=true↔cu ks a b:=by
 unfold ltS cu aM
 rw[Td,iP,decide_eq_true_iff,decide_eq_true_iff,decide_eq_true_iff]
theorem lH (ks:List Int):Ord (cu ks):=⟨fun x y=>by unfold cu;omega,fun x y z=>by unfold cu;omega⟩
theorem GN {ks:List Int} {a b:Int} (h:¬cu ks a b) (k:¬cu ks b a):a=b:=by unfold cu at h k;omega
theorem lI {ks:List Int} {x:Int} (h:bN ks x):idxL ks x=some (aM ks x):=by
 have h0:=h.1;have h1:=h.2
 rw[ixI h0 h1]
 unfold aM
 rw[SK,SB (by omega)];rfl
def oN (x y:Int):Int:=bif decide (x<y) then-1 else bif decide (x>y) then 1 else 0
theorem GQ (n:Nat) (x y:Int):Xd n (x,y)=some (oN x y):=by
 have e:∀x:Int,Xc n x=some false:=fun x=>(Xc_eq n x).trans (congrArg some (show (x !=x)=false by simp))
 refine(Xd_eq ..).trans (bs (e x) (bs (e y) ?_))
 unfold oN
 cases decide (x<y)<;>cases decide (x>y)<;>rfl
theorem QJ {n:Nat} (hn:100<n) {a b:Int} {l:List Int} (hl:l.length=2) (e1:idxL l (0:Int)=some a) (e2:idxL l (1:Int)=some b):Zs n l=some (bif a !=0 then a else b):=by
 obtain⟨n',rfl⟩:∃n',n=n'+1+1+1:=⟨n-3,by omega⟩
 refine(Zs_eq ..).trans ?_
 rw[Zs_L3_s,ite_lt (by omega),e1,Option.bind_some]
 cases h:(a !=0)
 ·rw[cond_false,cond_false,show IntKind.wrap .i64 ((0:Int)+1)=1 by decide,Zs_L3_s,ite_lt (by omega),e2,Option.bind_some]
  cases h2:(b !=0)
  ·rw[cond_false,show IntKind.wrap .i64 ((1:Int)+1)=2 by decide,Zs_L3_s,ite_nlt (by omega)]
   have:b=0:=by simpa using h2
   rw[this];rfl
  ·rfl
 ·rfl
theorem or_eq {n:Nat} (hn:100<n) (a b:Int):Zs n [a,b]=some (bif a !=0 then a else b):=
 QJ hn rfl (ix0 a [b]) (by unfold idxL;rw[if_pos ⟨by decide,by show (1:Int)<2;decide⟩];rfl)
theorem GR {n:Nat} (hn:100<n) {s:graph_search}:CmpO (bN s.keyed) (cu s.keyed) (KO n s):=by
 intro a b ha hb
 refine⟨ltS s.keyed a b,rM,fun f=>?_⟩
 have e:Xe n (s,(a,b))=some (bif oN (aM s.keyed a) (aM s.keyed b) !=0 then oN (aM s.keyed a) (aM s.keyed b) else oN a b):=by
  refine(Xe_eq ..).trans ?_
  refine bs (lI ha) (bs (lI hb) (bs (GQ ..) (bs (GQ ..) (bs (or_eq hn ..) rfl))))
 refine bs e ?_
 congr 1
 rw[show ltS s.keyed a b=(decide (aM s.keyed a<aM s.keyed b)||(decide (aM s.keyed a=aM s.keyed b)&& decide (a<b))) from rfl]
 generalize aM s.keyed a=x
 generalize aM s.keyed b=y
 unfold oN
 rcases Int.lt_trichotomy x y with h|h|h
 ·rw[dT h];rfl
 ·subst h
  rw[dF (Int.lt_irrefl x),dT (rfl:x=x)]
  show decide ((bif decide (a<b) then (-1:Int) else bif decide (a>b) then 1 else 0)<0)=decide (a<b)
  cases decide (a<b)<;>cases decide (a>b)<;>rfl
 ·rw[dF (show¬x<y by omega),dT (show x>y from h),dF (show¬x=y by omega)];rfl
theorem QK {n:Nat} (hn:400<n) {s:graph_search} {l:List Int} (h0:l≠[]) (hl:l.length<=40) (hal:Al (bN s.keyed) l):∃r:List Int,Xg n (l,(s,()))=some r/\r.Perm l/\r.Pairwise fun x y=>¬cu s.keyed y x:=by
 obtain⟨r,h1,h2,h3⟩:=sort_slot (GR (n:=n) (s:=s) (by omega)) (lH _) hn (l:=l) (by omega) hal
 refine⟨r.2,(Xg_eq ..).trans ?_,h2,h3⟩
 have e:ZO n l ()=some (l,()):=by
  refine(ZO_eq ..).trans ?_
  have e0:(!List.isEmpty l)=true:=by cases l with
   |nil=>exact absurd rfl h0
   |cons=>rfl
  rw[e0,cond_true,room (by omega) (by omega)];rfl
 exact bs e (bs h1 rfl)
theorem QL {n:Nat} {m:Int} {l:List (List Int)} {v:List Int} (hn:100<n) (hm:M3 m) (h:LOK l v) (i:Nat) (l0:List Int) (hi:i<l0.length) (hl:l0.length<=40) (i0:Int) (hal:Al (bN (keysS m l v)) l0):
 ∀(k:Nat) (D:List Int) (mm:Nat),k<=i->k<mm->Rp (0:Int) 0 ((i:Int)+1) l0 D->(∀u w:Int,0<=u->u<w->w<=i->u≠k->w≠k->¬cu (keysS m l v) (gI 0 D w) (gI 0 D u))->(∀w:Int,(k:Int)<w->w<=i->¬cu (keysS m l v) (gI 0 D w) (gI 0 D k))->
 ∃r:PUnit×List Int,QR_L6 n m l v i0 mm ((k:Int),D)=some r/\Rp (0:Int) 0 ((i:Int)+1) l0 r.2/\Sd (cu (keysS m l v)) 0 0 ((i:Int)+1) r.2:=by
 intro k
 induction k with
 |zero=>
  intro D mm hk hmm hR h1 h2
  obtain⟨mm,rfl⟩:∃m',mm=m'+1:=⟨mm-1,by omega⟩
  rw[QR_L6_s,dF (show¬((0:Nat):Int)>0 by omega),cond_false]
  refine⟨_,rfl,hR,fun u w k0 k1 k2=>?_⟩
  by_cases e:u=0
  ·subst e;exact h2 w (by omega) (by omega)
  ·exact h1 u w k0 k1 (by omega) (by omega) (by omega)
 |succ k ih=>
  intro D mm hk hmm hR h1 h2
  obtain⟨mm,rfl⟩:∃m',mm=m'+1:=⟨mm-1,by omega⟩
  have hlen:=hR.len
  have ha:=hR.al hal
  have oA:=ha.at 0 (i:=(k:Int)) (by omega) (by omega)
  have oB:=ha.at 0 (i:=((k+1:Nat):Int)) (by omega) (by omega)
  have gA:=idx_gI (0:Int) (l:=D) (i:=(k:Int)) (by omega) (by omega)
  have gB:=idx_gI (0:Int) (l:=D) (i:=((k+1:Nat):Int)) (by omega) (by omega)
  have key:∀x:Int,bN (keysS m l v) x->∃y:List Int,idxL l x=some y/\ZG n (m,(y,v))=some (aM (keysS m l v) x):=by
   intro x hx
   have hx0:=hx.1
   have hx1:=hx.2
   rw[keysS_len] at hx1
   have hy:=h.2.2 (l[x.toNat]'(by omega)) (R7 _)
   refine⟨_,ixI hx0 hx1,(rkey_eq hn hm hy.1 h.2.1 hy.2).trans ?_⟩
   congr 1
   unfold aM
   rw[SK,SB (by rw[keysS_len];omega)]
   unfold keysS
   simp
  obtain⟨yA,a1,a2⟩:=key _ oA
  obtain⟨yB,b1,b2⟩:=key _ oB
  have ek:IntKind.wrap .i64 (((k+1:Nat):Int)-1)=(k:Int):=by rw[wr (by omega) (by omega)];omega
  have sw:swp 0 D ((k+1:Nat):Int) (k:Int)=setL (setL D ((k+1:Nat):Int) (gI 0 D (k:Int))) (k:Int) (gI 0 D ((k+1:Nat):Int)):=rfl
  have d1:decide ((0:Int)<=(k:Int)/\(k:Int)< ((D.length:Nat):Int))=true:=dT ⟨by omega,by omega⟩
  have d2:decide ((0:Int)<=((k+1:Nat):Int)/\((k+1:Nat):Int)< ((D.length:Nat):Int))=true:=dT ⟨by omega,by omega⟩
  have d3:decide ((0:Int)<=(k:Int)/\(k:Int)< (((setL D ((k+1:Nat):Int) (gI 0 D (k:Int))).length:Nat):Int))=true:=dT ⟨by omega,by rw[len_setL];omega⟩
  have gC:∃z,idxL (setL D ((k+1:Nat):Int) (gI 0 D (k:Int))) (k:Int)=some z:=⟨_,ixI (by omega) (by rw[len_setL];omega)⟩
  obtain⟨z,gC⟩:=gC
  have GU:cu (keysS m l v) (gI 0 D ((k+1:Nat):Int)) (gI 0 D (k:Int))->∃r:PUnit×List Int,QR_L6 n m l v i0 mm ((k:Int),swp 0 D ((k+1:Nat):Int) (k:Int))=some r/\Rp (0:Int) 0 ((i:Int)+1) l0 r.2/\Sd (cu (keysS m l v)) 0 0 ((i:Int)+1) r.2:=by
   intro hlt
   have gs:∀w:Int,0<=w->gI 0 (swp 0 D ((k+1:Nat):Int) (k:Int)) w=if w=(k:Int) then gI 0 D ((k+1:Nat):Int) else if w=((k+1:Nat):Int) then gI 0 D (k:Int) else gI 0 D w:=fun w hw=>gI_swp (by omega) (by omega) (by omega) (by omega) hw
   refine ih _ mm (by omega) (by omega) (hR.swp (by omega) (by omega) (by omega) (by omega) (by omega) (by omega)) ?_ ?_
   ·intro u w u0 uw wi uk wk
    rw[gs u u0,gs w (by omega),if_neg uk,if_neg wk]
    by_cases eu:u=((k+1:Nat):Int)
    ·rw[if_pos eu,if_neg (by omega)]
     exact h1 (k:Int) w (by omega) (by omega) wi (by omega) (by omega)
    ·rw[if_neg eu]
     by_cases ew:w=((k+1:Nat):Int)
     ·rw[if_pos ew]
      exact h1 u (k:Int) u0 (by omega) (by omega) (by omega) (by omega)
     ·rw[if_neg ew]
      exact h1 u w u0 uw wi (by omega) (by omega)
   ·intro w kw wi
    rw[gs w (by omega),gs (k:Int) (by omega),if_pos rfl,if_neg (by omega)]
    by_cases ew:w=((k+1:Nat):Int)
    ·rw[if_pos ew]
     exact(lH _).asym _ _ hlt
    ·rw[if_neg ew]
     exact h2 w (by omega) wi
  have stepN:¬cu (keysS m l v) (gI 0 D ((k+1:Nat):Int)) (gI 0 D (k:Int))->∃r:PUnit×List Int,QR_L6 n m l v i0 mm ((k:Int),D)=some r/\Rp (0:Int) 0 ((i:Int)+1) l0 r.2/\Sd (cu (keysS m l v)) 0 0 ((i:Int)+1) r.2:=by
   intro hlt
   refine ih _ mm (by omega) (by omega) hR ?_ ?_
   ·intro u w u0 uw wi uk wk
    by_cases eu:u=((k+1:Nat):Int)
    ·subst eu
     exact h2 w (by omega) wi
    ·by_cases ew:w=((k+1:Nat):Int)
     ·subst ew
      refine(lH _).neg _ _ _ hlt ?_
      exact h1 u (k:Int) u0 (by omega) (by omega) (by omega) (by omega)
     ·exact h1 u w u0 uw wi (by omega) (by omega)
   ·intro w kw wi
    by_cases ew:w=((k+1:Nat):Int)
    ·subst ew;exact hlt
    ·exact h1 (k:Int) w (by omega) kw wi (by omega) (by omega)
  rw[QR_L6_s,dT (show ((k+1:Nat):Int)>0 by omega),cond_true,ek,d1,d2,cond_true,cond_true]
  refine tE gA (tE a1 (tE a2 ?_))
  refine tE gB (tE b1 (tE b2 ?_))
  generalize hx:aM (keysS m l v) (gI 0 D (k:Int))=x
  generalize hy:aM (keysS m l v) (gI 0 D ((k+1:Nat):Int))=y
  have swap:∀{β:Type} (f:List Int->Option β) (P:β->Prop),(∃r,f (swp 0 D ((k+1:Nat):Int) (k:Int))=some r/\P r)->∃r,((idxL D ((k+1:Nat):Int)).bind fun (r21:Int)=>(idxL D (k:Int)).bind fun (r22:Int)=>(idxL D ((k+1:Nat):Int)).bind fun (r23:Int)=>bif decide (0<=(k:Int)/\(k:Int)< (((setL D ((k+1:Nat):Int) r22).length:Nat):Int)) then (idxL (setL D ((k+1:Nat):Int) r22) (k:Int)).bind fun (r24:Int)=>f (setL (setL D ((k+1:Nat):Int) r22) (k:Int) r21) else none)=some r/\P r:=by
   intro β f P hf
   refine tE gB (tE gA (tE gB ?_))
   rw[d3,cond_true]
   exact tE gC hf
  by_cases c1:x>y
  ·rw[dT c1]
   exact swap (fun D'=>QR_L6 n m l v i0 mm ((k:Int),D')) _ (GU (.inl (by rw[hx,hy];exact c1)))
  ·rw[dF c1]
   by_cases c2:x=y
   ·rw[show (x==y)=true by simpa using c2]
    refine tE gA (tE gB ?_)
    by_cases c3:gI 0 D (k:Int)>gI 0 D ((k+1:Nat):Int)
    ·rw[dT c3]
     exact swap (fun D'=>QR_L6 n m l v i0 mm ((k:Int),D')) _ (GU (.inr ⟨by rw[hx,hy];exact c2.symm,c3⟩))
    ·rw[dF c3]
     refine stepN ?_
     unfold cu
     rw[hx,hy];omega
   ·rw[show (x==y)=false by simpa using c2]
    refine stepN ?_
    unfold cu
    rw[hx,hy];omega
theorem QM {n:Nat} {m:Int} {l:List (List Int)} {v:List Int} (hn:400<n) (hm:M3 m) (h:LOK l v) {s:List Int} (hl:s.length<=40) (hal:Al (bN (keysS m l v)) s):∃r:List Int,QR n (m,(l,(v,s)))=some r/\r.Perm s/\r.Pairwise fun x y=>¬cu (keysS m l v) y x:=by
 have key:∀c (i mm:Nat) (D:List Int),i+c=s.length->c<mm->Rp (0:Int) 0 ((s.length:Nat):Int) s D->Sd (cu (keysS m l v)) 0 0 (i:Int) D->∃r:PUnit×List Int,QR_L3 n m l v mm ((i:Int),D)=some r/\r.2.Perm s/\r.2.Pairwise fun x y=>¬cu (keysS m l v) y x:=by
  intro c
  induction c with
  |zero=>
   intro i mm D hi hmm hR hS
   obtain⟨mm,rfl⟩:∃m',mm=m'+1:=⟨mm-1,by omega⟩
   have hlen:=hR.len
   rw[QR_L3_s,ite_nlt (by omega)]
   refine⟨_,rfl,hR.perm,?_⟩
   have e:i=D.length:=by omega
   rw[e] at hS
   exact hS.pw
  |succ c ih=>
   intro i mm D hi hmm hR hS
   obtain⟨mm,rfl⟩:∃m',mm=m'+1:=⟨mm-1,by omega⟩
   have hlen:=hR.len
   rw[QR_L3_s,ite_lt (by omega),wS (by omega)]
   refine tB (QL (by omega) hm h i D (by omega) (by omega) (i:Int) (hR.al hal) i D n (RQ _) (by omega) (.refl _ _ _ _) (fun u w u0 uw wi uk wk=>hS u w u0 uw (by omega)) (fun w kw wi=>by omega)) fun r=>?_
   rintro⟨r1,r2⟩
   exact ih (i+1) mm _ (by omega) (by omega) (hR.trans (r1.wide (Sb _) (by omega) (Sb _))) (by rw[show ((i+1:Nat):Int)=(i:Int)+1 by omega];exact r2)
 obtain⟨r,h1,h2,h3⟩:=key s.length 0 n s (by omega) (by omega) (.refl _ _ _ _) (fun u w u0 uw wi=>by omega)
 refine⟨r.2,(QR_eq ..).trans ?_,h2,h3⟩
 rw[room (by omega) (by omega),cond_true]
 exact bs h1 rfl
theorem GV {n:Nat} {m:Int} {l:List (List Int)} {v:List Int} {g:Graph} (hn:400<n) (hm:M3 m) (h:LOK l v) {s:List Int} (h0:s≠[]) (hl:s.length<=40) (hal:Al (bN (keysS m l v)) s):∃o:List Int,QR n (m,(l,(v,s)))=some o/\Xg n (s,(⟨⟨m,l⟩,g,keysS m l v⟩,()))=some o/\o.Perm s/\o.Pairwise fun x y=>¬cu (keysS m l v) y x:=by
 obtain⟨r,r1,r2,r3⟩:=QM hn hm h hl hal
 obtain⟨q,q1,q2,q3⟩:=QK hn (s:=⟨⟨m,l⟩,g,keysS m l v⟩) h0 hl hal
 have e:q=r:=(q2.trans r2.symm).eq_of_pairwise (le:=fun x y=>¬cu (keysS m l v) y x) (fun a b _ _ h1 h2=>GN h2 h1) q3 r3
 subst e
 exact⟨q,r1,q1,q2,q3⟩
end Sh
end
section
open Go Go.Proofs Aq Pq
namespace Sh
set_option maxRecDepth 100000
theorem QN {n:Nat} (hn:100<n) {s:graph_search} {x1:List Int} (hl:x1.length<=40) (hal:Al (bN s.keyed) x1):∀c (i m:Nat) (y:Int),i+c=x1.length->c<m->bN s.keyed y->Zi_L5 n x1 s m (y,(i:Int))=some (minS s.keyed y (x1.drop i)):=by
 intro c
 induction c with
 |zero=>
  intro i m y hi hm hy
  obtain⟨m,rfl⟩:∃m',m=m'+1:=⟨m-1,by omega⟩
  rw[Zi_L5_s,ite_nlt (by omega),TH (by omega)];rfl
 |succ c ih=>
  intro i m y hi hm hy
  obtain⟨m,rfl⟩:∃m',m=m'+1:=⟨m-1,by omega⟩
  have hlt:i<x1.length:=by omega
  have hok:=hal x1[i] (R7 _)
  rw[Zi_L5_s,ite_lt (by omega),Sq hlt,wS (by omega)]
  refine bs (ix hlt) ?_
  obtain⟨r,h1,h2⟩:=GR (n:=n) hn (s:=s) x1[i] y hok hy
  have e:r=ltS s.keyed x1[i] y:=by
   cases r with
   |true=>exact(rM.2 (h1.1 rfl)).symm
   |false=>
    cases h:ltS s.keyed x1[i] y with
    |true=>exact(h1.2 (rM.1 h)).symm▸rfl
    |false=>rfl
  refine(h2 (fun (b:Bool)=>bif b then (idxL x1 (i:Int)).bind fun (r8:Int)=>Zi_L5 n x1 s m (r8,((i+1:Nat):Int)) else Zi_L5 n x1 s m (y,((i+1:Nat):Int)))).trans ?_
  rw[e]
  show _=some (minS s.keyed (bif ltS s.keyed x1[i] y then x1[i] else y) (x1.drop (i+1)))
  cases ltS s.keyed x1[i] y
  ·exact ih (i+1) m y (by omega) (by omega) hy
  ·exact bs (ix hlt) (ih (i+1) m _ (by omega) (by omega) hok)
theorem min_eq {n:Nat} (hn:100<n) {s:graph_search} {a:Int} {l:List Int} (hl:(a::l).length<=40) (hal:Al (bN s.keyed) (a::l)):Zi n (a::l,(s,()))=some (minS s.keyed a l):=by
 have h1:¬((((a::l).length:Nat):Int)<1):=by rw[List.length_cons];omega
 have h2:=QN hn hl hal l.length 1 n a (by rw[List.length_cons];omega) (by rw[List.length_cons] at hl;omega) (hal a (RZ ..))
 refine(Zi_eq ..).trans ?_
 exact bF (dF h1) (bs (ix0 a l) (bs h2 rfl))
theorem rO (ks:List Int):∀(l:List Int) (a:Int),minS ks a l∈a::l
 | [],a=>Sz.2 rfl
 |x::l,a=>by
  have:=rO ks l (bif ltS ks x a then x else a)
  show minS ks (bif ltS ks x a then x else a) l∈a::x::l
  rcases Si.1 this with h|h
  ·rw[h];cases ltS ks x a<;>simp
  ·exact R5 _ (R5 _ h)
theorem GX (ks:List Int):∀(l:List Int) (a:Int),∀y∈a::l,¬cu ks y (minS ks a l)
 | [],a,y,hy=>by rw[Sz.1 hy];exact(lH ks).irr _
 |x::l,a,y,hy=>by
  have h1:=GX ks l (bif ltS ks x a then x else a)
  have h2:=h1 _ (RZ ..)
  show¬cu ks y (minS ks (bif ltS ks x a then x else a) l)
  rcases Si.1 hy with h|h
  ·subst h
   cases hc:ltS ks x y
   ·rw[hc] at h2;exact h2
   ·rw[hc] at h2
    exact(lH ks).neg _ _ _ ((lH ks).asym _ _ (rM.1 hc)) h2
  ·rcases Si.1 h with h|h
   ·subst h
    cases hc:ltS ks y a
    ·rw[hc] at h2
     exact(lH ks).neg y a _ (fun k=>by rw[rM.2 k] at hc;cases hc) h2
    ·rw[hc] at h2;exact h2
   ·exact h1 y (R5 _ h)
theorem QO {ks:List Int} {a:Int} {l o:List Int} (hp:o.Perm (a::l)) (hs:o.Pairwise fun x y=>¬cu ks y x):idxL o (0:Int)=some (minS ks a l):=by
 cases o with
 |nil=>have:=hp.length_eq;simp at this
 |cons b o=>
  rw[ix0]
  congr 1
  have h1:∀y∈b::o,¬cu ks y b:=fun y hy=>by
   rcases Si.1 hy with h|h
   ·rw[h];exact(lH ks).irr _
   ·exact(List.pairwise_cons.1 hs).1 y h
  exact GN (GX ks l a b (hp.mem_iff.1 (RZ ..))) (h1 _ (hp.mem_iff.2 (rO ks l a)))
end Sh
end
section
open Go Go.Proofs Aq Pq
namespace Sh
set_option maxRecDepth 100000
theorem QS {d:Nat} {loc:Aq.Loc} {s:Nat} {o:bJ} {σ:Sig}:jC d (some loc) σ (σ.setObj loc s o):=
 ⟨RQ _,fun _ _=>rfl,fun _ _=>rfl,fun L _ hn=>by
   have:L≠loc:=fun e=>hn (by rw[e])
   simp[Sig.setObj,upd,this]⟩
theorem QT (m:Int) (l:List (List Int)) (hs:List Hood) (ke:List Int):pclean (V.agg [iv m,lv (lv iv) l,lv Hood.v hs,lv iv ke])=true:=by
 simp[pclean,pcleanL,pclean_lv,pclean_lstr,pclean_liv,pclean_lint,pclean_lbool,iv,Hood.pc]
theorem QU (xs:List Int):pclean (lv iv xs)=true:=by simp[pclean,pcleanL,pclean_lv,pclean_lstr,pclean_liv,pclean_lint,pclean_lbool,iv]
theorem QV (σ:Sig) (xs:List Int) (m:Int) (l:List (List Int)) (hs:List Hood) (ke:List Int):Is (([]++[lv iv xs,V.fn (Fn.func 37) [V.agg [iv m,lv (lv iv) l,lv Hood.v hs,lv iv ke]] []]++[]).mapM (aA 20 σ)) (some [lv iv xs,V.fn (Fn.func 37) [V.agg [iv m,lv (lv iv) l,lv Hood.v hs,lv iv ke]] []]):=by
 show List.mapM (aA 20 σ) [lv iv xs,V.fn (Fn.func 37) [V.agg [iv m,lv (lv iv) l,lv Hood.v hs,lv iv ke]] []]=_
 have p2:=QT m l hs ke
 rw[R9,R9,dw (QU xs),uJ]
 simp[dw p2]
theorem QW {n:Nat} (hn:100<n) {m:Int} {l:List (List Int)} {hs:List Hood} {ke:List Int} (hh:∀h∈hs,h.Slots.length<=40/\Al (bN ke) h.Slots):
 ∀(nn:Nat) (c:Int) (L:List Int),walkG hs ke nn c=some L->IterO E false 57 [] [.cref [iv m,lv (lv iv) l,lv Hood.v hs,lv iv ke] 0] [iv c] (L.map fun x=>[iv x]):=by
 intro QX c0 L0 hw0 loc s d lp σ0 J D hloc hJ hD hr hlp hpre hj0
 have hP:E.P=Tryz.prog:=rfl
 have hld:loc.1<=d:=hloc loc rfl
 have loop:∀(nn:Nat) (c:Int) (L:List Int) (fr:Fr) (σ:Sig),walkG hs ke nn c=some L->fr.d=d+1->fr.tm 0=yv lp->fr.tm 1= .ref loc s 0->fr.tm 2= .cref [iv m,lv (lv iv) l,lv Hood.v hs,lv iv ke] 0->lp<σ.next->σ0.next<=σ.next->σ.aF loc s=some [iv c]->J (L.map fun x=>[iv x]) σ->
  CW E ((subO Tryz.f57.body [0]).getD .skip) fr σ (fun e fr' σ'=>σ0.next<=σ'.next/\((e= .exit 0/\D σ')\/(e= .ret/\J [] σ'))):=by
  intro nn
  induction nn with
  |zero=>intro c L fr σ h;cases h
  |succ nn ih=>
   intro c L fr σ h hd h0 h1 h2 hl hn0 hc hj
   have facts:∃(hd:Hood) (a:Int) (sl:List Int),hs[c.toNat]? =some hd/\hd.Slots=a::sl/\bN ke c/\((a::sl).length<2^62)/\((aM ke c<=aM ke (minS ke a sl)/\L=[c])\/(¬aM ke c<=aM ke (minS ke a sl)/\∃L',walkG hs ke nn (minS ke a sl)=some L'/\L=c::L')):=by
    unfold walkG at h
    cases e1:hs[c.toNat]? with
    |none=>rw[e1] at h;cases h
    |some hd=>
     rw[e1] at h
     dsimp only at h
     cases e2:hd.Slots with
     |nil=>rw[e2] at h;cases h
     |cons a sl=>
      rw[e2] at h
      dsimp only at h
      refine⟨hd,a,sl,rfl,e2,?_⟩
      cases e3:(inS ke.length c&& (a::sl).all (inS ke.length)&& decide ((a::sl).length<2^62))
      ·rw[e3] at h;cases h
      ·rw[e3,cond_true] at h
       rw[iP,iP,decide_eq_true_iff] at e3
       have hc1:bN ke c:=by
        have:=e3.1.1
        unfold inS at this
        rw[iP,decide_eq_true_iff,decide_eq_true_iff] at this
        exact this
       refine⟨hc1,e3.2,?_⟩
       change (bif decide (aM ke c<=aM ke (minS ke a sl)) then some [c] else (walkG hs ke nn (minS ke a sl)).map (c:: ·))=some L at h
       by_cases e4:aM ke c<=aM ke (minS ke a sl)
       ·rw[dT e4] at h;exact .inl ⟨e4,by cases h;rfl⟩
       ·rw[dF e4] at h
        obtain⟨L',h5,h6⟩:=RS.1 h
        exact .inr ⟨e4,L',h5,h6.symm⟩
   obtain⟨hd',a,sl,f1,f2,f3,f4,f5⟩:=facts
   obtain⟨xs,hL⟩:∃xs,L.map (fun x=>[iv x])=[iv c]::xs:=by
    rcases f5 with ⟨_,rfl⟩| ⟨_,L',_,rfl⟩
    ·exact⟨_,rfl⟩
    ·exact⟨_,rfl⟩
   rw[hL] at hj
   have hl3:∀v:V,ldT Tryz.prog 3 [v] 0=some v:=by intro v;kernel_rfl
   refine CW.loop (CW.seq (CW.seq (CW.region ?_)))
   refine OW.o1 (by rfl) (fun S=>by simp only[go_sem,Nat.reduceBEq,Nat.reduceAdd, *];with_reducible exact Is.rfl) ?_
   refine OW.o1 (v:=iv c) (by rfl) (fun S=>by simp only[opC,opV,go_sem,Nat.reduceBEq,Nat.reduceAdd,hP,Option.bind_some,Option.map_some,h1,qy,hc,hl3];exact Is.rfl) ?_
   have QY:jC d (some loc) σ (σ.bump 3):=(shift_bump (d:=d)).G
   have hj':J ([iv c]::xs) (σ.bump 3):=hJ _ _ _ hl hj QY
   have hl1:lp< (σ.bump 3).next:=by show lp<σ.next+3;omega
   obtain⟨b,σ1,hrnd,hn1,_,hown,hlo1,hb1,hb2⟩:=hr _ _ _ hl1 hj'
   have hc1:σ1.aF loc s=some [iv c]:=(hown loc rfl s).trans hc
   have hl2:lp<σ1.next:=R6 hl1 hn1
   have hn2:σ0.next<=σ1.next:=RV hn0 (RV (show σ.next<=σ.next+3 by omega) hn1)
   refine OW.yield (l:=lp) (b:=b) (σ1:=σ1) (by rfl) rfl rfl ?_ ?_ ?_
   ·simp only[go_sem,Nat.reduceBEq,Nat.reduceAdd, *]
   ·simp only[go_sem,Nat.reduceBEq,Nat.reduceAdd, *]
    exact hrnd
   refine OW.nil (SeqQ.n ?_)
   cases b with
   |false=>
    refine CW.condF (by simp only[go_sem,Nat.reduceBEq,Nat.reduceAdd, *];exact Is.rfl) ?_
    exact CW.exit (SeqQ.x (LoopQ.x ⟨hn2,.inl ⟨rfl,hb2 rfl⟩⟩))
   |true=>
    refine CW.condT (by simp only[go_sem,Nat.reduceBEq,Nat.reduceAdd, *];exact Is.rfl) ?_
    refine CW.skip (SeqQ.n ?_)
    have hj1:=hb1 rfl
    have q1:fieldT Tryz.prog 65 1=some (2,25):=by kernel_rfl
    have q2:fieldT Tryz.prog 25 0=some (0,23):=by kernel_rfl
    have q3:fieldT Tryz.prog 61 1=some (1,26):=by kernel_rfl
    have q4:fieldT Tryz.prog 65 2=some (3,26):=by kernel_rfl
    have q5:∀a b c d:V,ldT Tryz.prog 23 [a,b,c,d] 2=some c:=by intro a b c d;kernel_rfl
    have q6:∀a b c d:V,ldT Tryz.prog 65 [a,b,c,d] 0=some (.agg [a,b,c,d]):=by intro a b c d;kernel_rfl
    have q7:∀a b:V,ldT Tryz.prog 26 [a,b] 1=some b:=by intro a b;kernel_rfl
    have q8:∀a b c d:V,ldT Tryz.prog 26 [a,b,c,d] 3=some d:=by intro a b c d;kernel_rfl
    have k0:=f3.1
    have k1:=f3.2
    have vW:c.toNat<hs.length:=by
     rcases Nat.lt_or_ge c.toNat hs.length with k|k
     ·exact k
     ·rw[List.getElem?_eq_none k] at f1;cases f1
    have hget:hs[c.toNat]=hd':=by rw[SB vW] at f1;exact Sn f1
    have hix:idxL hs c=some hd':=by rw[ixI k0 (by omega),hget]
    have q9:indexAddrV Tryz.prog 23 (lv Hood.v hs) (iv c)=some (.cref hd'.c 0):=by
     rw[idx_lv,if_pos (by rfl)]
     have e1:elemT Tryz.prog 23=some 61:=by kernel_rfl
     have e2:szT Tryz.prog 61=some 2:=by kernel_rfl
     rw[e1];simp only[Option.bind_some,e2,hix]
     rfl
    have hmem:hd'∈hs:=hget▸R7 _
    have hh':=hh hd' hmem
    rw[f2] at hh'
    have hmin:=min_eq (n:=n) hn (s:=⟨⟨m,l⟩,⟨hs⟩,ke⟩) (a:=a) (l:=sl) hh'.1 hh'.2
    have hpure:Pure E 58 [lv iv (a::sl),.fn (.func 37) [.agg [iv m,lv (lv iv) l,lv Hood.v hs,lv iv ke]] []] (iv (minS ke a sl)):=Zi_ok n (a::sl,(⟨⟨m,l⟩,⟨hs⟩,ke⟩,())) (minS ke a sl) hmin
    refine CW.block (CW.seq (CW.C9 (fun _=>?_) (by kernel_rfl)))
    refine aI.o1 (v:=.cref [iv m,lv (lv iv) l,lv Hood.v hs,lv iv ke] 2) (by rfl) (fun S=>by simp only[opC,opV,go_sem,Nat.reduceBEq,Nat.reduceAdd,hP,Option.bind_some,Option.map_some,h2,q1];exact Is.rfl) (by simp only[go_sem,Nat.reduceBEq,Nat.reduceAdd,aL,aS,slotsT,slotsW,bG,rdF,wrF,aQ, *];with_reducible exact Is.rfl) ?_
    refine aI.o1 (v:=.cref [iv m,lv (lv iv) l,lv Hood.v hs,lv iv ke] 2) (by rfl) (fun S=>by simp only[opC,opV,go_sem,Nat.reduceBEq,Nat.reduceAdd,hP,Option.bind_some,Option.map_some,h2,q2];exact Is.rfl) (by simp only[go_sem,Nat.reduceBEq,Nat.reduceAdd,aL,aS,slotsT,slotsW,bG,rdF,wrF,aQ, *];with_reducible exact Is.rfl) ?_
    refine aI.o1 (v:=lv Hood.v hs) (by rfl) (fun S=>by simp only[opC,opV,go_sem,Nat.reduceBEq,Nat.reduceAdd,hP,Option.bind_some,Option.map_some,q5];exact Is.rfl) (by simp only[go_sem,Nat.reduceBEq,Nat.reduceAdd,aL,aS,slotsT,slotsW,bG,rdF,wrF,aQ, *];with_reducible exact Is.rfl) ?_
    refine aI.o1 (v:=iv c) (by rfl) (fun S=>by simp only[opC,opV,go_sem,Nat.reduceBEq,Nat.reduceAdd,hP,Option.bind_some,Option.map_some,h1,qy,hc1,hl3];exact Is.rfl) (by simp only[go_sem,Nat.reduceBEq,Nat.reduceAdd,aL,aS,slotsT,slotsW,bG,rdF,wrF,aQ, *];with_reducible exact Is.rfl) ?_
    refine aI.o1 (v:=.cref hd'.c 0) (by rfl) (fun S=>by simp only[opC,opV,go_sem,Nat.reduceBEq,Nat.reduceAdd,hP,Option.bind_some,Option.map_some,q9];exact Is.rfl) (by simp only[go_sem,Nat.reduceBEq,Nat.reduceAdd,aL,aS,slotsT,slotsW,bG,rdF,wrF,aQ, *];with_reducible exact Is.rfl) ?_
    refine aI.o1 (v:=.cref hd'.c 1) (by rfl) (fun S=>by simp only[opC,opV,go_sem,Nat.reduceBEq,Nat.reduceAdd,hP,Option.bind_some,Option.map_some,q3];exact Is.rfl) (by simp only[go_sem,Nat.reduceBEq,Nat.reduceAdd,aL,aS,slotsT,slotsW,bG,rdF,wrF,aQ, *];with_reducible exact Is.rfl) ?_
    refine aI.o1 (v:=lv iv (a::sl)) (by rfl) (fun S=>by simp only[opC,opV,go_sem,Nat.reduceBEq,Nat.reduceAdd,hP,Option.bind_some,Option.map_some,f2];rw[show hd'.c=[.int .i64 hd'.Radius,lv iv (a::sl)] from by rw[<-f2];rfl];exact Is.rfl) (by simp only[go_sem,Nat.reduceBEq,Nat.reduceAdd,aL,aS,slotsT,slotsW,bG,rdF,wrF,aQ, *];with_reducible exact Is.rfl) ?_
    refine aI.o1 (v:=.agg [iv m,lv (lv iv) l,lv Hood.v hs,lv iv ke]) (by rfl) (fun S=>by simp only[opC,opV,go_sem,Nat.reduceBEq,Nat.reduceAdd,hP,Option.bind_some,Option.map_some,h2,q6];exact Is.rfl) (by simp only[go_sem,Nat.reduceBEq,Nat.reduceAdd,aL,aS,slotsT,slotsW,bG,rdF,wrF,aQ, *];with_reducible exact Is.rfl) ?_
    refine aI.o1 (v:=.fn (.func 37) [.agg [iv m,lv (lv iv) l,lv Hood.v hs,lv iv ke]] []) (by rfl) (fun S=>by simp only[opC,opV,go_sem,Nat.reduceBEq,Nat.reduceAdd,hP,Option.bind_some,Option.map_some,h2];exact Is.rfl) (by simp only[go_sem,Nat.reduceBEq,Nat.reduceAdd,aL,aS,slotsT,slotsW,bG,rdF,wrF,aQ, *];with_reducible exact Is.rfl) ?_
    refine aI.callP hpure (by exact Is.rfl) (by simp only[go_sem,Nat.reduceBEq,Nat.reduceAdd, *];exact QV ..) (by rw[show flat (iv (minS ke a sl))=true from rfl,Bool.or_true];exact Is.rfl) (by rfl) (by simp only[go_sem,Nat.reduceBEq,Nat.reduceAdd,aL,aS,slotsT,slotsW,bG,rdF,wrF,aQ, *];with_reducible exact Is.rfl) ?_
    refine aI.o1 (v:=iv (minS ke a sl)) (by rfl) (fun S=>by simp only[opC,opV,go_sem,Nat.reduceBEq,Nat.reduceAdd,hP,Option.bind_some,Option.map_some,h2];exact Is.rfl) (by simp only[go_sem,Nat.reduceBEq,Nat.reduceAdd,aL,aS,slotsT,slotsW,bG,rdF,wrF,aQ, *];with_reducible exact Is.rfl) ?_
    refine aI.nil (by kernel_rfl) (NQ.i (SeqQ.n ?_))
    have QZ:bN ke (minS ke a sl):=hh'.2 _ (rO ke sl a)
    have GY:∀y,bN ke y->indexAddrV Tryz.prog 26 (lv iv ke) (iv y)=some (.cref [iv (aM ke y)] 0):=by
     intro y hy
     rw[idx_lv,if_pos (by rfl)]
     have e1:elemT Tryz.prog 26=some 3:=by kernel_rfl
     have e2:szT Tryz.prog 3=some 1:=by kernel_rfl
     rw[e1];simp only[Option.bind_some,e2,lI hy]
     rfl
    have i1:=GY _ QZ
    have i2:=GY _ f3
    refine CW.seq (CW.seq (CW.C9 (fun _=>?_) (by kernel_rfl)))
    refine aI.o1 (v:=.cref [iv m,lv (lv iv) l,lv Hood.v hs,lv iv ke] 3) (by rfl) (fun S=>by simp only[opC,opV,go_sem,Nat.reduceBEq,Nat.reduceAdd,hP,Option.bind_some,Option.map_some,h2,q4];exact Is.rfl) (by simp only[go_sem,Nat.reduceBEq,Nat.reduceAdd,aL,aS,slotsT,slotsW,bG,rdF,wrF,aQ, *];with_reducible exact Is.rfl) ?_
    refine aI.o1 (v:=lv iv ke) (by rfl) (fun S=>by simp only[opC,opV,go_sem,Nat.reduceBEq,Nat.reduceAdd,hP,Option.bind_some,Option.map_some,q8];exact Is.rfl) (by simp only[go_sem,Nat.reduceBEq,Nat.reduceAdd,aL,aS,slotsT,slotsW,bG,rdF,wrF,aQ, *];with_reducible exact Is.rfl) ?_
    refine aI.o1 (v:=iv (minS ke a sl)) (by rfl) (fun S=>by simp only[opC,opV,go_sem,Nat.reduceBEq,Nat.reduceAdd,hP,Option.bind_some,Option.map_some,h2];exact Is.rfl) (by simp only[go_sem,Nat.reduceBEq,Nat.reduceAdd,aL,aS,slotsT,slotsW,bG,rdF,wrF,aQ, *];with_reducible exact Is.rfl) ?_
    refine aI.o1 (v:=.cref [iv (aM ke (minS ke a sl))] 0) (by rfl) (fun S=>by simp only[opC,opV,go_sem,Nat.reduceBEq,Nat.reduceAdd,hP,Option.bind_some,Option.map_some,i1];exact Is.rfl) (by simp only[go_sem,Nat.reduceBEq,Nat.reduceAdd,aL,aS,slotsT,slotsW,bG,rdF,wrF,aQ, *];with_reducible exact Is.rfl) ?_
    refine aI.o1 (v:=iv (aM ke (minS ke a sl))) (by rfl) (fun S=>by simp only[opC,opV,go_sem,Nat.reduceBEq,Nat.reduceAdd,hP,Option.bind_some,Option.map_some,hl3];exact Is.rfl) (by simp only[go_sem,Nat.reduceBEq,Nat.reduceAdd,aL,aS,slotsT,slotsW,bG,rdF,wrF,aQ, *];with_reducible exact Is.rfl) ?_
    refine aI.o1 (v:=.cref [iv m,lv (lv iv) l,lv Hood.v hs,lv iv ke] 3) (by rfl) (fun S=>by simp only[opC,opV,go_sem,Nat.reduceBEq,Nat.reduceAdd,hP,Option.bind_some,Option.map_some,h2,q4];exact Is.rfl) (by simp only[go_sem,Nat.reduceBEq,Nat.reduceAdd,aL,aS,slotsT,slotsW,bG,rdF,wrF,aQ, *];with_reducible exact Is.rfl) ?_
    refine aI.o1 (v:=lv iv ke) (by rfl) (fun S=>by simp only[opC,opV,go_sem,Nat.reduceBEq,Nat.reduceAdd,hP,Option.bind_some,Option.map_some,q8];exact Is.rfl) (by simp only[go_sem,Nat.reduceBEq,Nat.reduceAdd,aL,aS,slotsT,slotsW,bG,rdF,wrF,aQ, *];with_reducible exact Is.rfl) ?_
    refine aI.o1 (v:=iv c) (by rfl) (fun S=>by simp only[opC,opV,go_sem,Nat.reduceBEq,Nat.reduceAdd,hP,Option.bind_some,Option.map_some,h1,qy,hc1,hl3];exact Is.rfl) (by simp only[go_sem,Nat.reduceBEq,Nat.reduceAdd,aL,aS,slotsT,slotsW,bG,rdF,wrF,aQ, *];with_reducible exact Is.rfl) ?_
    refine aI.o1 (v:=.cref [iv (aM ke c)] 0) (by rfl) (fun S=>by simp only[opC,opV,go_sem,Nat.reduceBEq,Nat.reduceAdd,hP,Option.bind_some,Option.map_some,i2];exact Is.rfl) (by simp only[go_sem,Nat.reduceBEq,Nat.reduceAdd,aL,aS,slotsT,slotsW,bG,rdF,wrF,aQ, *];with_reducible exact Is.rfl) ?_
    refine aI.o1 (v:=iv (aM ke c)) (by rfl) (fun S=>by simp only[opC,opV,go_sem,Nat.reduceBEq,Nat.reduceAdd,hP,Option.bind_some,Option.map_some,hl3];exact Is.rfl) (by simp only[go_sem,Nat.reduceBEq,Nat.reduceAdd,aL,aS,slotsT,slotsW,bG,rdF,wrF,aQ, *];with_reducible exact Is.rfl) ?_
    refine aI.o1 (v:=.bool (decide (aM ke c<=aM ke (minS ke a sl)))) (by rfl) (fun S=>by simp only[opC,opV,go_sem,Nat.reduceBEq,Nat.reduceAdd,hP,Option.bind_some,Option.map_some];exact Is.rfl) (by simp only[go_sem,Nat.reduceBEq,Nat.reduceAdd,aL,aS,slotsT,slotsW,bG,rdF,wrF,aQ, *];with_reducible exact Is.rfl) ?_
    refine aI.nil (by kernel_rfl) (NQ.i (SeqQ.n ?_))
    rcases f5 with ⟨g1,rfl⟩| ⟨g1,L',g2,rfl⟩
    ·have hxs:xs=[]:=by cases hL;rfl
     subst hxs
     refine CW.condT (by simp only[go_sem,Nat.reduceBEq,Nat.reduceAdd,dT g1];exact Is.rfl) ?_
     refine CW.ret (SeqQ.r (BlkQ.r (LoopQ.r ⟨?_,.inr ⟨rfl,?_⟩⟩)))
     ·exact RV hn2 (RV (Sm _ _) (Sm _ _))
     ·exact hJ _ _ _ hl2 hj1 ((shift_bump (d:=d)).trans shift_bump).G
    ·have hxs:xs=L'.map (fun x=>[iv x]):=by cases hL;rfl
     subst hxs
     refine CW.condF (by simp only[go_sem,Nat.reduceBEq,Nat.reduceAdd,dF g1];exact Is.rfl) ?_
     refine CW.skip (SeqQ.n (CW.region ?_))
     refine OW.o1 (by rfl) (fun S=>by simp only[go_sem,Nat.reduceBEq,Nat.reduceAdd, *];with_reducible exact Is.rfl) ?_
     refine OW.o0 (by rfl) (fun S=>by simp only[opC,opV,go_sem,Nat.reduceBEq,Nat.reduceAdd,hP,Option.bind_some,Option.map_some,h1,qy,hc1];exact Is.rfl) ?_
     refine OW.nil (BlkQ.n (LoopQ.n (ih (minS ke a sl) L' _ _ g2 ?_ ?_ ?_ ?_ ?_ ?_ ?_ ?_)))
     ·simp only[go_sem,Nat.reduceBEq,Nat.reduceAdd,hd]
     ·simp only[go_sem,Nat.reduceBEq,Nat.reduceAdd,h0]
     ·simp only[go_sem,Nat.reduceBEq,Nat.reduceAdd,h1]
     ·simp only[go_sem,Nat.reduceBEq,Nat.reduceAdd,h2]
     ·exact R6 hl2 (RV (Sm _ _) (RV (Sm _ _) (Sm _ _)))
     ·exact RV hn2 (RV (Sm _ _) (RV (Sm _ _) (Sm _ _)))
     ·exact cells_eq ..
     ·exact hJ _ _ _ hl2 hj1 ((((shift_bump (d:=d)).trans shift_bump).trans shift_bump).G.trans QS)
 refine Imp.of (fn:=Tryz.f57) (c:=Tryz.f57.body.getD .skip) Tryz.func57 rfl (by kernel_rfl) ?_
 generalize hfr:({d:=d+1,om:=E.om 57,tm:=fun i=>([]++[.fn (.yield lp) [] []]++[.ref loc s 0,.cref [iv m,lv (lv iv) l,lv Hood.v hs,lv iv ke] 0]:List V).getD i undefV}:Fr)=fr
 have hd:fr.d=d+1:=by rw[<-hfr]
 have h0:fr.tm 0=yv lp:=by rw[<-hfr];rfl
 have h1:fr.tm 1= .ref loc s 0:=by rw[<-hfr];rfl
 have h2:fr.tm 2= .cref [iv m,lv (lv iv) l,lv Hood.v hs,lv iv ke] 0:=by rw[<-hfr];rfl
 clear hfr
 refine CW.block ?_
 refine(loop QX c0 L0 fr σ0 hw0 hd h0 h1 h2 hlp (RQ _) hpre hj0).mono ?_
 rintro e fr' σ' ⟨k0,⟨rfl,k1⟩| ⟨rfl,k1⟩⟩
 ·exact BlkQ.hit ⟨[],rfl,k0,.inr k1⟩
 ·exact BlkQ.r ⟨[],rfl,k0,.inl k1⟩
end Sh
end
section
open Go Go.Proofs Aq Pq
namespace Sh
set_option maxRecDepth 100000
def dU (m:Int) (l:List (List Int)) (hs:List Hood) (v:List Int) (c:Int):Bool:=
 ((mtB m&& fitB l)&& validB ((l.length:Nat):Int) hs)&& (alikeB (l.headD []) v&& (decide (0<=c)&& decide (c< ((l.length:Nat):Int))))
theorem GZ {k:Int}:∀{l:List Int} {p:Option Int},slB k p l=true->∀x∈l,0<=x/\x<k
 | [],_,_,x,hx=>by cases hx
 |y::l,p,h,x,hx=>by
  unfold slB at h
  rw[iP,iP,SF,SA,decide_eq_false_iff_not,decide_eq_false_iff_not] at h
  rcases Si.1 hx with e|e
  ·subst e;omega
  ·exact GZ h.2 x e
theorem G5 {k:Int}:∀{hs:List Hood} {j:Nat},hoodsB k j hs=true->∀(i:Nat) (hi:i<hs.length),hoodB k (j+i) hs[i]=true
 | [],_,_,i,hi=>by cases hi
 |h::hs,j,hb,i,hi=>by
  unfold hoodsB at hb
  rw[iP] at hb
  cases i with
  |zero=>exact hb.1
  |succ i=>
   have:=G5 hb.2 i (by simpa using hi)
   rw[show j+1+i=j+(i+1) by omega] at this
   exact this
structure lJ (m:Int) (l:List (List Int)) (hs:List Hood) (v:List Int):Prop where
 m3:M3 m
 ok:LOK l v
 len:hs.length=l.length
 few:FewG hs
 slot:∀(i:Nat) (hi:i<hs.length),(i:Int)∈hs[i].Slots/\Al (bN (keysS m l v)) hs[i].Slots/\0<=hs[i].Radius/\hs[i].Radius<=134217728
theorem oO {m:Int} {l:List (List Int)} {hs:List Hood} {v:List Int} {c:Int} (hf:FewL l) (hg:FewG hs) (h:dU m l hs v c=true):lJ m l hs v/\bN (keysS m l v) c:=by
 unfold dU at h
 rw[iP,iP,iP,iP,iP,decide_eq_true_iff,decide_eq_true_iff] at h
 obtain⟨⟨⟨hm,hfit⟩,hv⟩,hal,hc0,hc1⟩:=h
 have hlen:=valid_len hv
 have Q0:LOK l v:=by
  cases l with
  |nil=>unfold fitB at hfit;cases hfit
  |cons a l'=>
   have hal':alikeB a v=true:=hal
   unfold alikeB at hal'
   rw[iP,iP,vokB_iff,vokB_iff,decide_eq_true_iff] at hal'
   have h0:=fit_iff hfit hf (RZ (a:=a) (l:=l'))
   exact⟨h0.1,hal'.2.2,fun x hx=>⟨(h0.2.2 x hx).1,(h0.2.2 x hx).2.trans hal'.1⟩⟩
 refine⟨⟨mtB_iff.1 hm,Q0,by omega,hg,fun i hi=>?_⟩,hc0,by rw[keysS_len];omega⟩
 unfold validB at hv
 rw[iP] at hv
 have hb:=G5 hv.2 i hi
 rw[SE] at hb
 unfold hoodB at hb
 rw[iP,iP,SF,SA,decide_eq_false_iff_not,decide_eq_false_iff_not,decide_eq_true_iff] at hb
 refine⟨hb.1.2,fun x hx=>?_,by omega,by omega⟩
 have:=GZ hb.2 x hx
 exact⟨this.1,by rw[keysS_len];exact this.2⟩
theorem Q5 (a b:Int):decide (a<b)= !decide (b<=a):=by
 by_cases h:b<=a
 ·rw[dT h,dF (by omega)];rfl
 ·rw[dF h,dT (by omega)];rfl
theorem Q6 (a b:Int):decide (a>=b)= !decide (a<b):=by
 by_cases h:a<b
 ·rw[dT h,dF (by omega)];rfl
 ·rw[dF h,dT (by omega)];rfl
theorem z8 {n:Nat} {m:Int} {l:List (List Int)} {g:Graph} {v:List Int} {c:Int} (hn:400<n) (hf:FewL l) (hg:FewG g.Hoods) (hv:v.length<=40):
 ZY n (m,(l,(g,(v,c))))=some (⟨⟨m,l⟩,g,bif dU m l g.Hoods v c then keysS m l v else []⟩,dU m l g.Hoods v c):=by
 refine(ZY_eq ..).trans ?_
 refine bs (right_eq (by omega) hf) ?_
 have e0:(whenO (!(!(mtB m&& fitB l))) (Ze n (((l.length:Nat):Int),g)) false)=some ((mtB m&& fitB l)&& validB ((l.length:Nat):Int) g.Hoods):=by
  rw[gvalid_eq (by omega) hg];cases (mtB m&& fitB l)<;>rfl
 refine bs e0 ?_
 cases hr:((mtB m&& fitB l)&& validB ((l.length:Nat):Int) g.Hoods)
 ·have ha:dU m l g.Hoods v c=false:=by unfold dU;rw[hr];rfl
  rw[ha]
  cases hr2:(mtB m&& fitB l)
  ·exact bs (a:=[]) rfl (bs (a:=false) rfl rfl)
  ·exact bs (a:=[]) rfl (bs (a:=false) rfl rfl)
 ·have hr2:(mtB m&& fitB l)=true:=by rw[iP] at hr;exact hr.1
  rw[hr2]
  cases l with
  |nil=>unfold fitB at hr2;simp at hr2
  |cons a l'=>
   refine bs (ix0 a l') ?_
   refine bs (valike_eq (by omega) (hf.2 a (RZ ..)) hv) ?_
   have ha:dU m (a::l') g.Hoods v c=(alikeB a v&& (decide (0<=c)&& decide (c< (((a::l').length:Nat):Int)))):=by
    unfold dU;rw[hr,Bool.true_and];rfl
   have e1:(bif bif bif bif bif !true then true else !true then true else !alikeB a v then true else decide (c<0) then true else decide (c>=(((a::l').length:Nat):Int)) then some ((⟨⟨m,a::l'⟩,g,[]⟩:graph_search),false) else (Zm n (⟨m,a::l'⟩,v)).bind fun (r10:List Int)=>some ((⟨⟨m,a::l'⟩,g,r10⟩:graph_search),true))=some (⟨⟨m,a::l'⟩,g,bif dU m (a::l') g.Hoods v c then keysS m (a::l') v else []⟩,dU m (a::l') g.Hoods v c):=by
    rw[show (bif bif bif bif bif !true then true else !true then true else !alikeB a v then true else decide (c<0) then true else decide (c>=(((a::l').length:Nat):Int)) then some ((⟨⟨m,a::l'⟩,g,[]⟩:graph_search),false) else (Zm n (⟨m,a::l'⟩,v)).bind fun (r10:List Int)=>some ((⟨⟨m,a::l'⟩,g,r10⟩:graph_search),true))=bif (!dU m (a::l') g.Hoods v c) then some ((⟨⟨m,a::l'⟩,g,[]⟩:graph_search),false) else (Zm n (⟨m,a::l'⟩,v)).bind fun (r10:List Int)=>some ((⟨⟨m,a::l'⟩,g,r10⟩:graph_search),true) from by
     rw[ha]
     congr 1
     rw[cT,cT,cT,Q5 c 0,Q6 c (((a::l').length:Nat):Int)]
     cases alikeB a v<;>cases decide (0<=c)<;>cases decide (c< (((a::l').length:Nat):Int))<;>rfl]
    cases hk:dU m (a::l') g.Hoods v c
    ·rfl
    ·have:=oO hf hg hk
     exact bs (keys_eq (by omega) this.1.m3 this.1.ok) rfl
   exact e1
theorem Q7 {n:Nat} {m:Int} {l:List (List Int)} {g:Graph} {v:List Int} {c:Int} (hn:400<n) (hf:FewL l) (hg:FewG g.Hoods) (hv:v.length<=40):Xp n (m,(l,(g,(v,c))))=some (dU m l g.Hoods v c):=by
 refine(Xp_eq ..).trans ?_
 refine bs (rright_eq hn hf hg) ?_
 unfold dU
 cases hr:((mtB m&& fitB l)&& validB ((l.length:Nat):Int) g.Hoods)
 ·exact bs (a:=[]) rfl (bs (a:=false) rfl rfl)
 ·have hr2:(mtB m&& fitB l)=true:=by rw[iP] at hr;exact hr.1
  cases l with
  |nil=>unfold fitB at hr2;simp at hr2
  |cons a l'=>
   refine bs (ix0 a l') ?_
   refine bs (ralike_eq (by omega) (hf.2 a (RZ ..)) hv) ?_
   show some (bif bif bif true then alikeB a v else false then decide (c>=0) else false then decide (c< (((a::l').length:Nat):Int)) else false)=some (true&& (alikeB a v&& (decide (0<=c)&& decide (c< (((a::l').length:Nat):Int)))))
   rw[cF,cF,cF,Bool.true_and,Bool.true_and,Bool.and_assoc]
theorem cnt_lt {ks:List Int} {x y:Int} (h:x<y) (hx:x∈ks):ks.countP (fun k=>decide (k<x))<ks.countP (fun k=>decide (k<y)):=by
 induction ks with
 |nil=>cases hx
 |cons k ks ih=>
  rw[List.countP_cons,List.countP_cons]
  have mono:ks.countP (fun k=>decide (k<x))<=ks.countP (fun k=>decide (k<y)):=List.countP_mono_left fun z _ hz=>by rw[decide_eq_true_iff] at hz⊢;omega
  rcases Si.1 hx with e|e
  ·subst e
   rw[dF (Int.lt_irrefl x),dT h]
   simp only[if_true,RU,if_false];omega
  ·have:=ih e
   by_cases c1:k<x
   ·rw[dT c1,dT (show k<y by omega)];simp only[if_true];omega
   ·rw[dF c1]
    simp only[RU,if_false];omega
theorem vC {ks:List Int} {x:Int} (h:bN ks x):aM ks x∈ks:=by
 have h0:=h.1;have h1:=h.2
 unfold aM
 rw[SK,SB (by omega)]
 exact R7 _
theorem Q8 {m:Int} {l:List (List Int)} {hs:List Hood} {v:List Int} (h:lJ m l hs v):∀(nn:Nat) (c:Int),bN (keysS m l v) c->(keysS m l v).countP (fun k=>decide (k<aM (keysS m l v) c))<nn->∃L,walkG hs (keysS m l v) nn c=some L/\L.length<=nn/\(∃L',L=c::L')/\∀x∈L,bN (keysS m l v) x:=by
 intro nn
 induction nn with
 |zero=>intro c _ hc;omega
 |succ nn ih=>
  intro c hc hcnt
  have h0:=hc.1;have h1:=hc.2
  have hkl:=keysS_len m l v
  have hlt:c.toNat<hs.length:=by have:=h.len;omega
  obtain⟨s1,s2,_,_⟩:=h.slot c.toNat hlt
  have Q9:=h.few.2 _ (R7 hlt)
  have RP:=h.ok.1
  unfold walkG
  rw[SB hlt]
  dsimp only
  cases hsl:hs[c.toNat].Slots with
  |nil=>rw[hsl] at s1;cases s1
  |cons a sl=>
   rw[hsl] at s2 Q9
   dsimp only
   have e3:(inS (keysS m l v).length c&& (a::sl).all (inS (keysS m l v).length)&& decide ((a::sl).length<2^62))=true:=by
    have i1:∀x,bN (keysS m l v) x->inS (keysS m l v).length x=true:=fun x hx=>by unfold inS;rw[dT hx.1,dT hx.2];rfl
    rw[i1 c hc,Sl.2 fun x hx=>i1 x (s2 x hx),dT (by omega)];rfl
   rw[e3,cond_true]
   have hm:=s2 _ (rO (keysS m l v) sl a)
   change∃L,(bif decide (aM (keysS m l v) c<=aM (keysS m l v) (minS (keysS m l v) a sl)) then some [c] else (walkG hs (keysS m l v) nn (minS (keysS m l v) a sl)).map (c:: ·))=some L/\_
   by_cases hle:aM (keysS m l v) c<=aM (keysS m l v) (minS (keysS m l v) a sl)
   ·rw[dT hle]
    exact⟨[c],rfl,by simp,⟨[],rfl⟩,fun x hx=>by rw[Sz.1 hx];exact hc⟩
   ·rw[dF hle]
    have:=cnt_lt (ks:=keysS m l v) (show aM (keysS m l v) (minS (keysS m l v) a sl)<aM (keysS m l v) c by omega) (vC hm)
    obtain⟨L,w1,w2,w3,w4⟩:=ih _ hm (by omega)
    refine⟨c::L,by rw[w1];rfl,by rw[List.length_cons];omega,⟨L,rfl⟩,fun x hx=>?_⟩
    rcases Si.1 hx with e|e
    ·rw[e];exact hc
    ·exact w4 x e
theorem Aa {m:Int} {l:List (List Int)} {hs:List Hood} {v:List Int} (h:lJ m l hs v) {c:Int} (hc:bN (keysS m l v) c):∃L,walkG hs (keysS m l v) (hs.length+1) c=some L/\L.length<=40/\(∃L',L=c::L')/\∀x∈L,bN (keysS m l v) x:=by
 have h1:(keysS m l v).countP (fun k=>decide (k<aM (keysS m l v) c))<=(keysS m l v).length:=List.countP_le_length
 have h2:=keysS_len m l v
 have h3:=h.len
 have h4:=h.few.1
 obtain⟨L,w1,w2,w3,w4⟩:=Q8 h (hs.length+1) c hc (by omega)
 exact⟨L,w1,by omega,w3,w4⟩
end Sh
end
section
open Go Go.Proofs Aq Pq
namespace Sh
set_option maxRecDepth 100000
theorem Ab {m:Int} {l:List (List Int)} {g:Graph} {v:List Int} (h:lJ m l g.Hoods v) {c:Int} {L:List Int} (hw:walkG g.Hoods (keysS m l v) (g.Hoods.length+1) c=some L):walkR (m,(l,(g.Hoods,keysS m l v))) c=some L:=by
 refine walkR_of (b:=(m,(l,(g.Hoods,keysS m l v)))) (c:=c) hw ?_
 have:=QW (n:=101) (by decide) (m:=m) (l:=l) (hs:=g.Hoods) (ke:=keysS m l v) (fun hd hh=>by
  obtain⟨i,hi,rfl⟩:=List.getElem_of_mem hh
  exact⟨h.few.2 _ hh,(h.slot i hi).2.1⟩) _ _ _ hw
 exact this
theorem G6 {n:Nat}:∀(xs o:List Int),xs.length+o.length<=100->Zn_R3 n xs ((),((),o))=some ((),((),o++xs))
 | [],o,_=>by rw[Zn_R3_0,SI]
 |x::xs,o,ho=>by
  rw[List.length_cons] at ho
  rw[Zn_R3_s,room (by simp only[List.length_singleton];omega) (by simp only[List.length_singleton];omega),cond_true,G6 xs _ (by rw[R8];simp only[List.length_singleton];omega),Sv]
  rfl
theorem Ra {n:Nat} {m:Int} {l:List (List Int)} {g:Graph} {v:List Int} {c:Int} (hn:400<n) (hf:FewL l) (hg:FewG g.Hoods) (hv:v.length<=40):
 (dU m l g.Hoods v c=false->ZW n (m,(l,(g,(v,c))))=some ([],(1:Int)))/\(dU m l g.Hoods v c=true->∀L,walkG g.Hoods (keysS m l v) (g.Hoods.length+1) c=some L->L.length<=40->ZW n (m,(l,(g,(v,c))))=some (L,(0:Int))):=by
 have hb:=z8 (n:=n) (m:=m) (l:=l) (g:=g) (v:=v) (c:=c) hn hf hg hv
 constructor
 ·intro ha
  rw[ha] at hb
  exact(ZW_eq ..).trans (bs hb rfl)
 ·intro ha L hL hlen
  rw[ha] at hb
  have hA:=oO hf hg ha
  refine(ZW_eq ..).trans (bs hb ?_)
  refine bs (ZQ_eq ..) ?_
  have e1:Zn n ((),((),((),(m,(l,(g.Hoods,keysS m l v)))))) c=some (L,()):=by
   refine(Zn_eq ..).trans ?_
   exact bs (bs (Ab hA.1 hL) (G6 L [] (by simp;omega))) rfl
  have e2:Xb n ((),((),(m,(l,(g.Hoods,keysS m l v))))) c=some (L,()):=(Xb_eq ..).trans (bs e1 rfl)
  exact bs e2 rfl
theorem oP {n:Nat} {m:Int} {l:List (List Int)} {v:List Int} (hn:100<n) (hm:M3 m) (h:LOK l v) {x:Int} (hx:bN (keysS m l v) x):∃y:List Int,idxL l x=some y/\ZG n (m,(y,v))=some (aM (keysS m l v) x):=by
 have hx0:=hx.1
 have hx1:=hx.2
 rw[keysS_len] at hx1
 have hy:=h.2.2 (l[x.toNat]'(by omega)) (R7 _)
 refine⟨_,ixI hx0 hx1,(rkey_eq hn hm hy.1 h.2.1 hy.2).trans ?_⟩
 congr 1
 unfold aM
 rw[SK,SB (by rw[keysS_len];omega)]
 unfold keysS
 simp
theorem Ac {m:Int} {l:List (List Int)} {hs:List Hood} {v:List Int} (h:lJ m l hs v) {x:Int} (hx:bN (keysS m l v) x):∃(hd:Hood) (a:Int) (sl:List Int),hs[x.toNat]? =some hd/\idxL hs x=some hd/\hd.Slots=a::sl/\Al (bN (keysS m l v)) (a::sl)/\(a::sl).length<=40/\0<=hd.Radius/\hd.Radius<=134217728:=by
 have hx0:=hx.1
 have hx1:=hx.2
 rw[keysS_len] at hx1
 have hlen:=h.len
 have hlt:x.toNat<hs.length:=by omega
 obtain⟨s1,s2,s3,s4⟩:=h.slot x.toNat hlt
 have s5:=h.few.2 _ (R7 hlt)
 cases hsl:hs[x.toNat].Slots with
 |nil=>rw[hsl] at s1;cases s1
 |cons a sl=>
  rw[hsl] at s2 s5
  exact⟨hs[x.toNat],a,sl,SB hlt,ixI hx0 (by omega),hsl,s2,s5,s3,s4⟩
theorem Rb {n:Nat} {m:Int} {l:List (List Int)} {g:Graph} {v:List Int} (hn:400<n) (h:lJ m l g.Hoods v):∀(nn:Nat) (c:Int) (L pre:List Int) (mm:Nat) (x8:ref27_Slots),walkG g.Hoods (keysS m l v) nn c=some L->bN (keysS m l v) c->L.length<=mm->pre.length+L.length<=100->Zl_L5 n m l g v (mm+1) (pre++[c],x8)=some ((),⟨pre++L,0,false,0⟩):=by
 intro nn
 induction nn with
 |zero=>intro c L pre mm x8 hw;cases hw
 |succ nn ih=>
  intro c L pre mm x8 hw hc hmm hlen
  obtain⟨hd,a,sl,f1,f2,f3,f4,f5,f6,f7⟩:=Ac h hc
  obtain⟨o,o1,_,o3,o4⟩:=GV (n:=n) (g:=g) hn h.m3 h.ok (s:=a::sl) (by simp) f5 f4
  have hhead:=QO o3 o4
  have hmn:=f4 _ (rO (keysS m l v) sl a)
  obtain⟨y1,y2,y3⟩:=oP (n:=n) (by omega) h.m3 h.ok hmn
  obtain⟨z1,z2,z3⟩:=oP (n:=n) (by omega) h.m3 h.ok hc
  have elast:idxL (pre++[c]) (IntKind.wrap .i64 ((((pre++[c]).length:Nat):Int)-1))=some c:=by
   have hl2:(pre++[c]).length=pre.length+1:=by rw[R8];rfl
   have hL1:pre.length<=100:=by omega
   rw[hl2,wr (by omega) (by omega),show ((pre.length+1:Nat):Int)-1=((pre.length:Nat):Int) by omega,ix (by omega)]
   simp
  rw[Zl_L5_s]
  refine bs elast ?_
  refine bs f2 ?_
  rw[f3]
  refine bs o1 ?_
  refine bs hhead ?_
  refine bs y2 (bs y3 ?_)
  refine bs z2 (bs z3 ?_)
  unfold walkG at hw
  rw[f1] at hw
  dsimp only at hw
  rw[f3] at hw
  dsimp only at hw
  cases e3:(inS (keysS m l v).length c&& (a::sl).all (inS (keysS m l v).length)&& decide ((a::sl).length<2^62))
  ·rw[e3] at hw;cases hw
  ·rw[e3,cond_true] at hw
   change (bif decide (aM (keysS m l v) c<=aM (keysS m l v) (minS (keysS m l v) a sl)) then some [c] else (walkG g.Hoods (keysS m l v) nn (minS (keysS m l v) a sl)).map (c:: ·))=some L at hw
   by_cases hle:aM (keysS m l v) c<=aM (keysS m l v) (minS (keysS m l v) a sl)
   ·rw[dT hle] at hw
    rw[dT (show aM (keysS m l v) (minS (keysS m l v) a sl)>=aM (keysS m l v) c from hle)]
    cases hw;rfl
   ·rw[dF hle] at hw
    rw[dF (show¬aM (keysS m l v) (minS (keysS m l v) a sl)>=aM (keysS m l v) c from hle)]
    obtain⟨L',g1,rfl⟩:=RS.1 hw
    rw[List.length_cons] at hmm hlen
    obtain⟨mm,rfl⟩:∃m',mm=m'+1:=⟨mm-1,by omega⟩
    refine bs hhead ?_
    have hl2:(pre++[c]).length=pre.length+1:=by rw[R8];rfl
    rw[room (by simp only[List.length_singleton];omega) (by simp only[List.length_singleton];omega),cond_true]
    have:=ih (minS (keysS m l v) a sl) L' (pre++[c]) mm x8 g1 hmn (by omega) (by omega)
    refine this.trans ?_
    rw[Sv];rfl
theorem Ad {n:Nat} {m:Int} {l:List (List Int)} {g:Graph} {v:List Int} {c:Int} (hn:400<n) (hf:FewL l) (hg:FewG g.Hoods) (hv:v.length<=40):
 (dU m l g.Hoods v c=false->Zl n (m,(l,(g,(v,c))))=some ⟨[],0,false,1⟩)/\(dU m l g.Hoods v c=true->∀L,walkG g.Hoods (keysS m l v) (g.Hoods.length+1) c=some L->L.length<=40->Zl n (m,(l,(g,(v,c))))=some ⟨L,0,false,0⟩):=by
 have hb:=Q7 (n:=n) (m:=m) (l:=l) (g:=g) (v:=v) (c:=c) hn hf hg hv
 constructor
 ·intro ha
  rw[ha] at hb
  exact(Zl_eq ..).trans (bs hb rfl)
 ·intro ha L hL hlen
  rw[ha] at hb
  have hA:=oO hf hg ha
  refine(Zl_eq ..).trans (bs hb ?_)
  obtain⟨n',rfl⟩:∃n',n=n'+1:=⟨n-1,by omega⟩
  exact bs (Rb (n:=n'+1) hn hA.1 _ c L [] n' _ hL hA.2 (by omega) (by simp;omega)) rfl
end Sh
end
section
open Go Go.Proofs Aq Pq
namespace Sh
set_option maxRecDepth 100000
def dY (ks:List Int) (t x:Int):Bool:=decide (aM ks x<=t)
theorem G7 {n:Nat} {s:graph_search} {t x:Int} (hx:bN s.keyed x):Xf n (x,((s.space.m,(s.space.l,(s.g.Hoods,s.keyed))),t))=some (!dY s.keyed t x):=by
 refine(Xf_eq ..).trans (bs (lI hx) ?_)
 unfold dY
 congr 1
 by_cases h:aM s.keyed x<=t
 ·rw[dT h,dF (by omega)];rfl
 ·rw[dF h,dT (by omega)];rfl
theorem Rc {n:Nat} (hn:100<n) {s:graph_search} {t:Int} {sl:List Int} (hl:sl.length<=40) (hal:Al (bN s.keyed) sl):∃r:PUnit⊕Int,Zt_L2 n sl s.space.m s.space.l s.g.Hoods s.keyed t n (0:Int)=some r/\
 ((r= .inl ()/\sl.filter (dY s.keyed t)=sl)\/∃i:Nat,r= .inr (i:Int)/\∃hi:i<sl.length,(sl.take (i+1)).filter (dY s.keyed t)=sl.take i):=by
 have key:∀c (i m:Nat),i+c=sl.length->c<m->(sl.take i).filter (dY s.keyed t)=sl.take i->∃r:PUnit⊕Int,Zt_L2 n sl s.space.m s.space.l s.g.Hoods s.keyed t m (i:Int)=some r/\
  ((r= .inl ()/\sl.filter (dY s.keyed t)=sl)\/∃i:Nat,r= .inr (i:Int)/\∃hi:i<sl.length,(sl.take (i+1)).filter (dY s.keyed t)=sl.take i):=by
  intro c
  induction c with
  |zero=>
   intro i m hi hm hp
   obtain⟨m,rfl⟩:∃m',m=m'+1:=⟨m-1,by omega⟩
   rw[Zt_L2_s,ite_nlt (by omega)]
   refine⟨_,rfl,.inl ⟨rfl,?_⟩⟩
   rw[SX (by omega)] at hp
   exact hp
  |succ c ih=>
   intro i m hi hm hp
   obtain⟨m,rfl⟩:∃m',m=m'+1:=⟨m-1,by omega⟩
   have hlt:i<sl.length:=by omega
   have hx:=hal sl[i] (R7 _)
   have htk:sl.take (i+1)=sl.take i++[sl[i]]:=List.take_succ_eq_append_getElem hlt
   rw[Zt_L2_s,ite_lt (by omega),wS (by omega)]
   refine tE (ix hlt) (tE (G7 hx) ?_)
   cases hb:dY s.keyed t sl[i]
   ·refine⟨_,rfl,.inr ⟨i,rfl,hlt,?_⟩⟩
    rw[htk,TM,hp,List.filter_cons_of_neg (by rw[hb];decide)]
    simp
   ·refine ih (i+1) m (by omega) (by omega) ?_
    rw[htk,TM,hp,List.filter_cons_of_pos hb]
    rfl
 exact key sl.length 0 n (by omega) (by omega) rfl
theorem Rf {n:Nat} {s:graph_search} {t:Int} {sl:List Int} (hl:sl.length<=40) (hal:Al (bN s.keyed) sl):∀c (r w m:Nat) (D:List Int),r+c=sl.length->c<m->w<=r->D.length=sl.length->D.take w=(sl.take r).filter (dY s.keyed t)->D.drop r=sl.drop r->
 ∃(w':Nat) (D':List Int),Zd_L5 n s t m (((w:Int),(r:Int)),D)=some ((w':Int),D')/\w'<=sl.length/\D'.length=sl.length/\D'.take w'=sl.filter (dY s.keyed t):=by
 intro c
 induction c with
 |zero=>
  intro r w m D hr hm hw hD h1 h2
  obtain⟨m,rfl⟩:∃m',m=m'+1:=⟨m-1,by omega⟩
  rw[Zd_L5_s,ite_nlt (by omega)]
  refine⟨w,D,rfl,by omega,hD,?_⟩
  rw[h1,SX (by omega)]
 |succ c ih=>
  intro r w m D hr hm hw hD h1 h2
  obtain⟨m,rfl⟩:∃m',m=m'+1:=⟨m-1,by omega⟩
  have hlt:r<sl.length:=by omega
  have Ae:r<D.length:=by omega
  have hget:D[r]=sl[r]:=by
   have a1:=Sq Ae
   have a2:=Sq hlt
   rw[h2,a2] at a1
   exact(List.cons.inj a1).1.symm
  have hd1:D.drop (r+1)=sl.drop (r+1):=by
   have a1:=Sq Ae
   have a2:=Sq hlt
   rw[h2,a2] at a1
   exact(List.cons.inj a1).2.symm
  have hx:=hal sl[r] (R7 _)
  have htk:sl.take (r+1)=sl.take r++[sl[r]]:=List.take_succ_eq_append_getElem hlt
  have e1:idxL D (r:Int)=some sl[r]:=by rw[ix Ae,hget]
  have e:Zd_L5 n s t (m+1) (((w:Int),(r:Int)),D)=bif dY s.keyed t sl[r] then Zd_L5 n s t m ((((w+1:Nat):Int),((r+1:Nat):Int)),D.set w sl[r]) else Zd_L5 n s t m (((w:Int),((r+1:Nat):Int)),D):=by
   refine(Zd_L5_s ..).trans ?_
   rw[ite_lt (by omega),dT ⟨by omega,by omega⟩,cond_true,wS (i:=r) (by omega)]
   refine bs e1 (bs (G7 hx) ?_)
   cases hb:dY s.keyed t sl[r]
   ·rfl
   ·rw[show (!!true)=true from rfl,cond_true,dT ⟨by omega,by omega⟩,cond_true,wS (i:=w) (by omega),setL_nat]
    exact bs (ix (show w<D.length by omega)) rfl
  rw[e]
  cases hb:dY s.keyed t sl[r]
  ·refine ih (r+1) w m D (by omega) (by omega) (by omega) hD ?_ hd1
   rw[h1,htk,TM,List.filter_cons_of_neg (by rw[hb];decide)]
   simp
  ·refine ih (r+1) (w+1) m _ (by omega) (by omega) (by omega) (by rw[List.length_set];exact hD) ?_ ?_
   ·have hsl:w< (D.set w sl[r]).length:=by rw[List.length_set];omega
    rw[List.take_succ_eq_append_getElem hsl,htk,TM,List.filter_cons_of_pos hb,<-h1,List.take_set_of_le (RQ _),List.getElem_set_self]
    rfl
   ·rw[List.drop_set_of_lt (by omega),hd1]
theorem Rh {D:List Int} {w:Nat} {z:Int} (hw:w<=D.length):(clrL D (w:Int) ((D.length:Nat):Int) z).take w=D.take w/\(clrL D (w:Int) ((D.length:Nat):Int) z).length=D.length:=by
 unfold clrL
 rw[Int.toNat_natCast,Int.toNat_natCast,List.drop_length,SI]
 constructor
 ·rw[TI (by rw[Sc];omega),List.take_take,Nat.min_self]
 ·rw[R8,Sc,List.length_replicate];omega
theorem del_eq {n:Nat} (hn:100<n) {s:graph_search} {t:Int} {sl:List Int} (hl:sl.length<=40) (hal:Al (bN s.keyed) sl):∃(w:Int) (D:List Int),Zd n ((),((),((),()))) (sl,(s,t))=some (((0:Int),w),(D,(s,t)))/\subI D 0 w=sl.filter (dY s.keyed t):=by
 obtain⟨r,h1,h2⟩:=Rc (n:=n) hn (t:=t) hl hal
 rcases h2 with ⟨rfl,h2⟩| ⟨i,rfl,hi,h2⟩
 ·refine⟨((sl.length:Nat):Int),sl,?_,?_⟩
  ·refine(Zd_eq ..).trans ?_
   exact bs ((Zt_eq ..).trans (bs h1 rfl)) rfl
  ·unfold subI
   rw[h2,Int.toNat_natCast,List.take_length]
   try rfl
 ·obtain⟨w,D,k1,k2,k3,k4⟩:=Rf (n:=n) (t:=t) hl hal (sl.length-(i+1)) (i+1) i n sl (by omega) (by omega) (by omega) rfl h2.symm rfl
  have hc:=Rh (D:=D) (w:=w) (z:=0) (by omega)
  refine⟨(w:Int),clrL D (w:Int) ((D.length:Nat):Int) 0,?_,?_⟩
  ·refine(Zd_eq ..).trans ?_
   refine bs ((Zt_eq ..).trans (bs h1 rfl)) ?_
   rw[show ((i:Int)==(-1:Int))=false from by simp,cond_false,wS (by omega)]
   refine bs k1 ?_
   dsimp only
   simp only[Int.sub_zero,Int.zero_add]
   rw[show inV (w:Int) ((D.length:Nat):Int) ((D.length:Nat):Int)=true from dT ⟨by omega,by omega,by omega⟩,cond_true,hc.2,show inV 0 (w:Int) ((D.length:Nat):Int)=true from dT ⟨by omega,by omega,by omega⟩,cond_true]
   try rfl
  ·unfold subI
   rw[Int.toNat_natCast,hc.1,k4];rfl
end Sh
end
