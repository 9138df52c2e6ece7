/- Part of the proof of a law. -/
import Derived.Test.YtdcnajadcbedkaaGreatDoorS1120
import Derived.Test.YtdcnajadcbedkaaGreatDoorS1124
set_option linter.all false
set_option linter.unusedSimpArgs false
set_option linter.unusedSectionVars false
section
open Go Go.Proofs Aq
namespace Sh
inductive Rd where
 |ok (z:Int) (u:Nat)
 |er (e:Int)
def fE:Nat→List Int→Rd
 |_,[]=>.er 10
 |k,c::b=>if (k=9∧1<c)∨(0<k∧c=0) then .er 11 else if c<128 then .ok c 1 else match fE (k+1) b with
  |.ok z u=>.ok (c-128+128*z) (u+1)
  |.er e=>.er e
def oO (z:Int):Int:=if z% 2=1 then-1-z/2 else z/2
theorem QY:∀(b:List Int) (k:Nat) (e:Int),fE k b= .er e→e=10∨e=11
 | [],_,e,h=>by unfold fE at h;cases h;exact .inl rfl
 |c::b,k,e,h=>by
  unfold fE at h
  split at h
  ·cases h;exact .inr rfl
  ·split at h
   ·cases h
   ·split at h
    ·cases h
    ·rename_i e' h'
     cases h
     exact QY b (k+1) _ h'
theorem Gu {c:Int} {b:List Int} (h:bN (c::b)):(0≤c∧c<256)∧bN b:=⟨h c (List.mem_cons_self ..),fun x hx=>h x (List.mem_cons_of_mem _ hx)⟩
theorem xA {b:List Int} (h:bN b) (k:Nat):bN (b.drop k):=fun x hx=>h x (List.mem_of_mem_drop hx)
theorem Gv (j:Nat):(128:Int)^(j+1)=128*128^j:=by rw[Int.pow_succ,Int.mul_comm]
theorem QZ (j:Nat):1≤(128:Int)^j:=by
 have:(0:Int)<128^j:=Int.pow_pos (by decide)
 omega
theorem LG:∀(b:List Int) (k j:Nat) (z:Int) (u:Nat),bN b→k+j=9→fE k b= .ok z u→0≤z∧z<2*128^j∧0<u∧u≤b.length
 | [],_,_,z,u,_,_,h=>by unfold fE at h;cases h
 |c::b,k,j,z,u,hB,hk,h=>by
  obtain⟨hc,hB'⟩:=Gu hB
  unfold fE at h
  split at h
  ·cases h
  ·rename_i hne
   have hne':¬(k=9∧1<c):=fun e=>hne (.inl e)
   split at h
   ·cases h
    refine⟨hc.1, ?_,by omega,by simp⟩
    cases j with
    |zero=>have:¬1<c:=fun e=>hne' ⟨by omega,e⟩;simp;omega
    |succ j=>have:=QZ j;rw[Gv];omega
   ·cases j with
    |zero=>exact absurd ⟨by omega,by omega⟩ hne'
    |succ j=>
     split at h
     ·rename_i z' u' h'
      cases h
      obtain⟨h1,h2,h3,h4⟩:=LG b (k+1) j z' u' hB' (by omega) h'
      rw[Gv]
      exact⟨by omega,by omega,by omega,by rw[List.length_cons];omega⟩
     ·cases h
theorem YW:∀(b:List Int) (k:Nat) (z:Int) (u:Nat),bN b→0<k→fE k b= .ok z u→0<z
 | [],_,z,u,_,_,h=>by unfold fE at h;cases h
 |c::b,k,z,u,hB,hk,h=>by
  obtain⟨hc,hB'⟩:=Gu hB
  unfold fE at h
  split at h
  ·cases h
  ·rename_i hne
   split at h
   ·cases h
    have:¬c=0:=fun e=>hne (.inr ⟨hk,e⟩)
    omega
   ·split at h
    ·rename_i z' u' h'
     cases h
     have:=YW b (k+1) z' u' hB' (by omega) h'
     omega
    ·cases h
theorem YX:∀(j k:Nat) (z:Int) (r:List Int),k+j=9→0≤z→z<2*128^j→(0<k→z≠0)→fE k (jU (j+1) z++r)= .ok z (jU (j+1) z).length
 |j,k,z,r,hk,h0,h1,hne=>by
  unfold jU
  by_cases hz:z≥128
  ·rw[if_pos hz]
   cases j with
   |zero=>rw[Int.pow_zero] at h1;omega
   |succ j=>
    have ih:=YX j (k+1) (z/128) r (by omega) (by omega) (by rw[Gv] at h1;omega) (fun _=>by omega)
    rw[List.cons_append]
    unfold fE
    rw[if_neg (by omega),if_neg (by omega),ih]
    show Rd.ok _ _=Rd.ok _ _
    rw[List.length_cons]
    congr 1
    omega
  ·rw[if_neg hz]
   show fE k (z::r)=_
   unfold fE
   have:¬((k=9∧1<z)∨(0<k∧z=0)):=by
    rintro (⟨h2,h3⟩| ⟨h2,h3⟩)
    ·have:j=0:=by omega
     subst this
     rw[Int.pow_zero] at h1;omega
    ·exact hne h2 h3
   rw[if_neg this,if_pos (by omega)]
   rfl
theorem YZ:∀(b:List Int) (k j:Nat) (z:Int) (u:Nat),bN b→k+j=9→fE k b= .ok z u→b=jU (j+1) z++b.drop u∧(jU (j+1) z).length=u
 | [],_,_,z,u,_,_,h=>by unfold fE at h;cases h
 |c::b,k,j,z,u,hB,hk,h=>by
  obtain⟨hc,hB'⟩:=Gu hB
  unfold fE at h
  split at h
  ·cases h
  ·rename_i hne
   split at h
   ·rename_i hc2
    cases h
    unfold jU
    rw[if_neg (by omega)]
    exact⟨rfl,rfl⟩
   ·rename_i hc2
    split at h
    ·rename_i z' u' h'
     cases h
     have hj:0<j:=by
      rcases Nat.eq_zero_or_pos j with rfl|hj
      ·exact absurd (.inl ⟨by omega,by omega⟩) hne
      ·exact hj
     obtain⟨j,rfl⟩:∃i,j=i+1:=⟨j-1,by omega⟩
     obtain⟨h1,h2⟩:=YZ b (k+1) j z' u' hB' (by omega) h'
     have hp:=YW b (k+1) z' u' hB' (by omega) h'
     rw[show jU (j+1+1) (c-128+128*z')=c::jU (j+1) z' by
      conv=>lhs;unfold jU
      rw[if_pos (by omega)]
      congr 1
      ·omega
      ·congr 1;omega]
     refine⟨?_,by rw[List.length_cons,h2]⟩
     rw[List.cons_append,List.drop_succ_cons,←h1]
    ·cases h
theorem aki {x:Int}:oO (kZ x)=x:=by unfold oO kZ;split<;>split<;>omega
theorem akj {z:Int} (h0:0≤z) (h1:z<2^64):kZ (oO z)=z∧rI (oO z):=by
 unfold kZ oO rI
 constructor
 ·split<;>split<;>omega
 ·split<;>omega
theorem LH:(2:Int)*128^9=2^64:=by decide
def gI (b:List Int):Int×Int×Int:=match fE 0 b with
 |.ok z u=>(oO z,((u:Nat):Int),0)
 |.er e=>(0,0,e)
theorem Y0 {x:Int} (h:rI x) (r:List Int):gI (encI x++r)=(x,(((encI x).length:Nat):Int),0):=by
 obtain⟨z0,z1⟩:=Kq h
 have:=YX 9 0 (kZ x) r rfl z0 (by rw[LH];exact z1) (fun h=>absurd h (by decide))
 unfold gI encI
 rw[this]
 show (oO (kZ x),_,_)=_
 rw[aki]
theorem Q0 {b:List Int} (hB:bN b) {x u:Int} (h:gI b=(x,u,0)):rI x∧u=(((encI x).length:Nat):Int)∧b=encI x++b.drop (encI x).length∧0< (encI x).length∧(encI x).length≤b.length:=by
 unfold gI at h
 split at h
 ·rename_i z v hr
  obtain⟨h1,h2,h3,h4⟩:=LG b 0 9 z v hB rfl hr
  rw[LH] at h2
  obtain⟨e1,e2⟩:=YZ b 0 9 z v hB rfl hr
  obtain⟨f1,f2⟩:=akj h1 h2
  obtain⟨rfl,rfl,_⟩:oO z=x∧((v:Nat):Int)=u∧True:=by
   have:=congrArg Prod.fst h
   have h':=congrArg (fun p=>p.2.1) h
   exact⟨this,h',trivial⟩
  have hl:(encI (oO z)).length=v:=by unfold encI;rw[f1];exact e2
  refine⟨f2,by rw[hl], ?_,by omega,by omega⟩
  rw[hl]
  unfold encI
  rw[f1];exact e1
 ·rename_i e hr
  have h':e=0:=congrArg (fun p=>p.2.2) h
  rcases QY b 0 e hr with h|h<;>omega
end Sh
end
section
open Go Go.Proofs Aq
namespace Sh
theorem akk {a b:Int} (k:Nat) (ha0:0≤a) (ha:a% 2^k=0) (ha1:a<2^64) (hb0:0≤b) (hb1:b<2^k) (hk:k≤64):iZ IntKind.u64 b a=b+a:=by
 rw[XT]
 obtain⟨c,rfl⟩:∃c:Nat,a=((c*2^k:Nat):Int):=by
  refine⟨(a/2^k).toNat, ?_⟩
  have h1:=Int.mul_ediv_add_emod a (2^k)
  rw[ha,Int.add_zero] at h1
  have h2:0≤a/2^k:=Int.ediv_nonneg ha0 (Int.pow_nonneg (by decide))
  rw[Int.natCast_mul,Int.toNat_of_nonneg h2,Int.mul_comm]
  push_cast
  exact h1.symm
 obtain⟨d,rfl⟩:∃d:Nat,b=(d:Int):=⟨b.toNat,(Int.toNat_of_nonneg hb0).symm⟩
 have hd:d<2^k:=by exact_mod_cast hb1
 have hkk:2^k≤2^64:=Nat.pow_le_pow_right (by decide) hk
 have hc:c*2^k<2^64:=by exact_mod_cast ha1
 have hsum:c*2^k|||d=c*2^k+d:=by
  rw[←Nat.shiftLeft_eq,Nat.shiftLeft_add_eq_or_of_lt hd]
 have hlt:c*2^k|||d<2^64:=Nat.or_lt_two_pow hc (by omega)
 unfold iZ
 have e1:(BitVec.ofInt IntKind.u64.bits ((c*2^k:Nat):Int)|||BitVec.ofInt IntKind.u64.bits ((d:Nat):Int)).toNat=c*2^k+d:=by
  rw[BitVec.toNat_or]
  simp only[BitVec.ofInt_natCast,BitVec.toNat_ofNat]
  show (c*2^k)% 2^64|||d% 2^64=_
  rw[Nat.mod_eq_of_lt hc,Nat.mod_eq_of_lt (by omega),hsum]
 rw[e1,IntKind.wrap_u64]
 have:c*2^k+d<2^64:=by omega
 omega
theorem akl {c:Int} (h:0≤c∧c<256):fA IntKind.u8 c 127=c% 128:=by
 have key:∀a:Fin 256,fA IntKind.u8 ((a.val:Nat):Int) 127=((a.val% 128:Nat):Int):=by decide+kernel
 have h2:c=((c.toNat:Nat):Int):=by omega
 rw[h2,key ⟨c.toNat,by omega⟩]
 show ((c.toNat% 128:Nat):Int)=_
 omega
theorem Q5 (k:Nat):(2:Int)^(7*k)=128^k:=by rw[Int.pow_mul,show (2:Int)^7=128 by decide]
theorem akm {c acc:Int} {k:Nat} (h:0≤c∧c<256) (hk:k≤9) (h9:k=9→c≤1) (ha0:0≤acc) (ha:acc<128^k):
 iZ IntKind.u64 acc (jP IntKind.u64 (IntKind.wrap IntKind.u64 (fA IntKind.u8 c 127)) (IntKind.wrap IntKind.i64 (7*((k:Nat):Int))))=acc+c% 128*128^k:=by
 have hp:=QZ k
 have hb:c% 128*128^k<2^64:=by
  rcases Nat.lt_or_ge k 9 with hk'|hk'
  ·have h1:c% 128*128^k≤127*128^k:=Int.mul_le_mul_of_nonneg_right (by omega) (by omega)
   have h2:(128:Int)^k≤128^8:=by
    have:128^k≤128^8:=Nat.pow_le_pow_right (by decide) (by omega)
    exact_mod_cast this
   have h3:(128:Int)^8=2^56:=by decide
   omega
  ·have e:k=9:=by omega
   subst e
   have:=h9 rfl
   have h3:(128:Int)^9=2^63:=by decide
   have h4:c% 128=c:=by omega
   rw[h3,h4];omega
 have hn:0≤c% 128*128^k:=Int.mul_nonneg (by omega) (by omega)
 have e0:IntKind.wrap IntKind.i64 (7*((k:Nat):Int))=((7*k:Nat):Int):=by rw[dH (by omega) (by omega)];push_cast;rfl
 rw[akl h,tu (by omega) (by omega),e0]
 have e1:jP IntKind.u64 (c% 128) ((7*k:Nat):Int)=c% 128*128^k:=by
  unfold jP
  have:min (((7*k:Nat):Int)).toNat IntKind.u64.bits=7*k:=by show min (((7*k:Nat):Int)).toNat 64=7*k;rw[Int.toNat_natCast];omega
  rw[this,Q5,tu hn hb]
 rw[e1]
 refine akk (7*k) hn ?_ hb ha0 (by rw[Q5];exact ha) (by omega)
 rw[Q5];exact Int.mul_emod_left ..
theorem Y1 {n:Nat} {b:List Int} (hB:bN b) (hl:b.length<2^62):∀(j k m:Nat) (acc:Int),k+j=9→j<m→0≤acc→acc<128^k→∃q:Int,Gh n b m (acc,((0:Int),((k:Nat):Int)))=some (match fE k (b.drop k) with
 |.ok z u=>.inl (acc+z*128^k,((k+u:Nat):Int))
 |.er e=>if e=10 then .inl (q,0) else .inr (0,(0,11)))
 |j,k,m,acc,hk,hm,h0,h1=>by
  obtain⟨m,rfl⟩:∃q,m=q+1:=⟨m-1,by omega⟩
  cases hd:b.drop k with
  |nil=>
   refine⟨acc, ?_⟩
   have:b.length≤k:=by
    have:=congrArg List.length hd
    rw[List.length_drop,List.length_nil] at this;omega
   rw[YJ,uI this,cond_false]
   show _=some (if (10:Int)=10 then _ else _)
   rw[if_pos rfl]
  |cons c r=>
   have hg:b[k]? =some c:=by
    have:=congrArg (fun l=>l[0]?) hd
    simpa using this
   have hr:b.drop (k+1)=r:=by
    have:=congrArg List.tail hd
    rwa[List.tail_drop] at this
   have hBc:bN (c::r):=by rw[←hd];exact xA hB k
   obtain⟨hc,hBr⟩:=Gu hBc
   rw[YJ,uH hg,cond_true,nQ hg,Option.bind_some]
   have e9:((((k:Nat):Int))==(9:Int))=decide (k=9):=by
    rw[Bool.eq_iff_iff,beq_iff_eq,decide_eq_true_iff];omega
   have e0:decide ((((k:Nat):Int))> (0:Int))=decide (0<k):=by rw[Bool.eq_iff_iff,decide_eq_true_iff,decide_eq_true_iff];omega
   have Q6:(c==(0:Int))=decide (c=0):=rfl
   by_cases hbad:(k=9∧1<c)∨(0<k∧c=0)
   ·refine⟨0, ?_⟩
    have hrd:fE k (c::r)= .er 11:=by unfold fE;rw[if_pos hbad]
    rw[hrd,e9,e0]
    show _=some (if (11:Int)=10 then _ else _)
    rw[if_neg (by decide)]
    by_cases h9:k=9∧1<c
    ·rw[decide_eq_true h9.1,cond_true,decide_eq_true (show c>1 from h9.2),cond_true]
    ·have h2:0<k∧c=0:=hbad.resolve_left h9
     have ef:(bif decide (k=9) then decide (c> (1:Int)) else false)=false:=by
      cases Gw:decide (k=9) with
      |false=>rfl
      |true=>exact decide_eq_false (fun h=>h9 ⟨of_decide_eq_true Gw,h⟩)
     rw[ef,cond_false,decide_eq_true h2.1,cond_true,h2.2];rfl
   ·have ef:(bif decide (k=9) then decide (c> (1:Int)) else false)=false:=by
     cases Gw:decide (k=9) with
     |false=>rfl
     |true=>exact decide_eq_false (fun h=>hbad (.inl ⟨of_decide_eq_true Gw,h⟩))
    have eg:(bif decide (0<k) then c==(0:Int) else false)=false:=by
     cases hk0:decide (0<k) with
     |false=>rfl
     |true=>rw[cond_true,Q6];exact decide_eq_false (fun h=>hbad (.inr ⟨of_decide_eq_true hk0,h⟩))
    have h9:k=9→c≤1:=fun h=>by
     have:¬1<c:=fun h'=>hbad (.inl ⟨h,h'⟩)
     omega
    have e7:decide ((0:Int)≤IntKind.wrap IntKind.i64 (7*((k:Nat):Int)))=true:=decide_eq_true (by rw[dH (by omega) (by omega)];omega)
    rw[e9,e0,ef,cond_false,eg,cond_false,e7,cond_true,akm hc (by omega) h9 h0 h1]
    by_cases hlt:c<128
    ·refine⟨0, ?_⟩
     have hrd:fE k (c::r)= .ok c 1:=by unfold fE;rw[if_neg hbad,if_pos hlt]
     rw[hrd,decide_eq_true hlt,cond_true,mV (by omega),show c% 128=c by omega]
    ·rw[decide_eq_false hlt,cond_false,mV (by omega)]
     have hj:0<j:=by
      rcases Nat.eq_zero_or_pos j with rfl|hj
      ·have:=h9 (by omega);omega
      ·exact hj
     obtain⟨j,rfl⟩:∃i,j=i+1:=⟨j-1,by omega⟩
     have hp:=QZ k
     have hle:c% 128*128^k≤127*128^k:=Int.mul_le_mul_of_nonneg_right (by omega) (by omega)
     have hge:0≤c% 128*128^k:=Int.mul_nonneg (by omega) (by omega)
     obtain⟨q,ih⟩:=Y1 hB hl j (k+1) m (acc+c% 128*128^k) (by omega) (by omega) (by omega) (by rw[Gv];omega)
     refine⟨q, ?_⟩
     rw[ih,hr]
     have hrd:fE k (c::r)=match fE (k+1) r with
      |.ok z u=>.ok (c-128+128*z) (u+1)
      |.er e=>.er e:=by conv=>lhs;unfold fE
                        rw[if_neg hbad,if_neg hlt]
                        all_goals (cases fE (k+1) r<;>rfl)
     rw[hrd]
     cases fE (k+1) r with
     |er e=>rfl
     |ok z u=>
      show some (Sum.inl (acc+c% 128*128^k+z*128^(k+1),((k+1+u:Nat):Int)))=some (Sum.inl (acc+(c-128+128*z)*128^k,((k+(u+1):Nat):Int)))
      have e1:acc+c% 128*128^k+z*128^(k+1)=acc+(c-128+128*z)*128^k:=by
       rw[Gv,show c% 128=c-128 by omega,Int.add_mul,Int.add_assoc]
       congr 2
       rw[←Int.mul_assoc,Int.mul_comm z 128]
      have e2:k+1+u=k+(u+1):=by omega
      rw[e1,e2]
theorem ako {a:Int} (h0:0≤a) (h1:a<2^63):dh IntKind.i64 a 0=a:=by
 unfold dh
 obtain⟨c,rfl⟩:∃c:Nat,a=(c:Int):=⟨a.toNat,(Int.toNat_of_nonneg h0).symm⟩
 have hc:c<2^63:=by exact_mod_cast h1
 have e:(BitVec.ofInt IntKind.i64.bits (c:Int)^^^BitVec.ofInt IntKind.i64.bits 0).toNat=c:=by
  show (BitVec.ofInt 64 (c:Int)^^^0#64).toNat=_
  rw[BitVec.xor_zero,BitVec.ofInt_natCast,BitVec.toNat_ofNat,Nat.mod_eq_of_lt (by omega)]
 rw[e]
 exact vJ (by omega) (by omega)
theorem xor_ones64 {a:Int} (h0:0≤a) (h1:a<2^63):dh IntKind.i64 a (-1)= -1-a:=by
 unfold dh
 obtain⟨c,rfl⟩:∃c:Nat,a=(c:Int):=⟨a.toNat,(Int.toNat_of_nonneg h0).symm⟩
 have hc:c<2^63:=by exact_mod_cast h1
 have e:(BitVec.ofInt IntKind.i64.bits (c:Int)^^^BitVec.ofInt IntKind.i64.bits (-1)).toNat=2^64-1-c:=by
  show (BitVec.ofInt 64 (c:Int)^^^BitVec.ofInt 64 (-1)).toNat=_
  rw[show BitVec.ofInt 64 (-1)=BitVec.allOnes 64 by decide,BitVec.xor_allOnes,BitVec.toNat_not,BitVec.ofInt_natCast,BitVec.toNat_ofNat,Nat.mod_eq_of_lt (by omega)]
 rw[e,IntKind.wrap_i64]
 omega
theorem and1 {z:Int} (h0:0≤z) (h1:z<2^64):fA IntKind.u64 z 1=z% 2:=by
 unfold fA
 obtain⟨c,rfl⟩:∃c:Nat,z=(c:Int):=⟨z.toNat,(Int.toNat_of_nonneg h0).symm⟩
 have hc:c<2^64:=by exact_mod_cast h1
 have e:(BitVec.ofInt IntKind.u64.bits (c:Int)&&& BitVec.ofInt IntKind.u64.bits 1).toNat=c% 2:=by
  show (BitVec.ofInt 64 (c:Int)&&& BitVec.ofInt 64 1).toNat=_
  rw[BitVec.toNat_and,BitVec.ofInt_natCast,BitVec.toNat_ofNat,Nat.mod_eq_of_lt hc,show (BitVec.ofInt 64 1).toNat=1 by decide,Nat.and_one_is_mod]
 rw[e,tu (by omega) (by omega)];omega
theorem akp {z:Int} (h0:0≤z) (h1:z<2^64):dh IntKind.i64 (IntKind.wrap IntKind.i64 (jQ IntKind.u64 z 1)) (IntKind.wrap IntKind.i64 (0-IntKind.wrap IntKind.i64 (fA IntKind.u64 z 1)))=oO z:=by
 have hr:jQ IntKind.u64 z 1=z.fdiv (2^1):=rfl
 rw[hr,Int.fdiv_eq_ediv_of_nonneg _ (by decide),and1 h0 h1,vJ (n:=z/2^1) (by omega) (by omega),vJ (n:=z% 2) (by omega) (by omega),vJ (n:=0-z% 2) (by omega) (by omega)]
 unfold oO
 by_cases hz:z% 2=1
 ·rw[if_pos hz,hz,show (0:Int)-1= -1 by decide,xor_ones64 (by omega) (by omega)];omega
 ·rw[if_neg hz,show z% 2=0 by omega,show (0:Int)-0=0 by decide,ako (by omega) (by omega)];omega
theorem Y2 {n:Nat} {b:List Int} (hB:bN b) (hl:b.length<2^62) (hn:20<n):ze n b=some (gI b):=by
 obtain⟨q,h⟩:=Y1 (n:=n) hB hl 9 0 n 0 rfl (by omega) (by decide) (by decide)
 rw[ajS]
 refine bs h ?_
 rw[List.drop_zero]
 unfold gI
 cases hr:fE 0 b with
 |er e=>
  rcases QY b 0 e hr with rfl|rfl
  ·rfl
  ·rfl
 |ok z u=>
  obtain⟨h1,h2,h3,h4⟩:=LG b 0 9 z u hB rfl hr
  rw[LH] at h2
  show (bif (((0+u:Nat):Int))==(0:Int) then some ((0:Int),((0:Int),(10:Int))) else bif decide ((0:Int)≤1) then some (dh IntKind.i64 (IntKind.wrap IntKind.i64 (jQ IntKind.u64 (0+z*128^0) 1)) (IntKind.wrap IntKind.i64 (0-IntKind.wrap IntKind.i64 (fA IntKind.u64 (0+z*128^0) 1))),(((0+u:Nat):Int),(0:Int))) else none)=some (oO z,((u:Nat):Int),0)
  rw[show (0:Int)+z*128^0=z by rw[Int.pow_zero];omega,akp h1 h2,Nat.zero_add]
  exact bF (beq_false_of_ne (by omega)) rfl
end Sh
end
section
open Go Go.Proofs Aq
namespace Sh
theorem Y3 {α β:Type} {c:Bool} {o:Option α} {d x:α} {f:α→Option β} {r:Option β} (h:o=some x) (k:f (bif c then x else d)=r):(Ef c o d).bind f=r:=by
 subst h;cases c<;>exact k
def iM:Nat→List Int→Nat
 |0,_=>0
 |_,[]=>0
 |j+1,c::b=>if 128≤c then 1+iM j b else 0
def lS:Nat→List Int→Int
 |_,[]=>0
 |0,c::_=>c% 128
 |k+1,c::b=>c% 128+128*lS k b
theorem Q7:∀(j:Nat) (b:List Int),iM j b≤j∧iM j b≤b.length
 |0,b=>⟨Nat.le_refl _,Nat.zero_le _⟩
 |j+1,[]=>⟨Nat.zero_le _,Nat.le_refl _⟩
 |j+1,c::b=>by
  have:=Q7 j b
  unfold iM
  rw[List.length_cons]
  split<;>omega
theorem Q8:∀(k:Nat) (b:List Int),0≤lS k b
 |_,[]=>by unfold lS;omega
 |0,c::_=>by unfold lS;omega
 |k+1,c::b=>by
  have:=Q8 k b
  unfold lS;omega
theorem Y4:∀(i t:Nat) (b:List Int),i≤t→lS (t-i) (b.drop i)≤lS t b
 |0,t,b,_=>by rw[Nat.sub_zero,List.drop_zero];omega
 |i+1,t,[],_=>by
  rw[List.drop_nil]
  unfold lS;omega
 |i+1,0,c::b,h=>absurd h (by omega)
 |i+1,t+1,c::b,h=>by
  have:=Y4 i t b (by omega)
  have h2:=Q8 t b
  rw[List.drop_succ_cons,show t+1-(i+1)=t-i by omega]
  show _≤c% 128+128*lS t b
  omega
theorem Y5:∀(j k:Nat) (b:List Int),bN b→k+j=9→fE k b=if iM (j+1) b=j+1 then .er 11 else if b.length=iM (j+1) b then .er 10 else
 if (k+iM (j+1) b=9∧1<b.getD (iM (j+1) b) 0)∨(0<k+iM (j+1) b∧b.getD (iM (j+1) b) 0=0) then .er 11 else .ok (lS (iM (j+1) b) b) (iM (j+1) b+1)
 |j,k,[],_,_=>by
  have:iM (j+1) []=0:=rfl
  rw[this,if_neg (show¬0=j+1 by omega),if_pos (show ([]:List Int).length=0 from rfl)]
  rfl
 |j,k,c::b,hB,hk=>by
  obtain⟨hc,hB'⟩:=Gu hB
  by_cases h128:128≤c
  ·have hcn:iM (j+1) (c::b)=1+iM j b:=by
    conv=>lhs;unfold iM
    rw[if_pos h128]
   cases j with
   |zero=>
    have Gw:k=9:=by omega
    rw[hcn,show iM 0 b=0 from rfl,if_pos rfl]
    unfold fE
    rw[if_pos (.inl ⟨Gw,by omega⟩)]
   |succ j=>
    have ih:=Y5 j (k+1) b hB' (by omega)
    have hl:=Q7 (j+1) b
    rw[hcn]
    have e0:fE k (c::b)=match fE (k+1) b with
     |.ok z u=>.ok (c-128+128*z) (u+1)
     |.er e=>.er e:=by
     conv=>lhs;unfold fE
     rw[if_neg (by omega),if_neg (by omega)]
     all_goals (cases fE (k+1) b<;>rfl)
    rw[e0,ih]
    have eg:(c::b).getD (1+iM (j+1) b) 0=b.getD (iM (j+1) b) 0:=by rw[Nat.add_comm];rfl
    have ev:lS (1+iM (j+1) b) (c::b)=c% 128+128*lS (iM (j+1) b) b:=by rw[Nat.add_comm];rfl
    rw[eg,ev,List.length_cons]
    generalize iM (j+1) b=t at*
    by_cases h1:t=j+1
    ·rw[if_pos h1,if_pos (show 1+t=j+1+1 by omega)]
    ·rw[if_neg h1,if_neg (show¬1+t=j+1+1 by omega)]
     by_cases h2:b.length=t
     ·rw[if_pos h2,if_pos (show b.length+1=1+t by omega)]
     ·rw[if_neg h2,if_neg (show¬b.length+1=1+t by omega),show k+1+t=k+(1+t) by omega]
      by_cases h3:(k+(1+t)=9∧1<b.getD t 0)∨(0<k+(1+t)∧b.getD t 0=0)
      ·rw[if_pos h3,if_pos h3]
      ·rw[if_neg h3,if_neg h3]
       show Rd.ok _ _=Rd.ok _ _
       congr 1<;>omega
  ·have hcn:iM (j+1) (c::b)=0:=by
    conv=>lhs;unfold iM
    rw[if_neg h128]
   rw[hcn,if_neg (show¬0=j+1 by omega),if_neg (show¬(c::b).length=0 by rw[List.length_cons];omega)]
   unfold fE
   show _=if (k+0=9∧1<c)∨(0<k+0∧c=0) then _ else _
   rw[Nat.add_zero]
   by_cases h3:(k=9∧1<c)∨(0<k∧c=0)
   ·rw[if_pos h3,if_pos (show (k+0=9∧1<c)∨(0<k+0∧c=0) from h3)]
   ·rw[if_neg h3,if_neg (show¬((k+0=9∧1<c)∨(0<k+0∧c=0)) from h3),if_pos (by omega)]
    show Rd.ok c 1=Rd.ok (c% 128) (0+1)
    rw[show c% 128=c by omega]
theorem Y6 {n:Nat} {b:List Int} (hl:b.length<2^62):∀(j k m:Nat),k+j=10→j<m→Gn n b m ((k:Nat):Int)=some ((k+iM j (b.drop k):Nat):Int)
 |j,k,m,hk,hm=>by
  obtain⟨m,rfl⟩:∃q,m=q+1:=⟨m-1,by omega⟩
  rw[aj3]
  have h10:decide (((k:Nat):Int)< (10:Int))=decide (k<10):=by rw[Bool.eq_iff_iff,decide_eq_true_iff,decide_eq_true_iff];omega
  rw[h10]
  cases hd:b.drop k with
  |nil=>
   have:b.length≤k:=by
    have:=congrArg List.length hd
    rw[List.length_drop,List.length_nil] at this;omega
   rw[uI this,cond_false]
   have e:iM j []=0:=by cases j<;>rfl
   rw[e];rfl
  |cons c r=>
   have hg:b[k]? =some c:=by
    have:=congrArg (fun l=>l[0]?) hd
    simpa using this
   have hr:b.drop (k+1)=r:=by
    have:=congrArg List.tail hd
    rwa[List.tail_drop] at this
   rw[uH hg,cond_true]
   cases j with
   |zero=>
    rw[decide_eq_false (by omega)]
    rfl
   |succ j=>
    rw[decide_eq_true (show k<10 by omega),nQ hg]
    show (bif (bif true then decide (c≥(128:Int)) else false) then _ else _)=_
    rw[cond_true]
    by_cases hc:128≤c
    ·rw[decide_eq_true (show c≥128 from hc),cond_true,mV (by omega),Y6 hl j (k+1) m (by omega) (by omega),hr]
     conv=>rhs;unfold iM
     rw[if_pos hc,Nat.add_assoc]
    ·rw[decide_eq_false (show¬c≥128 from hc),cond_false]
     conv=>rhs;unfold iM
     rw[if_neg hc];rfl
theorem Y7 {n:Nat} {b:List Int} (hB:bN b) {K:Nat} {r4:Int} (hK:K<b.length) (hK9:K<100) (hv:lS K b<2^64):∀(i m:Nat) (x:Int),i≤K→i+1<m→
 (x=if i=K then 0 else lS (K-(i+1)) (b.drop (i+1)))→CV n b r4 m (x,((i:Nat):Int))=some (lS K b)
 |i,m,x,hi,hm,hx=>by
  obtain⟨m,rfl⟩:∃q,m=q+1:=⟨m-1,by omega⟩
  have hlt:i<b.length:=by omega
  have hg:b[i]? =some b[i]:=List.getElem?_eq_getElem hlt
  have hc:=hB b[i] (List.getElem_mem hlt)
  have hd:b.drop i=b[i]::b.drop (i+1):=List.drop_eq_getElem_cons hlt
  generalize b[i]=c at hg hc hd
  have hV:lS (K-i) (b.drop i)=c% 128+128*x:=by
   rw[hd]
   by_cases e:i=K
   ·rw[if_pos e] at hx
    rw[hx,show K-i=0 by omega]
    show c% 128=_
    omega
   ·rw[if_neg e] at hx
    rw[show K-i=(K-(i+1))+1 by omega,hx];rfl
  have hle:=Y4 i K b hi
  have hx0:0≤x:=by
   rw[hx];split
   ·omega
   ·exact Q8 _ _
  rw[YK,decide_eq_true (show ((i:Nat):Int)≥0 by omega),cond_true,nQ hg,Option.bind_some]
  have e1:IntKind.wrap IntKind.u64 (IntKind.wrap IntKind.u64 (x*128)+IntKind.wrap IntKind.u64 (Int.tmod c 128))=lS (K-i) (b.drop i):=by
   have ht:Int.tmod c 128=c% 128:=Int.tmod_eq_emod_of_nonneg hc.1
   rw[ht,tu (x:=x*128) (by omega) (by omega),tu (x:=c% 128) (by omega) (by omega),tu (by omega) (by omega),hV];omega
  show CV n b r4 m (_,_)=_
  rw[e1]
  cases i with
  |zero=>
   obtain⟨m,rfl⟩:∃q,m=q+1:=⟨m-1,by omega⟩
   have:IntKind.wrap IntKind.i64 (((0:Nat):Int)-1)= -1:=by decide
   rw[this,YK,decide_eq_false (by decide),cond_false,Nat.sub_zero,List.drop_zero]
  |succ i=>
   rw[XO (by omega) (by omega)]
   exact Y7 hB hK hK9 hv i m _ (by omega) (by omega) (by rw[if_neg (by omega)])
theorem Y8 {n:Nat} {b:List Int} (hB:bN b) (hl:b.length<2^62) (hn:20<n):zl n b=some (gI b):=by
 have h2:=Y6 (n:=n) hl 10 0 n rfl (by omega)
 rw[List.drop_zero,Nat.zero_add] at h2
 have hcn:=Y5 9 0 b hB rfl
 have hle:=Q7 10 b
 rw[show 9+1=10 from rfl] at hcn
 rw[aj4]
 refine bs h2 ?_
 generalize ht:iM 10 b=t at*
 rw[Nat.zero_add] at hcn
 by_cases h10:t=10
 ·rw[if_pos h10] at hcn
  refine bT (by rw[h10];rfl) ?_
  unfold gI;rw[hcn]
 ·rw[if_neg h10] at hcn
  refine bF (beq_false_of_ne (by omega)) ?_
  by_cases hlen:b.length=t
  ·rw[if_pos hlen] at hcn
   refine bT (by rw[hlen];exact beq_self_eq_true _) ?_
   unfold gI;rw[hcn]
  ·rw[if_neg hlen] at hcn
   refine bF (beq_false_of_ne (by omega)) ?_
   have hlt:t<b.length:=by omega
   have hg:b[t]? =some b[t]:=List.getElem?_eq_getElem hlt
   have hgd:b.getD t 0=b[t]:=by rw[List.getD_eq_getElem?_getD,hg];rfl
   rw[hgd] at hcn
   have hc:=hB b[t] (List.getElem_mem hlt)
   rw[nQ hg]
   generalize hcc:b[t]=c at*
   have e9:((((t:Nat):Int))==(9:Int))=decide (t=9):=by
    rw[Bool.eq_iff_iff,beq_iff_eq,decide_eq_true_iff];omega
   have e0:decide ((((t:Nat):Int))> (0:Int))=decide (0<t):=by rw[Bool.eq_iff_iff,decide_eq_true_iff,decide_eq_true_iff];omega
   have Q6:∀c:Int,(c==(0:Int))=decide (c=0):=fun _=>rfl
   rw[e9,e0]
   refine Y3 rfl ?_
   have ea:(bif decide (t=9) then decide ((bif decide (t=9) then c else 0)> (1:Int)) else false)=decide (t=9∧1<c):=by
    by_cases h:t=9
    ·rw[decide_eq_true h,cond_true,cond_true,Bool.eq_iff_iff,decide_eq_true_iff,decide_eq_true_iff]
     exact⟨fun h'=>⟨h,h'⟩,fun h'=>h'.2⟩
    ·rw[decide_eq_false h,cond_false,decide_eq_false (fun h'=>h h'.1)]
   rw[ea]
   refine Y3 rfl ?_
   have hpt:(bif decide (t=9∧1<c) then true else bif decide (0<t) then (bif (bif !decide (t=9∧1<c) then decide (0<t) else false) then c else (0:Int))==(0:Int) else false)=decide ((t=9∧1<c)∨(0<t∧c=0)):=by
    by_cases h:t=9∧1<c
    ·rw[decide_eq_true h,cond_true,decide_eq_true (.inl h)]
    ·rw[decide_eq_false h,cond_false,Bool.not_false,cond_true]
     by_cases h':0<t
     ·rw[decide_eq_true h',cond_true,cond_true,Q6,Bool.eq_iff_iff,decide_eq_true_iff,decide_eq_true_iff]
      exact⟨fun h2=>.inr ⟨h',h2⟩,fun h2=>(h2.resolve_left h).2⟩
     ·rw[decide_eq_false h',cond_false,decide_eq_false]
      rintro (h2|h2)
      ·exact h h2
      ·exact h' h2.1
   rw[hpt]
   by_cases hbad:(t=9∧1<c)∨(0<t∧c=0)
   ·rw[if_pos hbad] at hcn
    refine bT (decide_eq_true hbad) ?_
    unfold gI;rw[hcn]
   ·rw[if_neg hbad] at hcn
    refine bF (decide_eq_false hbad) ?_
    obtain⟨z0,z1,_,_⟩:=LG b 0 9 _ _ hB rfl hcn
    rw[LH] at z1
    refine bs (Y7 hB hlt (by omega) z1 t n 0 (Nat.le_refl _) (by omega) (by rw[if_pos rfl])) ?_
    unfold gI;rw[hcn]
    generalize lS t b=z at z0 z1
    have ht:Int.tmod z 2=z% 2:=Int.tmod_eq_emod_of_nonneg z0
    have hdv:Int.tdiv z 2=z/2:=Int.tdiv_eq_ediv_of_nonneg z0
    show (bif !((2:Int)==0) then (bif (Int.tmod z 2)==(1:Int) then (bif !((2:Int)==0) then some (IntKind.wrap IntKind.i64 (-1-IntKind.wrap IntKind.i64 (IntKind.wrap IntKind.u64 (Int.tdiv z 2))),(IntKind.wrap IntKind.i64 (((t:Nat):Int)+1),(0:Int))) else none) else (bif !((2:Int)==0) then some (IntKind.wrap IntKind.i64 (IntKind.wrap IntKind.u64 (Int.tdiv z 2)),(IntKind.wrap IntKind.i64 (((t:Nat):Int)+1),(0:Int))) else none)) else none)=some (oO z,((t+1:Nat):Int),0)
    rw[ht,hdv,tu (x:=z/2) (by omega) (by omega),vJ (n:=z/2) (by omega) (by omega),vJ (n:= -1-z/2) (by omega) (by omega),mV (by omega)]
    unfold oO
    by_cases h1:z% 2=1
    ·rw[if_pos h1]
     exact bT rfl (bT (by rw[h1];rfl) (bT rfl rfl))
    ·rw[if_neg h1]
     exact bT rfl (bF (beq_false_of_ne h1) (bT rfl rfl))
end Sh
end
section
open Go Go.Proofs Aq
namespace Sh
def gL {α:Type} (g:List Int→α×Int×Int):Nat→List Int→List α×Int×Int
 |0,_=>([],0,0)
 |k+1,b=>if (g b).2.2=0 then (if (gL g k (b.drop (g b).2.1.toNat)).2.2=0 then ((g b).1::(gL g k (b.drop (g b).2.1.toNat)).1,(g b).2.1+(gL g k (b.drop (g b).2.1.toNat)).2.1,0) else ([],0,(gL g k (b.drop (g b).2.1.toNat)).2.2)) else ([],0,(g b).2.2)
theorem Q9 {α:Type} {g:List Int→α×Int×Int}:∀{k:Nat} {b:List Int},(gL g k b).2.2=0→(gL g k b).1.length=k
 |0,_,_=>rfl
 |k+1,b,h=>by
  unfold gL at h⊢
  by_cases h1:(g b).2.2=0
  ·rw[if_pos h1] at h⊢
   by_cases h2:(gL g k (b.drop (g b).2.1.toNat)).2.2=0
   ·rw[if_pos h2,List.length_cons,Q9 h2]
   ·rw[if_neg h2] at h;exact absurd h h2
  ·rw[if_neg h1] at h;exact absurd h h1
theorem Ra {α:Type} {g:List Int→α×Int×Int} {G:List Int→Option (α×Int×Int)} {b:List Int} {cnt:Nat} {bY:Nat} {L:Nat→Int→List α→Int→Option ((Int×List α)⊕(List α×Int×Int))}
 (hb:bY≤2^12) (hl:b.length<2^28) (hc:cnt<2^28)
 (hs:∀m x4 x5 x6,L (m+1) x4 x5 x6=bif decide (x6< ((cnt:Nat):Int)) then bif fB x4 b.length then (G (List.drop (Int.toNat x4) b)).bind fun (r7:α×Int×Int)=>
    bif r7.2.2 !=((0:Int)) then some (Sum.inr (([],((0:Int),r7.2.2)))) else bif bX (x5.length+([r7.1].length)) bY then L m (IntKind.wrap IntKind.i64 (x4+r7.2.1)) (x5++[r7.1]) (IntKind.wrap IntKind.i64 (x6+((1:Int)))) else none else none else some (Sum.inl ((x4,x5))))
 (Inv:Nat→Nat→Prop) (hI:∀(at_ k:Nat),Inv at_ (k+1)→at_≤b.length→G (b.drop at_)=some (g (b.drop at_))∧((g (b.drop at_)).2.2=0→∃u:Nat,(g (b.drop at_)).2.1=((u:Nat):Int)∧Inv (at_+u) k∧at_+u≤b.length)):
 ∀(k at_ m i:Nat) (a:List α),i+k=cnt→k<m→Inv at_ k→at_≤b.length→a.length=i→
  L m ((at_:Nat):Int) a ((i:Nat):Int)=some (if (gL g k (b.drop at_)).2.2=0 then Sum.inl ((((at_:Nat):Int)+(gL g k (b.drop at_)).2.1),a++(gL g k (b.drop at_)).1) else Sum.inr ([],(0,(gL g k (b.drop at_)).2.2)))
 |0,at_,m,i,a,hi,hm,_,_,_=>by
  obtain⟨m,rfl⟩:∃q,m=q+1:=⟨m-1,by omega⟩
  rw[hs]
  refine bF (decide_eq_false (by omega)) ?_
  show _=some (if (0:Int)=0 then Sum.inl (((at_:Nat):Int)+0,a++[]) else _)
  rw[if_pos rfl,Int.add_zero,List.append_nil]
 |k+1,at_,m,i,a,hi,hm,hv,hat,ha=>by
  obtain⟨m,rfl⟩:∃q,m=q+1:=⟨m-1,by omega⟩
  rw[hs]
  refine bT (decide_eq_true (by omega)) (bT (by unfold fB;exact decide_eq_true (by omega)) ?_)
  rw[Int.toNat_natCast]
  obtain⟨h1,h2⟩:=hI at_ k hv hat
  refine bs h1 ?_
  conv=>rhs;unfold gL
  generalize hg:g (b.drop at_)=r at*
  by_cases he:r.2.2=0
  ·rw[if_pos he]
   obtain⟨u,hu,hv',hle⟩:=h2 he
   refine bF (by rw[he];rfl) (bT (jD (by rw[List.length_singleton];omega) hb) ?_)
   rw[hu,XP (by omega),mV (by omega),Ra hb hl hc hs Inv hI k (at_+u) m (i+1) (a++[r.1]) (by omega) (by omega) hv' hle (by rw[List.length_append,List.length_singleton];omega)]
   rw[Int.toNat_natCast,List.drop_drop]
   generalize gL g k (b.drop (at_+u))=q
   by_cases hq:q.2.2=0
   ·rw[if_pos hq,if_pos hq]
    show _=some (if (0:Int)=0 then Sum.inl (((at_:Nat):Int)+(((u:Nat):Int)+q.2.1),a++(r.1::q.1)) else _)
    rw[if_pos rfl,List.append_assoc]
    congr 2
    show (_,_)=(_,_)
    congr 1
    omega
   ·rw[if_neg hq,if_neg hq]
    show _=some (if q.2.2=0 then _ else Sum.inr ([],(0,q.2.2)))
    rw[if_neg hq]
  ·rw[if_neg he]
   refine bT (by rw[bne_iff_ne];exact he) ?_
   show _=some (if r.2.2=0 then _ else Sum.inr ([],(0,r.2.2)))
   rw[if_neg he]
def eu (b:List Int) (l:Int):Int×Int×Int:=if (gI b).2.2=0 then (if (gI b).1<0 then (0,0,11) else if (gI b).1>IntKind.wrap IntKind.i64 (Int.tdiv (IntKind.wrap IntKind.i64 (((b.length:Nat):Int)-(gI b).2.1)) l) then (0,0,10) else ((gI b).1,(gI b).2.1,0)) else (0,0,(gI b).2.2)
theorem Y9 {r:Int×Int×Int} {l L:Int} (hl:l≠0):(bif r.2.2 !=((0:Int)) then some (((0:Int),((0:Int),r.2.2))) else bif decide (r.1< ((0:Int))) then some (((0:Int),((0:Int),(11:Int)))) else bif !(l==((0:Int))) then
         bif decide (r.1> (IntKind.wrap IntKind.i64 (Int.tdiv (IntKind.wrap IntKind.i64 (L-r.2.1)) l))) then some (((0:Int),((0:Int),(10:Int)))) else some ((r.1,(r.2.1,(0:Int)))) else none)=
 some (if r.2.2=0 then (if r.1<0 then (0,0,11) else if r.1>IntKind.wrap IntKind.i64 (Int.tdiv (IntKind.wrap IntKind.i64 (L-r.2.1)) l) then (0,0,10) else (r.1,r.2.1,0)) else (0,0,r.2.2)):=by
 by_cases h1:r.2.2=0
 ·rw[if_pos h1]
  refine bF (by rw[h1];rfl) ?_
  by_cases h2:r.1<0
  ·rw[if_pos h2];exact bT (decide_eq_true h2) rfl
  ·rw[if_neg h2]
   refine bF (decide_eq_false h2) (bT (by rw[beq_false_of_ne hl];rfl) ?_)
   by_cases h3:r.1>IntKind.wrap IntKind.i64 (Int.tdiv (IntKind.wrap IntKind.i64 (L-r.2.1)) l)
   ·rw[if_pos h3];exact bT (decide_eq_true h3) rfl
   ·rw[if_neg h3];exact bF (decide_eq_false h3) rfl
 ·rw[if_neg h1]
  exact bT (by rw[bne_iff_ne];exact h1) rfl
theorem Za {n:Nat} {b:List Int} {l:Int} (hB:bN b) (hb:b.length<2^28) (hn:20<n) (hl:l≠0):zf n (b,l)=some (eu b l):=by
 rw[ajT]
 exact bs (Y2 hB (by omega) hn) (Y9 hl)
theorem Zb {n:Nat} {b:List Int} {l:Int} (hB:bN b) (hb:b.length<2^28) (hn:20<n) (hl:l≠0):zm n (b,l)=some (eu b l):=by
 rw[aj5]
 exact bs (Y8 hB (by omega) hn) (Y9 hl)
theorem Gx {b:List Int} (hB:bN b) (hb:b.length<2^28) {l:Nat} (hl:0<l) {c u e:Int} (h:eu b ((l:Nat):Int)=(c,u,e)):
 (e=0∧∃k v:Nat,c=((k:Nat):Int)∧u=((v:Nat):Int)∧v=(encI ((k:Nat):Int)).length∧b=encI ((k:Nat):Int)++b.drop v∧v≤b.length∧v+k*l≤b.length)∨(e≠0∧c=0∧u=0):=by
 unfold eu at h
 generalize hr:gI b=r at h
 by_cases h1:r.2.2=0
 ·rw[if_pos h1] at h
  by_cases h2:r.1<0
  ·rw[if_pos h2] at h;cases h;exact .inr ⟨by decide,rfl,rfl⟩
  ·rw[if_neg h2] at h
   obtain⟨g1,g2,g3,g4,g5⟩:=Q0 hB (x:=r.1) (u:=r.2.1) (by rw[hr,←h1])
   have hk:r.1=((r.1.toNat:Nat):Int):=(Int.toNat_of_nonneg (by omega)).symm
   have e1:IntKind.wrap IntKind.i64 (((b.length:Nat):Int)-r.2.1)=((b.length-(encI r.1).length:Nat):Int):=by
    rw[g2,dH (by omega) (by omega)];omega
   have e2:IntKind.wrap IntKind.i64 (Int.tdiv ((b.length-(encI r.1).length:Nat):Int) ((l:Nat):Int))=(((b.length-(encI r.1).length)/l:Nat):Int):=by
    have:Int.tdiv ((b.length-(encI r.1).length:Nat):Int) ((l:Nat):Int)=(((b.length-(encI r.1).length)/l:Nat):Int):=by
     rw[Int.tdiv_eq_ediv_of_nonneg (by omega),Int.natCast_ediv]
    rw[this]
    have hle:=Nat.div_le_self (b.length-(encI r.1).length) l
    generalize (b.length-(encI r.1).length)/l=q at hle⊢
    exact dH (by omega) (by omega)
   rw[e1,e2] at h
   by_cases h3:r.1> (((b.length-(encI r.1).length)/l:Nat):Int)
   ·rw[if_pos h3] at h;cases h;exact .inr ⟨by decide,rfl,rfl⟩
   ·rw[if_neg h3] at h
    cases h
    refine .inl ⟨rfl,r.1.toNat,(encI r.1).length,hk,g2,by rw[←hk],by rw[←hk];exact g3,g5, ?_⟩
    have h4:r.1.toNat≤(b.length-(encI r.1).length)/l:=by omega
    have h5:=(Nat.le_div_iff_mul_le hl).1 h4
    omega
 ·rw[if_neg h1] at h;cases h;exact .inr ⟨h1,rfl,rfl⟩
theorem Zc {k l:Nat} {r:List Int} (hl:0<l) (hk:k*l≤r.length) (hr:r.length<2^28):eu (encI ((k:Nat):Int)++r) ((l:Nat):Int)=(((k:Nat):Int),(((encI ((k:Nat):Int)).length:Nat):Int),0):=by
 have hkl:k≤k*l:=Nat.le_mul_of_pos_right k hl
 have hrI:rI ((k:Nat):Int):=vM (by omega)
 have hel:=pV ((k:Nat):Int)
 unfold eu
 rw[Y0 hrI]
 generalize (encI ((k:Nat):Int))=E at*
 show (if (0:Int)=0 then (if ((k:Nat):Int)<0 then _ else _) else _)=_
 rw[if_pos rfl,if_neg (by omega)]
 have e1:IntKind.wrap IntKind.i64 ((((E++r).length:Nat):Int)-((E.length:Nat):Int))=((r.length:Nat):Int):=by
  rw[List.length_append,dH (by omega) (by omega)];omega
 have e2:IntKind.wrap IntKind.i64 (Int.tdiv ((r.length:Nat):Int) ((l:Nat):Int))=((r.length/l:Nat):Int):=by
  have:Int.tdiv ((r.length:Nat):Int) ((l:Nat):Int)=((r.length/l:Nat):Int):=by
   rw[Int.tdiv_eq_ediv_of_nonneg (by omega),Int.natCast_ediv]
  rw[this]
  have hle:=Nat.div_le_self r.length l
  generalize r.length/l=q at hle⊢
  exact dH (by omega) (by omega)
 show (if ((k:Nat):Int)>IntKind.wrap IntKind.i64 (Int.tdiv (IntKind.wrap IntKind.i64 ((((E++r).length:Nat):Int)-((E.length:Nat):Int))) ((l:Nat):Int)) then _ else _)=_
 rw[e1,e2,if_neg]
 have:=(Nat.le_div_iff_mul_le hl).2 hk
 omega
def gX {α:Type} (g:List Int→α×Int×Int) (l:Int) (b:List Int):List α×Int×Int:=if (eu b l).2.2=0 then
    (if (gL g (eu b l).1.toNat (b.drop (eu b l).2.1.toNat)).2.2=0 then ((gL g (eu b l).1.toNat (b.drop (eu b l).2.1.toNat)).1,(eu b l).2.1+(gL g (eu b l).1.toNat (b.drop (eu b l).2.1.toNat)).2.1,0) else ([],0,(gL g (eu b l).1.toNat (b.drop (eu b l).2.1.toNat)).2.2))
 else ([],0,(eu b l).2.2)
theorem Zd {α:Type} {q:List α×Int×Int} {at_:Int}:(Sum.elim (fun (q9:Int×List α)=>some ((q9.2,(q9.1,(0:Int))))) (fun (nT:(List α)×Int×Int)=>some ((nT.1,(nT.2.1,nT.2.2)))) (if q.2.2=0 then Sum.inl ((at_+q.2.1),[]++q.1) else Sum.inr ([],(0,q.2.2))))=some (if q.2.2=0 then (q.1,at_+q.2.1,0) else ([],0,q.2.2)):=by
 by_cases h:q.2.2=0
 ·rw[if_pos h,if_pos h];rfl
 ·rw[if_neg h,if_neg h];rfl
theorem aks {b:List Int} (hB:bN b):(gI b).2.2=0→∃u:Nat,(gI b).2.1=((u:Nat):Int)∧u≤b.length∧0<u:=fun h=>by
 obtain⟨h1,h2,h3,h4,h5⟩:=Q0 hB (x:=(gI b).1) (u:=(gI b).2.1) (by rw[←h])
 exact⟨_,h2,h5,h4⟩
theorem Ze {n:Nat} {b:List Int} (hB:bN b) (hb:b.length<2^28) (hn:2^20<n) {G:List Int→Option (Int×Int×Int)} (hG:∀c,bN c→c.length<2^62→G c=some (gI c)) {L:Int×Int×Int→Nat→Int→List Int→Int→Option ((Int×List Int)⊕(List Int×Int×Int))}
 (hs:∀r3 m x4 x5 x6,L r3 (m+1) x4 x5 x6=bif decide (x6<r3.1) then bif fB x4 b.length then (G (List.drop (Int.toNat x4) b)).bind fun (r7:Int×Int×Int)=>
    bif r7.2.2 !=((0:Int)) then some (.inr (([],((0:Int),r7.2.2)))) else bif bX (x5.length+([r7.1].length)) 8 then L r3 m (IntKind.wrap IntKind.i64 (x4+r7.2.1)) (x5++[r7.1]) (IntKind.wrap IntKind.i64 (x6+((1:Int)))) else none else none else some (.inl ((x4,x5))))
 (hbn:b.length<2^20):
 (bif (eu b 1).2.2 !=((0:Int)) then some (([],((0:Int),(eu b 1).2.2))) else (L (eu b 1) n (eu b 1).2.1 [] 0).bind fun (r8:(Int×List Int)⊕((List Int)×Int×Int))=>Sum.elim (fun (q9:Int×List Int)=>some ((q9.2,(q9.1,(0:Int))))) (fun (nT:(List Int)×Int×Int)=>some ((nT.1,(nT.2.1,nT.2.2)))) r8)=some (gX gI 1 b):=by
 unfold gX
 rcases Gx hB hb (l:=1) (by decide) (c:=(eu b 1).1) (u:=(eu b 1).2.1) (e:=(eu b 1).2.2) rfl with ⟨h0,k,v,h1,h2,h3,h4,h5,h6⟩| ⟨h0,_,_⟩
 ·rw[if_pos h0]
  refine bF (by rw[h0];rfl) ?_
  have hk:k≤b.length:=by omega
  have:=Ra (g:=gI) (G:=G) (b:=b) (cnt:=k) (bY:=8) (L:=L (eu b 1)) (by decide) hb (by omega) (fun m x4 x5 x6=>by rw[hs,h1]) (fun _ _=>True) (fun at_ k _ hat=>⟨hG _ (xA hB at_) (by rw[List.length_drop];omega),fun he=>by
   obtain⟨u,hu,hle,_⟩:=aks (xA hB at_) he
   rw[List.length_drop] at hle
   exact⟨u,hu,trivial,by omega⟩⟩) k v n 0 [] (by omega) (by omega) trivial h5 rfl
  rw[h2,h1,Int.toNat_natCast,Int.toNat_natCast]
  exact bs this Zd
 ·rw[if_neg h0]
  exact bT (by rw[bne_iff_ne];exact h0) rfl
theorem akt {n:Nat} {b:List Int} (hB:bN b) (hb:b.length<2^20) (hn:2^20<n):Cy n b=some (gX gI 1 b):=by
 rw[ajW]
 refine bs (?_:Cw n (b,((1:Int),((),())))=some (gX gI 1 b)) rfl
 rw[ajV]
 exact bs (Za hB (by omega) (by omega) (by decide)) (Ze hB (by omega) hn (fun c hc hl=>Y2 hc hl (by omega)) (L:=fun r3 m x4 x5 x6=>Gi n b r3 m (x4,(x5,x6))) (fun r3 m x4 x5 x6=>ajU n b r3 m x4 x5 x6) hb)
theorem aku {n:Nat} {b:List Int} (hB:bN b) (hb:b.length<2^20) (hn:2^20<n):CF n b=some (gX gI 1 b):=by
 rw[aj7]
 exact bs (Zb hB (by omega) (by omega) (by decide)) (Ze hB (by omega) hn (fun c hc hl=>Y8 hc hl (by omega)) (L:=fun r3 m x4 x5 x6=>Gp n b r3 m (x4,(x5,x6))) (fun r3 m x4 x5 x6=>aj6 n b r3 m x4 x5 x6) hb)
end Sh
end
section
open Go Go.Proofs Aq
namespace Sh
def takeD (b:List Int):aA:=⟨b.getD 0 0,b.getD 1 0,b.getD 2 0,b.getD 3 0,b.getD 4 0,b.getD 5 0,b.getD 6 0,b.getD 7 0,b.getD 8 0,b.getD 9 0,b.getD 10 0,b.getD 11 0,b.getD 12 0,b.getD 13 0,b.getD 14 0,b.getD 15 0⟩
def gD (b:List Int):aA×Int×Int:=(takeD b,16,0)
theorem getD_take {b:List Int} {j:Nat} (h:j<16):(b.take 16).getD j 0=b.getD j 0:=by
 rw[List.getD_eq_getElem?_getD,List.getD_eq_getElem?_getD,List.getElem?_take_of_lt h]
theorem akv {n:Nat} {b:List Int} (h:16≤b.length):zh n b=some (gD b):=by
 rw[ajX]
 have e:Int.toNat (16:Int)=16:=rfl
 rw[e]
 refine bT (by unfold fB;exact decide_eq_true (by omega)) (bT (decide_eq_true ⟨by decide,by rw[List.length_take];omega⟩) ?_)
 simp only[getD_take (show 0<16 by decide),getD_take (show 1<16 by decide),getD_take (show 2<16 by decide),getD_take (show 3<16 by decide),getD_take (show 4<16 by decide),getD_take (show 5<16 by decide),getD_take (show 6<16 by decide),getD_take (show 7<16 by decide),getD_take (show 8<16 by decide),getD_take (show 9<16 by decide),getD_take (show 10<16 by decide),getD_take (show 11<16 by decide),getD_take (show 12<16 by decide),getD_take (show 13<16 by decide),getD_take (show 14<16 by decide),getD_take (show 15<16 by decide)]
 rfl
theorem akw:∀{b:List Int},16≤b.length→b=dD (takeD b)++b.drop 16
 |a0::a1::a2::a3::a4::a5::a6::a7::a8::a9::a10::a11::a12::a13::a14::a15::b,_=>rfl
 | [],h| [_],h| [_,_],h| [_,_,_],h| [_,_,_,_],h| [_,_,_,_,_],h| [_,_,_,_,_,_],h| [_,_,_,_,_,_,_],h| [_,_,_,_,_,_,_,_],h| [_,_,_,_,_,_,_,_,_],h| [_,_,_,_,_,_,_,_,_,_],h| [_,_,_,_,_,_,_,_,_,_,_],h| [_,_,_,_,_,_,_,_,_,_,_,_],h| [_,_,_,_,_,_,_,_,_,_,_,_,_],h| [_,_,_,_,_,_,_,_,_,_,_,_,_,_],h| [_,_,_,_,_,_,_,_,_,_,_,_,_,_,_],h=>by simp at h
theorem Gy:∀(k:Nat) (b:List Int),(gL gD k b).2.2=0
 |0,_=>rfl
 |k+1,b=>by
  unfold gL
  rw[if_pos (show (gD b).2.2=0 from rfl),if_pos (Gy k _)]
theorem LJ (k:Nat) (b:List Int):gL gD (k+1) b=(takeD b::(gL gD k (b.drop 16)).1,(16:Int)+(gL gD k (b.drop 16)).2.1,0):=by
 conv=>lhs;unfold gL
 rw[if_pos (show (gD b).2.2=0 from rfl),if_pos (Gy k _)];rfl
theorem Rb:∀(k:Nat) (b:List Int),(gL gD k b).2.1=((16*k:Nat):Int)
 |0,_=>rfl
 |k+1,b=>by
  rw[LJ]
  show (16:Int)+_=_
  rw[Rb k];omega
theorem akx {n:Nat} {b:List Int} (hB:bN b) (hb:b.length<2^20) (hn:2^20<n):CB n b=some (gX gD 16 b):=by
 rw[aj0]
 refine bs (?_:Cz n (b,((16:Int),((),())))=some (gX gD 16 b)) rfl
 rw[ajZ]
 refine bs (Za hB (by omega) (by omega) (by decide)) ?_
 unfold gX
 rcases Gx hB (by omega) (l:=16) (by decide) (c:=(eu b 16).1) (u:=(eu b 16).2.1) (e:=(eu b 16).2.2) rfl with ⟨h0,k,v,h1,h2,h3,h4,h5,h6⟩| ⟨h0,_,_⟩
 ·rw[if_pos h0]
  refine bF (by rw[h0];rfl) ?_
  have hk:k≤b.length:=by omega
  have:=Ra (g:=gD) (G:=zh n) (b:=b) (cnt:=k) (bY:=16) (L:=fun m x4 x5 x6=>CU n b (eu b 16) m (x4,(x5,x6))) (by decide) (by omega) (by omega) (fun m x4 x5 x6=>by
   show CU n b (eu b 16) (m+1) (x4,(x5,x6))=_
   rw[ajY,h1];rfl) (fun at_ k=>at_+16*k≤b.length) (fun at_ k hv hat=>⟨akv (by rw[List.length_drop];omega),fun _=>⟨16,rfl,by omega,by omega⟩⟩) k v n 0 [] (by omega) (by omega) (by omega) h5 rfl
  rw[h2,h1,Int.toNat_natCast,Int.toNat_natCast]
  exact bs this Zd
 ·rw[if_neg h0]
  exact bT (by rw[bne_iff_ne];exact h0) rfl
theorem aky {b:List Int} {i:Nat} (h:i<b.length):aQ b ((i:Nat):Int)=some (b.getD i 0):=by
 rw[Qp,List.getD_eq_getElem?_getD,List.getElem?_eq_getElem h];rfl
theorem Zf {n:Nat} {b:List Int} {r2:Int×Int×Int} {cnt:Nat} (h1:r2.1=((cnt:Nat):Int)) (hl:b.length<2^28) (hc:cnt<2^28):∀(k at_ m i:Nat) (a:List aA),i+k=cnt→k<m→at_+16*k≤b.length→a.length=i→
 CX n b r2 m (((at_:Nat):Int),(a,((i:Nat):Int)))=some ((((at_:Nat):Int)+(gL gD k (b.drop at_)).2.1),a++(gL gD k (b.drop at_)).1)
 |0,at_,m,i,a,hi,hm,_,_=>by
  obtain⟨m,rfl⟩:∃q,m=q+1:=⟨m-1,by omega⟩
  rw[YL,h1]
  refine bF (decide_eq_false (by omega)) ?_
  show _=some (((at_:Nat):Int)+0,a++[])
  rw[Int.add_zero,List.append_nil]
 |k+1,at_,m,i,a,hi,hm,hv,ha=>by
  obtain⟨m,rfl⟩:∃q,m=q+1:=⟨m-1,by omega⟩
  have hw:∀j:Nat,j<17→IntKind.wrap IntKind.i64 (((at_:Nat):Int)+((j:Nat):Int))=((at_+j:Nat):Int):=fun j hj=>XP (by omega)
  have hx:∀j:Nat,j<16→aQ b (IntKind.wrap IntKind.i64 (((at_:Nat):Int)+((j:Nat):Int)))=some ((b.drop at_).getD j 0):=fun j hj=>by
   rw[hw j (by omega),aky (by omega)]
   congr 1
   rw[List.getD_eq_getElem?_getD,List.getD_eq_getElem?_getD,List.getElem?_drop]
  rw[YL,h1]
  refine bT (decide_eq_true (by omega)) ?_
  refine bs (hx 0 (by decide)) (bs (hx 1 (by decide)) (bs (hx 2 (by decide)) (bs (hx 3 (by decide)) (bs (hx 4 (by decide)) (bs (hx 5 (by decide)) (bs (hx 6 (by decide)) (bs (hx 7 (by decide)) (bs (hx 8 (by decide)) (bs (hx 9 (by decide)) (bs (hx 10 (by decide)) (bs (hx 11 (by decide)) (bs (hx 12 (by decide)) (bs (hx 13 (by decide)) (bs (hx 14 (by decide)) (bs (hx 15 (by decide)) ?_)))))))))))))))
  refine bT (jD (by rw[List.length_singleton];omega) (by decide)) ?_
  have:=Zf (n:=n) h1 hl hc k (at_+16) m (i+1) (a++[takeD (b.drop at_)]) (by omega) (by omega) (by omega) (by rw[List.length_append,List.length_singleton];omega)
  rw[mV (by omega),show IntKind.wrap IntKind.i64 (((at_:Nat):Int)+(16:Int))=((at_+16:Nat):Int) from hw 16 (by decide)]
  show CX n b r2 m (((at_+16:Nat):Int),(a++[takeD (b.drop at_)],((i+1:Nat):Int)))=_
  rw[this]
  rw[LJ,List.drop_drop]
  show some (_,_)=some (((at_:Nat):Int)+((16:Int)+_),a++(takeD (b.drop at_)::_))
  rw[List.append_assoc]
  congr 2
  push_cast
  omega
theorem akz {n:Nat} {b:List Int} (hB:bN b) (hb:b.length<2^20) (hn:2^20<n):CG n b=some (gX gD 16 b):=by
 rw[aj8]
 refine bs (Zb hB (by omega) (by omega) (by decide)) ?_
 unfold gX
 rcases Gx hB (by omega) (l:=16) (by decide) (c:=(eu b 16).1) (u:=(eu b 16).2.1) (e:=(eu b 16).2.2) rfl with ⟨h0,k,v,h1,h2,h3,h4,h5,h6⟩| ⟨h0,_,_⟩
 ·rw[if_pos h0]
  refine bF (by rw[h0];rfl) ?_
  rw[h2,h1,Int.toNat_natCast,Int.toNat_natCast,if_pos (Gy k _)]
  have:=Zf (n:=n) (b:=b) (r2:=eu b 16) h1 (by omega) (by omega) k v n 0 [] (by omega) (by omega) (by omega) rfl
  exact bs this rfl
 ·rw[if_neg h0]
  exact bT (by rw[bne_iff_ne];exact h0) rfl
theorem Zg:∀(l:List Int) (r:List Int),(∀x∈l,rI x)→gL gI l.length (l.flatMap encI++r)=(l,(((l.flatMap encI).length:Nat):Int),0)
 | [],r,_=>rfl
 |x::l,r,h=>by
  show gL gI (l.length+1) _=_
  unfold gL
  have hx:=h x (List.mem_cons_self ..)
  have e0:(x::l).flatMap encI++r=encI x++(l.flatMap encI++r):=by rw[List.flatMap_cons,List.append_assoc]
  rw[e0,Y0 hx]
  show (if (0:Int)=0 then _ else _)=_
  rw[if_pos rfl]
  have e1:(encI x++(l.flatMap encI++r)).drop ((((encI x).length:Nat):Int)).toNat=l.flatMap encI++r:=by rw[Int.toNat_natCast,List.drop_left]
  show (if (gL gI l.length ((encI x++(l.flatMap encI++r)).drop ((((encI x).length:Nat):Int)).toNat)).2.2=0 then (x::(gL gI l.length ((encI x++(l.flatMap encI++r)).drop ((((encI x).length:Nat):Int)).toNat)).1,(((encI x).length:Nat):Int)+(gL gI l.length ((encI x++(l.flatMap encI++r)).drop ((((encI x).length:Nat):Int)).toNat)).2.1,(0:Int)) else _)=_
  rw[e1,Zg l r (fun y hy=>h y (List.mem_cons_of_mem _ hy))]
  show (if (0:Int)=0 then _ else _)=_
  rw[if_pos rfl]
  show (_,_)=(_,_)
  congr 2
  rw[List.flatMap_cons,List.length_append];push_cast;rfl
theorem Zh:∀(k:Nat) (b:List Int),bN b→(gL gI k b).2.2=0→(∀x∈(gL gI k b).1,rI x)∧(gL gI k b).2.1=((((gL gI k b).1.flatMap encI).length:Nat):Int)∧b=(gL gI k b).1.flatMap encI++b.drop ((gL gI k b).1.flatMap encI).length
 |0,b,_,_=>⟨fun x hx=>(by cases hx),rfl,rfl⟩
 |k+1,b,hB,h=>by
  unfold gL at h⊢
  by_cases h1:(gI b).2.2=0
  ·rw[if_pos h1] at h⊢
   by_cases h2:(gL gI k (b.drop (gI b).2.1.toNat)).2.2=0
   ·rw[if_pos h2] at h⊢
    obtain⟨g1,g2,g3,g4,g5⟩:=Q0 hB (x:=(gI b).1) (u:=(gI b).2.1) (by rw[←h1])
    obtain⟨f1,f2,f3⟩:=Zh k (b.drop (gI b).2.1.toNat) (xA hB _) h2
    have e:(gI b).2.1.toNat=(encI (gI b).1).length:=by rw[g2,Int.toNat_natCast]
    rw[e] at f1 f2 f3⊢
    generalize gL gI k (b.drop (encI (gI b).1).length)=q at*
    generalize (gI b).1=x at*
    refine⟨fun y hy=> ?_, ?_, ?_⟩
    ·rcases List.mem_cons.1 hy with rfl|hy
     ·exact g1
     ·exact f1 y hy
    ·show (gI b).2.1+q.2.1=_
     rw[g2,f2,List.flatMap_cons,List.length_append];push_cast;rfl
    ·show b=(x::q.1).flatMap encI++b.drop ((x::q.1).flatMap encI).length
     rw[List.flatMap_cons,List.append_assoc,List.length_append,←List.drop_drop,←f3]
     exact g3
   ·rw[if_neg h2] at h;exact absurd h h2
  ·rw[if_neg h1] at h;exact absurd h h1
def fK (l:List aA):List Int:=encI ((l.length:Nat):Int)++l.flatMap dD
theorem LK (d:aA):(dD d).length=16:=rfl
theorem zy:∀l:List aA,(l.flatMap dD).length=16*l.length
 | []=>rfl
 |x::l=>by rw[List.flatMap_cons,List.length_append,zy l,LK,List.length_cons];omega
theorem Zi:∀(l:List aA) (r:List Int),(gL gD l.length (l.flatMap dD++r)).1=l
 | [],r=>rfl
 |x::l,r=>by
  show (gL gD (l.length+1) _).1=_
  have e0:(x::l).flatMap dD++r=dD x++(l.flatMap dD++r):=by rw[List.flatMap_cons,List.append_assoc]
  have e1:(dD x++(l.flatMap dD++r)).drop 16=l.flatMap dD++r:=rfl
  rw[e0,LJ,e1]
  show takeD _::(gL gD l.length (l.flatMap dD++r)).1=_
  rw[Zi l r]
  rfl
theorem Zj:∀(k:Nat) (b:List Int),16*k≤b.length→b=(gL gD k b).1.flatMap dD++b.drop (16*k)
 |0,b,_=>rfl
 |k+1,b,h=>by
  rw[LJ]
  have ih:=Zj k (b.drop 16) (by rw[List.length_drop];omega)
  show b=(takeD b::(gL gD k (b.drop 16)).1).flatMap dD++_
  rw[List.flatMap_cons,List.append_assoc,show 16*(k+1)=16+16*k by omega,←List.drop_drop,←ih]
  exact akw (by omega)
theorem akA {l:List Int} {r:List Int} (h:∀x∈l,rI x) (hl:(fD l++r).length<2^28):gX gI 1 (fD l++r)=(l,(((fD l).length:Nat):Int),0):=by
 have hge:∀l:List Int,(∀x∈l,rI x)→l.length≤(l.flatMap encI).length:=by
  intro l
  induction l with
  |nil=>intro _;exact Nat.le_refl _
  |cons x l ih=>
   intro h
   rw[List.flatMap_cons,List.length_append,List.length_cons]
   have h1:=ih fun y hy=>h y (List.mem_cons_of_mem _ hy)
   have h2:0< (encI x).length:=by
    unfold encI jU;split<;>simp
   omega
 have e0:fD l++r=encI ((l.length:Nat):Int)++(l.flatMap encI++r):=by unfold fD;rw[List.append_assoc]
 rw[e0] at hl⊢
 rw[List.length_append] at hl
 have hg:=Zc (k:=l.length) (l:=1) (r:=l.flatMap encI++r) (by decide) (by rw[List.length_append,Nat.mul_one];have:=hge l h;omega) (by omega)
 have hg:eu (encI ((l.length:Nat):Int)++(l.flatMap encI++r)) 1=_:=hg
 have hel:(fD l).length=(encI ((l.length:Nat):Int)).length+(l.flatMap encI).length:=by unfold fD;rw[List.length_append]
 rw[hel]
 unfold gX
 rw[hg]
 generalize (encI ((l.length:Nat):Int))=E
 show (if (0:Int)=0 then _ else _)=_
 rw[if_pos rfl]
 have e1:(E++(l.flatMap encI++r)).drop (((E.length:Nat):Int)).toNat=l.flatMap encI++r:=by rw[Int.toNat_natCast,List.drop_left]
 show (if (gL gI (((l.length:Nat):Int)).toNat ((E++(l.flatMap encI++r)).drop (((E.length:Nat):Int)).toNat)).2.2=0 then ((gL gI (((l.length:Nat):Int)).toNat ((E++(l.flatMap encI++r)).drop (((E.length:Nat):Int)).toNat)).1,((E.length:Nat):Int)+(gL gI (((l.length:Nat):Int)).toNat ((E++(l.flatMap encI++r)).drop (((E.length:Nat):Int)).toNat)).2.1,(0:Int)) else _)=_
 rw[e1,Int.toNat_natCast,Zg l r h]
 show (if (0:Int)=0 then _ else _)=_
 rw[if_pos rfl]
 show (_,_)=(_,_)
 congr 2
theorem Zk {b:List Int} (hB:bN b) (hb:b.length<2^28) (h:(gX gI 1 b).2.2=0):(∀x∈(gX gI 1 b).1,rI x)∧(gX gI 1 b).2.1=(((fD (gX gI 1 b).1).length:Nat):Int)∧b=fD (gX gI 1 b).1++b.drop (fD (gX gI 1 b).1).length:=by
 unfold gX at h⊢
 rcases Gx hB hb (l:=1) (by decide) (c:=(eu b 1).1) (u:=(eu b 1).2.1) (e:=(eu b 1).2.2) rfl with ⟨h0,k,v,h1,h2,h3,h4,h5,h6⟩| ⟨h0,_,_⟩
 ·rw[if_pos h0] at h⊢
  rw[h1,h2,Int.toNat_natCast,Int.toNat_natCast] at h⊢
  by_cases h7:(gL gI k (b.drop v)).2.2=0
  ·rw[if_pos h7] at h⊢
   obtain⟨f1,f2,f3⟩:=Zh k (b.drop v) (xA hB _) h7
   have hlen:=Q9 h7
   refine⟨f1, ?_, ?_⟩
   ·show ((v:Nat):Int)+(gL gI k (b.drop v)).2.1=_
    rw[f2]
    unfold fD
    rw[List.length_append,hlen,←h3];push_cast;rfl
   ·show b=fD (gL gI k (b.drop v)).1++b.drop (fD (gL gI k (b.drop v)).1).length
    unfold fD
    rw[hlen,List.append_assoc,List.length_append,←h3,←List.drop_drop,←f3]
    exact h4
  ·rw[if_neg h7] at h;exact absurd h h7
 ·rw[if_neg h0] at h;exact absurd h h0
theorem akB {l:List aA} {r:List Int} (hl:(fK l++r).length<2^28):gX gD 16 (fK l++r)=(l,(((fK l).length:Nat):Int),0):=by
 have e0:fK l++r=encI ((l.length:Nat):Int)++(l.flatMap dD++r):=by unfold fK;rw[List.append_assoc]
 have hf:=zy l
 rw[e0] at hl⊢
 rw[List.length_append] at hl
 have hg:=Zc (k:=l.length) (l:=16) (r:=l.flatMap dD++r) (by decide) (by rw[List.length_append,hf];omega) (by omega)
 have hg:eu (encI ((l.length:Nat):Int)++(l.flatMap dD++r)) 16=_:=hg
 have hel:(fK l).length=(encI ((l.length:Nat):Int)).length+16*l.length:=by unfold fK;rw[List.length_append,hf]
 rw[hel]
 unfold gX
 rw[hg]
 generalize (encI ((l.length:Nat):Int))=E
 show (if (0:Int)=0 then _ else _)=_
 rw[if_pos rfl]
 have e1:(E++(l.flatMap dD++r)).drop (((E.length:Nat):Int)).toNat=l.flatMap dD++r:=by rw[Int.toNat_natCast,List.drop_left]
 show (if (gL gD (((l.length:Nat):Int)).toNat ((E++(l.flatMap dD++r)).drop (((E.length:Nat):Int)).toNat)).2.2=0 then ((gL gD (((l.length:Nat):Int)).toNat ((E++(l.flatMap dD++r)).drop (((E.length:Nat):Int)).toNat)).1,((E.length:Nat):Int)+(gL gD (((l.length:Nat):Int)).toNat ((E++(l.flatMap dD++r)).drop (((E.length:Nat):Int)).toNat)).2.1,(0:Int)) else _)=_
 rw[e1,Int.toNat_natCast,if_pos (Gy _ _),Zi,Rb]
 show (_,_)=(_,_)
 congr 2
theorem Zl {b:List Int} (hB:bN b) (hb:b.length<2^28) (h:(gX gD 16 b).2.2=0):(gX gD 16 b).2.1=(((fK (gX gD 16 b).1).length:Nat):Int)∧b=fK (gX gD 16 b).1++b.drop (fK (gX gD 16 b).1).length:=by
 unfold gX at h⊢
 rcases Gx hB hb (l:=16) (by decide) (c:=(eu b 16).1) (u:=(eu b 16).2.1) (e:=(eu b 16).2.2) rfl with ⟨h0,k,v,h1,h2,h3,h4,h5,h6⟩| ⟨h0,_,_⟩
 ·rw[if_pos h0] at h⊢
  rw[h1,h2,Int.toNat_natCast,Int.toNat_natCast] at h⊢
  have h7:=Gy k (b.drop v)
  rw[if_pos h7] at h⊢
  have f3:=Zj k (b.drop v) (by rw[List.length_drop];omega)
  have hlen:=Q9 h7
  have hf:=zy (gL gD k (b.drop v)).1
  rw[hlen] at hf
  refine⟨?_, ?_⟩
  ·show ((v:Nat):Int)+(gL gD k (b.drop v)).2.1=_
   rw[Rb]
   unfold fK
   rw[List.length_append,hlen,←h3,hf];push_cast;rfl
  ·show b=fK (gL gD k (b.drop v)).1++b.drop (fK (gL gD k (b.drop v)).1).length
   unfold fK
   rw[hlen,List.append_assoc,List.length_append,←h3,hf,←List.drop_drop,←f3]
   exact h4
 ·rw[if_neg h0] at h;exact absurd h h0
end Sh
end
section
open Go Go.Proofs Aq
namespace Sh
theorem Zm (a b:Bool):(bif a then true else b)=(a||b):=by cases a<;>rfl
def dz:aA:=⟨0,0,0,0,0,0,0,0,0,0,0,0,0,0,0,0⟩
def rz:Root:=⟨0,0,0,0,dz,dz,[],dz,0,dz,0,0,⟨0,0,0,0,0,0,0,0,0,0,0,0,0,0,0,0⟩⟩
def uM (r:Root):Int×Int×Int×Int×Int×Int×Int×Int×Int×Int×Int×Int×Int×Int×Int×Int×Int×Int×Int×Int×Int×Int×Int×Int×Int×Int×Int×Int×Int×Int×Int×Int×Int×Int×Int×Int×(List Mark)×Int×Int×Int×Int×Int×Int×Int×Int×Int×Int×Int×Int×Int×Int×Int×Int×Int×Int×Int×Int×Int×Int×Int×Int×Int×Int×Int×Int×Int×Int×Int×Int×Int×Int×Int×Int×Int×Int×Int×Int×Int×Int×Int×Int×Int×Int×Int×Int×Int×Int×Int:=(r.jR,(r.fC,(r.Day,(r.Floor,(r.au.b0,(r.au.b1,(r.au.b2,(r.au.b3,(r.au.b4,(r.au.b5,(r.au.b6,(r.au.b7,(r.au.b8,(r.au.b9,(r.au.b10,(r.au.b11,(r.au.b12,(r.au.b13,(r.au.b14,(r.au.b15,(r.ak.b0,(r.ak.b1,(r.ak.b2,(r.ak.b3,(r.ak.b4,(r.ak.b5,(r.ak.b6,(r.ak.b7,(r.ak.b8,(r.ak.b9,(r.ak.b10,(r.ak.b11,(r.ak.b12,(r.ak.b13,(r.ak.b14,(r.ak.b15,(r.Marks,(r.Gone.b0,(r.Gone.b1,(r.Gone.b2,(r.Gone.b3,(r.Gone.b4,(r.Gone.b5,(r.Gone.b6,(r.Gone.b7,(r.Gone.b8,(r.Gone.b9,(r.Gone.b10,(r.Gone.b11,(r.Gone.b12,(r.Gone.b13,(r.Gone.b14,(r.Gone.b15,(r.jS,(r.ay.b0,(r.ay.b1,(r.ay.b2,(r.ay.b3,(r.ay.b4,(r.ay.b5,(r.ay.b6,(r.ay.b7,(r.ay.b8,(r.ay.b9,(r.ay.b10,(r.ay.b11,(r.ay.b12,(r.ay.b13,(r.ay.b14,(r.ay.b15,(r.jT,(r.iQ,(r.Seal.b0,(r.Seal.b1,(r.Seal.b2,(r.Seal.b3,(r.Seal.b4,(r.Seal.b5,(r.Seal.b6,(r.Seal.b7,(r.Seal.b8,(r.Seal.b9,(r.Seal.b10,(r.Seal.b11,(r.Seal.b12,(r.Seal.b13,(r.Seal.b14,r.Seal.b15)))))))))))))))))))))))))))))))))))))))))))))))))))))))))))))))))))))))))))))))))))))))
def CZ (r:Root) (l:List Mark):Root:=⟨r.jR,r.fC,r.Day,r.Floor,r.au,r.ak,l,r.Gone,r.jS,r.ay,r.jT,r.iQ,r.Seal⟩
def zA (x:Seal):aA:=⟨x.b0,x.b1,x.b2,x.b3,x.b4,x.b5,x.b6,x.b7,x.b8,x.b9,x.b10,x.b11,x.b12,x.b13,x.b14,x.b15⟩
def LM (x:aA):Seal:=⟨x.b0,x.b1,x.b2,x.b3,x.b4,x.b5,x.b6,x.b7,x.b8,x.b9,x.b10,x.b11,x.b12,x.b13,x.b14,x.b15⟩
def mg:List Int→List aA→List Mark
 |c::cs,a::b::ds=>⟨a,b,c⟩::mg cs ds
 |_,_=>[]
def qX (n:List Int) (d:List aA):Root:=⟨n.getD 0 0,n.getD 1 0,n.getD 2 0,n.getD 3 0,d.getD 0 dz,d.getD 1 dz,mg (n.drop 7) (d.drop 4),d.getD 2 dz,n.getD 4 0,d.getD 3 dz,n.getD 5 0,n.getD 6 0,LM (d.getD (d.length-1) dz)⟩
theorem su {α:Type} {b:List α} {i:Nat} (z:α) (h:i<b.length):aQ b ((i:Nat):Int)=some (b.getD i z):=by
 rw[Qp,List.getD_eq_getElem?_getD,List.getElem?_eq_getElem h];rfl
theorem Zn {d:List aA} {i:Nat} (h:i+1<d.length):d.drop i=d.getD i dz::d.getD (i+1) dz::d.drop (i+2):=by
 rw[List.drop_eq_getElem_cons (show i<d.length by omega),List.drop_eq_getElem_cons h]
 rw[List.getD_eq_getElem?_getD,List.getD_eq_getElem?_getD,List.getElem?_eq_getElem (show i<d.length by omega),List.getElem?_eq_getElem h];rfl
theorem drop_one {n:List Int} {i:Nat} (h:i<n.length):n.drop i=n.getD i 0::n.drop (i+1):=by
 rw[List.drop_eq_getElem_cons h,List.getD_eq_getElem?_getD,List.getElem?_eq_getElem h];rfl
theorem Zo (n:Nat) (r2:(List Int)×Int×Int) (r3:(List aA)×Int×Int) (m:Nat) (fJ:Int) (r:Root):zq n r2 r3 (m+1) (fJ,uM r)=
 bif decide (fJ< ((((List.drop (Int.toNat ((7:Int))) r2.1).length:Nat):Int))) then
  (aQ (List.drop (Int.toNat ((7:Int))) r2.1) fJ).bind fun (c:Int)=>
  (aQ r3.1 (IntKind.wrap IntKind.i64 (((4:Int))+(IntKind.wrap IntKind.i64 (((2:Int))*fJ))))).bind fun (a:aA)=>
  (aQ r3.1 (IntKind.wrap IntKind.i64 (((5:Int))+(IntKind.wrap IntKind.i64 (((2:Int))*fJ))))).bind fun (b:aA)=>
  bif bX (r.Marks.length+([(⟨a,b,c⟩:Mark)].length)) 40 then
   zq n r2 r3 m (IntKind.wrap IntKind.i64 (fJ+((1:Int))),uM (CZ r (r.Marks++[(⟨a,b,c⟩:Mark)])))
  else
   none
 else
  some ((),uM r):=aj1 n r2 r3 m fJ r.jR r.fC r.Day r.Floor r.au.b0 r.au.b1 r.au.b2 r.au.b3 r.au.b4 r.au.b5 r.au.b6 r.au.b7 r.au.b8 r.au.b9 r.au.b10 r.au.b11 r.au.b12 r.au.b13 r.au.b14 r.au.b15 r.ak.b0 r.ak.b1 r.ak.b2 r.ak.b3 r.ak.b4 r.ak.b5 r.ak.b6 r.ak.b7 r.ak.b8 r.ak.b9 r.ak.b10 r.ak.b11 r.ak.b12 r.ak.b13 r.ak.b14 r.ak.b15 r.Marks r.Gone.b0 r.Gone.b1 r.Gone.b2 r.Gone.b3 r.Gone.b4 r.Gone.b5 r.Gone.b6 r.Gone.b7 r.Gone.b8 r.Gone.b9 r.Gone.b10 r.Gone.b11 r.Gone.b12 r.Gone.b13 r.Gone.b14 r.Gone.b15 r.jS r.ay.b0 r.ay.b1 r.ay.b2 r.ay.b3 r.ay.b4 r.ay.b5 r.ay.b6 r.ay.b7 r.ay.b8 r.ay.b9 r.ay.b10 r.ay.b11 r.ay.b12 r.ay.b13 r.ay.b14 r.ay.b15 r.jT r.iQ r.Seal.b0 r.Seal.b1 r.Seal.b2 r.Seal.b3 r.Seal.b4 r.Seal.b5 r.Seal.b6 r.Seal.b7 r.Seal.b8 r.Seal.b9 r.Seal.b10 r.Seal.b11 r.Seal.b12 r.Seal.b13 r.Seal.b14 r.Seal.b15
theorem Zp {n:Nat} {r2:(List Int)×Int×Int} {r3:(List aA)×Int×Int} {k:Nat} (h1:r2.1.length=7+k) (h2:r3.1.length=5+2*k) (hk:k<2^20) (r:Root):∀(j i m:Nat) (a:List Mark),i+j=k→j<m→a.length=i→
 zq n r2 r3 m (((i:Nat):Int),uM (CZ r a))=some ((),uM (CZ r (a++mg (r2.1.drop (7+i)) (r3.1.drop (4+2*i)))))
 |0,i,m,a,hi,hm,ha=>by
  obtain⟨m,rfl⟩:∃q,m=q+1:=⟨m-1,by omega⟩
  rw[Zo]
  have e:r2.1.drop (7+i)=[]:=List.drop_eq_nil_of_le (by omega)
  rw[e,show mg [] (r3.1.drop (4+2*i))=[] from rfl,List.append_nil]
  exact bF (decide_eq_false (by rw[List.length_drop];show¬((i:Nat):Int)< ((r2.1.length-7:Nat):Int);omega)) rfl
 |j+1,i,m,a,hi,hm,ha=>by
  obtain⟨m,rfl⟩:∃q,m=q+1:=⟨m-1,by omega⟩
  rw[Zo,drop_one (n:=r2.1) (show 7+i<r2.1.length by omega),Zn (d:=r3.1) (show 4+2*i+1<r3.1.length by omega)]
  have ih:=Zp (n:=n) h1 h2 hk r j (i+1) m (a++[⟨r3.1.getD (4+2*i) dz,r3.1.getD (4+2*i+1) dz,r2.1.getD (7+i) 0⟩]) (by omega) (by omega) (by rw[List.length_append,List.length_singleton];omega)
  rw[List.append_assoc,show 7+(i+1)=7+i+1 by omega,show 4+2*(i+1)=4+2*i+2 by omega] at ih
  have e4:IntKind.wrap IntKind.i64 ((4:Int)+IntKind.wrap IntKind.i64 ((2:Int)*((i:Nat):Int)))=((4+2*i:Nat):Int):=by rw[dH (i:=(2:Int)*_) (by omega) (by omega),dH (by omega) (by omega)];omega
  have e5:IntKind.wrap IntKind.i64 ((5:Int)+IntKind.wrap IntKind.i64 ((2:Int)*((i:Nat):Int)))=((4+2*i+1:Nat):Int):=by rw[dH (i:=(2:Int)*_) (by omega) (by omega),dH (by omega) (by omega)];omega
  have hA:aQ r3.1 (IntKind.wrap IntKind.i64 ((4:Int)+IntKind.wrap IntKind.i64 ((2:Int)*((i:Nat):Int))))=some (r3.1.getD (4+2*i) dz):=by rw[e4];exact su dz (by omega)
  have hB:aQ r3.1 (IntKind.wrap IntKind.i64 ((5:Int)+IntKind.wrap IntKind.i64 ((2:Int)*((i:Nat):Int))))=some (r3.1.getD (4+2*i+1) dz):=by rw[e5];exact su dz (by omega)
  have hC:aQ (List.drop (Int.toNat ((7:Int))) r2.1) ((i:Nat):Int)=some (r2.1.getD (7+i) 0):=by
   rw[show Int.toNat (7:Int)=7 from rfl,su 0 (by rw[List.length_drop];omega),List.getD_eq_getElem?_getD,List.getElem?_drop,List.getD_eq_getElem?_getD]
  refine bT (decide_eq_true (by rw[List.length_drop];show ((i:Nat):Int)< ((r2.1.length-7:Nat):Int);omega)) (bs hC (bs hA (bs hB (bT (jD (by rw[List.length_singleton];show a.length+1<2^30;omega) (by decide)) ?_))))
  rw[mV (by omega)]
  exact ih
theorem Zq (n:Nat) (r2:(List Int)×Int×Int) (r3:(List aA)×Int×Int) (m:Nat) (fJ:Int) (r:Root):zx n r2 r3 (m+1) (fJ,uM r)=
 bif decide (fJ< (IntKind.wrap IntKind.i64 ((((r2.1.length:Nat):Int))-((7:Int))))) then
  (aQ r3.1 (IntKind.wrap IntKind.i64 (((4:Int))+(IntKind.wrap IntKind.i64 (((2:Int))*fJ))))).bind fun (a:aA)=>
  (aQ r3.1 (IntKind.wrap IntKind.i64 (((5:Int))+(IntKind.wrap IntKind.i64 (((2:Int))*fJ))))).bind fun (b:aA)=>
  (aQ r2.1 (IntKind.wrap IntKind.i64 (((7:Int))+fJ))).bind fun (c:Int)=>
  bif bX (r.Marks.length+([(⟨a,b,c⟩:Mark)].length)) 40 then
   zx n r2 r3 m (IntKind.wrap IntKind.i64 (fJ+((1:Int))),uM (CZ r (r.Marks++[(⟨a,b,c⟩:Mark)])))
  else
   none
 else
  some ((),uM r):=aj9 n r2 r3 m fJ r.jR r.fC r.Day r.Floor r.au.b0 r.au.b1 r.au.b2 r.au.b3 r.au.b4 r.au.b5 r.au.b6 r.au.b7 r.au.b8 r.au.b9 r.au.b10 r.au.b11 r.au.b12 r.au.b13 r.au.b14 r.au.b15 r.ak.b0 r.ak.b1 r.ak.b2 r.ak.b3 r.ak.b4 r.ak.b5 r.ak.b6 r.ak.b7 r.ak.b8 r.ak.b9 r.ak.b10 r.ak.b11 r.ak.b12 r.ak.b13 r.ak.b14 r.ak.b15 r.Marks r.Gone.b0 r.Gone.b1 r.Gone.b2 r.Gone.b3 r.Gone.b4 r.Gone.b5 r.Gone.b6 r.Gone.b7 r.Gone.b8 r.Gone.b9 r.Gone.b10 r.Gone.b11 r.Gone.b12 r.Gone.b13 r.Gone.b14 r.Gone.b15 r.jS r.ay.b0 r.ay.b1 r.ay.b2 r.ay.b3 r.ay.b4 r.ay.b5 r.ay.b6 r.ay.b7 r.ay.b8 r.ay.b9 r.ay.b10 r.ay.b11 r.ay.b12 r.ay.b13 r.ay.b14 r.ay.b15 r.jT r.iQ r.Seal.b0 r.Seal.b1 r.Seal.b2 r.Seal.b3 r.Seal.b4 r.Seal.b5 r.Seal.b6 r.Seal.b7 r.Seal.b8 r.Seal.b9 r.Seal.b10 r.Seal.b11 r.Seal.b12 r.Seal.b13 r.Seal.b14 r.Seal.b15
theorem Zr {n:Nat} {r2:(List Int)×Int×Int} {r3:(List aA)×Int×Int} {k:Nat} (h1:r2.1.length=7+k) (h2:r3.1.length=5+2*k) (hk:k<2^20) (r:Root):∀(j i m:Nat) (a:List Mark),i+j=k→j<m→a.length=i→
 zx n r2 r3 m (((i:Nat):Int),uM (CZ r a))=some ((),uM (CZ r (a++mg (r2.1.drop (7+i)) (r3.1.drop (4+2*i)))))
 |0,i,m,a,hi,hm,ha=>by
  obtain⟨m,rfl⟩:∃q,m=q+1:=⟨m-1,by omega⟩
  rw[Zq]
  have e:r2.1.drop (7+i)=[]:=List.drop_eq_nil_of_le (by omega)
  rw[e,show mg [] (r3.1.drop (4+2*i))=[] from rfl,List.append_nil]
  exact bF (decide_eq_false (by rw[dH (by omega) (by omega)];omega)) rfl
 |j+1,i,m,a,hi,hm,ha=>by
  obtain⟨m,rfl⟩:∃q,m=q+1:=⟨m-1,by omega⟩
  rw[Zq,drop_one (n:=r2.1) (show 7+i<r2.1.length by omega),Zn (d:=r3.1) (show 4+2*i+1<r3.1.length by omega)]
  have ih:=Zr (n:=n) h1 h2 hk r j (i+1) m (a++[⟨r3.1.getD (4+2*i) dz,r3.1.getD (4+2*i+1) dz,r2.1.getD (7+i) 0⟩]) (by omega) (by omega) (by rw[List.length_append,List.length_singleton];omega)
  rw[List.append_assoc,show 7+(i+1)=7+i+1 by omega,show 4+2*(i+1)=4+2*i+2 by omega] at ih
  have e4:IntKind.wrap IntKind.i64 ((4:Int)+IntKind.wrap IntKind.i64 ((2:Int)*((i:Nat):Int)))=((4+2*i:Nat):Int):=by rw[dH (i:=(2:Int)*_) (by omega) (by omega),dH (by omega) (by omega)];omega
  have e5:IntKind.wrap IntKind.i64 ((5:Int)+IntKind.wrap IntKind.i64 ((2:Int)*((i:Nat):Int)))=((4+2*i+1:Nat):Int):=by rw[dH (i:=(2:Int)*_) (by omega) (by omega),dH (by omega) (by omega)];omega
  have hA:aQ r3.1 (IntKind.wrap IntKind.i64 ((4:Int)+IntKind.wrap IntKind.i64 ((2:Int)*((i:Nat):Int))))=some (r3.1.getD (4+2*i) dz):=by rw[e4];exact su dz (by omega)
  have hB:aQ r3.1 (IntKind.wrap IntKind.i64 ((5:Int)+IntKind.wrap IntKind.i64 ((2:Int)*((i:Nat):Int))))=some (r3.1.getD (4+2*i+1) dz):=by rw[e5];exact su dz (by omega)
  have hC:aQ r2.1 (IntKind.wrap IntKind.i64 ((7:Int)+((i:Nat):Int)))=some (r2.1.getD (7+i) 0):=by
   rw[dH (by omega) (by omega),show (7:Int)+((i:Nat):Int)=((7+i:Nat):Int) by omega];exact su 0 (by omega)
  refine bT (decide_eq_true (by rw[dH (by omega) (by omega)];omega)) (bs hA (bs hB (bs hC (bT (jD (by rw[List.length_singleton];show a.length+1<2^30;omega) (by decide)) ?_))))
  rw[mV (by omega)]
  exact ih
def mh (b:List Int):Root×Int:=if (gX gI 1 b).2.2=0 then (if (gX gD 16 (b.drop (gX gI 1 b).2.1.toNat)).2.2=0 then
    (if (gX gI 1 b).2.1+(gX gD 16 (b.drop (gX gI 1 b).2.1.toNat)).2.1=((b.length:Nat):Int)∧7≤(gX gI 1 b).1.length∧(gX gD 16 (b.drop (gX gI 1 b).2.1.toNat)).1.length=5+2*((gX gI 1 b).1.length-7) then (qX (gX gI 1 b).1 (gX gD 16 (b.drop (gX gI 1 b).2.1.toNat)).1,0) else (rz,11))
 else (rz,(gX gD 16 (b.drop (gX gI 1 b).2.1.toNat)).2.2)) else (rz,(gX gI 1 b).2.2)
theorem Zt:∀l:List Int,l.length≤(l.flatMap encI).length
 | []=>Nat.le_refl _
 |x::l=>by
  rw[List.flatMap_cons,List.length_append,List.length_cons]
  have h1:=Zt l
  have h2:0< (encI x).length:=by
   unfold encI jU;split<;>simp
  omega
theorem LP {b:List Int} (hB:bN b) (hb:b.length<2^20) (h:(gX gI 1 b).2.2=0):∃u:Nat,(gX gI 1 b).2.1=((u:Nat):Int)∧u≤b.length∧(gX gI 1 b).1.length≤b.length:=by
 obtain⟨_,h2,h3⟩:=Zk hB (by omega) h
 have:=congrArg List.length h3
 rw[List.length_append] at this
 have h4:=Zt (gX gI 1 b).1
 have h5:(fD (gX gI 1 b).1).length=(encI ((((gX gI 1 b).1.length:Nat)):Int)).length+((gX gI 1 b).1.flatMap encI).length:=by unfold fD;rw[List.length_append]
 exact⟨_,h2,by omega,by omega⟩
theorem Zu {b:List Int} (hB:bN b) (hb:b.length<2^20) (h:(gX gD 16 b).2.2=0):∃u:Nat,(gX gD 16 b).2.1=((u:Nat):Int)∧u≤b.length∧(gX gD 16 b).1.length≤b.length:=by
 obtain⟨h2,h3⟩:=Zl hB (by omega) h
 have:=congrArg List.length h3
 rw[List.length_append] at this
 have h4:=zy (gX gD 16 b).1
 have h5:(fK (gX gD 16 b).1).length=(encI ((((gX gD 16 b).1.length:Nat)):Int)).length+((gX gD 16 b).1.flatMap dD).length:=by unfold fK;rw[List.length_append]
 exact⟨_,h2,by omega,by omega⟩
theorem Zv {n:Nat} {b:List Int} (hB:bN b) (hb:b.length<2^19) (hn:2^20<n):zi n b=some (mh b):=by
 rw[aj2]
 obtain⟨q,hqq⟩:∃q,q=gX gI 1 b:=⟨_,rfl⟩
 refine bs ((akt hB (by omega) hn).trans (congrArg some hqq.symm)) ?_
 unfold mh
 have hq:=LP hB (show b.length<2^20 by omega)
 rw[←hqq] at hq⊢
 clear hqq
 by_cases h1:q.2.2=0
 ·rw[if_pos h1]
  obtain⟨u,hu,hub,Rc⟩:=hq h1
  refine bF (by rw[h1];rfl) (bT (by rw[hu];unfold fB;exact decide_eq_true (by omega)) ?_)
  have hBd:=xA hB q.2.1.toNat
  have hbd:(b.drop q.2.1.toNat).length<2^20:=by rw[List.length_drop];omega
  have hd:=Zu hBd hbd
  have hld:(b.drop q.2.1.toNat).length≤b.length:=by rw[List.length_drop];omega
  obtain⟨d,hdd⟩:∃d,d=gX gD 16 (b.drop q.2.1.toNat):=⟨_,rfl⟩
  rw[←hdd] at hd⊢
  refine bs ((akx hBd hbd hn).trans (congrArg some hdd.symm)) ?_
  clear hdd
  by_cases h2:d.2.2=0
  ·rw[if_pos h2]
   obtain⟨v,hv,hvb,hdl⟩:=hd h2
   refine bF (by rw[h2];rfl) ?_
   have e0:IntKind.wrap IntKind.i64 (q.2.1+d.2.1)=q.2.1+d.2.1:=by rw[hu,hv];exact dH (by omega) (by omega)
   have e1:IntKind.wrap IntKind.i64 ((5:Int)+IntKind.wrap IntKind.i64 ((2:Int)*IntKind.wrap IntKind.i64 (((q.1.length:Nat):Int)-(7:Int))))=5+2*(((q.1.length:Nat):Int)-7):=by
    rw[dH (i:=((q.1.length:Nat):Int)-7) (by omega) (by omega),dH (i:=(2:Int)*_) (by omega) (by omega),dH (by omega) (by omega)]
   have hcnd:(bif bif (IntKind.wrap IntKind.i64 (q.2.1+d.2.1)) !=(((b.length:Nat):Int)) then true else decide (((q.1.length:Nat):Int)< (7:Int)) then true else (((d.1.length:Nat):Int)) !=(IntKind.wrap IntKind.i64 (((5:Int))+(IntKind.wrap IntKind.i64 (((2:Int))*(IntKind.wrap IntKind.i64 ((((q.1.length:Nat):Int))-((7:Int)))))))))= !decide (q.2.1+d.2.1=((b.length:Nat):Int)∧7≤q.1.length∧d.1.length=5+2*(q.1.length-7)):=by
    rw[e0,e1]
    rw[Bool.eq_iff_iff]
    simp only[Zm,Bool.or_eq_true,bne_iff_ne,decide_eq_true_iff,Bool.not_eq_true',decide_eq_false_iff_not]
    omega
   by_cases h3:q.2.1+d.2.1=((b.length:Nat):Int)∧7≤q.1.length∧d.1.length=5+2*(q.1.length-7)
   ·rw[if_pos h3]
    obtain⟨g1,g2,g3⟩:=h3
    refine bF (hcnd.trans (by rw[decide_eq_true ⟨g1,g2,g3⟩];rfl)) ?_
    have hx:∀j:Nat,j<7→aQ q.1 ((j:Nat):Int)=some (q.1.getD j 0):=fun j hj=>su 0 (by omega)
    have hy:∀j:Nat,j<4→aQ d.1 ((j:Nat):Int)=some (d.1.getD j dz):=fun j hj=>su dz (by omega)
    refine bs (hx 0 (by decide)) (bs (hx 1 (by decide)) (bs (hx 2 (by decide)) (bs (hx 3 (by decide)) (bs (hx 4 (by decide)) (bs (hx 5 (by decide)) (bs (hx 6 (by decide)) (bs (hy 0 (by decide)) (bs (hy 1 (by decide)) (bs (hy 2 (by decide)) (bs (hy 3 (by decide)) (bs (show aQ d.1 (IntKind.wrap IntKind.i64 (((d.1.length:Nat):Int)-(1:Int)))=some (d.1.getD (d.1.length-1) dz) by
    rw[XO (by omega) (by omega)];exact su dz (by omega)) (bT (by unfold fB;exact decide_eq_true (by omega)) ?_))))))))))))
    have:=Zp (n:=n) (r2:=q) (r3:=d) (k:=q.1.length-7) (by omega) (by omega) (by omega) (qX q.1 d.1) (q.1.length-7) 0 n [] (by omega) (by omega) rfl
    exact bs this rfl
   ·rw[if_neg h3]
    exact bT (hcnd.trans (by rw[decide_eq_false h3];rfl)) rfl
  ·rw[if_neg h2]
   exact bT (by rw[bne_iff_ne];exact h2) rfl
 ·rw[if_neg h1]
  exact bT (by rw[bne_iff_ne];exact h1) rfl
theorem rDec {n:Nat} {b:List Int} (hB:bN b) (hb:b.length<2^19) (hn:2^20<n):CJ n b=some (⟨(mh b).1,(mh b).2⟩:dR):=by
 rw[akb]
 obtain⟨q,hqq⟩:∃q,q=gX gI 1 b:=⟨_,rfl⟩
 refine bs ((aku hB (by omega) hn).trans (congrArg some hqq.symm)) ?_
 unfold mh
 have hq:=LP hB (show b.length<2^20 by omega)
 rw[←hqq] at hq⊢
 clear hqq
 by_cases h1:q.2.2=0
 ·rw[if_pos h1]
  obtain⟨u,hu,hub,Rc⟩:=hq h1
  refine bF (by rw[h1];rfl) (bT (by rw[hu];unfold fB;exact decide_eq_true (by omega)) ?_)
  have hBd:=xA hB q.2.1.toNat
  have hbd:(b.drop q.2.1.toNat).length<2^20:=by rw[List.length_drop];omega
  have hd:=Zu hBd hbd
  have hld:(b.drop q.2.1.toNat).length≤b.length:=by rw[List.length_drop];omega
  obtain⟨d,hdd⟩:∃d,d=gX gD 16 (b.drop q.2.1.toNat):=⟨_,rfl⟩
  rw[←hdd] at hd⊢
  refine bs ((akz hBd hbd hn).trans (congrArg some hdd.symm)) ?_
  clear hdd
  by_cases h2:d.2.2=0
  ·rw[if_pos h2]
   obtain⟨v,hv,hvb,hdl⟩:=hd h2
   refine bF (by rw[h2];rfl) ?_
   have e0:IntKind.wrap IntKind.i64 (q.2.1+d.2.1)=q.2.1+d.2.1:=by rw[hu,hv];exact dH (by omega) (by omega)
   have e1:IntKind.wrap IntKind.i64 ((5:Int)+IntKind.wrap IntKind.i64 ((2:Int)*IntKind.wrap IntKind.i64 (((q.1.length:Nat):Int)-(7:Int))))=5+2*(((q.1.length:Nat):Int)-7):=by
    rw[dH (i:=((q.1.length:Nat):Int)-7) (by omega) (by omega),dH (i:=(2:Int)*_) (by omega) (by omega),dH (by omega) (by omega)]
   have hcnd:(bif bif (IntKind.wrap IntKind.i64 (q.2.1+d.2.1)) !=(((b.length:Nat):Int)) then true else decide (IntKind.wrap IntKind.i64 (((q.1.length:Nat):Int)-(7:Int))< (0:Int)) then true else (((d.1.length:Nat):Int)) !=(IntKind.wrap IntKind.i64 (((5:Int))+(IntKind.wrap IntKind.i64 (((2:Int))*(IntKind.wrap IntKind.i64 ((((q.1.length:Nat):Int))-((7:Int)))))))))= !decide (q.2.1+d.2.1=((b.length:Nat):Int)∧7≤q.1.length∧d.1.length=5+2*(q.1.length-7)):=by
    rw[e0,e1,dH (i:=((q.1.length:Nat):Int)-7) (by omega) (by omega)]
    rw[Bool.eq_iff_iff]
    simp only[Zm,Bool.or_eq_true,bne_iff_ne,decide_eq_true_iff,Bool.not_eq_true',decide_eq_false_iff_not]
    omega
   by_cases h3:q.2.1+d.2.1=((b.length:Nat):Int)∧7≤q.1.length∧d.1.length=5+2*(q.1.length-7)
   ·rw[if_pos h3]
    obtain⟨g1,g2,g3⟩:=h3
    refine bF (hcnd.trans (by rw[decide_eq_true ⟨g1,g2,g3⟩];rfl)) ?_
    have hx:∀j:Nat,j<7→aQ q.1 ((j:Nat):Int)=some (q.1.getD j 0):=fun j hj=>su 0 (by omega)
    have hy:∀j:Nat,j<4→aQ d.1 ((j:Nat):Int)=some (d.1.getD j dz):=fun j hj=>su dz (by omega)
    refine bs (hx 0 (by decide)) (bs (hx 1 (by decide)) (bs (hx 2 (by decide)) (bs (hx 3 (by decide)) (bs (hx 4 (by decide)) (bs (hx 5 (by decide)) (bs (hx 6 (by decide)) (bs (hy 0 (by decide)) (bs (hy 1 (by decide)) (bs (hy 2 (by decide)) (bs (hy 3 (by decide)) (bs (show aQ d.1 (IntKind.wrap IntKind.i64 ((4:Int)+IntKind.wrap IntKind.i64 ((2:Int)*IntKind.wrap IntKind.i64 (((q.1.length:Nat):Int)-(7:Int)))))=some (d.1.getD (d.1.length-1) dz) by
    rw[dH (i:=((q.1.length:Nat):Int)-7) (by omega) (by omega),dH (i:=(2:Int)*_) (by omega) (by omega),dH (by omega) (by omega),show (4:Int)+(2:Int)*(((q.1.length:Nat):Int)-(7:Int))=((d.1.length-1:Nat):Int) by omega];exact su dz (by omega)) ?_)))))))))))
    have:=Zr (n:=n) (r2:=q) (r3:=d) (k:=q.1.length-7) (by omega) (by omega) (by omega) (qX q.1 d.1) (q.1.length-7) 0 n [] (by omega) (by omega) rfl
    exact bs this rfl
   ·rw[if_neg h3]
    exact bT (hcnd.trans (by rw[decide_eq_false h3];rfl)) rfl
  ·rw[if_neg h2]
   exact bT (by rw[bne_iff_ne];exact h2) rfl
 ·rw[if_neg h1]
  exact bT (by rw[bne_iff_ne];exact h1) rfl
end Sh
end
