import Derived.Test.YtabmooekodficaaF2122
set_option linter.all false
section
open Go Go.Proofs Aq Pq
namespace Sh
set_option maxRecDepth 100000
theorem sorted_eq {n:Nat} {l:List Int} (hn:400<n) (hl:l.length<=25):∃r:List Int,Xu n ((),l)=some r/\r.Perm l/\r.Pairwise fun x y=>¬y<x:=by
 have key:∀(xs o:List Int),xs.length+o.length<=25->Zr_R3 n xs ((),((),o))=some ((),((),o++xs)):=by
  intro xs
  induction xs with
  |nil=>intro o _;rw[Zr_R3_0,QX]
  |cons x xs ih=>
   intro o ho
   rw[List.length_cons] at ho
   rw[Zr_R3_s,room (by simp only[List.length_singleton];omega) (by simp only[List.length_singleton];omega),cond_true,ih _ (by rw[QI];simp only[List.length_singleton];omega),QS]
   rfl
 have hv:valF l=some l:=by unfold valF;rw[if_pos (by omega)]
 have e1:Zr n ((),((),l)) ()=some (l,()):=by
  refine(Zr_eq ..).trans ?_
  refine bs (bs hv (key l [] (by simpa using hl))) ?_
  rfl
 have e2:Xn n ((),l) ()=some (l,()):=(Xn_eq ..).trans (bs e1 rfl)
 obtain⟨r,h1,h2,h3⟩:=sort_int (n:=n) hn (l:=l) (by omega)
 exact⟨r.2,(Xu_eq ..).trans (bs e2 (bs h1 rfl)),h2,h3⟩
def okR (ks:List Int) (w:Int) (k:Int):Bool:=decide (((ks.countP fun x=>decide (x<=k)):Int)>=w)
def radF (ks:List Int) (w:Int):List Int->Int->Int
 | [],r=>r
 |k::zs,r=>radF ks w zs (bif (bif decide (k<r) then okR ks w k else false) then k else r)
theorem radF_eq {ks:List Int} {w x:Int} (hx:okR ks w x=true):∀(zs:List Int) (r:Int),(∀y∈zs,okR ks w y=true->x<=y)->x<=r->(x∈zs\/r=x)->radF ks w zs r=x
 | [],r,_,_,h=>h.elim (fun h=>by cases h) id
 |y::zs,r,h1,h2,h3=>by
  unfold radF
  refine radF_eq hx zs _ (fun z hz=>h1 z (QB _ hz)) ?_ ?_
  ·by_cases c:(bif decide (y<r) then okR ks w y else false)=true
   ·rw[c,cond_true]
    rw[cF,iP] at c
    exact h1 y (Qz ..) c.2
   ·rw[Bool.not_eq_true] at c
    rw[c,cond_false];exact h2
  ·rcases h3 with h3|h3
   ·rcases QN.1 h3 with h3|h3
    ·right
     subst h3
     by_cases c:x<r
     ·rw[dT c,hx];rfl
     ·rw[dF c]
      show r=x
      omega
    ·exact .inl h3
   ·right
    subst h3
    by_cases c:(bif decide (y<r) then okR ks w y else false)=true
    ·rw[cF,iP,decide_eq_true_iff] at c
     have:=h1 y (Qz ..) c.2
     omega
    ·rw[Bool.not_eq_true] at c
     rw[c,cond_false]
def radS (ks:List Int) (w:Int):Int:=radF ks w ks 134217728
theorem rad_eq {ks s:List Int} {w:Nat} (hp:s.Perm ks) (hs:s.Pairwise fun x y=>¬y<x) (h1:1<=w) (h2:w<=ks.length) (hb:∀x∈ks,x<=128000000):∃h:w-1<s.length,s[w-1]=radS ks (w:Int):=by
 have hlen:=hp.length_eq
 have hlt:w-1<s.length:=by omega
 refine⟨hlt,?_⟩
 have hle:∀(i j:Nat) (hi:i<s.length) (hj:j<s.length),i<=j->s[i]<=s[j]:=fun i j hi hj h=>by
  by_cases e:i=j
  ·subst e;exact QC _
  ·have:=(List.pairwise_iff_getElem.1 hs) i j hi hj (by omega);omega
 have hxm:s[w-1]∈ks:=hp.mem_iff.1 (QG _)
 have cnt:∀k,(ks.countP fun x=>decide (x<=k))=s.countP fun x=>decide (x<=k):=fun k=>(hp.countP_eq _).symm
 have hx:okR ks (w:Int) s[w-1]=true:=by
  unfold okR
  rw[cnt]
  refine dT ?_
  have e:=Rt w s
  have:(s.take w).countP (fun x=>decide (x<=s[w-1]))=(s.take w).length:=by
   rw[List.countP_eq_length]
   intro a ha
   obtain⟨i,hi,rfl⟩:=List.getElem_of_mem ha
   rw[QE] at hi
   rw[List.getElem_take]
   exact dT (hle i (w-1) (by omega) hlt (by omega))
  have h3:s.countP (fun x=>decide (x<=s[w-1]))=(s.take w).countP (fun x=>decide (x<=s[w-1]))+(s.drop w).countP (fun x=>decide (x<=s[w-1])):=by
   rw[<-List.countP_append,e]
  rw[h3,this,QE]
  omega
 refine(radF_eq hx ks 134217728 ?_ (by have:=hb _ hxm;omega) (.inl hxm)).symm
 intro y _ hy
 rcases Int.lt_or_le y s[w-1] with c|c
 ·exfalso
  unfold okR at hy
  rw[cnt,decide_eq_true_iff] at hy
  have e:=Rt (w-1) s
  have h3:s.countP (fun x=>decide (x<=y))=(s.take (w-1)).countP (fun x=>decide (x<=y))+(s.drop (w-1)).countP (fun x=>decide (x<=y)):=by
   rw[<-List.countP_append,e]
  have h4:(s.drop (w-1)).countP (fun x=>decide (x<=y))=0:=by
   rw[List.countP_eq_zero]
   intro a ha
   obtain⟨i,hi,rfl⟩:=List.getElem_of_mem ha
   rw[Q9] at hi
   rw[List.getElem_drop]
   have:=hle (w-1) (w-1+i) hlt (by omega) (by omega)
   rw[dF (by omega)];decide
  have h5:=List.countP_le_length (p:=fun x=>decide (x<=y)) (l:=s.take (w-1))
  rw[QE] at h5
  omega
 ·exact c
def wantS (l:List (List Int)) (want:Int):Int:=imin want ((l.length:Nat):Int)
def hoodS (m:Int) (l:List (List Int)) (want:Int) (v:List Int):Hood:=⟨radS (keysS m l v) (wantS l want),arS (radS (keysS m l v) (wantS l want)) 0 (keysS m l v)⟩
def buildS (m:Int) (l:List (List Int)) (want:Int):List Hood:=l.map (hoodS m l want)
def rightB (m:Int) (l:List (List Int)) (want:Int):Bool:=(mtB m&& fitB l)&& !(decide (want<1)||decide (want>4096))
theorem keysS_len (m:Int) (l:List (List Int)) (v:List Int):(keysS m l v).length=l.length:=by unfold keysS;rw[Qy]
theorem keysS_b {m:Int} {l:List (List Int)} {v:List Int} (h:LOK l v):∀x∈keysS m l v,0<=x/\x<=128000000:=by
 intro x hx
 obtain⟨a,ha,rfl⟩:=Rx.1 hx
 exact keyS_b (h.2.2 a ha).1 h.2.1
theorem wantS_b {l:List (List Int)} {want:Int} (h1:1<=want) (h2:1<=l.length):∃w:Nat,wantS l want=(w:Int)/\1<=w/\w<=l.length:=by
 refine⟨(wantS l want).toNat,?_,?_,?_⟩<;>unfold wantS imin<;>split<;>omega
theorem build_eq {n:Nat} {m:Int} {l:List (List Int)} {want:Int} (hn:400<n) (hf:FewL l):Zx n (m,(l,want))=some (bif rightB m l want then ((⟨buildS m l want⟩:Graph),(0:Int)) else ((⟨[]⟩:Graph),(1:Int))):=by
 refine(Zx_eq ..).trans ?_
 refine bs (right_eq (by omega) hf) ?_
 rw[cT,cT,show (!(mtB m&& fitB l)||decide (want<1)||decide (want>4096))= !rightB m l want from by unfold rightB;cases (mtB m&& fitB l)<;>cases decide (want<1)<;>cases decide (want>4096)<;>rfl]
 cases hr:rightB m l want
 ·rfl
 ·unfold rightB at hr
  rw[iP,iP] at hr
  obtain⟨⟨hm,hfit⟩,hw⟩:=hr
  have hm3:M3 m:=mtB_iff.1 hm
  have hw1:1<=want/\want<=4096:=by
   rw[Q6,QY,decide_eq_false_iff_not,decide_eq_false_iff_not] at hw;omega
  have h25:=hf.1
  have key:∀c (i mm:Nat) (t:List Hood),i+c=l.length->c<mm->t.length=i->Zx_L6 n m l want mm ((i:Int),t)=some ((),t++(l.drop i).map (hoodS m l want)):=by
   intro c
   induction c with
   |zero=>
    intro i mm t hi hmm ht
    obtain⟨mm,rfl⟩:∃m',mm=m'+1:=⟨mm-1,by omega⟩
    have:i=l.length:=by omega
    rw[Zx_L6_s,ite_nlt (by omega),this,List.drop_length,List.map_nil,QX]
   |succ c ih=>
    intro i mm t hi hmm ht
    obtain⟨mm,rfl⟩:∃m',mm=m'+1:=⟨mm-1,by omega⟩
    have hlt:i<l.length:=by omega
    have hok:=fit_iff hfit hf (QG hlt)
    obtain⟨w,e1,w1,w2⟩:=wantS_b (l:=l) hw1.1 (by omega)
    have hkl:=keysS_len m l l[i]
    obtain⟨r,s1,s2,s3⟩:=sorted_eq (n:=n) hn (l:=keysS m l l[i]) (by omega)
    obtain⟨hr1,hr2⟩:=rad_eq s2 s3 w1 (by omega) (fun x hx=>(keysS_b hok x hx).2)
    rw[Zx_L6_s,ite_lt (by omega),QO hlt,QA]
    refine bs (ix hlt) ?_
    refine bs (keys_eq (by omega) hm3 hok) ?_
    refine bs (XB_eq ..) ?_
    refine bs s1 ?_
    have e2:idxL r (IntKind.wrap .i64 ((imin want (((l.length:Nat):Int)))-1))=some (radS (keysS m l l[i]) (wantS l want)):=by
     have:imin want ((l.length:Nat):Int)=(w:Int):=e1
     rw[this,wr (by omega) (by omega),show (w:Int)-1=((w-1:Nat):Int) by omega,e1,<-hr2]
     exact ix hr1
    refine bs e2 ?_
    refine bs (around_eq (by omega) (by omega)) ?_
    rw[room (by simp only[List.length_singleton];omega) (by simp only[List.length_singleton];omega),cond_true,wS (by omega),ih (i+1) mm _ (by omega) (by omega) (by rw[QI];simp only[List.length_singleton];omega),QS]
    rfl
  exact bs (key l.length 0 n [] (by omega) (by omega) rfl) rfl
end Sh
end
section
open Go Go.Proofs Aq Pq
namespace Sh
set_option maxRecDepth 100000
def chkS (m:Int) (l:List (List Int)):Nat->List Hood->List (List Int)->Option Nat
 |i,h::hs,v::vs=>bif decide (h.Slots=arS h.Radius 0 (keysS m l v)) then chkS m l (i+1) hs vs else some i
 |_,_,_=>none
def checkS (m:Int) (l:List (List Int)) (hs:List Hood):Int×Int:=bif (mtB m&& fitB l)&& validB ((l.length:Nat):Int) hs then (match chkS m l 0 hs l with
 |none=>(-1,0)
 |some i=>((i:Int),0)) else (0,1)
theorem valid_len {k:Int} {hs:List Hood} (h:validB k hs=true):((hs.length:Nat):Int)=k:=by
 unfold validB at h
 rw[iP,Q6,QY] at h
 simpa using h.1.2
theorem check_eq {n:Nat} {m:Int} {l:List (List Int)} {g:Graph} (hn:400<n) (hf:FewL l) (hg:FewG g.Hoods):Zy n (m,(l,g))=some (checkS m l g.Hoods):=by
 refine(Zy_eq ..).trans ?_
 refine bs (right_eq (by omega) hf) ?_
 have e0:(whenO (!(!(mtB m&& fitB l))) (Zd n (((l.length:Nat):Int),g)) false)=some ((mtB m&& fitB l)&& validB ((l.length:Nat):Int) g.Hoods):=by
  rw[gvalid_eq (by omega) hg];cases (mtB m&& fitB l)<;>rfl
 refine bs e0 ?_
 unfold checkS
 cases hr:(mtB m&& fitB l)
 ·rfl
 ·cases hv:validB ((l.length:Nat):Int) g.Hoods
  ·rfl
  ·rw[iP] at hr
   have hm3:M3 m:=mtB_iff.1 hr.1
   have h25:=hf.1
   have hlen:g.Hoods.length=l.length:=by have:=valid_len hv;omega
   have key:∀c (i mm:Nat),i+c=l.length->c<mm->Zy_L5 n m l g mm (i:Int)=some (match chkS m l i (g.Hoods.drop i) (l.drop i) with
    |none=>.inl ()
    |some j=>.inr ((j:Int),(0:Int))):=by
    intro c
    induction c with
    |zero=>
     intro i mm hi hmm
     obtain⟨mm,rfl⟩:∃m',mm=m'+1:=⟨mm-1,by omega⟩
     rw[Zy_L5_s,ite_nlt (by omega),RF (by omega),RF (by omega)]
     rfl
    |succ c ih=>
     intro i mm hi hmm
     obtain⟨mm,rfl⟩:∃m',mm=m'+1:=⟨mm-1,by omega⟩
     have hlt:i<l.length:=by omega
     have hlg:i<g.Hoods.length:=by omega
     have hok:=fit_iff hr.2 hf (QG hlt)
     rw[Zy_L5_s,ite_lt (by omega),QO hlt,QO hlg]
     refine bs (ix hlg) ?_
     refine bs (ix hlt) ?_
     refine bs (keys_eq (by omega) hm3 hok) ?_
     refine bs (around_eq (by omega) (by rw[keysS_len];omega)) ?_
     refine bs (equal_eq (by omega) (hg.2 _ (QG _))) ?_
     unfold chkS
     cases decide (g.Hoods[i].Slots=arS g.Hoods[i].Radius 0 (keysS m l l[i]))
     ·rfl
     ·rw[wS (by omega)]
      exact ih (i+1) mm (by omega) (by omega)
   refine bs (key l.length 0 n (by omega) (by omega)) ?_
   rw[Rk,Rk]
   cases chkS m l 0 g.Hoods l<;>rfl
theorem san_eq (n:Nat):Xv n ()=some true:=(Xv_eq n ()).trans rfl
end Sh
end
section
open Go Go.Proofs Aq Pq
namespace Sh
set_option maxRecDepth 100000
theorem gR {α:Type} {c:Bool} {o r:Option α} (h:c=true) (k:o=r):(bif c then o else none)=r:=by rw[h];exact k
theorem bF {α:Type} {c:Bool} {a b r:Option α} (h:c=false) (k:b=r):(bif c then a else b)=r:=by rw[h];exact k
theorem bT {α:Type} {c:Bool} {a b r:Option α} (h:c=true) (k:a=r):(bif c then a else b)=r:=by rw[h];exact k
theorem tab_log:∀i:Fin 256,1<=i.val->tabS0[i.val]? =some (UInt8.ofNat (Nat.log2 i.val+1)):=by decide+kernel
theorem tab_idx {x:Nat} (h1:1<=x) (h2:x<256):idxL tabS0 (IntKind.wrap .u8 ((x:Nat):Int))=some (UInt8.ofNat (Nat.log2 x+1)):=by
 have hw:IntKind.wrap .u8 ((x:Nat):Int)=((x:Nat):Int):=by rw[IntKind.wrap_u8];omega
 have hl:tabS0.length=256:=by decide+kernel
 rw[hw]
 unfold idxL
 rw[if_pos ⟨by omega,by rw[hl];omega⟩,Int.toNat_natCast]
 exact tab_log ⟨x,h2⟩ h1
theorem log2_le7 {x:Nat} (h1:1<=x) (h2:x<256):Nat.log2 x<8:=(Nat.log2_lt (by omega)).2 (by omega)
theorem log2_256 {x:Nat} (h:256<=x):Nat.log2 x=8+Nat.log2 (x/256):=by
 have hx:x/256≠0:=by omega
 apply Nat.le_antisymm
 ·apply Nat.le_of_lt_succ
  rw[Nat.log2_lt (by omega)]
  have h1:x/256<2^(Nat.log2 (x/256)+1):=Nat.lt_log2_self
  have h2:2^(8+Nat.log2 (x/256)).succ=256*2^(Nat.log2 (x/256)+1):=by
   rw[Nat.succ_eq_add_one,Q8,Nat.pow_add]
  rw[h2];omega
 ·rw[Nat.le_log2 (by omega),Nat.pow_add]
  have h1:2^Nat.log2 (x/256)<=x/256:=Nat.log2_self_le hx
  have:2^8*2^Nat.log2 (x/256)<=2^8*(x/256):=Nat.mul_le_mul_left _ h1
  omega
theorem len64 {n x:Nat} (h1:1<=x) (h2:x<65536):ZQ n ((x:Nat):Int)=some ((Nat.log2 x+1:Nat):Int):=by
 rw[ZQ_eq]
 refine bF (decide_eq_false (by omega)) (bF (decide_eq_false (by omega)) ?_)
 by_cases h:256<=x
 ·have hl:=log2_256 h
  have hs:=log2_le7 (x:=x/256) (by omega) (by omega)
  refine bT (decide_eq_true (by omega)) ?_
  refine gR (by decide) ?_
  have hsh:bitShr .u64 ((x:Nat):Int) 8=((x/256:Nat):Int):=by
   show Int.fdiv ((x:Nat):Int) (2^8)=_
   rw[Int.fdiv_eq_ediv_of_nonneg _ (by decide)];omega
  rw[hsh,tab_idx (by omega) (by omega)]
  show some _=_
  congr 1
  rw[UInt8.toNat_ofNat_of_lt' (show Nat.log2 (x/256)+1<256 by omega),hl]
  rw[IntKind.wrap_i64,IntKind.wrap_i64,IntKind.wrap_i64];omega
 ·have hs:=log2_le7 (x:=x) (by omega) (by omega)
  refine bF (decide_eq_false (by omega)) ?_
  rw[tab_idx (by omega) (by omega)]
  show some _=_
  congr 1
  rw[UInt8.toNat_ofNat_of_lt' (show Nat.log2 x+1<256 by omega)]
  rw[IntKind.wrap_i64,IntKind.wrap_i64];omega
theorem log2_div {x k:Nat} (h:2^k<=x):Nat.log2 x=k+Nat.log2 (x/2^k):=by
 have hk:0<2^k:=Nat.pow_pos (by decide)
 have hx:x/2^k≠0:=by
  have:=Nat.div_pos h hk
  omega
 have hx0:x≠0:=by omega
 apply Nat.le_antisymm
 ·apply Nat.le_of_lt_succ
  rw[Nat.log2_lt hx0]
  have h1:x/2^k<2^(Nat.log2 (x/2^k)+1):=Nat.lt_log2_self
  have h2:2^(k+Nat.log2 (x/2^k)).succ=2^(Nat.log2 (x/2^k)+1)*2^k:=by
   rw[Nat.succ_eq_add_one,Q8,Nat.pow_add,Rm]
  rw[h2]
  exact(Nat.div_lt_iff_lt_mul hk).1 h1
 ·rw[Nat.le_log2 hx0,Nat.pow_add]
  have h1:2^Nat.log2 (x/2^k)<=x/2^k:=Nat.log2_self_le hx
  have h2:2^k*2^Nat.log2 (x/2^k)<=2^k*(x/2^k):=Nat.mul_le_mul_left _ h1
  exact Qw h2 (Nat.mul_div_le ..)
theorem shrN (x k:Nat) (hk:k<=64):bitShr .u64 ((x:Nat):Int) ((k:Nat):Int)=((x/2^k:Nat):Int):=by
 show Int.fdiv ((x:Nat):Int) (2^min (((k:Nat):Int)).toNat 64)=_
 rw[Int.toNat_natCast,RG hk,Int.fdiv_eq_ediv_of_nonneg _ (by exact Int.le_of_lt (Int.pow_pos (by decide)))]
 rw[Int.natCast_ediv]
 congr 1
theorem tail16 {y a:Nat} (h1:1<=y) (h2:y<256) (ha:a<=64):(idxL tabS0 (IntKind.wrap .u8 ((y:Nat):Int))).bind (fun (r2:UInt8)=>some (IntKind.wrap .i64 (((a:Nat):Int)+IntKind.wrap .i64 (((r2.toNat:Nat):Int)))))=some ((a+Nat.log2 y+1:Nat):Int):=by
 have hs:=log2_le7 h1 h2
 rw[tab_idx h1 h2]
 show some _=_
 congr 1
 rw[UInt8.toNat_ofNat_of_lt' (show Nat.log2 y+1<256 by omega)]
 simp only[IntKind.wrap_i64];omega
theorem len64d {n x:Nat} (h1:65536<=x) (h2:x<4294967296):ZQ n ((x:Nat):Int)=some ((Nat.log2 x+1:Nat):Int):=by
 rw[ZQ_eq]
 have hl:=log2_div (x:=x) (k:=16) (by omega)
 have hy1:1<=x/2^16:=by omega
 have hy2:x/2^16<65536:=by omega
 have s16:bitShr .u64 ((x:Nat):Int) (16:Int)=((x/2^16:Nat):Int):=shrN x 16 (by decide)
 rw[bF (decide_eq_false (by omega)) rfl,bT (decide_eq_true (by omega)) rfl,bT (by decide) rfl,s16]
 generalize x/2^16=y at hl hy1 hy2
 by_cases h8:256<=y
 ·have hl8:=log2_256 h8
  have s8:bitShr .u64 ((y:Nat):Int) (8:Int)=((y/2^8:Nat):Int):=shrN y 8 (by decide)
  rw[bT (decide_eq_true (by omega)) rfl,bT (by decide) rfl,s8,show IntKind.wrap .i64 (IntKind.wrap .i64 ((0:Int)+(16:Int))+(8:Int))=((24:Nat):Int) by decide]
  refine(tail16 (by omega) (by omega) (by decide)).trans ?_
  rw[hl,hl8,show y/2^8=y/256 by omega]
  congr 2;omega
 ·rw[bF (decide_eq_false (by omega)) rfl,show IntKind.wrap .i64 ((0:Int)+(16:Int))=((16:Nat):Int) by decide]
  refine(tail16 (by omega) (by omega) (by decide)).trans ?_
  rw[hl]
theorem len64c {n x:Nat} (h1:4294967296<=x) (h2:x<2^56+1):ZQ n ((x:Nat):Int)=some ((Nat.log2 x+1:Nat):Int):=by
 rw[ZQ_eq]
 have hl:=log2_div (x:=x) (k:=32) (by omega)
 have hy1:1<=x/2^32:=by omega
 have hy2:x/2^32<2^24+1:=by omega
 have s32:bitShr .u64 ((x:Nat):Int) (32:Int)=((x/2^32:Nat):Int):=shrN x 32 (by decide)
 rw[bT (decide_eq_true (by omega)) rfl,bT (by decide) rfl,s32]
 generalize x/2^32=y at hl hy1 hy2
 by_cases h16:65536<=y
 ·rw[bT (decide_eq_true (by omega)) rfl,bT (by decide) rfl]
  have hl16:=log2_div (x:=y) (k:=16) (by omega)
  have hz1:1<=y/2^16:=by omega
  have hz2:y/2^16<257:=by omega
  have s16:bitShr .u64 ((y:Nat):Int) (16:Int)=((y/2^16:Nat):Int):=shrN y 16 (by decide)
  rw[s16]
  generalize y/2^16=z at hl16 hz1 hz2
  by_cases h8:256<=z
  ·have hl8:=log2_256 h8
   have s8:bitShr .u64 ((z:Nat):Int) (8:Int)=((z/2^8:Nat):Int):=shrN z 8 (by decide)
   rw[bT (decide_eq_true (by omega)) rfl,bT (by decide) rfl,s8,show IntKind.wrap .i64 (IntKind.wrap .i64 ((32:Int)+(16:Int))+(8:Int))=((56:Nat):Int) by decide]
   refine(tail16 (by omega) (by omega) (by decide)).trans ?_
   rw[hl,hl16,hl8,show z/2^8=z/256 by omega]
   congr 2;omega
  ·rw[bF (decide_eq_false (by omega)) rfl,show IntKind.wrap .i64 ((32:Int)+(16:Int))=((48:Nat):Int) by decide]
   refine(tail16 (by omega) (by omega) (by decide)).trans ?_
   rw[hl,hl16]
   congr 2;omega
 rw[bF (decide_eq_false (by omega)) rfl]
 by_cases h8:256<=y
 ·have hl8:=log2_256 h8
  have s8:bitShr .u64 ((y:Nat):Int) (8:Int)=((y/2^8:Nat):Int):=shrN y 8 (by decide)
  rw[bT (decide_eq_true (by omega)) rfl,bT (by decide) rfl,s8,show IntKind.wrap .i64 ((32:Int)+(8:Int))=((40:Nat):Int) by decide]
  refine(tail16 (by omega) (by omega) (by decide)).trans ?_
  rw[hl,hl8,show y/2^8=y/256 by omega]
  congr 2;omega
 ·rw[bF (decide_eq_false (by omega)) rfl,show (32:Int)=((32:Nat):Int) from rfl]
  refine(tail16 (by omega) (by omega) (by decide)).trans ?_
  rw[hl]
theorem len64b {n x:Nat} (h1:1<=x) (h2:x<2^56+1):ZQ n ((x:Nat):Int)=some ((Nat.log2 x+1:Nat):Int):=by
 by_cases h16:x<65536
 ·exact len64 h1 h16
 by_cases h32:x<4294967296
 ·exact len64d (by omega) h32
 ·exact len64c (by omega) h2
def IsRt (c r:Int):Prop:=0<=r/\r*r<=c/\c< (r+1)*(r+1)
theorem sq_le {a b:Int} (h0:0<=a) (h:a<=b):a*a<=b*b:=Int.mul_le_mul h h h0 (by omega)
theorem sq_lt {a b:Int} (h0:0<=a) (h:a<b):a*a<b*b:=by
 have:=sq_le (a:=a+1) (b:=b) (by omega) (by omega)
 have e:(a+1)*(a+1)=a*a+2*a+1:=by rw[Int.add_mul,Int.mul_add,Int.one_mul,Int.mul_one];omega
 omega
theorem IsRt.le {c r x:Int} (h:IsRt c r) (hx:x*x<=c):x<=r:=by
 rcases Int.lt_or_le r x with k|k
 ·have:=sq_le (a:=r+1) (b:=x) (by have:=h.1;omega) (by omega)
  have:=h.2.2;omega
 ·exact k
theorem IsRt.uniq {c r s:Int} (h:IsRt c r) (k:IsRt c s):r=s:=Int.le_antisymm (k.le h.2.1) (h.le k.2.1)
def newt (c x:Int):Int:=Int.tdiv (x+Int.tdiv c x) 2
theorem newt_eq {c x:Int} (hc:0<=c) (hx:0<x):newt c x=(x+c/x)/2:=by
 unfold newt
 have h1:=Int.ediv_nonneg hc (Int.le_of_lt hx)
 rw[Int.tdiv_eq_ediv_of_nonneg hc,Int.tdiv_eq_ediv_of_nonneg (by omega)]
theorem newt_ge {c x r:Int} (h:IsRt c r) (hx:0<x) (hr:0<r):r<=newt c x:=by
 have hc:0<=c:=Int.le_trans (Int.mul_nonneg h.1 h.1) h.2.1
 rw[newt_eq hc hx]
 have h1:2*r-x<=c/x:=by
  rw[Int.le_ediv_iff_mul_le hx]
  have h2:(2*r-x)*x=r*r-(r-x)*(r-x):=by
   rw[Int.sub_mul,Int.sub_mul,Int.mul_sub,Int.mul_sub,Int.mul_assoc]
   have:=Int.mul_comm r x
   omega
  have h3:0<=(r-x)*(r-x):=by
   rcases Int.le_total 0 (r-x) with k|k
   ·exact Int.mul_nonneg k k
   ·have:=Int.mul_nonneg (show 0<= -(r-x) by omega) (show 0<= -(r-x) by omega)
    rwa[Int.neg_mul_neg] at this
  have:=h.2.1
  omega
 omega
theorem newt_stop {c x r:Int} (h:IsRt c r) (hx:0<x) (hr:r<=x) (hs:x<=newt c x):x=r:=by
 have hc:0<=c:=Int.le_trans (Int.mul_nonneg h.1 h.1) h.2.1
 rw[newt_eq hc hx] at hs
 have h1:x<=c/x:=by omega
 rw[Int.le_ediv_iff_mul_le hx] at h1
 have:=h.le h1
 omega
theorem isrt_ex {c:Int} (hc:0<=c):∃r,IsRt c r:=by
 have:∀k:Nat,c< ((k:Int)+1)*((k:Int)+1)->∃r,IsRt c r:=by
  intro k
  induction k with
  |zero=>intro h;exact⟨0,QC _,by omega,by simpa using h⟩
  |succ k ih=>
   intro h
   rcases Int.lt_or_le c (((k:Int)+1)*((k:Int)+1)) with h1|h1
   ·exact ih h1
   ·exact⟨(k:Int)+1,by omega,h1,by push_cast at h;exact h⟩
 refine this c.toNat ?_
 have e:((c.toNat:Nat):Int)=c:=by omega
 rw[e,Int.add_mul,Int.mul_add,Int.one_mul,Int.mul_one]
 have:=Int.mul_nonneg hc hc
 omega
theorem isqrt_loop {n:Nat} {c r:Int} (h:IsRt c r) (hr:0<r) (hb:c<=2^56):∀(k:Nat) (x:Int) (m:Nat),(x-r).toNat<=k->k<m->r<=x->x<=2^32->ZB_L5 n c m x=some r:=by
 intro k
 induction k with
 |zero=>
  intro x m hk hm hx hx2
  obtain⟨m,rfl⟩:∃m',m=m'+1:=⟨m-1,by omega⟩
  have hxr:x=r:=by omega
  subst hxr
  have hc:0<=c:=Int.le_trans (Int.mul_nonneg h.1 h.1) h.2.1
  have hd0:=Int.ediv_nonneg hc (Int.le_of_lt hr)
  have hd1:c/x<=c:=Int.ediv_le_self _ hc
  have hn:=newt_ge h hr hr
  have hq:Int.tdiv c x=c/x:=Int.tdiv_eq_ediv_of_nonneg hc
  rw[ZB_L5_s,show (x==0)=false from by simp;omega,show ((2:Int)==0)=false from rfl]
  have e:IntKind.wrap .i64 (Int.tdiv (IntKind.wrap .i64 (x+IntKind.wrap .i64 (Int.tdiv c x))) 2)=newt c x:=by
   rw[hq,wr (i:=c/x) (by omega) (by omega),wr (i:=x+c/x) (by omega) (by omega)]
   unfold newt
   rw[hq,Int.tdiv_eq_ediv_of_nonneg (by omega),wr (by omega) (by omega)]
  rw[e,dT (show newt c x>=x from hn)]
  rfl
 |succ k ih=>
  intro x m hk hm hx hx2
  obtain⟨m,rfl⟩:∃m',m=m'+1:=⟨m-1,by omega⟩
  have hx0:0<x:=by omega
  have hc:0<=c:=Int.le_trans (Int.mul_nonneg h.1 h.1) h.2.1
  have hd0:=Int.ediv_nonneg hc (Int.le_of_lt hx0)
  have hd1:c/x<=c:=Int.ediv_le_self _ hc
  have hn:=newt_ge h hx0 hr
  have hq:Int.tdiv c x=c/x:=Int.tdiv_eq_ediv_of_nonneg hc
  rw[ZB_L5_s,show (x==0)=false from by simp;omega,show ((2:Int)==0)=false from rfl]
  have e:IntKind.wrap .i64 (Int.tdiv (IntKind.wrap .i64 (x+IntKind.wrap .i64 (Int.tdiv c x))) 2)=newt c x:=by
   rw[hq,wr (i:=c/x) (by omega) (by omega),wr (i:=x+c/x) (by omega) (by omega)]
   unfold newt
   rw[hq,Int.tdiv_eq_ediv_of_nonneg (by omega),wr (by omega) (by omega)]
  rw[e]
  by_cases hs:x<=newt c x
  ·rw[dT (show newt c x>=x from hs),newt_stop h hx0 hx hs];rfl
  ·rw[dF (show¬newt c x>=x from hs)]
   exact ih _ m (by omega) (by omega) hn (by omega)
theorem isqrt_eq {n:Nat} {c r:Int} (hn:2^34<n) (h:IsRt c r) (hb:c<=2^56):ZB n c=some r:=by
 have hc:0<=c:=Int.le_trans (Int.mul_nonneg h.1 h.1) h.2.1
 refine(ZB_eq ..).trans ?_
 have e0:Xo n (c,((0:Int),(1152921504606846976:Int)))=some c:=by
  refine(Xo_eq ..).trans ?_
  congr 1
  unfold imax imin
  (repeat' split)<;>omega
 refine bs e0 ?_
 by_cases h0:c=0
 ·subst h0
  have:r=0:=h.uniq ⟨QC _,by decide,by decide⟩
  rw[this];rfl
 ·rw[show (c==0)=false from by simpa using h0,cond_false]
  obtain⟨x,rfl⟩:∃x:Nat,c=(x:Int):=⟨c.toNat,by omega⟩
  have hl:Nat.log2 x<57:=(Nat.log2_lt (by omega)).2 (by omega)
  have ew:IntKind.wrap .u64 ((x:Nat):Int)=((x:Nat):Int):=by rw[IntKind.wrap_u64];omega
  have e1:ZO n (IntKind.wrap .u64 ((x:Nat):Int))=some ((Nat.log2 x+1:Nat):Int):=by
   rw[ew,ZO_eq];exact bs (len64b (by omega) (by omega)) rfl
  refine bs e1 ?_
  rw[show ((2:Int)==0)=false from rfl]
  have e2:IntKind.wrap .i64 (Int.tdiv (IntKind.wrap .i64 (((Nat.log2 x+1:Nat):Int)+1)) 2)=(((Nat.log2 x+2)/2:Nat):Int):=by
   rw[wr (i:=((Nat.log2 x+1:Nat):Int)+1) (by omega) (by omega),Int.tdiv_eq_ediv_of_nonneg (by omega),wr (by omega) (by omega)]
   omega
  rw[e2]
  rw[dT (show (0:Int)<=(((Nat.log2 x+2)/2:Nat):Int) by omega)]
  have e3:bitShl .i64 1 (((Nat.log2 x+2)/2:Nat):Int)=((2^((Nat.log2 x+2)/2):Nat):Int):=by
   show IntKind.wrap .i64 (1*2^min ((((Nat.log2 x+2)/2:Nat):Int)).toNat 64)=_
   rw[Int.toNat_natCast,RG (by omega),Int.one_mul]
   have h1:2^((Nat.log2 x+2)/2)<=2^29:=Nat.pow_le_pow_right (by decide) (by omega)
   have hc:((2^((Nat.log2 x+2)/2):Nat):Int)=(2:Int)^((Nat.log2 x+2)/2):=by push_cast;rfl
   rw[<-hc]
   generalize 2^((Nat.log2 x+2)/2)=q at h1⊢
   exact wr (by omega) (by omega)
  rw[e3]
  have h1:2^((Nat.log2 x+2)/2)<=2^29:=Nat.pow_le_pow_right (by decide) (by omega)
  have h2:x<2^((Nat.log2 x+2)/2)*2^((Nat.log2 x+2)/2):=by
   rw[<-Nat.pow_add]
   exact QF Nat.lt_log2_self (Nat.pow_le_pow_right (by decide) (by omega))
  generalize 2^((Nat.log2 x+2)/2)=q at h1 h2
  have hr0:0<r:=by
   have h4:=h.2.2
   have h5:=h.1
   rcases Int.lt_or_le 0 r with k|k
   ·exact k
   ·have:r=0:=by omega
    subst this
    simp at h4;omega
  have hrq:r<=(q:Int):=by
   rcases Int.lt_or_le (q:Int) r with k|k
   ·have h3:=sq_le (a:=(q:Int)) (b:=r) (by omega) (by omega)
    have h4:=h.2.1
    have h5:((q*q:Nat):Int)=(q:Int)*(q:Int):=by push_cast;rfl
    omega
   ·exact k
  exact bs (isqrt_loop (n:=n) h hr0 hb (2^33) (q:Int) n (by omega) (by omega) hrq (by omega)) rfl
end Sh
end
section
open Go Go.Proofs Aq Pq
namespace Sh
set_option maxRecDepth 100000
def K27 (a:Int):Prop:=0<=a/\a<=134217728
end Sh
end
section
open Go Go.Proofs Aq Pq
namespace Sh
set_option maxRecDepth 100000
end Sh
end
section
open Go Go.Proofs Aq Pq
namespace Sh
set_option maxRecDepth 100000
noncomputable abbrev KO (n:Nat) (s:graph_search) {β:Type} (a b:Int) (f:Bool->Option β):Option β:=(Xk n (s,(a,b))).bind fun (c:Int)=>f (decide (c< (0:Int)))
section
variable {n:Nat} {s:graph_search} {Ok:Int->Prop} {lt:Int->Int->Prop} (hc:CmpO Ok lt (KO n s)) (ho:Ord lt)
include hc ho
theorem pdq_slot (hn:400<n) {l:List Int} (hl:l.length<256) (hal:Al Ok l) (lim:Int):∃r:PUnit×List Int,QP n ((),(0:Int),((l.length:Nat):Int),lim,(s,())) l=some r/\r.2.Perm l/\r.2.Pairwise fun x y=>¬lt y x:=by
 have h:=pdqAll (n:=n) (d:=(0:Int)) (K:=KO n s) (PL:=(fun g=>QP_m_L2 n g s)) (pd:=(fun m p q=>QP_m n m (p.1,p.2.1,p.2.2.1,p.2.2.2.1,(s,())) q)) hc ho (ins:=(fun p q=>Zi n (p.1,p.2.1,p.2.2.1,(s,())) q)) (heap:=(fun p q=>Zn n (p.1,p.2.1,p.2.2.1,(s,())) q)) (brk:=(fun p q=>ZH n (p.1,p.2.1,p.2.2.1,(s,())) q)) (rev:=(fun p q=>Zs n (p.1,p.2.1,p.2.2.1,(s,())) q)) (cho:=(fun p=>XK n (p.1,p.2.1,p.2.2.1,(s,())))) (pin:=(fun p q=>Zb n (p.1,p.2.1,p.2.2.1,(s,())) q)) (peq:=(fun p q=>Zf n (p.1,p.2.1,p.2.2.1,p.2.2.2.1,(s,())) q)) (prt:=(fun p q=>QR n (p.1,p.2.1,p.2.2.1,p.2.2.2.1,(s,())) q))
  (fun h0 h1 h2 h3 h4=>by
    refine tQ (Zi_eq ..) ?_
    exact tB (insAll (n:=n) (d:=(0:Int)) (K:=KO n s) (L4:=(fun a b c=>Zi_L4 n a b s c)) (L1:=(fun a b=>Zi_L1 n a b s)) hc ho (by intros;kernel_rfl) (by intros;kernel_rfl) h0 h1 h2 (by first|omega| (dsimp only;omega)) h4 (by first|omega| (dsimp only;omega))) fun r hr=>tS hr)
  (fun h0 h1 h2 h3 h4=>heapAll (n:=n) (d:=(0:Int)) (K:=KO n s) (S1:=(fun a b=>ZL_L1 n a b s)) (sift:=(fun p q=>ZL n (p.1,p.2.1,p.2.2.1,p.2.2.2.1,(s,())) q)) (H4:=(fun a b=>Zn_L4 n a b s)) (H8:=(fun a=>Zn_L8 n a s)) (heap:=(fun p q=>Zn n (p.1,p.2.1,p.2.2.1,(s,())) q)) hc ho (by intros;kernel_rfl) (by intros;kernel_rfl) (by intros;kernel_rfl) (by intros;kernel_rfl) (by intros;kernel_rfl) h0 h1 h2 (by first|omega| (dsimp only;omega)) h4 (by first|omega| (dsimp only;omega)))
  (fun h0 h1 h2 h3=>brkAll (n:=n) (d:=(0:Int)) (np:=Xm n) (xs:=ZP n) (next_le n) (shift_some n) (B5:=ZH_L5 n) (brk:=(fun p q=>ZH n (p.1,p.2.1,p.2.2.1,(s,())) q)) (by intros;kernel_rfl) (by intros;kernel_rfl) h0 h1 h2 h3 (by first|omega| (dsimp only;omega)))
  (fun h0 h1 h2 h3 h4=>choAll (0:Int) (K:=KO n s) hc (o2:=(fun p q=>ZX n (p.1,p.2.1,p.2.2.1,p.2.2.2.1,(s,())) q)) (med:=(fun p q=>ZY n (p.1,p.2.1,p.2.2.1,p.2.2.2.1,p.2.2.2.2.1,(s,())) q)) (mad:=(fun p q=>ZZ n (p.1,p.2.1,p.2.2.1,(s,())) q)) (cho:=(fun p=>XK n (p.1,p.2.1,p.2.2.1,(s,())))) (by intros;kernel_rfl) (by intros;kernel_rfl) (by intros;kernel_rfl) (by intros;kernel_rfl) h0 h1 h2 (by first|omega| (dsimp only;omega)) h4)
  (fun h0 h1 h2 h3=>by
    refine tQ (Zs_eq ..) ?_
    exact tB (revAll (n:=n) (d:=(0:Int)) (L2:=Zs_L2 n) (by intros;kernel_rfl) h0 h1 h2 (by first|omega| (dsimp only;omega)) (by first|omega| (dsimp only;omega))) fun r hr=>tS hr)
  (fun h0 h1 h2 h3 h4 h5=>pinAll (n:=n) (d:=(0:Int)) (K:=KO n s) hc ho (I5:=(fun a b c e=>Zb_L5 n a b s c e)) (I14:=(fun a b c e=>Zb_L14 n a b s c e)) (I20:=(fun a b c e=>Zb_L20 n a b s c e)) (IM:=(fun a b=>Zb_L3 n a b s)) (pin:=(fun p q=>Zb n (p.1,p.2.1,p.2.2.1,(s,())) q)) (by intros;kernel_rfl) (by intros;kernel_rfl) (by intros;kernel_rfl) (by intros;kernel_rfl) (by intros;kernel_rfl) h0 h1 h2 (by first|omega| (dsimp only;omega)) h4 (by first|omega| (dsimp only;omega)) h5)
  (fun h0 h1 h2 h3 h4 h5=>peqAll (n:=n) (d:=(0:Int)) (K:=KO n s) hc (E3:=(fun a b c=>Zf_L3 n a s b c)) (E5:=(fun a b c=>Zf_L5 n a s b c)) (EM:=(fun a=>Zf_L503 n a s)) (peq:=(fun p q=>Zf n (p.1,p.2.1,p.2.2.1,p.2.2.2.1,(s,())) q)) (by intros;kernel_rfl) (by intros;kernel_rfl) (by intros;kernel_rfl) (by intros;kernel_rfl) h0 h1 (by first|omega| (dsimp only;omega)) h3 (by first|omega| (dsimp only;omega)) h4 h5)
  (fun h0 h1 h2 h3 h4 h5=>prtAll (n:=n) (d:=(0:Int)) (K:=KO n s) hc ho (P3:=(fun a b c e f g=>QR_L3 n a b c s e f g)) (P5:=(fun a b c e f g=>QR_L5 n a b s c e f g)) (P13:=(fun a b c=>QR_L13 n a s b c)) (P15:=(fun a b c=>QR_L15 n a s b c)) (PM:=(fun a=>QR_L513 n a s)) (prt:=(fun p q=>QR n (p.1,p.2.1,p.2.2.1,p.2.2.2.1,(s,())) q)) (by intros;kernel_rfl) (by intros;kernel_rfl) (by intros;kernel_rfl) (by intros;kernel_rfl) (by intros;kernel_rfl) (by intros;kernel_rfl) h0 h1 (by first|omega| (dsimp only;omega)) h3 (by first|omega| (dsimp only;omega)) h4 h5)
  (by intros;kernel_rfl) (by intros;kernel_rfl) (by first|omega| (dsimp only;omega)) n 0 ((l.length:Nat):Int) lim l (by first|omega| (dsimp only;omega)) (QC _) (by first|omega| (dsimp only;omega)) (QC _) hl hal (fun h=>by omega)
 refine tQ (show QP n ((),(0:Int),((l.length:Nat):Int),lim,(s,())) l=QP_m n n ((),(0:Int),((l.length:Nat):Int),lim,(s,())) l by unfold QP;rfl) ?_
 refine tW h fun r hr=>⟨hr.1.perm,?_⟩
 have:=hr.2
 rw[<-hr.1.len] at this
 exact this.pw
theorem sort_slot (hn:400<n) {l:List Int} (hl:l.length<256) (hal:Al Ok l):∃r:PUnit×List Int,ZR n ((),(s,())) l=some r/\r.2.Perm l/\r.2.Pairwise fun x y=>¬lt y x:=by
 refine tQ (ZR_eq ..) ?_
 have hlen:∃r:Int,ZO n (IntKind.wrap .u64 ((l.length:Nat):Int))=some r:=by
  have ew:IntKind.wrap .u64 ((l.length:Nat):Int)=((l.length:Nat):Int):=by rw[IntKind.wrap_u64];omega
  rw[ew]
  by_cases h:l.length=0
  ·rw[h]
   rw[ZO_eq,ZQ_eq];exact⟨_,rfl⟩
  ·obtain⟨r,e,_⟩:=len_le (k:=((l.length:Nat):Int)) (by first|omega| (dsimp only;omega)) (by first|omega| (dsimp only;omega)) n
   exact⟨r,e⟩
 obtain⟨r,e⟩:=hlen
 exact tE e (tB (pdq_slot hc ho hn hl hal r) fun s hs=>tS hs)
end
end Sh
end
section
open Go Go.Proofs Aq Pq
namespace Sh
set_option maxRecDepth 100000
def OkS (ks:List Int) (x:Int):Prop:=0<=x/\x<ks.length
def kyS (ks:List Int) (x:Int):Int:=ks.getD x.toNat 0
def LtS (ks:List Int) (a b:Int):Prop:=kyS ks a<kyS ks b\/(kyS ks a=kyS ks b/\a<b)
theorem ltS_iff {ks:List Int} {a b:Int}:ltS ks a b=true↔LtS ks a b:=by
 unfold ltS LtS kyS
 rw[Rq,iP,decide_eq_true_iff,decide_eq_true_iff,decide_eq_true_iff]
theorem ordS (ks:List Int):Ord (LtS ks):=⟨fun x y=>by unfold LtS;omega,fun x y z=>by unfold LtS;omega⟩
theorem idx_ky {ks:List Int} {x:Int} (h:OkS ks x):idxL ks x=some (kyS ks x):=by
 have h0:=h.1;have h1:=h.2
 rw[ixI h0 h1]
 unfold kyS
 rw[Q0,QT (by omega)];rfl
def cmpI (x y:Int):Int:=bif decide (x<y) then-1 else bif decide (x>y) then 1 else 0
theorem compare_eq (n:Nat) (x y:Int):Xj n (x,y)=some (cmpI x y):=by
 have e:∀x:Int,ZV n x=some false:=fun x=>(ZV_eq n x).trans (congrArg some (show (x !=x)=false by simp))
 refine(Xj_eq ..).trans (bs (e x) (bs (e y) ?_))
 unfold cmpI
 cases decide (x<y)<;>cases decide (x>y)<;>rfl
theorem or_eq' {n:Nat} (hn:100<n) {a b:Int} {l:List Int} (hl:l.length=2) (e1:idxL l (0:Int)=some a) (e2:idxL l (1:Int)=some b):Zv n l=some (bif a !=0 then a else b):=by
 obtain⟨n',rfl⟩:∃n',n=n'+1+1+1:=⟨n-3,by omega⟩
 refine(Zv_eq ..).trans ?_
 rw[Zv_L3_s,ite_lt (by omega),e1,Option.bind_some]
 cases h:(a !=0)
 ·rw[cond_false,cond_false,show IntKind.wrap .i64 ((0:Int)+1)=1 by decide,Zv_L3_s,ite_lt (by omega),e2,Option.bind_some]
  cases h2:(b !=0)
  ·rw[cond_false,show IntKind.wrap .i64 ((1:Int)+1)=2 by decide,Zv_L3_s,ite_nlt (by omega)]
   have:b=0:=by simpa using h2
   rw[this];rfl
  ·rfl
 ·rfl
theorem or_eq {n:Nat} (hn:100<n) (a b:Int):Zv n [a,b]=some (bif a !=0 then a else b):=
 or_eq' hn rfl (ix0 a [b]) (by unfold idxL;rw[if_pos ⟨by decide,by show (1:Int)<2;decide⟩];rfl)
theorem order_ok {n:Nat} (hn:100<n) {s:graph_search}:CmpO (OkS s.keyed) (LtS s.keyed) (KO n s):=by
 intro a b ha hb
 refine⟨ltS s.keyed a b,ltS_iff,fun f=>?_⟩
 have e:Xk n (s,(a,b))=some (bif cmpI (kyS s.keyed a) (kyS s.keyed b) !=0 then cmpI (kyS s.keyed a) (kyS s.keyed b) else cmpI a b):=by
  refine(Xk_eq ..).trans ?_
  refine bs (idx_ky ha) (bs (idx_ky hb) (bs (compare_eq ..) (bs (compare_eq ..) (bs (or_eq hn ..) rfl))))
 refine bs e ?_
 congr 1
 rw[show ltS s.keyed a b=(decide (kyS s.keyed a<kyS s.keyed b)||(decide (kyS s.keyed a=kyS s.keyed b)&& decide (a<b))) from rfl]
 generalize kyS s.keyed a=x
 generalize kyS s.keyed b=y
 unfold cmpI
 rcases Int.lt_trichotomy x y with h|h|h
 ·rw[dT h];rfl
 ·subst h
  rw[dF (Int.lt_irrefl x),dT (rfl:x=x)]
  show decide ((bif decide (a<b) then (-1:Int) else bif decide (a>b) then 1 else 0)<0)=decide (a<b)
  cases decide (a<b)<;>cases decide (a>b)<;>rfl
 ·rw[dF (show¬x<y by omega),dT (show x>y from h),dF (show¬x=y by omega)];rfl
theorem sorted_slot {n:Nat} (hn:400<n) {s:graph_search} {l:List Int} (h0:l≠[]) (hl:l.length<=40) (hal:Al (OkS s.keyed) l):∃r:List Int,Xs n (l,(s,()))=some r/\r.Perm l/\r.Pairwise fun x y=>¬LtS s.keyed y x:=by
 obtain⟨r,h1,h2,h3⟩:=sort_slot (order_ok (n:=n) (s:=s) (by omega)) (ordS _) hn (l:=l) (by omega) hal
 refine⟨r.2,(Xs_eq ..).trans ?_,h2,h3⟩
 have e:ZU n l ()=some (l,()):=by
  refine(ZU_eq ..).trans ?_
  have e0:(!List.isEmpty l)=true:=by cases l with
   |nil=>exact absurd rfl h0
   |cons=>rfl
  rw[e0,cond_true,room (by omega) (by omega)];rfl
 exact bs e (bs h1 rfl)
end Sh
end
section
open Go Go.Proofs Aq Pq
namespace Sh
set_option maxRecDepth 100000
theorem min_loop {n:Nat} (hn:100<n) {s:graph_search} {x1:List Int} (hl:x1.length<=40) (hal:Al (OkS s.keyed) x1):∀c (i m:Nat) (y:Int),i+c=x1.length->c<m->OkS s.keyed y->Zl_L5 n x1 s m (y,(i:Int))=some (minS s.keyed y (x1.drop i)):=by
 intro c
 induction c with
 |zero=>
  intro i m y hi hm hy
  obtain⟨m,rfl⟩:∃m',m=m'+1:=⟨m-1,by omega⟩
  rw[Zl_L5_s,ite_nlt (by omega),RF (by omega)];rfl
 |succ c ih=>
  intro i m y hi hm hy
  obtain⟨m,rfl⟩:∃m',m=m'+1:=⟨m-1,by omega⟩
  have hlt:i<x1.length:=by omega
  have hok:=hal x1[i] (QG _)
  rw[Zl_L5_s,ite_lt (by omega),QO hlt,wS (by omega)]
  refine bs (ix hlt) ?_
  obtain⟨r,h1,h2⟩:=order_ok (n:=n) hn (s:=s) x1[i] y hok hy
  have e:r=ltS s.keyed x1[i] y:=by
   cases r with
   |true=>exact(ltS_iff.2 (h1.1 rfl)).symm
   |false=>
    cases h:ltS s.keyed x1[i] y with
    |true=>exact(h1.2 (ltS_iff.1 h)).symm▸rfl
    |false=>rfl
  refine(h2 (fun (b:Bool)=>bif b then (idxL x1 (i:Int)).bind fun (r8:Int)=>Zl_L5 n x1 s m (r8,((i+1:Nat):Int)) else Zl_L5 n x1 s m (y,((i+1:Nat):Int)))).trans ?_
  rw[e]
  show _=some (minS s.keyed (bif ltS s.keyed x1[i] y then x1[i] else y) (x1.drop (i+1)))
  cases ltS s.keyed x1[i] y
  ·exact ih (i+1) m y (by omega) (by omega) hy
  ·exact bs (ix hlt) (ih (i+1) m _ (by omega) (by omega) hok)
theorem min_eq {n:Nat} (hn:100<n) {s:graph_search} {a:Int} {l:List Int} (hl:(a::l).length<=40) (hal:Al (OkS s.keyed) (a::l)):Zl n (a::l,(s,()))=some (minS s.keyed a l):=by
 have h1:¬((((a::l).length:Nat):Int)<1):=by rw[List.length_cons];omega
 have h2:=min_loop hn hl hal l.length 1 n a (by rw[List.length_cons];omega) (by rw[List.length_cons] at hl;omega) (hal a (Qz ..))
 refine(Zl_eq ..).trans ?_
 exact bF (dF h1) (bs (ix0 a l) (bs h2 rfl))
theorem minS_mem (ks:List Int):∀(l:List Int) (a:Int),minS ks a l∈a::l
 | [],a=>Q5.2 rfl
 |x::l,a=>by
  have:=minS_mem ks l (bif ltS ks x a then x else a)
  show minS ks (bif ltS ks x a then x else a) l∈a::x::l
  rcases QN.1 this with h|h
  ·rw[h];cases ltS ks x a<;>simp
  ·exact QB _ (QB _ h)
end Sh
end
section
open Go Go.Proofs Aq Pq
namespace Sh
set_option maxRecDepth 100000
theorem shiftG_set {d:Nat} {loc:Aq.Loc} {s:Nat} {o:AObj} {σ:Sig}:ShiftG d (some loc) σ (σ.setObj loc s o):=
 ⟨Qt _,fun _ _=>rfl,fun _ _=>rfl,fun L _ hn=>by
   have:L≠loc:=fun e=>hn (by rw[e])
   simp[Sig.setObj,upd,this]⟩
theorem sea_pc (m:Int) (l:List (List Int)) (hs:List Hood) (ke:List Int):pclean (V.agg [iv m,lv (lv iv) l,lv Hood.v hs,lv iv ke])=true:=by
 simp[pclean,pcleanL,pclean_lv,pclean_lstr,pclean_liv,pclean_lint,pclean_lbool,iv,Hood.pc]
theorem liv_pc (xs:List Int):pclean (lv iv xs)=true:=by simp[pclean,pcleanL,pclean_lv,pclean_lstr,pclean_liv,pclean_lint,pclean_lbool,iv]
theorem cl58 (σ:Sig) (xs:List Int) (m:Int) (l:List (List Int)) (hs:List Hood) (ke:List Int):Is (([]++[lv iv xs,V.fn (Fn.func 32) [V.agg [iv m,lv (lv iv) l,lv Hood.v hs,lv iv ke]] []]++[]).mapM (closeV 20 σ)) (some [lv iv xs,V.fn (Fn.func 32) [V.agg [iv m,lv (lv iv) l,lv Hood.v hs,lv iv ke]] []]):=by
 show List.mapM (closeV 20 σ) [lv iv xs,V.fn (Fn.func 32) [V.agg [iv m,lv (lv iv) l,lv Hood.v hs,lv iv ke]] []]=_
 have p2:=sea_pc m l hs ke
 rw[QH,QH,closeV_clean (liv_pc xs),closeV_fnc]
 simp[closeV_clean p2]
theorem walk_iter {n:Nat} (hn:100<n) {m:Int} {l:List (List Int)} {hs:List Hood} {ke:List Int} (hh:∀h∈hs,h.Slots.length<=40/\Al (OkS ke) h.Slots):
 ∀(nn:Nat) (c:Int) (L:List Int),walkG hs ke nn c=some L->IterO E false 46 [] [.cref [iv m,lv (lv iv) l,lv Hood.v hs,lv iv ke] 0] [iv c] (L.map fun x=>[iv x]):=by
 intro nn0 c0 L0 hw0 loc s d lp σ0 J D hloc hJ hD hr hlp hpre hj0
 have hP:E.P=Try.prog:=rfl
 have hld:loc.1<=d:=hloc loc rfl
 have loop:∀(nn:Nat) (c:Int) (L:List Int) (fr:Fr) (σ:Sig),walkG hs ke nn c=some L->fr.d=d+1->fr.tm 0=yv lp->fr.tm 1= .ref loc s 0->fr.tm 2= .cref [iv m,lv (lv iv) l,lv Hood.v hs,lv iv ke] 0->lp<σ.next->σ0.next<=σ.next->σ.cellsAt loc s=some [iv c]->J (L.map fun x=>[iv x]) σ->
  CW E ((subO Try.f46.body [0]).getD .skip) fr σ (fun e fr' σ'=>σ0.next<=σ'.next/\((e= .exit 0/\D σ')\/(e= .ret/\J [] σ'))):=by
  intro nn
  induction nn with
  |zero=>intro c L fr σ h;cases h
  |succ nn ih=>
   intro c L fr σ h hd h0 h1 h2 hl hn0 hc hj
   have facts:∃(hd:Hood) (a:Int) (sl:List Int),hs[c.toNat]? =some hd/\hd.Slots=a::sl/\OkS ke c/\((a::sl).length<2^62)/\((kyS ke c<=kyS ke (minS ke a sl)/\L=[c])\/(¬kyS ke c<=kyS ke (minS ke a sl)/\∃L',walkG hs ke nn (minS ke a sl)=some L'/\L=c::L')):=by
    unfold walkG at h
    cases e1:hs[c.toNat]? with
    |none=>rw[e1] at h;cases h
    |some hd=>
     rw[e1] at h
     dsimp only at h
     cases e2:hd.Slots with
     |nil=>rw[e2] at h;cases h
     |cons a sl=>
      rw[e2] at h
      dsimp only at h
      refine⟨hd,a,sl,rfl,e2,?_⟩
      cases e3:(inS ke.length c&& (a::sl).all (inS ke.length)&& decide ((a::sl).length<2^62))
      ·rw[e3] at h;cases h
      ·rw[e3,cond_true] at h
       rw[iP,iP,decide_eq_true_iff] at e3
       have hc1:OkS ke c:=by
        have:=e3.1.1
        unfold inS at this
        rw[iP,decide_eq_true_iff,decide_eq_true_iff] at this
        exact this
       refine⟨hc1,e3.2,?_⟩
       change (bif decide (kyS ke c<=kyS ke (minS ke a sl)) then some [c] else (walkG hs ke nn (minS ke a sl)).map (c:: ·))=some L at h
       by_cases e4:kyS ke c<=kyS ke (minS ke a sl)
       ·rw[dT e4] at h;exact .inl ⟨e4,by cases h;rfl⟩
       ·rw[dF e4] at h
        obtain⟨L',h5,h6⟩:=Qu.1 h
        exact .inr ⟨e4,L',h5,h6.symm⟩
   obtain⟨hd',a,sl,f1,f2,f3,f4,f5⟩:=facts
   obtain⟨xs,hL⟩:∃xs,L.map (fun x=>[iv x])=[iv c]::xs:=by
    rcases f5 with ⟨_,rfl⟩| ⟨_,L',_,rfl⟩
    ·exact⟨_,rfl⟩
    ·exact⟨_,rfl⟩
   rw[hL] at hj
   have hl3:∀v:V,ldT Try.prog 3 [v] 0=some v:=by intro v;kernel_rfl
   refine CW.loop (CW.seq (CW.seq (CW.region ?_)))
   refine OW.o1 (by rfl) (fun S=>by simp only[go_sem,Nat.reduceBEq,Nat.reduceAdd, *];with_reducible exact Is.rfl) ?_
   refine OW.o1 (v:=iv c) (by rfl) (fun S=>by simp only[opC,opV,go_sem,Nat.reduceBEq,Nat.reduceAdd,hP,Option.bind_some,Option.map_some,h1,cells_bump,hc,hl3];exact Is.rfl) ?_
   have sh0:ShiftG d (some loc) σ (σ.bump 3):=(shift_bump (d:=d)).G
   have hj':J ([iv c]::xs) (σ.bump 3):=hJ _ _ _ hl hj sh0
   have hl1:lp< (σ.bump 3).next:=by show lp<σ.next+3;omega
   obtain⟨b,σ1,hrnd,hn1,_,hown,hlo1,hb1,hb2⟩:=hr _ _ _ hl1 hj'
   have hc1:σ1.cellsAt loc s=some [iv c]:=(hown loc rfl s).trans hc
   have hl2:lp<σ1.next:=QF hl1 hn1
   have hn2:σ0.next<=σ1.next:=Qw hn0 (Qw (show σ.next<=σ.next+3 by omega) hn1)
   refine OW.yield (l:=lp) (b:=b) (σ1:=σ1) (by rfl) rfl rfl ?_ ?_ ?_
   ·simp only[go_sem,Nat.reduceBEq,Nat.reduceAdd, *]
   ·simp only[go_sem,Nat.reduceBEq,Nat.reduceAdd, *]
    exact hrnd
   refine OW.nil (SeqQ.n ?_)
   cases b with
   |false=>
    refine CW.condF (by simp only[go_sem,Nat.reduceBEq,Nat.reduceAdd, *];exact Is.rfl) ?_
    exact CW.exit (SeqQ.x (LoopQ.x ⟨hn2,.inl ⟨rfl,hb2 rfl⟩⟩))
   |true=>
    refine CW.condT (by simp only[go_sem,Nat.reduceBEq,Nat.reduceAdd, *];exact Is.rfl) ?_
    refine CW.skip (SeqQ.n ?_)
    have hj1:=hb1 rfl
    have q1:fieldT Try.prog 56 1=some (2,25):=by kernel_rfl
    have q2:fieldT Try.prog 25 0=some (0,23):=by kernel_rfl
    have q3:fieldT Try.prog 39 1=some (1,26):=by kernel_rfl
    have q4:fieldT Try.prog 56 2=some (3,26):=by kernel_rfl
    have q5:∀a b c d:V,ldT Try.prog 23 [a,b,c,d] 2=some c:=by intro a b c d;kernel_rfl
    have q6:∀a b c d:V,ldT Try.prog 56 [a,b,c,d] 0=some (.agg [a,b,c,d]):=by intro a b c d;kernel_rfl
    have q7:∀a b:V,ldT Try.prog 26 [a,b] 1=some b:=by intro a b;kernel_rfl
    have q8:∀a b c d:V,ldT Try.prog 26 [a,b,c,d] 3=some d:=by intro a b c d;kernel_rfl
    have k0:=f3.1
    have k1:=f3.2
    have hhs:c.toNat<hs.length:=by
     rcases Nat.lt_or_ge c.toNat hs.length with k|k
     ·exact k
     ·rw[List.getElem?_eq_none k] at f1;cases f1
    have hget:hs[c.toNat]=hd':=by rw[QT hhs] at f1;exact QL f1
    have hix:idxL hs c=some hd':=by rw[ixI k0 (by omega),hget]
    have q9:indexAddrV Try.prog 23 (lv Hood.v hs) (iv c)=some (.cref hd'.c 0):=by
     rw[idx_lv,if_pos (by rfl)]
     have e1:elemT Try.prog 23=some 39:=by kernel_rfl
     have e2:szT Try.prog 39=some 2:=by kernel_rfl
     rw[e1];simp only[Option.bind_some,e2,hix]
     rfl
    have hmem:hd'∈hs:=hget▸QG _
    have hh':=hh hd' hmem
    rw[f2] at hh'
    have hmin:=min_eq (n:=n) hn (s:=⟨⟨m,l⟩,⟨hs⟩,ke⟩) (a:=a) (l:=sl) hh'.1 hh'.2
    have hpure:Pure E 47 [lv iv (a::sl),.fn (.func 32) [.agg [iv m,lv (lv iv) l,lv Hood.v hs,lv iv ke]] []] (iv (minS ke a sl)):=Zl_ok n (a::sl,(⟨⟨m,l⟩,⟨hs⟩,ke⟩,())) (minS ke a sl) hmin
    refine CW.block (CW.seq (CW.drw (fun _=>?_) (by kernel_rfl)))
    refine FW'.o1 (v:=.cref [iv m,lv (lv iv) l,lv Hood.v hs,lv iv ke] 2) (by rfl) (fun S=>by simp only[opC,opV,go_sem,Nat.reduceBEq,Nat.reduceAdd,hP,Option.bind_some,Option.map_some,h2,q1];exact Is.rfl) (by simp only[go_sem,Nat.reduceBEq,Nat.reduceAdd,footI,footS,slotsT,slotsW,dstK,rdF,wrF,refK, *];with_reducible exact Is.rfl) ?_
    refine FW'.o1 (v:=.cref [iv m,lv (lv iv) l,lv Hood.v hs,lv iv ke] 2) (by rfl) (fun S=>by simp only[opC,opV,go_sem,Nat.reduceBEq,Nat.reduceAdd,hP,Option.bind_some,Option.map_some,h2,q2];exact Is.rfl) (by simp only[go_sem,Nat.reduceBEq,Nat.reduceAdd,footI,footS,slotsT,slotsW,dstK,rdF,wrF,refK, *];with_reducible exact Is.rfl) ?_
    refine FW'.o1 (v:=lv Hood.v hs) (by rfl) (fun S=>by simp only[opC,opV,go_sem,Nat.reduceBEq,Nat.reduceAdd,hP,Option.bind_some,Option.map_some,q5];exact Is.rfl) (by simp only[go_sem,Nat.reduceBEq,Nat.reduceAdd,footI,footS,slotsT,slotsW,dstK,rdF,wrF,refK, *];with_reducible exact Is.rfl) ?_
    refine FW'.o1 (v:=iv c) (by rfl) (fun S=>by simp only[opC,opV,go_sem,Nat.reduceBEq,Nat.reduceAdd,hP,Option.bind_some,Option.map_some,h1,cells_bump,hc1,hl3];exact Is.rfl) (by simp only[go_sem,Nat.reduceBEq,Nat.reduceAdd,footI,footS,slotsT,slotsW,dstK,rdF,wrF,refK, *];with_reducible exact Is.rfl) ?_
    refine FW'.o1 (v:=.cref hd'.c 0) (by rfl) (fun S=>by simp only[opC,opV,go_sem,Nat.reduceBEq,Nat.reduceAdd,hP,Option.bind_some,Option.map_some,q9];exact Is.rfl) (by simp only[go_sem,Nat.reduceBEq,Nat.reduceAdd,footI,footS,slotsT,slotsW,dstK,rdF,wrF,refK, *];with_reducible exact Is.rfl) ?_
    refine FW'.o1 (v:=.cref hd'.c 1) (by rfl) (fun S=>by simp only[opC,opV,go_sem,Nat.reduceBEq,Nat.reduceAdd,hP,Option.bind_some,Option.map_some,q3];exact Is.rfl) (by simp only[go_sem,Nat.reduceBEq,Nat.reduceAdd,footI,footS,slotsT,slotsW,dstK,rdF,wrF,refK, *];with_reducible exact Is.rfl) ?_
    refine FW'.o1 (v:=lv iv (a::sl)) (by rfl) (fun S=>by simp only[opC,opV,go_sem,Nat.reduceBEq,Nat.reduceAdd,hP,Option.bind_some,Option.map_some,f2];rw[show hd'.c=[.int .i64 hd'.Radius,lv iv (a::sl)] from by rw[<-f2];rfl];exact Is.rfl) (by simp only[go_sem,Nat.reduceBEq,Nat.reduceAdd,footI,footS,slotsT,slotsW,dstK,rdF,wrF,refK, *];with_reducible exact Is.rfl) ?_
    refine FW'.o1 (v:=.agg [iv m,lv (lv iv) l,lv Hood.v hs,lv iv ke]) (by rfl) (fun S=>by simp only[opC,opV,go_sem,Nat.reduceBEq,Nat.reduceAdd,hP,Option.bind_some,Option.map_some,h2,q6];exact Is.rfl) (by simp only[go_sem,Nat.reduceBEq,Nat.reduceAdd,footI,footS,slotsT,slotsW,dstK,rdF,wrF,refK, *];with_reducible exact Is.rfl) ?_
    refine FW'.o1 (v:=.fn (.func 32) [.agg [iv m,lv (lv iv) l,lv Hood.v hs,lv iv ke]] []) (by rfl) (fun S=>by simp only[opC,opV,go_sem,Nat.reduceBEq,Nat.reduceAdd,hP,Option.bind_some,Option.map_some,h2];exact Is.rfl) (by simp only[go_sem,Nat.reduceBEq,Nat.reduceAdd,footI,footS,slotsT,slotsW,dstK,rdF,wrF,refK, *];with_reducible exact Is.rfl) ?_
    refine FW'.callP hpure (by exact Is.rfl) (by simp only[go_sem,Nat.reduceBEq,Nat.reduceAdd, *];exact cl58 ..) (by rw[show flat (iv (minS ke a sl))=true from rfl,Bool.or_true];exact Is.rfl) (by rfl) (by simp only[go_sem,Nat.reduceBEq,Nat.reduceAdd,footI,footS,slotsT,slotsW,dstK,rdF,wrF,refK, *];with_reducible exact Is.rfl) ?_
    refine FW'.o1 (v:=iv (minS ke a sl)) (by rfl) (fun S=>by simp only[opC,opV,go_sem,Nat.reduceBEq,Nat.reduceAdd,hP,Option.bind_some,Option.map_some,h2];exact Is.rfl) (by simp only[go_sem,Nat.reduceBEq,Nat.reduceAdd,footI,footS,slotsT,slotsW,dstK,rdF,wrF,refK, *];with_reducible exact Is.rfl) ?_
    refine FW'.nil (by kernel_rfl) (NQ.i (SeqQ.n ?_))
    have okx:OkS ke (minS ke a sl):=hh'.2 _ (minS_mem ke sl a)
    have ixv:∀y,OkS ke y->indexAddrV Try.prog 26 (lv iv ke) (iv y)=some (.cref [iv (kyS ke y)] 0):=by
     intro y hy
     rw[idx_lv,if_pos (by rfl)]
     have e1:elemT Try.prog 26=some 3:=by kernel_rfl
     have e2:szT Try.prog 3=some 1:=by kernel_rfl
     rw[e1];simp only[Option.bind_some,e2,idx_ky hy]
     rfl
    have i1:=ixv _ okx
    have i2:=ixv _ f3
    refine CW.seq (CW.seq (CW.drw (fun _=>?_) (by kernel_rfl)))
    refine FW'.o1 (v:=.cref [iv m,lv (lv iv) l,lv Hood.v hs,lv iv ke] 3) (by rfl) (fun S=>by simp only[opC,opV,go_sem,Nat.reduceBEq,Nat.reduceAdd,hP,Option.bind_some,Option.map_some,h2,q4];exact Is.rfl) (by simp only[go_sem,Nat.reduceBEq,Nat.reduceAdd,footI,footS,slotsT,slotsW,dstK,rdF,wrF,refK, *];with_reducible exact Is.rfl) ?_
    refine FW'.o1 (v:=lv iv ke) (by rfl) (fun S=>by simp only[opC,opV,go_sem,Nat.reduceBEq,Nat.reduceAdd,hP,Option.bind_some,Option.map_some,q8];exact Is.rfl) (by simp only[go_sem,Nat.reduceBEq,Nat.reduceAdd,footI,footS,slotsT,slotsW,dstK,rdF,wrF,refK, *];with_reducible exact Is.rfl) ?_
    refine FW'.o1 (v:=iv (minS ke a sl)) (by rfl) (fun S=>by simp only[opC,opV,go_sem,Nat.reduceBEq,Nat.reduceAdd,hP,Option.bind_some,Option.map_some,h2];exact Is.rfl) (by simp only[go_sem,Nat.reduceBEq,Nat.reduceAdd,footI,footS,slotsT,slotsW,dstK,rdF,wrF,refK, *];with_reducible exact Is.rfl) ?_
    refine FW'.o1 (v:=.cref [iv (kyS ke (minS ke a sl))] 0) (by rfl) (fun S=>by simp only[opC,opV,go_sem,Nat.reduceBEq,Nat.reduceAdd,hP,Option.bind_some,Option.map_some,i1];exact Is.rfl) (by simp only[go_sem,Nat.reduceBEq,Nat.reduceAdd,footI,footS,slotsT,slotsW,dstK,rdF,wrF,refK, *];with_reducible exact Is.rfl) ?_
    refine FW'.o1 (v:=iv (kyS ke (minS ke a sl))) (by rfl) (fun S=>by simp only[opC,opV,go_sem,Nat.reduceBEq,Nat.reduceAdd,hP,Option.bind_some,Option.map_some,hl3];exact Is.rfl) (by simp only[go_sem,Nat.reduceBEq,Nat.reduceAdd,footI,footS,slotsT,slotsW,dstK,rdF,wrF,refK, *];with_reducible exact Is.rfl) ?_
    refine FW'.o1 (v:=.cref [iv m,lv (lv iv) l,lv Hood.v hs,lv iv ke] 3) (by rfl) (fun S=>by simp only[opC,opV,go_sem,Nat.reduceBEq,Nat.reduceAdd,hP,Option.bind_some,Option.map_some,h2,q4];exact Is.rfl) (by simp only[go_sem,Nat.reduceBEq,Nat.reduceAdd,footI,footS,slotsT,slotsW,dstK,rdF,wrF,refK, *];with_reducible exact Is.rfl) ?_
    refine FW'.o1 (v:=lv iv ke) (by rfl) (fun S=>by simp only[opC,opV,go_sem,Nat.reduceBEq,Nat.reduceAdd,hP,Option.bind_some,Option.map_some,q8];exact Is.rfl) (by simp only[go_sem,Nat.reduceBEq,Nat.reduceAdd,footI,footS,slotsT,slotsW,dstK,rdF,wrF,refK, *];with_reducible exact Is.rfl) ?_
    refine FW'.o1 (v:=iv c) (by rfl) (fun S=>by simp only[opC,opV,go_sem,Nat.reduceBEq,Nat.reduceAdd,hP,Option.bind_some,Option.map_some,h1,cells_bump,hc1,hl3];exact Is.rfl) (by simp only[go_sem,Nat.reduceBEq,Nat.reduceAdd,footI,footS,slotsT,slotsW,dstK,rdF,wrF,refK, *];with_reducible exact Is.rfl) ?_
    refine FW'.o1 (v:=.cref [iv (kyS ke c)] 0) (by rfl) (fun S=>by simp only[opC,opV,go_sem,Nat.reduceBEq,Nat.reduceAdd,hP,Option.bind_some,Option.map_some,i2];exact Is.rfl) (by simp only[go_sem,Nat.reduceBEq,Nat.reduceAdd,footI,footS,slotsT,slotsW,dstK,rdF,wrF,refK, *];with_reducible exact Is.rfl) ?_
    refine FW'.o1 (v:=iv (kyS ke c)) (by rfl) (fun S=>by simp only[opC,opV,go_sem,Nat.reduceBEq,Nat.reduceAdd,hP,Option.bind_some,Option.map_some,hl3];exact Is.rfl) (by simp only[go_sem,Nat.reduceBEq,Nat.reduceAdd,footI,footS,slotsT,slotsW,dstK,rdF,wrF,refK, *];with_reducible exact Is.rfl) ?_
    refine FW'.o1 (v:=.bool (decide (kyS ke c<=kyS ke (minS ke a sl)))) (by rfl) (fun S=>by simp only[opC,opV,go_sem,Nat.reduceBEq,Nat.reduceAdd,hP,Option.bind_some,Option.map_some];exact Is.rfl) (by simp only[go_sem,Nat.reduceBEq,Nat.reduceAdd,footI,footS,slotsT,slotsW,dstK,rdF,wrF,refK, *];with_reducible exact Is.rfl) ?_
    refine FW'.nil (by kernel_rfl) (NQ.i (SeqQ.n ?_))
    rcases f5 with ⟨g1,rfl⟩| ⟨g1,L',g2,rfl⟩
    ·have hxs:xs=[]:=by cases hL;rfl
     subst hxs
     refine CW.condT (by simp only[go_sem,Nat.reduceBEq,Nat.reduceAdd,dT g1];exact Is.rfl) ?_
     refine CW.ret (SeqQ.r (BlkQ.r (LoopQ.r ⟨?_,.inr ⟨rfl,?_⟩⟩)))
     ·exact Qw hn2 (Qw (QM _ _) (QM _ _))
     ·exact hJ _ _ _ hl2 hj1 ((shift_bump (d:=d)).trans shift_bump).G
    ·have hxs:xs=L'.map (fun x=>[iv x]):=by cases hL;rfl
     subst hxs
     refine CW.condF (by simp only[go_sem,Nat.reduceBEq,Nat.reduceAdd,dF g1];exact Is.rfl) ?_
     refine CW.skip (SeqQ.n (CW.region ?_))
     refine OW.o1 (by rfl) (fun S=>by simp only[go_sem,Nat.reduceBEq,Nat.reduceAdd, *];with_reducible exact Is.rfl) ?_
     refine OW.o0 (by rfl) (fun S=>by simp only[opC,opV,go_sem,Nat.reduceBEq,Nat.reduceAdd,hP,Option.bind_some,Option.map_some,h1,cells_bump,hc1];exact Is.rfl) ?_
     refine OW.nil (BlkQ.n (LoopQ.n (ih (minS ke a sl) L' _ _ g2 ?_ ?_ ?_ ?_ ?_ ?_ ?_ ?_)))
     ·simp only[go_sem,Nat.reduceBEq,Nat.reduceAdd,hd]
     ·simp only[go_sem,Nat.reduceBEq,Nat.reduceAdd,h0]
     ·simp only[go_sem,Nat.reduceBEq,Nat.reduceAdd,h1]
     ·simp only[go_sem,Nat.reduceBEq,Nat.reduceAdd,h2]
     ·exact QF hl2 (Qw (QM _ _) (Qw (QM _ _) (QM _ _)))
     ·exact Qw hn2 (Qw (QM _ _) (Qw (QM _ _) (QM _ _)))
     ·exact cells_eq ..
     ·exact hJ _ _ _ hl2 hj1 ((((shift_bump (d:=d)).trans shift_bump).trans shift_bump).G.trans shiftG_set)
 refine Imp.of (fn:=Try.f46) (c:=Try.f46.body.getD .skip) Try.func46 rfl (by kernel_rfl) ?_
 generalize hfr:({d:=d+1,om:=E.om 46,tm:=fun i=>([]++[.fn (.yield lp) [] []]++[.ref loc s 0,.cref [iv m,lv (lv iv) l,lv Hood.v hs,lv iv ke] 0]:List V).getD i undefV}:Fr)=fr
 have hd:fr.d=d+1:=by rw[<-hfr]
 have h0:fr.tm 0=yv lp:=by rw[<-hfr];rfl
 have h1:fr.tm 1= .ref loc s 0:=by rw[<-hfr];rfl
 have h2:fr.tm 2= .cref [iv m,lv (lv iv) l,lv Hood.v hs,lv iv ke] 0:=by rw[<-hfr];rfl
 clear hfr
 refine CW.block ?_
 refine(loop nn0 c0 L0 fr σ0 hw0 hd h0 h1 h2 hlp (Qt _) hpre hj0).mono ?_
 rintro e fr' σ' ⟨k0,⟨rfl,k1⟩| ⟨rfl,k1⟩⟩
 ·exact BlkQ.hit ⟨[],rfl,k0,.inr k1⟩
 ·exact BlkQ.r ⟨[],rfl,k0,.inl k1⟩
end Sh
end
section
open Go Go.Proofs Aq Pq
namespace Sh
set_option maxRecDepth 100000
def askB (m:Int) (l:List (List Int)) (hs:List Hood) (v:List Int) (c:Int):Bool:=
 ((mtB m&& fitB l)&& validB ((l.length:Nat):Int) hs)&& (alikeB (l.headD []) v&& (decide (0<=c)&& decide (c< ((l.length:Nat):Int))))
theorem slB_all {k:Int}:∀{l:List Int} {p:Option Int},slB k p l=true->∀x∈l,0<=x/\x<k
 | [],_,_,x,hx=>by cases hx
 |y::l,p,h,x,hx=>by
  unfold slB at h
  rw[iP,iP,Q6,QY,decide_eq_false_iff_not,decide_eq_false_iff_not] at h
  rcases QN.1 hx with e|e
  ·subst e;omega
  ·exact slB_all h.2 x e
theorem hoodsB_get {k:Int}:∀{hs:List Hood} {j:Nat},hoodsB k j hs=true->∀(i:Nat) (hi:i<hs.length),hoodB k (j+i) hs[i]=true
 | [],_,_,i,hi=>by cases hi
 |h::hs,j,hb,i,hi=>by
  unfold hoodsB at hb
  rw[iP] at hb
  cases i with
  |zero=>exact hb.1
  |succ i=>
   have:=hoodsB_get hb.2 i (by simpa using hi)
   rw[show j+1+i=j+(i+1) by omega] at this
   exact this
structure Asked (m:Int) (l:List (List Int)) (hs:List Hood) (v:List Int):Prop where
 m3:M3 m
 ok:LOK l v
 len:hs.length=l.length
 few:FewG hs
 slot:∀(i:Nat) (hi:i<hs.length),(i:Int)∈hs[i].Slots/\Al (OkS (keysS m l v)) hs[i].Slots/\0<=hs[i].Radius/\hs[i].Radius<=134217728
theorem asked_of {m:Int} {l:List (List Int)} {hs:List Hood} {v:List Int} {c:Int} (hf:FewL l) (hg:FewG hs) (h:askB m l hs v c=true):Asked m l hs v/\OkS (keysS m l v) c:=by
 unfold askB at h
 rw[iP,iP,iP,iP,iP,decide_eq_true_iff,decide_eq_true_iff] at h
 obtain⟨⟨⟨hm,hfit⟩,hv⟩,hal,hc0,hc1⟩:=h
 have hlen:=valid_len hv
 have hLOK:LOK l v:=by
  cases l with
  |nil=>unfold fitB at hfit;cases hfit
  |cons a l'=>
   have hal':alikeB a v=true:=hal
   unfold alikeB at hal'
   rw[iP,iP,vokB_iff,vokB_iff,decide_eq_true_iff] at hal'
   have h0:=fit_iff hfit hf (Qz (a:=a) (l:=l'))
   exact⟨h0.1,hal'.2.2,fun x hx=>⟨(h0.2.2 x hx).1,(h0.2.2 x hx).2.trans hal'.1⟩⟩
 refine⟨⟨mtB_iff.1 hm,hLOK,by omega,hg,fun i hi=>?_⟩,hc0,by rw[keysS_len];omega⟩
 unfold validB at hv
 rw[iP] at hv
 have hb:=hoodsB_get hv.2 i hi
 rw[Q7] at hb
 unfold hoodB at hb
 rw[iP,iP,Q6,QY,decide_eq_false_iff_not,decide_eq_false_iff_not,decide_eq_true_iff] at hb
 refine⟨hb.1.2,fun x hx=>?_,by omega,by omega⟩
 have:=slB_all hb.2 x hx
 exact⟨this.1,by rw[keysS_len];exact this.2⟩
theorem dlt (a b:Int):decide (a<b)= !decide (b<=a):=by
 by_cases h:b<=a
 ·rw[dT h,dF (by omega)];rfl
 ·rw[dF h,dT (by omega)];rfl
theorem dge (a b:Int):decide (a>=b)= !decide (a<b):=by
 by_cases h:a<b
 ·rw[dT h,dF (by omega)];rfl
 ·rw[dF h,dT (by omega)];rfl
theorem begin_eq {n:Nat} {m:Int} {l:List (List Int)} {g:Graph} {v:List Int} {c:Int} (hn:400<n) (hf:FewL l) (hg:FewG g.Hoods) (hv:v.length<=40):
 Xd n (m,(l,(g,(v,c))))=some (⟨⟨m,l⟩,g,bif askB m l g.Hoods v c then keysS m l v else []⟩,askB m l g.Hoods v c):=by
 refine(Xd_eq ..).trans ?_
 refine bs (right_eq (by omega) hf) ?_
 have e0:(whenO (!(!(mtB m&& fitB l))) (Zd n (((l.length:Nat):Int),g)) false)=some ((mtB m&& fitB l)&& validB ((l.length:Nat):Int) g.Hoods):=by
  rw[gvalid_eq (by omega) hg];cases (mtB m&& fitB l)<;>rfl
 refine bs e0 ?_
 cases hr:((mtB m&& fitB l)&& validB ((l.length:Nat):Int) g.Hoods)
 ·have ha:askB m l g.Hoods v c=false:=by unfold askB;rw[hr];rfl
  rw[ha]
  cases hr2:(mtB m&& fitB l)
  ·exact bs (a:=[]) rfl (bs (a:=false) rfl rfl)
  ·exact bs (a:=[]) rfl (bs (a:=false) rfl rfl)
 ·have hr2:(mtB m&& fitB l)=true:=by rw[iP] at hr;exact hr.1
  rw[hr2]
  cases l with
  |nil=>unfold fitB at hr2;simp at hr2
  |cons a l'=>
   refine bs (ix0 a l') ?_
   refine bs (valike_eq (by omega) (hf.2 a (Qz ..)) hv) ?_
   have ha:askB m (a::l') g.Hoods v c=(alikeB a v&& (decide (0<=c)&& decide (c< (((a::l').length:Nat):Int)))):=by
    unfold askB;rw[hr,Bool.true_and];rfl
   have e1:(bif bif bif bif bif !true then true else !true then true else !alikeB a v then true else decide (c<0) then true else decide (c>=(((a::l').length:Nat):Int)) then some ((⟨⟨m,a::l'⟩,g,[]⟩:graph_search),false) else (Zm n (⟨m,a::l'⟩,v)).bind fun (r10:List Int)=>some ((⟨⟨m,a::l'⟩,g,r10⟩:graph_search),true))=some (⟨⟨m,a::l'⟩,g,bif askB m (a::l') g.Hoods v c then keysS m (a::l') v else []⟩,askB m (a::l') g.Hoods v c):=by
    rw[show (bif bif bif bif bif !true then true else !true then true else !alikeB a v then true else decide (c<0) then true else decide (c>=(((a::l').length:Nat):Int)) then some ((⟨⟨m,a::l'⟩,g,[]⟩:graph_search),false) else (Zm n (⟨m,a::l'⟩,v)).bind fun (r10:List Int)=>some ((⟨⟨m,a::l'⟩,g,r10⟩:graph_search),true))=bif (!askB m (a::l') g.Hoods v c) then some ((⟨⟨m,a::l'⟩,g,[]⟩:graph_search),false) else (Zm n (⟨m,a::l'⟩,v)).bind fun (r10:List Int)=>some ((⟨⟨m,a::l'⟩,g,r10⟩:graph_search),true) from by
     rw[ha]
     congr 1
     rw[cT,cT,cT,dlt c 0,dge c (((a::l').length:Nat):Int)]
     cases alikeB a v<;>cases decide (0<=c)<;>cases decide (c< (((a::l').length:Nat):Int))<;>rfl]
    cases hk:askB m (a::l') g.Hoods v c
    ·rfl
    ·have:=asked_of hf hg hk
     exact bs (keys_eq (by omega) this.1.m3 this.1.ok) rfl
   exact e1
theorem cnt_lt {ks:List Int} {x y:Int} (h:x<y) (hx:x∈ks):ks.countP (fun k=>decide (k<x))<ks.countP (fun k=>decide (k<y)):=by
 induction ks with
 |nil=>cases hx
 |cons k ks ih=>
  rw[List.countP_cons,List.countP_cons]
  have mono:ks.countP (fun k=>decide (k<x))<=ks.countP (fun k=>decide (k<y)):=List.countP_mono_left fun z _ hz=>by rw[decide_eq_true_iff] at hz⊢;omega
  rcases QN.1 hx with e|e
  ·subst e
   rw[dF (Int.lt_irrefl x),dT h]
   simp only[if_true,Qv,if_false];omega
  ·have:=ih e
   by_cases c1:k<x
   ·rw[dT c1,dT (show k<y by omega)];simp only[if_true];omega
   ·rw[dF c1]
    simp only[Qv,if_false];omega
theorem ky_mem {ks:List Int} {x:Int} (h:OkS ks x):kyS ks x∈ks:=by
 have h0:=h.1;have h1:=h.2
 unfold kyS
 rw[Q0,QT (by omega)]
 exact QG _
theorem walk_ex {m:Int} {l:List (List Int)} {hs:List Hood} {v:List Int} (h:Asked m l hs v):∀(nn:Nat) (c:Int),OkS (keysS m l v) c->(keysS m l v).countP (fun k=>decide (k<kyS (keysS m l v) c))<nn->∃L,walkG hs (keysS m l v) nn c=some L/\L.length<=nn/\(∃L',L=c::L')/\∀x∈L,OkS (keysS m l v) x:=by
 intro nn
 induction nn with
 |zero=>intro c _ hc;omega
 |succ nn ih=>
  intro c hc hcnt
  have h0:=hc.1;have h1:=hc.2
  have hkl:=keysS_len m l v
  have hlt:c.toNat<hs.length:=by have:=h.len;omega
  obtain⟨s1,s2,_,_⟩:=h.slot c.toNat hlt
  have hl40:=h.few.2 _ (QG hlt)
  have hl25:=h.ok.1
  unfold walkG
  rw[QT hlt]
  dsimp only
  cases hsl:hs[c.toNat].Slots with
  |nil=>rw[hsl] at s1;cases s1
  |cons a sl=>
   rw[hsl] at s2 hl40
   dsimp only
   have e3:(inS (keysS m l v).length c&& (a::sl).all (inS (keysS m l v).length)&& decide ((a::sl).length<2^62))=true:=by
    have i1:∀x,OkS (keysS m l v) x->inS (keysS m l v).length x=true:=fun x hx=>by unfold inS;rw[dT hx.1,dT hx.2];rfl
    rw[i1 c hc,QK.2 fun x hx=>i1 x (s2 x hx),dT (by omega)];rfl
   rw[e3,cond_true]
   have hm:=s2 _ (minS_mem (keysS m l v) sl a)
   change∃L,(bif decide (kyS (keysS m l v) c<=kyS (keysS m l v) (minS (keysS m l v) a sl)) then some [c] else (walkG hs (keysS m l v) nn (minS (keysS m l v) a sl)).map (c:: ·))=some L/\_
   by_cases hle:kyS (keysS m l v) c<=kyS (keysS m l v) (minS (keysS m l v) a sl)
   ·rw[dT hle]
    exact⟨[c],rfl,by simp,⟨[],rfl⟩,fun x hx=>by rw[Q5.1 hx];exact hc⟩
   ·rw[dF hle]
    have:=cnt_lt (ks:=keysS m l v) (show kyS (keysS m l v) (minS (keysS m l v) a sl)<kyS (keysS m l v) c by omega) (ky_mem hm)
    obtain⟨L,w1,w2,w3,w4⟩:=ih _ hm (by omega)
    refine⟨c::L,by rw[w1];rfl,by rw[List.length_cons];omega,⟨L,rfl⟩,fun x hx=>?_⟩
    rcases QN.1 hx with e|e
    ·rw[e];exact hc
    ·exact w4 x e
theorem walk_tot {m:Int} {l:List (List Int)} {hs:List Hood} {v:List Int} (h:Asked m l hs v) {c:Int} (hc:OkS (keysS m l v) c):∃L,walkG hs (keysS m l v) (hs.length+1) c=some L/\L.length<=40/\(∃L',L=c::L')/\∀x∈L,OkS (keysS m l v) x:=by
 have h1:(keysS m l v).countP (fun k=>decide (k<kyS (keysS m l v) c))<=(keysS m l v).length:=List.countP_le_length
 have h2:=keysS_len m l v
 have h3:=h.len
 have h4:=h.few.1
 obtain⟨L,w1,w2,w3,w4⟩:=walk_ex h (hs.length+1) c hc (by omega)
 exact⟨L,w1,by omega,w3,w4⟩
end Sh
end
section
open Go Go.Proofs Aq Pq
namespace Sh
set_option maxRecDepth 100000
theorem walkR_some {m:Int} {l:List (List Int)} {g:Graph} {v:List Int} (h:Asked m l g.Hoods v) {c:Int} {L:List Int} (hw:walkG g.Hoods (keysS m l v) (g.Hoods.length+1) c=some L):walkR (m,(l,(g.Hoods,keysS m l v))) c=some L:=by
 refine walkR_of (b:=(m,(l,(g.Hoods,keysS m l v)))) (c:=c) hw ?_
 have:=walk_iter (n:=101) (by decide) (m:=m) (l:=l) (hs:=g.Hoods) (ke:=keysS m l v) (fun hd hh=>by
  obtain⟨i,hi,rfl⟩:=List.getElem_of_mem hh
  exact⟨h.few.2 _ hh,(h.slot i hi).2.1⟩) _ _ _ hw
 exact this
theorem app_eq {n:Nat}:∀(xs o:List Int),xs.length+o.length<=100->Zp_R3 n xs ((),((),o))=some ((),((),o++xs))
 | [],o,_=>by rw[Zp_R3_0,QX]
 |x::xs,o,ho=>by
  rw[List.length_cons] at ho
  rw[Zp_R3_s,room (by simp only[List.length_singleton];omega) (by simp only[List.length_singleton];omega),cond_true,app_eq xs _ (by rw[QI];simp only[List.length_singleton];omega),QS]
  rfl
theorem gwalk_eq {n:Nat} {m:Int} {l:List (List Int)} {g:Graph} {v:List Int} {c:Int} (hn:400<n) (hf:FewL l) (hg:FewG g.Hoods) (hv:v.length<=40):
 (askB m l g.Hoods v c=false->Xe n (m,(l,(g,(v,c))))=some ([],(1:Int)))/\(askB m l g.Hoods v c=true->∀L,walkG g.Hoods (keysS m l v) (g.Hoods.length+1) c=some L->L.length<=40->Xe n (m,(l,(g,(v,c))))=some (L,(0:Int))):=by
 have hb:=begin_eq (n:=n) (m:=m) (l:=l) (g:=g) (v:=v) (c:=c) hn hf hg hv
 constructor
 ·intro ha
  rw[ha] at hb
  exact(Xe_eq ..).trans (bs hb rfl)
 ·intro ha L hL hlen
  rw[ha] at hb
  have hA:=asked_of hf hg ha
  refine(Xe_eq ..).trans (bs hb ?_)
  refine bs (ZW_eq ..) ?_
  have e1:Zp n ((),((),((),(m,(l,(g.Hoods,keysS m l v)))))) c=some (L,()):=by
   refine(Zp_eq ..).trans ?_
   exact bs (bs (walkR_some hA.1 hL) (app_eq L [] (by simp;omega))) rfl
  have e2:Xi n ((),((),(m,(l,(g.Hoods,keysS m l v))))) c=some (L,()):=(Xi_eq ..).trans (bs e1 rfl)
  exact bs e2 rfl
theorem hood_at {m:Int} {l:List (List Int)} {hs:List Hood} {v:List Int} (h:Asked m l hs v) {x:Int} (hx:OkS (keysS m l v) x):∃(hd:Hood) (a:Int) (sl:List Int),hs[x.toNat]? =some hd/\idxL hs x=some hd/\hd.Slots=a::sl/\Al (OkS (keysS m l v)) (a::sl)/\(a::sl).length<=40/\0<=hd.Radius/\hd.Radius<=134217728:=by
 have hx0:=hx.1
 have hx1:=hx.2
 rw[keysS_len] at hx1
 have hlen:=h.len
 have hlt:x.toNat<hs.length:=by omega
 obtain⟨s1,s2,s3,s4⟩:=h.slot x.toNat hlt
 have s5:=h.few.2 _ (QG hlt)
 cases hsl:hs[x.toNat].Slots with
 |nil=>rw[hsl] at s1;cases s1
 |cons a sl=>
  rw[hsl] at s2 s5
  exact⟨hs[x.toNat],a,sl,QT hlt,ixI hx0 (by omega),hsl,s2,s5,s3,s4⟩
end Sh
end
section
open Go Go.Proofs Aq Pq
namespace Sh
set_option maxRecDepth 100000
def nrB (ks:List Int) (t x:Int):Bool:=decide (kyS ks x<=t)
theorem far_eq {n:Nat} {s:graph_search} {t x:Int} (hx:OkS s.keyed x):Xl n (x,((s.space.m,(s.space.l,(s.g.Hoods,s.keyed))),t))=some (!nrB s.keyed t x):=by
 refine(Xl_eq ..).trans (bs (idx_ky hx) ?_)
 unfold nrB
 congr 1
 by_cases h:kyS s.keyed x<=t
 ·rw[dT h,dF (by omega)];rfl
 ·rw[dF h,dT (by omega)];rfl
theorem index_eq {n:Nat} (hn:100<n) {s:graph_search} {t:Int} {sl:List Int} (hl:sl.length<=40) (hal:Al (OkS s.keyed) sl):∃r:PUnit⊕Int,Zw_L2 n sl s.space.m s.space.l s.g.Hoods s.keyed t n (0:Int)=some r/\
 ((r= .inl ()/\sl.filter (nrB s.keyed t)=sl)\/∃i:Nat,r= .inr (i:Int)/\∃hi:i<sl.length,(sl.take (i+1)).filter (nrB s.keyed t)=sl.take i):=by
 have key:∀c (i m:Nat),i+c=sl.length->c<m->(sl.take i).filter (nrB s.keyed t)=sl.take i->∃r:PUnit⊕Int,Zw_L2 n sl s.space.m s.space.l s.g.Hoods s.keyed t m (i:Int)=some r/\
  ((r= .inl ()/\sl.filter (nrB s.keyed t)=sl)\/∃i:Nat,r= .inr (i:Int)/\∃hi:i<sl.length,(sl.take (i+1)).filter (nrB s.keyed t)=sl.take i):=by
  intro c
  induction c with
  |zero=>
   intro i m hi hm hp
   obtain⟨m,rfl⟩:∃m',m=m'+1:=⟨m-1,by omega⟩
   rw[Zw_L2_s,ite_nlt (by omega)]
   refine⟨_,rfl,.inl ⟨rfl,?_⟩⟩
   rw[Ri (by omega)] at hp
   exact hp
  |succ c ih=>
   intro i m hi hm hp
   obtain⟨m,rfl⟩:∃m',m=m'+1:=⟨m-1,by omega⟩
   have hlt:i<sl.length:=by omega
   have hx:=hal sl[i] (QG _)
   have htk:sl.take (i+1)=sl.take i++[sl[i]]:=List.take_succ_eq_append_getElem hlt
   rw[Zw_L2_s,ite_lt (by omega),wS (by omega)]
   refine tE (ix hlt) (tE (far_eq hx) ?_)
   cases hb:nrB s.keyed t sl[i]
   ·refine⟨_,rfl,.inr ⟨i,rfl,hlt,?_⟩⟩
    rw[htk,RY,hp,List.filter_cons_of_neg (by rw[hb];decide)]
    simp
   ·refine ih (i+1) m (by omega) (by omega) ?_
    rw[htk,RY,hp,List.filter_cons_of_pos hb]
    rfl
 exact key sl.length 0 n (by omega) (by omega) rfl
theorem del_loop {n:Nat} {s:graph_search} {t:Int} {sl:List Int} (hl:sl.length<=40) (hal:Al (OkS s.keyed) sl):∀c (r w m:Nat) (D:List Int),r+c=sl.length->c<m->w<=r->D.length=sl.length->D.take w=(sl.take r).filter (nrB s.keyed t)->D.drop r=sl.drop r->
 ∃(w':Nat) (D':List Int),Ze_L5 n s t m (((w:Int),(r:Int)),D)=some ((w':Int),D')/\w'<=sl.length/\D'.length=sl.length/\D'.take w'=sl.filter (nrB s.keyed t):=by
 intro c
 induction c with
 |zero=>
  intro r w m D hr hm hw hD h1 h2
  obtain⟨m,rfl⟩:∃m',m=m'+1:=⟨m-1,by omega⟩
  rw[Ze_L5_s,ite_nlt (by omega)]
  refine⟨w,D,rfl,by omega,hD,?_⟩
  rw[h1,Ri (by omega)]
 |succ c ih=>
  intro r w m D hr hm hw hD h1 h2
  obtain⟨m,rfl⟩:∃m',m=m'+1:=⟨m-1,by omega⟩
  have hlt:r<sl.length:=by omega
  have hlD:r<D.length:=by omega
  have hget:D[r]=sl[r]:=by
   have a1:=QO hlD
   have a2:=QO hlt
   rw[h2,a2] at a1
   exact(List.cons.inj a1).1.symm
  have hd1:D.drop (r+1)=sl.drop (r+1):=by
   have a1:=QO hlD
   have a2:=QO hlt
   rw[h2,a2] at a1
   exact(List.cons.inj a1).2.symm
  have hx:=hal sl[r] (QG _)
  have htk:sl.take (r+1)=sl.take r++[sl[r]]:=List.take_succ_eq_append_getElem hlt
  have e1:idxL D (r:Int)=some sl[r]:=by rw[ix hlD,hget]
  have e:Ze_L5 n s t (m+1) (((w:Int),(r:Int)),D)=bif nrB s.keyed t sl[r] then Ze_L5 n s t m ((((w+1:Nat):Int),((r+1:Nat):Int)),D.set w sl[r]) else Ze_L5 n s t m (((w:Int),((r+1:Nat):Int)),D):=by
   refine(Ze_L5_s ..).trans ?_
   rw[ite_lt (by omega),dT ⟨by omega,by omega⟩,cond_true,wS (i:=r) (by omega)]
   refine bs e1 (bs (far_eq hx) ?_)
   cases hb:nrB s.keyed t sl[r]
   ·rfl
   ·rw[show (!!true)=true from rfl,cond_true,dT ⟨by omega,by omega⟩,cond_true,wS (i:=w) (by omega),setL_nat]
    exact bs (ix (show w<D.length by omega)) rfl
  rw[e]
  cases hb:nrB s.keyed t sl[r]
  ·refine ih (r+1) w m D (by omega) (by omega) (by omega) hD ?_ hd1
   rw[h1,htk,RY,List.filter_cons_of_neg (by rw[hb];decide)]
   simp
  ·refine ih (r+1) (w+1) m _ (by omega) (by omega) (by omega) (by rw[List.length_set];exact hD) ?_ ?_
   ·have hsl:w< (D.set w sl[r]).length:=by rw[List.length_set];omega
    rw[List.take_succ_eq_append_getElem hsl,htk,RY,List.filter_cons_of_pos hb,<-h1,List.take_set_of_le (Qt _),List.getElem_set_self]
    rfl
   ·rw[List.drop_set_of_lt (by omega),hd1]
theorem take_clr {D:List Int} {w:Nat} {z:Int} (hw:w<=D.length):(clrL D (w:Int) ((D.length:Nat):Int) z).take w=D.take w/\(clrL D (w:Int) ((D.length:Nat):Int) z).length=D.length:=by
 unfold clrL
 rw[Int.toNat_natCast,Int.toNat_natCast,List.drop_length,QX]
 constructor
 ·rw[RS (by rw[QE];omega),List.take_take,Nat.min_self]
 ·rw[QI,QE,List.length_replicate];omega
theorem del_eq {n:Nat} (hn:100<n) {s:graph_search} {t:Int} {sl:List Int} (hl:sl.length<=40) (hal:Al (OkS s.keyed) sl):∃(w:Int) (D:List Int),Ze n ((),((),((),()))) (sl,(s,t))=some (((0:Int),w),(D,(s,t)))/\subI D 0 w=sl.filter (nrB s.keyed t):=by
 obtain⟨r,h1,h2⟩:=index_eq (n:=n) hn (t:=t) hl hal
 rcases h2 with ⟨rfl,h2⟩| ⟨i,rfl,hi,h2⟩
 ·refine⟨((sl.length:Nat):Int),sl,?_,?_⟩
  ·refine(Ze_eq ..).trans ?_
   exact bs ((Zw_eq ..).trans (bs h1 rfl)) rfl
  ·unfold subI
   rw[h2,Int.toNat_natCast,List.take_length]
   try rfl
 ·obtain⟨w,D,k1,k2,k3,k4⟩:=del_loop (n:=n) (t:=t) hl hal (sl.length-(i+1)) (i+1) i n sl (by omega) (by omega) (by omega) rfl h2.symm rfl
  have hc:=take_clr (D:=D) (w:=w) (z:=0) (by omega)
  refine⟨(w:Int),clrL D (w:Int) ((D.length:Nat):Int) 0,?_,?_⟩
  ·refine(Ze_eq ..).trans ?_
   refine bs ((Zw_eq ..).trans (bs h1 rfl)) ?_
   rw[show ((i:Int)==(-1:Int))=false from by simp,cond_false,wS (by omega)]
   refine bs k1 ?_
   dsimp only
   simp only[Int.sub_zero,Int.zero_add]
   rw[show inV (w:Int) ((D.length:Nat):Int) ((D.length:Nat):Int)=true from dT ⟨by omega,by omega,by omega⟩,cond_true,hc.2,show inV 0 (w:Int) ((D.length:Nat):Int)=true from dT ⟨by omega,by omega,by omega⟩,cond_true]
   try rfl
  ·unfold subI
   rw[Int.toNat_natCast,hc.1,k4];rfl
end Sh
end
section
open Go Go.Proofs Aq Pq
namespace Sh
set_option maxRecDepth 100000
def lastD:Int->List Int->Int
 |d,[]=>d
 |_,x::l=>lastD x l
theorem lastD_mem:∀(L:List Int) (c:Int),lastD c L∈c::L
 | [],c=>Q5.2 rfl
 |x::L,c=>QB _ (lastD_mem L x)
end Sh
end
section
open Go Go.Proofs Aq Pq
namespace Sh
set_option maxRecDepth 100000
theorem near_loop {n:Nat} {m:Int} {l:List (List Int)} {g:Graph} {k:Int} {r7:graph_search×Bool}:∀(L:List Int) (last:Int),Zq_R7 n m l g k r7 L ((),last)=some ((),lastD last L)
 | [],last=>Zq_R7_0 ..
 |x::L,last=>(Zq_R7_s ..).trans (near_loop L x)
end Sh
end
section
open Go Go.Proofs Aq Pq
namespace Sh
set_option maxRecDepth 100000
def hiS (m a b r:Int):Int:=bif decide (m=2) then imin (a+b+r) 134217728 else imin (a+b) 134217728
theorem high_val {n:Nat} {m a b r:Int} (hn:2^34<n) (ha:K27 a) (hb:K27 b) (hr:IsRt (4*a*b) r):XI n (m,(a,b))=some (hiS m a b r):=by
 have ha1:=ha.1;have ha2:=ha.2;have hb1:=hb.1;have hb2:=hb.2
 have hm0:0<=4*a*b:=Int.mul_nonneg (by omega) hb1
 have hm1:4*a*b<=2^56:=by
  have:=Int.mul_le_mul (show 4*a<=536870912 by omega) hb2 hb1 (by omega)
  simpa using this
 have hr2:r<=2^28:=by
  rcases Int.lt_or_le (2^28) r with k|k
  ·have:=sq_lt (a:=2^28) (b:=r) (by decide) k
   have:=hr.2.1
   omega
  ·exact k
 have hr1:=hr.1
 have ew:IntKind.wrap .i64 (IntKind.wrap .i64 (4*a)*b)=4*a*b:=by
  rw[wr (i:=4*a) (by omega) (by omega),wr (by omega) (by omega)]
 refine(XI_eq ..).trans ?_
 unfold highF hi2 hiS
 cases decide (m=2)
 ·refine bs (a:=a+b) ?_ rfl
  show Xg n (a,b)=_
  rw[Xg_eq,wr (by omega) (by omega)]
 ·refine bs (a:=a+b+r) ?_ rfl
  show Xf n (a,(b,(1:Int)))=_
  rw[Xf_eq,ew]
  refine bs (isqrt_eq hn hr hm1) ?_
  rw[Int.one_mul,wr (i:=r) (by omega) (by omega),wr (i:=a+b) (by omega) (by omega),wr (by omega) (by omega)]
theorem covers_val {n:Nat} {m a b c r:Int} (hn:2^34<n) (ha:K27 a) (hb:K27 b) (hr:IsRt (4*a*b) r):Xh n (m,(a,(b,c)))=some (decide (hiS m a b r<=c)):=
 (Xh_eq ..).trans (bs (high_val hn ha hb hr) rfl)
def kk (m:Int) (l:List (List Int)) (x y:Int):Int:=keyS m (l.getD x.toNat []) (l.getD y.toNat [])
theorem mem_arS {t:Int}:∀(ks:List Int) (i:Nat) (x:Int),x∈arS t i ks↔∃j,∃hj:j<ks.length,x=((i+j:Nat):Int)/\ks[j]<=t
 | [],i,x=>⟨fun h=>(by cases h),fun ⟨j,hj,_⟩=>(by cases hj)⟩
 |k::ks,i,x=>by
  have ih:=mem_arS (t:=t) ks (i+1) x
  have tail:x∈arS t (i+1) ks↔∃j,∃hj:j+1< (k::ks).length,x=((i+(j+1):Nat):Int)/\(k::ks)[j+1]<=t:=by
   rw[ih]
   constructor
   ·rintro⟨j,hj,e1,e2⟩
    exact⟨j,by simpa using hj,by rw[e1];congr 1;omega,by simpa using e2⟩
   ·rintro⟨j,hj,e1,e2⟩
    exact⟨j,by simpa using hj,by rw[e1];congr 1;omega,by simpa using e2⟩
  unfold arS
  by_cases hk:k<=t
  ·rw[dT hk,cond_true,QN,tail]
   constructor
   ·rintro (h| ⟨j,hj,e⟩)
    ·exact⟨0,by simp,by simpa using h,by simpa using hk⟩
    ·exact⟨j+1,hj,e⟩
   ·rintro⟨j,hj,e1,e2⟩
    cases j with
    |zero=>exact .inl (by simpa using e1)
    |succ j=>exact .inr ⟨j,hj,e1,e2⟩
  ·rw[dF hk,cond_false,tail]
   constructor
   ·rintro⟨j,hj,e⟩
    exact⟨j+1,hj,e⟩
   ·rintro⟨j,hj,e1,e2⟩
    cases j with
    |zero=>exact absurd (by simpa using e2) hk
    |succ j=>exact⟨j,hj,e1,e2⟩
end Sh
end
section
open Go Go.Proofs Aq Pq
namespace Sh
set_option maxRecDepth 100000
def Exact (m:Int) (l:List (List Int)) (hs:List Hood):Prop:=∀(i:Nat) (hi:i<hs.length),hs[i].Slots=arS hs[i].Radius 0 (keysS m l (l.getD i []))
theorem keysS_get {m:Int} {l:List (List Int)} {v:List Int} {j:Nat} (hj:j< (keysS m l v).length) (hj2:j<l.length):(keysS m l v)[j]=keyS m (l.getD j []) v:=by
 have e1:(keysS m l v)[j]=keyS m l[j] v:=Ro (fun x=>keyS m x v)
 rw[e1,Q0,QT hj2];rfl
end Sh
end
section
open Go Go.Proofs Aq Pq
namespace Sh
set_option maxRecDepth 100000
def allS (i k:Nat):List Int:=(List.range' i k).map fun (j:Nat)=>(j:Int)
theorem arS_full {c:Int}:∀(K:List Int) (i:Nat),(arS c i K).length=K.length->arS c i K=allS i K.length
 | [],_,_=>rfl
 |k::K,i,h=>by
  have hle:(arS c (i+1) K).length<=K.length:=by rw[arS_len];exact List.countP_le_length
  unfold arS at h⊢
  cases hk:decide (k<=c)
  ·rw[hk,cond_false,List.length_cons] at h;omega
  ·rw[hk,cond_true,List.length_cons,List.length_cons] at h
   rw[cond_true,arS_full K (i+1) (by omega)]
   rfl
theorem arS_big {c:Int} {K:List Int} (h:∀x∈K,x<=c) (i:Nat):arS c i K=allS i K.length:=
 arS_full K i (by rw[arS_len,List.countP_eq_length];exact fun x hx=>dT (h x hx))
end Sh
end
section
open Go Go.Proofs Aq Pq
namespace Sh
set_option maxRecDepth 100000
theorem allS_len (i k:Nat):(allS i k).length=k:=by unfold allS;rw[Qy,List.length_range']
theorem full_eq {m:Int} {l:List (List Int)} {hs:List Hood} (he:Exact m l hs) (i:Nat) (hi:i<hs.length) (h:hs[i].Slots.length=l.length):hs[i].Slots=allS 0 l.length:=by
 have e:=he i hi
 rw[e] at h⊢
 have hk:(keysS m l (l.getD i [])).length=l.length:=keysS_len ..
 rw[arS_full _ _ (by rw[h,hk]),hk]
end Sh
end
section
open Go Go.Proofs Aq Pq
namespace Sh
set_option maxRecDepth 100000
theorem key_self (m:Int) (a:List Int):keyS m a a=0:=by
 unfold keyS normS
 have:∀(a:List Int),(subL a a).foldl (stepN m) 0=0:=by
  intro a
  induction a with
  |nil=>rfl
  |cons x a ih=>
   show (subL a a).foldl (stepN m) (stepN m 0 (x-x))=0
   have:stepN m 0 (x-x)=0:=by
    rw[Int.sub_self]
    unfold stepN
    cases decide (m=1)<;>cases decide (m=2)<;>rfl
   rw[this];exact ih
 exact this a
theorem slB_arS {k c:Int}:∀(K:List Int) (i:Nat) (p:Option Int),((i+K.length:Nat):Int)<=k->(∀q,p=some q->q<i)->slB k p (arS c i K)=true
 | [],_,_,_,_=>by unfold arS slB;rfl
 |x::K,i,p,hk,hp=>by
  rw[List.length_cons] at hk
  unfold arS
  cases decide (x<=c)
  ·exact slB_arS K (i+1) p (by omega) (fun q hq=>by have:=hp q hq;omega)
  ·rw[cond_true]
   unfold slB
   rw[slB_arS K (i+1) (some (i:Int)) (by omega) (fun q hq=>by cases hq;omega)]
   have e1:(decide ((i:Int)<0)||decide ((i:Int)>=k))=false:=by rw[dF (by omega),dF (by omega)];rfl
   rw[e1]
   cases p with
   |none=>rfl
   |some q=>
    have:=hp q rfl
    show (!false&& !decide ((i:Int)<=q))&& true=true
    rw[dF (by omega)];rfl
theorem radF_b {ks:List Int} {w:Int}:∀(zs:List Int) (r:Int),(∀z∈zs,0<=z)->0<=r->r<=134217728->0<=radF ks w zs r/\radF ks w zs r<=134217728
 | [],r,_,h1,h2=>⟨h1,h2⟩
 |k::zs,r,h,h1,h2=>by
  unfold radF
  have hk:=h k (Qz ..)
  by_cases c:(bif decide (k<r) then okR ks w k else false)=true
  ·rw[c,cond_true]
   rw[cF,iP,decide_eq_true_iff] at c
   exact radF_b zs k (fun z hz=>h z (QB _ hz)) hk (by omega)
  ·rw[Bool.not_eq_true] at c
   rw[c,cond_false]
   exact radF_b zs r (fun z hz=>h z (QB _ hz)) h1 h2
theorem build_len (m:Int) (l:List (List Int)) (want:Int):(buildS m l want).length=l.length:=by unfold buildS;rw[Qy]
theorem build_get {m:Int} {l:List (List Int)} {want:Int} {i:Nat} (hi:i< (buildS m l want).length) (hi2:i<l.length):(buildS m l want)[i]=hoodS m l want l[i]:=Ro _
theorem build_exact (m:Int) (l:List (List Int)) (want:Int):Exact m l (buildS m l want):=by
 intro i hi
 have hi2:i<l.length:=by rw[build_len] at hi;exact hi
 rw[build_get hi hi2,Q0,QT hi2]
 rfl
theorem build_few {m:Int} {l:List (List Int)} {want:Int} (hf:FewL l):FewG (buildS m l want):=by
 refine⟨by rw[build_len];have:=hf.1;omega,fun h hh=>?_⟩
 obtain⟨v,hv,rfl⟩:=Rx.1 hh
 show (arS _ 0 _).length<=40
 rw[arS_len]
 refine Qw List.countP_le_length ?_
 rw[keysS_len];have:=hf.1;omega
theorem build_hoods {m:Int} {l:List (List Int)} {want:Int} (hm:M3 m) (hfit:fitB l=true) (hf:FewL l):∀(vs:List (List Int)) (i:Nat),(∀j (hj:j<vs.length),∃hj2:i+j<l.length,vs[j]=l[i+j])->hoodsB ((l.length:Nat):Int) i (vs.map (hoodS m l want))=true
 | [],_,_=>rfl
 |v::vs,i,h=>by
  obtain⟨h1,h2⟩:=h 0 (by simp)
  have hiv:v=l[i]'(by omega):=by simpa using h2
  have hmem:v∈l:=by rw[hiv];exact QG _
  have hok:=fit_iff hfit hf hmem
  have kb:=fun x hx=>(keysS_b (m:=m) hok x hx).1
  have hr:=radF_b (ks:=keysS m l v) (w:=wantS l want) (keysS m l v) 134217728 kb (by decide) (QC _)
  show (hoodB _ i (hoodS m l want v)&& hoodsB _ (i+1) (vs.map (hoodS m l want)))=true
  rw[build_hoods hm hfit hf vs (i+1) (fun j hj=>by
   obtain⟨a1,a2⟩:=h (j+1) (by simpa using hj)
   refine⟨by omega,?_⟩
   have:i+(j+1)=i+1+j:=by omega
   simp only[this] at a2
   simpa using a2),Bool.and_true]
  unfold hoodB
  have e1:(decide ((hoodS m l want v).Radius<0)||decide ((hoodS m l want v).Radius>134217728))=false:=by
   show (decide (radS _ _<0)||decide (radS _ _>134217728))=false
   have hr':0<=radS (keysS m l v) (wantS l want)/\radS (keysS m l v) (wantS l want)<=134217728:=hr
   rw[dF (by omega),dF (by omega)];rfl
  have e2:((i:Nat):Int)∈(hoodS m l want v).Slots:=by
   show ((i:Nat):Int)∈arS _ 0 _
   rw[mem_arS]
   have hlt:i< (keysS m l v).length:=by rw[keysS_len];omega
   refine⟨i,hlt,by simp,?_⟩
   rw[keysS_get hlt (by omega),Q0,QT (show i<l.length by omega)]
   show keyS m (l[i]'(by omega)) v<=_
   rw[<-hiv,key_self]
   exact hr.1
  have e3:slB ((l.length:Nat):Int) none (hoodS m l want v).Slots=true:=slB_arS _ 0 none (by rw[keysS_len];omega) (fun q hq=>by cases hq)
  rw[e1,dT e2,e3];rfl
theorem build_valid {m:Int} {l:List (List Int)} {want:Int} (hm:M3 m) (hfit:fitB l=true) (hf:FewL l):validB ((l.length:Nat):Int) (buildS m l want)=true:=by
 have h25:=hf.1
 have h1:1<=l.length:=by cases l with
  |nil=>unfold fitB at hfit;cases hfit
  |cons=>simp
 unfold validB
 rw[dF (show¬((l.length:Nat):Int)<1 by omega),dF (show¬((l.length:Nat):Int)>4096 by omega),dT (show (((buildS m l want).length:Nat):Int)=((l.length:Nat):Int) by rw[build_len])]
 exact build_hoods hm hfit hf l 0 (fun j hj=>⟨by omega,by simp⟩)
end Sh
end
