/- Part of the proof of a law. -/
import Derived.KernelRfl
import Derived.Test.YteniejlbjfigdaaGreatDoorV17
set_option linter.all false
set_option linter.unusedSimpArgs false
set_option linter.unusedSectionVars false
section
open Go Go.Proofs Aq
namespace Sh
theorem gT {α:Type} {P:α→Prop} {c:Bool} {o:Option α} (h:c=true) (ho:∃r,o=some r∧P r):∃r,(bif c then o else none)=some r∧P r:=by rw[h];exact ho
theorem iy {i:Int} {n:Nat} (h:0≤i∧i<n):bP i n=true:=decide_eq_true h
theorem qF {i:Int} {n:Nat} (h:0≤i∧i≤n):gW i n=true:=decide_eq_true h
def rotl (x k:Int):Int:=jE IntKind.u32 (j5 IntKind.u32 x (gX IntKind.u64 (IntKind.wrap IntKind.u64 k) 31)) (eP IntKind.u32 x (IntKind.wrap IntKind.u64 (32-gX IntKind.u64 (IntKind.wrap IntKind.u64 k) 31)))
theorem Sr (x:Int):0≤IntKind.wrap IntKind.u64 x:=by rw[IntKind.wrap_u64];exact Int.emod_nonneg _ (by decide)
theorem tT (n:Nat) (x k:Int):rM n (x,k)=some (rotl x k):=by
 rw[ase,decide_eq_true (show (0:Int)≤gX IntKind.u64 (IntKind.wrap IntKind.u64 k) 31 from Sr _),decide_eq_true (Sr _)]
 rfl
def zi (x a b c:Int):Int:=dz IntKind.u32 (dz IntKind.u32 (rotl x (IntKind.wrap IntKind.i64 (0-a))) (rotl x (IntKind.wrap IntKind.i64 (0-b)))) (rotl x (IntKind.wrap IntKind.i64 (0-c)))
theorem Sv (n:Nat) (x a b c:Int):AV n (x,(a,(b,c)))=some (zi x a b c):=by
 rw[asf,tT,tT,tT]
 rfl
theorem lH {i:Int} (h0:0≤i) (h:i<2^62):IntKind.wrap .i64 (i+(1:Int))=i+1:=by rw[IntKind.wrap_i64];omega
theorem dN {i:Int} (h0: -(2^62)≤i) (h:i<2^62):IntKind.wrap .i64 i=i:=by rw[IntKind.wrap_i64];omega
theorem auk {n:Nat} {x1:List Int} {x2:Int} (h:x1.length=64) (h0:0≤x2) (h1:x2<16) (hn:100<n) (v:Vec 64):∃r,wJ n x1 x2 n (0,v)=some r∧True:=by
 refine rU (L:=fun m p=>wJ n x1 x2 m p) (fun p=>0≤p.1∧p.1≤64) (fun p=>(64-p.1).toNat) (fun _=>True) ?_ n (0,v) ⟨Int.le_refl 0,(by decide:(0:Int)≤64)⟩ (by show (64-(0:Int)).toNat<n;omega)
 rintro m ⟨x4,x5⟩ ⟨ha,hb⟩ ih
 dsimp only at ha hb ih⊢
 rw[Yf]
 generalize hl:List.drop _ (List.take _ x1)=l
 have hlen:l.length≤64:=by rw[←hl,List.length_drop,List.length_take];omega
 refine eX (fun hc=> ?_) (fun _=>cB trivial)
 obtain⟨y,hy⟩:=ahe ha hc
 have hc':=of_decide_eq_true hc
 refine bg ⟨y,hy, ?_⟩
 refine gT (iy ⟨by omega,by omega⟩) (gT (by decide) (gT (iy ⟨by omega,by omega⟩) ?_))
 rw[lH ha (by omega)]
 exact ih _ ⟨by show 0≤x4+1;omega,by show x4+1≤64;omega⟩ (by show (64-(x4+1)).toNat< (64-x4).toNat;omega)
theorem aul {n:Nat} {x1:List Int} (h:x1.length=64) (hn:100<n):∃r:Vec 64,AU n x1=some r∧True:=by
 rw[agF]
 refine bg (?_:∃x,tQ n x1 n (0,Vec.rep 64 0)=some x∧_)
 have:∃r,tQ n x1 n (0,Vec.rep 64 0)=some r∧True:=by
  refine rU (L:=fun m p=>tQ n x1 m p) (fun p=>0≤p.1∧p.1≤64) (fun p=>(64-p.1).toNat) (fun _=>True) ?_ n _ ⟨Int.le_refl 0,(by decide:(0:Int)≤64)⟩ (by show (64-(0:Int)).toNat<n;omega)
  rintro m ⟨x2,x3⟩ ⟨ha,hb⟩ ih
  dsimp only at ha hb ih⊢
  rw[R3]
  refine eX (fun hc=> ?_) (fun _=>cB trivial)
  have hc':=of_decide_eq_true hc
  rw[lH ha (by omega)]
  have ih':∀w,∃r,tQ n x1 m (x2+1,w)=some r∧True:=fun w=>ih _ ⟨by show 0≤x2+1;omega,by show x2+1≤64;omega⟩ (by show (64-(x2+1)).toNat< (64-x2).toNat;omega)
  refine eX (fun hd=> ?_) (fun hd=> ?_)
  ·have hd':=of_decide_eq_true hd
   refine gT ?_ ?_
   ·rw[Bool.and_eq_true,dN (i:=4*x2) (by omega) (by omega),dN (i:=4*x2+4) (by omega) (by omega)]
    exact⟨qF ⟨by omega,by omega⟩,qF ⟨by omega,by omega⟩⟩
   ·obtain⟨r,hr,_⟩:=auk h ha hd' hn x3
    exact bg ⟨r,hr,ih' _⟩
  ·have hd':=of_decide_eq_false hd
   rw[dN (i:=x2-15) (by omega) (by omega),dN (i:=x2-2) (by omega) (by omega),dN (i:=x2-16) (by omega) (by omega),dN (i:=x2-7) (by omega) (by omega)]
   refine gT (iy ⟨by omega,by omega⟩) (gT (iy ⟨by omega,by omega⟩) ?_)
   refine bg ⟨_,tT _ _ _,bg ⟨_,tT _ _ _,gT (by decide) (bg ⟨_,tT _ _ _,bg ⟨_,tT _ _ _,gT (by decide) ?_⟩⟩)⟩⟩
   exact gT (iy ⟨by omega,by omega⟩) (gT (iy ⟨by omega,by omega⟩) (gT (iy ⟨by omega,by omega⟩) (ih' _)))
 obtain⟨r,hr,_⟩:=this
 exact⟨r,hr,cB trivial⟩
theorem aum {n:Nat} {h:Vec 8} {b:List Int} (hb:b.length=64) (hn:100<n):∃r:Vec 8,AY n (h,b)=some r∧True:=by
 rw[agG]
 obtain⟨w,hw,_⟩:=aul hb hn
 refine bg ⟨w,hw, ?_⟩
 refine gT (by decide) (gT (by decide) (gT (by decide) (gT (by decide) ?_)))
 refine bg (?_:∃x,wK n h w n _=some x∧_)
 have h4:∀p,∃r,wK n h w n (0,p)=some r∧True:=by
  intro p
  refine rU (L:=fun m p=>wK n h w m p) (fun p=>0≤p.1∧p.1≤64) (fun p=>(64-p.1).toNat) (fun _=>True) ?_ n _ ⟨Int.le_refl 0,(by decide:(0:Int)≤64)⟩ (by show (64-(0:Int)).toNat<n;omega)
  rintro m ⟨x4,x5,x6⟩ ⟨ha,hb⟩ ih
  dsimp only at ha hb ih⊢
  rw[Yg]
  refine eX (fun hc=> ?_) (fun _=>cB trivial)
  have hc':=of_decide_eq_true hc
  rw[lH ha (by omega)]
  refine gT (iy ⟨by omega,by omega⟩) ?_
  repeat refine gT (by decide) ?_
  refine bg ⟨_,Sv _ _ _ _ _, ?_⟩
  repeat refine gT (by decide) ?_
  refine gT (iy ⟨by omega,by omega⟩) ?_
  repeat refine gT (by decide) ?_
  refine bg ⟨_,Sv _ _ _ _ _, ?_⟩
  repeat refine gT (by decide) ?_
  exact ih _ ⟨by show 0≤x4+1;omega,by show x4+1≤64;omega⟩ (by show (64-(x4+1)).toNat< (64-x4).toNat;omega)
 have h12:∀r9 v,∃r,y7 n r9 n (0,v)=some r∧True:=by
  intro r9 v
  refine rU (L:=fun m p=>y7 n r9 m p) (fun p=>0≤p.1∧p.1≤4) (fun p=>(4-p.1).toNat) (fun _=>True) ?_ n _ ⟨Int.le_refl 0,(by decide:(0:Int)≤4)⟩ (by show (4-(0:Int)).toNat<n;omega)
  rintro m ⟨x4,x5⟩ ⟨ha,hb⟩ ih
  dsimp only at ha hb ih⊢
  rw[Yh]
  refine eX (fun hc=> ?_) (fun _=>cB trivial)
  have hc':=of_decide_eq_true hc
  rw[lH ha (by omega),dN (i:=x4+4) (by omega) (by omega)]
  iterate 6 refine gT (iy ⟨by omega,by omega⟩) ?_
  exact ih _ ⟨by show 0≤x4+1;omega,by show x4+1≤4;omega⟩ (by show (4-(x4+1)).toNat< (4-x4).toNat;omega)
 obtain⟨r,hr,_⟩:=h4 (h.slc 0 4,h.slc 4 4)
 obtain⟨q,hq,_⟩:=h12 r h
 exact⟨r,hr,bg ⟨q,hq,cB trivial⟩⟩
theorem YQ {n:Nat} {h:Vec 8} {v:Vec 64} {c:Int} {l:List UInt8} (B:Int) (h0:0≤c) (h1:c+l.length≤B) (hB:B<2^62) (hn:100<n) (hl:l.length<n):
 ∃r:(Vec 8)×(Vec 64)×Int,uM n ((h,(v,c)),l)=some r∧0≤r.2.2∧r.2.2≤c+l.length:=by
 rw[agH]
 have hL:∃r,wL n n (l,(h,(v,c)))=some r∧(0≤r.2.2.2∧r.2.2.2≤c+l.length):=by
  refine rU (L:=fun m p=>wL n m p) (fun p=>0≤p.2.2.2∧p.2.2.2+p.1.length≤c+l.length) (fun p=>p.1.length) (fun r=>0≤r.2.2.2∧r.2.2.2≤c+l.length) ?_ n _ ⟨h0,Int.le_refl _⟩ hl
  rintro m ⟨x5,x6,x7,x8⟩ ⟨ha,hb⟩ ih
  dsimp only at ha hb ih⊢
  rw[R4]
  refine eX (fun hc=> ?_) (fun _=>cB ⟨ha,by show x8≤_;omega⟩)
  have hne:x5≠[]:=by
   intro e;rw[e] at hc;exact absurd hc (by decide)
  have hpos:0<x5.length:=List.length_pos_iff.2 hne
  have ht:Int.tmod x8 64=x8% 64:=Int.tmod_eq_emod_of_nonneg ha
  have hm0:=Int.emod_nonneg x8 (show (64:Int)≠0 by decide)
  have hm1:=Int.emod_lt_of_pos x8 (show (0:Int)<64 by decide)
  refine gT (by decide) ?_
  rw[ht,dN (i:=x8% 64) (by omega) (by omega)]
  generalize hk:List.take (64-x8% 64).toNat (List.map (fun b:UInt8=>((b.toNat:Nat):Int)) x5)=t
  have htl:t.length=min (64-x8% 64).toNat x5.length:=by rw[←hk,List.length_take,List.length_map]
  have w1:IntKind.wrap IntKind.u64 ((t.length:Nat):Int)=t.length:=by rw[IntKind.wrap_u64];omega
  have w2:IntKind.wrap IntKind.u64 (x8+(t.length:Nat))=x8+t.length:=by rw[IntKind.wrap_u64];omega
  refine gT (decide_eq_true ⟨hm0,.inl hm1⟩) (gT (qF ⟨by omega,by omega⟩) ?_)
  rw[w1,w2]
  have ih':∀a b,∃r,wL n m (List.drop (Int.toNat ((t.length:Nat):Int)) x5,(a,(b,x8+t.length)))=some r∧(0≤r.2.2.2∧r.2.2.2≤c+l.length):=fun a b=>
   ih _ ⟨by show 0≤x8+t.length;omega,by show x8+t.length+((List.drop (Int.toNat ((t.length:Nat):Int)) x5).length:Nat)≤_;rw[List.length_drop];omega⟩ (by show (List.drop (Int.toNat ((t.length:Nat):Int)) x5).length<x5.length;rw[List.length_drop];omega)
  refine eX (fun _=> ?_) (fun _=>ih' _ _)
  obtain⟨r,hr,_⟩:=aum (n:=n) (h:=x6) (b:=(x7.oP (x8% 64) t).l) (x7.oP (x8% 64) t).h hn
  exact bg ⟨r,hr,ih' _ _⟩
 obtain⟨r,hr,h2⟩:=hL
 exact bg ⟨r,hr,cB h2⟩
end Sh
end
section
open Go Go.Proofs Aq
namespace Sh
theorem gN {a k:Nat} (h:a<2^30) (hk:k≤2^12):bC a k=true:=Sc h hk
theorem aun {n:Nat} {h:Vec 8} {v:Vec 64} {c:Int} (h0:0≤c) (h1:c<2^56) (hn:200<n):∃r:Vec 32,AZ n (h,(v,c))=some r∧True:=by
 rw[agI]
 have hw:IntKind.wrap IntKind.i64 c=c:=dN (by omega) (by omega)
 have h3:∃r,BD n h v c n [(128:Int)]=some r∧r.length≤65:=by
  refine rU (L:=fun m p=>BD n h v c m p) (fun p=>p.length≤65∧(∀j:Nat,1≤j→j<p.length→(c+j)% 64≠56)) (fun p=>65-p.length) (fun r=>r.length≤65) ?_ n _ ⟨by decide,fun j h1 h2=> ?_⟩ (by show 65-1<n;omega)
  ·rintro m x4 ⟨ha,hb⟩ ih
   rw[Yi,hw,dN (i:=c+(x4.length:Nat)) (by omega) (by omega),Int.tmod_eq_emod_of_nonneg (by omega)]
   refine gT (by decide) ?_
   refine eX (fun hc=> ?_) (fun _=>cB ha)
   have hne:(c+(x4.length:Nat))% 64≠56:=by
    intro e;rw[e] at hc;exact absurd hc (by decide)
   have hlt:x4.length<65:=by
    by_cases hlt:x4.length<65
    ·exact hlt
    ·exfalso
     have he:x4.length=65:=by omega
     have hk:∃k:Nat,1≤k∧k≤64∧(c+k)% 64=56:=by
      refine⟨((55-c)% 64+1).toNat, ?_, ?_, ?_⟩<;>omega
     obtain⟨k,k1,k2,k3⟩:=hk
     exact hb k k1 (by omega) k3
   refine gT (gN (by simp only[List.length_cons,List.length_nil];omega) (by decide)) ?_
   refine ih _ ⟨by rw[List.length_append,List.length_cons,List.length_nil];omega,fun j j1 j2=> ?_⟩ (by show 65-(x4++[(0:Int)]).length<65-x4.length;rw[List.length_append,List.length_cons,List.length_nil];omega)
   rw[List.length_append,List.length_cons,List.length_nil] at j2
   by_cases hj:j<x4.length
   ·exact hb j j1 hj
   ·have:j=x4.length:=by omega
    rw[this];exact hne
  ·simp only[List.length_cons,List.length_nil] at h2;omega
 obtain⟨r5,K6,l5⟩:=h3
 refine bg ⟨r5,K6, ?_⟩
 have h6:∃r,y8 n h v c n (r5,(0:Int))=some r∧r.length≤73:=by
  refine rU (L:=fun m p=>y8 n h v c m p) (fun p=>0≤p.2∧p.2≤8∧(p.1.length:Int)≤65+p.2) (fun p=>(8-p.2).toNat) (fun r=>r.length≤73) ?_ n _ ⟨Int.le_refl 0,(by decide:(0:Int)≤8),by show ((r5.length:Nat):Int)≤65+0;omega⟩ (by show (8-(0:Int)).toNat<n;omega)
  rintro m ⟨x6,x7⟩ ⟨ha,hb,hl⟩ ih
  dsimp only at ha hb hl ih⊢
  rw[Yj]
  refine eX (fun hc=> ?_) (fun _=>cB (by omega))
  have hc':=of_decide_eq_true hc
  rw[dN (i:=8*x7) (by omega) (by omega),dN (i:=56-8*x7) (by omega) (by omega),lH ha (by omega)]
  refine gT (decide_eq_true (by omega)) (gT (gN (by simp only[List.length_cons,List.length_nil];omega) (by decide)) ?_)
  refine ih _ ⟨by show 0≤x7+1;omega,by show x7+1≤8;omega, ?_⟩ (by show (8-(x7+1)).toNat< (8-x7).toNat;omega)
  show (((x6++[_]).length:Nat):Int)≤65+(x7+1)
  rw[List.length_append,List.length_cons,List.length_nil];omega
 obtain⟨r8,K7,l8⟩:=h6
 refine bg ⟨r8,K7, ?_⟩
 obtain⟨r9,K8,_⟩:=YQ (n:=n) (h:=h) (v:=v) (c:=c) (l:=List.map (fun n:Int=>UInt8.ofNat n.toNat) r8) (2^57) h0 (by rw[List.length_map];omega) (by decide) (by omega) (by rw[List.length_map];omega)
 refine bg ⟨r9,K8, ?_⟩
 have h13:∃r,y9 n r9 n ((0:Int),Vec.rep 32 (0:Int))=some r∧True:=by
  refine rU (L:=fun m p=>y9 n r9 m p) (fun p=>0≤p.1∧p.1≤32) (fun p=>(32-p.1).toNat) (fun _=>True) ?_ n _ ⟨Int.le_refl 0,(by decide:(0:Int)≤32)⟩ (by show (32-(0:Int)).toNat<n;omega)
  rintro m ⟨x4,x5⟩ ⟨ha,hb⟩ ih
  dsimp only at ha hb ih⊢
  rw[Yk]
  refine eX (fun hc=> ?_) (fun _=>cB trivial)
  have hc':=of_decide_eq_true hc
  rw[Int.tdiv_eq_ediv_of_nonneg ha,Int.tmod_eq_emod_of_nonneg ha,dN (i:=x4/4) (by omega) (by omega),dN (i:=8*(x4% 4)) (by omega) (by omega),dN (i:=24-8*(x4% 4)) (by omega) (by omega),lH ha (by omega)]
  refine gT (by decide) (gT (iy ⟨by omega,by omega⟩) (gT (by decide) (gT (decide_eq_true (by omega)) (gT (iy ⟨by omega,by omega⟩) ?_))))
  exact ih _ ⟨by show 0≤x4+1;omega,by show x4+1≤32;omega⟩ (by show (32-(x4+1)).toNat< (32-x4).toNat;omega)
 obtain⟨r,hr,_⟩:=h13
 exact bg ⟨r,hr,cB trivial⟩
theorem ahY {x:Int} (h0:0≤x):0≤eP IntKind.u64 x 7∧eP IntKind.u64 x 7=x/128:=by
 have e:eP IntKind.u64 x 7=x.fdiv (2^7):=rfl
 rw[e,Int.fdiv_eq_ediv_of_nonneg x (by decide)]
 exact⟨Int.ediv_nonneg h0 (by decide),rfl⟩
theorem Sw {n:Nat} (x:Int) (hn:20<n):∃r:List Int,tq n x=some r∧r.length≤10:=by
 rw[agw]
 refine gT (by decide) (gT (by decide) ?_)
 generalize hz:dz IntKind.u64 _ _=z
 have hz0:0≤z:=by rw[←hz];exact Sr _
 have hz1:z<2^64:=by
  rw[←hz];show IntKind.wrap IntKind.u64 _<2^64
  rw[IntKind.wrap_u64];exact Int.emod_lt_of_pos _ (by decide)
 have h3:∃r,y5 n n (z,[])=some r∧r.2.length≤9:=by
  refine rU (L:=fun m p=>y5 n m p) (fun p=>0≤p.1∧p.2.length≤9∧p.1<2^(64-7*p.2.length)) (fun p=>10-p.2.length) (fun r=>r.2.length≤9) ?_ n _ ⟨hz0,Nat.zero_le _,hz1⟩ (by show 10-0<n;omega)
  rintro m ⟨x2,x3⟩ ⟨ha,hb,hc⟩ ih
  dsimp only at ha hb hc ih⊢
  rw[Ye]
  refine eX (fun hd=> ?_) (fun _=>cB hb)
  have hd':=of_decide_eq_true hd
  have hlt:x3.length<9:=by
   by_cases h:x3.length<9
   ·exact h
   ·have e:x3.length=9:=by omega
    rw[e] at hc
    have e2:(2:Int)^(64-7*9)=2:=by decide
    rw[e2] at hc
    exfalso;omega
  obtain⟨s0,s1⟩:=ahY ha
  refine gT (gN (by simp only[List.length_cons,List.length_nil];omega) (by decide)) (gT (by decide) ?_)
  refine ih _ ⟨s0, ?_, ?_⟩ (by show 10-(x3++[_]).length<10-x3.length;rw[List.length_append,List.length_cons,List.length_nil];omega)
  ·show (x3++[_]).length≤9;rw[List.length_append,List.length_cons,List.length_nil];omega
  ·show eP IntKind.u64 x2 7<2^(64-7*(x3++[_]).length)
   rw[List.length_append,List.length_cons,List.length_nil,s1]
   have e:(2:Int)^(64-7*x3.length)=2^(64-7*(x3.length+1))*128:=by
    have:64-7*x3.length=(64-7*(x3.length+1))+7:=by omega
    rw[this,Int.pow_add];rfl
   rw[e] at hc
   exact Int.ediv_lt_of_lt_mul (by decide) hc
 obtain⟨r4,hr4,l4⟩:=h3
 refine bg ⟨r4,hr4, ?_⟩
 refine gT (gN (by simp only[List.length_cons,List.length_nil];omega) (by decide)) (cB ?_)
 rw[List.length_append,List.length_cons,List.length_nil];omega
theorem ahZ {n:Nat} {l:List UInt8} (hn:20<n) (hl:l.length<2^29):∃r:List Int,yI n l=some r∧r.length≤l.length+10:=by
 rw[agz]
 obtain⟨r,hr,h⟩:=Sw (n:=n) ((l.length:Nat):Int) hn
 refine bg ⟨r,hr,gT (gN (by rw[List.length_map];omega) (by decide)) (cB ?_)⟩
 rw[List.length_append,List.length_map];omega
def szB:List (List UInt8)→Nat
 | []=>0
 |l::ls=>l.length+10+szB ls
theorem aup {ls:List (List UInt8)} {i:Nat} {x:List UInt8} (h:ls[i]? =some x):szB (ls.drop i)=x.length+10+szB (ls.drop (i+1)):=by
 have hlt:=lM h
 rw[List.drop_eq_getElem_cons hlt]
 have:ls[i]=x:=by rw[List.getElem?_eq_getElem hlt] at h;exact Option.some.inj h
 rw[this,szB]
theorem auq {n:Nat} {t:Int} {ls:List (List UInt8)} (hn:2^20<n) (hs:szB ls<2^28) (hsn:szB ls<n):∃r:au,uO n (t,ls)=some r∧True:=by
 rw[agJ,agE]
 have hlen:∀ls:List (List UInt8),10*ls.length≤szB ls:=by
  intro ls
  induction ls with
  |nil=>simp[szB]
  |cons a l ih=>rw[List.length_cons,szB];omega
 have hl:=hlen ls
 show∃r,((some _).bind _)=some r∧True
 rw[Option.bind_some]
 generalize Vec.lit 8 _=h0
 generalize Vec.lit 64 _=v0
 obtain⟨r4,hr4,a1,a2⟩:=YQ (n:=n) (h:=h0) (v:=v0) (c:=0) (l:=List.map (fun n:Int=>UInt8.ofNat n.toNat) [IntKind.wrap IntKind.u8 t]) 10 (Int.le_refl 0) (by show (0:Int)+((1:Nat):Int)≤10;decide) (by decide) (by omega) (by show 1<n;omega)
 refine bg ⟨r4,hr4, ?_⟩
 have h3:∃r,BG n ls n ((0:Int),(r4.1,(r4.2.1,r4.2.2)))=some r∧(0≤r.2.2.2∧r.2.2.2≤2^29):=by
  have key:∀(k i m:Nat) (a:Vec 8) (b:Vec 64) (c:Int),i+k=ls.length→k<m→0≤c→c+szB (ls.drop i)≤2^29→∃r,BG n ls m ((i:Int),(a,(b,c)))=some r∧(0≤r.2.2.2∧r.2.2.2≤2^29):=by
   intro k
   induction k with
   |zero=>
    intro i m a b c hi hm hc0 hc
    obtain⟨m,rfl⟩:∃m',m=m'+1:=⟨m-1,by omega⟩
    rw[R5,eT (by omega)]
    exact cB ⟨hc0,by show c≤2^29;omega⟩
   |succ k ih=>
    intro i m a b c hi hm hc0 hc
    obtain⟨m,rfl⟩:∃m',m=m'+1:=⟨m-1,by omega⟩
    have hlt:i<ls.length:=by omega
    have hx:ls[i]? =some ls[i]:=List.getElem?_eq_getElem hlt
    have hsz:=aup hx
    have hin:szB (ls.drop i)≤szB ls:=by
     have:∀(j:Nat) (l:List (List UInt8)),szB (l.drop j)≤szB l:=by
      intro j
      induction j with
      |zero=>intro l;exact Nat.le_refl _
      |succ j ihj=>intro l;cases l with
       |nil=>exact Nat.le_refl _
       |cons a l=>exact Nat.le_trans (ihj l) (by show szB l≤a.length+10+szB l;omega)
     exact this i ls
    have hle:ls[i].length<2^28:=by omega
    rw[R5,eD hx,dw hx,dx (by omega),cond_true,Option.bind_some]
    obtain⟨w,hw,lw⟩:=ahZ (n:=n) (l:=ls[i]) (by omega) (by omega)
    refine bg ⟨w,hw, ?_⟩
    obtain⟨q,hq,q1,q2⟩:=YQ (n:=n) (h:=a) (v:=b) (c:=c) (l:=List.map (fun n:Int=>UInt8.ofNat n.toNat) w) (2^30) hc0 (by rw[List.length_map];omega) (by decide) (by omega) (by rw[List.length_map];omega)
    rw[List.length_map] at q2
    exact bg ⟨q,hq,ih (i+1) m q.1 q.2.1 q.2.2 (by omega) (by omega) q1 (by omega)⟩
  exact key ls.length 0 n r4.1 r4.2.1 r4.2.2 (by omega) (by omega) a1 (by
   have e:((List.map (fun n:Int=>UInt8.ofNat n.toNat) [IntKind.wrap IntKind.u8 t]).length:Int)=1:=rfl
   rw[e] at a2
   show r4.2.2+(szB ls:Nat)≤2^29
   omega)
 obtain⟨gY,aus,c1,c2⟩:=h3
 refine bg ⟨gY,aus, ?_⟩
 obtain⟨fH,aut,_⟩:=aun (n:=n) (h:=gY.2.1) (v:=gY.2.2.1) (c:=gY.2.2.2) c1 (by omega) (by omega)
 refine bg ⟨fH,aut, ?_⟩
 exact gT (by decide) (gT (by decide) (cB trivial))
end Sh
end
section
open Go Go.Proofs Aq
namespace Sh
theorem auu (k:IntKind) (a b:Int):jE k a b=jE k b a:=by unfold jE;rw[BitVec.or_comm]
theorem auv (k:IntKind) (a b:Int):dz k a b=dz k b a:=by unfold dz;rw[BitVec.xor_comm]
def jh (x k:Int):Int:=jE IntKind.u32 (eP IntKind.u32 x k) (j5 IntKind.u32 x (IntKind.wrap IntKind.i64 (32-k)))
theorem vk (n:Nat) (x k:Int) (h0:0≤k) (h1:k≤32):oD n (x,k)=some (jh x k):=by
 rw[asl,decide_eq_true h0,cond_true,decide_eq_true (by rw[dN (by omega) (by omega)];omega:(0:Int)≤IntKind.wrap IntKind.i64 (32-k))]
 rfl
theorem vo {x k j i:Int} (h1:gX IntKind.u64 (IntKind.wrap IntKind.u64 k) 31=i) (h2:IntKind.wrap IntKind.u64 (32-i)=j) (h3:IntKind.wrap IntKind.i64 (32-j)=i):rotl x k=jh x j:=by
 unfold rotl jh
 rw[h1,h2,h3,auu]
theorem ah0 (x:Int) {a b c:Int} (ha:rotl x (IntKind.wrap IntKind.i64 (0-a))=jh x a) (hb:rotl x (IntKind.wrap IntKind.i64 (0-b))=jh x b) (hc:rotl x (IntKind.wrap IntKind.i64 (0-c))=jh x c):
 zi x a b c=dz IntKind.u32 (dz IntKind.u32 (jh x a) (jh x b)) (jh x c):=by
 unfold zi;rw[ha,hb,hc]
theorem auw (x:Int):zi x 6 11 25=dz IntKind.u32 (dz IntKind.u32 (jh x 6) (jh x 11)) (jh x 25):=
 ah0 x (vo (i:=26) (by decide) (by decide) (by decide)) (vo (i:=21) (by decide) (by decide) (by decide)) (vo (i:=7) (by decide) (by decide) (by decide))
theorem auy (x:Int):zi x 2 13 22=dz IntKind.u32 (dz IntKind.u32 (jh x 2) (jh x 13)) (jh x 22):=
 ah0 x (vo (i:=30) (by decide) (by decide) (by decide)) (vo (i:=19) (by decide) (by decide) (by decide)) (vo (i:=10) (by decide) (by decide) (by decide))
theorem auz (x:Int):rotl x (-7)=jh x 7:=vo (i:=25) (by decide) (by decide) (by decide)
theorem auA (x:Int):rotl x (-18)=jh x 18:=vo (i:=14) (by decide) (by decide) (by decide)
theorem auB (x:Int):rotl x (-17)=jh x 17:=vo (i:=15) (by decide) (by decide) (by decide)
theorem auC (x:Int):rotl x (-19)=jh x 19:=vo (i:=13) (by decide) (by decide) (by decide)
theorem Sy {a b:Int} (k:Nat) (ha0:0≤a) (ha:a% 2^k=0) (ha1:a<2^32) (hb0:0≤b) (hb1:b<2^k) (hk:k≤32):jE IntKind.u32 a b=a+b:=by
 obtain⟨c,rfl⟩:∃c:Nat,a=((c*2^k:Nat):Int):=by
  refine⟨(a/2^k).toNat, ?_⟩
  have h1:=Int.mul_ediv_add_emod a (2^k)
  rw[ha,Int.add_zero] at h1
  have h2:0≤a/2^k:=Int.ediv_nonneg ha0 (Int.pow_nonneg (by decide))
  rw[Int.natCast_mul,Int.toNat_of_nonneg h2,Int.mul_comm]
  push_cast
  exact h1.symm
 obtain⟨d,rfl⟩:∃d:Nat,b=(d:Int):=⟨b.toNat,(Int.toNat_of_nonneg hb0).symm⟩
 have hd:d<2^k:=by exact_mod_cast hb1
 have hkk:2^k≤2^32:=Nat.pow_le_pow_right (by decide) hk
 have hc:c*2^k<2^32:=by exact_mod_cast ha1
 have hsum:c*2^k|||d=c*2^k+d:=by
  rw[←Nat.shiftLeft_eq,Nat.shiftLeft_add_eq_or_of_lt hd]
 have hlt:c*2^k|||d<2^32:=Nat.or_lt_two_pow hc (by omega)
 unfold jE
 have e1:(BitVec.ofInt IntKind.u32.bits ((c*2^k:Nat):Int)|||BitVec.ofInt IntKind.u32.bits ((d:Nat):Int)).toNat=c*2^k+d:=by
  rw[BitVec.toNat_or]
  simp only[BitVec.ofInt_natCast,BitVec.toNat_ofNat]
  show (c*2^k)% 2^32|||d% 2^32=_
  rw[Nat.mod_eq_of_lt hc,Nat.mod_eq_of_lt (by omega),hsum]
 rw[e1,IntKind.wrap_u32]
 have:c*2^k+d<2^32:=by omega
 omega
end Sh
end
section
open Go Go.Proofs Aq
namespace Sh
theorem auD {n:Nat} {v w:Vec n} (h:v.l=w.l):v=w:=by cases v;cases w;cases h;rfl
theorem at_set {n:Nat} (v:Vec n) {i:Int} (y:Int) (h0:0≤i) (h1:i<n):(v.set i y).at' i=y:=by
 show (v.l.set i.toNat y).getD i.toNat 0=y
 rw[List.getD_eq_getElem?_getD,List.getElem?_set_self (by rw[v.h];omega)];rfl
theorem auE {n:Nat} (v:Vec n) {i j:Int} (y:Int) (h0:0≤i) (h1:0≤j) (h:i≠j):(v.set i y).at' j=v.at' j:=by
 show (v.l.set i.toNat y).getD j.toNat 0=v.l.getD j.toNat 0
 rw[List.getD_eq_getElem?_getD,List.getElem?_set_ne (by omega),List.getD_eq_getElem?_getD]
theorem YR {n:Nat} (v:Vec n) (i a b:Int):(v.set i a).set i b=v.set i b:=auD (List.set_set ..)
def jr (l:List Int):Prop:=∀x∈l,0≤x∧x<256
theorem Sz {l:List Int} (h:jr l) (i:Nat):0≤l.getD i 0∧l.getD i 0<256:=by
 rw[List.getD_eq_getElem?_getD]
 cases hi:l[i]? with
 |none=>exact⟨Int.le_refl _,by decide⟩
 |some x=>exact h x (List.mem_of_getElem? hi)
theorem wrap32 {x:Int} (h0:0≤x) (h1:x<2^32):IntKind.wrap IntKind.u32 x=x:=by rw[IntKind.wrap_u32];omega
def YS (a b c d:Int):Int:=jE IntKind.u32 (jE IntKind.u32 (jE IntKind.u32 (j5 IntKind.u32 (IntKind.wrap IntKind.u32 a) 24) (j5 IntKind.u32 (IntKind.wrap IntKind.u32 b) 16)) (j5 IntKind.u32 (IntKind.wrap IntKind.u32 c) 8)) (IntKind.wrap IntKind.u32 d)
theorem SA {x:Int} (k:Nat) (h0:0≤x) (h1:x*2^k<2^32) (hk:k≤32):j5 IntKind.u32 x (k:Nat)=x*2^k:=by
 unfold j5
 have:min (((k:Nat):Int)).toNat IntKind.u32.bits=k:=by show min (((k:Nat):Int)).toNat 32=k;rw[Int.toNat_natCast];omega
 rw[this,wrap32 (Int.mul_nonneg h0 (Int.pow_nonneg (by decide))) h1]
theorem auF {a b c d:Int} (ha:0≤a∧a<256) (hb:0≤b∧b<256) (hc:0≤c∧c<256) (hd:0≤d∧d<256):YS a b c d=a*2^24+b*2^16+c*2^8+d:=by
 unfold YS
 rw[wrap32 (by omega) (by omega),wrap32 (by omega) (by omega),wrap32 (by omega) (by omega),wrap32 (by omega) (by omega)]
 rw[show j5 IntKind.u32 a 24=a*2^24 from SA 24 (by omega) (by omega) (by decide),show j5 IntKind.u32 b 16=b*2^16 from SA 16 (by omega) (by omega) (by decide),show j5 IntKind.u32 c 8=c*2^8 from SA 8 (by omega) (by omega) (by decide)]
 have h1:jE IntKind.u32 (a*2^24) (b*2^16)=a*2^24+b*2^16:=Sy 24 (by omega) (by omega) (by omega) (by omega) (by omega) (by decide)
 have h2:jE IntKind.u32 (a*2^24+b*2^16) (c*2^8)=a*2^24+b*2^16+c*2^8:=Sy 16 (by omega) (by omega) (by omega) (by omega) (by omega) (by decide)
 have h3:jE IntKind.u32 (a*2^24+b*2^16+c*2^8) d=a*2^24+b*2^16+c*2^8+d:=Sy 8 (by omega) (by omega) (by omega) (by omega) (by omega) (by decide)
 rw[h1,h2,h3]
theorem SB {x d:Int} (h0:0≤x) (h1:x<2^24) (hd:0≤d∧d<256):jE IntKind.u32 (j5 IntKind.u32 x 8) (IntKind.wrap IntKind.u32 d)=x*256+d:=by
 rw[wrap32 (by omega) (by omega),show j5 IntKind.u32 x 8=x*2^8 from SA 8 (by omega) (by omega) (by decide),Sy 8 (by omega) (by omega) (by omega) (by omega) (by omega) (by decide)];omega
def YT (x:List Int) (i:Int):Int:=YS (x.getD (4*i.toNat) 0) (x.getD (4*i.toNat+1) 0) (x.getD (4*i.toNat+2) 0) (x.getD (4*i.toNat+3) 0)
theorem auG {n m:Nat} {x1:List Int} {i:Int} (h:x1.length=64) (h0:0≤i) (h1:i<16) (hb:jr x1) (v:Vec 64) (hv:v.at' i=0):wJ n x1 i (m+5) (0,v)=some ((),v.set i (YT x1 i)):=by
 have hl:List.drop (Int.toNat (IntKind.wrap IntKind.i64 (4*i))) (List.take (Int.toNat (IntKind.wrap IntKind.i64 (IntKind.wrap IntKind.i64 (4*i)+4))) x1)=[x1.getD (4*i.toNat) 0,x1.getD (4*i.toNat+1) 0,x1.getD (4*i.toNat+2) 0,x1.getD (4*i.toNat+3) 0]:=by
  rw[dN (i:=4*i) (by omega) (by omega),dN (by omega) (by omega)]
  apply List.ext_getElem?
  intro j
  rw[List.getElem?_drop]
  by_cases hj:j<4
  ·rw[List.getElem?_take_of_lt (by omega)]
   have e:(4*i).toNat+j=4*i.toNat+j:=by omega
   rw[e]
   have hg:∀k,k<64→x1[k]? =some (x1.getD k 0):=fun k hk=>by rw[List.getD_eq_getElem?_getD,List.getElem?_eq_getElem (by omega)];rfl
   rw[hg _ (by omega)]
   rcases j with _|_|_|_|j
   all_goals first| (exact absurd hj (by omega))|rfl
  ·rw[List.getElem?_eq_none (by rw[List.length_take];omega),List.getElem?_eq_none (by simp;omega)]
 have ba:=Sz hb (4*i.toNat)
 have bb:=Sz hb (4*i.toNat+1)
 have bc:=Sz hb (4*i.toNat+2)
 have bd:=Sz hb (4*i.toNat+3)
 unfold YT
 generalize x1.getD (4*i.toNat) 0=a at hl ba⊢
 generalize x1.getD (4*i.toNat+1) 0=b at hl bb⊢
 generalize x1.getD (4*i.toNat+2) 0=c at hl bc⊢
 generalize x1.getD (4*i.toNat+3) 0=d at hl bd⊢
 have hin:bP i 64=true:=iy ⟨h0,by omega⟩
 have st:∀(m:Nat) (x4:Int) (x5:Vec 64) (y:Int),aK [a,b,c,d] x4=some y→0≤x4→x4<4→wJ n x1 i (m+1) (x4,x5)=wJ n x1 i m (x4+1,x5.set i (jE IntKind.u32 (j5 IntKind.u32 (x5.at' i) 8) (IntKind.wrap IntKind.u32 y))):=by
  intro m x4 x5 y hy k0 k1
  rw[Yf,hl,decide_eq_true (show x4< (([a,b,c,d]:List Int).length:Nat) by simp;omega),hy,hin,lH k0 (by omega)]
  rfl
 rw[st (m+4) 0 v a rfl (by decide) (by decide),st (m+3) (0+1) _ b rfl (by decide) (by decide),st (m+2) (0+1+1) _ c rfl (by decide) (by decide),st (m+1) (0+1+1+1) _ d rfl (by decide) (by decide)]
 rw[Yf,hl]
 rw[hv,at_set _ _ h0 (by show i<64;omega),at_set _ _ h0 (by show i<64;omega),at_set _ _ h0 (by show i<64;omega),YR,YR,YR]
 have e1:=SB (x:=0) (d:=a) (by decide) (by decide) ba
 rw[e1,SB (by omega) (by omega) bb,SB (by omega) (by omega) bc,SB (by omega) (by omega) bd,auF ba bb bc bd]
 have e2:(((0*256+a)*256+b)*256+c)*256+d=a*2^24+b*2^16+c*2^8+d:=by omega
 rw[e2]
 rfl
end Sh
end
section
open Go Go.Proofs Aq
namespace Sh
def SC (w:Vec 64) (i:Int):Vec 64:=w.set i (IntKind.wrap IntKind.u32 (IntKind.wrap IntKind.u32 (IntKind.wrap IntKind.u32 (w.at' (i-16)+dz IntKind.u32 (dz IntKind.u32 (jh (w.at' (i-15)) 7) (jh (w.at' (i-15)) 18)) (eP IntKind.u32 (w.at' (i-15)) 3))+w.at' (i-7))+
 dz IntKind.u32 (dz IntKind.u32 (jh (w.at' (i-2)) 17) (jh (w.at' (i-2)) 19)) (eP IntKind.u32 (w.at' (i-2)) 10)))
def SE (x:List Int) (w:Vec 64) (i:Int):Vec 64:=w.set i (YT x i)
def kT {α:Type} (f:α→Int→α):Nat→Int→α→α
 |0,_,w=>w
 |k+1,i,w=>kT f k (i+1) (f w i)
def BO (x:List Int):Vec 64:=kT SC 48 16 (kT (SE x) 16 0 (Vec.rep 64 0))
theorem hS2 {n:Nat} {x:List Int}:∀(k:Nat) (i:Int) (w:Vec 64) (m:Nat),i+k=64→16≤i→k<m→tQ n x m (i,w)=some ((),kT SC k i w):=by
 intro k
 induction k with
 |zero=>
  intro i w m hi h16 hm
  obtain⟨m,rfl⟩:∃q,m=q+1:=⟨m-1,by omega⟩
  rw[R3,decide_eq_false (by omega)];rfl
 |succ k ih=>
  intro i w m hi h16 hm
  obtain⟨m,rfl⟩:∃q,m=q+1:=⟨m-1,by omega⟩
  rw[R3,decide_eq_true (show i<64 by omega),decide_eq_false (show¬i<16 by omega),cond_true,cond_false]
  rw[dN (i:=i-15) (by omega) (by omega),dN (i:=i-2) (by omega) (by omega),dN (i:=i-16) (by omega) (by omega),dN (i:=i-7) (by omega) (by omega),lH (by omega) (by omega)]
  rw[iy (i:=i-15) ⟨by omega,by omega⟩,iy (i:=i-2) ⟨by omega,by omega⟩,iy (i:=i-16) ⟨by omega,by omega⟩,iy (i:=i-7) ⟨by omega,by omega⟩,iy (i:=i) ⟨by omega,by omega⟩]
  rw[tT,tT,tT,tT,auz,auA,auB,auC]
  exact ih (i+1) _ m (by omega) (by omega) (by omega)
theorem hS1 {n:Nat} {x:List Int} (hx:x.length=64) (hb:jr x) (hn:60<n):∀(k:Nat) (i:Int) (w:Vec 64) (m:Nat),i+k=16→0≤i→(∀j,i≤j→w.at' j=0)→k+48<m→tQ n x m (i,w)=some ((),kT SC 48 16 (kT (SE x) k i w)):=by
 intro k
 induction k with
 |zero=>
  intro i w m hi h0 hw hm
  obtain rfl:i=16:=by omega
  exact hS2 48 16 w m (by decide) (by decide) (by omega)
 |succ k ih=>
  intro i w m hi h0 hw hm
  obtain⟨m,rfl⟩:∃q,m=q+1:=⟨m-1,by omega⟩
  rw[R3,decide_eq_true (show i<64 by omega),decide_eq_true (show i<16 by omega),cond_true,cond_true]
  rw[dN (i:=4*i) (by omega) (by omega),dN (i:=4*i+4) (by omega) (by omega),lH (by omega) (by omega)]
  rw[qF (i:=4*i+4) ⟨by omega,by omega⟩,qF (i:=4*i) ⟨by omega,by omega⟩,Bool.and_self,cond_true]
  obtain⟨q,rfl⟩:∃q,n=q+5:=⟨n-5,by omega⟩
  rw[auG hx h0 (by omega) hb w (hw i (Int.le_refl _))]
  exact ih (i+1) _ m (by omega) (by omega) (fun j hj=>by rw[auE _ _ h0 (by omega) (by omega)];exact hw j (by omega)) (by omega)
theorem auH {n:Nat} {x:List Int} (hx:x.length=64) (hb:jr x) (hn:70<n):AU n x=some (BO x):=by
 rw[agF]
 have h:=hS1 (n:=n) hx hb (by omega) 16 0 (Vec.rep 64 0) n (by decide) (by decide) (fun j _=>by
  show (List.replicate 64 (0:Int)).getD j.toNat 0=0
  rw[List.getD_eq_getElem?_getD,List.getElem?_replicate]
  split<;>rfl) (by omega)
 rw[h];rfl
theorem rS1 {n:Nat} {x:List Int} (hx:x.length=64):∀(k:Nat) (i:Int) (w:Vec 64) (m:Nat),i+k=16→0≤i→k<m→KH n x m (i,w)=some ((),kT (SE x) k i w):=by
 intro k
 induction k with
 |zero=>
  intro i w m hi h0 hm
  obtain⟨m,rfl⟩:∃q,m=q+1:=⟨m-1,by omega⟩
  rw[agX,decide_eq_false (by omega)];rfl
 |succ k ih=>
  intro i w m hi h0 hm
  obtain⟨m,rfl⟩:∃q,m=q+1:=⟨m-1,by omega⟩
  have hg:∀k:Nat,k<64→aK x ((k:Nat):Int)=some (x.getD k 0):=fun k hk=>by
   unfold aK
   rw[if_pos ⟨by omega,by omega⟩,Int.toNat_natCast,List.getD_eq_getElem?_getD,List.getElem?_eq_getElem (by omega)];rfl
  rw[agX,decide_eq_true (show i<16 by omega),cond_true]
  rw[dN (i:=4*i) (by omega) (by omega),dN (i:=4*i+1) (by omega) (by omega),dN (i:=4*i+2) (by omega) (by omega),dN (i:=4*i+3) (by omega) (by omega),lH (by omega) (by omega)]
  rw[show (4*i:Int)=((4*i.toNat:Nat):Int) by omega,hg _ (by omega),show ((4*i.toNat:Nat):Int)+1=((4*i.toNat+1:Nat):Int) by omega,hg _ (by omega),show ((4*i.toNat:Nat):Int)+2=((4*i.toNat+2:Nat):Int) by omega,hg _ (by omega),show ((4*i.toNat:Nat):Int)+3=((4*i.toNat+3:Nat):Int) by omega,hg _ (by omega)]
  rw[iy (i:=i) ⟨by omega,by omega⟩]
  exact ih (i+1) _ m (by omega) (by omega) (by omega)
theorem rS2 {n:Nat}:∀(k:Nat) (i:Int) (w:Vec 64) (m:Nat),i+k=64→16≤i→k<m→E9 n m (i,w)=some ((),kT SC k i w):=by
 intro k
 induction k with
 |zero=>
  intro i w m hi h16 hm
  obtain⟨m,rfl⟩:∃q,m=q+1:=⟨m-1,by omega⟩
  rw[agY,decide_eq_false (by omega)];rfl
 |succ k ih=>
  intro i w m hi h16 hm
  obtain⟨m,rfl⟩:∃q,m=q+1:=⟨m-1,by omega⟩
  rw[agY,decide_eq_true (show i<64 by omega),cond_true]
  rw[dN (i:=i-15) (by omega) (by omega),dN (i:=i-2) (by omega) (by omega),dN (i:=i-16) (by omega) (by omega),dN (i:=i-7) (by omega) (by omega),lH (by omega) (by omega)]
  rw[iy (i:=i-15) ⟨by omega,by omega⟩,iy (i:=i-2) ⟨by omega,by omega⟩,iy (i:=i-16) ⟨by omega,by omega⟩,iy (i:=i-7) ⟨by omega,by omega⟩,iy (i:=i) ⟨by omega,by omega⟩]
  rw[vk _ _ _ (by decide) (by decide),vk _ _ _ (by decide) (by decide),vk _ _ _ (by decide) (by decide),vk _ _ _ (by decide) (by decide)]
  exact ih (i+1) _ m (by omega) (by omega) (by omega)
theorem auK {n:Nat} {x:List Int} (hx:x.length=64) (hn:70<n):Er n x=some (BO x):=by
 rw[asn,rS1 hx 16 0 (Vec.rep 64 0) n (by decide) (by decide) (by omega)]
 show (E9 n n (16,kT (SE x) 16 0 (Vec.rep 64 0))).bind _=_
 rw[rS2 48 16 _ n (by decide) (by decide) (by omega)];rfl
end Sh
end
section
open Go Go.Proofs Aq
namespace Sh
def tF (h a b c k w:Int):Int:=IntKind.wrap IntKind.u32 (IntKind.wrap IntKind.u32 (IntKind.wrap IntKind.u32 (IntKind.wrap IntKind.u32 (h+dz IntKind.u32 (dz IntKind.u32 (jh a 6) (jh a 11)) (jh a 25))+dz IntKind.u32 (gX IntKind.u32 a b) (gX IntKind.u32 (dz IntKind.u32 a 4294967295) c))+k)+w)
def uF (a b c:Int):Int:=IntKind.wrap IntKind.u32 (dz IntKind.u32 (dz IntKind.u32 (jh a 2) (jh a 13)) (jh a 22)+dz IntKind.u32 (dz IntKind.u32 (gX IntKind.u32 a b) (gX IntKind.u32 a c)) (gX IntKind.u32 b c))
def K9 (w:Vec 64) (s:Vec 8) (i:Int):Vec 8:=
 Vec.lit 8 [IntKind.wrap IntKind.u32 (tF (s.at' 7) (s.at' 4) (s.at' 5) (s.at' 6) (uK.at' i) (w.at' i)+uF (s.at' 0) (s.at' 1) (s.at' 2)),s.at' 0,s.at' 1,s.at' 2,IntKind.wrap IntKind.u32 (s.at' 3+tF (s.at' 7) (s.at' 4) (s.at' 5) (s.at' 6) (uK.at' i) (w.at' i)),s.at' 4,s.at' 5,s.at' 6]
def YU (v s:Vec 8) (i:Int):Vec 8:=s.set i (IntKind.wrap IntKind.u32 (s.at' i+v.at' i))
def ah1 (v e:Vec 4) (s:Vec 8) (i:Int):Vec 8:=(s.set i (IntKind.wrap IntKind.u32 (s.at' i+v.at' i))).set (i+4) (IntKind.wrap IntKind.u32 ((s.set i (IntKind.wrap IntKind.u32 (s.at' i+v.at' i))).at' (i+4)+e.at' i))
def cat (v e:Vec 4):Vec 8:=Vec.lit 8 (v.l++e.l)
theorem SF (v:Vec 4):∃a b c d,v=Vec.lit 4 [a,b,c,d]:=by
 obtain⟨l,h⟩:=v
 match l,h with
 | [a,b,c,d],_=>exact⟨a,b,c,d,rfl⟩
theorem ah2 (v:Vec 8):∃a b c d e f g h,v=Vec.lit 8 [a,b,c,d,e,f,g,h]:=by
 obtain⟨l,hl⟩:=v
 match l,hl with
 | [a,b,c,d,e,f,g,h],_=>exact⟨a,b,c,d,e,f,g,h,rfl⟩
theorem add_eq (v e:Vec 4) (s:Vec 8):kT (ah1 v e) 4 0 s=kT (YU (cat v e)) 8 0 s:=by
 obtain⟨a,b,c,d,rfl⟩:=SF v
 obtain⟨a',b',c',d',rfl⟩:=SF e
 obtain⟨s0,s1,s2,s3,s4,s5,s6,s7,rfl⟩:=ah2 s
 kernel_rfl
theorem auL (s:Vec 8):cat (s.slc 0 4) (s.slc 4 4)=s:=by
 obtain⟨s0,s1,s2,s3,s4,s5,s6,s7,rfl⟩:=ah2 s
 kernel_rfl
def vB (h:Vec 8) (x:List Int):Vec 8:=kT (YU (kT (K9 (BO x)) 64 0 h)) 8 0 h
theorem rR {n:Nat} {r2:List Int} {x3:Int} {x4:Vec 8} {w:Vec 64}:∀(k:Nat) (i:Int) (s:Vec 8) (m:Nat),i+k=64→0≤i→k<m→Fa n r2 x3 x4 w m (i,s)=some ((),kT (K9 w) k i s):=by
 intro k
 induction k with
 |zero=>
  intro i s m hi h0 hm
  obtain⟨m,rfl⟩:∃q,m=q+1:=⟨m-1,by omega⟩
  rw[agZ,decide_eq_false (by omega)];rfl
 |succ k ih=>
  intro i s m hi h0 hm
  obtain⟨m,rfl⟩:∃q,m=q+1:=⟨m-1,by omega⟩
  rw[agZ,decide_eq_true (show i<64 by omega),cond_true,iy (i:=i) (n:=64) ⟨by omega,by omega⟩,lH (by omega) (by omega)]
  rw[vk _ _ _ (by decide) (by decide),vk _ _ _ (by decide) (by decide),vk _ _ _ (by decide) (by decide),vk _ _ _ (by decide) (by decide),vk _ _ _ (by decide) (by decide),vk _ _ _ (by decide) (by decide)]
  exact ih (i+1) _ m (by omega) (by omega) (by omega)
theorem auM (w:Vec 64) (v e:Vec 4) (i:Int):cat (Vec.lit 4 [IntKind.wrap IntKind.u32 (IntKind.wrap IntKind.u32 (IntKind.wrap IntKind.u32 (IntKind.wrap IntKind.u32 (IntKind.wrap IntKind.u32 (e.at' 3+zi (e.at' 0) 6 11 25)+dz IntKind.u32 (gX IntKind.u32 (e.at' 0) (e.at' 1)) (gX IntKind.u32 (dz IntKind.u32 4294967295 (e.at' 0)) (e.at' 2)))+uK.at' i)+w.at' i)+IntKind.wrap IntKind.u32 (zi (v.at' 0) 2 13 22+dz IntKind.u32 (dz IntKind.u32 (gX IntKind.u32 (v.at' 0) (v.at' 1)) (gX IntKind.u32 (v.at' 0) (v.at' 2))) (gX IntKind.u32 (v.at' 1) (v.at' 2)))),v.at' 0,v.at' 1,v.at' 2])
 (Vec.lit 4 [IntKind.wrap IntKind.u32 (v.at' 3+IntKind.wrap IntKind.u32 (IntKind.wrap IntKind.u32 (IntKind.wrap IntKind.u32 (IntKind.wrap IntKind.u32 (e.at' 3+zi (e.at' 0) 6 11 25)+dz IntKind.u32 (gX IntKind.u32 (e.at' 0) (e.at' 1)) (gX IntKind.u32 (dz IntKind.u32 4294967295 (e.at' 0)) (e.at' 2)))+uK.at' i)+w.at' i)),e.at' 0,e.at' 1,e.at' 2])=K9 w (cat v e) i:=by
 obtain⟨a,b,c,d,rfl⟩:=SF v
 obtain⟨a',b',c',d',rfl⟩:=SF e
 rw[auw,auy,auv IntKind.u32 4294967295]
 rfl
theorem hR {n:Nat} {x1:Vec 8} {w:Vec 64}:∀(k:Nat) (i:Int) (v e:Vec 4) (m:Nat),i+k=64→0≤i→k<m→∃v' e',wK n x1 w m (i,(v,e))=some ((),(v',e'))∧cat v' e'=kT (K9 w) k i (cat v e):=by
 intro k
 induction k with
 |zero=>
  intro i v e m hi h0 hm
  obtain⟨m,rfl⟩:∃q,m=q+1:=⟨m-1,by omega⟩
  refine⟨v,e, ?_,rfl⟩
  rw[Yg,decide_eq_false (by omega)];rfl
 |succ k ih=>
  intro i v e m hi h0 hm
  obtain⟨m,rfl⟩:∃q,m=q+1:=⟨m-1,by omega⟩
  obtain⟨v',e',h1,h2⟩:=ih (i+1) _ _ m (by omega) (by omega) (by omega)
  rw[auM] at h2
  refine⟨v',e', ?_,h2⟩
  rw[Yg,decide_eq_true (show i<64 by omega),cond_true,iy (i:=i) (n:=64) ⟨by omega,by omega⟩,lH (by omega) (by omega),Sv,Sv]
  exact h1
theorem rA {n:Nat} {r2:List Int} {x3:Int} {v:Vec 8}:∀(k:Nat) (i:Int) (s:Vec 8) (m:Nat),i+k=8→0≤i→k<m→Fb n r2 x3 ((),v) m (i,s)=some ((),kT (YU v) k i s):=by
 intro k
 induction k with
 |zero=>
  intro i s m hi h0 hm
  obtain⟨m,rfl⟩:∃q,m=q+1:=⟨m-1,by omega⟩
  rw[ag0,decide_eq_false (by omega)];rfl
 |succ k ih=>
  intro i s m hi h0 hm
  obtain⟨m,rfl⟩:∃q,m=q+1:=⟨m-1,by omega⟩
  rw[ag0,decide_eq_true (show i<8 by omega),cond_true,iy (i:=i) (n:=8) ⟨by omega,by omega⟩,lH (by omega) (by omega)]
  exact ih (i+1) _ m (by omega) (by omega) (by omega)
theorem hA {n:Nat} {v e:Vec 4}:∀(k:Nat) (i:Int) (s:Vec 8) (m:Nat),i+k=4→0≤i→k<m→y7 n ((),(v,e)) m (i,s)=some ((),kT (ah1 v e) k i s):=by
 intro k
 induction k with
 |zero=>
  intro i s m hi h0 hm
  obtain⟨m,rfl⟩:∃q,m=q+1:=⟨m-1,by omega⟩
  rw[Yh,decide_eq_false (by omega)];rfl
 |succ k ih=>
  intro i s m hi h0 hm
  obtain⟨m,rfl⟩:∃q,m=q+1:=⟨m-1,by omega⟩
  rw[Yh,decide_eq_true (show i<4 by omega),cond_true,iy (i:=i) (n:=8) ⟨by omega,by omega⟩,iy (i:=i) (n:=4) ⟨by omega,by omega⟩,lH (by omega) (by omega),dN (i:=i+4) (by omega) (by omega),iy (i:=i+4) (n:=8) ⟨by omega,by omega⟩]
  exact ih (i+1) _ m (by omega) (by omega) (by omega)
theorem hcomp {n:Nat} {h:Vec 8} {x:List Int} (hx:x.length=64) (hb:jr x) (hn:70<n):AY n (h,x)=some (vB h x):=by
 rw[agG,auH hx hb hn]
 obtain⟨v',e',h1,h2⟩:=hR (n:=n) (x1:=h) (w:=BO x) 64 0 (h.slc 0 4) (h.slc 4 4) n (by decide) (by decide) (by omega)
 show ((wK n h (BO x) n (0,(h.slc 0 4,h.slc 4 4))).bind _)=_
 rw[h1]
 show ((y7 n ((),(v',e')) n (0,h)).bind _)=_
 rw[hA 4 0 h n (by decide) (by decide) (by omega),add_eq,h2,auL]
 rfl
end Sh
end
section
open Go Go.Proofs Aq
namespace Sh
def wO:Nat→Vec 8→List Int→Vec 8
 |0,h,_=>h
 |k+1,h,l=>wO k (vB h (l.take 64)) (l.drop 64)
theorem auN:∀(q:Nat) (h:Vec 8) (d b:List Int),d.length=64*q→b.length=64→wO (q+1) h (d++b)=vB (wO q h d) b:=by
 intro q
 induction q with
 |zero=>
  intro h d b hd hb
  obtain rfl:d=[]:=List.eq_nil_of_length_eq_zero (by omega)
  show vB h (b.take 64)=vB h b
  rw[List.take_of_length_le (by omega)]
 |succ q ih=>
  intro h d b hd hb
  show wO (q+1) (vB h ((d++b).take 64)) ((d++b).drop 64)=vB (wO q (vB h (d.take 64)) (d.drop 64)) b
  rw[List.take_append_of_le_length (by omega),List.drop_append_of_le_length (by omega)]
  exact ih _ _ _ (by rw[List.length_drop];omega) hb
def IV:Vec 8:=Vec.lit 8 [1779033703,3144134277,1013904242,2773480762,1359893119,2600822924,528734635,1541459225]
def mE (l:List UInt8):List Int:=l.map fun b=>((b.toNat:Nat):Int)
def fT (l:List Int):List UInt8:=l.map fun n=>UInt8.ofNat n.toNat
theorem ah3 (l:List UInt8):jr (mE l):=by
 intro x hx
 obtain⟨b,_,rfl⟩:=List.mem_map.1 hx
 have:=UInt8.toNat_lt b
 omega
theorem YV {l:List Int} (h:jr l):mE (fT l)=l:=by
 unfold mE fT
 rw[List.map_map]
 conv=>rhs;rw[←List.map_id l]
 apply List.map_congr_left
 intro x hx
 obtain⟨h0,h1⟩:=h x hx
 show ((UInt8.ofNat x.toNat).toNat:Int)=x
 rw[UInt8.toNat_ofNat_of_lt' (show x.toNat<256 by omega)]
 omega
theorem ah4 (l:List UInt8):(mE l).length=l.length:=List.length_map ..
theorem rV (l:List Int):(fT l).length=l.length:=List.length_map ..
theorem wP {l m:List Int} (h:jr l) (g:jr m):jr (l++m):=fun x hx=>(List.mem_append.1 hx).elim (h x) (g x)
theorem auO {l m:List Int} (h:jr (l++m)):jr m:=fun x hx=>h x (List.mem_append_right _ hx)
def vC (bs:List Int) (h:Vec 8) (v:Vec 64) (c:Int):Prop:=
 ∃q done tail,bs=done++tail∧done.length=64*q∧tail.length<64∧h=wO q IV done∧v.l.take tail.length=tail∧c=((bs.length:Nat):Int)∧jr bs
theorem Hu {n:Nat} {l:List Int} (h:l.length=n):(Vec.lit n l).l=l:=by unfold Vec.lit;rw[dif_pos h]
theorem SG {x:Int} (h0:0≤x) (h1:x<2^62):IntKind.wrap IntKind.u64 x=x:=by rw[IntKind.wrap_u64];omega
theorem hAdd {n:Nat} (hn:70<n):∀(k:Nat) (text:List UInt8) (bs:List Int) (h:Vec 8) (v:Vec 64) (c:Int) (m:Nat),text.length≤k→vC bs h v c→bs.length+text.length<2^61→k<m→
 ∃h' v' c',wL n m (text,(h,(v,c)))=some ((),(h',(v',c')))∧vC (bs++mE text) h' v' c':=by
 intro k
 induction k with
 |zero=>
  intro text bs h v c m hk hs hl hm
  obtain⟨m,rfl⟩:∃q,m=q+1:=⟨m-1,by omega⟩
  obtain rfl:text=[]:=List.eq_nil_of_length_eq_zero (by omega)
  refine⟨h,v,c, ?_,by simpa [mE] using hs⟩
  rw[R4];rfl
 |succ k ih=>
  intro text bs h v c m hk hs hl hm
  obtain⟨m,rfl⟩:∃q,m=q+1:=⟨m-1,by omega⟩
  by_cases ht:text=[]
  ·subst ht
   refine⟨h,v,c, ?_,by simpa [mE] using hs⟩
   rw[R4];rfl
  ·obtain⟨q,done,tail,hb,hd,htl,hh,hv,hc,hB⟩:=hs
   have hpos:0<text.length:=List.length_pos_iff.2 ht
   have hne:(!(text==[]))=true:=by cases text with
    |nil=>exact absurd rfl ht
    |cons a l=>rfl
   have hbl:bs.length=64*q+tail.length:=by rw[hb,List.length_append,hd]
   have auP:Int.tmod c 64=((tail.length:Nat):Int):=by
    rw[hc,Int.tmod_eq_emod_of_nonneg (by omega)];omega
   rw[R4,hne,cond_true,auP,dN (i:=((tail.length:Nat):Int)) (by omega) (by omega)]
   have hcut:List.take (Int.toNat (64-((tail.length:Nat):Int))) (List.map (fun b:UInt8=>((b.toNat:Nat):Int)) text)=mE (text.take (64-tail.length)):=by
    unfold mE
    rw[show Int.toNat (64-((tail.length:Nat):Int))=64-tail.length by omega,List.map_take]
   rw[hcut]
   generalize hj:64-tail.length=j
   have hlen:(mE (text.take j)).length=min j text.length:=by rw[ah4,List.length_take]
   have hsplit:mE text=mE (text.take j)++mE (text.drop j):=by unfold mE;rw[←List.map_append,List.take_append_drop]
   have hdrop:List.drop (Int.toNat (((mE (text.take j)).length:Nat):Int)) text=text.drop j:=by
    rw[Int.toNat_natCast,hlen]
    by_cases h:j≤text.length
    ·rw[Nat.min_eq_left h]
    ·rw[Nat.min_eq_right (by omega),List.drop_length,List.drop_of_length_le (by omega)]
   generalize ht':mE (text.take j)=t at hlen hsplit hdrop⊢
   have YW:jr t:=ht'▸ah3 _
   have hlit:(v.oP ((tail.length:Nat):Int) t).l=tail++t++v.l.drop (tail.length+t.length):=by
    show (Vec.lit 64 (v.l.take (((tail.length:Nat):Int)).toNat++t++v.l.drop ((((tail.length:Nat):Int)).toNat+t.length))).l=_
    rw[Int.toNat_natCast,Hu (by rw[hv,List.length_append,List.length_append,List.length_drop,v.h];omega),hv]
   have g1:nH 64 (some ((tail.length:Nat):Int)) none=true:=decide_eq_true ⟨by omega,by omega⟩
   have g2:gW (((t.length:Nat)):Int) text.length=true:=qF ⟨by omega,by omega⟩
   rw[show (!((64:Int)==0))=true from rfl,cond_true,g1,cond_true,g2,cond_true,dN (by omega) (by omega)]
   have auQ:IntKind.wrap IntKind.u64 (c+IntKind.wrap IntKind.u64 ((t.length:Nat):Int))=(((bs++t).length:Nat):Int):=by
    rw[SG (x:=((t.length:Nat):Int)) (by omega) (by omega),SG (by omega) (by omega),hc,List.length_append];omega
   rw[auQ,hdrop]
   have hrl:(text.drop j).length≤k:=by rw[List.length_drop];omega
   have hnl:(bs++t).length+(text.drop j).length<2^61:=by rw[List.length_append,List.length_drop];omega
   cases hfull:(((tail.length:Nat):Int)+((t.length:Nat):Int)==64) with
   |true=>
    have hf:tail.length+t.length=64:=by have:=eq_of_beq hfull;omega
    have hblk:(v.oP ((tail.length:Nat):Int) t).l=tail++t:=by rw[hlit,List.drop_of_length_le (by rw[v.h];omega),List.append_nil]
    have Gt:jr (tail++t):=wP (auO (hb▸hB)) YW
    rw[cond_true,hblk,hcomp (by rw[List.length_append];omega) Gt hn]
    have hs':vC (bs++t) (vB h (tail++t)) (v.oP ((tail.length:Nat):Int) t) (((bs++t).length:Nat):Int):=by
     refine⟨q+1,done++(tail++t),[], ?_, ?_,by decide, ?_,rfl,rfl,wP hB YW⟩
     ·rw[hb,List.append_nil,List.append_assoc]
     ·rw[List.length_append,List.length_append,hd];omega
     ·rw[auN q IV done (tail++t) hd (by rw[List.length_append];omega),hh]
    obtain⟨h',v',c',e1,e2⟩:=ih _ _ _ _ _ m hrl hs' hnl (by omega)
    refine⟨h',v',c',e1, ?_⟩
    rw[hsplit,←List.append_assoc];exact e2
   |false=>
    have hf:tail.length+t.length≠64:=fun e=>by
     have:(((tail.length:Nat):Int)+((t.length:Nat):Int)==64)=true:=by rw[beq_iff_eq];omega
     rw[this] at hfull;cases hfull
    rw[cond_false]
    have hs':vC (bs++t) h (v.oP ((tail.length:Nat):Int) t) (((bs++t).length:Nat):Int):=by
     refine⟨q,done,tail++t, ?_,hd, ?_,hh, ?_,rfl,wP hB YW⟩
     ·rw[hb,List.append_assoc]
     ·rw[List.length_append];omega
     ·rw[hlit,List.take_append_of_le_length (Nat.le_refl _),List.take_length]
    obtain⟨h',v',c',e1,e2⟩:=ih _ _ _ _ _ m hrl hs' hnl (by omega)
    refine⟨h',v',c',e1, ?_⟩
    rw[hsplit,←List.append_assoc];exact e2
theorem YX {n:Nat} {text:List UInt8} {bs:List Int} {h:Vec 8} {v:Vec 64} {c:Int} (hn:70<n) (hs:vC bs h v c) (hl:bs.length+text.length<2^61) (hm:text.length<n):
 ∃h' v' c',uM n ((h,(v,c)),text)=some (h',(v',c'))∧vC (bs++mE text) h' v' c':=by
 obtain⟨h',v',c',e1,e2⟩:=hAdd hn text.length text bs h v c n (Nat.le_refl _) hs hl hm
 refine⟨h',v',c', ?_,e2⟩
 rw[agH,e1];rfl
end Sh
end
section
open Go Go.Proofs Aq
namespace Sh
def YZ (c i:Int):Int:=IntKind.wrap IntKind.u8 (eP IntKind.u64 (IntKind.wrap IntKind.u64 (8*c)) (IntKind.wrap IntKind.i64 (56-IntKind.wrap IntKind.i64 (8*i))))
def wQ (c:Int):Nat→Int→List Int
 |0,_=>[]
 |k+1,i=>YZ c i::wQ c k (i+1)
theorem ah5 (c:Int):∀(k:Nat) (i:Int),(wQ c k i).length=k
 |0,_=>rfl
 |k+1,i=>by rw[wQ,List.length_cons,ah5 c k]
theorem Y0 (x:Int):0≤IntKind.wrap IntKind.u8 x∧IntKind.wrap IntKind.u8 x<256:=by
 rw[IntKind.wrap_u8];exact⟨Int.emod_nonneg _ (by decide),Int.emod_lt_of_pos _ (by decide)⟩
theorem ah6 (c:Int):∀(k:Nat) (i:Int),jr (wQ c k i)
 |0,_=>fun x hx=>by cases hx
 |k+1,i=>fun x hx=>by
  rcases List.mem_cons.1 hx with rfl|hx
  ·exact Y0 _
  ·exact ah6 c k _ x hx
theorem jH {a k:Nat} (h:a<2^30) (hk:k≤2^12):bC a k=true:=gN h hk
theorem auR {n:Nat} {x1:Vec 8} {x2:Vec 64} {c:Nat} (hc:c<2^29):∀(z:Nat) (p:List Int) (m:Nat),(c+p.length+z)% 64=56→z<64→p.length+z<2^20→z<m→BD n x1 x2 (c:Nat) m p=some (p++List.replicate z 0):=by
 intro z
 induction z with
 |zero=>
  intro p m hz h64 hb hm
  obtain⟨m,rfl⟩:∃q,m=q+1:=⟨m-1,by omega⟩
  rw[Yi,dN (i:=((c:Nat):Int)) (by omega) (by omega),dN (by omega) (by omega),Int.tmod_eq_emod_of_nonneg (by omega)]
  have:(((c:Nat):Int)+((p.length:Nat):Int))% 64=56:=by omega
  rw[this];simp
 |succ z ih=>
  intro p m hz h64 hb hm
  obtain⟨m,rfl⟩:∃q,m=q+1:=⟨m-1,by omega⟩
  rw[Yi,dN (i:=((c:Nat):Int)) (by omega) (by omega),dN (by omega) (by omega),Int.tmod_eq_emod_of_nonneg (by omega)]
  have:((((c:Nat):Int)+((p.length:Nat):Int))% 64 !=56)=true:=by
   rw[bne_iff_ne];omega
  rw[this,show (!((64:Int)==0))=true from rfl,cond_true,cond_true,jH (by simp;omega) (by decide),cond_true,ih (p++[0]) m (by rw[List.length_append,List.length_singleton];omega) (by omega) (by rw[List.length_append,List.length_singleton];omega) (by omega),List.append_assoc]
  rfl
theorem auS {n:Nat} {x1:List Int}:∀(z:Nat) (p:List Int) (m:Nat),(p.length+z)% 64=56→z<64→p.length+z<2^29→z<m→KG n x1 m p=some (p++List.replicate z 0):=by
 intro z
 induction z with
 |zero=>
  intro p m hz h64 hb hm
  obtain⟨m,rfl⟩:∃q,m=q+1:=⟨m-1,by omega⟩
  rw[agV,Int.tmod_eq_emod_of_nonneg (by omega)]
  have:(((p.length:Nat):Int))% 64=56:=by omega
  rw[this];simp
 |succ z ih=>
  intro p m hz h64 hb hm
  obtain⟨m,rfl⟩:∃q,m=q+1:=⟨m-1,by omega⟩
  rw[agV,Int.tmod_eq_emod_of_nonneg (by omega)]
  have:(((p.length:Nat):Int)% 64 !=56)=true:=by
   rw[bne_iff_ne];omega
  rw[this,show (!((64:Int)==0))=true from rfl,cond_true,cond_true,jH (by simp;omega) (by decide),cond_true,ih (p++[0]) m (by rw[List.length_append,List.length_singleton];omega) (by omega) (by rw[List.length_append,List.length_singleton];omega) (by omega),List.append_assoc]
  rfl
theorem hLen {n:Nat} {x1:Vec 8} {x2:Vec 64} {c:Int}:∀(k:Nat) (i:Int) (p:List Int) (m:Nat),i+k=8→0≤i→p.length+k<2^29→k<m→y8 n x1 x2 c m (p,i)=some (p++wQ c k i):=by
 intro k
 induction k with
 |zero=>
  intro i p m hi h0 hb hm
  obtain⟨m,rfl⟩:∃q,m=q+1:=⟨m-1,by omega⟩
  rw[Yj,decide_eq_false (by omega),wQ,List.append_nil];rfl
 |succ k ih=>
  intro i p m hi h0 hb hm
  obtain⟨m,rfl⟩:∃q,m=q+1:=⟨m-1,by omega⟩
  rw[Yj,decide_eq_true (show i<8 by omega),cond_true]
  rw[decide_eq_true (show (0:Int)≤IntKind.wrap IntKind.i64 (56-IntKind.wrap IntKind.i64 (8*i)) by rw[dN (i:=8*i) (by omega) (by omega),dN (by omega) (by omega)];omega),cond_true,jH (by simp;omega) (by decide),cond_true,lH h0 (by omega)]
  have:=ih (i+1) (p++[YZ c i]) m (by omega) (by omega) (by rw[List.length_append,List.length_singleton];omega) (by omega)
  rw[List.append_assoc] at this
  exact this
theorem auT {n:Nat} {x1:List Int} (hx:x1.length<2^29):∀(k:Nat) (i:Int) (p:List Int) (m:Nat),i+k=8→0≤i→p.length+k<2^30→k<m→E8 n x1 m (p,i)=some (p++wQ (x1.length:Nat) k i):=by
 intro k
 induction k with
 |zero=>
  intro i p m hi h0 hb hm
  obtain⟨m,rfl⟩:∃q,m=q+1:=⟨m-1,by omega⟩
  rw[agW,decide_eq_false (by omega),wQ,List.append_nil];rfl
 |succ k ih=>
  intro i p m hi h0 hb hm
  obtain⟨m,rfl⟩:∃q,m=q+1:=⟨m-1,by omega⟩
  rw[agW,decide_eq_true (show i<8 by omega),cond_true]
  rw[decide_eq_true (show (0:Int)≤IntKind.wrap IntKind.i64 (56-IntKind.wrap IntKind.i64 (8*i)) by rw[dN (i:=8*i) (by omega) (by omega),dN (by omega) (by omega)];omega),cond_true,jH (by simp;omega) (by decide),cond_true,lH h0 (by omega),SG (x:=((x1.length:Nat):Int)) (by omega) (by omega)]
  have:=ih (i+1) (p++[YZ (x1.length:Nat) i]) m (by omega) (by omega) (by rw[List.length_append,List.length_singleton];omega) (by omega)
  rw[List.append_assoc] at this
  exact this
def zpad (c:Nat):Nat:=(55+64-c% 64)% 64
theorem Y1 (c:Nat):(c+1+zpad c)% 64=56∧zpad c<64:=by unfold zpad;omega
def rW (c:Nat):List Int:=([128]++List.replicate (zpad c) 0)++wQ (c:Nat) 8 0
theorem SH (c:Nat):(rW c).length=1+zpad c+8:=by unfold rW;simp only[List.length_append,List.length_singleton,List.length_replicate,ah5]
theorem ah7 (c:Nat):jr (rW c):=by
 refine wP (wP ?_ ?_) (ah6 _ _ _)
 ·intro x hx;rw[List.mem_singleton.1 hx];decide
 ·intro x hx;rw[(List.mem_replicate.1 hx).2];decide
theorem auU {n:Nat} {b:List Int} (hb:b.length<2^28) (hn:100<n):Ep n b=some (b++rW b.length):=by
 obtain⟨h1,h2⟩:=Y1 b.length
 rw[asj,jH (by omega) (by decide),cond_true,jH (by simp;omega) (by decide),cond_true]
 rw[List.nil_append,auS (zpad b.length) (b++[128]) n (by rw[List.length_append,List.length_singleton];exact h1) h2 (by rw[List.length_append,List.length_singleton];omega) (by omega)]
 show (E8 n b n (b++[128]++List.replicate (zpad b.length) 0,0)).bind _=_
 rw[auT (by omega) 8 0 _ n (by decide) (by decide) (by simp only[List.length_append,List.length_singleton,List.length_replicate];omega) (by omega)]
 unfold rW
 simp only[Option.bind_some,List.append_assoc]
theorem auV {n:Nat} {r:List Int} (hB:jr r) (hr:r.length<2^29) (hn:100<n):∀(k:Nat) (j:Nat) (h:Vec 8) (m:Nat),j+64*k=r.length→k<m→Fe n r m ((j:Nat),h)=some ((),wO k h (r.drop j)):=by
 intro k
 induction k with
 |zero=>
  intro j h m hj hm
  obtain⟨m,rfl⟩:∃q,m=q+1:=⟨m-1,by omega⟩
  rw[ag1,decide_eq_false (by omega)];rfl
 |succ k ih=>
  intro j h m hj hm
  obtain⟨m,rfl⟩:∃q,m=q+1:=⟨m-1,by omega⟩
  rw[ag1,decide_eq_true (by omega),cond_true,dN (i:=((j:Nat):Int)+64) (by omega) (by omega),qF (i:=((j:Nat):Int)+64) ⟨by omega,by omega⟩,qF (i:=((j:Nat):Int)) ⟨by omega,by omega⟩,Bool.and_self,cond_true]
  have hcut:List.drop (Int.toNat ((j:Nat):Int)) (List.take (Int.toNat (((j:Nat):Int)+64)) r)=(r.drop j).take 64:=by
   rw[Int.toNat_natCast,show Int.toNat (((j:Nat):Int)+64)=j+64 by omega,List.drop_take,Nat.add_sub_cancel_left]
  have hw:=auK (n:=n) (x:=(r.drop j).take 64) (by rw[List.length_take,List.length_drop];omega) (by omega)
  rw[←hcut] at hw
  refine bs hw ?_
  rw[hcut]
  show ((Fa n r (j:Nat) h (BO ((r.drop j).take 64)) n (0,h)).bind _)=_
  rw[rR 64 0 h n (by decide) (by decide) (by omega)]
  show ((Fb n r (j:Nat) ((),kT (K9 (BO ((r.drop j).take 64))) 64 0 h) n (0,h)).bind _)=_
  rw[rA 8 0 h n (by decide) (by decide) (by omega)]
  have:=ih (j+64) (vB h ((r.drop j).take 64)) m (by omega) (by omega)
  rw[←List.drop_drop] at this
  exact this
def Y2 (h:Vec 8) (o:Vec 32) (i:Int):Vec 32:=o.set i (IntKind.wrap IntKind.u8 (eP IntKind.u32 (h.at' (IntKind.wrap IntKind.i64 (Int.tdiv i 4))) (IntKind.wrap IntKind.i64 (24-IntKind.wrap IntKind.i64 (8*Int.tmod i 4)))))
def ah8 (h:Vec 8):Vec 32:=kT (Y2 h) 32 0 (Vec.rep 32 0)
theorem ah9 {i:Int} (h0:0≤i) (h1:i<32):bP (IntKind.wrap IntKind.i64 (Int.tdiv i 4)) 8=true∧decide ((0:Int)≤IntKind.wrap IntKind.i64 (24-IntKind.wrap IntKind.i64 (8*Int.tmod i 4)))=true:=by
 rw[Int.tdiv_eq_ediv_of_nonneg h0,Int.tmod_eq_emod_of_nonneg h0,dN (i:=i/4) (by omega) (by omega),dN (i:=8*(i% 4)) (by omega) (by omega),dN (by omega) (by omega)]
 exact⟨iy ⟨by omega,by omega⟩,decide_eq_true (by omega)⟩
theorem hOut {n:Nat} {r9:(Vec 8)×(Vec 64)×Int}:∀(k:Nat) (i:Int) (o:Vec 32) (m:Nat),i+k=32→0≤i→k<m→y9 n r9 m (i,o)=some ((),kT (Y2 r9.1) k i o):=by
 intro k
 induction k with
 |zero=>
  intro i s m hi h0 hm
  obtain⟨m,rfl⟩:∃q,m=q+1:=⟨m-1,by omega⟩
  rw[Yk,decide_eq_false (by omega)];rfl
 |succ k ih=>
  intro i s m hi h0 hm
  obtain⟨m,rfl⟩:∃q,m=q+1:=⟨m-1,by omega⟩
  obtain⟨g1,g2⟩:=ah9 h0 (show i<32 by omega)
  rw[Yk,decide_eq_true (show i<32 by omega),cond_true,g1,g2,iy (i:=i) (n:=32) ⟨by omega,by omega⟩,lH (by omega) (by omega)]
  exact ih (i+1) _ m (by omega) (by omega) (by omega)
theorem auW {n:Nat} {h:Vec 8}:∀(k:Nat) (i:Int) (o:Vec 32) (m:Nat),i+k=32→0≤i→k<m→Fg n ((),h) m (i,o)=some ((),kT (Y2 h) k i o):=by
 intro k
 induction k with
 |zero=>
  intro i s m hi h0 hm
  obtain⟨m,rfl⟩:∃q,m=q+1:=⟨m-1,by omega⟩
  rw[ag2,decide_eq_false (by omega)];rfl
 |succ k ih=>
  intro i s m hi h0 hm
  obtain⟨m,rfl⟩:∃q,m=q+1:=⟨m-1,by omega⟩
  obtain⟨g1,g2⟩:=ah9 h0 (show i<32 by omega)
  rw[ag2,decide_eq_true (show i<32 by omega),cond_true,g1,g2,iy (i:=i) (n:=32) ⟨by omega,by omega⟩,lH (by omega) (by omega)]
  exact ih (i+1) _ m (by omega) (by omega) (by omega)
def La (b:List Int):Vec 32:=ah8 (wO ((b.length+(1+zpad b.length+8))/64) IV (b++rW b.length))
theorem auX {n:Nat} {b:List Int} (hB:jr b) (hb:b.length<2^28) (hbn:b.length<n) (hn:100<n):Es n b=some (La b):=by
 obtain⟨h1,h2⟩:=Y1 b.length
 rw[aso,auU hb hn]
 have hl:(b++rW b.length).length=b.length+(1+zpad b.length+8):=by rw[List.length_append,SH]
 show (Fe n (b++rW b.length) n (((0:Nat):Int),IV)).bind _=_
 rw[auV (wP hB (ah7 _)) (by omega) hn ((b.length+(1+zpad b.length+8))/64) 0 IV n (by omega) (by omega)]
 show ((Fg n ((),wO _ IV (b++rW b.length)) n (0,Vec.rep 32 0)).bind _)=_
 rw[auW 32 0 _ n (by decide) (by decide) (by omega)]
 rfl
theorem auY {n:Nat} {b:List Int} {h:Vec 8} {v:Vec 64} {c:Int} (hs:vC b h v c) (hb:b.length<2^28) (hn:200<n):AZ n (h,(v,c))=some (La b):=by
 obtain⟨h1,h2⟩:=Y1 b.length
 have hc:c=((b.length:Nat):Int):=by obtain⟨_,_,_,_,_,_,_,_,e,_⟩:=hs;exact e
 have hB:jr b:=by obtain⟨_,_,_,_,_,_,_,_,_,e⟩:=hs;exact e
 subst hc
 rw[agI,auR (by omega) (zpad b.length) [128] n (by rw[List.length_singleton];exact h1) h2 (by rw[List.length_singleton];omega) (by omega)]
 show (y8 n h v (b.length:Nat) n ([128]++List.replicate (zpad b.length) 0,0)).bind _=_
 rw[hLen 8 0 _ n (by decide) (by decide) (by simp only[List.length_append,List.length_singleton,List.length_replicate];omega) (by omega)]
 obtain⟨h',v',c',e1,e2⟩:=YX (n:=n) (text:=fT (rW b.length)) (by omega) hs (by rw[rV,SH];omega) (by rw[rV,SH];omega)
 show ((uM n ((h,(v,((b.length:Nat):Int))),fT (rW b.length))).bind _)=_
 rw[e1]
 show ((y9 n (h',(v',c')) n (0,Vec.rep 32 0)).bind _)=_
 rw[hOut 32 0 _ n (by decide) (by decide) (by omega)]
 rw[YV (ah7 _)] at e2
 obtain⟨q,done,tail,hb',hd,htl,hh,_,_,_⟩:=e2
 have hlen:(b++rW b.length).length=64*q+tail.length:=by rw[hb',List.length_append,hd]
 rw[List.length_append,SH] at hlen
 have ht:tail=[]:=List.eq_nil_of_length_eq_zero (by omega)
 subst ht
 rw[List.append_nil] at hb'
 have hq:(b.length+(1+zpad b.length+8))/64=q:=by rw[List.length_nil] at hlen;omega
 show some (ah8 h')=some (La b)
 unfold La
 rw[hq,hb',hh]
end Sh
end
section
open Go Go.Proofs Aq
namespace Sh
set_option maxRecDepth 100000
def aia (h:Vec 32):au:=⟨h.nth 0,h.nth 1,h.nth 2,h.nth 3,h.nth 4,h.nth 5,h.nth 6,h.nth 7,h.nth 8,h.nth 9,h.nth 10,h.nth 11,h.nth 12,h.nth 13,h.nth 14,h.nth 15⟩
theorem auZ (n:Nat) (r:List Int):Et n r=(Es n r).bind fun h=>some (aia h):=by kernel_rfl
end Sh
end
section
open Go Go.Proofs Aq
namespace Sh
def gH (ls:List (List Int)):Nat:=ls.foldr (fun l s=>l.length+s) 0
theorem zk {ls:List (List Int)} {i:Nat} {x:List Int} (h:ls[i]? =some x):gH (ls.drop i)=x.length+gH (ls.drop (i+1)):=by
 have hlt:=lM h
 rw[List.drop_eq_getElem_cons hlt]
 have:ls[i]=x:=by rw[List.getElem?_eq_getElem hlt] at h;exact Option.some.inj h
 rw[this];rfl
theorem aib {u:Unit} {k:Int} (h0:0≤k) (h1:k≤2^40):DZ (u,k)=some []:=by
 unfold DZ DY
 exact if_pos ⟨h0,h1⟩
theorem aic {u:Unit} {k:Int} (h0:0≤k) (h1:k≤2^40):D5 (u,k)=some []:=by
 unfold D5 DY
 exact if_pos ⟨h0,h1⟩
theorem au0 {n:Nat} {ls:List (List Int)} (hs:gH ls<2^28) (hl:ls.length<2^28) (hn:ls.length<n):∃r:List Int,yG n ls=some r∧r.length=gH ls:=by
 rw[agv]
 have h3:∀(k i m:Nat) (c:Nat),i+k=ls.length→k<m→c+gH (ls.drop i)=gH ls→∃r,EO n ls m ((c:Int),(i:Int))=some r∧r=((gH ls:Nat):Int):=by
  intro k
  induction k with
  |zero=>
   intro i m c hi hm hc
   obtain⟨m,rfl⟩:∃m',m=m'+1:=⟨m-1,by omega⟩
   rw[RP,eT (by omega)]
   rw[List.drop_eq_nil_of_le (by omega)] at hc
   exact cB (by rw[←hc];rfl)
  |succ k ih=>
   intro i m c hi hm hc
   obtain⟨m,rfl⟩:∃m',m=m'+1:=⟨m-1,by omega⟩
   have hlt:i<ls.length:=by omega
   have hx:ls[i]? =some ls[i]:=List.getElem?_eq_getElem hlt
   have hsz:=zk hx
   rw[RP,eD hx,dw hx,dx (by omega),cond_true,Option.bind_some,Fp (by omega),decide_eq_false (by omega)]
   exact ih (i+1) m (c+ls[i].length) (by omega) (by omega) (by omega)
 obtain⟨r5,K6,rfl⟩:=h3 ls.length 0 n 0 (by omega) hn (by simp)
 refine bg ⟨_,K6,bg ⟨_,aib (by omega) (by omega), ?_⟩⟩
 have h11:∀(k i m:Nat) (a:List Int),i+k=ls.length→k<m→a.length+gH (ls.drop i)=gH ls→∃r,EP n ls m (a,(i:Int))=some r∧r.length=gH ls:=by
  intro k
  induction k with
  |zero=>
   intro i m a hi hm hc
   obtain⟨m,rfl⟩:∃m',m=m'+1:=⟨m-1,by omega⟩
   rw[RQ,eT (by omega)]
   rw[List.drop_eq_nil_of_le (by omega)] at hc
   exact cB (by rw[←hc];rfl)
  |succ k ih=>
   intro i m a hi hm hc
   obtain⟨m,rfl⟩:∃m',m=m'+1:=⟨m-1,by omega⟩
   have hlt:i<ls.length:=by omega
   have hx:ls[i]? =some ls[i]:=List.getElem?_eq_getElem hlt
   have hsz:=zk hx
   rw[RQ,eD hx,dw hx,dx (by omega),cond_true,Option.bind_some,gN (by omega) (by decide),cond_true]
   exact ih (i+1) m (a++ls[i]) (by omega) (by omega) (by rw[List.length_append];omega)
 obtain⟨r,hr,e⟩:=h11 ls.length 0 n [] (by omega) hn (by simp)
 exact bg ⟨r,hr,cB e⟩
theorem au1 {n:Nat} {ls:List (List Int)} (hs:gH ls<2^28) (hl:ls.length<2^28) (hn:ls.length<n):∃r:List Int,AO n ls=some r∧r.length=gH ls:=by
 rw[agC]
 have h3:∀(k i m:Nat) (c:Nat),i+k=ls.length→k<m→c+gH (ls.drop i)=gH ls→∃r,EU n ls m ((c:Int),(i:Int))=some r∧r=((gH ls:Nat):Int):=by
  intro k
  induction k with
  |zero=>
   intro i m c hi hm hc
   obtain⟨m,rfl⟩:∃m',m=m'+1:=⟨m-1,by omega⟩
   rw[RX,eT (by omega)]
   rw[List.drop_eq_nil_of_le (by omega)] at hc
   exact cB (by rw[←hc];rfl)
  |succ k ih=>
   intro i m c hi hm hc
   obtain⟨m,rfl⟩:∃m',m=m'+1:=⟨m-1,by omega⟩
   have hlt:i<ls.length:=by omega
   have hx:ls[i]? =some ls[i]:=List.getElem?_eq_getElem hlt
   have hsz:=zk hx
   rw[RX,eD hx,dw hx,dx (by omega),cond_true,Option.bind_some,Fp (by omega),decide_eq_false (by omega)]
   exact ih (i+1) m (c+ls[i].length) (by omega) (by omega) (by omega)
 obtain⟨r5,K6,rfl⟩:=h3 ls.length 0 n 0 (by omega) hn (by simp)
 refine bg ⟨_,K6,bg ⟨_,aic (by omega) (by omega), ?_⟩⟩
 have h11:∀(k i m:Nat) (a:List Int),i+k=ls.length→k<m→a.length+gH (ls.drop i)=gH ls→∃r,EW n ls m (a,(i:Int))=some r∧r.length=gH ls:=by
  intro k
  induction k with
  |zero=>
   intro i m a hi hm hc
   obtain⟨m,rfl⟩:∃m',m=m'+1:=⟨m-1,by omega⟩
   rw[RY,eT (by omega)]
   rw[List.drop_eq_nil_of_le (by omega)] at hc
   exact cB (by rw[←hc];rfl)
  |succ k ih=>
   intro i m a hi hm hc
   obtain⟨m,rfl⟩:∃m',m=m'+1:=⟨m-1,by omega⟩
   have hlt:i<ls.length:=by omega
   have hx:ls[i]? =some ls[i]:=List.getElem?_eq_getElem hlt
   have hsz:=zk hx
   rw[RY,eD hx,dw hx,dx (by omega),cond_true,Option.bind_some,gN (by omega) (by decide),cond_true]
   exact ih (i+1) m (a++ls[i]) (by omega) (by omega) (by rw[List.length_append];omega)
 obtain⟨r,hr,e⟩:=h11 ls.length 0 n [] (by omega) hn (by simp)
 exact bg ⟨r,hr,cB e⟩
theorem au2 {n:Nat} {l:List Int} (hl:l.length<2^20) (hn:l.length<n) (hn2:20<n):∃r:List Int,yH n l=some r∧r.length≤10+10*l.length:=by
 rw[agy,agx]
 obtain⟨r2,hr2,l2⟩:=Sw (n:=n) ((l.length:Nat):Int) hn2
 have h3:∀(k i m:Nat) (a:List Int),i+k=l.length→k<m→a.length≤10+10*i→∃r,ER n l m (a,(i:Int))=some r∧r.length≤10+10*l.length:=by
  intro k
  induction k with
  |zero=>
   intro i m a hi hm hc
   obtain⟨m,rfl⟩:∃m',m=m'+1:=⟨m-1,by omega⟩
   rw[RU,eT (by omega)]
   exact cB (by omega)
  |succ k ih=>
   intro i m a hi hm hc
   obtain⟨m,rfl⟩:∃m',m=m'+1:=⟨m-1,by omega⟩
   have hlt:i<l.length:=by omega
   have hx:l[i]? =some l[i]:=List.getElem?_eq_getElem hlt
   rw[RU,eD hx,dw hx,dx (by omega),cond_true,Option.bind_some]
   obtain⟨w,hw,lw⟩:=Sw (n:=n) l[i] hn2
   refine bg ⟨w,hw,gT (gN (by omega) (by decide)) ?_⟩
   exact ih (i+1) m (a++w) (by omega) (by omega) (by rw[List.length_append];omega)
 obtain⟨r,hr,e⟩:=h3 l.length 0 n r2 (by omega) hn (by omega)
 exact bg ⟨r,bs hr2 (bs hr rfl),cB e⟩
theorem au3 {n:Nat} {l:List (List UInt8)} (hl:l.length<2^12) (hs:∀x∈l,x.length≤300) (hn:l.length<n) (hn2:20<n):∃r:List Int,AJ n l=some r∧r.length≤10+310*l.length:=by
 rw[agB,agA]
 obtain⟨r2,hr2,l2⟩:=Sw (n:=n) ((l.length:Nat):Int) hn2
 have h3:∀(k i m:Nat) (a:List Int),i+k=l.length→k<m→a.length≤10+310*i→∃r,ET n l m (a,(i:Int))=some r∧r.length≤10+310*l.length:=by
  intro k
  induction k with
  |zero=>
   intro i m a hi hm hc
   obtain⟨m,rfl⟩:∃m',m=m'+1:=⟨m-1,by omega⟩
   rw[RV,eT (by omega)]
   exact cB (by omega)
  |succ k ih=>
   intro i m a hi hm hc
   obtain⟨m,rfl⟩:∃m',m=m'+1:=⟨m-1,by omega⟩
   have hlt:i<l.length:=by omega
   have hx:l[i]? =some l[i]:=List.getElem?_eq_getElem hlt
   have au4:=hs _ (List.getElem_mem hlt)
   rw[RV,eD hx,dw hx,dx (by omega),cond_true,Option.bind_some]
   obtain⟨w,hw,lw⟩:=ahZ (n:=n) (l:=l[i]) hn2 (by omega)
   refine bg ⟨w,hw,gT (gN (by omega) (by decide)) ?_⟩
   exact ih (i+1) m (a++w) (by omega) (by omega) (by rw[List.length_append];omega)
 obtain⟨r,hr,e⟩:=h3 l.length 0 n r2 (by omega) hn (by omega)
 exact bg ⟨r,bs hr2 (bs hr rfl),cB e⟩
theorem au5 {n:Nat} {e:Entry} (h:jF e.Vec e.aI) (hn:2^20<n):∃r:List Int,AP n e=some r∧r.length≤2^15:=by
 obtain⟨h1,h2,h3⟩:=h
 rw[agD]
 obtain⟨r2,hr2,l2⟩:=au0 (n:=n) (ls:=[[e.ID,e.bU,e.dY,e.fQ,e.From,e.To,e.dJ,((e.Vec.length:Nat):Int)],e.Vec,[((e.aI.length:Nat):Int)]])
  (by simp only[gH,List.foldr,List.length_cons,List.length_nil];omega) (by simp only[List.length_cons,List.length_nil];omega) (by simp only[List.length_cons,List.length_nil];omega)
 have l2':r2.length≤49:=by rw[l2];simp only[gH,List.foldr,List.length_cons,List.length_nil];omega
 refine bg ⟨r2,hr2, ?_⟩
 have h4:∀(k i m:Nat) (a:List Int) (b:List (List UInt8)),i+k=e.aI.length→k<m→a.length≤49+2*i→b.length≤2*i→(∀x∈b,x.length≤300)→
  ∃r,BA n e m (a,(b,(i:Int)))=some r∧(r.1.length≤89∧r.2.length≤40∧∀x∈r.2,x.length≤300):=by
  intro k
  induction k with
  |zero=>
   intro i m a b hi hm ha hb hx
   obtain⟨m,rfl⟩:∃m',m=m'+1:=⟨m-1,by omega⟩
   rw[RZ,eT (by omega)]
   exact cB ⟨by show a.length≤89;omega,by show b.length≤40;omega,hx⟩
  |succ k ih=>
   intro i m a b hi hm ha hb hx
   obtain⟨m,rfl⟩:∃m',m=m'+1:=⟨m-1,by omega⟩
   have hlt:i<e.aI.length:=by omega
   have hg:e.aI[i]? =some e.aI[i]:=List.getElem?_eq_getElem hlt
   obtain⟨y1,y2⟩:=h3 _ (List.getElem_mem hlt)
   rw[RZ,eD hg,dw hg,dx (by omega),cond_true,Option.bind_some]
   refine gT (gN (by simp only[List.length_cons,List.length_nil];omega) (by decide)) (gT (gN (by simp only[List.length_cons,List.length_nil];omega) (by decide)) ?_)
   refine ih (i+1) m _ _ (by omega) (by omega) (by rw[List.length_append,List.length_cons,List.length_cons,List.length_nil];omega) (by rw[List.length_append,List.length_cons,List.length_cons,List.length_nil];omega) (fun x hx'=> ?_)
   rcases List.mem_append.1 hx' with hx'|hx'
   ·exact hx x hx'
   ·rcases List.mem_cons.1 hx' with rfl|hx'
    ·exact y1
    ·rcases List.mem_cons.1 hx' with rfl|hx'
     ·exact y2
     ·cases hx'
 obtain⟨r7,Y3,a7,b7,c7⟩:=h4 e.aI.length 0 n r2 [] (by omega) (by omega) (by omega) (by simp) (fun x hx=>absurd hx List.not_mem_nil)
 refine bg ⟨r7,Y3, ?_⟩
 obtain⟨r8,K7,l8⟩:=au2 (n:=n) (l:=r7.1) (by omega) (by omega) (by omega)
 obtain⟨r9,K8,l9⟩:=au3 (n:=n) (l:=r7.2) (by omega) c7 (by omega) (by omega)
 refine bg ⟨r8,K7,bg ⟨r9,K8, ?_⟩⟩
 obtain⟨r,hr,l⟩:=au1 (n:=n) (ls:=[r8,r9]) (by simp only[gH,List.foldr];omega) (by simp only[List.length_cons,List.length_nil];omega) (by simp only[List.length_cons,List.length_nil];omega)
 refine bg ⟨r,hr,cB ?_⟩
 rw[l];simp only[gH,List.foldr];omega
theorem au7 {n:Nat} {e:Entry} (h:jF e.Vec e.aI) (hn:2^20<n):∃r:au,A8 n e=some r∧True:=by
 rw[agK]
 obtain⟨r,hr,l⟩:=au5 h hn
 obtain⟨d,hd,_⟩:=auq (n:=n) (t:=14) (ls:=[List.map (fun n:Int=>UInt8.ofNat n.toNat) r]) hn (by simp only[szB,List.length_map];omega) (by simp only[szB,List.length_map];omega)
 exact bg ⟨r,hr,bg ⟨d,hd,cB trivial⟩⟩
theorem au8 {n:Nat} {r:Row} (h:jF r.Entry.Vec r.Entry.aI) (hn:2^20<n):∃d:au,uP n r=some (⟨r.Entry.ID,r.Entry.bU,r.Entry.dJ,r.dF,d⟩:Gone):=by
 rw[agL]
 obtain⟨d,hd,_⟩:=au7 h hn
 exact⟨d,bs hd rfl⟩
end Sh
end
section
open Go Go.Proofs Aq
namespace Sh
def lQ {α:Type} (o:Option α) (P:α→Prop):Prop:=∀r,o=some r→P r
theorem vD {α:Type} {P:α→Prop}:lQ none P:=fun _ h=>by cases h
theorem jT {α:Type} {P:α→Prop} {x:α} (h:P x):lQ (some x) P:=fun r hr=>by cases hr;exact h
theorem kG {α β:Type} {P:β→Prop} {o:Option α} {k:α→Option β} (h:∀a,o=some a→lQ (k a) P):lQ (o.bind k) P:=fun r hr=>by
 obtain⟨a,h1,h2⟩:=Option.bind_eq_some_iff.1 hr
 exact h a h1 r h2
theorem ig {α:Type} {P:α→Prop} {c:Bool} {x y:Option α} (h1:c=true→lQ x P) (h2:c=false→lQ y P):lQ (bif c then x else y) P:=by
 cases c
 ·exact h2 rfl
 ·exact h1 rfl
def DP (b:Book) (e:Event) (r:aU):Prop:=r.E=0→r.B.dn=b.dn++[e.Day]
theorem qG {b:Book} {e:Event} {k:Int} (h:k≠0):DP b e ⟨b,k⟩:=fun h'=>absurd h' h
theorem aie {b:Book} {e:Event} {k:Int} (h:(k !=0)=true):DP b e ⟨b,k⟩:=qG (by simpa using h)
theorem Lb {n:Nat} {b:Book} {e:Event} {l:List Row} {to:List bQ} {more:Entry}:lQ (rH n (b,(e,(l,(to,more))))) (DP b e):=by
 rw[X4]
 refine kG fun _ _=>kG fun _ _=>ig (fun _=>kG fun _ _=>ig (fun h=>jT (aie h)) fun _=>ig (fun _=>ig (fun _=>jT (qG (by decide))) fun _=> ?_) fun _=>vD) (fun _=>ig (fun _=>jT (qG (by decide))) fun _=> ?_)
 ·exact ig (fun _=>ig (fun _=>ig (fun _=>ig (fun _=>jT fun _=>rfl) fun _=>vD) fun _=>vD) fun _=>vD) fun _=>vD
 ·exact ig (fun _=>ig (fun _=>ig (fun _=>ig (fun _=>jT fun _=>rfl) fun _=>vD) fun _=>vD) fun _=>vD) fun _=>vD
theorem wR {α:Type} {P:α→Prop} {o:Option α} (h:lQ o P):lQ (o.bind fun r=>some r) P:=kG fun a ha=>jT (h a ha)
theorem au9 {n:Nat} {b:Book} {e:Event}:lQ (Aw n (b,e)) (DP b e):=by
 rw[X5]
 exact kG fun _ _=>ig (fun _=>jT (qG (by decide))) fun _=>kG fun _ _=>ig (fun h=>jT (aie h)) fun _=>wR Lb
theorem ava {n:Nat} {b:Book} {e:Event} {l:List Row}:lQ (qx n (b,(e,l))) (DP b e):=by
 rw[X7]
 exact kG fun _ _=>kG fun _ _=>ig (fun _=>jT (qG (by decide))) fun _=>kG fun _ _=>kG fun _ _=>kG fun _ _=>wR Lb
theorem avb {n:Nat} {b:Book} {e:Event} {l:List Row}:lQ (qy n (b,(e,l))) (DP b e):=by
 rw[X9]
 exact ig (fun _=>kG fun _ _=>ig (fun _=>jT (qG (by decide))) fun _=>kG fun _ _=>wR Lb) fun _=>jT (qG (by decide))
theorem avc {n:Nat} {b:Book} {e:Event} {l:List Row}:lQ (qz n (b,(e,l))) (DP b e):=by
 rw[Yb]
 exact kG fun _ _=>ig (fun _=>jT (qG (by decide))) fun _=>ig (fun _=>kG fun _ _=>ig (fun _=>jT (qG (by decide))) fun _=>kG fun _ _=>wR Lb) fun _=>jT (qG (by decide))
theorem avd {n:Nat} {b:Book} {e:Event}:lQ (yC n (b,e)) (DP b e):=by
 rw[Yc]
 have live:lQ ((rJ n ((b,e.ID))).bind fun (r5:List Row)=>
          bif (((r5.length:Nat):Int))==((0:Int)) then
           some ((⟨b,(5:Int)⟩:aU))
          else
           bif e.Kind==((2:Int)) then
            (qx n ((b,(e,r5)))).bind fun (r6:aU)=>
            some r6
           else
            bif e.Kind==((3:Int)) then
             (qy n ((b,(e,r5)))).bind fun (r7:aU)=>
             some r7
            else
             (qz n ((b,(e,r5)))).bind fun (r8:aU)=>
             some r8) (DP b e):=
  kG fun _ _=>ig (fun _=>jT (qG (by decide))) fun _=>ig (fun _=>wR ava) fun _=>ig (fun _=>wR avb) fun _=>wR avc
 exact ig (fun _=>jT (qG (by decide))) fun _=>ig (fun _=>wR au9) fun _=>ig (fun _=>wR Lb) fun _=>ig (fun _=>live) fun _=>ig (fun _=>live) fun _=>ig (fun _=>live) fun _=>jT (qG (by decide))
def SI (l:List Event) (b:Book):Prop:=∃i,i≤l.length∧b.dn=(l.take i).map (·.Day)
theorem ave {n:Nat} {s:aF} {l:List Event} (hb:l.length<2^62):lQ (yD n (s,l)) fun r=>SI l r.B:=by
 have key:∀(m i:Nat) (f:dH) (bk:aU),i≤l.length→(bk.E=0→bk.B.dn=(l.take i).map (·.Day))→lQ (yZ n l m ((i:Int),(f,bk))) (fun q=>match q with
  |.inl q=>q.2.2.E=0→SI l q.2.2.B
  |.inr q=>SI l q.2.B):=by
  intro m
  induction m with
  |zero=>intro i f bk _ _;rw[agq];exact vD
  |succ m ih=>
   intro i f bk hi hd
   rw[RN]
   refine ig (fun hlt=> ?_) (fun _=>jT fun hz=>⟨i,hi,hd hz⟩)
   have hlt2:i<l.length∧bk.E=0:=by simpa using hlt
   have hlt':=hlt2.1
   have hD:=hd hlt2.2
   refine kG fun x hx=>kG fun r hr=> ?_
   have hx':l[i]? =some x:=by rw[ze] at hx;exact hx
   have hap:=avd r hr
   refine ig (fun _=>jT ⟨i,hi,hD⟩) (fun _=> ?_)
   rw[dx (by omega)]
   refine ih (i+1) f r (by omega) fun h0=> ?_
   rw[hap h0,hD,List.take_add_one,hx',List.map_append]
   rfl
 rw[Yd]
 refine kG fun nw hnw=>kG fun q hq=> ?_
 have hnd:nw.E=0→nw.B.dn=[]:=by
  have:lQ (Ar n s) (fun r=>r.E=0→r.B.dn=[]):=by
   rw[XZ]
   exact kG fun (e:Int) _=>ig (fun h=>jT fun h0=>by
    have h3:e=(0:Int):=h0
    have h4:(e !=(0:Int))=true:=h
    simp[h3] at h4) (fun _=>jT fun _=>rfl)
  exact this nw hnw
 have:=key n 0 _ nw (Nat.zero_le _) (fun h=>by rw[hnd h];rfl) q hq
 cases q with
 |inl q=>
  exact ig (fun _=>jT ⟨0,Nat.zero_le _,rfl⟩) (fun hz=>jT (this (by simpa using hz)))
 |inr q=>exact jT this
end Sh
end
section
open Go Go.Proofs Aq
namespace Sh
structure BF (n:Nat) (l:List Event) (b:Book):Prop where
 commit:b.aH=((b.dn.length:Nat):Int)
 days:b.dn.length≤2^30
 rows:b.Rows.length≤65536
 row:∀r∈b.Rows,kS n b.aH r
 ev:∀(k:Nat) day,b.dn[k]? =some day→∃e,l[k]? =some e∧e.Day=day
theorem avf {n:Nat} {s:aF} {l:List Event} {r:dH} (h:YC n s r) (hd:SI l r.B):BF n l r.B:=by
 have hev:∀(k:Nat) day,r.B.dn[k]? =some day→∃e,l[k]? =some e∧e.Day=day:=by
  obtain⟨i,hi,hd⟩:=hd
  intro k day hk
  rw[hd,List.getElem?_map] at hk
  simp only[Option.map_eq_some_iff] at hk
  obtain⟨e,he,rfl⟩:=hk
  have hlt:k< (l.take i).length:=by
   rw[List.getElem?_eq_some_iff] at he;exact he.1
  rw[List.getElem?_take_of_lt (by simp at hlt;omega)] at he
  exact⟨e,he,rfl⟩
 rcases h with h|h
 ·exact⟨h.commit,h.days,h.rows,h.row,hev⟩
 ·refine⟨?_, ?_, ?_, ?_,hev⟩
  ·rw[h];rfl
  ·rw[h];exact Nat.zero_le _
  ·rw[h];exact Nat.zero_le _
  ·rw[h];exact fun x (hx:x∈([]:List Row))=>absurd hx List.not_mem_nil
theorem avg {n:Nat} {s:aF} {l:List Event} (hn:2^20<n) (hs:pJ s n) (hl:l.length<n) (hb:l.length<2^62) (he:∀e∈l,Si e n):
 ∃(b:Book) (ok:Bool),Az n (s,l)=some (b,ok)∧(ok=true→BF n l b):=by
 rw[agr]
 obtain⟨f,hf⟩:=as9 (k:=25) (show ahj l n from ⟨hl,hb,fun x hx=>⟨(he x hx).2.2.1,(he x hx).2.2.2⟩⟩)
 obtain⟨d,hd⟩:=as8 (k:=6) hs
 obtain⟨c,hc⟩:=ahi hs (by omega)
 cases f with
 |false=>refine⟨_,_,bs hf (bs (a:=false) (by rw[hd];rfl) rfl),fun h=>by cases h⟩
 |true=>
  cases d with
  |false=>refine⟨_,_,bs hf (bs (a:=false) (by rw[hd];rfl) rfl),fun h=>by cases h⟩
  |true=>
   obtain⟨r,hr,hfi⟩:=atq hn hs hl hb (atv hb he hf)
   exact⟨_,_,bs hf (bs (a:=true) (by rw[hd];rfl) (bs hr (bs hc rfl))),fun _=>avf hfi (ave hb r hr)⟩
end Sh
end
section
open Go Go.Proofs Aq
namespace Sh
abbrev ieq:=eH R (Ty.int IntKind.i64)
theorem Lc (a b:Int):ieq a b=(a==b):=rfl
theorem aif (x y v:Int):∀m:List (Int×Int),iZ ieq y (kP ieq x v m)=if y=x then some v else iZ ieq y m
 | []=>by
   show (bif ieq y x then some v else none)=_
   rw[Lc]
   by_cases e:y=x
   ·rw[if_pos e,e];simp
   ·have h:(y==x)=false:=by simpa using e
    rw[if_neg e,h];rfl
 | (a,w)::m=>by
   have ih:=aif x y v m
   show iZ ieq y (bif ieq x a then (x,v)::m else (a,w)::kP ieq x v m)=if y=x then some v else (bif ieq y a then some w else iZ ieq y m)
   rw[Lc,Lc]
   by_cases h:x=a
   ·subst h
    rw[beq_self_eq_true,cond_true]
    show (bif ieq y x then some v else iZ ieq y m)=_
    rw[Lc]
    by_cases e:y=x
    ·subst e;simp
    ·have h:(y==x)=false:=by simpa using e
     rw[if_neg e,h];rfl
   ·have hx:(x==a)=false:=by simpa using h
    rw[hx,cond_false]
    show (bif ieq y a then some w else iZ ieq y (kP ieq x v m))=_
    rw[ih,Lc]
    by_cases e:y=a
    ·subst e
     have:¬y=x:=fun e=>h e.symm
     simp[this]
    ·have h2:(y==a)=false:=by simpa using e
     rw[h2];rfl
def lS:List (Int×Int)→List Row→List (Int×Int)
 |m,[]=>m
 |m,r::l=>lS (kP ieq r.Entry.ID (imax (nG 0 (iZ ieq r.Entry.ID m)) r.Entry.bU) m) l
def iV (m:List (Int×Int)) (id:Int):Int:=nG 0 (iZ ieq id m)
theorem Y4 (m:List (Int×Int)) (x v y:Int):iV (kP ieq x v m) y=if y=x then v else iV m y:=by
 have h:nG (0:Int) (iZ ieq y (kP ieq x v m))=nG (0:Int) (if y=x then some v else iZ ieq y m):=congrArg (nG (0:Int)) (aif x y v m)
 refine h.trans ?_
 split<;>rfl
theorem aii:∀(l:List Row) (m:List (Int×Int)) (y:Int),iV m y≤iV (lS m l) y
 | [],m,y=>Int.le_refl _
 |r::l,m,y=>by
  refine Int.le_trans ?_ (aii l _ y)
  rw[Y4]
  split
  ·rename_i e;rw[e];show iV m r.Entry.ID≤imax (iV m r.Entry.ID) r.Entry.bU
   unfold imax;split<;>omega
  ·exact Int.le_refl _
theorem aij:∀(l:List Row) (m:List (Int×Int)) (r:Row),r∈l→r.Entry.bU≤iV (lS m l) r.Entry.ID
 |x::l,m,r,h=>by
  rcases List.mem_cons.1 h with rfl|h
  ·refine Int.le_trans ?_ (aii l _ _)
   rw[Y4,if_pos rfl]
   show r.Entry.bU≤imax (iV m r.Entry.ID) r.Entry.bU
   unfold imax;split<;>omega
  ·exact aij l _ r h
theorem aik:∀(l:List Row) (m:List (Int×Int)) (y:Int),iV (lS m l) y=iV m y∨∃r∈l,r.Entry.ID=y∧r.Entry.bU=iV (lS m l) y
 | [],m,y=>.inl rfl
 |x::l,m,y=>by
  rcases aik l (kP ieq x.Entry.ID (imax (nG 0 (iZ ieq x.Entry.ID m)) x.Entry.bU) m) y with h| ⟨r,hr,h1,h2⟩
  ·rw[Y4] at h
   by_cases e:y=x.Entry.ID
   ·rw[if_pos e] at h
    have h':iV (lS m (x::l)) y=imax (iV m x.Entry.ID) x.Entry.bU:=h
    rw[h']
    by_cases hm:iV m x.Entry.ID<x.Entry.bU
    ·right
     refine⟨x,List.mem_cons_self ..,e.symm, ?_⟩
     unfold imax;split<;>omega
    ·left
     rw[e];unfold imax;split<;>omega
   ·rw[if_neg e] at h
    exact .inl h
  ·exact .inr ⟨r,List.mem_cons_of_mem _ hr,h1,h2⟩
def ji (last:Int→Int) (f:Int) (r:Row):Bool:=decide (r.dF≥1)&& decide (r.dF≤f)&& decide (r.Entry.bU<last r.Entry.ID)
theorem ail {n:Nat} {l:List Row} (hn:l.length<n) (hb:l.length<2^62):Ee n l=some (lS [] l):=by
 rw[asa]
 have h3:∀(k i m:Nat) (o:List (Int×Int)),i+k=l.length→k<m→KC n l m ((i:Int),o)=some ((),lS o (l.drop i)):=by
  intro k
  induction k with
  |zero=>
   intro i m o hi hm
   obtain⟨m,rfl⟩:∃m',m=m'+1:=⟨m-1,by omega⟩
   rw[ags,eT (by omega),List.drop_eq_nil_of_le (by omega)]
   rfl
  |succ k ih=>
   intro i m o hi hm
   obtain⟨m,rfl⟩:∃m',m=m'+1:=⟨m-1,by omega⟩
   have hlt:i<l.length:=by omega
   have hx:l[i]? =some l[i]:=List.getElem?_eq_getElem hlt
   rw[ags,eD hx,dw hx,dx (by omega),cond_true,Option.bind_some,ih (i+1) m _ (by omega) (by omega),List.drop_eq_getElem_cons hlt]
   rfl
 have:=h3 l.length 0 n [] (by omega) hn
 exact bs this rfl
theorem ain {n:Nat} {r:Row} {f:Int} {m:List (Int×Int)}:AA n (r,(f,m))=some (ji (iV m) f r):=by
 rw[asb]
 unfold ji iV
 cases decide (r.dF≥1)<;>cases decide (r.dF≤f)<;>rfl
theorem avh {n:Nat} {l:List Row} {f:Int} {mp:List (Int×Int)} (hn:l.length<n) (hb:l.length≤65536):
 Ef n (l,((),(f,mp)))=some (l.filter (ji (iV mp) f),l.filter fun r=> !ji (iV mp) f r):=by
 rw[asc]
 have h3:∀(k i m:Nat) (a b:List Row),i+k=l.length→k<m→a.length≤i→b.length≤i→EN n l f mp m (a,(b,(i:Int)))=some (a++(l.drop i).filter (ji (iV mp) f),b++(l.drop i).filter fun r=> !ji (iV mp) f r):=by
  intro k
  induction k with
  |zero=>
   intro i m a b hi hm ha hb'
   obtain⟨m,rfl⟩:∃m',m=m'+1:=⟨m-1,by omega⟩
   rw[agu,eT (by omega),List.drop_eq_nil_of_le (by omega)]
   simp
  |succ k ih=>
   intro i m a b hi hm ha hb'
   obtain⟨m,rfl⟩:∃m',m=m'+1:=⟨m-1,by omega⟩
   have hlt:i<l.length:=by omega
   have hx:l[i]? =some l[i]:=List.getElem?_eq_getElem hlt
   rw[agu,eD hx,dw hx,dx (by omega),cond_true,Option.bind_some,List.drop_eq_getElem_cons hlt]
   refine bs ain ?_
   rw[List.filter_cons,List.filter_cons]
   cases hg:ji (iV mp) f l[i] with
   |true=>
    rw[cond_true,gN (by simp only[List.length_cons,List.length_nil];omega) (by decide),cond_true,ih (i+1) m _ _ (by omega) (by omega) (by rw[List.length_append,List.length_cons,List.length_nil];omega) (by omega)]
    simp
   |false=>
    rw[cond_false,gN (by simp only[List.length_cons,List.length_nil];omega) (by decide),cond_true,ih (i+1) m _ _ (by omega) (by omega) (by omega) (by rw[List.length_append,List.length_cons,List.length_nil];omega)]
    simp
 have:=h3 l.length 0 n [] [] (by omega) hn (by simp) (by simp)
 exact bs this rfl
noncomputable def Ld (n:Nat) (r:Row):Gone:=((uP n r).getD ⟨0,0,0,0,⟨0,0,0,0,0,0,0,0,0,0,0,0,0,0,0,0⟩⟩:Gone)
theorem aio {n:Nat} {r:Row} (h:jF r.Entry.Vec r.Entry.aI) (hn:2^20<n):uP n r=some (Ld n r):=by
 obtain⟨d,hd⟩:=au8 h hn
 unfold Ld;rw[hd];rfl
theorem avi {n:Nat} {b:Book} {f:Int} (hn:2^20<n) (hb:b.Rows.length≤65536) (ht:∀r∈b.Rows,jF r.Entry.Vec r.Entry.aI) (h0:0≤f) (h1:f≤b.aH):
 uQ n (b,f)=some ((⟨b.aF,b.aH,b.Day,b.dn,b.Rows.filter fun r=> !ji (iV (lS [] b.Rows)) f r⟩:Book),((b.Rows.filter (ji (iV (lS [] b.Rows)) f)).map (Ld n),(0:Int))):=by
 rw[agN,decide_eq_false (by omega),cond_false,decide_eq_false (by omega),cond_false]
 have hf:yF n (b,f)=some ((),(f,lS [] b.Rows)):=by
  rw[agt];exact bs (ail (by omega) (by omega)) rfl
 refine bs hf (bs (avh (by omega) hb) ?_)
 have h6:∀(r4:List Row×List Row),r4.1.length≤65536→(∀r∈r4.1,jF r.Entry.Vec r.Entry.aI)→∀(k i m:Nat) (a:List Gone),i+k=r4.1.length→k<m→a.length≤i→KE n b r4 m (a,(i:Int))=some (a++(r4.1.drop i).map (Ld n)):=by
  intro r4 hl hr k
  induction k with
  |zero=>
   intro i m a hi hm ha
   obtain⟨m,rfl⟩:∃m',m=m'+1:=⟨m-1,by omega⟩
   rw[agM,eT (by omega),List.drop_eq_nil_of_le (by omega)]
   simp
  |succ k ih=>
   intro i m a hi hm ha
   obtain⟨m,rfl⟩:∃m',m=m'+1:=⟨m-1,by omega⟩
   have hlt:i<r4.1.length:=by omega
   have hx:r4.1[i]? =some r4.1[i]:=List.getElem?_eq_getElem hlt
   rw[agM,eD hx,dw hx,dx (by omega),cond_true,Option.bind_some,List.drop_eq_getElem_cons hlt]
   refine bs (aio (hr _ (List.getElem_mem hlt)) hn) ?_
   rw[gN (by simp only[List.length_cons,List.length_nil];omega) (by decide),cond_true,ih (i+1) m _ (by omega) (by omega) (by rw[List.length_append,List.length_cons,List.length_nil];omega),List.map_cons,List.append_assoc]
   rfl
 have hlen:(b.Rows.filter (ji (iV (lS [] b.Rows)) f)).length≤65536:=Nat.le_trans (List.length_filter_le _ _) hb
 have:=h6 (b.Rows.filter (ji (iV (lS [] b.Rows)) f),b.Rows.filter fun r=> !ji (iV (lS [] b.Rows)) f r) hlen (fun r hr=>ht r (List.mem_filter.1 hr).1) (b.Rows.filter (ji (iV (lS [] b.Rows)) f)).length 0 n [] (by show 0+_=(b.Rows.filter (ji (iV (lS [] b.Rows)) f)).length;omega) (by omega) (by simp)
 exact bs this rfl
end Sh
end
