/- Part of the proof of a law. -/
import Derived.ChangeCalls
import Derived.Test.YteniejlbjfigdaaGreatDoorX17
import Derived.Test.YteniejlbjfigdaaGreatDoorX18
import Derived.Test.YteniejlbjfigdaaGreatDoorX26
set_option linter.all false
set_option linter.unusedSimpArgs false
set_option linter.unusedSectionVars false
section
namespace Go.Proofs.YteniejlbjfigdaaGreatDoor.floors
open Go Go.ChangeShapes Go.WideShapes Go.ChangeAt Go.RowKit Aq Sh
set_option maxRecDepth 100000
theorem anU {l:List V} {v:V} (h:v∈l):gq v≤jc l:=by
 induction l with
 |nil=>cases h
 |cons x l ih=>
  rcases List.mem_cons.1 h with rfl|h
  ·show gq v≤gq v+jc l;omega
  ·have:=ih h
   show gq v≤gq x+jc l;omega
theorem TY {α:Type} (f:α→V) {l:List α} {x:α} (h:x∈l):gq (f x)≤jc (l.map f):=anU (List.mem_map_of_mem h)
theorem JU {α:Type} (f:α→V) (hf:∀x,1≤gq (f x)) (l:List α):l.length≤jc (l.map f):=by
 induction l with
 |nil=>exact Nat.zero_le _
 |cons x l ih=>
  have:=hf x
  show l.length+1≤gq (f x)+jc (l.map f)
  omega
mutual
theorem anV:∀p:Sh.Pred,iT p≤gq (Pred.vr p)
 | ⟨op,name,n,m,s,subs⟩=>by
   have:=acP subs
   simp only[iT,Pred.vr,gq,jc]
   omega
theorem acP:∀l:List Sh.Pred,oQ l≤jc (Pred.vl l)
 | []=>Nat.zero_le _
 |p::l=>by
  have:=anV p
  have:=acP l
  simp only[oQ,Pred.vl,jc]
  omega
end
theorem acQ (d:Def):d.Name.length+d.Words.length+1≤gq (Def.v d)∧∀w∈d.Words,w.length+1≤gq (Def.v d):=by
 have e:gq (Def.v d)=(d.Name.length+1)+(1+(1+(1+(jc (d.Words.map V.str)+1+0)))):=rfl
 have h1:=JU V.str (fun x=>by simp[gq]) d.Words
 refine⟨by omega,fun w hw=> ?_⟩
 have h2:=TY V.str hw
 have h3:gq (V.str w)=w.length+1:=rfl
 omega
theorem anW {s:aD} {n k:Nat} (h:gq (aD.v s)≤k) (hk:k<n) (hk2:k<2^62):mD s n:=by
 have e:gq (aD.v s)=1+(1+(jc (s.Defs.map Def.v)+1+0)):=rfl
 have h1:=JU Def.v (fun x=>by have:=(acQ x).1;omega) s.Defs
 refine⟨by omega,by omega,fun d hd=> ?_⟩
 have h2:=TY Def.v hd
 have h3:=acQ d
 have h4:=h3.1
 refine⟨by omega,by omega,by omega,by omega,fun w hw=> ?_⟩
 have:=h3.2 w hw
 exact⟨by omega,by omega⟩
theorem acR (e:Sh.Event):e.Vec.length+e.aM.length+1≤gq (Event.v e):=by
 have h1:=JU iv (fun x=>Nat.le_refl _) e.Vec
 have h2:=JU Attr.v (fun x=>by show 1≤(x.Name.length+1)+_;omega) e.aM
 obtain⟨m,hm⟩:∃m,gq (Event.v e)=1+(1+(1+(1+(1+(1+(1+(jc (e.Vec.map iv)+1+(jc (e.aM.map Attr.v)+1+m)))))))):=⟨_,rfl⟩
 omega
theorem anX {l:List Sh.Event} {n k:Nat} (h:jc (l.map Event.v)+1≤k) (hk:k<n) (hk2:k<2^62):l.length<n∧l.length<2^62∧∀e∈l,N7 e n:=by
 have h1:=JU Event.v (fun x=>by have:=acR x;omega) l
 refine⟨by omega,by omega,fun x hx=> ?_⟩
 have h2:=TY Event.v hx
 have h3:=acR x
 exact⟨by omega,by omega,by omega,by omega⟩
end Go.Proofs.YteniejlbjfigdaaGreatDoor.floors
end
section
open Go Go.Proofs Aq
namespace Sh
theorem gT {α:Type} {P:α→Prop} {c:Bool} {o:Option α} (h:c=true) (ho:∃r,o=some r∧P r):∃r,(bif c then o else none)=some r∧P r:=by rw[h];exact ho
theorem qh {i:Int} {n:Nat} (h:0≤i∧i<n):eO i n=true:=decide_eq_true h
theorem T9 {i:Int} {n:Nat} (h:0≤i∧i≤n):jL i n=true:=decide_eq_true h
def rotl (x k:Int):Int:=Gl IntKind.u32 (Me IntKind.u32 x (nW IntKind.u64 (IntKind.wrap IntKind.u64 k) 31)) (oN IntKind.u32 x (IntKind.wrap IntKind.u64 (32-nW IntKind.u64 (IntKind.wrap IntKind.u64 k) 31)))
theorem Od (x:Int):0≤IntKind.wrap IntKind.u64 x:=by rw[IntKind.wrap_u64];exact Int.emod_nonneg _ (by decide)
theorem y7 (n:Nat) (x k:Int):p9 n (x,k)=some (rotl x k):=by
 rw[alN,decide_eq_true (show (0:Int)≤nW IntKind.u64 (IntKind.wrap IntKind.u64 k) 31 from Od _),decide_eq_true (Od _)]
 rfl
def anY (x a b c:Int):Int:=mo IntKind.u32 (mo IntKind.u32 (rotl x (IntKind.wrap IntKind.i64 (0-a))) (rotl x (IntKind.wrap IntKind.i64 (0-b)))) (rotl x (IntKind.wrap IntKind.i64 (0-c)))
theorem acS (n:Nat) (x a b c:Int):yF n (x,(a,(b,c)))=some (anY x a b c):=by
 rw[alR,y7,y7,y7]
 rfl
theorem y8 {i:Int} (h0:0≤i) (h:i<2^62):IntKind.wrap .i64 (i+(1:Int))=i+1:=by rw[IntKind.wrap_i64];omega
theorem lS {i:Int} (h0: -(2^62)≤i) (h:i<2^62):IntKind.wrap .i64 i=i:=by rw[IntKind.wrap_i64];omega
theorem anZ {n:Nat} {x1:List Int} {x2:Int} (h:x1.length=64) (h0:0≤x2) (h1:x2<16) (hn:100<n) (v:Vec 64):∃r,Ef n x1 x2 n (0,v)=some r∧True:=by
 refine qg (L:=fun m p=>Ef n x1 x2 m p) (fun p=>0≤p.1∧p.1≤64) (fun p=>(64-p.1).toNat) (fun _=>True) ?_ n (0,v) ⟨Int.le_refl 0,(by decide:(0:Int)≤64)⟩ (by show (64-(0:Int)).toNat<n;omega)
 rintro m ⟨x4,x5⟩ ⟨ha,hb⟩ ih
 dsimp only at ha hb ih⊢
 rw[alO]
 generalize hl:List.drop _ (List.take _ x1)=l
 have hlen:l.length≤64:=by rw[←hl,List.length_drop,List.length_take];omega
 refine eP (fun hc=> ?_) (fun _=>bZ trivial)
 obtain⟨y,hy⟩:=abV ha hc
 have hc':=of_decide_eq_true hc
 refine aW ⟨y,hy, ?_⟩
 refine gT (qh ⟨by omega,by omega⟩) (gT (by decide) (gT (qh ⟨by omega,by omega⟩) ?_))
 rw[y8 ha (by omega)]
 exact ih _ ⟨by show 0≤x4+1;omega,by show x4+1≤64;omega⟩ (by show (64-(x4+1)).toNat< (64-x4).toNat;omega)
theorem an0 {n:Nat} {x1:List Int} (h:x1.length=64) (hn:100<n):∃r:Vec 64,CS n x1=some r∧True:=by
 rw[alQ]
 refine aW (?_:∃x,uJ n x1 n (0,Vec.rep 64 0)=some x∧_)
 have:∃r,uJ n x1 n (0,Vec.rep 64 0)=some r∧True:=by
  refine qg (L:=fun m p=>uJ n x1 m p) (fun p=>0≤p.1∧p.1≤64) (fun p=>(64-p.1).toNat) (fun _=>True) ?_ n _ ⟨Int.le_refl 0,(by decide:(0:Int)≤64)⟩ (by show (64-(0:Int)).toNat<n;omega)
  rintro m ⟨x2,x3⟩ ⟨ha,hb⟩ ih
  dsimp only at ha hb ih⊢
  rw[alP]
  refine eP (fun hc=> ?_) (fun _=>bZ trivial)
  have hc':=of_decide_eq_true hc
  rw[y8 ha (by omega)]
  have ih':∀w,∃r,uJ n x1 m (x2+1,w)=some r∧True:=fun w=>ih _ ⟨by show 0≤x2+1;omega,by show x2+1≤64;omega⟩ (by show (64-(x2+1)).toNat< (64-x2).toNat;omega)
  refine eP (fun hd=> ?_) (fun hd=> ?_)
  ·have hd':=of_decide_eq_true hd
   refine gT ?_ ?_
   ·rw[Bool.and_eq_true,lS (i:=4*x2) (by omega) (by omega),lS (i:=4*x2+4) (by omega) (by omega)]
    exact⟨T9 ⟨by omega,by omega⟩,T9 ⟨by omega,by omega⟩⟩
   ·obtain⟨r,hr,_⟩:=anZ h ha hd' hn x3
    exact aW ⟨r,hr,ih' _⟩
  ·have hd':=of_decide_eq_false hd
   rw[lS (i:=x2-15) (by omega) (by omega),lS (i:=x2-2) (by omega) (by omega),lS (i:=x2-16) (by omega) (by omega),lS (i:=x2-7) (by omega) (by omega)]
   refine gT (qh ⟨by omega,by omega⟩) (gT (qh ⟨by omega,by omega⟩) ?_)
   refine aW ⟨_,y7 _ _ _,aW ⟨_,y7 _ _ _,gT (by decide) (aW ⟨_,y7 _ _ _,aW ⟨_,y7 _ _ _,gT (by decide) ?_⟩⟩)⟩⟩
   exact gT (qh ⟨by omega,by omega⟩) (gT (qh ⟨by omega,by omega⟩) (gT (qh ⟨by omega,by omega⟩) (ih' _)))
 obtain⟨r,hr,_⟩:=this
 exact⟨r,hr,bZ trivial⟩
theorem an1 {n:Nat} {h:Vec 8} {b:List Int} (hb:b.length=64) (hn:100<n):∃r:Vec 8,CX n (h,b)=some r∧True:=by
 rw[alU]
 obtain⟨w,hw,_⟩:=an0 hb hn
 refine aW ⟨w,hw, ?_⟩
 refine gT (by decide) (gT (by decide) (gT (by decide) (gT (by decide) ?_)))
 refine aW (?_:∃x,yR n h w n _=some x∧_)
 have h4:∀p,∃r,yR n h w n (0,p)=some r∧True:=by
  intro p
  refine qg (L:=fun m p=>yR n h w m p) (fun p=>0≤p.1∧p.1≤64) (fun p=>(64-p.1).toNat) (fun _=>True) ?_ n _ ⟨Int.le_refl 0,(by decide:(0:Int)≤64)⟩ (by show (64-(0:Int)).toNat<n;omega)
  rintro m ⟨x4,x5,x6⟩ ⟨ha,hb⟩ ih
  dsimp only at ha hb ih⊢
  rw[alS]
  refine eP (fun hc=> ?_) (fun _=>bZ trivial)
  have hc':=of_decide_eq_true hc
  rw[y8 ha (by omega)]
  refine gT (qh ⟨by omega,by omega⟩) ?_
  repeat refine gT (by decide) ?_
  refine aW ⟨_,acS _ _ _ _ _, ?_⟩
  repeat refine gT (by decide) ?_
  refine gT (qh ⟨by omega,by omega⟩) ?_
  repeat refine gT (by decide) ?_
  refine aW ⟨_,acS _ _ _ _ _, ?_⟩
  repeat refine gT (by decide) ?_
  exact ih _ ⟨by show 0≤x4+1;omega,by show x4+1≤64;omega⟩ (by show (64-(x4+1)).toNat< (64-x4).toNat;omega)
 have h12:∀r9 v,∃r,Eh n r9 n (0,v)=some r∧True:=by
  intro r9 v
  refine qg (L:=fun m p=>Eh n r9 m p) (fun p=>0≤p.1∧p.1≤4) (fun p=>(4-p.1).toNat) (fun _=>True) ?_ n _ ⟨Int.le_refl 0,(by decide:(0:Int)≤4)⟩ (by show (4-(0:Int)).toNat<n;omega)
  rintro m ⟨x4,x5⟩ ⟨ha,hb⟩ ih
  dsimp only at ha hb ih⊢
  rw[alT]
  refine eP (fun hc=> ?_) (fun _=>bZ trivial)
  have hc':=of_decide_eq_true hc
  rw[y8 ha (by omega),lS (i:=x4+4) (by omega) (by omega)]
  iterate 6 refine gT (qh ⟨by omega,by omega⟩) ?_
  exact ih _ ⟨by show 0≤x4+1;omega,by show x4+1≤4;omega⟩ (by show (4-(x4+1)).toNat< (4-x4).toNat;omega)
 obtain⟨r,hr,_⟩:=h4 (h.slc 0 4,h.slc 4 4)
 obtain⟨q,hq,_⟩:=h12 r h
 exact⟨r,hr,aW ⟨q,hq,bZ trivial⟩⟩
theorem Ua {n:Nat} {h:Vec 8} {v:Vec 64} {c:Int} {l:List UInt8} (B:Int) (h0:0≤c) (h1:c+l.length≤B) (hB:B<2^62) (hn:100<n) (hl:l.length<n):
 ∃r:(Vec 8)×(Vec 64)×Int,vU n ((h,(v,c)),l)=some r∧0≤r.2.2∧r.2.2≤c+l.length:=by
 rw[alW]
 have hL:∃r,wG n n (l,(h,(v,c)))=some r∧(0≤r.2.2.2∧r.2.2.2≤c+l.length):=by
  refine qg (L:=fun m p=>wG n m p) (fun p=>0≤p.2.2.2∧p.2.2.2+p.1.length≤c+l.length) (fun p=>p.1.length) (fun r=>0≤r.2.2.2∧r.2.2.2≤c+l.length) ?_ n _ ⟨h0,Int.le_refl _⟩ hl
  rintro m ⟨x5,x6,x7,x8⟩ ⟨ha,hb⟩ ih
  dsimp only at ha hb ih⊢
  rw[alV]
  refine eP (fun hc=> ?_) (fun _=>bZ ⟨ha,by show x8≤_;omega⟩)
  have hne:x5≠[]:=by
   intro e;rw[e] at hc;exact absurd hc (by decide)
  have hpos:0<x5.length:=List.length_pos_iff.2 hne
  have ht:Int.tmod x8 64=x8% 64:=Int.tmod_eq_emod_of_nonneg ha
  have hm0:=Int.emod_nonneg x8 (show (64:Int)≠0 by decide)
  have hm1:=Int.emod_lt_of_pos x8 (show (0:Int)<64 by decide)
  refine gT (by decide) ?_
  rw[ht,lS (i:=x8% 64) (by omega) (by omega)]
  generalize hk:List.take (64-x8% 64).toNat (List.map (fun b:UInt8=>((b.toNat:Nat):Int)) x5)=t
  have htl:t.length=min (64-x8% 64).toNat x5.length:=by rw[←hk,List.length_take,List.length_map]
  have w1:IntKind.wrap IntKind.u64 ((t.length:Nat):Int)=t.length:=by rw[IntKind.wrap_u64];omega
  have w2:IntKind.wrap IntKind.u64 (x8+(t.length:Nat))=x8+t.length:=by rw[IntKind.wrap_u64];omega
  refine gT (decide_eq_true ⟨hm0,.inl hm1⟩) (gT (T9 ⟨by omega,by omega⟩) ?_)
  rw[w1,w2]
  have ih':∀a b,∃r,wG n m (List.drop (Int.toNat ((t.length:Nat):Int)) x5,(a,(b,x8+t.length)))=some r∧(0≤r.2.2.2∧r.2.2.2≤c+l.length):=fun a b=>
   ih _ ⟨by show 0≤x8+t.length;omega,by show x8+t.length+((List.drop (Int.toNat ((t.length:Nat):Int)) x5).length:Nat)≤_;rw[List.length_drop];omega⟩ (by show (List.drop (Int.toNat ((t.length:Nat):Int)) x5).length<x5.length;rw[List.length_drop];omega)
  refine eP (fun _=> ?_) (fun _=>ih' _ _)
  obtain⟨r,hr,_⟩:=an1 (n:=n) (h:=x6) (b:=(x7.rR (x8% 64) t).l) (x7.rR (x8% 64) t).h hn
  exact aW ⟨r,hr,ih' _ _⟩
 obtain⟨r,hr,h2⟩:=hL
 exact aW ⟨r,hr,bZ h2⟩
end Sh
end
section
open Go Go.Proofs Aq
namespace Sh
theorem jd {a k:Nat} (h:a<2^30) (hk:k≤2^12):bN a k=true:=NY h hk
theorem an2 {n:Nat} {h:Vec 8} {v:Vec 64} {c:Int} (h0:0≤c) (h1:c<2^56) (hn:200<n):∃r:Vec 32,C9 n (h,(v,c))=some r∧True:=by
 rw[al0]
 have hw:IntKind.wrap IntKind.i64 c=c:=lS (by omega) (by omega)
 have h3:∃r,Ei n h v c n [(128:Int)]=some r∧r.length≤65:=by
  refine qg (L:=fun m p=>Ei n h v c m p) (fun p=>p.length≤65∧(∀j:Nat,1≤j→j<p.length→(c+j)% 64≠56)) (fun p=>65-p.length) (fun r=>r.length≤65) ?_ n _ ⟨by decide,fun j h1 h2=> ?_⟩ (by show 65-1<n;omega)
  ·rintro m x4 ⟨ha,hb⟩ ih
   rw[alX,hw,lS (i:=c+(x4.length:Nat)) (by omega) (by omega),Int.tmod_eq_emod_of_nonneg (by omega)]
   refine gT (by decide) ?_
   refine eP (fun hc=> ?_) (fun _=>bZ ha)
   have hne:(c+(x4.length:Nat))% 64≠56:=by
    intro e;rw[e] at hc;exact absurd hc (by decide)
   have hlt:x4.length<65:=by
    by_cases hlt:x4.length<65
    ·exact hlt
    ·exfalso
     have he:x4.length=65:=by omega
     have hk:∃k:Nat,1≤k∧k≤64∧(c+k)% 64=56:=by
      refine⟨((55-c)% 64+1).toNat, ?_, ?_, ?_⟩<;>omega
     obtain⟨k,k1,k2,k3⟩:=hk
     exact hb k k1 (by omega) k3
   refine gT (jd (by simp only[List.length_cons,List.length_nil];omega) (by decide)) ?_
   refine ih _ ⟨by rw[List.length_append,List.length_cons,List.length_nil];omega,fun j j1 j2=> ?_⟩ (by show 65-(x4++[(0:Int)]).length<65-x4.length;rw[List.length_append,List.length_cons,List.length_nil];omega)
   rw[List.length_append,List.length_cons,List.length_nil] at j2
   by_cases hj:j<x4.length
   ·exact hb j j1 hj
   ·have:j=x4.length:=by omega
    rw[this];exact hne
  ·simp only[List.length_cons,List.length_nil] at h2;omega
 obtain⟨r5,JV,l5⟩:=h3
 refine aW ⟨r5,JV, ?_⟩
 have h6:∃r,Ej n h v c n (r5,(0:Int))=some r∧r.length≤73:=by
  refine qg (L:=fun m p=>Ej n h v c m p) (fun p=>0≤p.2∧p.2≤8∧(p.1.length:Int)≤65+p.2) (fun p=>(8-p.2).toNat) (fun r=>r.length≤73) ?_ n _ ⟨Int.le_refl 0,(by decide:(0:Int)≤8),by show ((r5.length:Nat):Int)≤65+0;omega⟩ (by show (8-(0:Int)).toNat<n;omega)
  rintro m ⟨x6,x7⟩ ⟨ha,hb,hl⟩ ih
  dsimp only at ha hb hl ih⊢
  rw[alY]
  refine eP (fun hc=> ?_) (fun _=>bZ (by omega))
  have hc':=of_decide_eq_true hc
  rw[lS (i:=8*x7) (by omega) (by omega),lS (i:=56-8*x7) (by omega) (by omega),y8 ha (by omega)]
  refine gT (decide_eq_true (by omega)) (gT (jd (by simp only[List.length_cons,List.length_nil];omega) (by decide)) ?_)
  refine ih _ ⟨by show 0≤x7+1;omega,by show x7+1≤8;omega, ?_⟩ (by show (8-(x7+1)).toNat< (8-x7).toNat;omega)
  show (((x6++[_]).length:Nat):Int)≤65+(x7+1)
  rw[List.length_append,List.length_cons,List.length_nil];omega
 obtain⟨r8,y9,l8⟩:=h6
 refine aW ⟨r8,y9, ?_⟩
 obtain⟨r9,za,_⟩:=Ua (n:=n) (h:=h) (v:=v) (c:=c) (l:=List.map (fun n:Int=>UInt8.ofNat n.toNat) r8) (2^57) h0 (by rw[List.length_map];omega) (by decide) (by omega) (by rw[List.length_map];omega)
 refine aW ⟨r9,za, ?_⟩
 have h13:∃r,El n r9 n ((0:Int),Vec.rep 32 (0:Int))=some r∧True:=by
  refine qg (L:=fun m p=>El n r9 m p) (fun p=>0≤p.1∧p.1≤32) (fun p=>(32-p.1).toNat) (fun _=>True) ?_ n _ ⟨Int.le_refl 0,(by decide:(0:Int)≤32)⟩ (by show (32-(0:Int)).toNat<n;omega)
  rintro m ⟨x4,x5⟩ ⟨ha,hb⟩ ih
  dsimp only at ha hb ih⊢
  rw[alZ]
  refine eP (fun hc=> ?_) (fun _=>bZ trivial)
  have hc':=of_decide_eq_true hc
  rw[Int.tdiv_eq_ediv_of_nonneg ha,Int.tmod_eq_emod_of_nonneg ha,lS (i:=x4/4) (by omega) (by omega),lS (i:=8*(x4% 4)) (by omega) (by omega),lS (i:=24-8*(x4% 4)) (by omega) (by omega),y8 ha (by omega)]
  refine gT (by decide) (gT (qh ⟨by omega,by omega⟩) (gT (by decide) (gT (decide_eq_true (by omega)) (gT (qh ⟨by omega,by omega⟩) ?_))))
  exact ih _ ⟨by show 0≤x4+1;omega,by show x4+1≤32;omega⟩ (by show (32-(x4+1)).toNat< (32-x4).toNat;omega)
 obtain⟨r,hr,_⟩:=h13
 exact aW ⟨r,hr,bZ trivial⟩
theorem an4 {x:Int} (h0:0≤x):0≤oN IntKind.u64 x 7∧oN IntKind.u64 x 7=x/128:=by
 have e:oN IntKind.u64 x 7=x.fdiv (2^7):=rfl
 rw[e,Int.fdiv_eq_ediv_of_nonneg x (by decide)]
 exact⟨Int.ediv_nonneg h0 (by decide),rfl⟩
theorem Oe {n:Nat} (x:Int) (hn:20<n):∃r:List Int,sG n x=some r∧r.length≤10:=by
 rw[alE]
 refine gT (by decide) (gT (by decide) ?_)
 generalize hz:mo IntKind.u64 _ _=z
 have hz0:0≤z:=by rw[←hz];exact Od _
 have hz1:z<2^64:=by
  rw[←hz];show IntKind.wrap IntKind.u64 _<2^64
  rw[IntKind.wrap_u64];exact Int.emod_lt_of_pos _ (by decide)
 have h3:∃r,Ee n n (z,[])=some r∧r.2.length≤9:=by
  refine qg (L:=fun m p=>Ee n m p) (fun p=>0≤p.1∧p.2.length≤9∧p.1<2^(64-7*p.2.length)) (fun p=>10-p.2.length) (fun r=>r.2.length≤9) ?_ n _ ⟨hz0,Nat.zero_le _,hz1⟩ (by show 10-0<n;omega)
  rintro m ⟨x2,x3⟩ ⟨ha,hb,hc⟩ ih
  dsimp only at ha hb hc ih⊢
  rw[alD]
  refine eP (fun hd=> ?_) (fun _=>bZ hb)
  have hd':=of_decide_eq_true hd
  have hlt:x3.length<9:=by
   by_cases h:x3.length<9
   ·exact h
   ·have e:x3.length=9:=by omega
    rw[e] at hc
    have e2:(2:Int)^(64-7*9)=2:=by decide
    rw[e2] at hc
    exfalso;omega
  obtain⟨s0,s1⟩:=an4 ha
  refine gT (jd (by simp only[List.length_cons,List.length_nil];omega) (by decide)) (gT (by decide) ?_)
  refine ih _ ⟨s0, ?_, ?_⟩ (by show 10-(x3++[_]).length<10-x3.length;rw[List.length_append,List.length_cons,List.length_nil];omega)
  ·show (x3++[_]).length≤9;rw[List.length_append,List.length_cons,List.length_nil];omega
  ·show oN IntKind.u64 x2 7<2^(64-7*(x3++[_]).length)
   rw[List.length_append,List.length_cons,List.length_nil,s1]
   have e:(2:Int)^(64-7*x3.length)=2^(64-7*(x3.length+1))*128:=by
    have:64-7*x3.length=(64-7*(x3.length+1))+7:=by omega
    rw[this,Int.pow_add];rfl
   rw[e] at hc
   exact Int.ediv_lt_of_lt_mul (by decide) hc
 obtain⟨r4,hr4,l4⟩:=h3
 refine aW ⟨r4,hr4, ?_⟩
 refine gT (jd (by simp only[List.length_cons,List.length_nil];omega) (by decide)) (bZ ?_)
 rw[List.length_append,List.length_cons,List.length_nil];omega
theorem acT {n:Nat} {l:List UInt8} (hn:20<n) (hl:l.length<2^29):∃r:List Int,yC n l=some r∧r.length≤l.length+10:=by
 rw[alH]
 obtain⟨r,hr,h⟩:=Oe (n:=n) ((l.length:Nat):Int) hn
 refine aW ⟨r,hr,gT (jd (by rw[List.length_map];omega) (by decide)) (bZ ?_)⟩
 rw[List.length_append,List.length_map];omega
def szB:List (List UInt8)→Nat
 | []=>0
 |l::ls=>l.length+10+szB ls
theorem an5 {ls:List (List UInt8)} {i:Nat} {x:List UInt8} (h:ls[i]? =some x):szB (ls.drop i)=x.length+10+szB (ls.drop (i+1)):=by
 have hlt:=jr h
 rw[List.drop_eq_getElem_cons hlt]
 have:ls[i]=x:=by rw[List.getElem?_eq_getElem hlt] at h;exact Option.some.inj h
 rw[this,szB]
theorem an6 {n:Nat} {t:Int} {ls:List (List UInt8)} (hn:2^20<n) (hs:szB ls<2^28) (hsn:szB ls<n):∃r:dK,Db n (t,ls)=some r∧True:=by
 rw[al1,alM]
 have hlen:∀ls:List (List UInt8),10*ls.length≤szB ls:=by
  intro ls
  induction ls with
  |nil=>simp[szB]
  |cons a l ih=>rw[List.length_cons,szB];omega
 have hl:=hlen ls
 show∃r,((some _).bind _)=some r∧True
 rw[Option.bind_some]
 generalize Vec.lit 8 _=h0
 generalize Vec.lit 64 _=v0
 obtain⟨r4,hr4,a1,a2⟩:=Ua (n:=n) (h:=h0) (v:=v0) (c:=0) (l:=List.map (fun n:Int=>UInt8.ofNat n.toNat) [IntKind.wrap IntKind.u8 t]) 10 (Int.le_refl 0) (by show (0:Int)+((1:Nat):Int)≤10;decide) (by decide) (by omega) (by show 1<n;omega)
 refine aW ⟨r4,hr4, ?_⟩
 have h3:∃r,Em n ls n ((0:Int),(r4.1,(r4.2.1,r4.2.2)))=some r∧(0≤r.2.2.2∧r.2.2.2≤2^29):=by
  have key:∀(k i m:Nat) (a:Vec 8) (b:Vec 64) (c:Int),i+k=ls.length→k<m→0≤c→c+szB (ls.drop i)≤2^29→∃r,Em n ls m ((i:Int),(a,(b,c)))=some r∧(0≤r.2.2.2∧r.2.2.2≤2^29):=by
   intro k
   induction k with
   |zero=>
    intro i m a b c hi hm hc0 hc
    obtain⟨m,rfl⟩:∃m',m=m'+1:=⟨m-1,by omega⟩
    rw[abC,iU (by omega)]
    exact bZ ⟨hc0,by show c≤2^29;omega⟩
   |succ k ih=>
    intro i m a b c hi hm hc0 hc
    obtain⟨m,rfl⟩:∃m',m=m'+1:=⟨m-1,by omega⟩
    have hlt:i<ls.length:=by omega
    have hx:ls[i]? =some ls[i]:=List.getElem?_eq_getElem hlt
    have hsz:=an5 hx
    have hin:szB (ls.drop i)≤szB ls:=by
     have:∀(j:Nat) (l:List (List UInt8)),szB (l.drop j)≤szB l:=by
      intro j
      induction j with
      |zero=>intro l;exact Nat.le_refl _
      |succ j ihj=>intro l;cases l with
       |nil=>exact Nat.le_refl _
       |cons a l=>exact Nat.le_trans (ihj l) (by show szB l≤a.length+10+szB l;omega)
     exact this i ls
    have hle:ls[i].length<2^28:=by omega
    rw[abC,fq hx,dZ hx,dF (by omega),cond_true,Option.bind_some]
    obtain⟨w,hw,lw⟩:=acT (n:=n) (l:=ls[i]) (by omega) (by omega)
    refine aW ⟨w,hw, ?_⟩
    obtain⟨q,hq,q1,q2⟩:=Ua (n:=n) (h:=a) (v:=b) (c:=c) (l:=List.map (fun n:Int=>UInt8.ofNat n.toNat) w) (2^30) hc0 (by rw[List.length_map];omega) (by decide) (by omega) (by rw[List.length_map];omega)
    rw[List.length_map] at q2
    exact aW ⟨q,hq,ih (i+1) m q.1 q.2.1 q.2.2 (by omega) (by omega) q1 (by omega)⟩
  exact key ls.length 0 n r4.1 r4.2.1 r4.2.2 (by omega) (by omega) a1 (by
   have e:((List.map (fun n:Int=>UInt8.ofNat n.toNat) [IntKind.wrap IntKind.u8 t]).length:Int)=1:=rfl
   rw[e] at a2
   show r4.2.2+(szB ls:Nat)≤2^29
   omega)
 obtain⟨iQ,an8,c1,c2⟩:=h3
 refine aW ⟨iQ,an8, ?_⟩
 obtain⟨iH,an9,_⟩:=an2 (n:=n) (h:=iQ.2.1) (v:=iQ.2.2.1) (c:=iQ.2.2.2) c1 (by omega) (by omega)
 refine aW ⟨iH,an9, ?_⟩
 exact gT (by decide) (gT (by decide) (bZ trivial))
end Sh
end
section
open Go Go.Proofs Aq
namespace Sh
def jO (ls:List (List Int)):Nat:=ls.foldr (fun l s=>l.length+s) 0
theorem Og {ls:List (List Int)} {i:Nat} {x:List Int} (h:ls[i]? =some x):jO (ls.drop i)=x.length+jO (ls.drop (i+1)):=by
 have hlt:=jr h
 rw[List.drop_eq_getElem_cons hlt]
 have:ls[i]=x:=by rw[List.getElem?_eq_getElem hlt] at h;exact Option.some.inj h
 rw[this];rfl
theorem aoa {u:Unit} {k:Int} (h0:0≤k) (h1:k≤2^40):Bb (u,k)=some []:=by
 unfold Bb Ba
 exact if_pos ⟨h0,h1⟩
theorem aob {u:Unit} {k:Int} (h0:0≤k) (h1:k≤2^40):Bc (u,k)=some []:=by
 unfold Bc Ba
 exact if_pos ⟨h0,h1⟩
theorem aoc {n:Nat} {ls:List (List Int)} (hs:jO ls<2^28) (hl:ls.length<2^28) (hn:ls.length<n):∃r:List Int,yB n ls=some r∧r.length=jO ls:=by
 rw[alC]
 have h3:∀(k i m:Nat) (c:Nat),i+k=ls.length→k<m→c+jO (ls.drop i)=jO ls→∃r,Ji n ls m ((c:Int),(i:Int))=some r∧r=((jO ls:Nat):Int):=by
  intro k
  induction k with
  |zero=>
   intro i m c hi hm hc
   obtain⟨m,rfl⟩:∃m',m=m'+1:=⟨m-1,by omega⟩
   rw[abv,iU (by omega)]
   rw[List.drop_eq_nil_of_le (by omega)] at hc
   exact bZ (by rw[←hc];rfl)
  |succ k ih=>
   intro i m c hi hm hc
   obtain⟨m,rfl⟩:∃m',m=m'+1:=⟨m-1,by omega⟩
   have hlt:i<ls.length:=by omega
   have hx:ls[i]? =some ls[i]:=List.getElem?_eq_getElem hlt
   have hsz:=Og hx
   rw[abv,fq hx,dZ hx,dF (by omega),cond_true,Option.bind_some,N8 (by omega),decide_eq_false (by omega)]
   exact ih (i+1) m (c+ls[i].length) (by omega) (by omega) (by omega)
 obtain⟨r5,JV,rfl⟩:=h3 ls.length 0 n 0 (by omega) hn (by simp)
 refine aW ⟨_,JV,aW ⟨_,aoa (by omega) (by omega), ?_⟩⟩
 have h11:∀(k i m:Nat) (a:List Int),i+k=ls.length→k<m→a.length+jO (ls.drop i)=jO ls→∃r,Jj n ls m (a,(i:Int))=some r∧r.length=jO ls:=by
  intro k
  induction k with
  |zero=>
   intro i m a hi hm hc
   obtain⟨m,rfl⟩:∃m',m=m'+1:=⟨m-1,by omega⟩
   rw[abw,iU (by omega)]
   rw[List.drop_eq_nil_of_le (by omega)] at hc
   exact bZ (by rw[←hc];rfl)
  |succ k ih=>
   intro i m a hi hm hc
   obtain⟨m,rfl⟩:∃m',m=m'+1:=⟨m-1,by omega⟩
   have hlt:i<ls.length:=by omega
   have hx:ls[i]? =some ls[i]:=List.getElem?_eq_getElem hlt
   have hsz:=Og hx
   rw[abw,fq hx,dZ hx,dF (by omega),cond_true,Option.bind_some,jd (by omega) (by decide),cond_true]
   exact ih (i+1) m (a++ls[i]) (by omega) (by omega) (by rw[List.length_append];omega)
 obtain⟨r,hr,e⟩:=h11 ls.length 0 n [] (by omega) hn (by simp)
 exact aW ⟨r,hr,bZ e⟩
theorem aod {n:Nat} {ls:List (List Int)} (hs:jO ls<2^28) (hl:ls.length<2^28) (hn:ls.length<n):∃r:List Int,CG n ls=some r∧r.length=jO ls:=by
 rw[alK]
 have h3:∀(k i m:Nat) (c:Nat),i+k=ls.length→k<m→c+jO (ls.drop i)=jO ls→∃r,Jm n ls m ((c:Int),(i:Int))=some r∧r=((jO ls:Nat):Int):=by
  intro k
  induction k with
  |zero=>
   intro i m c hi hm hc
   obtain⟨m,rfl⟩:∃m',m=m'+1:=⟨m-1,by omega⟩
   rw[abz,iU (by omega)]
   rw[List.drop_eq_nil_of_le (by omega)] at hc
   exact bZ (by rw[←hc];rfl)
  |succ k ih=>
   intro i m c hi hm hc
   obtain⟨m,rfl⟩:∃m',m=m'+1:=⟨m-1,by omega⟩
   have hlt:i<ls.length:=by omega
   have hx:ls[i]? =some ls[i]:=List.getElem?_eq_getElem hlt
   have hsz:=Og hx
   rw[abz,fq hx,dZ hx,dF (by omega),cond_true,Option.bind_some,N8 (by omega),decide_eq_false (by omega)]
   exact ih (i+1) m (c+ls[i].length) (by omega) (by omega) (by omega)
 obtain⟨r5,JV,rfl⟩:=h3 ls.length 0 n 0 (by omega) hn (by simp)
 refine aW ⟨_,JV,aW ⟨_,aob (by omega) (by omega), ?_⟩⟩
 have h11:∀(k i m:Nat) (a:List Int),i+k=ls.length→k<m→a.length+jO (ls.drop i)=jO ls→∃r,Jo n ls m (a,(i:Int))=some r∧r.length=jO ls:=by
  intro k
  induction k with
  |zero=>
   intro i m a hi hm hc
   obtain⟨m,rfl⟩:∃m',m=m'+1:=⟨m-1,by omega⟩
   rw[abA,iU (by omega)]
   rw[List.drop_eq_nil_of_le (by omega)] at hc
   exact bZ (by rw[←hc];rfl)
  |succ k ih=>
   intro i m a hi hm hc
   obtain⟨m,rfl⟩:∃m',m=m'+1:=⟨m-1,by omega⟩
   have hlt:i<ls.length:=by omega
   have hx:ls[i]? =some ls[i]:=List.getElem?_eq_getElem hlt
   have hsz:=Og hx
   rw[abA,fq hx,dZ hx,dF (by omega),cond_true,Option.bind_some,jd (by omega) (by decide),cond_true]
   exact ih (i+1) m (a++ls[i]) (by omega) (by omega) (by rw[List.length_append];omega)
 obtain⟨r,hr,e⟩:=h11 ls.length 0 n [] (by omega) hn (by simp)
 exact aW ⟨r,hr,bZ e⟩
theorem aoe {n:Nat} {l:List Int} (hl:l.length<2^20) (hn:l.length<n) (hn2:20<n):∃r:List Int,Cw n l=some r∧r.length≤10+10*l.length:=by
 rw[alG,alF]
 obtain⟨r2,hr2,l2⟩:=Oe (n:=n) ((l.length:Nat):Int) hn2
 have h3:∀(k i m:Nat) (a:List Int),i+k=l.length→k<m→a.length≤10+10*i→∃r,Jk n l m (a,(i:Int))=some r∧r.length≤10+10*l.length:=by
  intro k
  induction k with
  |zero=>
   intro i m a hi hm hc
   obtain⟨m,rfl⟩:∃m',m=m'+1:=⟨m-1,by omega⟩
   rw[abx,iU (by omega)]
   exact bZ (by omega)
  |succ k ih=>
   intro i m a hi hm hc
   obtain⟨m,rfl⟩:∃m',m=m'+1:=⟨m-1,by omega⟩
   have hlt:i<l.length:=by omega
   have hx:l[i]? =some l[i]:=List.getElem?_eq_getElem hlt
   rw[abx,fq hx,dZ hx,dF (by omega),cond_true,Option.bind_some]
   obtain⟨w,hw,lw⟩:=Oe (n:=n) l[i] hn2
   refine aW ⟨w,hw,gT (jd (by omega) (by decide)) ?_⟩
   exact ih (i+1) m (a++w) (by omega) (by omega) (by rw[List.length_append];omega)
 obtain⟨r,hr,e⟩:=h3 l.length 0 n r2 (by omega) hn (by omega)
 exact aW ⟨r,bs hr2 (bs hr rfl),bZ e⟩
theorem aof {n:Nat} {l:List (List UInt8)} (hl:l.length<2^12) (hs:∀x∈l,x.length≤300) (hn:l.length<n) (hn2:20<n):∃r:List Int,CB n l=some r∧r.length≤10+310*l.length:=by
 rw[alJ,alI]
 obtain⟨r2,hr2,l2⟩:=Oe (n:=n) ((l.length:Nat):Int) hn2
 have h3:∀(k i m:Nat) (a:List Int),i+k=l.length→k<m→a.length≤10+310*i→∃r,Jl n l m (a,(i:Int))=some r∧r.length≤10+310*l.length:=by
  intro k
  induction k with
  |zero=>
   intro i m a hi hm hc
   obtain⟨m,rfl⟩:∃m',m=m'+1:=⟨m-1,by omega⟩
   rw[aby,iU (by omega)]
   exact bZ (by omega)
  |succ k ih=>
   intro i m a hi hm hc
   obtain⟨m,rfl⟩:∃m',m=m'+1:=⟨m-1,by omega⟩
   have hlt:i<l.length:=by omega
   have hx:l[i]? =some l[i]:=List.getElem?_eq_getElem hlt
   have aog:=hs _ (List.getElem_mem hlt)
   rw[aby,fq hx,dZ hx,dF (by omega),cond_true,Option.bind_some]
   obtain⟨w,hw,lw⟩:=acT (n:=n) (l:=l[i]) hn2 (by omega)
   refine aW ⟨w,hw,gT (jd (by omega) (by decide)) ?_⟩
   exact ih (i+1) m (a++w) (by omega) (by omega) (by rw[List.length_append];omega)
 obtain⟨r,hr,e⟩:=h3 l.length 0 n r2 (by omega) hn (by omega)
 exact aW ⟨r,bs hr2 (bs hr rfl),bZ e⟩
theorem aoh {n:Nat} {e:Entry} (h:lQ e.Vec e.aM) (hn:2^20<n):∃r:List Int,CK n e=some r∧r.length≤2^15:=by
 obtain⟨h1,h2,h3⟩:=h
 rw[alL]
 obtain⟨r2,hr2,l2⟩:=aoc (n:=n) (ls:=[[e.ID,e.eG,e.eU,e.gQ,e.From,e.To,e.fM,((e.Vec.length:Nat):Int)],e.Vec,[((e.aM.length:Nat):Int)]])
  (by simp only[jO,List.foldr,List.length_cons,List.length_nil];omega) (by simp only[List.length_cons,List.length_nil];omega) (by simp only[List.length_cons,List.length_nil];omega)
 have l2':r2.length≤49:=by rw[l2];simp only[jO,List.foldr,List.length_cons,List.length_nil];omega
 refine aW ⟨r2,hr2, ?_⟩
 have h4:∀(k i m:Nat) (a:List Int) (b:List (List UInt8)),i+k=e.aM.length→k<m→a.length≤49+2*i→b.length≤2*i→(∀x∈b,x.length≤300)→
  ∃r,Jp n e m (a,(b,(i:Int)))=some r∧(r.1.length≤89∧r.2.length≤40∧∀x∈r.2,x.length≤300):=by
  intro k
  induction k with
  |zero=>
   intro i m a b hi hm ha hb hx
   obtain⟨m,rfl⟩:∃m',m=m'+1:=⟨m-1,by omega⟩
   rw[abB,iU (by omega)]
   exact bZ ⟨by show a.length≤89;omega,by show b.length≤40;omega,hx⟩
  |succ k ih=>
   intro i m a b hi hm ha hb hx
   obtain⟨m,rfl⟩:∃m',m=m'+1:=⟨m-1,by omega⟩
   have hlt:i<e.aM.length:=by omega
   have hg:e.aM[i]? =some e.aM[i]:=List.getElem?_eq_getElem hlt
   obtain⟨y1,y2⟩:=h3 _ (List.getElem_mem hlt)
   rw[abB,fq hg,dZ hg,dF (by omega),cond_true,Option.bind_some]
   refine gT (jd (by simp only[List.length_cons,List.length_nil];omega) (by decide)) (gT (jd (by simp only[List.length_cons,List.length_nil];omega) (by decide)) ?_)
   refine ih (i+1) m _ _ (by omega) (by omega) (by rw[List.length_append,List.length_cons,List.length_cons,List.length_nil];omega) (by rw[List.length_append,List.length_cons,List.length_cons,List.length_nil];omega) (fun x hx'=> ?_)
   rcases List.mem_append.1 hx' with hx'|hx'
   ·exact hx x hx'
   ·rcases List.mem_cons.1 hx' with rfl|hx'
    ·exact y1
    ·rcases List.mem_cons.1 hx' with rfl|hx'
     ·exact y2
     ·cases hx'
 obtain⟨r7,JW,a7,b7,c7⟩:=h4 e.aM.length 0 n r2 [] (by omega) (by omega) (by omega) (by simp) (fun x hx=>absurd hx List.not_mem_nil)
 refine aW ⟨r7,JW, ?_⟩
 obtain⟨r8,y9,l8⟩:=aoe (n:=n) (l:=r7.1) (by omega) (by omega) (by omega)
 obtain⟨r9,za,l9⟩:=aof (n:=n) (l:=r7.2) (by omega) c7 (by omega) (by omega)
 refine aW ⟨r8,y9,aW ⟨r9,za, ?_⟩⟩
 obtain⟨r,hr,l⟩:=aod (n:=n) (ls:=[r8,r9]) (by simp only[jO,List.foldr];omega) (by simp only[List.length_cons,List.length_nil];omega) (by simp only[List.length_cons,List.length_nil];omega)
 refine aW ⟨r,hr,bZ ?_⟩
 rw[l];simp only[jO,List.foldr];omega
theorem aoj {n:Nat} {e:Entry} (h:lQ e.Vec e.aM) (hn:2^20<n):∃r:dK,Df n e=some r∧True:=by
 rw[al2]
 obtain⟨r,hr,l⟩:=aoh h hn
 obtain⟨d,hd,_⟩:=an6 (n:=n) (t:=14) (ls:=[List.map (fun n:Int=>UInt8.ofNat n.toNat) r]) hn (by simp only[szB,List.length_map];omega) (by simp only[szB,List.length_map];omega)
 exact aW ⟨r,hr,aW ⟨d,hd,bZ trivial⟩⟩
theorem aok {n:Nat} {r:Row} (h:lQ r.Entry.Vec r.Entry.aM) (hn:2^20<n):∃d:dK,vV n r=some (⟨r.Entry.ID,r.Entry.eG,r.Entry.fM,r.cO,d⟩:Gone):=by
 rw[al3]
 obtain⟨d,hd,_⟩:=aoj h hn
 exact⟨d,bs hd rfl⟩
end Sh
end
section
open Go Go.Proofs Aq
namespace Sh
def kN {α:Type} (o:Option α) (P:α→Prop):Prop:=∀r,o=some r→P r
theorem tq {α:Type} {P:α→Prop}:kN none P:=fun _ h=>by cases h
theorem jw {α:Type} {P:α→Prop} {x:α} (h:P x):kN (some x) P:=fun r hr=>by cases hr;exact h
theorem jP {α β:Type} {P:β→Prop} {o:Option α} {k:α→Option β} (h:∀a,o=some a→kN (k a) P):kN (o.bind k) P:=fun r hr=>by
 obtain⟨a,h1,h2⟩:=Option.bind_eq_some_iff.1 hr
 exact h a h1 r h2
theorem gu {α:Type} {P:α→Prop} {c:Bool} {x y:Option α} (h1:c=true→kN x P) (h2:c=false→kN y P):kN (bif c then x else y) P:=by
 cases c
 ·exact h2 rfl
 ·exact h1 rfl
def DP (b:Book) (e:Event) (r:aY):Prop:=r.E=0→r.B.bV=b.bV++[e.Day]
theorem oV {b:Book} {e:Event} {k:Int} (h:k≠0):DP b e ⟨b,k⟩:=fun h'=>absurd h' h
theorem acU {b:Book} {e:Event} {k:Int} (h:(k !=0)=true):DP b e ⟨b,k⟩:=oV (by simpa using h)
theorem JX {n:Nat} {b:Book} {e:Event} {l:List Row} {to:List bT} {more:Entry}:kN (qJ n (b,(e,(l,(to,more))))) (DP b e):=by
 rw[abe]
 refine jP fun _ _=>jP fun _ _=>gu (fun _=>jP fun _ _=>gu (fun h=>jw (acU h)) fun _=>gu (fun _=>gu (fun _=>jw (oV (by decide))) fun _=> ?_) fun _=>tq) (fun _=>gu (fun _=>jw (oV (by decide))) fun _=> ?_)
 ·exact gu (fun _=>gu (fun _=>gu (fun _=>gu (fun _=>jw fun _=>rfl) fun _=>tq) fun _=>tq) fun _=>tq) fun _=>tq
 ·exact gu (fun _=>gu (fun _=>gu (fun _=>gu (fun _=>jw fun _=>rfl) fun _=>tq) fun _=>tq) fun _=>tq) fun _=>tq
theorem uM {α:Type} {P:α→Prop} {o:Option α} (h:kN o P):kN (o.bind fun r=>some r) P:=jP fun a ha=>jw (h a ha)
theorem aol {n:Nat} {b:Book} {e:Event}:kN (yt n (b,e)) (DP b e):=by
 rw[abg]
 exact jP fun _ _=>gu (fun _=>jw (oV (by decide))) fun _=>jP fun _ _=>gu (fun h=>jw (acU h)) fun _=>uM JX
theorem aom {n:Nat} {b:Book} {e:Event} {l:List Row}:kN (qK n (b,(e,l))) (DP b e):=by
 rw[abl]
 exact jP fun _ _=>jP fun _ _=>gu (fun _=>jw (oV (by decide))) fun _=>jP fun _ _=>jP fun _ _=>jP fun _ _=>uM JX
theorem aon {n:Nat} {b:Book} {e:Event} {l:List Row}:kN (qL n (b,(e,l))) (DP b e):=by
 rw[abn]
 exact gu (fun _=>jP fun _ _=>gu (fun _=>jw (oV (by decide))) fun _=>jP fun _ _=>uM JX) fun _=>jw (oV (by decide))
theorem aoo {n:Nat} {b:Book} {e:Event} {l:List Row}:kN (qM n (b,(e,l))) (DP b e):=by
 rw[abp]
 exact jP fun _ _=>gu (fun _=>jw (oV (by decide))) fun _=>gu (fun _=>jP fun _ _=>gu (fun _=>jw (oV (by decide))) fun _=>jP fun _ _=>uM JX) fun _=>jw (oV (by decide))
theorem aop {n:Nat} {b:Book} {e:Event}:kN (yw n (b,e)) (DP b e):=by
 rw[abq]
 have live:kN ((sD n ((b,e.ID))).bind fun (r5:List Row)=>
          bif (((r5.length:Nat):Int))==((0:Int)) then
           some ((⟨b,(5:Int)⟩:aY))
          else
           bif e.Kind==((2:Int)) then
            (qK n ((b,(e,r5)))).bind fun (r6:aY)=>
            some r6
           else
            bif e.Kind==((3:Int)) then
             (qL n ((b,(e,r5)))).bind fun (r7:aY)=>
             some r7
            else
             (qM n ((b,(e,r5)))).bind fun (r8:aY)=>
             some r8) (DP b e):=
  jP fun _ _=>gu (fun _=>jw (oV (by decide))) fun _=>gu (fun _=>uM aom) fun _=>gu (fun _=>uM aon) fun _=>uM aoo
 exact gu (fun _=>jw (oV (by decide))) fun _=>gu (fun _=>uM aol) fun _=>gu (fun _=>uM JX) fun _=>gu (fun _=>live) fun _=>gu (fun _=>live) fun _=>gu (fun _=>live) fun _=>jw (oV (by decide))
def Oh (l:List Event) (b:Book):Prop:=∃i,i≤l.length∧b.bV=(l.take i).map (·.Day)
theorem aoq {n:Nat} {s:aD} {l:List Event} (hb:l.length<2^62):kN (yx n (s,l)) fun r=>Oh l r.B:=by
 have key:∀(m i:Nat) (f:dI) (bk:aY),i≤l.length→(bk.E=0→bk.B.bV=(l.take i).map (·.Day))→kN (yQ n l m ((i:Int),(f,bk))) (fun q=>match q with
  |.inl q=>q.2.2.E=0→Oh l q.2.2.B
  |.inr q=>Oh l q.2.B):=by
  intro m
  induction m with
  |zero=>intro i f bk _ _;rw[alv];exact tq
  |succ m ih=>
   intro i f bk hi hd
   rw[Tk]
   refine gu (fun hlt=> ?_) (fun _=>jw fun hz=>⟨i,hi,hd hz⟩)
   have hlt2:i<l.length∧bk.E=0:=by simpa using hlt
   have hlt':=hlt2.1
   have hD:=hd hlt2.2
   refine jP fun x hx=>jP fun r hr=> ?_
   have hx':l[i]? =some x:=by rw[qd] at hx;exact hx
   have hap:=aop r hr
   refine gu (fun _=>jw ⟨i,hi,hD⟩) (fun _=> ?_)
   rw[dF (by omega)]
   refine ih (i+1) f r (by omega) fun h0=> ?_
   rw[hap h0,hD,List.take_add_one,hx',List.map_append]
   rfl
 rw[abr]
 refine jP fun nw hnw=>jP fun q hq=> ?_
 have hnd:nw.E=0→nw.B.bV=[]:=by
  have:kN (xZ n s) (fun r=>r.E=0→r.B.bV=[]):=by
   rw[aa3]
   exact jP fun (e:Int) _=>gu (fun h=>jw fun h0=>by
    have h3:e=(0:Int):=h0
    have h4:(e !=(0:Int))=true:=h
    simp[h3] at h4) (fun _=>jw fun _=>rfl)
  exact this nw hnw
 have:=key n 0 _ nw (Nat.zero_le _) (fun h=>by rw[hnd h];rfl) q hq
 cases q with
 |inl q=>
  exact gu (fun _=>jw ⟨0,Nat.zero_le _,rfl⟩) (fun hz=>jw (this (by simpa using hz)))
 |inr q=>exact jw this
end Sh
end
section
open Go Go.Proofs Aq
namespace Sh
structure BF (n:Nat) (l:List Event) (b:Book):Prop where
 commit:b.aH=((b.bV.length:Nat):Int)
 days:b.bV.length≤2^30
 rows:b.Rows.length≤65536
 row:∀r∈b.Rows,j4 n b.aH r
 ev:∀(k:Nat) day,b.bV[k]? =some day→∃e,l[k]? =some e∧e.Day=day
theorem aor {n:Nat} {s:aD} {l:List Event} {r:dI} (h:TJ n s r) (hd:Oh l r.B):BF n l r.B:=by
 have hev:∀(k:Nat) day,r.B.bV[k]? =some day→∃e,l[k]? =some e∧e.Day=day:=by
  obtain⟨i,hi,hd⟩:=hd
  intro k day hk
  rw[hd,List.getElem?_map] at hk
  simp only[Option.map_eq_some_iff] at hk
  obtain⟨e,he,rfl⟩:=hk
  have hlt:k< (l.take i).length:=by
   rw[List.getElem?_eq_some_iff] at he;exact he.1
  rw[List.getElem?_take_of_lt (by simp at hlt;omega)] at he
  exact⟨e,he,rfl⟩
 rcases h with h|h
 ·exact⟨h.commit,h.days,h.rows,h.row,hev⟩
 ·refine⟨?_, ?_, ?_, ?_,hev⟩
  ·rw[h];rfl
  ·rw[h];exact Nat.zero_le _
  ·rw[h];exact Nat.zero_le _
  ·rw[h];exact fun x (hx:x∈([]:List Row))=>absurd hx List.not_mem_nil
theorem BF.aos {n:Nat} {l:List Event} {b:Book} (h:BF n l b) {r:Row} (hr:r∈b.Rows) (h1:1≤r.cO):
 IntKind.wrap .i64 (r.cO-(1:Int))=r.cO-1∧r.cO≤b.aH∧∃e,aL l (IntKind.wrap .i64 (r.cO-(1:Int)))=some e∧aL b.bV (IntKind.wrap .i64 (r.cO-(1:Int)))=some e.Day:=by
 rcases (h.row r hr).1 with h0| ⟨_,h2⟩
 ·omega
 ·have hc:=h.commit
  have hd:=h.days
  have hw:IntKind.wrap .i64 (r.cO-(1:Int))=r.cO-1:=by rw[IntKind.wrap_i64];omega
  refine⟨hw,h2, ?_⟩
  rw[hw]
  obtain⟨k,hk⟩:∃k:Nat,r.cO-1=(k:Int):=⟨(r.cO-1).toNat,by omega⟩
  obtain⟨day,Eo,_⟩:=sZ (l:=b.bV) (i:=k) (by omega)
  have aot:b.bV[k]? =some day:=by rw[qd] at Eo;exact Eo
  obtain⟨e,he,rfl⟩:=h.ev k day aot
  rw[hk]
  exact⟨e,by rw[qd];exact he,Eo⟩
theorem BF.aou {n:Nat} {l:List Event} {b:Book} (h:BF n l b):BookOK b:=fun r hr h1=>by
 obtain⟨_,_,e,_,h3⟩:=h.aos hr h1
 exact⟨_,h3⟩
theorem aov {n:Nat} {s:aD} {l:List Event} (hn:2^20<n) (hs:mD s n) (hl:l.length<n) (hb:l.length<2^62) (he:∀e∈l,N7 e n):
 ∃(b:Book) (ok:Bool),Cg n (s,l)=some (b,ok)∧(ok=true→BF n l b):=by
 rw[alx]
 obtain⟨f,hf⟩:=amQ (k:=25) (show ab9 l n from ⟨hl,hb,fun x hx=>⟨(he x hx).2.2.1,(he x hx).2.2.2⟩⟩)
 obtain⟨d,hd⟩:=amJ (k:=6) hs
 obtain⟨c,hc⟩:=ab4 hs (by omega)
 cases f with
 |false=>refine⟨_,_,bs hf (bs (a:=false) (by rw[hd];rfl) rfl),fun h=>by cases h⟩
 |true=>
  cases d with
  |false=>refine⟨_,_,bs hf (bs (a:=false) (by rw[hd];rfl) rfl),fun h=>by cases h⟩
  |true=>
   obtain⟨r,hr,hfi⟩:=am7 hn hs hl hb (anb hb he hf)
   exact⟨_,_,bs hf (bs (a:=true) (by rw[hd];rfl) (bs hr (bs hc rfl))),fun _=>aor hfi (aoq hb r hr)⟩
end Sh
end
section
open Go Go.Proofs Aq
namespace Sh
abbrev ieq:=eB R (Ty.int IntKind.i64)
theorem JY (a b:Int):ieq a b=(a==b):=rfl
theorem acV (x y v:Int):∀m:List (Int×Int),iy ieq y (jX ieq x v m)=if y=x then some v else iy ieq y m
 | []=>by
   show (bif ieq y x then some v else none)=_
   rw[JY]
   by_cases e:y=x
   ·rw[if_pos e,e];simp
   ·have h:(y==x)=false:=by simpa using e
    rw[if_neg e,h];rfl
 | (a,w)::m=>by
   have ih:=acV x y v m
   show iy ieq y (bif ieq x a then (x,v)::m else (a,w)::jX ieq x v m)=if y=x then some v else (bif ieq y a then some w else iy ieq y m)
   rw[JY,JY]
   by_cases h:x=a
   ·subst h
    rw[beq_self_eq_true,cond_true]
    show (bif ieq y x then some v else iy ieq y m)=_
    rw[JY]
    by_cases e:y=x
    ·subst e;simp
    ·have h:(y==x)=false:=by simpa using e
     rw[if_neg e,h];rfl
   ·have hx:(x==a)=false:=by simpa using h
    rw[hx,cond_false]
    show (bif ieq y a then some w else iy ieq y (jX ieq x v m))=_
    rw[ih,JY]
    by_cases e:y=a
    ·subst e
     have:¬y=x:=fun e=>h e.symm
     simp[this]
    ·have h2:(y==a)=false:=by simpa using e
     rw[h2];rfl
def fU:List (Int×Int)→List Row→List (Int×Int)
 |m,[]=>m
 |m,r::l=>fU (jX ieq r.Entry.ID (imax (mg 0 (iy ieq r.Entry.ID m)) r.Entry.eG) m) l
def dX (m:List (Int×Int)) (id:Int):Int:=mg 0 (iy ieq id m)
theorem Ub (m:List (Int×Int)) (x v y:Int):dX (jX ieq x v m) y=if y=x then v else dX m y:=by
 have h:mg (0:Int) (iy ieq y (jX ieq x v m))=mg (0:Int) (if y=x then some v else iy ieq y m):=congrArg (mg (0:Int)) (acV x y v m)
 refine h.trans ?_
 split<;>rfl
theorem Uc:∀(l:List Row) (m:List (Int×Int)) (y:Int),dX m y≤dX (fU m l) y
 | [],m,y=>Int.le_refl _
 |r::l,m,y=>by
  refine Int.le_trans ?_ (Uc l _ y)
  rw[Ub]
  split
  ·rename_i e;rw[e];show dX m r.Entry.ID≤imax (dX m r.Entry.ID) r.Entry.eG
   unfold imax;split<;>omega
  ·exact Int.le_refl _
theorem Ud:∀(l:List Row) (m:List (Int×Int)) (r:Row),r∈l→r.Entry.eG≤dX (fU m l) r.Entry.ID
 |x::l,m,r,h=>by
  rcases List.mem_cons.1 h with rfl|h
  ·refine Int.le_trans ?_ (Uc l _ _)
   rw[Ub,if_pos rfl]
   show r.Entry.eG≤imax (dX m r.Entry.ID) r.Entry.eG
   unfold imax;split<;>omega
  ·exact Ud l _ r h
theorem Ue:∀(l:List Row) (m:List (Int×Int)) (y:Int),dX (fU m l) y=dX m y∨∃r∈l,r.Entry.ID=y∧r.Entry.eG=dX (fU m l) y
 | [],m,y=>.inl rfl
 |x::l,m,y=>by
  rcases Ue l (jX ieq x.Entry.ID (imax (mg 0 (iy ieq x.Entry.ID m)) x.Entry.eG) m) y with h| ⟨r,hr,h1,h2⟩
  ·rw[Ub] at h
   by_cases e:y=x.Entry.ID
   ·rw[if_pos e] at h
    have h':dX (fU m (x::l)) y=imax (dX m x.Entry.ID) x.Entry.eG:=h
    rw[h']
    by_cases hm:dX m x.Entry.ID<x.Entry.eG
    ·right
     refine⟨x,List.mem_cons_self ..,e.symm, ?_⟩
     unfold imax;split<;>omega
    ·left
     rw[e];unfold imax;split<;>omega
   ·rw[if_neg e] at h
    exact .inl h
  ·exact .inr ⟨r,List.mem_cons_of_mem _ hr,h1,h2⟩
def dL (last:Int→Int) (f:Int) (r:Row):Bool:=decide (r.cO≥1)&& decide (r.cO≤f)&& decide (r.Entry.eG<last r.Entry.ID)
theorem aow (l:List Row) (f y:Int):dX (fU [] (l.filter fun r=> !dL (dX (fU [] l)) f r)) y=dX (fU [] l) y:=by
 have h0:∀l,0≤dX (fU [] l) y:=fun l=>Uc l [] y
 have hle:dX (fU [] (l.filter fun r=> !dL (dX (fU [] l)) f r)) y≤dX (fU [] l) y:=by
  rcases Ue (l.filter fun r=> !dL (dX (fU [] l)) f r) [] y with h| ⟨r,hr,h1,h2⟩
  ·rw[h];exact h0 l
  ·rw[←h2,←h1];exact Ud l [] r (List.mem_filter.1 hr).1
 rcases Ue l [] y with h| ⟨r,hr,h1,h2⟩
 ·have:=h0 (l.filter fun r=> !dL (dX (fU [] l)) f r)
  have e:dX (fU [] l) y=0:=h
  omega
 ·have hk:r∈l.filter fun r=> !dL (dX (fU [] l)) f r:=by
   refine List.mem_filter.2 ⟨hr, ?_⟩
   unfold dL
   rw[decide_eq_false (show¬r.Entry.eG<dX (fU [] l) r.Entry.ID by rw[h1,h2];omega)]
   simp
  have:=Ud _ [] r hk
  rw[h1] at this
  omega
theorem aox {n:Nat} {l:List Row} (hn:l.length<n) (hb:l.length<2^62):Ci n l=some (fU [] l):=by
 rw[aly]
 have h3:∀(k i m:Nat) (o:List (Int×Int)),i+k=l.length→k<m→Jh n l m ((i:Int),o)=some ((),fU o (l.drop i)):=by
  intro k
  induction k with
  |zero=>
   intro i m o hi hm
   obtain⟨m,rfl⟩:∃m',m=m'+1:=⟨m-1,by omega⟩
   rw[abt,iU (by omega),List.drop_eq_nil_of_le (by omega)]
   rfl
  |succ k ih=>
   intro i m o hi hm
   obtain⟨m,rfl⟩:∃m',m=m'+1:=⟨m-1,by omega⟩
   have hlt:i<l.length:=by omega
   have hx:l[i]? =some l[i]:=List.getElem?_eq_getElem hlt
   rw[abt,fq hx,dZ hx,dF (by omega),cond_true,Option.bind_some,ih (i+1) m _ (by omega) (by omega),List.drop_eq_getElem_cons hlt]
   rfl
 have:=h3 l.length 0 n [] (by omega) hn
 exact bs this rfl
theorem aoy {n:Nat} {r:Row} {f:Int} {m:List (Int×Int)}:Cn n (r,(f,m))=some (dL (dX m) f r):=by
 rw[alA]
 unfold dL dX
 cases decide (r.cO≥1)<;>cases decide (r.cO≤f)<;>rfl
theorem aoz {n:Nat} {l:List Row} {f:Int} {mp:List (Int×Int)} (hn:l.length<n) (hb:l.length≤65536):
 Cq n (l,((),(f,mp)))=some (l.filter (dL (dX mp) f),l.filter fun r=> !dL (dX mp) f r):=by
 rw[alB]
 have h3:∀(k i m:Nat) (a b:List Row),i+k=l.length→k<m→a.length≤i→b.length≤i→Ed n l f mp m (a,(b,(i:Int)))=some (a++(l.drop i).filter (dL (dX mp) f),b++(l.drop i).filter fun r=> !dL (dX mp) f r):=by
  intro k
  induction k with
  |zero=>
   intro i m a b hi hm ha hb'
   obtain⟨m,rfl⟩:∃m',m=m'+1:=⟨m-1,by omega⟩
   rw[abu,iU (by omega),List.drop_eq_nil_of_le (by omega)]
   simp
  |succ k ih=>
   intro i m a b hi hm ha hb'
   obtain⟨m,rfl⟩:∃m',m=m'+1:=⟨m-1,by omega⟩
   have hlt:i<l.length:=by omega
   have hx:l[i]? =some l[i]:=List.getElem?_eq_getElem hlt
   rw[abu,fq hx,dZ hx,dF (by omega),cond_true,Option.bind_some,List.drop_eq_getElem_cons hlt]
   refine bs aoy ?_
   rw[List.filter_cons,List.filter_cons]
   cases hg:dL (dX mp) f l[i] with
   |true=>
    rw[cond_true,jd (by simp only[List.length_cons,List.length_nil];omega) (by decide),cond_true,ih (i+1) m _ _ (by omega) (by omega) (by rw[List.length_append,List.length_cons,List.length_nil];omega) (by omega)]
    simp
   |false=>
    rw[cond_false,jd (by simp only[List.length_cons,List.length_nil];omega) (by decide),cond_true,ih (i+1) m _ _ (by omega) (by omega) (by omega) (by rw[List.length_append,List.length_cons,List.length_nil];omega)]
    simp
 have:=h3 l.length 0 n [] [] (by omega) hn (by simp) (by simp)
 exact bs this rfl
noncomputable def tu (n:Nat) (r:Row):Gone:=((vV n r).getD ⟨0,0,0,0,⟨0,0,0,0,0,0,0,0,0,0,0,0,0,0,0,0⟩⟩:Gone)
theorem aoA {n:Nat} {r:Row} (h:lQ r.Entry.Vec r.Entry.aM) (hn:2^20<n):vV n r=some (tu n r):=by
 obtain⟨d,hd⟩:=aok h hn
 unfold tu;rw[hd];rfl
theorem Uf {n:Nat} {b:Book} {f:Int} (hn:2^20<n) (hb:b.Rows.length≤65536) (ht:∀r∈b.Rows,lQ r.Entry.Vec r.Entry.aM) (h0:0≤f) (h1:f≤b.aH):
 qN n (b,f)=some ((⟨b.aD,b.aH,b.Day,b.bV,b.Rows.filter fun r=> !dL (dX (fU [] b.Rows)) f r⟩:Book),((b.Rows.filter (dL (dX (fU [] b.Rows)) f)).map (tu n),(0:Int))):=by
 rw[al4,decide_eq_false (by omega),cond_false,decide_eq_false (by omega),cond_false]
 have hf:Ck n (b,f)=some ((),(f,fU [] b.Rows)):=by
  rw[alz];exact bs (aox (by omega) (by omega)) rfl
 refine bs hf (bs (aoz (by omega) hb) ?_)
 have h6:∀(r4:List Row×List Row),r4.1.length≤65536→(∀r∈r4.1,lQ r.Entry.Vec r.Entry.aM)→∀(k i m:Nat) (a:List Gone),i+k=r4.1.length→k<m→a.length≤i→Jq n b r4 m (a,(i:Int))=some (a++(r4.1.drop i).map (tu n)):=by
  intro r4 hl hr k
  induction k with
  |zero=>
   intro i m a hi hm ha
   obtain⟨m,rfl⟩:∃m',m=m'+1:=⟨m-1,by omega⟩
   rw[abD,iU (by omega),List.drop_eq_nil_of_le (by omega)]
   simp
  |succ k ih=>
   intro i m a hi hm ha
   obtain⟨m,rfl⟩:∃m',m=m'+1:=⟨m-1,by omega⟩
   have hlt:i<r4.1.length:=by omega
   have hx:r4.1[i]? =some r4.1[i]:=List.getElem?_eq_getElem hlt
   rw[abD,fq hx,dZ hx,dF (by omega),cond_true,Option.bind_some,List.drop_eq_getElem_cons hlt]
   refine bs (aoA (hr _ (List.getElem_mem hlt)) hn) ?_
   rw[jd (by simp only[List.length_cons,List.length_nil];omega) (by decide),cond_true,ih (i+1) m _ (by omega) (by omega) (by rw[List.length_append,List.length_cons,List.length_nil];omega),List.map_cons,List.append_assoc]
   rfl
 have hlen:(b.Rows.filter (dL (dX (fU [] b.Rows)) f)).length≤65536:=Nat.le_trans (List.length_filter_le _ _) hb
 have:=h6 (b.Rows.filter (dL (dX (fU [] b.Rows)) f),b.Rows.filter fun r=> !dL (dX (fU [] b.Rows)) f r) hlen (fun r hr=>ht r (List.mem_filter.1 hr).1) (b.Rows.filter (dL (dX (fU [] b.Rows)) f)).length 0 n [] (by show 0+_=(b.Rows.filter (dL (dX (fU [] b.Rows)) f)).length;omega) (by omega) (by simp)
 exact bs this rfl
end Sh
end
section
open Go Go.Proofs Aq
namespace Sh
theorem aoB {n:Nat} {l:List Int} (hn:l.length<n) (hb:l.length<2^62):yH n (l,l)=some true:=by
 rw[al6]
 have hc:Dk n (l,l)=some (0:Int):=by
  rw[al5]
  have e0:decide (((l.length:Nat):Int)< ((l.length:Nat):Int))=false:=decide_eq_false (by omega)
  simp only[gt_iff_lt,e0,cond_false]
  have h6:∀(k i m:Nat),i+k=l.length→k<m→Jr n l l m (i:Int)=some (.inl ()):=by
   intro k
   induction k with
   |zero=>
    intro i m hi hm
    obtain⟨m,rfl⟩:∃m',m=m'+1:=⟨m-1,by omega⟩
    rw[abE,iU (by omega)]
    rfl
   |succ k ih=>
    intro i m hi hm
    obtain⟨m,rfl⟩:∃m',m=m'+1:=⟨m-1,by omega⟩
    have hlt:i<l.length:=by omega
    have hx:l[i]? =some l[i]:=List.getElem?_eq_getElem hlt
    rw[abE,fq hx,dZ hx,dF (by omega)]
    simp only[cond_true,Option.bind_some]
    have e1:decide (l[i]<l[i])=false:=decide_eq_false (by omega)
    simp only[gt_iff_lt,e1,cond_false]
    exact ih (i+1) m (by omega) (by omega)
  exact bs (h6 l.length 0 n (by omega) hn) rfl
 exact bs hc rfl
theorem aoC {x:Int} (h:0≤x):IntKind.wrap IntKind.u64 (Int.tdiv x 128)=IntKind.wrap IntKind.u64 (x/128):=by rw[Int.tdiv_eq_ediv_of_nonneg h]
theorem aoD {n:Nat} {z:Int} (hz0:0≤z) (hz1:z<2^64) (hn:20<n):∃r,yS n n (z,[])=some r∧r.2.length≤9:=by
 refine qg (L:=fun m p=>yS n m p) (fun p=>0≤p.1∧p.2.length≤9∧p.1<2^(64-7*p.2.length)) (fun p=>10-p.2.length) (fun r=>r.2.length≤9) ?_ n _ ⟨hz0,Nat.zero_le _,hz1⟩ (by show 10-0<n;omega)
 rintro m ⟨x2,x3⟩ ⟨ha,hb,hc⟩ ih
 dsimp only at ha hb hc ih⊢
 rw[al7]
 refine eP (fun hd=> ?_) (fun _=>bZ hb)
 have hd':=of_decide_eq_true hd
 have hlt:x3.length<9:=by
  by_cases h:x3.length<9
  ·exact h
  ·have e:x3.length=9:=by omega
   rw[e] at hc
   have e2:(2:Int)^(64-7*9)=2:=by decide
   rw[e2] at hc
   exfalso;omega
 have aoE:(2:Int)^(64-7*x3.length)≤2^64:=by
  have e:(2:Int)^(64-7*x3.length)=((2^(64-7*x3.length):Nat):Int):=by rw[Int.natCast_pow];rfl
  have e2:(2:Int)^64=((2^64:Nat):Int):=rfl
  rw[e,e2]
  exact Int.ofNat_le.2 (Nat.pow_le_pow_right (by decide) (by omega))
 have apv:x2<2^64:=Int.lt_of_lt_of_le hc aoE
 have hw:IntKind.wrap IntKind.u64 (Int.tdiv x2 128)=x2/128:=by
  rw[aoC ha,IntKind.wrap_u64];omega
 rw[hw]
 refine gT (by decide) (gT (jd (by simp only[List.length_cons,List.length_nil];omega) (by decide)) (gT (by decide) ?_))
 refine ih _ ⟨Int.ediv_nonneg ha (by decide), ?_, ?_⟩ (by show 10-(x3++[_]).length<10-x3.length;rw[List.length_append,List.length_cons,List.length_nil];omega)
 ·show (x3++[_]).length≤9;rw[List.length_append,List.length_cons,List.length_nil];omega
 ·show x2/128<2^(64-7*(x3++[_]).length)
  rw[List.length_append,List.length_cons,List.length_nil]
  have e:(2:Int)^(64-7*x3.length)=2^(64-7*(x3.length+1))*128:=by
   have:64-7*x3.length=(64-7*(x3.length+1))+7:=by omega
   rw[this,Int.pow_add];rfl
  rw[e] at hc
  exact Int.ediv_lt_of_lt_mul (by decide) hc
theorem aoF (x:Int):IntKind.wrap IntKind.u64 x<2^64:=by rw[IntKind.wrap_u64];exact Int.emod_lt_of_pos _ (by decide)
theorem Oi {n:Nat} (x:Int) (hn:20<n):∃r:List Int,sI n x=some r∧r.length≤10:=by
 rw[al8]
 refine eP (fun _=> ?_) (fun _=> ?_)
 all_goals
  generalize hz:IntKind.wrap IntKind.u64 _=z
  have hz0:0≤z:=by rw[←hz];exact Od _
  have hz1:z<2^64:=by rw[←hz];exact aoF _
  obtain⟨r4,hr4,l4⟩:=aoD hz0 hz1 hn
  refine aW ⟨r4,hr4, ?_⟩
  refine gT (jd (by simp only[List.length_cons,List.length_nil];omega) (by decide)) (bZ ?_)
  rw[List.length_append,List.length_cons,List.length_nil];omega
theorem aoG {n:Nat} {l:List UInt8} (hn:20<n) (hl:l.length<2^29):∃r:List Int,Dt n l=some r∧r.length≤l.length+10:=by
 rw[ama]
 obtain⟨r,hr,h⟩:=Oi (n:=n) ((l.length:Nat):Int) hn
 refine aW ⟨r,hr,gT (jd (by rw[List.length_map];omega) (by decide)) (bZ ?_)⟩
 rw[List.length_append,List.length_map];omega
theorem aoH {n:Nat} {l:List Int} (hl:l.length<2^20) (hn:l.length<n) (hn2:20<n):∃r:List Int,Dp n l=some r∧r.length≤10+10*l.length:=by
 rw[al9]
 obtain⟨r2,hr2,l2⟩:=Oi (n:=n) ((l.length:Nat):Int) hn2
 have h3:∀(k i m:Nat) (a:List Int),i+k=l.length→k<m→a.length≤10+10*i→∃r,Js n l m (a,(i:Int))=some r∧r.length≤10+10*l.length:=by
  intro k
  induction k with
  |zero=>
   intro i m a hi hm hc
   obtain⟨m,rfl⟩:∃m',m=m'+1:=⟨m-1,by omega⟩
   rw[abF,iU (by omega)]
   exact bZ (by omega)
  |succ k ih=>
   intro i m a hi hm hc
   obtain⟨m,rfl⟩:∃m',m=m'+1:=⟨m-1,by omega⟩
   have hlt:i<l.length:=by omega
   have hx:l[i]? =some l[i]:=List.getElem?_eq_getElem hlt
   rw[abF,fq hx,dZ hx,dF (by omega),cond_true,Option.bind_some]
   obtain⟨w,hw,lw⟩:=Oi (n:=n) l[i] hn2
   refine aW ⟨w,hw,gT (jd (by omega) (by decide)) ?_⟩
   exact ih (i+1) m (a++w) (by omega) (by omega) (by rw[List.length_append];omega)
 obtain⟨r,hr,e⟩:=h3 l.length 0 n r2 (by omega) hn (by omega)
 exact aW ⟨r2,hr2,aW ⟨r,hr,bZ e⟩⟩
theorem aoI {n:Nat} {l:List (List UInt8)} (hl:l.length<2^12) (hs:∀x∈l,x.length≤300) (hn:l.length<n) (hn2:20<n):∃r:List Int,Dv n l=some r∧r.length≤10+310*l.length:=by
 rw[amb]
 obtain⟨r2,hr2,l2⟩:=Oi (n:=n) ((l.length:Nat):Int) hn2
 have h3:∀(k i m:Nat) (a:List Int),i+k=l.length→k<m→a.length≤10+310*i→∃r,Jt n l m (a,(i:Int))=some r∧r.length≤10+310*l.length:=by
  intro k
  induction k with
  |zero=>
   intro i m a hi hm hc
   obtain⟨m,rfl⟩:∃m',m=m'+1:=⟨m-1,by omega⟩
   rw[abG,iU (by omega)]
   exact bZ (by omega)
  |succ k ih=>
   intro i m a hi hm hc
   obtain⟨m,rfl⟩:∃m',m=m'+1:=⟨m-1,by omega⟩
   have hlt:i<l.length:=by omega
   have hx:l[i]? =some l[i]:=List.getElem?_eq_getElem hlt
   have aog:=hs _ (List.getElem_mem hlt)
   rw[abG,fq hx,dZ hx,dF (by omega),cond_true,Option.bind_some]
   obtain⟨w,hw,lw⟩:=aoG (n:=n) (l:=l[i]) hn2 (by omega)
   refine aW ⟨w,hw,gT (jd (by omega) (by decide)) ?_⟩
   exact ih (i+1) m (a++w) (by omega) (by omega) (by rw[List.length_append];omega)
 obtain⟨r,hr,e⟩:=h3 l.length 0 n r2 (by omega) hn (by omega)
 exact aW ⟨r2,hr2,aW ⟨r,hr,bZ e⟩⟩
theorem aoJ {n:Nat} {e:Entry} (h:lQ e.Vec e.aM) (hn:2^20<n):∃r:List Int,yI n e=some r∧r.length≤2^15:=by
 obtain⟨h1,h2,h3⟩:=h
 rw[amc]
 refine gT (jd (by simp only[List.length_cons,List.length_nil];omega) (by decide)) (gT (jd (by simp only[List.length_append,List.length_cons,List.length_nil];omega) (by decide)) ?_)
 generalize hz:(([e.ID,e.eG,e.eU,e.gQ,e.From,e.To,e.fM,((e.Vec.length:Nat):Int)]++e.Vec)++[((e.aM.length:Nat):Int)])=z
 have l2':z.length≤49:=by rw[←hz];simp only[List.length_append,List.length_cons,List.length_nil];omega
 have h4:∀(k i m:Nat) (a:List Int) (b:List (List UInt8)),i+k=e.aM.length→k<m→a.length≤49+2*i→b.length≤2*i→(∀x∈b,x.length≤300)→
  ∃r,Ju n e m (a,(b,(i:Int)))=some r∧(r.1.length≤89∧r.2.length≤40∧∀x∈r.2,x.length≤300):=by
  intro k
  induction k with
  |zero=>
   intro i m a b hi hm ha hb hx
   obtain⟨m,rfl⟩:∃m',m=m'+1:=⟨m-1,by omega⟩
   rw[abH,iU (by omega)]
   exact bZ ⟨by show a.length≤89;omega,by show b.length≤40;omega,hx⟩
  |succ k ih=>
   intro i m a b hi hm ha hb hx
   obtain⟨m,rfl⟩:∃m',m=m'+1:=⟨m-1,by omega⟩
   have hlt:i<e.aM.length:=by omega
   have hg:e.aM[i]? =some e.aM[i]:=List.getElem?_eq_getElem hlt
   obtain⟨y1,y2⟩:=h3 _ (List.getElem_mem hlt)
   rw[abH,fq hg,dZ hg,dF (by omega)]
   simp only[cond_true,Option.bind_some]
   refine gT (jd (by simp only[List.length_cons,List.length_nil];omega) (by decide)) (gT (jd (by simp only[List.length_cons,List.length_nil];omega) (by decide)) ?_)
   refine ih (i+1) m _ _ (by omega) (by omega) (by rw[List.length_append,List.length_cons,List.length_cons,List.length_nil];omega) (by rw[List.length_append,List.length_cons,List.length_cons,List.length_nil];omega) (fun x hx'=> ?_)
   rcases List.mem_append.1 hx' with hx'|hx'
   ·exact hx x hx'
   ·rcases List.mem_cons.1 hx' with rfl|hx'
    ·exact y1
    ·rcases List.mem_cons.1 hx' with rfl|hx'
     ·exact y2
     ·cases hx'
 obtain⟨r7,JW,a7,b7,c7⟩:=h4 e.aM.length 0 n z [] (by omega) (by omega) (by omega) (by simp) (fun x hx=>absurd hx List.not_mem_nil)
 refine aW ⟨r7,JW, ?_⟩
 obtain⟨r8,y9,l8⟩:=aoH (n:=n) (l:=r7.1) (by omega) (by omega) (by omega)
 obtain⟨r9,za,l9⟩:=aoI (n:=n) (l:=r7.2) (by omega) c7 (by omega) (by omega)
 refine aW ⟨r8,y9,gT (jd (by omega) (by decide)) (aW ⟨r9,za, ?_⟩)⟩
 refine gT (jd (by simp only[List.nil_append];omega) (by decide)) (bZ ?_)
 show ((([]:List Int)++r8)++r9).length≤2^15
 rw[List.nil_append,List.length_append];omega
theorem aoK {n:Nat} {l:List Row} (ht:∀r∈l,lQ r.Entry.Vec r.Entry.aM) (hn:2^20<n) (hb:l.length≤65536):yJ n (l,l)=some true:=by
 rw[ame]
 have e0:(((l.length:Nat):Int) !=((l.length:Nat):Int))=false:=by simp
 rw[e0,cond_false]
 have h4:∀(k i m:Nat),i+k=l.length→k<m→Jv n l l m (i:Int)=some (.inl ()):=by
  intro k
  induction k with
  |zero=>
   intro i m hi hm
   obtain⟨m,rfl⟩:∃m',m=m'+1:=⟨m-1,by omega⟩
   rw[abI,iU (by omega)]
   rfl
  |succ k ih=>
   intro i m hi hm
   obtain⟨m,rfl⟩:∃m',m=m'+1:=⟨m-1,by omega⟩
   have hlt:i<l.length:=by omega
   have hx:l[i]? =some l[i]:=List.getElem?_eq_getElem hlt
   rw[abI,fq hx,dZ hx,dF (by omega)]
   simp only[cond_true,Option.bind_some]
   have e1:(l[i].cO !=l[i].cO)=false:=by simp
   rw[e1,Bool.not_false,cond_true]
   obtain⟨c,hc,_⟩:=aoJ (ht _ (List.getElem_mem hlt)) hn
   have hs:Dy n (l[i].Entry,l[i].Entry)=some true:=by
    rw[amd]
    refine bs hc (bs hc ?_)
    simp
   refine bs hs ?_
   exact ih (i+1) m (by omega) (by omega)
 exact bs (h4 l.length 0 n (by omega) (by omega)) rfl
theorem aoL {n:Nat} {b:Book} (ht:∀r∈b.Rows,lQ r.Entry.Vec r.Entry.aM) (hn:2^20<n) (hb:b.Rows.length≤65536) (hd:b.bV.length<n) (hd2:b.bV.length<2^62):vW n (b,b)=some true:=by
 rw[amf]
 have e1:(bif b.aH==b.aH then b.Day==b.Day else false)=true:=by simp
 rw[e1]
 refine bs (show iG true (yH n (b.bV,b.bV)) false=some true from aoB hd hd2) ?_
 exact bs (show iG (bif true then true else false) (yJ n (b.Rows,b.Rows)) false=some true from aoK ht hn hb) rfl
end Sh
end
section
open Go Go.Proofs Aq
namespace Sh
set_option linter.unusedVariables false
theorem gE {α:Type} {c:Bool} {o r:Option α} (h:c=true) (k:o=r):(bif c then o else none)=r:=by rw[h];exact k
theorem bE {α:Type} {c:Bool} {a b r:Option α} (h:c=false) (k:b=r):(bif c then a else b)=r:=by rw[h];exact k
theorem tE {α:Type} {c:Bool} {a b r:Option α} (h:c=true) (k:a=r):(bif c then a else b)=r:=by rw[h];exact k
def Ez (dB dW:Gone):Bool:=((dB.ID==dW.ID)&& ((dB.eG==dW.eG)&& ((dB.fM==dW.fM)&& ((dB.cO==dW.cO)&& (((dB.Leaf.b0==dW.Leaf.b0)&& ((dB.Leaf.b1==dW.Leaf.b1)&& ((dB.Leaf.b2==dW.Leaf.b2)&& ((dB.Leaf.b3==dW.Leaf.b3)&& ((dB.Leaf.b4==dW.Leaf.b4)&& ((dB.Leaf.b5==dW.Leaf.b5)&& ((dB.Leaf.b6==dW.Leaf.b6)&& ((dB.Leaf.b7==dW.Leaf.b7)&& ((dB.Leaf.b8==dW.Leaf.b8)&& ((dB.Leaf.b9==dW.Leaf.b9)&& ((dB.Leaf.b10==dW.Leaf.b10)&& ((dB.Leaf.b11==dW.Leaf.b11)&& ((dB.Leaf.b12==dW.Leaf.b12)&& ((dB.Leaf.b13==dW.Leaf.b13)&& ((dB.Leaf.b14==dW.Leaf.b14)&& ((dB.Leaf.b15==dW.Leaf.b15)&& true))))))))))))))))&& true)))))
theorem aoM (g:Gone):Ez g g=true:=by unfold Ez;simp
theorem aoN {n:Nat} {s:aD} {r5:Book×Bool} {r7 r8 r9:Book×(List Gone)×Int} {j:Nat} {g:Gone} (hg:r9.2.1[j]? =some g) (hl:(([]++r7.2.1)++r8.2.1).length<n) (hl2:(([]++r7.2.1)++r8.2.1).length<2^62):
 yV n s r5 r7 r8 r9 (j:Int) n (false,(0:Int))=some ((([]++r7.2.1)++r8.2.1).any fun a=>Ez a g):=by
 generalize hL:(([]++r7.2.1)++r8.2.1)=L at hl hl2⊢
 have key:∀(k i m:Nat) (f:Bool),i+k=L.length→k<m→yV n s r5 r7 r8 r9 (j:Int) m (f,(i:Int))=some (f||(L.drop i).any fun a=>Ez a g):=by
  intro k
  induction k with
  |zero=>
   intro i m f hi hm
   obtain⟨m,rfl⟩:∃m',m=m'+1:=⟨m-1,by omega⟩
   rw[abR,hL,iU (by omega),List.drop_eq_nil_of_le (by omega)]
   simp
  |succ k ih=>
   intro i m f hi hm
   obtain⟨m,rfl⟩:∃m',m=m'+1:=⟨m-1,by omega⟩
   have hlt:i<L.length:=by omega
   have hx:L[i]? =some L[i]:=List.getElem?_eq_getElem hlt
   rw[abR,hL,fq hx,dF (by omega),cond_true,List.drop_eq_getElem_cons hlt,List.any_cons]
   cases f with
   |true=>
    refine bE rfl ?_
    rw[ih (i+1) m true (by omega) (by omega)]
    simp
   |false=>
    refine tE rfl (bs (dZ hx) (bs (dZ hg) ?_))
    have:=ih (i+1) m (Ez L[i] g) (by omega) (by omega)
    rw[Bool.false_or]
    exact this
 have:=key L.length 0 n false (by omega) hl
 rw[List.drop_zero,Bool.false_or] at this
 exact this
theorem aoO {n:Nat} {s:aD} {r5:Book×Bool} {r7 r8 r9:Book×(List Gone)×Int} (h:∀g∈r9.2.1,g∈r7.2.1++r8.2.1) (hl:(([]++r7.2.1)++r8.2.1).length<n) (hl2:(([]++r7.2.1)++r8.2.1).length<2^62) (h9:r9.2.1.length<n) (h92:r9.2.1.length<2^62):
 yX n s r5 r7 r8 r9 n (0:Int)=some (.inl ()):=by
 have key:∀(k i m:Nat),i+k=r9.2.1.length→k<m→yX n s r5 r7 r8 r9 m (i:Int)=some (.inl ()):=by
  intro k
  induction k with
  |zero=>
   intro i m hi hm
   obtain⟨m,rfl⟩:∃m',m=m'+1:=⟨m-1,by omega⟩
   rw[abS,iU (by omega)]
   rfl
  |succ k ih=>
   intro i m hi hm
   obtain⟨m,rfl⟩:∃m',m=m'+1:=⟨m-1,by omega⟩
   have hlt:i<r9.2.1.length:=by omega
   have hx:r9.2.1[i]? =some r9.2.1[i]:=List.getElem?_eq_getElem hlt
   rw[abS,fq hx,dF (by omega),cond_true]
   refine bs (aoN hx hl hl2) ?_
   have hany:((([]++r7.2.1)++r8.2.1).any fun a=>Ez a r9.2.1[i])=true:=by
    rw[List.any_eq_true]
    exact⟨_,by rw[List.nil_append];exact h _ (List.getElem_mem hlt),aoM _⟩
   exact bE (by rw[hany];rfl) (ih (i+1) m (by omega) (by omega))
 exact key r9.2.1.length 0 n (by omega) h9
abbrev never:Pred:=⟨(4:Int),[],(0:Int),(0:Int),[],[⟨(1:Int),[],(0:Int),(0:Int),[],[]⟩]⟩
theorem Ug {H:Pred→List Attr→Bool} {laws:List Law} {b:Book} (h:∀r day,laws.any (keeps H b r day)=false):∀(l:List Row) (fl:Int),JC H laws b l fl=fl
 | [],fl=>rfl
 |r::l,fl=>by
  show JC H laws b l (if _ then _ else fl)=fl
  rw[if_neg (by rw[h];simp)]
  exact Ug h l fl
theorem acW {α:Type} (p q:α→Bool) (h:∀x,p x=true→q x=true):∀l:List α,(l.filter p).length+((l.filter fun x=> !p x).filter q).length=(l.filter q).length
 | []=>rfl
 |x::l=>by
  have ih:=acW p q h l
  rw[List.filter_cons,List.filter_cons,List.filter_cons]
  cases hp:p x with
  |true=>
   rw[h x hp]
   simp only[if_true,Bool.not_true,Bool.false_eq_true,if_false,List.length_cons]
   omega
  |false=>
   simp only[Bool.not_false,if_true,Bool.false_eq_true,if_false]
   rw[List.filter_cons]
   cases hq:q x with
   |true=>simp only[if_true,List.length_cons];omega
   |false=>simp only[Bool.false_eq_true,if_false];omega
theorem Oj:iT never=2:=by simp[iT,oQ]
theorem aoP (l:List Attr):jg l never=false:=by simp[jg,anyS]
theorem aoQ {n:Nat} {b:Book} (hn:2^20<n) (hk:BookOK b) (hr:b.Rows.length≤65536) (ht:∀r∈b.Rows,r.Entry.aM.length<n∧r.Entry.aM.length<2^62):
 qW n ([(⟨[(120:UInt8)],never,(9:Int)⟩:Law)],b)=some b.aH:=by
 have h:=abX (n:=n) (H:=fun p a=>jg a p) (laws:=[(⟨[(120:UInt8)],never,(9:Int)⟩:Law)]) hk (fun r hr x hx=>by
  have hx':x=(⟨[(120:UInt8)],never,(9:Int)⟩:Law):=by simpa using hx
  subst hx'
  exact amG (ht r hr).1 (ht r hr).2 (by show 6*iT never<n;rw[Oj];omega) (by show iT never<2^62;rw[Oj];decide)) (by show 1<n;omega) (by decide) (by omega) (by omega)
 refine h.trans (congrArg some (Ug (fun r day=> ?_) _ _))
 have e:keeps (fun p a=>jg a p) b r day (⟨[(120:UInt8)],never,(9:Int)⟩:Law)=false:=by
  unfold keeps
  show (decide _&& jg r.Entry.aM never)=false
  rw[aoP,Bool.and_false]
 rw[List.any_cons,e,List.any_nil];rfl
theorem aoR {n:Nat} {b:Book} (hn:2^20<n) (hk:BookOK b) (hr:b.Rows.length≤65536):qW n (([]:List Law),b)=some b.aH:=by
 have h:=abX (n:=n) (H:=fun p a=>jg a p) (laws:=[]) hk (fun r hr x hx=>absurd hx List.not_mem_nil) (by show 0<n;omega) (by decide) (by omega) (by omega)
 exact h.trans (congrArg some (Ug (fun r day=>rfl) _ _))
theorem aoS {n:Nat} {s:aD} (hn:2^20<n) (hs:mD s n):vZ n (s,never)=some (0:Int):=by
 have h:=amP (n:=n) (s:=s) (p:=never) (by rw[Oj];omega) (by rw[Oj];decide) hs.1 hs.2.1 (by omega)
 have hp:(pre never).take 1000=[never,⟨(1:Int),[],(0:Int),(0:Int),[],[]⟩]:=by simp[pre,jZ]
 rw[hp] at h
 refine h.trans ?_
 have e1:sW s never=none:=by
  unfold sW
  rw[if_neg (by decide),if_neg (by decide),if_pos (by decide)]
 have e2:sW s ⟨(1:Int),[],(0:Int),(0:Int),[],[]⟩=none:=by
  unfold sW
  rw[if_neg (by decide),if_neg (by decide),if_pos (by decide)]
 rw[if_neg (by decide)]
 simp only[JF,e1,e2]
 rfl
theorem sE {α β γ:Type} {f:α→γ} {g:β→γ} {u:α} {r:γ} (h:f u=r):Sum.elim f g (.inl u)=r:=h
theorem aoT {α:Type} {c:Bool} {o r:Option α} {d:α} (hc:c=true) (h:o=r):iG c o d=r:=by subst hc;exact h
theorem aoU {n:Nat} {s:aD} {b:Book} {r7 r8 r9:Book×(List Gone)×Int} (hn:2^20<n) (hs:mD s n) (hk:BookOK b) (hr:b.Rows.length≤65536) (ht:∀r∈b.Rows,r.Entry.aM.length<n∧r.Entry.aM.length<2^62)
 (h:∀g∈r9.2.1,g∈r7.2.1++r8.2.1) (h7:r7.2.1.length≤65536) (h8:r8.2.1.length≤65536) (h9:r9.2.1.length≤65536) (hc:r7.2.1.length+r8.2.1.length=r9.2.1.length) (e7:r7.2.2=0) (e8:r8.2.2=0) (e9:r9.2.2=0) (hS:vW n (r8.1,r9.1)=some true):
 ((iG (!(bif bif r7.2.2 !=((0:Int)) then true else r8.2.2 !=((0:Int)) then true else r9.2.2 !=((0:Int)))) (vW n ((r8.1,r9.1))) false).bind fun (dR:Bool)=>
   bif bif bif bif bif r7.2.2 !=((0:Int)) then true else r8.2.2 !=((0:Int)) then true else r9.2.2 !=((0:Int)) then true else !dR then true else (Go.IntKind.wrap Go.IntKind.i64 ((((r7.2.1.length:Nat):Int))+(((r8.2.1.length:Nat):Int)))) !=(((r9.2.1.length:Nat):Int)) then
    some false
   else
    bif bN (((0:Nat))+r7.2.1.length) 48 then
     bif bN ((([]++r7.2.1).length)+r8.2.1.length) 48 then
      (yX n s (b,true) r7 r8 r9 n ((0:Int))).bind fun (ru:PUnit⊕Bool)=>
      Sum.elim (fun (q18:PUnit)=>
       (qW n (([(⟨[(120:UInt8)],(⟨(4:Int),[],(0:Int),(0:Int),[],[(⟨(1:Int),[],(0:Int),(0:Int),[],[]⟩:Pred)]⟩:Pred),(9:Int)⟩:Law)],b))).bind fun (Je:Int)=>
       (vT n (())).bind fun (Jf:Bool)=>
       bif Jf then
        bif Je==b.aH then
         (qW n (([],b))).bind fun (Eb:Int)=>
         bif Eb==b.aH then
          (vZ n ((s,(⟨(4:Int),[],(0:Int),(0:Int),[],[(⟨(1:Int),[],(0:Int),(0:Int),[],[]⟩:Pred)]⟩:Pred)))).bind fun (Ec:Int)=>
          some (Ec==((0:Int)))
         else
          some false
        else
         some false
       else
        some false)
       (fun (Tn:Bool)=>
        some Tn) ru
     else
      none
    else
     none)=some true:=by
 have l1:(([]++r7.2.1)++r8.2.1).length≤131072:=by rw[List.nil_append,List.length_append];omega
 have n0:((0:Int) !=0)=false:=by decide
 refine bs (a:=true) (aoT (by rw[e7,e8,e9,n0];rfl) hS) ?_
 refine bE (by rw[e7,e8,e9,n0,N8 (by omega),hc];simp) (gE (jd (by omega) (by decide)) (gE (jd (by rw[List.nil_append];omega) (by decide)) ?_))
 refine bs (aoO h (by omega) (by omega) (by omega) (by omega)) ?_
 refine sE (bs (aoQ hn hk hr ht) (bs (acp n) (tE rfl (tE (by simp) (bs (aoR hn hk hr) (tE (by simp) (bs (aoS hn hs) rfl)))))))
end Sh
end
section
open Go Go.Proofs Aq
namespace Sh
set_option linter.unusedVariables false
theorem aoV {n:Nat} {s:aD} {l:List Event} {x3 x4:Int} (hn:2^20<n) (hs:mD s n) (hl:l.length<n) (hb:l.length<2^62) (he:∀e∈l,N7 e n) (h3:0≤x3∧x3≤255) (h4:0≤x4∧x4≤255):
 NT n (s,(l,(x3,x4)))=some true:=by
 rw[amy]
 obtain⟨b,ok,hf,hbk⟩:=aov hn hs hl hb he
 cases ok with
 |false=>exact bs hf (bs (acp n) rfl)
 |true=>
  refine bs hf (bE rfl ?_)
  have hbf:=hbk rfl
  have hrows:=hbf.rows
  have hcm:=hbf.commit
  have apx:=hbf.days
  have hdl:b.bV.length≤l.length:=by
   by_cases h:b.bV.length≤l.length
   ·exact h
   ·obtain⟨e,h1,_⟩:=hbf.ev l.length _ (List.getElem?_eq_getElem (by omega))
    rw[List.getElem?_eq_none (Nat.le_refl _)] at h1
    cases h1
  have Ol:∀r∈b.Rows,lQ r.Entry.Vec r.Entry.aM:=fun r hr=>(hbf.row r hr).2.2.2.2.2
  have hw:IntKind.wrap IntKind.i64 (b.aH+(1:Int))=b.aH+1:=y8 (by omega) (by omega)
  have hne:(!((IntKind.wrap IntKind.i64 (b.aH+(1:Int)))==(0:Int)))=true:=by
   rw[hw]
   have:¬(b.aH+1=0):=by omega
   simp[this]
  refine gE hne (gE hne ?_)
  dsimp only
  have hmin:0≤jF x3 x4∧jF x3 x4≤255:=by unfold jF;split<;>omega
  have hmax:0≤imax x3 x4∧imax x3 x4≤255:=by unfold imax;split<;>omega
  have ha:0≤Int.tmod (IntKind.wrap IntKind.i64 (jF x3 x4)) (IntKind.wrap IntKind.i64 (b.aH+(1:Int)))∧Int.tmod (IntKind.wrap IntKind.i64 (jF x3 x4)) (IntKind.wrap IntKind.i64 (b.aH+(1:Int)))≤b.aH:=by
   rw[hw,lS (by omega) (by omega),Int.tmod_eq_emod_of_nonneg hmin.1]
   have h1:=Int.emod_nonneg (jF x3 x4) (show b.aH+1≠0 by omega)
   have h2:=Int.emod_lt_of_pos (jF x3 x4) (show 0<b.aH+1 by omega)
   omega
  have hb0:0≤Int.tmod (IntKind.wrap IntKind.i64 (imax x3 x4)) (IntKind.wrap IntKind.i64 (b.aH+(1:Int)))∧Int.tmod (IntKind.wrap IntKind.i64 (imax x3 x4)) (IntKind.wrap IntKind.i64 (b.aH+(1:Int)))≤b.aH:=by
   rw[hw,lS (by omega) (by omega),Int.tmod_eq_emod_of_nonneg hmax.1]
   have h1:=Int.emod_nonneg (imax x3 x4) (show b.aH+1≠0 by omega)
   have h2:=Int.emod_lt_of_pos (imax x3 x4) (show 0<b.aH+1 by omega)
   omega
  generalize Int.tmod (IntKind.wrap IntKind.i64 (jF x3 x4)) (IntKind.wrap IntKind.i64 (b.aH+(1:Int)))=a0 at ha⊢
  generalize Int.tmod (IntKind.wrap IntKind.i64 (imax x3 x4)) (IntKind.wrap IntKind.i64 (b.aH+(1:Int)))=b0 at hb0⊢
  have hf2:a0≤imax a0 b0∧imax a0 b0≤b.aH:=by unfold imax;split<;>omega
  generalize imax a0 b0=f2 at hf2⊢
  have F1:=Uf (f:=a0) hn hrows Ol ha.1 ha.2
  have F3:=Uf (f:=f2) hn hrows Ol (by omega) hf2.2
  have hR1:∀r∈(b.Rows.filter fun r=> !dL (dX (fU [] b.Rows)) a0 r),lQ r.Entry.Vec r.Entry.aM:=fun r hr=>Ol r (List.mem_filter.1 hr).1
  have Uh:(b.Rows.filter fun r=> !dL (dX (fU [] b.Rows)) a0 r).length≤65536:=Nat.le_trans (List.length_filter_le _ _) hrows
  have F2:=Uf (b:=⟨b.aD,b.aH,b.Day,b.bV,b.Rows.filter fun r=> !dL (dX (fU [] b.Rows)) a0 r⟩) (f:=f2) hn Uh hR1 (by omega) hf2.2
  have hlast:dX (fU [] (b.Rows.filter fun r=> !dL (dX (fU [] b.Rows)) a0 r))=dX (fU [] b.Rows):=funext fun y=>aow b.Rows a0 y
  dsimp only at F2
  rw[hlast] at F2
  generalize dX (fU [] b.Rows)=L at F1 F2 F3 hR1 Uh
  have hmono:∀r,dL L a0 r=true→dL L f2 r=true:=by
   intro r h
   unfold dL at h⊢
   simp only[Bool.and_eq_true,decide_eq_true_eq] at h⊢
   omega
  have hrr:((b.Rows.filter fun r=> !dL L a0 r).filter fun r=> !dL L f2 r)=b.Rows.filter fun r=> !dL L f2 r:=by
   rw[List.filter_filter]
   refine List.filter_congr fun r _=> ?_
   cases h:dL L a0 r with
   |true=>rw[hmono r h];rfl
   |false=>simp
  have hcnt:=acW (dL L a0) (dL L f2) hmono b.Rows
  rw[hrr] at F2
  have hy:∀r∈(b.Rows.filter fun r=> !dL L f2 r),lQ r.Entry.Vec r.Entry.aM:=fun r hr=>Ol r (List.mem_filter.1 hr).1
  have hyl:(b.Rows.filter fun r=> !dL L f2 r).length≤65536:=Nat.le_trans (List.length_filter_le _ _) hrows
  have hS:=aoL (n:=n) (b:=⟨b.aD,b.aH,b.Day,b.bV,b.Rows.filter fun r=> !dL L f2 r⟩) hy hn hyl (by show b.bV.length<n;omega) (by show b.bV.length<2^62;omega)
  have hl1:(b.Rows.filter (dL L a0)).length≤65536:=Nat.le_trans (List.length_filter_le _ _) hrows
  have hl2:((b.Rows.filter fun r=> !dL L a0 r).filter (dL L f2)).length≤65536:=Nat.le_trans (List.length_filter_le _ _) Uh
  have hl3:(b.Rows.filter (dL L f2)).length≤65536:=Nat.le_trans (List.length_filter_le _ _) hrows
  have hin:∀g∈(b.Rows.filter (dL L f2)).map (tu n),g∈((b.Rows.filter (dL L a0)).map (tu n))++(((b.Rows.filter fun r=> !dL L a0 r).filter (dL L f2)).map (tu n)):=by
   intro g hg
   obtain⟨r,hr,rfl⟩:=List.mem_map.1 hg
   obtain⟨hr1,hr2⟩:=List.mem_filter.1 hr
   rw[List.mem_append]
   cases h:dL L a0 r with
   |true=>exact .inl (List.mem_map.2 ⟨r,List.mem_filter.2 ⟨hr1,h⟩,rfl⟩)
   |false=>exact .inr (List.mem_map.2 ⟨r,List.mem_filter.2 ⟨List.mem_filter.2 ⟨hr1,by rw[h];rfl⟩,hr2⟩,rfl⟩)
  obtain⟨r7,JW,k7⟩:∃r7:Book×(List Gone)×Int,qN n (b,a0)=some r7∧r7=_:=⟨_,F1,rfl⟩
  have hy1:r7.1=⟨b.aD,b.aH,b.Day,b.bV,b.Rows.filter fun r=> !dL L a0 r⟩:=by rw[k7]
  have hg1:r7.2.1=(b.Rows.filter (dL L a0)).map (tu n):=by rw[k7]
  have hz1:r7.2.2=0:=by rw[k7]
  clear k7
  rw[←hy1] at F2
  obtain⟨r8,y9,k8⟩:∃r8:Book×(List Gone)×Int,qN n (r7.1,f2)=some r8∧r8=_:=⟨_,F2,rfl⟩
  have hy2:r8.1=⟨b.aD,b.aH,b.Day,b.bV,b.Rows.filter fun r=> !dL L f2 r⟩:=by rw[k8]
  have hg2:r8.2.1=((b.Rows.filter fun r=> !dL L a0 r).filter (dL L f2)).map (tu n):=by rw[k8]
  have hz2:r8.2.2=0:=by rw[k8]
  clear k8
  obtain⟨r9,za,k9⟩:∃r9:Book×(List Gone)×Int,qN n (b,f2)=some r9∧r9=_:=⟨_,F3,rfl⟩
  have hy3:r9.1=⟨b.aD,b.aH,b.Day,b.bV,b.Rows.filter fun r=> !dL L f2 r⟩:=by rw[k9]
  have hg3:r9.2.1=(b.Rows.filter (dL L f2)).map (tu n):=by rw[k9]
  have hz3:r9.2.2=0:=by rw[k9]
  clear k9
  refine bs JW (bs y9 (bs za ?_))
  exact aoU hn hs hbf.aou hrows (fun r hr=>⟨(hbf.row r hr).2.2.2.1,(hbf.row r hr).2.2.2.2.1⟩) (by rw[hg1,hg2,hg3];exact hin) (by rw[hg1,List.length_map];exact hl1) (by rw[hg2,List.length_map];exact hl2) (by rw[hg3,List.length_map];exact hl3)
   (by rw[hg1,hg2,hg3,List.length_map,List.length_map,List.length_map];exact hcnt) hz1 hz2 hz3 (by rw[hy2,hy3];exact hS)
end Sh
end
section
namespace Aq
open Go Go.RowKit Go.ChangeShapes Go.WideShapes
section
variable {P:Program} {w:World} (R:iM)
def Ui:(τ:Ty)→Den R.T τ→Prop
 |.int k,x=>k.has (show Int from x)
 |_,_=>True
def Om:(l:List Ty)→aj R.T (l.map Sk.d)→Prop
 | [],_=>True
 | [τ],x=>Ui R τ x
 |τ::τ'::l,p=>Ui R τ p.1∧Om (τ'::l) p.2
theorem acY (hty:∀t τ,R.ty t=some τ→kH R P t τ=true) {T:Nat→Nat} {t:TypeId} {v:Value} {τ:Ty} (ht:R.ty t=some τ) {r:Reach} {base:Nat} (hok:Value.okWide P w r base t v) {x:Den R.T τ} (h:Rel (KA w) T w (aF R τ x) v):Ui R τ x:=by
 have ho:=hty t τ ht
 cases τ with
 |int k=>
  simp only[kH] at ho
  split at ho
  ·rename_i k' hu
   have hk:k'=k:=of_decide_eq_true ho
   subst hk
   have h':Rel (KA w) T w (.int k' x) v:=h
   cases h'
   unfold Value.okWide at hok
   rw[hu] at hok
   have h2:Cell.ok P w r base t (.int k' x):=by
    unfold Cell.okWide at hok
    rw[hu] at hok
    exact hok
   unfold Cell.ok at h2
   rw[hu] at h2
   exact h2.2
  ·cases ho
 |bool=>trivial
 |str=>trivial
 |slice τ=>trivial
 |st n=>trivial
theorem acZ (hty:∀t τ,R.ty t=some τ→kH R P t τ=true) {T:Nat→Nat} {r:Reach} {base:Nat}:∀(l:List Ty) (ts:List TypeId) (vs:List Value) (p:aj R.T (l.map Sk.d)),ts.map R.ty=l.map some→
 (∀(j:Nat) t v,ts[j]? =some t→vs[j]? =some v→Value.okWide P w r base t v)→mE (KA w) T w (au R (l.map Sk.d) p) vs→Om R l p
 | [],ts,vs,p,hm,hok,h=>trivial
 | [τ],ts,vs,x,hm,hok,h=>by
   obtain⟨h1,h2⟩:=h
   cases ts with
   |nil=>simp at hm
   |cons u ts=>
    simp only[List.map_cons,List.map_nil,List.cons.injEq,List.map_eq_nil_iff] at hm
    obtain⟨hu,rfl⟩:=hm
    cases vs with
    |nil=>cases h1
    |cons v vs=>exact acY R hty hu (hok 0 u v rfl rfl) (h2 0 (Nat.zero_lt_one))
 |τ::τ'::l,ts,vs,p,hm,hok,h=>by
  obtain⟨h1,h2⟩:=h
  cases ts with
  |nil=>simp at hm
  |cons u ts=>
   rw[List.map_cons,List.map_cons] at hm
   injection hm with hu hm
   cases vs with
   |nil=>cases h1
   |cons v vs=>
    refine⟨acY R hty hu (hok 0 u v rfl rfl) (h2 0 (Nat.zero_lt_succ _)),acZ hty (T:=T) (τ'::l) ts vs p.2 hm (fun j t v h1 h2=>hok (j+1) t v h1 h2) ⟨?_,fun j hj=> ?_⟩⟩
    ·exact Nat.succ.inj h1
    ·exact h2 (j+1) (Nat.succ_lt_succ hj)
end
theorem aoW {E:Env} {R:iM} {H:Type} {enc:TypeId×Value→H} {bk:DataW H→Nat} {bs:List (DataW H)→Nat} (hb:Bulk H bk bs) (hR:mX R) (hty:∀t τ,R.ty t=some τ→kH R E.P t τ=true)
 {Tp:TypeId→Prop} (K:Kids E.P Tp) (hsz:∀{t e:TypeId},Tp t→E.P.underlying t=some (.slice e)→0<E.P.cellsOf e) {f:FuncId} {fn:Func} {s:ChangeSpec} {apart fresh handsOn again:Bool} {W:World} {base:Nat} {args:Array Value} {ds gs:List (DataW H)} {before:List MemPlace}
 {l:List Ty} (hl:fn.params.toList.map R.ty=l.map some) (hT:∀t∈fn.params.toList,Tp t) (hvars:s.vars=[])
 (hspec:s.fn H ds={results:=[.lit (.bool true)],args:=ds})
 {tb:TypeId} (hres:fn.resultTypes= #[tb]) (Uj:E.P.underlying tb=some .bool)
 (hval:∀(j:Nat) t v,fn.params[j]? =some t→args[j]? =some v→Value.okWide E.P W .any base t v)
 (hW:DataW.Whole enc E.P fn.params.toList s.vars apart W args.toList ds gs before)
 (aoX:∀g cs,E.glob g=some cs→Rel (KA W) (fun _=>0) W (.aK cs 0) (.pointer (some (at_ g 0))))
 (aoY:∀p:aj R.T (l.map Sk.d),jc (au R (l.map Sk.d) p)≤bs ds→Om R l p→mO E f (au R (l.map Sk.d) p) (.bool true)):
 Calls E.P f args W fun e W'=> ∃v,e= .returned v∧s.post enc E.P fn apart fresh handsOn again W args v W':=by
 have hW':=hW
 obtain⟨p,q,hA,hV,hpq,_,_⟩:=hW
 rw[hvars] at hV
 obtain⟨rfl,rfl⟩:=trodVars_none hV
 rw[List.append_nil] at hpq
 subst hpq
 obtain⟨x,h1,h2⟩:=acz R hb hR (T:=fun _=>0) hty (r:=.any) (base:=base) l fn.params.toList args.toList ds _ hl (fun j t v h1 h2=>hval j t v (by simpa using h1) (by simpa using h2)) hA
 obtain⟨_,hcall⟩:=aoY x h2 (acZ R hty l fn.params.toList args.toList x hl (fun j t v h1 h2=>hval j t v (by simpa using h1) (by simpa using h2)) h1)
 have hc:=callsIn_wide.1 (hcall (allI W) _ W args ⟨fun b o h=>h,fun b h=>h,aoX⟩ (anl h1))
 refine hc.mono fun e W' he=> ?_
 cases e with
 |returned c=>
  obtain⟨hbel,hrel⟩:=he
  cases hrel
  have hlt:∀p∈before,p.block<W.heap.size:=hW'.lt
  refine⟨_,rfl,anm (pa:=before) (pv:=[]) hW' (fun b sp hd=> ?_) (fun sp hs=> ?_) (fun sp hs=> ?_) (by simp) hbel ?_⟩
  ·rw[List.append_nil,hspec,hres]
   exact trodAll_mk1 ⟨1,by simp[DataW.trod,Uj,Value.cells]⟩
  ·rw[List.append_nil,hspec]
   exact acA K hsz hbel hT hA hlt hs
  ·rw[List.append_nil,hspec,hvars];exact rfl
  ·exact ok_one hres rfl (by unfold Value.okWide;rw[Uj];simp[Cell.okWide,Cell.ok,Uj])
 |panicked ch=>exact he.elim
 |outgrown=>exact he.elim
end Aq
end
