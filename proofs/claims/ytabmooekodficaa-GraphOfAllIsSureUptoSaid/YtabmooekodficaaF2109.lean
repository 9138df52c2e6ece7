import Derived.Test.YtabmooekodficaaF2108
set_option linter.all false
section
namespace Aq
open Go
section
variable {R:Reg} {E:Env}
variable {ρ:ak} {top:Nat->Nat}
def eB (ρ:ak) (top:Nat->Nat) (v:Option V):Res R->Prop
 |.t x=>∃y,v=some y/\Rl R ρ top x y
 |.c c x=>c=true->∃y,v=some y/\Rl R ρ top x y
 |.p _ _ o f=>∀a,o=some a->∃y,v=some y/\Rl R ρ top (f a) y
 |_=>False
theorem Dk {op:BinOp} {k:IntKind} {x y:Int} {r:Res R} (h:intM R op k x y=some r):eB ρ top (bZ op k x y) r:=by
 unfold intM at h
 cases op<;>cases h<;>first
  |exact⟨_,rfl,by unfold Rl;rfl⟩
  | (intro hc
     have hy:¬y=0:=by simpa using hc
     exact⟨_,if_neg hy,by unfold Rl;rfl⟩)
theorem ME {op:BinOp} {k:IntKind} {x y:Int} {r:Res R} (h:shiftM R op k x y=some r):eB ρ top (nV op k x y) r:=by
 unfold shiftM at h
 cases op<;>cases h<;>
  (intro hc
   have hy:¬y<0:=by have:=of_decide_eq_true hc;omega
   exact⟨_,if_neg hy,by unfold Rl;rfl⟩)
theorem MF {op:BinOp} {x y:List UInt8} {r:Res R} (h:strM R op x y=some r):eB ρ top (jR op x y) r:=by
 unfold strM at h
 cases op<;>cases h<;>first
  |exact⟨_,rfl,by unfold Rl;rfl⟩
  | (intro hc
     have hy:¬((x.length+y.length:Nat):Int)>IntKind.i64.max:=by have:=of_decide_eq_true hc;omega
     exact⟨_,if_neg hy,by unfold Rl;rfl⟩)
theorem MG {P:Program} {op:BinOp} {t:TypeId} {k:IntKind} {a b:Int} (h:isShift op=false):fQ P op t (.int k a) (.int k b)=bZ op k a b:=by
 cases op<;>first| (simp[isShift] at h;done)|simp[fQ]
theorem MH {P:Program} {op:BinOp} {t:TypeId} {k k':IntKind} {a b:Int} (h:isShift op=true):fQ P op t (.int k a) (.int k' b)=nV op k a b:=by
 cases op<;>first| (simp[isShift] at h;done)|rfl
theorem MI {P:Program} {op:BinOp} {t:TypeId} {a b:List UInt8}:fQ P op t (.str a) (.str b)=jR op a b:=by
 cases op<;>rfl
theorem MJ {P:Program} {t:TypeId} {x y:V} {b:Bool} (h:eX P t x y=some b):(∀k n k' m,x= .int k n->y= .int k' m->False)/\∀s s',x= .str s->y= .str s'->False:=by
 unfold eX at h
 constructor
 ·intro k n k' m hx hy;subst hx;subst hy;split at h<;>simp_all
 ·intro s s' hx hy;subst hx;subst hy;split at h<;>simp_all
theorem sQ {P:Program} {t:TypeId} {x y:V} {b:Bool} (h:eX P t x y=some b):fQ P .eql t x y=some (.bool b)/\fQ P .neq t x y=some (.bool !b):=by
 obtain⟨h1,h2⟩:=MJ h
 constructor
 all_goals
  unfold fQ
  split
  ·rename_i he;cases he
  ·rename_i he;cases he
  ·exact(h1 _ _ _ _ rfl rfl).elim
  ·exact(h2 _ _ rfl rfl).elim
  all_goals first| (rw[h];rfl)| (rename_i he;cases he)|simp_all
theorem Dl {t:TypeId} {x y:TV R.T} {v w:V} {c b:Bool} (h:nilM E R t x y=some (c,b)) (hx:Rl R ρ top x v) (hy:Rl R ρ top y w) (hc:c=true):eX E.P t v w=some b:=by
 unfold nilM at h
 split at h
 ·rename_i hu
  cases h;rw[hx.eP,hy.eP]
  unfold eX;rw[hu]
 ·rename_i hu
  cases h
  obtain⟨c',rfl,hcr⟩:=hx.bW
  have MK:c'= .nil:=hcr
  subst MK
  rw[hy.eP,List.isEmpty_iff.1 hc];unfold eX;rw[hu];rfl
 ·rename_i _ _ l _ hu
  cases h
  obtain⟨c',rfl,hcr⟩:=hx.bW
  match l,hc with
  |a::l,_=>rw[hy.eP];unfold eX;rw[hu];cases c'<;>rfl
 ·cases h
theorem ML {op:BinOp} {t:TypeId} {x y:TV R.T} {v w:V} {r:Res R} (h:binM E R op t x y=some r) (hx:Rl R ρ top x v) (hy:Rl R ρ top y w):eB ρ top (fQ E.P op t v w) r:=by
 unfold binM at h
 split at h
 ·rename_i k a k' b
  rw[hx.inv_int,hy.inv_int]
  cases hs:isShift op
  ·rw[hs,cond_false] at h
   split at h
   ·rename_i e;subst e;rw[MG hs];exact Dk h
   ·cases h
  ·rw[hs,cond_true] at h;rw[MH hs];exact ME h
 ·rw[hx.dH,hy.dH,MI];exact MF h
 ·split at h
  ·split at h
   ·rename_i c b hb;cases h
    exact fun hc=>⟨_,(sQ (Dl hb hx hy hc)).1,by unfold Rl;rfl⟩
   ·split at h
    ·rename_i b hb;cases h
     exact⟨_,(sQ (Dj hb hx hy)).1,by unfold Rl;rfl⟩
    ·cases h
  ·split at h
   ·rename_i c b hb;cases h
    exact fun hc=>⟨_,(sQ (Dl hb hx hy hc)).2,by unfold Rl;rfl⟩
   ·split at h
    ·rename_i b hb;cases h
     exact⟨_,(sQ (Dj hb hx hy)).2,by unfold Rl;rfl⟩
    ·cases h
  ·cases h
theorem MN {op:UnOp} {x:TV R.T} {v:V} {r:Res R} (h:unM R op x=some r) (hx:Rl R ρ top x v):eB ρ top (kQ op v) r:=by
 unfold unM at h
 split at h
 ·cases h;rw[hx.inv_int];exact⟨_,rfl,by unfold Rl;rfl⟩
 ·rw[hx.inv_int];exact Dk h
 ·cases h;rw[hx.fA];exact⟨_,rfl,by unfold Rl;rfl⟩
 ·cases h;rw[hx.ig];exact⟨_,rfl,by unfold Rl;rfl⟩
 ·cases h
theorem Dm (s:List UInt8):s.map dU=List.map (encD R (.int .u8)) (s.map fun b=>((b.toNat:Nat):Int)):=by
 show s.map dU=List.map (fun n:Int=>V.int .u8 n) (List.map (fun b:UInt8=>((b.toNat:Nat):Int)) s)
 rw[RQ];rfl
theorem xA:∀l:List Int,(List.map (encD R (.int .u8)) l).mapM kR=some (List.map (fun n:Int=>UInt8.ofNat n.toNat) l)
 | []=>rfl
 |n::l=>by
  show List.mapM kR (V.int .u8 n::List.map (encD R (.int .u8)) l)=_
  rw[QH,xA l];rfl
theorem MO {a b:TypeId} {x:TV R.T} {v:V} {σ:Sig} {r:Res R} (h:convM E R a b x=some r) (hx:Rl R ρ top x v):eB ρ top (jy E.P σ a b v) r:=by
 unfold convM at h
 unfold jy
 split at h
 ·rename_i hu hv;cases h;rw[hx.inv_int,hu,hv];exact⟨_,rfl,by unfold Rl;rfl⟩
 ·rename_i hu hv;cases h;rw[hx.dH,hu,hv];exact⟨_,rfl,by unfold Rl;rfl⟩
 ·rename_i hu hv
  rw[hx.dH,hu,hv]
  split at h
  ·rename_i he;cases h
   dsimp only;rw[he]
   exact⟨_,rfl,by unfold Rl;exact⟨.sh,by rw[Dm],trivial⟩⟩
  ·cases h
 ·rename_i l hu hv
  obtain⟨c',rfl,_⟩:=hx.bW
  rw[hu,hv]
  split at h
  ·rename_i he;cases h
   dsimp only;rw[he]
   exact⟨_,congrArg (Option.map V.str) (xA (R:=R) l),by unfold Rl;rfl⟩
  ·cases h
 ·rename_i hu hv
  rw[hx.eP,hu,hv]
  split at h
  ·rename_i he;cases h
   dsimp only;rw[he]
   exact⟨_,rfl,by unfold Rl;rfl⟩
  ·cases h
 ·cases h
theorem kF {x:Option (TV R.T)} {v:Option V} {i:Option Int} (h:bndM R x=some i) (hx:∀y,x=some y->∃w,v=some w/\Rl R ρ top y w) (hn:x=none->v=none):(i=none/\v=none)\/∃n k,i=some n/\v=some (.int k n):=by
 unfold bndM at h
 split at h
 ·cases h;exact .inl ⟨rfl,hn rfl⟩
 ·rename_i k n
  cases h
  obtain⟨w,rfl,hw⟩:=hx _ rfl
  exact .inr ⟨n,k,rfl,by rw[hw.inv_int]⟩
 ·cases h
theorem iy {k:IntKind} {n:Int} {m:Nat} (h:inB n m=true):bnd (.int k n) m=some n.toNat:=by
 unfold inB at h
 have:=of_decide_eq_true h
 simp[bnd,dw,this]
theorem Dn {α:Type} (l:List α) {lo hi:Option Int} {vl vh:Option V} (hl:(lo=none/\vl=none)\/∃n k,lo=some n/\vl=some (.int k n)) (hh:(hi=none/\vh=none)\/∃n k,hi=some n/\vh=some (.int k n)) (hb:subB l.length lo hi=true):
 ∃a c,bO l.length l.length vl vh none=some (a,c,l.length)/\(l.take c).drop a=subL l lo hi:=by
 rcases hl with ⟨rfl,rfl⟩| ⟨n,k,rfl,rfl⟩<;>rcases hh with ⟨rfl,rfl⟩| ⟨m,k',rfl,rfl⟩
 ·exact⟨0,l.length,rfl,by simp[subL]⟩
 ·have h1:inB m l.length=true:=hb
  exact⟨0,m.toNat,by simp[bO,iy h1],by simp[subL]⟩
 ·have h1:inB n l.length=true:=hb
  exact⟨n.toNat,l.length,by simp[bO,iy h1],by simp[subL]⟩
 ·have h1:(inB m l.length&& inB n m.toNat)=true:=hb
  rw[iP] at h1
  exact⟨n.toNat,m.toNat,by simp[bO,iy h1.1,iy h1.2],by simp[subL]⟩
theorem xB {α:Type} (f:α->V) (l:List α) (a c:Nat):((l.map f).take c).drop a=((l.take c).drop a).map f:=by simp
variable (hR:RegOK R)
include hR
theorem nC (t:Ty) (x:Den R.T t):(encD R t x).cells.length=szD R t/\oneCells (encD R t x).cells=true/\er (encD R t x)=encD R t x/\(isSt t=true->∃l,encD R t x= .agg l)/\(isSt t=false->(encD R t x).cells=[encD R t x]):=by
 cases t with
 |int k=>exact⟨rfl,rfl,rfl,by simp[isSt],fun _=>rfl⟩
 |bool=>exact⟨rfl,rfl,rfl,by simp[isSt],fun _=>rfl⟩
 |str=>exact⟨rfl,rfl,rfl,by simp[isSt],fun _=>rfl⟩
 |slice t=>exact⟨rfl,rfl,rfl,by simp[isSt],fun _=>rfl⟩
 |st n=>
  have he:encD R (.st n) x= .agg (encs R (R.lf n) (R.of n x)):=hR.enc n x
  rw[he]
  have hl:=hR.leaf n
  have key:∀(l:List Ty) (p:PayT R.T l),l.all dO=true->oneCells (encs R l p)=true/\(encs R l p).map aP=encs R l p:=by
   intro l
   induction l with
   |nil=>intro p _;exact⟨rfl,rfl⟩
   |cons t l ih=>
    intro p h
    rw[List.all_cons,iP] at h
    have h1:∀y:Den R.T t,oneCell (encD R t y)=true/\aP (encD R t y)=encD R t y:=by
     intro y
     cases t<;>first|exact⟨rfl,rfl⟩| (have:=h.1;simp[dO] at this)
    cases l with
    |nil=>exact⟨by simp[encs,oneCells,(h1 p).1],by simp[encs,(h1 p).2]⟩
    |cons u l=>
     have:=ih p.2 h.2
     exact⟨by show (oneCell _&& oneCells (encs R (u::l) p.2))=true;rw[(h1 p.1).1,this.1];rfl,by show aP _::List.map aP (encs R (u::l) p.2)=_;rw[(h1 p.1).2,this.2];rfl⟩
  have:=key (R.lf n) (R.of n x) hl
  exact⟨wU _ _,this.1,by show V.agg (List.map aP _)=_;rw[this.2],fun _=>⟨_,rfl⟩,by simp[isSt]⟩
theorem pW {t:Ty} (l:List (Den R.T t)):eY (szD R t) (l.map (encD R t))=true:=by
 cases l with
 |nil=>rfl
 |cons x l=>show ((encD R t x).cells.length==szD R t)=true;rw[(nC hR t x).1];simp
theorem MP {t:TypeId} {x:TV R.T} {lo hi:Option (TV R.T)} {v:V} {vl vh:Option V} {σ:Sig} {r:Res R} (h:sliceM E R t x lo hi=some r) (hx:Rl R ρ top x v)
 (hl:∀y,lo=some y->∃w,vl=some w/\Rl R ρ top y w) (hln:lo=none->vl=none) (hh:∀y,hi=some y->∃w,vh=some w/\Rl R ρ top y w) (hhn:hi=none->vh=none):eB ρ top (dI E.P σ t v vl vh none) r:=by
 unfold sliceM at h
 split at h
 ·rename_i lo' hi' e1 e2
  have b1:=kF e1 hl hln
  have b2:=kF e2 hh hhn
  split at h
  ·rename_i s hu
   cases h
   rw[hx.dH]
   intro hc
   obtain⟨a,c,h1,h2⟩:=Dn s b1 b2 hc
   refine⟨.str (subL s lo' hi'),?_,by unfold Rl;rfl⟩
   unfold dI;rw[hu];dsimp only;rw[h1];simp[h2]
  ·rename_i e c u l hu
   split at h
   ·rename_i sz hs
    cases hb:Nat.beq sz (szD R u)
    ·rw[hb] at h;cases h
    ·rw[hb,cond_true] at h;cases h
     have:=aJ hb;subst this
     obtain⟨c',rfl,_⟩:=hx.bW
     intro hc
     obtain⟨a,m,h1,h2⟩:=Dn l b1 b2 hc
     unfold dI;rw[hu];dsimp only
     rw[hs];simp only[Option.bind_some,Qy,h1,pW hR,if_true]
     by_cases hcs:a=0/\m=l.length/\(none:Option V).isNone=true
     ·refine⟨_,by rw[if_pos hcs],?_⟩
      unfold Rl
      refine⟨c',?_,trivial⟩
      rw[<-h2,hcs.1,hcs.2.1];simp
     ·refine⟨_,by rw[if_neg hcs],?_⟩
      unfold Rl
      exact⟨_,by rw[<-h2,xB],trivial⟩
   ·cases h
  ·cases h
 ·cases h
theorem sS {t:TypeId} {k:Ty} (hk:keyM E t k=true) (x y:Den R.T k):dS (encD R k x) (encD R k y)=some (beqD R k x y)/\dD E.P t (encD R k x)=true:=by
 unfold keyM at hk
 split at hk
 ·rename_i hu;exact⟨by simp[dS,encD,beqD],by unfold dD;rw[hu];rfl⟩
 ·rename_i hu;exact⟨rfl,by unfold dD;rw[hu];rfl⟩
 ·rename_i hu;exact⟨rfl,by unfold dD;rw[hu];rfl⟩
 ·cases hk
theorem Dp {t:TypeId} {k e:Ty} (hk:keyM E t k=true) (x:Den R.T k):∀m:List (Den R.T k×Den R.T e),fE (encD R k x) (m.map fun p=>encD R k p.1) (m.map fun p=>encD R e p.2)=some ((mget (beqD R k) x m).map (encD R e))
 | []=>rfl
 | (a,v)::m=>by
   show (dS (encD R k x) (encD R k a)).bind _=some ((bif beqD R k x a then some v else mget (beqD R k) x m).map (encD R e))
   rw[(sS hR hk x a).1,Option.bind_some]
   cases beqD R k x a
   ·exact Dp hk x m
   ·rfl
theorem Dq {t:TypeId} {k e:Ty} (hk:keyM E t k=true) (x:Den R.T k) (v:Den R.T e):∀m:List (Den R.T k×Den R.T e),jf (encD R k x) (encD R e v) (m.map fun p=>encD R k p.1) (m.map fun p=>encD R e p.2)=
 some ((mset (beqD R k) x v m).map (fun p=>encD R k p.1),(mset (beqD R k) x v m).map fun p=>encD R e p.2)
 | []=>rfl
 | (a,w)::m=>by
   show (dS (encD R k x) (encD R k a)).bind _=_
   rw[(sS hR hk x a).1,Option.bind_some]
   show _=some (List.map _ (bif beqD R k x a then (x,v)::m else (a,w)::mset (beqD R k) x v m),List.map _ (bif beqD R k x a then (x,v)::m else (a,w)::mset (beqD R k) x v m))
   cases beqD R k x a
   ·simp only[Qv,if_false,cond_false]
    rw[Dq hk x v m];rfl
   ·rfl
theorem Dr {t:TypeId} {k:Ty} (hk:keyM E t k=true) {x:Den R.T k} {y:TV R.T} {v:V} (h:unD R k y=some x) (hr:Rl R ρ top y v):v=encD R k x:=by
 unfold keyM at hk
 split at hk
 ·exact wQ h hr
 ·exact wT h hr
 ·exact wR h hr
 ·cases hk
omit hR in
def mapOf (σ:Sig):V->Option (List V×List V)
 |.nilm=>some ([],[])
 |.mapr loc s=>σ.aV loc s
 |.mapc ks vs=>some (ks,vs)
 |_=>none
omit hR in
theorem Dt {P:Program} {σ:Sig} {t:TypeId} {m k:V} {ok:Bool}:jg P σ t m k ok=(mapT P t).bind fun p=>if dD P p.1 k then (mapOf σ m).bind fun q=>(fE k q.1 q.2).bind fun r=>
 (match r with|some v=>some (v,true)|none=>(zeroT P p.2).map fun z=>(z,false)).map fun (x:V×Bool)=>if ok then .tup [x.1,.bool x.2] else x.1 else none:=by
 cases m<;>rfl
theorem xC {t:TypeId} {k e:Ty} {m:List (Den R.T k×Den R.T e)} {y:TV R.T} {w mv:V} {ok:Bool} {σ:Sig} {r:Res R} (h:lookM E R t k e m y ok=some r) (hy:Rl R ρ top y w)
 (hm:mapOf σ mv=some (m.map (fun p=>encD R k p.1),m.map fun p=>encD R e p.2)):eB ρ top (jg E.P σ t mv w ok) r:=by
 unfold lookM at h
 split at h
 ·rename_i kt et ht
  cases hk:keyM E kt k
  ·rw[hk] at h;cases h
  ·rw[hk,cond_true] at h
   split at h
   ·rename_i z hz
    split at h
    ·rename_i z' x hz' hx
     cases h
     have hw:=Dr hR hk hx hy
     subst hw
     obtain⟨zv,hzv,xD⟩:=lN (ρ:=ρ) (top:=top) hz
     have MQ:=lM hR hz' xD
     rw[Dt,ht];simp only[Option.bind_some]
     rw[if_pos (sS hR hk x x).2,hm]
     simp only[Option.bind_some]
     rw[Dp hR hk x m]
     simp only[Option.bind_some]
     cases hg:mget (beqD R k) x m with
     |some v=>
      simp only[Option.map_some]
      cases ok
      ·exact⟨_,rfl,sJ hR .any (.inl rfl) e v⟩
      ·refine⟨_,rfl,?_⟩
       rw[cond_true]
       unfold Rl
       exact⟨_,rfl,.cons' (sJ hR .any (.inl rfl) e v) (.cons' (by unfold Rl;rfl) rfl)⟩
     |none=>
      simp only[Option.map_none,hzv,Option.map_some]
      have hz3:Rl R ρ top (tvD R .any e z') zv:=MQ
      cases ok
      ·exact⟨_,rfl,hz3⟩
      ·refine⟨_,rfl,?_⟩
       rw[cond_true]
       unfold Rl
       exact⟨_,rfl,.cons' hz3 (.cons' (by unfold Rl;rfl) rfl)⟩
    ·cases h
   ·cases h
 ·cases h
end
end Aq
end
section
namespace Aq
open Go
section
variable {R:Reg} {E:Env}
variable {ρ:ak} {top:Nat->Nat} {b:Nat} {st:MS R.T} {fr:Fr} {σ:Sig}
theorem aH.{u} {α:Type u} {c:Bool} {o:Option α} {y:α} (h:(bif c then o else none)=some y):c=true/\o=some y:=by
 cases c
 ·cases h
 ·exact⟨rfl,h⟩
theorem nD {t e:TypeId} {u:Ty} {sz by_:Nat} (h:elM E R t=some (e,u,sz,by_)):∃z,elemT E.P t=some e/\szT E.P e=some sz/\bytesT E.P e=some by_/\isAggT E.P e=some (isSt u)/\zeroT E.P e=some z/\
 sz=szD R u/\0<sz/\(isSt u||sz==1)=true/\z.cells.length=sz:=by
 unfold elM at h
 split at h
 ·rename_i e' he
  split at h
  ·rename_i u' sz' by' ag z h1 h2 h3 h4 h5
   obtain⟨hc,h⟩:=aH h
   cases h
   simp only[iP] at hc
   obtain⟨⟨⟨⟨c1,c2⟩,c3⟩,c4⟩,c5⟩:=hc
   have:ag=isSt u:=by simpa using c5
   subst this
   refine⟨z,he,h2,h3,h4,h5,aJ c1,QJ c2,?_,aJ c4⟩
   rw[Rq] at c3⊢
   rcases c3 with c3|c3
   ·exact .inl c3
   ·exact .inr (by rw[aJ c3];rfl)
  ·cases h
 ·cases h
theorem xE (ag:Bool) (sz:Nat):∀vs:List V,(∀v∈vs,v.cells.length=sz)->chunks ag sz vs.length (vs.flatMap V.cells)=vs.map fun v=>if ag then .agg v.cells else v.cells.headD undefV
 | [],_=>rfl
 |v::vs,h=>by
  have h1:=h v (by simp)
  have h2:=xE ag sz vs (fun w hw=>h w (by simp[hw]))
  show _::chunks ag sz vs.length ((v.cells++vs.flatMap V.cells).drop sz)=_
  rw[List.drop_left' h1,h2,QA]
  congr 1
  cases ag
  ·simp only[Qv,if_false]
   show (v.cells++vs.flatMap V.cells).headD undefV=_
   cases hv:v.cells with
   |nil=>
    have h0:sz=0:=by rw[<-h1,hv];rfl
    cases vs with
    |nil=>rfl
    |cons w vs=>
     have:w.cells=[]:=Rf (by rw[h w (by simp),h0])
     simp only[QV,this,List.nil_append]
     have:∀vs:List V,(∀v∈vs,v.cells.length=sz)->vs.flatMap V.cells=[]:=by
      intro vs hvs
      rw[List.flatMap_eq_nil_iff]
      intro x hx;exact Rf (by rw[hvs x hx,h0])
     rw[this vs (fun x hx=>h x (by simp[hx]))]
   |cons a l=>rfl
  ·simp only[if_true]
   show V.agg ((v.cells++vs.flatMap V.cells).take sz)=_
   rw[List.take_left' h1]
variable (hR:RegOK R)
include hR
theorem MR {t:Ty} {x:Den R.T t} {v:V} (h:er v=encD R t x):notRaw v=true:=by
 cases v<;>try rfl
 have h1:=fK hR t x
 rw[<-h] at h1
 simp[er,pclean] at h1
theorem xG {u:Ty} {sz len:Nat} (hsz:sz=szD R u):∀(ps:List (Nat×TV R.T)) (qs:List (Nat×V)) (xs:List (Den R.T u)) (n:Nat) (done rest:List V),unDs R u n ps=some xs->ps.map (·.1)=qs.map (·.1)->
 RlL R ρ top (ps.map (·.2)) (qs.map (·.2))->done.length=n*sz->rest.length=xs.length*sz->n+xs.length<=len->
 ∃vs:List V,gL (fun i=>if i<len then some (i*sz,sz) else none) (done++rest) qs=some (done++vs.flatMap V.cells)/\vs.length=xs.length/\vs.map er=xs.map (encD R u)/\(∀v∈vs,v.cells.length=sz/\oneCells v.cells=true)/\RlL R ρ top (xs.flatMap fun x=>(tvD R .any u x).cells) (vs.flatMap V.cells)
 | [],[],xs,n,done,rest,h,_,_,h1,h2,_=>by
   cases h
   have:rest=[]:=Rf (by simpa using h2)
   subst this
   exact⟨[],by simp[gL],rfl,rfl,by simp,by rfl⟩
 | [],_::_,_,_,_,_,_,h,_,_,_,_=>by simp at h
 |_::_,[],_,_,_,_,_,h,_,_,_,_=>by simp at h
 | (i,v)::ps,(j,w)::qs,xs,n,done,rest,h,hi,hr,h1,h2,h3=>by
   simp only[QA,Rb] at hi
   obtain⟨rfl,hi⟩:=hi
   obtain⟨y,ys,e,g1,g2⟩:=hr.inv_cons
   simp only[QA,Rb] at e
   obtain⟨rfl,rfl⟩:=e
   unfold unDs at h
   cases hb:Nat.beq i n
   ·rw[hb] at h;cases h
   ·rw[hb,cond_true] at h
    have:=aJ hb;subst this
    cases hu:unD R u v with
    |none=>simp only[hu] at h;cases h
    |some x=>
     cases hs:unDs R u (i+1) ps with
     |none=>simp only[hu,hs] at h;cases h
     |some xs'=>
      simp only[hu,hs] at h
      obtain rfl:=QL h
      obtain⟨a1,a2,a3,a4,a5⟩:=wW hR hu g1
      rw[<-hsz] at a4
      have hlen:rest.length=sz+xs'.length*sz:=by rw[h2,List.length_cons,Ra];omega
      have q1:(done++w.cells).length=(i+1)*sz:=by rw[QI,h1,a4,Ra]
      have q2:(rest.drop sz).length=xs'.length*sz:=by rw[Q9,hlen,RA]
      have q3:i+1+xs'.length<=len:=by rw[List.length_cons] at h3;omega
      obtain⟨vs,k1,k2,k3,k4,k5⟩:=xG hsz ps qs xs' (i+1) (done++w.cells) (rest.drop sz) hs hi g2 q1 q2 q3
      refine⟨w::vs,?_,by simp[k2],by simp[a1,k3],?_,?_⟩
      ·simp only[List.length_cons] at h3
       unfold gL
       simp only[if_pos (show i<len by omega)]
       rw[if_pos ⟨a4,by rw[QI,h1,hlen];exact Nat.add_le_add_left (QM _ _) _,MR hR a1⟩]
       have:spliceL (done++rest) (i*sz) w.cells=done++w.cells++rest.drop sz:=by
        unfold spliceL
        rw[List.take_left' h1,a4,RJ,h1,RA,RF (by omega)]
        rfl
       rw[this,k1]
       simp
      ·intro z hz
       rcases QN.1 hz with rfl|hz
       ·exact⟨a4,a5⟩
       ·exact k4 z hz
      ·rw[QV,QV]
       refine RlL.append ?_ k5
       have h1:=lM hR hu g1
       refine(gF ?_ h1).1
       cases u<;>rfl
theorem MU {u:Ty} {sz:Nat} (hsz:sz=szD R u) (h1:(isSt u||sz==1)=true) {v:V} {x:Den R.T u} (he:er v=encD R u x) (hl:v.cells.length=sz):er (if isSt u then .agg v.cells else v.cells.headD undefV)=encD R u x:=by
 cases hs:isSt u
 ·simp only[Qv,if_false]
  have hne:∀cs,v≠ .agg cs:=by
   rintro cs rfl
   cases u<;>first| (simp[isSt] at hs;done)| (simp[er,encD] at he;done)
  have:v.cells=[v]:=by cases v<;>first|rfl|exact absurd rfl (hne _)
  rw[this];exact he
 ·simp only[if_true]
  obtain⟨l,hl'⟩:=(nC hR u x).2.2.2.1 hs
  cases v<;>first|exact he| (rw[hl'] at he;simp[er] at he)
omit hR in
theorem Du {u:Ty}:∀(ps:List (Nat×TV R.T)) (n:Nat) (xs:List (Den R.T u)),unDs R u n ps=some xs->xs.length=ps.length:=by
 intro ps
 induction ps with
 |nil=>intro n xs h;cases h;rfl
 |cons p ps ih=>
  intro n xs h
  obtain⟨i,v⟩:=p
  unfold unDs at h
  obtain⟨_,h⟩:=aH h
  cases hu:unD R u v with
  |none=>simp only[hu] at h;cases h
  |some x=>
   cases hs:unDs R u (n+1) ps with
   |none=>simp only[hu,hs] at h;cases h
   |some xs'=>simp only[hu,hs] at h;cases h;simp[ih _ _ hs]
theorem MV {t:TypeId} {len:Nat} {ps:List (Nat×TV R.T)} {qs:List (Nat×V)} {r:Res R} (h:bslM E R t len ps=some r) (hi:ps.map (·.1)=qs.map (·.1)) (hr:RlL R ρ top (ps.map (·.2)) (qs.map (·.2))):eB ρ top (nW E t len qs) r:=by
 unfold bslM at h
 split at h
 ·rename_i e u sz by_ he
  obtain⟨z,e1,e2,e3,e4,e5,e6,e7,e8,e9⟩:=nD he
  ·obtain⟨hc,h⟩:=aH h
   rw[iP] at hc
   split at h
   ·rename_i xs hx
    cases h
    have hlen:xs.length=len:=by rw[Du ps 0 xs hx];exact aJ hc.2
    obtain⟨vs,k1,k2,k3,k4,_⟩:=xG hR (len:=len) e6 ps qs xs 0 [] ((List.replicate len z.cells).flatten) hx hi hr (by simp) (by simp[e9,hlen]) (by omega)
    refine⟨.lst .full (xs.map (encD R u)),?_,by unfold Rl;exact⟨.full,rfl,rfl⟩⟩
    unfold nW
    rw[e1];simp only[Option.bind_some,e2,e4,e5]
    rw[if_pos ⟨QJ hc.1,e9,e7,e8⟩]
    rw[List.nil_append,List.nil_append] at k1
    rw[k1]
    simp only[Option.bind_some]
    have hone:oneCells (vs.flatMap V.cells)=true:=by
     unfold oneCells
     rw[List.all_flatMap,QK]
     intro v hv;exact(k4 v hv).2
    rw[hone,if_pos rfl,<-hlen,<-k2,xE _ _ _ (fun v hv=>(k4 v hv).1),RQ]
    congr 2
    have:∀(vs:List V) (xs:List (Den R.T u)),vs.map er=xs.map (encD R u)->(∀v∈vs,v.cells.length=sz/\oneCells v.cells=true)->vs.map (er∘fun v=>if isSt u then .agg v.cells else v.cells.headD undefV)=xs.map (encD R u):=by
     intro vs
     induction vs with
     |nil=>intro xs h _;exact h
     |cons v vs ih=>
      intro xs h hk
      cases xs with
      |nil=>simp at h
      |cons x xs=>
       simp only[QA,Rb] at h
       rw[QA,QA,ih xs h.2 (fun w hw=>hk w (by simp[hw]))]
       congr 1
       exact MU hR e6 e8 h.1 (hk v (by simp)).1
    rw[this vs xs k3 k4]
   ·cases h
 ·cases h
theorem xH {u:Ty} (l:List (Den R.T u)):(l.map (encD R u)).all (fun v=>oneCells v.cells)=true:=by
 simp[List.all_map,(nC hR u _).2.1]
theorem xI {u:Ty} {ag:Bool} {y:TV R.T} {v z:V} {l:List (Den R.T u)} (h:srcM R u y=some l) (hy:Rl R ρ top y v):dG σ ag (szD R u) z v=some (l.map (encD R u))/\jA v=false:=by
 unfold srcM at h
 split at h
 ·obtain⟨e,e2⟩:=iq h;subst e;cases e2
  obtain⟨c',rfl,_⟩:=hy.bW
  exact⟨by show (if eY _ _=true then _ else _)=_;rw[if_pos (pW hR _)],rfl⟩
 ·cases h;rw[hy.eP];exact⟨rfl,rfl⟩
 ·rename_i s
  obtain⟨e,e2⟩:=iq h;subst e;cases e2
  rw[hy.dH]
  exact⟨by show (if 1=1 then some (s.map dU) else none)=_;rw[if_pos rfl];exact congrArg some (Dm (R:=R) s),rfl⟩
 ·cases h
theorem MW {t e:TypeId} {sz by_:Nat} {ag:Bool} {z:V} {c:Cap} {l ys:List V} {y:V} {loc:Option Loc} {ah:Nat} {P:Program} (h1:elemT P t=some e) (h2:szT P e=some sz) (h3:bytesT P e=some by_) (h4:isAggT P e=some ag) (h5:zeroT P e=some z)
 (h6:z.cells.length=sz) (h7:0<sz) (h8:(ag||sz==1)=true) (hy:dG σ ag sz z y=some ys) (hi:jA y=false) (ho:ys.all (fun v=>oneCells v.cells)=true) (hr:roomOK (l.length+ys.length) by_=true) (hh:eY sz l=true):
 eF P false false σ ah loc t (.lst c l) y=match c with
  |.own n s=>if n=sz/\σ.top s=l.length then some (.lst (.own n s) (l++ys),σ.aG s (l.length+ys.length)) else none
  |.nil|.full=>some (.lst (.own sz ah) (l++ys),σ.aG ah (l.length+ys.length))
  |_=>none:=by
 unfold eF
 simp only[h1,h2,h3,h4,h5,Option.bind_some,hi,hy,ho,if_true]
 rw[if_pos ⟨trivial,h6,h7,h8⟩]
 simp only[hr,hh,and_self,if_true]
 cases c<;>rfl
theorem MX {d:Option Nat} {t u:TypeId} {x y:TV R.T} {v w:V} {r:Res R} {ah:Nat} {loc:Option Loc} {o:Oper} (h:appM E R d t u x y st=some r) (hx:Rl R ρ σ.top x v) (hy:Rl R ρ σ.top y w) (hi:aj ρ ah st fr σ)
 (ho:∀y σ',eF E.P false false σ ah loc t v w=some (y,σ')->dA E fr σ ah o y σ'):fB E st ρ ah fr σ o r:=by
 unfold appM at h
 split at h
 ·rename_i d
  split at h
  ·rename_i e τ sz by_ he
   obtain⟨z,e1,e2,e3,e4,e5,e6,e7,e8,e9⟩:=nD he
   ·obtain⟨hss,h⟩:=aH h
    split at h
    ·rename_i tk l l' hd hs
     cases h
     intro hroom
     subst e6
     obtain⟨g1,g2⟩:=xI hR (ag:=isSt τ) (z:=z) (σ:=σ) hs hy
     have hlen:roomOK ((l.map (encD R τ)).length+(l'.map (encD R τ)).length) by_=true:=by rw[Qy,Qy];exact hroom
     have hap:∀c,eF E.P false false σ ah loc t (.lst c (l.map (encD R τ))) w=_:=fun c=>MW hR (σ:=σ) (c:=c) (loc:=loc) (ah:=ah) e1 e2 e3 e4 e5 e9 e7 e8 g1 g2 (xH hR l') hlen (pW hR l)
     have fresh:∀(c:Cap),(c= .nil\/c= .full)->v= .lst c (l.map (encD R τ))->∃x σ' ρ',dA E fr σ ah o x σ'/\aj ρ' (ah+1) (st.wk tk) fr σ'/\σ'.next=σ.next/\Rl R ρ' σ'.top (.lst (.own tk) τ (l++l')) x/\∀p,ND E o p->au true p st ρ σ (st.wk tk) ρ' σ':=by
      intro c hc hv
      subst hv
      have:=hap c
      refine⟨.lst (.own (szD R τ) ah) (l.map (encD R τ)++l'.map (encD R τ)),σ.aG ah ((l.map (encD R τ)).length+(l'.map (encD R τ)).length),ρ.bg tk ah,ho _ _ (by rw[this];rcases hc with rfl|rfl<;>rfl),?_,rfl,?_,?_⟩
      ·exact hi.wk tk ah _ (QD _) (Ry _) hi.nx (fun u _ hu=>by have:=hi.lt u _ hu;omega)
      ·unfold Rl
       exact⟨_,by rw[Rh],.inr (.inr ⟨ah,rfl,by simp[ak.bg,upd],by rw[mV];simp⟩)⟩
      ·exact fun p _=>au.wk hi.nx
     unfold dstM at hd
     split at hd
     ·rename_i l0
      split at hd
      ·rename_i l1 hl1
       cases hd
       obtain⟨e,e2⟩:=iq hl1;subst e;cases e2
       obtain⟨c',rfl,hc'⟩:=hx.bW
       exact fresh c' (.inl hc') rfl
      ·cases hd
     ·rename_i l0
      split at hd
      ·rename_i l1 hl1
       cases hd
       obtain⟨e,e2⟩:=iq hl1;subst e;cases e2
       obtain⟨c',rfl,hc'⟩:=hx.bW
       exact fresh c' (.inr hc') rfl
      ·cases hd
     ·rename_i tk' τ' l0
      split at hd
      ·rename_i l1 hl1
       cases hd
       obtain⟨e,e2⟩:=iq hl1;subst e;cases e2
       obtain⟨c',rfl,hc'⟩:=hx.bW
       rcases hc' with hc'|hc'| ⟨s,hc',ht,hl⟩
       ·exact fresh c' (.inl hc') rfl
       ·exact fresh c' (.inr hc') rfl
       ·subst hc'
        have:=hap (.own (szD R τ') s)
        dsimp only at this
        rw[if_pos ⟨rfl,by rw[Qy];exact hl⟩] at this
        refine⟨_,_,ρ.bg tk s,ho _ _ this,?_,rfl,?_,?_⟩
        ·exact hi.wk tk s _ (QD _) (by have:=hi.lt tk s ht;omega) (hi.ge tk s ht) (fun u hu h'=>hu (hi.inj u tk s h' ht))
        ·unfold Rl
         exact⟨_,by rw[Rh],.inr (.inr ⟨s,rfl,by simp[ak.bg,upd],by rw[mV];simp⟩)⟩
        ·exact fun p _=>au.wk (hi.ge tk s ht)
      ·cases hd
     ·cases hd
      rw[hx.eP] at fresh
      have hx':=hx.eP
      subst hx'
      exact fresh .nil (.inl rfl) rfl
     ·cases hd
    ·cases h
  ·cases h
 ·cases h
omit hR in
theorem MZ {t:TypeId} {x:TV R.T} {v:V} {n:Nat} (h:lenM E t x st=some n) (hx:Rl R ρ σ.top x v) (hi:aj ρ b st fr σ):gN E σ t v=some n:=by
 unfold lenM at h
 unfold gN
 split at h
 ·rename_i hu;cases h;obtain⟨c',rfl,_⟩:=hx.bW;rw[hu];simp
 ·rename_i hu;cases h;rw[hx.eP,hu];rfl
 ·rename_i o t hu
  split at h
  ·rename_i t' l hl
   cases h
   have h1:=(hi.rd hl).1
   rcases hx.jl with ⟨s,_,rfl⟩| ⟨h0,rfl|rfl⟩
   ·rw[hu];dsimp only;rw[h1]
   ·rw[hu];dsimp only;rw[h1,h0];rfl
   ·rw[hu];dsimp only;rw[h1,h0];rfl
  ·cases h
 ·rename_i o' t' a' b' hu
  cases h
  rcases hx.jI with ⟨_,_,_,⟨s,cp,_,_,rfl⟩| ⟨e,c,rfl⟩⟩
  ·rw[hu]
  ·rw[hu];dsimp only;rw[e,Int.sub_self];rfl
 ·rename_i hu;cases h;rw[hx.dH,hu]
 ·rename_i o hu
  split at h
  ·rename_i k e m hl
   cases h
   obtain⟨s,h1,rfl⟩:=hx.jH
   obtain⟨s',h2,h3⟩:=hi.rd hl
   rw[h1] at h2;cases h2
   rw[hu];dsimp only;rw[h3];simp
  ·cases h
 ·rename_i hu;cases h;rw[hx.ku,hu];simp
 ·rename_i hu;cases h;unfold Rl at hx;subst hx;rw[hu]
 ·rename_i hu;cases h;rw[hu]
 ·cases h
omit hR in
theorem xJ (mx:Bool):∀{l:List (TV R.T)} {x y:TV R.T} {v:V} {k:List V},mmM mx x l=some y->Rl R ρ top x v->RlL R ρ top l k->∃w,minMaxV mx v k=some w/\Rl R ρ top y w
 | [],x,y,v,k,h,hx,hl=>by
   rw[hl.inv_nil]
   unfold mmM at h;cases h
   exact⟨v,by cases v<;>rfl,hx⟩
 |z::l,x,y,v,k,h,hx,hl=>by
  obtain⟨w,ws,rfl,h1,h2⟩:=hl.inv_cons
  unfold mmM at h
  split at h
  ·rename_i hz;cases hz
  ·rename_i k a k' b l' hz
   simp only[Rb] at hz
   obtain⟨rfl,rfl⟩:=hz
   split at h
   ·rename_i e;subst e
    rw[hx.inv_int,h1.inv_int]
    unfold minMaxV
    rw[if_pos rfl]
    refine xJ mx h ?_ h2
    unfold Rl
    cases mx<;>rfl
   ·cases h
  ·cases h
omit hR in
theorem Dv (c:Cp):∀(l:List Ty) (p:PayT R.T l),(tvs R c l p).length=l.length
 | [],_=>rfl
 | [_],_=>rfl
 |_::u::l,p=>by show (tvs R c (u::l) p.2).length+1=_;rw[Dv c (u::l)];rfl
omit hR in
theorem kG (c:Cp) (t:Ty) (x:Den R.T t):(tvD R c t x).cells.length=szD R t:=by
 cases t with
 |st n=>exact Dv c _ _
 |_=>rfl
omit hR in
theorem xK {α β:Type} {f:α->List β} {sz:Nat} (hf:∀x,(f x).length=sz):∀(n:Nat) (l:List α),(l.flatMap f).drop (n*sz)=(l.drop n).flatMap f
 |0,l=>by simp
 |n+1,[]=>by simp
 |n+1,x::l=>by
  rw[QV,List.drop_succ_cons,<-xK hf n l,Ra,Nat.add_comm,<-List.drop_drop,<-hf x,List.drop_left]
omit hR in
theorem xL {α β:Type} {f:α->List β} {sz:Nat} (hf:∀x,(f x).length=sz):∀(n:Nat) (l:List α),(l.flatMap f).take (n*sz)=(l.take n).flatMap f
 |0,l=>by simp
 |n+1,[]=>by simp
 |n+1,x::l=>by
  rw[QV,List.take_succ_cons,QV,<-xL hf n l,Ra,Nat.add_comm,<-hf x,List.take_length_add_append]
omit hR in
theorem Dw {α:Type} {l:List α} {a b:Int} (h0:0<=a) (h1:a<=b):subI l a b=(l.drop a.toNat).take (b-a).toNat:=by
 unfold subI
 rw[List.take_drop]
 congr 2;omega
omit hR in
theorem M0 {t:Ty} {l:List (Den R.T t)} {cs:List V} {ρ:ak} {top:Nat->Nat} {a b:Int} (h0:0<=a) (h1:a<=b) (h:RlL R ρ top (l.flatMap fun x=>(tvD R .any t x).cells) cs):RlL R ρ top ((subI l a b).flatMap fun x=>(tvD R .any t x).cells) ((cs.drop (a.toNat*szD R t)).take ((b-a).toNat*szD R t)):=by
 rw[Dw h0 h1,<-xL (fun x=>kG .any t x),<-xK (fun x=>kG .any t x)]
 exact(h.drop _).take _
omit hR in
theorem kH (t:Ty):∀l:List (Den R.T t),(l.flatMap fun x=>(tvD R .any t x).cells).length=l.length*szD R t
 | []=>by simp
 |x::l=>by rw[QV,QI,kG,kH t l,List.length_cons,Ra];omega
omit hR in
theorem Dx {α:Type}:∀{l:List α} {i:Nat} {x:α},l[i]? =some x->∃a b,l=a++x::b/\a.length=i
 | [],_,_,h=>by simp at h
 |y::l,0,x,h=>by simp at h;subst h;exact⟨[],l,rfl,rfl⟩
 |y::l,i+1,x,h=>by
  obtain⟨a,b,rfl,hl⟩:=Dx (l:=l) (i:=i) (by simpa using h)
  exact⟨y::a,b,rfl,by simp[hl]⟩
omit hR in
theorem M4 {α:Type} {l:List α} {i:Int} {x:α} (h:idxL l i=some x):∃a b,l=a++x::b/\a.length=i.toNat/\0<=i:=by
 unfold idxL at h
 split at h
 ·rename_i hi
  obtain⟨a,b,h1,h2⟩:=Dx h
  exact⟨a,b,h1,h2,hi.1⟩
 ·cases h
omit hR in
theorem M5 {ag:Bool} {n off:Nat} {pre el post:List (TV R.T)} {v:TV R.T} (h:partM ag n el off=some v):partM ag n (pre++el++post) (pre.length+off)=some v:=by
 cases ag with
 |true=>
  have h':(bif Nat.ble (off+n) el.length then some (TV.agg ((el.drop off).take n)) else none)=some v:=h
  obtain⟨hb,h'⟩:=aH h'
  have hle:=QJ hb
  show (bif Nat.ble (pre.length+off+n) (pre++el++post).length then some (TV.agg (((pre++el++post).drop (pre.length+off)).take n)) else none)=some v
  have hb':Nat.ble (pre.length+off+n) (pre++el++post).length=true:=Nat.ble_eq_true_of_le (by simp;omega)
  rw[hb',cond_true,<-h']
  congr 2
  have e1:(pre++el++post).drop (pre.length+off)=(el++post).drop off:=by
   rw[QS,RJ,RF (by omega)]
   simp
  rw[e1,RJ,List.take_append]
  have e2:n-(el.drop off).length=0:=by simp;omega
  rw[e2];simp
 |false=>
  have h':el[off]? =some v:=h
  show (pre++el++post)[pre.length+off]? =some v
  have hlt:off<el.length:=by rw[Rn] at h';exact h'.1
  rw[QS,List.getElem?_append_right (by omega),RA,RZ hlt]
  exact h'
omit hR in
theorem M6 {t:TypeId} {off:Nat} {pre el post:List (TV R.T)} {v:TV R.T} (h:ldM E t el off=some v):ldM E t (pre++el++post) (pre.length+off)=some v:=by
 unfold ldM at h⊢
 cases h1:isAggT E.P t with
 |none=>simp only[h1] at h;cases h
 |some a=>
  cases h2:szT E.P t with
  |none=>simp only[h1,h2] at h;cases h
  |some n=>simp only[h1,h2] at h⊢;exact M5 h
omit hR in
theorem M7 {t:TypeId} {off:Nat} {cs cs':List (TV R.T)} (hl:cs.length=cs'.length) (h:(ldM E t cs off).isSome=true):∃v,ldM E t cs' off=some v:=by
 unfold ldM at h⊢
 cases h1:isAggT E.P t with
 |none=>simp only[h1] at h;cases h
 |some a=>
  cases h2:szT E.P t with
  |none=>simp only[h1,h2] at h;cases h
  |some n=>
   simp only[h1,h2] at h⊢
   cases a with
   |true=>
    have h':(bif Nat.ble (off+n) cs.length then some (TV.agg ((cs.drop off).take n)) else none).isSome=true:=h
    cases hb:Nat.ble (off+n) cs.length
    ·rw[hb] at h';cases h'
    ·exact⟨.agg ((cs'.drop off).take n),by show (bif Nat.ble (off+n) cs'.length then _ else _)=_;rw[<-hl,hb];rfl⟩
   |false=>
    have h':cs[off]?.isSome=true:=h
    have hlt:off<cs'.length:=by rw[<-hl];simpa using h'
    exact⟨cs'[off],QT hlt⟩
omit hR in
theorem Dy {o s:Nat} {τ:Ty} {l:List (Den R.T τ)} {i:Int} {y:Den R.T τ} (hO:aK ρ σ o (.arr τ l)) (hs:ρ.ob o=some s) (hy:idxL l i=some y):
 ∃a b cs,l=a++y::b/\a.length=i.toNat/\σ.cellsAt (ρ.om.lc o) s=some cs/\RlL R ρ σ.top ((a.flatMap fun x=>(tvD R .any τ x).cells)++(tvD R .any τ y).cells++b.flatMap fun x=>(tvD R .any τ x).cells) cs/\(a.flatMap fun x=>(tvD R .any τ x).cells).length=i.toNat*szD R τ:=by
 obtain⟨a,b,rfl,h1,h2⟩:=M4 hy
 rcases hO.2 with h| ⟨s',cs,h3,h4,h5⟩
 ·exact absurd h.1 (by simp)
 ·rw[hs] at h3;cases h3
  refine⟨a,b,cs,rfl,h1,h4,?_,by rw[kH,h1]⟩
  rw[List.flatMap_append,QV] at h5
  rw[QS];exact h5
omit hR in
theorem M8 {t:TypeId} {o s off:Nat} {τ:Ty} {i:Int} {ob:Ob R.T} {r:Res R} (h:elLd E R t τ i off ob=some r) (hO:aK ρ σ o ob) (hs:ρ.ob o=some s):∃(l:List (Den R.T τ)) (f:Den R.T τ->TV R.T),r= .p (Den R.T τ) (dfl R τ) (idxL l i) f/\
 ∀y,idxL l i=some y->∃cs w,σ.cellsAt (ρ.om.lc o) s=some cs/\ldT E.P t cs (i.toNat*szD R τ+off)=some w/\Rl R ρ σ.top (f y) w:=by
 unfold elLd at h
 split at h
 ·rename_i τ' l0
  split at h
  ·rename_i l1 hl
   obtain⟨e,e2⟩:=iq hl;subst e;cases e2
   obtain⟨hb,h⟩:=aH h
   cases h
   refine⟨l0,_,rfl,fun y hy=>?_⟩
   obtain⟨a,b,cs,h1,h2,h3,h4,h5⟩:=Dy hO hs hy
   obtain⟨v,hv⟩:=M7 (cs':=(tvD R .any τ' y).cells) (by rw[kG,kG]) hb
   have:=M6 (pre:=a.flatMap fun x=>(tvD R .any τ' x).cells) (post:=b.flatMap fun x=>(tvD R .any τ' x).cells) hv
   rw[h5] at this
   obtain⟨w,hw,hr⟩:=jM h4 this
   exact⟨cs,w,h3,hw,by rw[hv];exact hr⟩
  ·cases h
 ·cases h
theorem M9 {τ:Ty} {cs:List (TV R.T)} {x:Den R.T τ} {vs:List V} (h:unC R τ cs=some x) (hr:RlL R ρ top cs vs):RlL R ρ top (tvD R .any τ x).cells vs:=by
 have one:∀(t:Ty) (x:Den R.T t),dO t=true->un1 R t (hd1 R cs)=some x->RlL R ρ top [tv1 R .any t x] vs:=by
  intro t x ht h
  cases cs with
  |nil=>cases t<;>cases h
  |cons c cs=>
   cases cs with
   |nil=>
    obtain⟨v,l,rfl,h1,h2⟩:=hr.inv_cons
    rw[h2.inv_nil]
    exact .cons' (lK hR h h1) rfl
   |cons c' cs=>cases t<;>cases h
 cases τ with
 |st n=>
  have:=lM hR (t:=.st n) (show unD R (.st n) (.agg cs)=some x from h) (v:=.agg vs) (by unfold Rl;exact⟨vs,rfl,hr⟩)
  obtain⟨l,e,hl⟩:=Rl.bY this
  cases e;exact hl
 |int k=>exact one (.int k) x rfl h
 |bool=>exact one .bool x rfl h
 |str=>exact one .str x rfl h
 |slice t=>exact one (.slice t) x rfl h
omit hR in
theorem Na {α:Type} (pre el post vs:List α) (off:Nat) (h:off+vs.length<=el.length):(pre++el++post).take (pre.length+off)++vs++(pre++el++post).drop (pre.length+off+vs.length)=pre++(el.take off++vs++el.drop (off+vs.length))++post:=by
 have e1:(pre++el++post).take (pre.length+off)=pre++el.take off:=by
  rw[QS,List.take_append,Ri (by omega),RA,List.take_append,Nat.sub_eq_zero_of_le (by omega)]
  simp
 have e2:(pre++el++post).drop (pre.length+off+vs.length)=el.drop (off+vs.length)++post:=by
  rw[QS,RJ,RF (by omega),show pre.length+off+vs.length-pre.length=off+vs.length by omega,RJ,Nat.sub_eq_zero_of_le (by omega)]
  simp
 rw[e1,e2]
 simp
theorem Nb {o s off:Nat} {τ:Ty} {i:Int} {l:List (Den R.T τ)} {y y':Den R.T τ} {vc:List (TV R.T)} {vl:List V} (hO:aK ρ σ o (.arr τ l)) (hs:ρ.ob o=some s) (hy:idxL l i=some y) (hv:RlL R ρ σ.top vc vl) (hle:off+vc.length<=szD R τ)
 (hu:unC R τ (spliceM (tvD R .any τ y).cells off vc)=some y'):∃cs,σ.cellsAt (ρ.om.lc o) s=some cs/\i.toNat*szD R τ+off+vl.length<=cs.length/\RlL R ρ σ.top ((setL l i y').flatMap fun x=>(tvD R .any τ x).cells) (spliceL cs (i.toNat*szD R τ+off) vl)/\(setL l i y').length=l.length:=by
 obtain⟨a,b,cs,rfl,h2,h3,h4,h5⟩:=Dy hO hs hy
 obtain⟨p1,post,rfl,g1,g2⟩:=h4.split
 obtain⟨pre,el,rfl,g3,g4⟩:=g1.split
 have l1:pre.length=i.toNat*szD R τ:=by rw[g3.length,h5]
 have l2:el.length=szD R τ:=by rw[g4.length,kG]
 have l3:=hv.length
 refine⟨_,h3,?_,?_,?_⟩
 ·rw[QI,QI];omega
 ·have e:setL (a++y::b) i y'=a++y'::b:=by
   unfold setL
   rw[<-h2,List.set_append_right _ _ (Qt _),Nat.sub_self];rfl
  rw[e,List.flatMap_append,QV,<-QS]
  have e2:spliceL (pre++el++post) (i.toNat*szD R τ+off) vl=pre++spliceL el off vl++post:=by
   unfold spliceL
   rw[<-l1];exact Na pre el post vl off (by omega)
  rw[e2]
  exact(g3.append (M9 hR hu (xu off g4 hv))).append g2
 ·unfold setL;rw[List.length_set]
theorem Nc (τ:Ty) (x:Den R.T τ):RlL R ρ top (tvD R .any τ x).cells (encD R τ x).cells:=by
 refine(gF ?_ (sJ hR .any (.inl rfl) τ x)).1
 cases τ<;>rfl
theorem nE (τ:Ty):∀l:List (Den R.T τ),RlL R ρ top (l.flatMap fun x=>(tvD R .any τ x).cells) ((l.map (encD R τ)).flatMap V.cells)
 | []=>rfl
 |x::l=>by
  rw[QA,QV,QV]
  exact(Nc hR τ x).append (nE τ l)
theorem Nf {t e:TypeId} {sz by_:Nat} {ag:Bool} {z:V} {ys:List V} {x y:V} {loc:Option Loc} {ah:Nat} {P:Program} (h1:elemT P t=some e) (h2:szT P e=some sz) (h3:bytesT P e=some by_) (h4:isAggT P e=some ag) (h5:zeroT P e=some z)
 (h6:z.cells.length=sz) (h7:0<sz) (h8:(ag||sz==1)=true) (hy:dG σ ag sz z y=some ys) (hi:jA y=false) (ho:ys.all (fun v=>oneCells v.cells)=true):
 eF P true false σ ah loc t x y=match x with
  |.lst c l=>if roomOK (l.length+ys.length) by_=true/\eY sz l=true then
     match c with
     |.nil=>loc.map fun loc=>(.vw loc ah 0 (l.length+ys.length) (l.length+ys.length) sz ag,σ.setObj loc ah (.cells ((l++ys).flatMap V.cells)))
     |.full=>if ys.isEmpty then some (.lst .full l,σ) else loc.map fun loc=>(.vw loc ah 0 (l.length+ys.length) (l.length+ys.length) sz ag,σ.setObj loc ah (.cells ((l++ys).flatMap V.cells)))
     |_=>none else none
  |.vw bJ s off len cap ay _=>
   if roomOK (len+ys.length) by_=true/\off=0/\ay=sz then
    loc.bind fun loc=>(σ.cellsAt bJ s).bind fun cs=>
     if len+ys.length<=cap then
      if (len+ys.length)*sz<=cs.length then
       some (.vw bJ s 0 (len+ys.length) cap sz ag,σ.setObj bJ s (.cells (spliceL cs (len*sz) (ys.flatMap V.cells))))
      else none
     else if len*sz<=cs.length then
      some (.vw loc ah 0 (len+ys.length) (len+ys.length) sz ag,(σ.aR bJ).setObj loc ah (.cells (cs.take (len*sz)++ys.flatMap V.cells)))
     else none
   else none
  |_=>none:=by
 unfold eF
 simp only[h1,h2,h3,h4,h5,Option.bind_some,hi,hy,ho,if_true]
 rw[if_pos ⟨trivial,h6,h7,h8⟩]
 cases x<;>try rfl
 ·rename_i c l
  cases c<;>rfl
 ·simp only[true_and]
omit hR in
theorem au.lJ {o q s n:Nat} {x:Ob R.T} {a:AObj} (hne:q≠o):au true q st ρ σ (st.new o x) (ρ.iY o s n) (σ.setObj (ρ.om.lc o) s a):=⟨(wY q hne).1,(wY q hne).2,rfl,Qt _,⟨fun _ _=>rfl,fun _ _=>rfl⟩,fun _ _ hL=>xk hL,(au.new (nr:=true) (ρ:=ρ) (s:=s) (a:=a) hne).ro⟩
omit hR in
theorem au.del {o q:Nat} {y:Ob R.T} (hl:look st.ob o=some y) (hy:isRo y=false):au true q st ρ σ (st.del o) ρ (σ.aR (ρ.om.lc o)):=⟨rfl,rfl,rfl,Qt _,⟨fun _ _=>rfl,fun _ _=>rfl⟩,fun _ _ hL=>Mr hL,fun hr=>by
 have hne:q≠o:=by rintro rfl;rw[hr y hl] at hy;cases hy
 refine⟨fun z hz=>?_,fun s'=>?_⟩
 ·have hz':look (delF o st.ob) q=some z:=hz
  rw[dP hne] at hz'
  exact hr z hz'
 ·unfold Sig.cellsAt Sig.aV;rw[Cw σ hne];exact⟨rfl,rfl⟩⟩
omit hR in
theorem au.del' {o q:Nat} {y:Ob R.T} (hl:look st.ob o=some y) (hy:isRo y=false):au true q st ρ σ (st.del o) ρ σ:=⟨rfl,rfl,rfl,Qt _,⟨fun _ _=>rfl,fun _ _=>rfl⟩,fun _ _ _=>rfl,fun hr=>by
 have hne:q≠o:=by rintro rfl;rw[hr y hl] at hy;cases hy
 refine⟨fun z hz=>?_,fun s'=>⟨rfl,rfl⟩⟩
 have hz':look (delF o st.ob) q=some z:=hz
 rw[dP hne] at hz'
 exact hr z hz'⟩
omit hR in
theorem sU {α:Type} {p:Nat}:∀l:List (Nat×α),look (delF p l) p=none
 | []=>rfl
 | (j,x)::l=>by
   unfold delF
   cases hj:Nat.beq j p
   ·show (bif Nat.beq j p then some x else look (delF p l) p)=none
    rw[hj];exact sU l
   ·exact sU l
omit hR in
theorem aj.del' (h:aj ρ b st fr σ) (o:Nat):aj ρ b (st.del o) fr σ:={h with
 ob:=fun p y hy=>by
  by_cases e:p=o
  ·subst e
   have:look (delF p st.ob) p=some y:=hy
   rw[sU] at this;cases this
  ·have hy':look (delF o st.ob) p=some y:=hy
   rw[dP e] at hy'
   exact h.ob p y hy'
 fr:=h.fr}
omit hR in
theorem kI {d0 d ah:Nat} {τ:Ty} {l:List (Den R.T τ)} {L:List V} {st0:MS R.T} {σ0:Sig} {o:Oper} {v:V} {σ1:Sig} (hd:o.dst=some d0) (hcd:d=d0\/d=E.cn d0) (hi:aj ρ (ah+1) st0 fr σ0) (hk:∀p,au true p st ρ σ st0 ρ σ0) (hn:σ0.next=σ.next) (hL:RlL R ρ σ0.top (l.flatMap fun x=>(tvD R .any τ x).cells) L)
 (hs:dA E fr σ ah o v σ1) (hv:v= .vw (ρ.om.lc d) ah 0 l.length l.length (szD R τ) (isSt τ)) (h1:σ1=σ0.setObj (ρ.om.lc d) ah (.cells L)):∃x σ' ρ',dA E fr σ ah o x σ'/\aj ρ' (ah+1) (st0.new d (.arr τ l)) fr σ'/\σ'.next=σ.next/\Rl R ρ' σ'.top (.vw d τ) x/\∀p,ND E o p->au true p st ρ σ (st0.new d (.arr τ l)) ρ' σ':=by
 subst hv;subst h1
 refine⟨_,_,ρ.iY d ah l.length,hs,hi.lJ d ah l.length ⟨(iJ (ρ:=ρ.bX d ah)).symm,.inr ⟨ah,L,d9 (ρ:=ρ),cells_eq _ _ _ _,iw l L hL⟩⟩,hn,?_,fun p hp=>?_⟩
 ·unfold Rl
  exact .inl ⟨ah,d9 (ρ:=ρ),by rw[show (ρ.iY d ah l.length).ln d=l.length from iJ (ρ:=ρ.bX d ah)];rfl⟩
 ·have hne:p≠d:=by
   rcases hcd with e|e
   ·exact fun e2=>hp.1 (by rw[hd,e2,e])
   ·exact fun e2=>hp.2 _ hd (by rw[e2,e])
  exact(hk p).trans (au.lJ hne)
theorem Ng {d:Option Nat} {t:TypeId} {len:Nat} {ps:List (Nat×TV R.T)} {qs:List (Nat×V)} {r:Res R} {ah:Nat} {o:Oper} (h:bslO E R d t len ps st=some r) (hi:ps.map (·.1)=qs.map (·.1)) (hr:RlL R ρ σ.top (ps.map (·.2)) (qs.map (·.2))) (him:aj ρ ah st fr σ) (hd:o.dst=d)
 (ho:∀y σ',jS E σ ah (d.map fun t=>(fr.d,E.cn t)) t len qs=some (y,σ')->dA E fr σ ah o y σ'):fB E st ρ ah fr σ o r:=by
 unfold bslO at h
 split at h
 ·rename_i d e u sz by_ he
  obtain⟨z,e1,e2,e3,e4,e5,e6,e7,e8,e9⟩:=nD he
  obtain⟨hc,h⟩:=aH h
  rw[iP] at hc
  split at h
  ·rename_i xs hx
   cases hbl:Nat.ble F0 (E.cn d)
   case true=>rw[hbl] at h;cases h
   rw[hbl,cond_false] at h
   cases h
   have hcn:E.cn d<F0:=by
    have:=mt Nat.ble_eq_true_of_le (by rw[hbl];simp)
    omega
   rw[Option.map_some,show (fr.d,E.cn d)=ρ.om.lc (E.cn d) by rw[him.d,Cx.lF _ hcn]] at ho
   have hlen:xs.length=len:=by rw[Du ps 0 xs hx];exact aJ hc.2
   obtain⟨vs,k1,k2,k3,k4,k5⟩:=xG hR (len:=len) e6 ps qs xs 0 [] ((List.replicate len z.cells).flatten) hx hi hr (by simp) (by simp[e9,hlen]) (by omega)
   rw[List.nil_append,List.nil_append] at k1
   have key:jS E σ ah (some (ρ.om.lc (E.cn d))) t len qs=some (.vw (ρ.om.lc (E.cn d)) ah 0 len len sz (isSt u),σ.setObj (ρ.om.lc (E.cn d)) ah (.cells (vs.flatMap V.cells))):=by
    unfold jS
    rw[e1];simp only[Option.bind_some,e2,e4,e5]
    rw[if_pos ⟨QJ hc.1,e9,e7⟩,k1]
    rfl
   exact kI (σ0:=σ) hd (.inr rfl) (him.le (QD ah)) (fun q=>.refl) rfl k5 (ho _ _ key) (by rw[hlen,e6]) rfl
  ·cases h
 ·cases h
theorem Nh {d:Option Nat} {t u:TypeId} {x y:TV R.T} {v w:V} {r:Res R} {ah:Nat} {o:Oper} (h:appOM E R d t u x y st=some r) (hx:Rl R ρ σ.top x v) (hy:Rl R ρ σ.top y w) (hi:aj ρ ah st fr σ) (hd:o.dst=d)
 (ho:∀y σ',eF E.P true false σ ah (d.map fun t=>(fr.d,E.cn t)) t v w=some (y,σ')->dA E fr σ ah o y σ'):fB E st ρ ah fr σ o r:=by
 have hi1:=hi.le (QD ah)
 unfold appOM at h
 split at h
 ·rename_i d
  cases hbl:Nat.ble F0 (E.cn d)
  case true=>rw[hbl] at h;cases h
  rw[hbl,cond_false] at h
  have hcn:E.cn d<F0:=by
   have:=mt Nat.ble_eq_true_of_le (by rw[hbl];simp)
   omega
  rw[Option.map_some,show (fr.d,E.cn d)=ρ.om.lc (E.cn d) by rw[hi.d,Cx.lF _ hcn]] at ho
  split at h
  ·rename_i e τ sz by_ he
   obtain⟨z,e1,e2,e3,e4,e5,e6,e7,e8,e9⟩:=nD he
   obtain⟨hss,h⟩:=aH h
   split at h
   ·rename_i l' hs
    subst e6
    obtain⟨g1,g2⟩:=xI hR (ag:=isSt τ) (z:=z) (σ:=σ) hs hy
    have hap:=fun x=>Nf hR (σ:=σ) (x:=x) (loc:=some (ρ.om.lc (E.cn d))) (ah:=ah) e1 e2 e3 e4 e5 e9 e7 e8 g1 g2 (xH hR l')
    split at h
    ·rename_i p τ0 _
     split at h
     ·rename_i e0
      subst e0
      split at h
      ·rename_i τ' l0 hl
       split at h
       ·rename_i l2 hl2
        obtain⟨e,e2'⟩:=iq hl2;subst e;cases e2'
        have ne:∀(a:Den R.T τ') (l1:List (Den R.T τ')),l'=a::l1->fB E st ρ ah fr σ o (.wc (roomOK (l0.length+(a::l1).length) by_) (.vw (E.cn d) τ') ((st.del p).new (E.cn d) (.arr τ' (l0++a::l1)))):=by
         intro a l1 el
         subst el
         intro hroom
         have hO:=hi.ob _ _ hl
         have hlen:l0.length=ρ.ln p:=hO.1
         have hnr:isRo (Ob.arr τ' l0)=false:=rfl
         have hne:¬((a::l1).map (encD R τ')).isEmpty=true:=by simp
         rcases hx.jl with ⟨s,k1,rfl⟩| ⟨k1,k2⟩
         ·rcases hO.2 with hO2| ⟨s',cs,k3,k4,k5⟩
          ·rw[k1] at hO2;exact absurd hO2.2 (by simp)
          ·rw[k1] at k3;cases k3
           have:=hap (.vw (ρ.om.lc p) s 0 (ρ.ln p) (ρ.ln p) (szD R τ') (isSt τ'))
           dsimp only at this
           have hlc:cs.length=l0.length*szD R τ':=by rw[k5.length,kH]
           rw[if_pos ⟨by rw[Qy,<-hlen];exact hroom,rfl,rfl⟩] at this
           simp only[Option.bind_some,k4] at this
           rw[if_neg (by rw[Qy,List.length_cons];omega),if_pos (by rw[hlc,hlen];exact Qt _)] at this
           refine kI (σ0:=σ.aR (ρ.om.lc p)) (L:=cs.take (ρ.ln p*szD R τ')++((a::l1).map (encD R τ')).flatMap V.cells) hd (.inr rfl) (hi1.del p) (fun q=>au.del hl hnr) rfl ?_ (ho _ _ this) ?_ rfl
           ·rw[List.flatMap_append,Ri (by rw[hlc,hlen];exact Qt _)]
            exact RlL.append k5 (nE hR _ _)
           ·rw[Qy,QI,hlen]
         ·have hl0:l0=[]:=Rf (by omega)
          subst hl0
          have hroom':roomOK (([]:List V).length+((a::l1).map (encD R τ')).length) by_=true/\eY (szD R τ') ([]:List V)=true:=⟨by rw[Qy];exact hroom,rfl⟩
          rcases k2 with rfl|rfl
          ·have:=hap (.lst .nil [])
           dsimp only at this
           rw[if_pos hroom'] at this
           refine kI (σ0:=σ) hd (.inr rfl) (hi1.del' p) (fun q=>au.del' hl hnr) rfl (nE hR _ _) (ho _ _ this) ?_ rfl
           simp
          ·have:=hap (.lst .full [])
           dsimp only at this
           rw[if_pos hroom',if_neg hne] at this
           refine kI (σ0:=σ) hd (.inr rfl) (hi1.del' p) (fun q=>au.del' hl hnr) rfl (nE hR _ _) (ho _ _ this) ?_ rfl
           simp
        cases hpc:Nat.beq p (E.cn d) with
        |true=>
         rw[hpc,cond_true] at h
         cases h
         cases l' with
         |cons a l1=>exact ne a l1 rfl
         |nil=>
          have hp:=aJ hpc
          intro hroom
          have hO:=hi.ob _ _ hl
          have hlen:l0.length=ρ.ln p:=hO.1
          have hnr:isRo (Ob.arr τ' l0)=false:=rfl
          have hroom':∀(k:Nat),k=l0.length->roomOK (k+(([]:List (Den R.T τ')).map (encD R τ')).length) by_=true:=fun k hk=>by rw[hk];exact hroom
          rcases hx.jl with ⟨s,k1,rfl⟩| ⟨k1,k2⟩
          ·rcases hO.2 with hO2| ⟨s',cs,k3,k4,k5⟩
           ·rw[k1] at hO2;exact absurd hO2.2 (by simp)
           ·rw[k1] at k3;cases k3
            have:=hap (.vw (ρ.om.lc p) s 0 (ρ.ln p) (ρ.ln p) (szD R τ') (isSt τ'))
            dsimp only at this
            have hlc:cs.length=l0.length*szD R τ':=by rw[k5.length,kH]
            rw[if_pos ⟨hroom' _ hlen.symm,rfl,rfl⟩] at this
            simp only[Option.bind_some,k4,List.map_nil,List.length_nil,Nat.add_zero] at this
            rw[if_pos (Qt _),if_pos (by rw[hlc,hlen];exact Qt _)] at this
            have hsp:spliceL cs (ρ.ln p*szD R τ') (([]:List V).flatMap V.cells)=cs:=by
             unfold spliceL
             simp
            rw[hsp] at this
            rw[QX,<-hp]
            refine⟨_,_,ρ.iY p s l0.length,ho _ _ this,(hi1.del' p).lJ p s l0.length (x:=.arr τ' l0) (a:=.cells cs) ⟨(iJ (ρ:=ρ.bX p s)).symm,.inr ⟨s,cs,d9 (ρ:=ρ),cells_eq _ _ _ _,iw l0 cs k5⟩⟩,rfl,?_,fun q hq=>?_⟩
            ·unfold Rl
             exact .inl ⟨s,d9 (ρ:=ρ),by rw[show (ρ.iY p s l0.length).ln p=l0.length from iJ (ρ:=ρ.bX p s),hlen];rfl⟩
            ·have hne:q≠p:=fun e=>hq.2 _ hd (by rw[e,hp])
             exact(au.del' hl hnr).trans (au.lJ hne)
          ·have hl0:l0=[]:=Rf (by omega)
           subst hl0
           rcases k2 with rfl|rfl
           ·have:=hap (.lst .nil [])
            dsimp only at this
            rw[if_pos ⟨hroom' 0 rfl,rfl⟩] at this
            exact kI (σ0:=σ) hd (.inr rfl) (hi1.del' p) (fun q=>au.del' hl hnr) rfl rfl (ho _ _ this) rfl rfl
           ·have:=hap (.lst .full [])
            dsimp only at this
            rw[if_pos ⟨hroom' 0 rfl,rfl⟩,if_pos (by rfl)] at this
            refine⟨_,_,ρ.gh (E.cn d),ho _ _ this,(hi1.del' p).ghost (E.cn d) τ',rfl,by unfold Rl;exact .inr ⟨iJ (ρ:=ρ) (n:=0),.inr rfl⟩,fun q hq=>?_⟩
            have fP:q≠E.cn d:=fun e=>hq.2 _ hd e.symm
            refine(au.del' hl hnr).trans ?_
            exact⟨(dZ q fP).1,(dZ q fP).2,rfl,Qt _,⟨fun _ _=>rfl,fun _ _=>rfl⟩,fun _ _ _=>rfl,fun hr=>⟨((au.new (nr:=true) (ρ:=ρ) (σ:=σ) (s:=0) (a:=.cells []) fP).ro hr).1,fun _=>⟨rfl,rfl⟩⟩⟩
        |false=>
         rw[hpc,cond_false] at h
         split at h
         ·rename_i a l1
          cases h
          exact ne _ _ rfl
         ·cases h
       ·cases h
      ·cases h
     ·cases h
    ·obtain⟨hE,h⟩:=aH h
     cases h
     intro hroom
     have hroom':roomOK (([]:List V).length+(l'.map (encD R τ)).length) by_=true/\eY (szD R τ) ([]:List V)=true:=⟨by rw[Qy,List.length_nil,Q7];exact hroom,rfl⟩
     rcases pU (fr:=fr) hE (.of hx) with rfl|rfl
     ·have:=hap (.lst .nil [])
      dsimp only at this
      rw[if_pos hroom'] at this
      refine kI (σ0:=σ) hd (.inr rfl) hi1 (fun q=>.refl) rfl (nE hR _ _) (ho _ _ this) ?_ rfl
      simp
     ·have:=hap (.lst .full [])
      dsimp only at this
      rw[if_pos hroom'] at this
      by_cases hne:((l'.map (encD R τ)).isEmpty)=true
      ·rw[if_pos hne] at this
       have hl':l'=[]:=by simpa using hne
       subst hl'
       refine⟨_,_,ρ.gh (E.cn d),ho _ _ this,hi1.ghost (E.cn d) τ,rfl,by unfold Rl;exact .inr ⟨iJ (ρ:=ρ) (n:=0),.inr rfl⟩,fun p hp=>?_⟩
       have fP:p≠E.cn d:=fun e=>hp.2 _ hd e.symm
       exact⟨(dZ p fP).1,(dZ p fP).2,rfl,Qt _,⟨fun _ _=>rfl,fun _ _=>rfl⟩,fun _ _ _=>rfl,fun hr=>⟨((au.new (nr:=true) (ρ:=ρ) (σ:=σ) (s:=0) (a:=.cells []) fP).ro hr).1,fun _=>⟨rfl,rfl⟩⟩⟩
      ·rw[if_neg hne] at this
       refine kI (σ0:=σ) hd (.inr rfl) hi1 (fun q=>.refl) rfl (nE hR _ _) (ho _ _ this) ?_ rfl
       simp
   ·cases h
  ·cases h
 ·cases h
omit hR in
theorem pX {α β:Type} (f:α->List β) (x:α):∀n,(List.replicate n x).flatMap f=(List.replicate n (f x)).flatten
 |0=>rfl
 |n+1=>by rw[List.replicate_succ,List.replicate_succ,QV,List.flatten_cons,pX f x n]
omit hR in
theorem xM {ts:List (TV R.T)} {vs:List V} (h:RlL R ρ top ts vs):∀n,RlL R ρ top (List.replicate n ts).flatten (List.replicate n vs).flatten
 |0=>rfl
 |n+1=>by rw[List.replicate_succ,List.replicate_succ,List.flatten_cons,List.flatten_cons];exact h.append (xM h n)
theorem Ni {om:Bool} {d:Option Nat} {t:TypeId} {x y:TV R.T} {v w:V} {r:Res R} {ah:Nat} {o:Oper} (h:mksM E R om d t x y st=some r) (hx:Rl R ρ σ.top x v) (hy:Rl R ρ σ.top y w) (hi:aj ρ ah st fr σ) (hd:o.dst=d)
 (ho:∀y σ',iN E.P om σ ah (d.map fun t=>(ρ.om.lc t)) t v w=some (y,σ')->dA E fr σ ah o y σ'):fB E st ρ ah fr σ o r:=by
 have hi1:=hi.le (QD ah)
 unfold mksM at h
 split at h
 ·rename_i d e τ sz by_ k n k' m he
  obtain⟨z0,e1,e2,e3,e4,e5,e6,e7,e8,e9⟩:=nD he
  split at h
  ·rename_i z hz
   split at h
   ·rename_i x0 hx0
    obtain⟨zv,z1,z2⟩:=lN (ρ:=ρ) (top:=σ.top) hz
    rw[e5] at z1;cases z1
    rw[hx.inv_int,hy.inv_int] at ho
    have mk:0<=n->n<=m->m<=2^47->roomOK m.toNat by_=true->iN E.P om σ ah ((some d).map fun t=>(ρ.om.lc t)) t (.int k n) (.int k' m)=if n=0/\om=false then some (.lst (.own sz ah) [],σ.aG ah 0) else some (.vw (ρ.om.lc d) ah 0 n.toNat m.toNat sz (isSt τ),σ.setObj (ρ.om.lc d) ah (.cells (List.replicate m.toNat z0.cells).flatten)):=by
     intro h1 h2 h3 h4
     unfold iN
     simp only[e1,e2,e3,e5,Option.bind_some,dw]
     rw[if_pos ⟨h1,h2,h4,h3,e9⟩]
     split
     ·rfl
     ·simp only[Option.map_some,Option.bind_some,e4]
    cases om with
    |true=>
     cases h
     intro hc
     rw[iP] at hc
     obtain⟨c1,c2,c3⟩:=of_decide_eq_true hc.1
     subst c2
     have:=mk c1 (QC _) c3 hc.2
     rw[if_neg (by simp)] at this
     subst e6
     refine kI (σ0:=σ) hd (.inl rfl) hi1 (fun q=>.refl) rfl ?_ (ho _ _ this) ?_ rfl
     ·rw[pX]
      refine xM ?_ _
      have hzc:RlL R ρ σ.top (tvD R .any τ x0).cells z0.cells:=by
       have h1:=lM hR hx0 z2
       refine(gF ?_ h1).1
       cases τ<;>rfl
      exact hzc
     ·rw[List.length_replicate]
    |false=>
     cases h
     intro hc
     rw[iP] at hc
     obtain⟨c1,c2,c3⟩:=of_decide_eq_true hc.1
     subst c1
     have:=mk (QC _) c2 c3 hc.2
     rw[if_pos ⟨rfl,rfl⟩] at this
     refine⟨_,_,ρ.bg d ah,ho _ _ this,hi.wk d ah _ (QD _) (Ry _) hi.nx (fun u _ hu=>by have:=hi.lt u _ hu;omega),rfl,?_,fun p _=>au.wk hi.nx⟩
     unfold Rl
     exact⟨_,rfl,.inr (.inr ⟨ah,by rw[e6],by simp[ak.bg,upd],by rw[mV];rfl⟩)⟩
   ·cases h
  ·cases h
 ·cases h
theorem xO {x:TV R.T} {v:V} {o:Nat} {τ:Ty} {a c:Int} (h:asW st x=some (o,τ,a,c)) (hx:Rl R ρ σ.top x v) (hi:aj ρ b st fr σ):Rl R ρ σ.top (.sub o τ a c) v:=by
 unfold asW at h
 split at h
 ·split at h
  ·rename_i l hl
   cases h
   have h1:=(hi.rd hl).1
   unfold Rl
   refine⟨by omega,by omega,by omega,?_⟩
   rcases hx.jl with ⟨s,k1,rfl⟩| ⟨h0,h2⟩
   ·refine .inl ⟨s,ρ.ln o,k1,by omega,?_⟩
    ·rw[show (((l.length:Nat):Int)-0).toNat=ρ.ln o by omega];simp
   ·refine .inr ⟨by omega,?_⟩
    rcases h2 with rfl|rfl<;>exact⟨_,rfl⟩
  ·cases h
 ·cases h;exact hx
 ·cases h
omit hR in
theorem Dz {n:Int} {cp:Nat} {lo hi':Option Int} {vl vh:Option V} (hl:(lo=none/\vl=none)\/∃n k,lo=some n/\vl=some (.int k n)) (hh:(hi'=none/\vh=none)\/∃n k,hi'=some n/\vh=some (.int k n)) (hc:n.toNat<=cp) (h0:0<=n) (hb:inV (loW lo) (hiW n hi') n=true):
 bO n.toNat cp vl vh none=some ((loW lo).toNat,(hiW n hi').toNat,cp):=by
 have hb':0<=loW lo/\loW lo<=hiW n hi'/\hiW n hi'<=n:=of_decide_eq_true hb
 rcases hl with ⟨rfl,rfl⟩| ⟨i,k,rfl,rfl⟩<;>rcases hh with ⟨rfl,rfl⟩| ⟨m,k',rfl,rfl⟩<;>simp only[loW,hiW] at hb'⊢
 ·rfl
 ·simp only[bO,bnd,dw,Option.bind_some]
  rw[if_pos ⟨by omega,by omega⟩];rfl
 ·simp only[bO,bnd,dw,Option.bind_some]
  rw[if_pos ⟨by omega,by omega⟩];rfl
 ·simp only[bO,bnd,dw,Option.bind_some]
  rw[if_pos ⟨by omega,by omega⟩]
  simp only[Option.bind_some]
  rw[if_pos ⟨by omega,by omega⟩];rfl
theorem Nj {t:TypeId} {x:TV R.T} {lo hi':Option (TV R.T)} {v:V} {vl vh:Option V} {r:Res R} (h:slcW E R t x lo hi' st=some r) (hx:Rl R ρ σ.top x v) (hi:aj ρ b st fr σ)
 (hl:∀y,lo=some y->∃w,vl=some w/\Rl R ρ σ.top y w) (hln:lo=none->vl=none) (hh:∀y,hi'=some y->∃w,vh=some w/\Rl R ρ σ.top y w) (hhn:hi'=none->vh=none):eB ρ σ.top (dI E.P σ t v vl vh none) r:=by
 unfold slcW at h
 split at h
 ·rename_i o τ a c lo' hi2 e hw e1 e2 hu
  have b1:=kF e1 hl hln
  have b2:=kF e2 hh hhn
  have hxs:=xO hR hw hx hi
  split at h
  ·rename_i sz hs
   obtain⟨hb,h⟩:=aH h
   cases h
   have:=aJ hb;subst this
   intro hc
   have hc':0<=loW lo'/\loW lo'<=hiW (c-a) hi2/\hiW (c-a) hi2<=c-a:=of_decide_eq_true hc
   obtain⟨g0,g1,g2,h⟩:=hxs.jI
   rcases h with ⟨s,cp,h1,h2,rfl⟩| ⟨e,q,rfl⟩
   ·have hsb:=Dz b1 b2 h2 (by omega) hc
    unfold dI
    rw[hu];dsimp only
    simp only[hs,Option.bind_some,hsb]
    rw[if_true]
    by_cases hz:(loW lo').toNat=(hiW (c-a) hi2).toNat/\0< (loW lo').toNat
    ·rw[if_pos hz]
     exact⟨_,rfl,by unfold Rl;exact⟨by omega,by omega,by omega,.inr ⟨by omega,_,rfl⟩⟩⟩
    ·rw[if_neg hz]
     refine⟨_,rfl,?_⟩
     unfold Rl
     refine⟨by omega,by omega,by omega,.inl ⟨s,cp-(loW lo').toNat,h1,by omega,?_⟩⟩
     rw[<-QZ,show a.toNat+(loW lo').toNat=(a+loW lo').toNat by omega,show (hiW (c-a) hi2).toNat-(loW lo').toNat=(a+hiW (c-a) hi2-(a+loW lo')).toNat by omega]
   ·have e0:c-a=0:=by omega
    have hsb:=Dz (n:=0) (cp:=0) b1 b2 (by simp) (by omega) (by rw[<-e0];exact hc)
    unfold dI
    rw[hu];dsimp only
    rw[e0] at hc'
    have Nk:bO ([]:List V).length ([]:List V).length vl vh none=some (0,0,0):=by
     have e3:bO ([]:List V).length ([]:List V).length vl vh none=some ((loW lo').toNat,(hiW 0 hi2).toNat,0):=hsb
     rw[e3,show (loW lo').toNat=0 by omega,show (hiW 0 hi2).toNat=0 by omega]
    simp only[hs,Option.bind_some,Nk,eY]
    rw[if_true,e0]
    refine⟨_,rfl,?_⟩
    have hl0:loW lo'=0:=by omega
    have hh0:hiW 0 hi2=0:=by omega
    rw[hl0,hh0]
    have:∀(k:Cap),Rl R ρ σ.top (.sub o τ (a+0) (a+0)) (.lst k []):=fun k=>by unfold Rl;exact⟨by omega,by omega,by omega,.inr ⟨rfl,_,rfl⟩⟩
    exact this _
  ·cases h
 ·cases h
theorem sV {t:TypeId} {x:TV R.T} {lo hi':Option (TV R.T)} {v:V} {vl vh:Option V} {r:Res R} (h:sliceX E R t x lo hi' st=some r) (hx:Rl R ρ σ.top x v) (hi:aj ρ b st fr σ)
 (hl:∀y,lo=some y->∃w,vl=some w/\Rl R ρ σ.top y w) (hln:lo=none->vl=none) (hh:∀y,hi'=some y->∃w,vh=some w/\Rl R ρ σ.top y w) (hhn:hi'=none->vh=none):eB ρ σ.top (dI E.P σ t v vl vh none) r:=by
 unfold sliceX at h
 split at h
 ·rename_i r' hr
  cases h
  exact Nj hR hr hx hi hl hln hh hhn
 ·exact MP hR (σ:=σ) h hx hl hln hh hhn
theorem Nl {t:TypeId} {p:Nat} {τ:Ty} {a c:Int} {y:TV R.T} {v w:V} {r:Res R} (h:isM E R t p τ a c y=some r) (hx:Rl R ρ σ.top (.sub p τ a c) v) (hy:Rl R ρ σ.top y w) (hi:aj ρ b st fr σ):eB ρ σ.top (indexAddrV E.P t v w) r:=by
 unfold isM at h
 split at h
 ·rename_i e k n hu
  split at h
  ·rename_i sz hs
   obtain⟨hb,h⟩:=aH h
   cases h
   have:=aJ hb;subst this
   rw[hy.inv_int]
   intro hc
   have hc':0<=n/\n<c-a:=of_decide_eq_true hc
   obtain⟨g0,g1,g2,h⟩:=hx.jI
   rcases h with ⟨s,cp,h1,h2,rfl⟩| ⟨e,_,rfl⟩
   ·refine⟨.ref (ρ.om.lc p) s (a.toNat*szD R τ+n.toNat*szD R τ),?_,by unfold Rl;exact⟨s,h1,by omega,by rw[<-QZ,Nat.add_zero];congr 2;omega⟩⟩
    unfold indexAddrV
    rw[hu]
    simp only[hs,Option.bind_some,idx,dw]
    rw[if_pos ⟨hc'.1,by omega⟩]
    simp
   ·omega
  ·cases h
 ·cases h
theorem Nn {om:Bool} {t:TypeId} {p:Nat} {τ:Ty} {y:TV R.T} {v w:V} {r:Res R} (h:ivM E R t p τ y st=some r) (hx:Rl R ρ σ.top (.vw p τ) v) (hy:Rl R ρ σ.top y w) (hi:aj ρ b st fr σ):eB ρ σ.top (indexAddrV E.P t v w) r:=by
 unfold ivM at h
 split at h
 ·rename_i e k n hu
  split at h
  ·rename_i sz hs
   obtain⟨hb,h⟩:=aH h
   split at h
   ·rename_i τ' l hl
    cases h
    have:=aJ hb;subst this
    rw[hy.inv_int]
    intro hc
    have hc':=of_decide_eq_true hc
    have hlen:=(hi.rd hl).1
    rcases hx.jl with ⟨s,k1,rfl⟩| ⟨h0,_⟩
    ·refine⟨.ref (ρ.om.lc p) s (n.toNat*szD R τ),?_,by unfold Rl;exact⟨s,k1,hc'.1,rfl⟩⟩
     unfold indexAddrV
     rw[hu]
     simp only[hs,Option.bind_some,idx,dw]
     rw[if_pos ⟨hc'.1,by rw[<-hlen];exact hc'.2⟩]
     simp
    ·rw[hlen,h0] at hc';omega
   ·cases h
  ·cases h
 ·cases h
end
end Aq
end
