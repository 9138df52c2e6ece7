import Derived.Test.YtabmooekodficaaGreatF1308
set_option linter.all false
section
namespace Aq
open Go
section
variable {R:Reg} {E:Env}
variable {ρ:ak} {top:Nat->Nat}
def fA (ρ:ak) (top:Nat->Nat) (v:Option V):Res R->Prop
 |.t x=>∃y,v=some y/\Rl R ρ top x y
 |.c c x=>c=true->∃y,v=some y/\Rl R ρ top x y
 |.p _ _ o f=>∀a,o=some a->∃y,v=some y/\Rl R ρ top (f a) y
 |_=>False
theorem Eh {op:BinOp} {k:IntKind} {x y:Int} {r:Res R} (h:intM R op k x y=some r):fA ρ top (dB op k x y) r:=by
 unfold intM at h
 cases op<;>cases h<;>first
  |exact⟨_,rfl,by unfold Rl;rfl⟩
  | (intro hc
     have hy:¬y=0:=by simpa using hc
     exact⟨_,if_neg hy,by unfold Rl;rfl⟩)
theorem NP {op:BinOp} {k:IntKind} {x y:Int} {r:Res R} (h:shiftM R op k x y=some r):fA ρ top (oU op k x y) r:=by
 unfold shiftM at h
 cases op<;>cases h<;>
  (intro hc
   have hy:¬y<0:=by have:=of_decide_eq_true hc;omega
   exact⟨_,if_neg hy,by unfold Rl;rfl⟩)
theorem NR {op:BinOp} {x y:List UInt8} {r:Res R} (h:strM R op x y=some r):fA ρ top (kD op x y) r:=by
 unfold strM at h
 cases op<;>cases h<;>first
  |exact⟨_,rfl,by unfold Rl;rfl⟩
  | (intro hc
     have hy:¬((x.length+y.length:Nat):Int)>IntKind.i64.max:=by have:=of_decide_eq_true hc;omega
     exact⟨_,if_neg hy,by unfold Rl;rfl⟩)
theorem NS {P:Program} {op:BinOp} {t:TypeId} {k:IntKind} {a b:Int} (h:isShift op=false):gM P op t (.int k a) (.int k b)=dB op k a b:=by
 cases op<;>first| (simp[isShift] at h;done)|simp[gM]
theorem NT {P:Program} {op:BinOp} {t:TypeId} {k k':IntKind} {a b:Int} (h:isShift op=true):gM P op t (.int k a) (.int k' b)=oU op k a b:=by
 cases op<;>first| (simp[isShift] at h;done)|rfl
theorem NU {P:Program} {op:BinOp} {t:TypeId} {a b:List UInt8}:gM P op t (.str a) (.str b)=kD op a b:=by
 cases op<;>rfl
theorem NV {P:Program} {t:TypeId} {x y:V} {b:Bool} (h:fJ P t x y=some b):(∀k n k' m,x= .int k n->y= .int k' m->False)/\∀s s',x= .str s->y= .str s'->False:=by
 unfold fJ at h
 constructor
 ·intro k n k' m hx hy;subst hx;subst hy;split at h<;>simp_all
 ·intro s s' hx hy;subst hx;subst hy;split at h<;>simp_all
theorem uF {P:Program} {t:TypeId} {x y:V} {b:Bool} (h:fJ P t x y=some b):gM P .eql t x y=some (.bool b)/\gM P .neq t x y=some (.bool !b):=by
 obtain⟨h1,h2⟩:=NV h
 constructor
 all_goals
  unfold gM
  split
  ·rename_i he;cases he
  ·rename_i he;cases he
  ·exact(h1 _ _ _ _ rfl rfl).elim
  ·exact(h2 _ _ rfl rfl).elim
  all_goals first| (rw[h];rfl)| (rename_i he;cases he)|simp_all
theorem Ei {t:TypeId} {x y:TV R.T} {v w:V} {c b:Bool} (h:nilM E R t x y=some (c,b)) (hx:Rl R ρ top x v) (hy:Rl R ρ top y w) (hc:c=true):fJ E.P t v w=some b:=by
 unfold nilM at h
 split at h
 ·rename_i hu
  cases h;rw[hx.fG,hy.fG]
  unfold fJ;rw[hu]
 ·rename_i hu
  cases h
  obtain⟨c',rfl,hcr⟩:=hx.dx
  have NW:c'= .nil:=hcr
  subst NW
  rw[hy.fG,List.isEmpty_iff.1 hc];unfold fJ;rw[hu];rfl
 ·rename_i _ _ l _ hu
  cases h
  obtain⟨c',rfl,hcr⟩:=hx.dx
  match l,hc with
  |a::l,_=>rw[hy.fG];unfold fJ;rw[hu];cases c'<;>rfl
 ·cases h
theorem NY {op:BinOp} {t:TypeId} {x y:TV R.T} {v w:V} {r:Res R} (h:binM E R op t x y=some r) (hx:Rl R ρ top x v) (hy:Rl R ρ top y w):fA ρ top (gM E.P op t v w) r:=by
 unfold binM at h
 split at h
 ·rename_i k a k' b
  rw[hx.inv_int,hy.inv_int]
  cases hs:isShift op
  ·rw[hs,cond_false] at h
   split at h
   ·rename_i e;subst e;rw[NS hs];exact Eh h
   ·cases h
  ·rw[hs,cond_true] at h;rw[NT hs];exact NP h
 ·rw[hx.dS,hy.dS,NU];exact NR h
 ·split at h
  ·split at h
   ·rename_i c b hb;cases h
    exact fun hc=>⟨_,(uF (Ei hb hx hy hc)).1,by unfold Rl;rfl⟩
   ·split at h
    ·rename_i b hb;cases h
     exact⟨_,(uF (Ef hb hx hy)).1,by unfold Rl;rfl⟩
    ·cases h
  ·split at h
   ·rename_i c b hb;cases h
    exact fun hc=>⟨_,(uF (Ei hb hx hy hc)).2,by unfold Rl;rfl⟩
   ·split at h
    ·rename_i b hb;cases h
     exact⟨_,(uF (Ef hb hx hy)).2,by unfold Rl;rfl⟩
    ·cases h
  ·cases h
theorem NZ {op:UnOp} {x:TV R.T} {v:V} {r:Res R} (h:unM R op x=some r) (hx:Rl R ρ top x v):fA ρ top (lM op v) r:=by
 unfold unM at h
 split at h
 ·cases h;rw[hx.inv_int];exact⟨_,rfl,by unfold Rl;rfl⟩
 ·rw[hx.inv_int];exact Eh h
 ·cases h;rw[hx.fQ];exact⟨_,rfl,by unfold Rl;rfl⟩
 ·cases h;rw[hx.iN];exact⟨_,rfl,by unfold Rl;rfl⟩
 ·cases h
theorem Ej (s:List UInt8):s.map eT=List.map (encD R (.int .u8)) (s.map fun b=>((b.toNat:Nat):Int)):=by
 show s.map eT=List.map (fun n:Int=>V.int .u8 n) (List.map (fun b:UInt8=>((b.toNat:Nat):Int)) s)
 rw[TG];rfl
theorem yE:∀l:List Int,(List.map (encD R (.int .u8)) l).mapM lN=some (List.map (fun n:Int=>UInt8.ofNat n.toNat) l)
 | []=>rfl
 |n::l=>by
  show List.mapM lN (V.int .u8 n::List.map (encD R (.int .u8)) l)=_
  rw[R9,yE l];rfl
theorem N7 {a b:TypeId} {x:TV R.T} {v:V} {σ:Sig} {r:Res R} (h:convM E R a b x=some r) (hx:Rl R ρ top x v):fA ρ top (jQ E.P σ a b v) r:=by
 unfold convM at h
 unfold jQ
 split at h
 ·rename_i hu hv;cases h;rw[hx.inv_int,hu,hv];exact⟨_,rfl,by unfold Rl;rfl⟩
 ·rename_i hu hv;cases h;rw[hx.dS,hu,hv];exact⟨_,rfl,by unfold Rl;rfl⟩
 ·rename_i hu hv
  rw[hx.dS,hu,hv]
  split at h
  ·rename_i he;cases h
   dsimp only;rw[he]
   exact⟨_,rfl,by unfold Rl;exact⟨.sh,by rw[Ej],trivial⟩⟩
  ·cases h
 ·rename_i l hu hv
  obtain⟨c',rfl,_⟩:=hx.dx
  rw[hu,hv]
  split at h
  ·rename_i he;cases h
   dsimp only;rw[he]
   exact⟨_,congrArg (Option.map V.str) (yE (R:=R) l),by unfold Rl;rfl⟩
  ·cases h
 ·rename_i hu hv
  rw[hx.fG,hu,hv]
  split at h
  ·rename_i he;cases h
   dsimp only;rw[he]
   exact⟨_,rfl,by unfold Rl;rfl⟩
  ·cases h
 ·cases h
theorem kY {x:Option (TV R.T)} {v:Option V} {i:Option Int} (h:bndM R x=some i) (hx:∀y,x=some y->∃w,v=some w/\Rl R ρ top y w) (hn:x=none->v=none):(i=none/\v=none)\/∃n k,i=some n/\v=some (.int k n):=by
 unfold bndM at h
 split at h
 ·cases h;exact .inl ⟨rfl,hn rfl⟩
 ·rename_i k n
  cases h
  obtain⟨w,rfl,hw⟩:=hx _ rfl
  exact .inr ⟨n,k,rfl,by rw[hw.inv_int]⟩
 ·cases h
theorem iT {k:IntKind} {n:Int} {m:Nat} (h:inB n m=true):bnd (.int k n) m=some n.toNat:=by
 unfold inB at h
 have:=of_decide_eq_true h
 simp[bnd,dM,this]
theorem El {α:Type} (l:List α) {lo hi:Option Int} {vl vh:Option V} (hl:(lo=none/\vl=none)\/∃n k,lo=some n/\vl=some (.int k n)) (hh:(hi=none/\vh=none)\/∃n k,hi=some n/\vh=some (.int k n)) (hb:subB l.length lo hi=true):
 ∃a c,bZ l.length l.length vl vh none=some (a,c,l.length)/\(l.take c).drop a=subL l lo hi:=by
 rcases hl with ⟨rfl,rfl⟩| ⟨n,k,rfl,rfl⟩<;>rcases hh with ⟨rfl,rfl⟩| ⟨m,k',rfl,rfl⟩
 ·exact⟨0,l.length,rfl,by simp[subL]⟩
 ·have h1:inB m l.length=true:=hb
  exact⟨0,m.toNat,by simp[bZ,iT h1],by simp[subL]⟩
 ·have h1:inB n l.length=true:=hb
  exact⟨n.toNat,l.length,by simp[bZ,iT h1],by simp[subL]⟩
 ·have h1:(inB m l.length&& inB n m.toNat)=true:=hb
  rw[iP] at h1
  exact⟨n.toNat,m.toNat,by simp[bZ,iT h1.1,iT h1.2],by simp[subL]⟩
theorem yF {α:Type} (f:α->V) (l:List α) (a c:Nat):((l.map f).take c).drop a=((l.take c).drop a).map f:=by simp
variable (hR:RegOK R)
include hR
theorem og (t:Ty) (x:Den R.T t):(encD R t x).cells.length=szD R t/\oneCells (encD R t x).cells=true/\er (encD R t x)=encD R t x/\(isSt t=true->∃l,encD R t x= .agg l)/\(isSt t=false->(encD R t x).cells=[encD R t x]):=by
 cases t with
 |int k=>exact⟨rfl,rfl,rfl,by simp[isSt],fun _=>rfl⟩
 |bool=>exact⟨rfl,rfl,rfl,by simp[isSt],fun _=>rfl⟩
 |str=>exact⟨rfl,rfl,rfl,by simp[isSt],fun _=>rfl⟩
 |slice t=>exact⟨rfl,rfl,rfl,by simp[isSt],fun _=>rfl⟩
 |st n=>
  have he:encD R (.st n) x= .agg (encs R (R.lf n) (R.of n x)):=hR.enc n x
  rw[he]
  have hl:=hR.leaf n
  have key:∀(l:List Ty) (p:PayT R.T l),l.all eF=true->oneCells (encs R l p)=true/\(encs R l p).map aW=encs R l p:=by
   intro l
   induction l with
   |nil=>intro p _;exact⟨rfl,rfl⟩
   |cons t l ih=>
    intro p h
    rw[List.all_cons,iP] at h
    have h1:∀y:Den R.T t,oneCell (encD R t y)=true/\aW (encD R t y)=encD R t y:=by
     intro y
     cases t<;>first|exact⟨rfl,rfl⟩| (have:=h.1;simp[eF] at this)
    cases l with
    |nil=>exact⟨by simp[encs,oneCells,(h1 p).1],by simp[encs,(h1 p).2]⟩
    |cons u l=>
     have:=ih p.2 h.2
     exact⟨by show (oneCell _&& oneCells (encs R (u::l) p.2))=true;rw[(h1 p.1).1,this.1];rfl,by show aW _::List.map aW (encs R (u::l) p.2)=_;rw[(h1 p.1).2,this.2];rfl⟩
  have:=key (R.lf n) (R.of n x) hl
  exact⟨xX _ _,this.1,by show V.agg (List.map aW _)=_;rw[this.2],fun _=>⟨_,rfl⟩,by simp[isSt]⟩
theorem qI {t:Ty} (l:List (Den R.T t)):fK (szD R t) (l.map (encD R t))=true:=by
 cases l with
 |nil=>rfl
 |cons x l=>show ((encD R t x).cells.length==szD R t)=true;rw[(og hR t x).1];simp
theorem N8 {t:TypeId} {x:TV R.T} {lo hi:Option (TV R.T)} {v:V} {vl vh:Option V} {σ:Sig} {r:Res R} (h:sliceM E R t x lo hi=some r) (hx:Rl R ρ top x v)
 (hl:∀y,lo=some y->∃w,vl=some w/\Rl R ρ top y w) (hln:lo=none->vl=none) (hh:∀y,hi=some y->∃w,vh=some w/\Rl R ρ top y w) (hhn:hi=none->vh=none):fA ρ top (dV E.P σ t v vl vh none) r:=by
 unfold sliceM at h
 split at h
 ·rename_i lo' hi' e1 e2
  have b1:=kY e1 hl hln
  have b2:=kY e2 hh hhn
  split at h
  ·rename_i s hu
   cases h
   rw[hx.dS]
   intro hc
   obtain⟨a,c,h1,h2⟩:=El s b1 b2 hc
   refine⟨.str (subL s lo' hi'),?_,by unfold Rl;rfl⟩
   unfold dV;rw[hu];dsimp only;rw[h1];simp[h2]
  ·rename_i e c u l hu
   split at h
   ·rename_i sz hs
    cases hb:Nat.beq sz (szD R u)
    ·rw[hb] at h;cases h
    ·rw[hb,cond_true] at h;cases h
     have:=aO hb;subst this
     obtain⟨c',rfl,_⟩:=hx.dx
     intro hc
     obtain⟨a,m,h1,h2⟩:=El l b1 b2 hc
     unfold dV;rw[hu];dsimp only
     rw[hs];simp only[Option.bind_some,RY,h1,qI hR,if_true]
     by_cases hcs:a=0/\m=l.length/\(none:Option V).isNone=true
     ·refine⟨_,by rw[if_pos hcs],?_⟩
      unfold Rl
      refine⟨c',?_,trivial⟩
      rw[<-h2,hcs.1,hcs.2.1];simp
     ·refine⟨_,by rw[if_neg hcs],?_⟩
      unfold Rl
      exact⟨_,by rw[<-h2,yF],trivial⟩
   ·cases h
  ·cases h
 ·cases h
theorem uG {t:TypeId} {k:Ty} (hk:keyM E t k=true) (x y:Den R.T k):eP (encD R k x) (encD R k y)=some (beqD R k x y)/\dQ E.P t (encD R k x)=true:=by
 unfold keyM at hk
 split at hk
 ·rename_i hu;exact⟨by simp[eP,encD,beqD],by unfold dQ;rw[hu];rfl⟩
 ·rename_i hu;exact⟨rfl,by unfold dQ;rw[hu];rfl⟩
 ·rename_i hu;exact⟨rfl,by unfold dQ;rw[hu];rfl⟩
 ·cases hk
theorem Em {t:TypeId} {k e:Ty} (hk:keyM E t k=true) (x:Den R.T k):∀m:List (Den R.T k×Den R.T e),fZ (encD R k x) (m.map fun p=>encD R k p.1) (m.map fun p=>encD R e p.2)=some ((mget (beqD R k) x m).map (encD R e))
 | []=>rfl
 | (a,v)::m=>by
   show (eP (encD R k x) (encD R k a)).bind _=some ((bif beqD R k x a then some v else mget (beqD R k) x m).map (encD R e))
   rw[(uG hR hk x a).1,Option.bind_some]
   cases beqD R k x a
   ·exact Em hk x m
   ·rfl
theorem En {t:TypeId} {k e:Ty} (hk:keyM E t k=true) (x:Den R.T k) (v:Den R.T e):∀m:List (Den R.T k×Den R.T e),jE (encD R k x) (encD R e v) (m.map fun p=>encD R k p.1) (m.map fun p=>encD R e p.2)=
 some ((mset (beqD R k) x v m).map (fun p=>encD R k p.1),(mset (beqD R k) x v m).map fun p=>encD R e p.2)
 | []=>rfl
 | (a,w)::m=>by
   show (eP (encD R k x) (encD R k a)).bind _=_
   rw[(uG hR hk x a).1,Option.bind_some]
   show _=some (List.map _ (bif beqD R k x a then (x,v)::m else (a,w)::mset (beqD R k) x v m),List.map _ (bif beqD R k x a then (x,v)::m else (a,w)::mset (beqD R k) x v m))
   cases beqD R k x a
   ·simp only[RU,if_false,cond_false]
    rw[En hk x v m];rfl
   ·rfl
theorem Eo {t:TypeId} {k:Ty} (hk:keyM E t k=true) {x:Den R.T k} {y:TV R.T} {v:V} (h:unD R k y=some x) (hr:Rl R ρ top y v):v=encD R k x:=by
 unfold keyM at hk
 split at hk
 ·exact xU h hr
 ·exact xW h hr
 ·exact xV h hr
 ·cases hk
omit hR in
def mapOf (σ:Sig):V->Option (List V×List V)
 |.nilm=>some ([],[])
 |.mapr loc s=>σ.bn loc s
 |.mapc ks vs=>some (ks,vs)
 |_=>none
omit hR in
theorem Ep {P:Program} {σ:Sig} {t:TypeId} {m k:V} {ok:Bool}:jF P σ t m k ok=(mapT P t).bind fun p=>if dQ P p.1 k then (mapOf σ m).bind fun q=>(fZ k q.1 q.2).bind fun r=>
 (match r with|some v=>some (v,true)|none=>(zeroT P p.2).map fun z=>(z,false)).map fun (x:V×Bool)=>if ok then .tup [x.1,.bool x.2] else x.1 else none:=by
 cases m<;>rfl
theorem yG {t:TypeId} {k e:Ty} {m:List (Den R.T k×Den R.T e)} {y:TV R.T} {w mv:V} {ok:Bool} {σ:Sig} {r:Res R} (h:lookM E R t k e m y ok=some r) (hy:Rl R ρ top y w)
 (hm:mapOf σ mv=some (m.map (fun p=>encD R k p.1),m.map fun p=>encD R e p.2)):fA ρ top (jF E.P σ t mv w ok) r:=by
 unfold lookM at h
 split at h
 ·rename_i kt et ht
  cases hk:keyM E kt k
  ·rw[hk] at h;cases h
  ·rw[hk,cond_true] at h
   split at h
   ·rename_i z hz
    split at h
    ·rename_i z' x hz' hx
     cases h
     have hw:=Eo hR hk hx hy
     subst hw
     obtain⟨zv,hzv,yH⟩:=mE (ρ:=ρ) (top:=top) hz
     have N9:=mD hR hz' yH
     rw[Ep,ht];simp only[Option.bind_some]
     rw[if_pos (uG hR hk x x).2,hm]
     simp only[Option.bind_some]
     rw[Em hR hk x m]
     simp only[Option.bind_some]
     cases hg:mget (beqD R k) x m with
     |some v=>
      simp only[Option.map_some]
      cases ok
      ·exact⟨_,rfl,uo hR .any (.inl rfl) e v⟩
      ·refine⟨_,rfl,?_⟩
       rw[cond_true]
       unfold Rl
       exact⟨_,rfl,.cons' (uo hR .any (.inl rfl) e v) (.cons' (by unfold Rl;rfl) rfl)⟩
     |none=>
      simp only[Option.map_none,hzv,Option.map_some]
      have hz3:Rl R ρ top (tvD R .any e z') zv:=N9
      cases ok
      ·exact⟨_,rfl,hz3⟩
      ·refine⟨_,rfl,?_⟩
       rw[cond_true]
       unfold Rl
       exact⟨_,rfl,.cons' hz3 (.cons' (by unfold Rl;rfl) rfl)⟩
    ·cases h
   ·cases h
 ·cases h
end
end Aq
end
section
namespace Aq
open Go
section
variable {R:Reg} {E:Env}
variable {ρ:ak} {top:Nat->Nat} {b:Nat} {st:MS R.T} {fr:Fr} {σ:Sig}
theorem aK.{u} {α:Type u} {c:Bool} {o:Option α} {y:α} (h:(bif c then o else none)=some y):c=true/\o=some y:=by
 cases c
 ·cases h
 ·exact⟨rfl,h⟩
theorem oh {t e:TypeId} {u:Ty} {sz by_:Nat} (h:elM E R t=some (e,u,sz,by_)):∃z,elemT E.P t=some e/\szT E.P e=some sz/\bytesT E.P e=some by_/\isAggT E.P e=some (isSt u)/\zeroT E.P e=some z/\
 sz=szD R u/\0<sz/\(isSt u||sz==1)=true/\z.cells.length=sz:=by
 unfold elM at h
 split at h
 ·rename_i e' he
  split at h
  ·rename_i u' sz' by' ag z h1 h2 h3 h4 h5
   obtain⟨hc,h⟩:=aK h
   cases h
   simp only[iP] at hc
   obtain⟨⟨⟨⟨c1,c2⟩,c3⟩,c4⟩,c5⟩:=hc
   have:ag=isSt u:=by simpa using c5
   subst this
   refine⟨z,he,h2,h3,h4,h5,aO c1,Sj c2,?_,aO c4⟩
   rw[Td] at c3⊢
   rcases c3 with c3|c3
   ·exact .inl c3
   ·exact .inr (by rw[aO c3];rfl)
  ·cases h
 ·cases h
theorem yI (ag:Bool) (sz:Nat):∀vs:List V,(∀v∈vs,v.cells.length=sz)->chunks ag sz vs.length (vs.flatMap V.cells)=vs.map fun v=>if ag then .agg v.cells else v.cells.headD undefV
 | [],_=>rfl
 |v::vs,h=>by
  have h1:=h v (by simp)
  have h2:=yI ag sz vs (fun w hw=>h w (by simp[hw]))
  show _::chunks ag sz vs.length ((v.cells++vs.flatMap V.cells).drop sz)=_
  rw[List.drop_left' h1,h2,R3]
  congr 1
  cases ag
  ·simp only[RU,if_false]
   show (v.cells++vs.flatMap V.cells).headD undefV=_
   cases hv:v.cells with
   |nil=>
    have h0:sz=0:=by rw[<-h1,hv];rfl
    cases vs with
    |nil=>rfl
    |cons w vs=>
     have:w.cells=[]:=SQ (by rw[h w (by simp),h0])
     simp only[Sw,this,List.nil_append]
     have:∀vs:List V,(∀v∈vs,v.cells.length=sz)->vs.flatMap V.cells=[]:=by
      intro vs hvs
      rw[List.flatMap_eq_nil_iff]
      intro x hx;exact SQ (by rw[hvs x hx,h0])
     rw[this vs (fun x hx=>h x (by simp[hx]))]
   |cons a l=>rfl
  ·simp only[if_true]
   show V.agg ((v.cells++vs.flatMap V.cells).take sz)=_
   rw[List.take_left' h1]
variable (hR:RegOK R)
include hR
theorem Oa {t:Ty} {x:Den R.T t} {v:V} (h:er v=encD R t x):notRaw v=true:=by
 cases v<;>try rfl
 have h1:=gG hR t x
 rw[<-h] at h1
 simp[er,pclean] at h1
theorem yJ {u:Ty} {sz len:Nat} (hsz:sz=szD R u):∀(ps:List (Nat×TV R.T)) (qs:List (Nat×V)) (xs:List (Den R.T u)) (n:Nat) (done rest:List V),unDs R u n ps=some xs->ps.map (·.1)=qs.map (·.1)->
 RlL R ρ top (ps.map (·.2)) (qs.map (·.2))->done.length=n*sz->rest.length=xs.length*sz->n+xs.length<=len->
 ∃vs:List V,iA (fun i=>if i<len then some (i*sz,sz) else none) (done++rest) qs=some (done++vs.flatMap V.cells)/\vs.length=xs.length/\vs.map er=xs.map (encD R u)/\(∀v∈vs,v.cells.length=sz/\oneCells v.cells=true)/\RlL R ρ top (xs.flatMap fun x=>(tvD R .any u x).cells) (vs.flatMap V.cells)
 | [],[],xs,n,done,rest,h,_,_,h1,h2,_=>by
   cases h
   have:rest=[]:=SQ (by simpa using h2)
   subst this
   exact⟨[],by simp[iA],rfl,rfl,by simp,by rfl⟩
 | [],_::_,_,_,_,_,_,h,_,_,_,_=>by simp at h
 |_::_,[],_,_,_,_,_,h,_,_,_,_=>by simp at h
 | (i,v)::ps,(j,w)::qs,xs,n,done,rest,h,hi,hr,h1,h2,h3=>by
   simp only[R3,SL] at hi
   obtain⟨rfl,hi⟩:=hi
   obtain⟨y,ys,e,g1,g2⟩:=hr.inv_cons
   simp only[R3,SL] at e
   obtain⟨rfl,rfl⟩:=e
   unfold unDs at h
   cases hb:Nat.beq i n
   ·rw[hb] at h;cases h
   ·rw[hb,cond_true] at h
    have:=aO hb;subst this
    cases hu:unD R u v with
    |none=>simp only[hu] at h;cases h
    |some x=>
     cases hs:unDs R u (i+1) ps with
     |none=>simp only[hu,hs] at h;cases h
     |some xs'=>
      simp only[hu,hs] at h
      obtain rfl:=Sn h
      obtain⟨a1,a2,a3,a4,a5⟩:=xZ hR hu g1
      rw[<-hsz] at a4
      have hlen:rest.length=sz+xs'.length*sz:=by rw[h2,List.length_cons,SH];omega
      have q1:(done++w.cells).length=(i+1)*sz:=by rw[R8,h1,a4,SH]
      have q2:(rest.drop sz).length=xs'.length*sz:=by rw[SY,hlen,Tk]
      have q3:i+1+xs'.length<=len:=by rw[List.length_cons] at h3;omega
      obtain⟨vs,k1,k2,k3,k4,k5⟩:=yJ hsz ps qs xs' (i+1) (done++w.cells) (rest.drop sz) hs hi g2 q1 q2 q3
      refine⟨w::vs,?_,by simp[k2],by simp[a1,k3],?_,?_⟩
      ·simp only[List.length_cons] at h3
       unfold iA
       simp only[if_pos (show i<len by omega)]
       rw[if_pos ⟨a4,by rw[R8,h1,hlen];exact Nat.add_le_add_left (Sm _ _) _,Oa hR a1⟩]
       have:spliceL (done++rest) (i*sz) w.cells=done++w.cells++rest.drop sz:=by
        unfold spliceL
        rw[List.take_left' h1,a4,Tz,h1,Tk,TH (by omega)]
        rfl
       rw[this,k1]
       simp
      ·intro z hz
       rcases Si.1 hz with rfl|hz
       ·exact⟨a4,a5⟩
       ·exact k4 z hz
      ·rw[Sw,Sw]
       refine RlL.append ?_ k5
       have h1:=mD hR hu g1
       refine(gY ?_ h1).1
       cases u<;>rfl
theorem Oc {u:Ty} {sz:Nat} (hsz:sz=szD R u) (h1:(isSt u||sz==1)=true) {v:V} {x:Den R.T u} (he:er v=encD R u x) (hl:v.cells.length=sz):er (if isSt u then .agg v.cells else v.cells.headD undefV)=encD R u x:=by
 cases hs:isSt u
 ·simp only[RU,if_false]
  have hne:∀cs,v≠ .agg cs:=by
   rintro cs rfl
   cases u<;>first| (simp[isSt] at hs;done)| (simp[er,encD] at he;done)
  have:v.cells=[v]:=by cases v<;>first|rfl|exact absurd rfl (hne _)
  rw[this];exact he
 ·simp only[if_true]
  obtain⟨l,hl'⟩:=(og hR u x).2.2.2.1 hs
  cases v<;>first|exact he| (rw[hl'] at he;simp[er] at he)
omit hR in
theorem Er {u:Ty}:∀(ps:List (Nat×TV R.T)) (n:Nat) (xs:List (Den R.T u)),unDs R u n ps=some xs->xs.length=ps.length:=by
 intro ps
 induction ps with
 |nil=>intro n xs h;cases h;rfl
 |cons p ps ih=>
  intro n xs h
  obtain⟨i,v⟩:=p
  unfold unDs at h
  obtain⟨_,h⟩:=aK h
  cases hu:unD R u v with
  |none=>simp only[hu] at h;cases h
  |some x=>
   cases hs:unDs R u (n+1) ps with
   |none=>simp only[hu,hs] at h;cases h
   |some xs'=>simp only[hu,hs] at h;cases h;simp[ih _ _ hs]
theorem Od {t:TypeId} {len:Nat} {ps:List (Nat×TV R.T)} {qs:List (Nat×V)} {r:Res R} (h:bslM E R t len ps=some r) (hi:ps.map (·.1)=qs.map (·.1)) (hr:RlL R ρ top (ps.map (·.2)) (qs.map (·.2))):fA ρ top (oV E t len qs) r:=by
 unfold bslM at h
 split at h
 ·rename_i e u sz by_ he
  obtain⟨z,e1,e2,e3,e4,e5,e6,e7,e8,e9⟩:=oh he
  ·obtain⟨hc,h⟩:=aK h
   rw[iP] at hc
   split at h
   ·rename_i xs hx
    cases h
    have hlen:xs.length=len:=by rw[Er ps 0 xs hx];exact aO hc.2
    obtain⟨vs,k1,k2,k3,k4,_⟩:=yJ hR (len:=len) e6 ps qs xs 0 [] ((List.replicate len z.cells).flatten) hx hi hr (by simp) (by simp[e9,hlen]) (by omega)
    refine⟨.lst .full (xs.map (encD R u)),?_,by unfold Rl;exact⟨.full,rfl,rfl⟩⟩
    unfold oV
    rw[e1];simp only[Option.bind_some,e2,e4,e5]
    rw[if_pos ⟨Sj hc.1,e9,e7,e8⟩]
    rw[List.nil_append,List.nil_append] at k1
    rw[k1]
    simp only[Option.bind_some]
    have hone:oneCells (vs.flatMap V.cells)=true:=by
     unfold oneCells
     rw[List.all_flatMap,Sl]
     intro v hv;exact(k4 v hv).2
    rw[hone,if_pos rfl,<-hlen,<-k2,yI _ _ _ (fun v hv=>(k4 v hv).1),TG]
    congr 2
    have:∀(vs:List V) (xs:List (Den R.T u)),vs.map er=xs.map (encD R u)->(∀v∈vs,v.cells.length=sz/\oneCells v.cells=true)->vs.map (er∘fun v=>if isSt u then .agg v.cells else v.cells.headD undefV)=xs.map (encD R u):=by
     intro vs
     induction vs with
     |nil=>intro xs h _;exact h
     |cons v vs ih=>
      intro xs h hk
      cases xs with
      |nil=>simp at h
      |cons x xs=>
       simp only[R3,SL] at h
       rw[R3,R3,ih xs h.2 (fun w hw=>hk w (by simp[hw]))]
       congr 1
       exact Oc hR e6 e8 h.1 (hk v (by simp)).1
    rw[this vs xs k3 k4]
   ·cases h
 ·cases h
theorem yK {u:Ty} (l:List (Den R.T u)):(l.map (encD R u)).all (fun v=>oneCells v.cells)=true:=by
 simp[List.all_map,(og hR u _).2.1]
theorem yL {u:Ty} {ag:Bool} {y:TV R.T} {v z:V} {l:List (Den R.T u)} (h:srcM R u y=some l) (hy:Rl R ρ top y v):dR σ ag (szD R u) z v=some (l.map (encD R u))/\jR v=false:=by
 unfold srcM at h
 split at h
 ·obtain⟨e,e2⟩:=iO h;subst e;cases e2
  obtain⟨c',rfl,_⟩:=hy.dx
  exact⟨by show (if fK _ _=true then _ else _)=_;rw[if_pos (qI hR _)],rfl⟩
 ·cases h;rw[hy.fG];exact⟨rfl,rfl⟩
 ·rename_i s
  obtain⟨e,e2⟩:=iO h;subst e;cases e2
  rw[hy.dS]
  exact⟨by show (if 1=1 then some (s.map eT) else none)=_;rw[if_pos rfl];exact congrArg some (Ej (R:=R) s),rfl⟩
 ·cases h
theorem Oe {t e:TypeId} {sz by_:Nat} {ag:Bool} {z:V} {c:Cap} {l ys:List V} {y:V} {loc:Option Loc} {ah:Nat} {P:Program} (h1:elemT P t=some e) (h2:szT P e=some sz) (h3:bytesT P e=some by_) (h4:isAggT P e=some ag) (h5:zeroT P e=some z)
 (h6:z.cells.length=sz) (h7:0<sz) (h8:(ag||sz==1)=true) (hy:dR σ ag sz z y=some ys) (hi:jR y=false) (ho:ys.all (fun v=>oneCells v.cells)=true) (hr:roomOK (l.length+ys.length) by_=true) (hh:fK sz l=true):
 fC P false false σ ah loc t (.lst c l) y=match c with
  |.own n s=>if n=sz/\σ.top s=l.length then some (.lst (.own n s) (l++ys),σ.aJ s (l.length+ys.length)) else none
  |.nil|.full=>some (.lst (.own sz ah) (l++ys),σ.aJ ah (l.length+ys.length))
  |_=>none:=by
 unfold fC
 simp only[h1,h2,h3,h4,h5,Option.bind_some,hi,hy,ho,if_true]
 rw[if_pos ⟨trivial,h6,h7,h8⟩]
 simp only[hr,hh,and_self,if_true]
 cases c<;>rfl
theorem Og {d:Option Nat} {t u:TypeId} {x y:TV R.T} {v w:V} {r:Res R} {ah:Nat} {loc:Option Loc} {o:Oper} (h:appM E R d t u x y st=some r) (hx:Rl R ρ σ.top x v) (hy:Rl R ρ σ.top y w) (hi:aj ρ ah st fr σ)
 (ho:∀y σ',fC E.P false false σ ah loc t v w=some (y,σ')->dP E fr σ ah o y σ'):fT E st ρ ah fr σ o r:=by
 unfold appM at h
 split at h
 ·rename_i d
  split at h
  ·rename_i e τ sz by_ he
   obtain⟨z,e1,e2,e3,e4,e5,e6,e7,e8,e9⟩:=oh he
   ·obtain⟨hss,h⟩:=aK h
    split at h
    ·rename_i tk l l' hd hs
     cases h
     intro hroom
     subst e6
     obtain⟨g1,g2⟩:=yL hR (ag:=isSt τ) (z:=z) (σ:=σ) hs hy
     have hlen:roomOK ((l.map (encD R τ)).length+(l'.map (encD R τ)).length) by_=true:=by rw[RY,RY];exact hroom
     have hap:∀c,fC E.P false false σ ah loc t (.lst c (l.map (encD R τ))) w=_:=fun c=>Oe hR (σ:=σ) (c:=c) (loc:=loc) (ah:=ah) e1 e2 e3 e4 e5 e9 e7 e8 g1 g2 (yK hR l') hlen (qI hR l)
     have fresh:∀(c:Cap),(c= .nil\/c= .full)->v= .lst c (l.map (encD R τ))->∃x σ' ρ',dP E fr σ ah o x σ'/\aj ρ' (ah+1) (st.wk tk) fr σ'/\σ'.next=σ.next/\Rl R ρ' σ'.top (.lst (.own tk) τ (l++l')) x/\∀p,ND E o p->au true p st ρ σ (st.wk tk) ρ' σ':=by
      intro c hc hv
      subst hv
      have:=hap c
      refine⟨.lst (.own (szD R τ) ah) (l.map (encD R τ)++l'.map (encD R τ)),σ.aJ ah ((l.map (encD R τ)).length+(l'.map (encD R τ)).length),ρ.bH tk ah,ho _ _ (by rw[this];rcases hc with rfl|rfl<;>rfl),?_,rfl,?_,?_⟩
      ·exact hi.wk tk ah _ (R4 _) (Ti _) hi.nx (fun u _ hu=>by have:=hi.lt u _ hu;omega)
      ·unfold Rl
       exact⟨_,by rw[SV],.inr (.inr ⟨ah,rfl,by simp[ak.bH,upd],by rw[nQ];simp⟩)⟩
      ·exact fun p _=>au.wk hi.nx
     unfold dstM at hd
     split at hd
     ·rename_i l0
      split at hd
      ·rename_i l1 hl1
       cases hd
       obtain⟨e,e2⟩:=iO hl1;subst e;cases e2
       obtain⟨c',rfl,hc'⟩:=hx.dx
       exact fresh c' (.inl hc') rfl
      ·cases hd
     ·rename_i l0
      split at hd
      ·rename_i l1 hl1
       cases hd
       obtain⟨e,e2⟩:=iO hl1;subst e;cases e2
       obtain⟨c',rfl,hc'⟩:=hx.dx
       exact fresh c' (.inr hc') rfl
      ·cases hd
     ·rename_i tk' τ' l0
      split at hd
      ·rename_i l1 hl1
       cases hd
       obtain⟨e,e2⟩:=iO hl1;subst e;cases e2
       obtain⟨c',rfl,hc'⟩:=hx.dx
       rcases hc' with hc'|hc'| ⟨s,hc',ht,hl⟩
       ·exact fresh c' (.inl hc') rfl
       ·exact fresh c' (.inr hc') rfl
       ·subst hc'
        have:=hap (.own (szD R τ') s)
        dsimp only at this
        rw[if_pos ⟨rfl,by rw[RY];exact hl⟩] at this
        refine⟨_,_,ρ.bH tk s,ho _ _ this,?_,rfl,?_,?_⟩
        ·exact hi.wk tk s _ (R4 _) (by have:=hi.lt tk s ht;omega) (hi.ge tk s ht) (fun u hu h'=>hu (hi.inj u tk s h' ht))
        ·unfold Rl
         exact⟨_,by rw[SV],.inr (.inr ⟨s,rfl,by simp[ak.bH,upd],by rw[nQ];simp⟩)⟩
        ·exact fun p _=>au.wk (hi.ge tk s ht)
      ·cases hd
     ·cases hd
      rw[hx.fG] at fresh
      have hx':=hx.fG
      subst hx'
      exact fresh .nil (.inl rfl) rfl
     ·cases hd
    ·cases h
  ·cases h
 ·cases h
omit hR in
theorem Oh {t:TypeId} {x:TV R.T} {v:V} {n:Nat} (h:lenM E t x st=some n) (hx:Rl R ρ σ.top x v) (hi:aj ρ b st fr σ):iC E σ t v=some n:=by
 unfold lenM at h
 unfold iC
 split at h
 ·rename_i hu;cases h;obtain⟨c',rfl,_⟩:=hx.dx;rw[hu];simp
 ·rename_i hu;cases h;rw[hx.fG,hu];rfl
 ·rename_i o t hu
  split at h
  ·rename_i t' l hl
   cases h
   have h1:=(hi.rd hl).1
   rcases hx.jJ with ⟨s,_,rfl⟩| ⟨h0,rfl|rfl⟩
   ·rw[hu];dsimp only;rw[h1]
   ·rw[hu];dsimp only;rw[h1,h0];rfl
   ·rw[hu];dsimp only;rw[h1,h0];rfl
  ·cases h
 ·rename_i o' t' a' b' hu
  cases h
  rcases hx.jZ with ⟨_,_,_,⟨s,cp,_,_,rfl⟩| ⟨e,c,rfl⟩⟩
  ·rw[hu]
  ·rw[hu];dsimp only;rw[e,Int.sub_self];rfl
 ·rename_i hu;cases h;rw[hx.dS,hu]
 ·rename_i o hu
  split at h
  ·rename_i k e m hl
   cases h
   obtain⟨s,h1,rfl⟩:=hx.jY
   obtain⟨s',h2,h3⟩:=hi.rd hl
   rw[h1] at h2;cases h2
   rw[hu];dsimp only;rw[h3];simp
  ·cases h
 ·rename_i hu;cases h;rw[hx.kT,hu];simp
 ·rename_i hu;cases h;unfold Rl at hx;subst hx;rw[hu]
 ·rename_i hu;cases h;rw[hu]
 ·cases h
omit hR in
theorem yM (mx:Bool):∀{l:List (TV R.T)} {x y:TV R.T} {v:V} {k:List V},mmM mx x l=some y->Rl R ρ top x v->RlL R ρ top l k->∃w,minMaxV mx v k=some w/\Rl R ρ top y w
 | [],x,y,v,k,h,hx,hl=>by
   rw[hl.inv_nil]
   unfold mmM at h;cases h
   exact⟨v,by cases v<;>rfl,hx⟩
 |z::l,x,y,v,k,h,hx,hl=>by
  obtain⟨w,ws,rfl,h1,h2⟩:=hl.inv_cons
  unfold mmM at h
  split at h
  ·rename_i hz;cases hz
  ·rename_i k a k' b l' hz
   simp only[SL] at hz
   obtain⟨rfl,rfl⟩:=hz
   split at h
   ·rename_i e;subst e
    rw[hx.inv_int,h1.inv_int]
    unfold minMaxV
    rw[if_pos rfl]
    refine yM mx h ?_ h2
    unfold Rl
    cases mx<;>rfl
   ·cases h
  ·cases h
omit hR in
theorem Es (c:Cp):∀(l:List Ty) (p:PayT R.T l),(tvs R c l p).length=l.length
 | [],_=>rfl
 | [_],_=>rfl
 |_::u::l,p=>by show (tvs R c (u::l) p.2).length+1=_;rw[Es c (u::l)];rfl
omit hR in
theorem kZ (c:Cp) (t:Ty) (x:Den R.T t):(tvD R c t x).cells.length=szD R t:=by
 cases t with
 |st n=>exact Es c _ _
 |_=>rfl
omit hR in
theorem yN {α β:Type} {f:α->List β} {sz:Nat} (hf:∀x,(f x).length=sz):∀(n:Nat) (l:List α),(l.flatMap f).drop (n*sz)=(l.drop n).flatMap f
 |0,l=>by simp
 |n+1,[]=>by simp
 |n+1,x::l=>by
  rw[Sw,List.drop_succ_cons,<-yN hf n l,SH,Nat.add_comm,<-List.drop_drop,<-hf x,List.drop_left]
omit hR in
theorem yO {α β:Type} {f:α->List β} {sz:Nat} (hf:∀x,(f x).length=sz):∀(n:Nat) (l:List α),(l.flatMap f).take (n*sz)=(l.take n).flatMap f
 |0,l=>by simp
 |n+1,[]=>by simp
 |n+1,x::l=>by
  rw[Sw,List.take_succ_cons,Sw,<-yO hf n l,SH,Nat.add_comm,<-hf x,List.take_length_add_append]
omit hR in
theorem Et {α:Type} {l:List α} {a b:Int} (h0:0<=a) (h1:a<=b):subI l a b=(l.drop a.toNat).take (b-a).toNat:=by
 unfold subI
 rw[List.take_drop]
 congr 2;omega
omit hR in
theorem Oi {t:Ty} {l:List (Den R.T t)} {cs:List V} {ρ:ak} {top:Nat->Nat} {a b:Int} (h0:0<=a) (h1:a<=b) (h:RlL R ρ top (l.flatMap fun x=>(tvD R .any t x).cells) cs):RlL R ρ top ((subI l a b).flatMap fun x=>(tvD R .any t x).cells) ((cs.drop (a.toNat*szD R t)).take ((b-a).toNat*szD R t)):=by
 rw[Et h0 h1,<-yO (fun x=>kZ .any t x),<-yN (fun x=>kZ .any t x)]
 exact(h.drop _).take _
omit hR in
theorem lg (t:Ty):∀l:List (Den R.T t),(l.flatMap fun x=>(tvD R .any t x).cells).length=l.length*szD R t
 | []=>by simp
 |x::l=>by rw[Sw,R8,kZ,lg t l,List.length_cons,SH];omega
omit hR in
theorem Eu {α:Type}:∀{l:List α} {i:Nat} {x:α},l[i]? =some x->∃a b,l=a++x::b/\a.length=i
 | [],_,_,h=>by simp at h
 |y::l,0,x,h=>by simp at h;subst h;exact⟨[],l,rfl,rfl⟩
 |y::l,i+1,x,h=>by
  obtain⟨a,b,rfl,hl⟩:=Eu (l:=l) (i:=i) (by simpa using h)
  exact⟨y::a,b,rfl,by simp[hl]⟩
omit hR in
theorem Oj {α:Type} {l:List α} {i:Int} {x:α} (h:idxL l i=some x):∃a b,l=a++x::b/\a.length=i.toNat/\0<=i:=by
 unfold idxL at h
 split at h
 ·rename_i hi
  obtain⟨a,b,h1,h2⟩:=Eu h
  exact⟨a,b,h1,h2,hi.1⟩
 ·cases h
omit hR in
theorem Ol {ag:Bool} {n off:Nat} {pre el post:List (TV R.T)} {v:TV R.T} (h:partM ag n el off=some v):partM ag n (pre++el++post) (pre.length+off)=some v:=by
 cases ag with
 |true=>
  have h':(bif Nat.ble (off+n) el.length then some (TV.agg ((el.drop off).take n)) else none)=some v:=h
  obtain⟨hb,h'⟩:=aK h'
  have hle:=Sj hb
  show (bif Nat.ble (pre.length+off+n) (pre++el++post).length then some (TV.agg (((pre++el++post).drop (pre.length+off)).take n)) else none)=some v
  have hb':Nat.ble (pre.length+off+n) (pre++el++post).length=true:=Nat.ble_eq_true_of_le (by simp;omega)
  rw[hb',cond_true,<-h']
  congr 2
  have e1:(pre++el++post).drop (pre.length+off)=(el++post).drop off:=by
   rw[Sv,Tz,TH (by omega)]
   simp
  rw[e1,Tz,List.take_append]
  have e2:n-(el.drop off).length=0:=by simp;omega
  rw[e2];simp
 |false=>
  have h':el[off]? =some v:=h
  show (pre++el++post)[pre.length+off]? =some v
  have hlt:off<el.length:=by rw[Tc] at h';exact h'.1
  rw[Sv,List.getElem?_append_right (by omega),Tk,TN hlt]
  exact h'
omit hR in
theorem Om {t:TypeId} {off:Nat} {pre el post:List (TV R.T)} {v:TV R.T} (h:ldM E t el off=some v):ldM E t (pre++el++post) (pre.length+off)=some v:=by
 unfold ldM at h⊢
 cases h1:isAggT E.P t with
 |none=>simp only[h1] at h;cases h
 |some a=>
  cases h2:szT E.P t with
  |none=>simp only[h1,h2] at h;cases h
  |some n=>simp only[h1,h2] at h⊢;exact Ol h
omit hR in
theorem Oo {t:TypeId} {off:Nat} {cs cs':List (TV R.T)} (hl:cs.length=cs'.length) (h:(ldM E t cs off).isSome=true):∃v,ldM E t cs' off=some v:=by
 unfold ldM at h⊢
 cases h1:isAggT E.P t with
 |none=>simp only[h1] at h;cases h
 |some a=>
  cases h2:szT E.P t with
  |none=>simp only[h1,h2] at h;cases h
  |some n=>
   simp only[h1,h2] at h⊢
   cases a with
   |true=>
    have h':(bif Nat.ble (off+n) cs.length then some (TV.agg ((cs.drop off).take n)) else none).isSome=true:=h
    cases hb:Nat.ble (off+n) cs.length
    ·rw[hb] at h';cases h'
    ·exact⟨.agg ((cs'.drop off).take n),by show (bif Nat.ble (off+n) cs'.length then _ else _)=_;rw[<-hl,hb];rfl⟩
   |false=>
    have h':cs[off]?.isSome=true:=h
    have hlt:off<cs'.length:=by rw[<-hl];simpa using h'
    exact⟨cs'[off],SB hlt⟩
omit hR in
theorem Ev {o s:Nat} {τ:Ty} {l:List (Den R.T τ)} {i:Int} {y:Den R.T τ} (hO:aP ρ σ o (.arr τ l)) (hs:ρ.ob o=some s) (hy:idxL l i=some y):
 ∃a b cs,l=a++y::b/\a.length=i.toNat/\σ.aF (ρ.om.lc o) s=some cs/\RlL R ρ σ.top ((a.flatMap fun x=>(tvD R .any τ x).cells)++(tvD R .any τ y).cells++b.flatMap fun x=>(tvD R .any τ x).cells) cs/\(a.flatMap fun x=>(tvD R .any τ x).cells).length=i.toNat*szD R τ:=by
 obtain⟨a,b,rfl,h1,h2⟩:=Oj hy
 rcases hO.2 with h| ⟨s',cs,h3,h4,h5⟩
 ·exact absurd h.1 (by simp)
 ·rw[hs] at h3;cases h3
  refine⟨a,b,cs,rfl,h1,h4,?_,by rw[lg,h1]⟩
  rw[List.flatMap_append,Sw] at h5
  rw[Sv];exact h5
omit hR in
theorem Oq {t:TypeId} {o s off:Nat} {τ:Ty} {i:Int} {ob:Ob R.T} {r:Res R} (h:elLd E R t τ i off ob=some r) (hO:aP ρ σ o ob) (hs:ρ.ob o=some s):∃(l:List (Den R.T τ)) (f:Den R.T τ->TV R.T),r= .p (Den R.T τ) (dfl R τ) (idxL l i) f/\
 ∀y,idxL l i=some y->∃cs w,σ.aF (ρ.om.lc o) s=some cs/\ldT E.P t cs (i.toNat*szD R τ+off)=some w/\Rl R ρ σ.top (f y) w:=by
 unfold elLd at h
 split at h
 ·rename_i τ' l0
  split at h
  ·rename_i l1 hl
   obtain⟨e,e2⟩:=iO hl;subst e;cases e2
   obtain⟨hb,h⟩:=aK h
   cases h
   refine⟨l0,_,rfl,fun y hy=>?_⟩
   obtain⟨a,b,cs,h1,h2,h3,h4,h5⟩:=Ev hO hs hy
   obtain⟨v,hv⟩:=Oo (cs':=(tvD R .any τ' y).cells) (by rw[kZ,kZ]) hb
   have:=Om (pre:=a.flatMap fun x=>(tvD R .any τ' x).cells) (post:=b.flatMap fun x=>(tvD R .any τ' x).cells) hv
   rw[h5] at this
   obtain⟨w,hw,hr⟩:=kg h4 this
   exact⟨cs,w,h3,hw,by rw[hv];exact hr⟩
  ·cases h
 ·cases h
theorem Ot {τ:Ty} {cs:List (TV R.T)} {x:Den R.T τ} {vs:List V} (h:unC R τ cs=some x) (hr:RlL R ρ top cs vs):RlL R ρ top (tvD R .any τ x).cells vs:=by
 have one:∀(t:Ty) (x:Den R.T t),eF t=true->un1 R t (hd1 R cs)=some x->RlL R ρ top [tv1 R .any t x] vs:=by
  intro t x ht h
  cases cs with
  |nil=>cases t<;>cases h
  |cons c cs=>
   cases cs with
   |nil=>
    obtain⟨v,l,rfl,h1,h2⟩:=hr.inv_cons
    rw[h2.inv_nil]
    exact .cons' (mq hR h h1) rfl
   |cons c' cs=>cases t<;>cases h
 cases τ with
 |st n=>
  have:=mD hR (t:=.st n) (show unD R (.st n) (.agg cs)=some x from h) (v:=.agg vs) (by unfold Rl;exact⟨vs,rfl,hr⟩)
  obtain⟨l,e,hl⟩:=Rl.dA this
  cases e;exact hl
 |int k=>exact one (.int k) x rfl h
 |bool=>exact one .bool x rfl h
 |str=>exact one .str x rfl h
 |slice t=>exact one (.slice t) x rfl h
omit hR in
theorem Ou {α:Type} (pre el post vs:List α) (off:Nat) (h:off+vs.length<=el.length):(pre++el++post).take (pre.length+off)++vs++(pre++el++post).drop (pre.length+off+vs.length)=pre++(el.take off++vs++el.drop (off+vs.length))++post:=by
 have e1:(pre++el++post).take (pre.length+off)=pre++el.take off:=by
  rw[Sv,List.take_append,SX (by omega),Tk,List.take_append,Nat.sub_eq_zero_of_le (by omega)]
  simp
 have e2:(pre++el++post).drop (pre.length+off+vs.length)=el.drop (off+vs.length)++post:=by
  rw[Sv,Tz,TH (by omega),show pre.length+off+vs.length-pre.length=off+vs.length by omega,Tz,Nat.sub_eq_zero_of_le (by omega)]
  simp
 rw[e1,e2]
 simp
theorem Ov {o s off:Nat} {τ:Ty} {i:Int} {l:List (Den R.T τ)} {y y':Den R.T τ} {vc:List (TV R.T)} {vl:List V} (hO:aP ρ σ o (.arr τ l)) (hs:ρ.ob o=some s) (hy:idxL l i=some y) (hv:RlL R ρ σ.top vc vl) (hle:off+vc.length<=szD R τ)
 (hu:unC R τ (spliceM (tvD R .any τ y).cells off vc)=some y'):∃cs,σ.aF (ρ.om.lc o) s=some cs/\i.toNat*szD R τ+off+vl.length<=cs.length/\RlL R ρ σ.top ((setL l i y').flatMap fun x=>(tvD R .any τ x).cells) (spliceL cs (i.toNat*szD R τ+off) vl)/\(setL l i y').length=l.length:=by
 obtain⟨a,b,cs,rfl,h2,h3,h4,h5⟩:=Ev hO hs hy
 obtain⟨p1,post,rfl,g1,g2⟩:=h4.split
 obtain⟨pre,el,rfl,g3,g4⟩:=g1.split
 have l1:pre.length=i.toNat*szD R τ:=by rw[g3.length,h5]
 have l2:el.length=szD R τ:=by rw[g4.length,kZ]
 have l3:=hv.length
 refine⟨_,h3,?_,?_,?_⟩
 ·rw[R8,R8];omega
 ·have e:setL (a++y::b) i y'=a++y'::b:=by
   unfold setL
   rw[<-h2,List.set_append_right _ _ (RQ _),Nat.sub_self];rfl
  rw[e,List.flatMap_append,Sw,<-Sv]
  have e2:spliceL (pre++el++post) (i.toNat*szD R τ+off) vl=pre++spliceL el off vl++post:=by
   unfold spliceL
   rw[<-l1];exact Ou pre el post vl off (by omega)
  rw[e2]
  exact(g3.append (Ot hR hu (yC off g4 hv))).append g2
 ·unfold setL;rw[List.length_set]
theorem Ow (τ:Ty) (x:Den R.T τ):RlL R ρ top (tvD R .any τ x).cells (encD R τ x).cells:=by
 refine(gY ?_ (uo hR .any (.inl rfl) τ x)).1
 cases τ<;>rfl
theorem oq (τ:Ty):∀l:List (Den R.T τ),RlL R ρ top (l.flatMap fun x=>(tvD R .any τ x).cells) ((l.map (encD R τ)).flatMap V.cells)
 | []=>rfl
 |x::l=>by
  rw[R3,Sw,Sw]
  exact(Ow hR τ x).append (oq τ l)
theorem Ox {t e:TypeId} {sz by_:Nat} {ag:Bool} {z:V} {ys:List V} {x y:V} {loc:Option Loc} {ah:Nat} {P:Program} (h1:elemT P t=some e) (h2:szT P e=some sz) (h3:bytesT P e=some by_) (h4:isAggT P e=some ag) (h5:zeroT P e=some z)
 (h6:z.cells.length=sz) (h7:0<sz) (h8:(ag||sz==1)=true) (hy:dR σ ag sz z y=some ys) (hi:jR y=false) (ho:ys.all (fun v=>oneCells v.cells)=true):
 fC P true false σ ah loc t x y=match x with
  |.lst c l=>if roomOK (l.length+ys.length) by_=true/\fK sz l=true then
     match c with
     |.nil=>loc.map fun loc=>(.vw loc ah 0 (l.length+ys.length) (l.length+ys.length) sz ag,σ.setObj loc ah (.cells ((l++ys).flatMap V.cells)))
     |.full=>if ys.isEmpty then some (.lst .full l,σ) else loc.map fun loc=>(.vw loc ah 0 (l.length+ys.length) (l.length+ys.length) sz ag,σ.setObj loc ah (.cells ((l++ys).flatMap V.cells)))
     |_=>none else none
  |.vw bV s off len cap ay _=>
   if roomOK (len+ys.length) by_=true/\off=0/\ay=sz then
    loc.bind fun loc=>(σ.aF bV s).bind fun cs=>
     if len+ys.length<=cap then
      if (len+ys.length)*sz<=cs.length then
       some (.vw bV s 0 (len+ys.length) cap sz ag,σ.setObj bV s (.cells (spliceL cs (len*sz) (ys.flatMap V.cells))))
      else none
     else if len*sz<=cs.length then
      some (.vw loc ah 0 (len+ys.length) (len+ys.length) sz ag,(σ.aY bV).setObj loc ah (.cells (cs.take (len*sz)++ys.flatMap V.cells)))
     else none
   else none
  |_=>none:=by
 unfold fC
 simp only[h1,h2,h3,h4,h5,Option.bind_some,hi,hy,ho,if_true]
 rw[if_pos ⟨trivial,h6,h7,h8⟩]
 cases x<;>try rfl
 ·rename_i c l
  cases c<;>rfl
 ·simp only[true_and]
omit hR in
theorem au.mo {o q s n:Nat} {x:Ob R.T} {a:bJ} (hne:q≠o):au true q st ρ σ (st.new o x) (ρ.jv o s n) (σ.setObj (ρ.om.lc o) s a):=⟨(yh q hne).1,(yh q hne).2,rfl,RQ _,⟨fun _ _=>rfl,fun _ _=>rfl⟩,fun _ _ hL=>yw hL,(au.new (nr:=true) (ρ:=ρ) (s:=s) (a:=a) hne).ro⟩
omit hR in
theorem au.del {o q:Nat} {y:Ob R.T} (hl:look st.ob o=some y) (hy:isRo y=false):au true q st ρ σ (st.del o) ρ (σ.aY (ρ.om.lc o)):=⟨rfl,rfl,rfl,RQ _,⟨fun _ _=>rfl,fun _ _=>rfl⟩,fun _ _ hL=>Nz hL,fun hr=>by
 have hne:q≠o:=by rintro rfl;rw[hr y hl] at hy;cases hy
 refine⟨fun z hz=>?_,fun s'=>?_⟩
 ·have hz':look (delF o st.ob) q=some z:=hz
  rw[eG hne] at hz'
  exact hr z hz'
 ·unfold Sig.aF Sig.bn;rw[DC σ hne];exact⟨rfl,rfl⟩⟩
omit hR in
theorem au.del' {o q:Nat} {y:Ob R.T} (hl:look st.ob o=some y) (hy:isRo y=false):au true q st ρ σ (st.del o) ρ σ:=⟨rfl,rfl,rfl,RQ _,⟨fun _ _=>rfl,fun _ _=>rfl⟩,fun _ _ _=>rfl,fun hr=>by
 have hne:q≠o:=by rintro rfl;rw[hr y hl] at hy;cases hy
 refine⟨fun z hz=>?_,fun s'=>⟨rfl,rfl⟩⟩
 have hz':look (delF o st.ob) q=some z:=hz
 rw[eG hne] at hz'
 exact hr z hz'⟩
omit hR in
theorem uH {α:Type} {p:Nat}:∀l:List (Nat×α),look (delF p l) p=none
 | []=>rfl
 | (j,x)::l=>by
   unfold delF
   cases hj:Nat.beq j p
   ·show (bif Nat.beq j p then some x else look (delF p l) p)=none
    rw[hj];exact uH l
   ·exact uH l
omit hR in
theorem aj.del' (h:aj ρ b st fr σ) (o:Nat):aj ρ b (st.del o) fr σ:={h with
 ob:=fun p y hy=>by
  by_cases e:p=o
  ·subst e
   have:look (delF p st.ob) p=some y:=hy
   rw[uH] at this;cases this
  ·have hy':look (delF o st.ob) p=some y:=hy
   rw[eG e] at hy'
   exact h.ob p y hy'
 fr:=h.fr}
omit hR in
theorem lq {d0 d ah:Nat} {τ:Ty} {l:List (Den R.T τ)} {L:List V} {st0:MS R.T} {σ0:Sig} {o:Oper} {v:V} {σ1:Sig} (hd:o.dst=some d0) (hcd:d=d0\/d=E.cn d0) (hi:aj ρ (ah+1) st0 fr σ0) (hk:∀p,au true p st ρ σ st0 ρ σ0) (hn:σ0.next=σ.next) (hL:RlL R ρ σ0.top (l.flatMap fun x=>(tvD R .any τ x).cells) L)
 (hs:dP E fr σ ah o v σ1) (hv:v= .vw (ρ.om.lc d) ah 0 l.length l.length (szD R τ) (isSt τ)) (h1:σ1=σ0.setObj (ρ.om.lc d) ah (.cells L)):∃x σ' ρ',dP E fr σ ah o x σ'/\aj ρ' (ah+1) (st0.new d (.arr τ l)) fr σ'/\σ'.next=σ.next/\Rl R ρ' σ'.top (.vw d τ) x/\∀p,ND E o p->au true p st ρ σ (st0.new d (.arr τ l)) ρ' σ':=by
 subst hv;subst h1
 refine⟨_,_,ρ.jv d ah l.length,hs,hi.mo d ah l.length ⟨(je (ρ:=ρ.dz d ah)).symm,.inr ⟨ah,L,fu (ρ:=ρ),cells_eq _ _ _ _,iQ l L hL⟩⟩,hn,?_,fun p hp=>?_⟩
 ·unfold Rl
  exact .inl ⟨ah,fu (ρ:=ρ),by rw[show (ρ.jv d ah l.length).ln d=l.length from je (ρ:=ρ.dz d ah)];rfl⟩
 ·have hne:p≠d:=by
   rcases hcd with e|e
   ·exact fun e2=>hp.1 (by rw[hd,e2,e])
   ·exact fun e2=>hp.2 _ hd (by rw[e2,e])
  exact(hk p).trans (au.mo hne)
theorem Oy {d:Option Nat} {t:TypeId} {len:Nat} {ps:List (Nat×TV R.T)} {qs:List (Nat×V)} {r:Res R} {ah:Nat} {o:Oper} (h:bslO E R d t len ps st=some r) (hi:ps.map (·.1)=qs.map (·.1)) (hr:RlL R ρ σ.top (ps.map (·.2)) (qs.map (·.2))) (him:aj ρ ah st fr σ) (hd:o.dst=d)
 (ho:∀y σ',kE E σ ah (d.map fun t=>(fr.d,E.cn t)) t len qs=some (y,σ')->dP E fr σ ah o y σ'):fT E st ρ ah fr σ o r:=by
 unfold bslO at h
 split at h
 ·rename_i d e u sz by_ he
  obtain⟨z,e1,e2,e3,e4,e5,e6,e7,e8,e9⟩:=oh he
  obtain⟨hc,h⟩:=aK h
  rw[iP] at hc
  split at h
  ·rename_i xs hx
   cases hbl:Nat.ble F0 (E.cn d)
   case true=>rw[hbl] at h;cases h
   rw[hbl,cond_false] at h
   cases h
   have hcn:E.cn d<F0:=by
    have:=mt Nat.ble_eq_true_of_le (by rw[hbl];simp)
    omega
   rw[Option.map_some,show (fr.d,E.cn d)=ρ.om.lc (E.cn d) by rw[him.d,Cx.l8 _ hcn]] at ho
   have hlen:xs.length=len:=by rw[Er ps 0 xs hx];exact aO hc.2
   obtain⟨vs,k1,k2,k3,k4,k5⟩:=yJ hR (len:=len) e6 ps qs xs 0 [] ((List.replicate len z.cells).flatten) hx hi hr (by simp) (by simp[e9,hlen]) (by omega)
   rw[List.nil_append,List.nil_append] at k1
   have key:kE E σ ah (some (ρ.om.lc (E.cn d))) t len qs=some (.vw (ρ.om.lc (E.cn d)) ah 0 len len sz (isSt u),σ.setObj (ρ.om.lc (E.cn d)) ah (.cells (vs.flatMap V.cells))):=by
    unfold kE
    rw[e1];simp only[Option.bind_some,e2,e4,e5]
    rw[if_pos ⟨Sj hc.1,e9,e7⟩,k1]
    rfl
   exact lq (σ0:=σ) hd (.inr rfl) (him.le (R4 ah)) (fun q=>.refl) rfl k5 (ho _ _ key) (by rw[hlen,e6]) rfl
  ·cases h
 ·cases h
theorem Oz {d:Option Nat} {t u:TypeId} {x y:TV R.T} {v w:V} {r:Res R} {ah:Nat} {o:Oper} (h:appOM E R d t u x y st=some r) (hx:Rl R ρ σ.top x v) (hy:Rl R ρ σ.top y w) (hi:aj ρ ah st fr σ) (hd:o.dst=d)
 (ho:∀y σ',fC E.P true false σ ah (d.map fun t=>(fr.d,E.cn t)) t v w=some (y,σ')->dP E fr σ ah o y σ'):fT E st ρ ah fr σ o r:=by
 have hi1:=hi.le (R4 ah)
 unfold appOM at h
 split at h
 ·rename_i d
  cases hbl:Nat.ble F0 (E.cn d)
  case true=>rw[hbl] at h;cases h
  rw[hbl,cond_false] at h
  have hcn:E.cn d<F0:=by
   have:=mt Nat.ble_eq_true_of_le (by rw[hbl];simp)
   omega
  rw[Option.map_some,show (fr.d,E.cn d)=ρ.om.lc (E.cn d) by rw[hi.d,Cx.l8 _ hcn]] at ho
  split at h
  ·rename_i e τ sz by_ he
   obtain⟨z,e1,e2,e3,e4,e5,e6,e7,e8,e9⟩:=oh he
   obtain⟨hss,h⟩:=aK h
   split at h
   ·rename_i l' hs
    subst e6
    obtain⟨g1,g2⟩:=yL hR (ag:=isSt τ) (z:=z) (σ:=σ) hs hy
    have hap:=fun x=>Ox hR (σ:=σ) (x:=x) (loc:=some (ρ.om.lc (E.cn d))) (ah:=ah) e1 e2 e3 e4 e5 e9 e7 e8 g1 g2 (yK hR l')
    split at h
    ·rename_i p τ0 _
     split at h
     ·rename_i e0
      subst e0
      split at h
      ·rename_i τ' l0 hl
       split at h
       ·rename_i l2 hl2
        obtain⟨e,e2'⟩:=iO hl2;subst e;cases e2'
        have ne:∀(a:Den R.T τ') (l1:List (Den R.T τ')),l'=a::l1->fT E st ρ ah fr σ o (.wc (roomOK (l0.length+(a::l1).length) by_) (.vw (E.cn d) τ') ((st.del p).new (E.cn d) (.arr τ' (l0++a::l1)))):=by
         intro a l1 el
         subst el
         intro hroom
         have hO:=hi.ob _ _ hl
         have hlen:l0.length=ρ.ln p:=hO.1
         have hnr:isRo (Ob.arr τ' l0)=false:=rfl
         have hne:¬((a::l1).map (encD R τ')).isEmpty=true:=by simp
         rcases hx.jJ with ⟨s,k1,rfl⟩| ⟨k1,k2⟩
         ·rcases hO.2 with hO2| ⟨s',cs,k3,k4,k5⟩
          ·rw[k1] at hO2;exact absurd hO2.2 (by simp)
          ·rw[k1] at k3;cases k3
           have:=hap (.vw (ρ.om.lc p) s 0 (ρ.ln p) (ρ.ln p) (szD R τ') (isSt τ'))
           dsimp only at this
           have hlc:cs.length=l0.length*szD R τ':=by rw[k5.length,lg]
           rw[if_pos ⟨by rw[RY,<-hlen];exact hroom,rfl,rfl⟩] at this
           simp only[Option.bind_some,k4] at this
           rw[if_neg (by rw[RY,List.length_cons];omega),if_pos (by rw[hlc,hlen];exact RQ _)] at this
           refine lq (σ0:=σ.aY (ρ.om.lc p)) (L:=cs.take (ρ.ln p*szD R τ')++((a::l1).map (encD R τ')).flatMap V.cells) hd (.inr rfl) (hi1.del p) (fun q=>au.del hl hnr) rfl ?_ (ho _ _ this) ?_ rfl
           ·rw[List.flatMap_append,SX (by rw[hlc,hlen];exact RQ _)]
            exact RlL.append k5 (oq hR _ _)
           ·rw[RY,R8,hlen]
         ·have hl0:l0=[]:=SQ (by omega)
          subst hl0
          have hroom':roomOK (([]:List V).length+((a::l1).map (encD R τ')).length) by_=true/\fK (szD R τ') ([]:List V)=true:=⟨by rw[RY];exact hroom,rfl⟩
          rcases k2 with rfl|rfl
          ·have:=hap (.lst .nil [])
           dsimp only at this
           rw[if_pos hroom'] at this
           refine lq (σ0:=σ) hd (.inr rfl) (hi1.del' p) (fun q=>au.del' hl hnr) rfl (oq hR _ _) (ho _ _ this) ?_ rfl
           simp
          ·have:=hap (.lst .full [])
           dsimp only at this
           rw[if_pos hroom',if_neg hne] at this
           refine lq (σ0:=σ) hd (.inr rfl) (hi1.del' p) (fun q=>au.del' hl hnr) rfl (oq hR _ _) (ho _ _ this) ?_ rfl
           simp
        cases hpc:Nat.beq p (E.cn d) with
        |true=>
         rw[hpc,cond_true] at h
         cases h
         cases l' with
         |cons a l1=>exact ne a l1 rfl
         |nil=>
          have hp:=aO hpc
          intro hroom
          have hO:=hi.ob _ _ hl
          have hlen:l0.length=ρ.ln p:=hO.1
          have hnr:isRo (Ob.arr τ' l0)=false:=rfl
          have hroom':∀(k:Nat),k=l0.length->roomOK (k+(([]:List (Den R.T τ')).map (encD R τ')).length) by_=true:=fun k hk=>by rw[hk];exact hroom
          rcases hx.jJ with ⟨s,k1,rfl⟩| ⟨k1,k2⟩
          ·rcases hO.2 with hO2| ⟨s',cs,k3,k4,k5⟩
           ·rw[k1] at hO2;exact absurd hO2.2 (by simp)
           ·rw[k1] at k3;cases k3
            have:=hap (.vw (ρ.om.lc p) s 0 (ρ.ln p) (ρ.ln p) (szD R τ') (isSt τ'))
            dsimp only at this
            have hlc:cs.length=l0.length*szD R τ':=by rw[k5.length,lg]
            rw[if_pos ⟨hroom' _ hlen.symm,rfl,rfl⟩] at this
            simp only[Option.bind_some,k4,List.map_nil,List.length_nil,Nat.add_zero] at this
            rw[if_pos (RQ _),if_pos (by rw[hlc,hlen];exact RQ _)] at this
            have hsp:spliceL cs (ρ.ln p*szD R τ') (([]:List V).flatMap V.cells)=cs:=by
             unfold spliceL
             simp
            rw[hsp] at this
            rw[SI,<-hp]
            refine⟨_,_,ρ.jv p s l0.length,ho _ _ this,(hi1.del' p).mo p s l0.length (x:=.arr τ' l0) (a:=.cells cs) ⟨(je (ρ:=ρ.dz p s)).symm,.inr ⟨s,cs,fu (ρ:=ρ),cells_eq _ _ _ _,iQ l0 cs k5⟩⟩,rfl,?_,fun q hq=>?_⟩
            ·unfold Rl
             exact .inl ⟨s,fu (ρ:=ρ),by rw[show (ρ.jv p s l0.length).ln p=l0.length from je (ρ:=ρ.dz p s),hlen];rfl⟩
            ·have hne:q≠p:=fun e=>hq.2 _ hd (by rw[e,hp])
             exact(au.del' hl hnr).trans (au.mo hne)
          ·have hl0:l0=[]:=SQ (by omega)
           subst hl0
           rcases k2 with rfl|rfl
           ·have:=hap (.lst .nil [])
            dsimp only at this
            rw[if_pos ⟨hroom' 0 rfl,rfl⟩] at this
            exact lq (σ0:=σ) hd (.inr rfl) (hi1.del' p) (fun q=>au.del' hl hnr) rfl rfl (ho _ _ this) rfl rfl
           ·have:=hap (.lst .full [])
            dsimp only at this
            rw[if_pos ⟨hroom' 0 rfl,rfl⟩,if_pos (by rfl)] at this
            refine⟨_,_,ρ.gh (E.cn d),ho _ _ this,(hi1.del' p).ghost (E.cn d) τ',rfl,by unfold Rl;exact .inr ⟨je (ρ:=ρ) (n:=0),.inr rfl⟩,fun q hq=>?_⟩
            have gK:q≠E.cn d:=fun e=>hq.2 _ hd e.symm
            refine(au.del' hl hnr).trans ?_
            exact⟨(fq q gK).1,(fq q gK).2,rfl,RQ _,⟨fun _ _=>rfl,fun _ _=>rfl⟩,fun _ _ _=>rfl,fun hr=>⟨((au.new (nr:=true) (ρ:=ρ) (σ:=σ) (s:=0) (a:=.cells []) gK).ro hr).1,fun _=>⟨rfl,rfl⟩⟩⟩
        |false=>
         rw[hpc,cond_false] at h
         split at h
         ·rename_i a l1
          cases h
          exact ne _ _ rfl
         ·cases h
       ·cases h
      ·cases h
     ·cases h
    ·obtain⟨hE,h⟩:=aK h
     cases h
     intro hroom
     have hroom':roomOK (([]:List V).length+(l'.map (encD R τ)).length) by_=true/\fK (szD R τ) ([]:List V)=true:=⟨by rw[RY,List.length_nil,SE];exact hroom,rfl⟩
     rcases qG (fr:=fr) hE (.of hx) with rfl|rfl
     ·have:=hap (.lst .nil [])
      dsimp only at this
      rw[if_pos hroom'] at this
      refine lq (σ0:=σ) hd (.inr rfl) hi1 (fun q=>.refl) rfl (oq hR _ _) (ho _ _ this) ?_ rfl
      simp
     ·have:=hap (.lst .full [])
      dsimp only at this
      rw[if_pos hroom'] at this
      by_cases hne:((l'.map (encD R τ)).isEmpty)=true
      ·rw[if_pos hne] at this
       have hl':l'=[]:=by simpa using hne
       subst hl'
       refine⟨_,_,ρ.gh (E.cn d),ho _ _ this,hi1.ghost (E.cn d) τ,rfl,by unfold Rl;exact .inr ⟨je (ρ:=ρ) (n:=0),.inr rfl⟩,fun p hp=>?_⟩
       have gK:p≠E.cn d:=fun e=>hp.2 _ hd e.symm
       exact⟨(fq p gK).1,(fq p gK).2,rfl,RQ _,⟨fun _ _=>rfl,fun _ _=>rfl⟩,fun _ _ _=>rfl,fun hr=>⟨((au.new (nr:=true) (ρ:=ρ) (σ:=σ) (s:=0) (a:=.cells []) gK).ro hr).1,fun _=>⟨rfl,rfl⟩⟩⟩
      ·rw[if_neg hne] at this
       refine lq (σ0:=σ) hd (.inr rfl) hi1 (fun q=>.refl) rfl (oq hR _ _) (ho _ _ this) ?_ rfl
       simp
   ·cases h
  ·cases h
 ·cases h
omit hR in
theorem qJ {α β:Type} (f:α->List β) (x:α):∀n,(List.replicate n x).flatMap f=(List.replicate n (f x)).flatten
 |0=>rfl
 |n+1=>by rw[List.replicate_succ,List.replicate_succ,Sw,List.flatten_cons,qJ f x n]
omit hR in
theorem yP {ts:List (TV R.T)} {vs:List V} (h:RlL R ρ top ts vs):∀n,RlL R ρ top (List.replicate n ts).flatten (List.replicate n vs).flatten
 |0=>rfl
 |n+1=>by rw[List.replicate_succ,List.replicate_succ,List.flatten_cons,List.flatten_cons];exact h.append (yP h n)
theorem OA {om:Bool} {d:Option Nat} {t:TypeId} {x y:TV R.T} {v w:V} {r:Res R} {ah:Nat} {o:Oper} (h:mksM E R om d t x y st=some r) (hx:Rl R ρ σ.top x v) (hy:Rl R ρ σ.top y w) (hi:aj ρ ah st fr σ) (hd:o.dst=d)
 (ho:∀y σ',jh E.P om σ ah (d.map fun t=>(ρ.om.lc t)) t v w=some (y,σ')->dP E fr σ ah o y σ'):fT E st ρ ah fr σ o r:=by
 have hi1:=hi.le (R4 ah)
 unfold mksM at h
 split at h
 ·rename_i d e τ sz by_ k n k' m he
  obtain⟨z0,e1,e2,e3,e4,e5,e6,e7,e8,e9⟩:=oh he
  split at h
  ·rename_i z hz
   split at h
   ·rename_i x0 hx0
    obtain⟨zv,z1,z2⟩:=mE (ρ:=ρ) (top:=σ.top) hz
    rw[e5] at z1;cases z1
    rw[hx.inv_int,hy.inv_int] at ho
    have mk:0<=n->n<=m->m<=2^47->roomOK m.toNat by_=true->jh E.P om σ ah ((some d).map fun t=>(ρ.om.lc t)) t (.int k n) (.int k' m)=if n=0/\om=false then some (.lst (.own sz ah) [],σ.aJ ah 0) else some (.vw (ρ.om.lc d) ah 0 n.toNat m.toNat sz (isSt τ),σ.setObj (ρ.om.lc d) ah (.cells (List.replicate m.toNat z0.cells).flatten)):=by
     intro h1 h2 h3 h4
     unfold jh
     simp only[e1,e2,e3,e5,Option.bind_some,dM]
     rw[if_pos ⟨h1,h2,h4,h3,e9⟩]
     split
     ·rfl
     ·simp only[Option.map_some,Option.bind_some,e4]
    cases om with
    |true=>
     cases h
     intro hc
     rw[iP] at hc
     obtain⟨c1,c2,c3⟩:=of_decide_eq_true hc.1
     subst c2
     have:=mk c1 (Sb _) c3 hc.2
     rw[if_neg (by simp)] at this
     subst e6
     refine lq (σ0:=σ) hd (.inl rfl) hi1 (fun q=>.refl) rfl ?_ (ho _ _ this) ?_ rfl
     ·rw[qJ]
      refine yP ?_ _
      have hzc:RlL R ρ σ.top (tvD R .any τ x0).cells z0.cells:=by
       have h1:=mD hR hx0 z2
       refine(gY ?_ h1).1
       cases τ<;>rfl
      exact hzc
     ·rw[List.length_replicate]
    |false=>
     cases h
     intro hc
     rw[iP] at hc
     obtain⟨c1,c2,c3⟩:=of_decide_eq_true hc.1
     subst c1
     have:=mk (Sb _) c2 c3 hc.2
     rw[if_pos ⟨rfl,rfl⟩] at this
     refine⟨_,_,ρ.bH d ah,ho _ _ this,hi.wk d ah _ (R4 _) (Ti _) hi.nx (fun u _ hu=>by have:=hi.lt u _ hu;omega),rfl,?_,fun p _=>au.wk hi.nx⟩
     unfold Rl
     exact⟨_,rfl,.inr (.inr ⟨ah,by rw[e6],by simp[ak.bH,upd],by rw[nQ];rfl⟩)⟩
   ·cases h
  ·cases h
 ·cases h
theorem yQ {x:TV R.T} {v:V} {o:Nat} {τ:Ty} {a c:Int} (h:asW st x=some (o,τ,a,c)) (hx:Rl R ρ σ.top x v) (hi:aj ρ b st fr σ):Rl R ρ σ.top (.sub o τ a c) v:=by
 unfold asW at h
 split at h
 ·split at h
  ·rename_i l hl
   cases h
   have h1:=(hi.rd hl).1
   unfold Rl
   refine⟨by omega,by omega,by omega,?_⟩
   rcases hx.jJ with ⟨s,k1,rfl⟩| ⟨h0,h2⟩
   ·refine .inl ⟨s,ρ.ln o,k1,by omega,?_⟩
    ·rw[show (((l.length:Nat):Int)-0).toNat=ρ.ln o by omega];simp
   ·refine .inr ⟨by omega,?_⟩
    rcases h2 with rfl|rfl<;>exact⟨_,rfl⟩
  ·cases h
 ·cases h;exact hx
 ·cases h
omit hR in
theorem Ew {n:Int} {cp:Nat} {lo hi':Option Int} {vl vh:Option V} (hl:(lo=none/\vl=none)\/∃n k,lo=some n/\vl=some (.int k n)) (hh:(hi'=none/\vh=none)\/∃n k,hi'=some n/\vh=some (.int k n)) (hc:n.toNat<=cp) (h0:0<=n) (hb:inV (loW lo) (hiW n hi') n=true):
 bZ n.toNat cp vl vh none=some ((loW lo).toNat,(hiW n hi').toNat,cp):=by
 have hb':0<=loW lo/\loW lo<=hiW n hi'/\hiW n hi'<=n:=of_decide_eq_true hb
 rcases hl with ⟨rfl,rfl⟩| ⟨i,k,rfl,rfl⟩<;>rcases hh with ⟨rfl,rfl⟩| ⟨m,k',rfl,rfl⟩<;>simp only[loW,hiW] at hb'⊢
 ·rfl
 ·simp only[bZ,bnd,dM,Option.bind_some]
  rw[if_pos ⟨by omega,by omega⟩];rfl
 ·simp only[bZ,bnd,dM,Option.bind_some]
  rw[if_pos ⟨by omega,by omega⟩];rfl
 ·simp only[bZ,bnd,dM,Option.bind_some]
  rw[if_pos ⟨by omega,by omega⟩]
  simp only[Option.bind_some]
  rw[if_pos ⟨by omega,by omega⟩];rfl
theorem OB {t:TypeId} {x:TV R.T} {lo hi':Option (TV R.T)} {v:V} {vl vh:Option V} {r:Res R} (h:slcW E R t x lo hi' st=some r) (hx:Rl R ρ σ.top x v) (hi:aj ρ b st fr σ)
 (hl:∀y,lo=some y->∃w,vl=some w/\Rl R ρ σ.top y w) (hln:lo=none->vl=none) (hh:∀y,hi'=some y->∃w,vh=some w/\Rl R ρ σ.top y w) (hhn:hi'=none->vh=none):fA ρ σ.top (dV E.P σ t v vl vh none) r:=by
 unfold slcW at h
 split at h
 ·rename_i o τ a c lo' hi2 e hw e1 e2 hu
  have b1:=kY e1 hl hln
  have b2:=kY e2 hh hhn
  have hxs:=yQ hR hw hx hi
  split at h
  ·rename_i sz hs
   obtain⟨hb,h⟩:=aK h
   cases h
   have:=aO hb;subst this
   intro hc
   have hc':0<=loW lo'/\loW lo'<=hiW (c-a) hi2/\hiW (c-a) hi2<=c-a:=of_decide_eq_true hc
   obtain⟨g0,g1,g2,h⟩:=hxs.jZ
   rcases h with ⟨s,cp,h1,h2,rfl⟩| ⟨e,q,rfl⟩
   ·have hsb:=Ew b1 b2 h2 (by omega) hc
    unfold dV
    rw[hu];dsimp only
    simp only[hs,Option.bind_some,hsb]
    rw[if_true]
    by_cases hz:(loW lo').toNat=(hiW (c-a) hi2).toNat/\0< (loW lo').toNat
    ·rw[if_pos hz]
     exact⟨_,rfl,by unfold Rl;exact⟨by omega,by omega,by omega,.inr ⟨by omega,_,rfl⟩⟩⟩
    ·rw[if_neg hz]
     refine⟨_,rfl,?_⟩
     unfold Rl
     refine⟨by omega,by omega,by omega,.inl ⟨s,cp-(loW lo').toNat,h1,by omega,?_⟩⟩
     rw[<-SC,show a.toNat+(loW lo').toNat=(a+loW lo').toNat by omega,show (hiW (c-a) hi2).toNat-(loW lo').toNat=(a+hiW (c-a) hi2-(a+loW lo')).toNat by omega]
   ·have e0:c-a=0:=by omega
    have hsb:=Ew (n:=0) (cp:=0) b1 b2 (by simp) (by omega) (by rw[<-e0];exact hc)
    unfold dV
    rw[hu];dsimp only
    rw[e0] at hc'
    have OC:bZ ([]:List V).length ([]:List V).length vl vh none=some (0,0,0):=by
     have e3:bZ ([]:List V).length ([]:List V).length vl vh none=some ((loW lo').toNat,(hiW 0 hi2).toNat,0):=hsb
     rw[e3,show (loW lo').toNat=0 by omega,show (hiW 0 hi2).toNat=0 by omega]
    simp only[hs,Option.bind_some,OC,fK]
    rw[if_true,e0]
    refine⟨_,rfl,?_⟩
    have hl0:loW lo'=0:=by omega
    have hh0:hiW 0 hi2=0:=by omega
    rw[hl0,hh0]
    have:∀(k:Cap),Rl R ρ σ.top (.sub o τ (a+0) (a+0)) (.lst k []):=fun k=>by unfold Rl;exact⟨by omega,by omega,by omega,.inr ⟨rfl,_,rfl⟩⟩
    exact this _
  ·cases h
 ·cases h
theorem uI {t:TypeId} {x:TV R.T} {lo hi':Option (TV R.T)} {v:V} {vl vh:Option V} {r:Res R} (h:sliceX E R t x lo hi' st=some r) (hx:Rl R ρ σ.top x v) (hi:aj ρ b st fr σ)
 (hl:∀y,lo=some y->∃w,vl=some w/\Rl R ρ σ.top y w) (hln:lo=none->vl=none) (hh:∀y,hi'=some y->∃w,vh=some w/\Rl R ρ σ.top y w) (hhn:hi'=none->vh=none):fA ρ σ.top (dV E.P σ t v vl vh none) r:=by
 unfold sliceX at h
 split at h
 ·rename_i r' hr
  cases h
  exact OB hR hr hx hi hl hln hh hhn
 ·exact N8 hR (σ:=σ) h hx hl hln hh hhn
theorem OD {t:TypeId} {p:Nat} {τ:Ty} {a c:Int} {y:TV R.T} {v w:V} {r:Res R} (h:isM E R t p τ a c y=some r) (hx:Rl R ρ σ.top (.sub p τ a c) v) (hy:Rl R ρ σ.top y w) (hi:aj ρ b st fr σ):fA ρ σ.top (indexAddrV E.P t v w) r:=by
 unfold isM at h
 split at h
 ·rename_i e k n hu
  split at h
  ·rename_i sz hs
   obtain⟨hb,h⟩:=aK h
   cases h
   have:=aO hb;subst this
   rw[hy.inv_int]
   intro hc
   have hc':0<=n/\n<c-a:=of_decide_eq_true hc
   obtain⟨g0,g1,g2,h⟩:=hx.jZ
   rcases h with ⟨s,cp,h1,h2,rfl⟩| ⟨e,_,rfl⟩
   ·refine⟨.ref (ρ.om.lc p) s (a.toNat*szD R τ+n.toNat*szD R τ),?_,by unfold Rl;exact⟨s,h1,by omega,by rw[<-SC,Nat.add_zero];congr 2;omega⟩⟩
    unfold indexAddrV
    rw[hu]
    simp only[hs,Option.bind_some,idx,dM]
    rw[if_pos ⟨hc'.1,by omega⟩]
    simp
   ·omega
  ·cases h
 ·cases h
theorem OE {om:Bool} {t:TypeId} {p:Nat} {τ:Ty} {y:TV R.T} {v w:V} {r:Res R} (h:ivM E R t p τ y st=some r) (hx:Rl R ρ σ.top (.vw p τ) v) (hy:Rl R ρ σ.top y w) (hi:aj ρ b st fr σ):fA ρ σ.top (indexAddrV E.P t v w) r:=by
 unfold ivM at h
 split at h
 ·rename_i e k n hu
  split at h
  ·rename_i sz hs
   obtain⟨hb,h⟩:=aK h
   split at h
   ·rename_i τ' l hl
    cases h
    have:=aO hb;subst this
    rw[hy.inv_int]
    intro hc
    have hc':=of_decide_eq_true hc
    have hlen:=(hi.rd hl).1
    rcases hx.jJ with ⟨s,k1,rfl⟩| ⟨h0,_⟩
    ·refine⟨.ref (ρ.om.lc p) s (n.toNat*szD R τ),?_,by unfold Rl;exact⟨s,k1,hc'.1,rfl⟩⟩
     unfold indexAddrV
     rw[hu]
     simp only[hs,Option.bind_some,idx,dM]
     rw[if_pos ⟨hc'.1,by rw[<-hlen];exact hc'.2⟩]
     simp
    ·rw[hlen,h0] at hc';omega
   ·cases h
  ·cases h
 ·cases h
end
end Aq
end
