/- Part of the proof of a law. -/
import Derived.Test.YtdcnajadcbedkaaGreatDoorS808
set_option linter.all false
set_option linter.unusedSimpArgs false
set_option linter.unusedSectionVars false
section
namespace Aq
open Go
set_option linter.unusedSectionVars false
set_option linter.unusedVariables false
section
variable {R:fU} {E:Env}
variable {ρ:aL} {top:Nat→Nat}
def mX (ρ:aL) (top:Nat→Nat) (v:Option V):dG R→Prop
 |.t x=> ∃y,v=some y∧Rl R ρ top x y
 |.c c x=>c=true→∃y,v=some y∧Rl R ρ top x y
 |.p _ _ o f=> ∀a,o=some a→∃y,v=some y∧Rl R ρ top (f a) y
 |_=>False
theorem WZ {op:BinOp} {k:IntKind} {x y:Int} {r:dG R} (h:Ib R op k x y=some r):mX ρ top (iX op k x y) r:=by
 unfold Ib at h
 cases op<;>cases h<;>first
  |exact⟨_,rfl,by unfold Rl;rfl⟩
  | (intro hc
     have hy:¬y=0:=by simpa using hc
     exact⟨_,if_neg hy,by unfold Rl;rfl⟩)
theorem agp {op:BinOp} {k:IntKind} {x y:Int} {r:dG R} (h:Oc R op k x y=some r):mX ρ top (Bt op k x y) r:=by
 unfold Oc at h
 cases op<;>cases h<;>
  (intro hc
   have hy:¬y<0:=by have:=of_decide_eq_true hc;omega
   exact⟨_,if_neg hy,by unfold Rl;rfl⟩)
theorem agq {op:BinOp} {x y:List UInt8} {r:dG R} (h:Od R op x y=some r):mX ρ top (uq op x y) r:=by
 unfold Od at h
 cases op<;>cases h<;>first
  |exact⟨_,rfl,by unfold Rl;rfl⟩
  | (intro hc
     have hy:¬((x.length+y.length:Nat):Int)>IntKind.i64.max:=by have:=of_decide_eq_true hc;omega
     exact⟨_,if_neg hy,by unfold Rl;rfl⟩)
theorem agr {P:Program} {op:BinOp} {t:TypeId} {k:IntKind} {a b:Int} (h:y8 op=false):lN P op t (.int k a) (.int k b)=iX op k a b:=by
 cases op<;>first| (simp[y8] at h;done)|simp[lN]
theorem ags {P:Program} {op:BinOp} {t:TypeId} {k k':IntKind} {a b:Int} (h:y8 op=true):lN P op t (.int k a) (.int k' b)=Bt op k a b:=by
 cases op<;>first| (simp[y8] at h;done)|rfl
theorem agt {P:Program} {op:BinOp} {t:TypeId} {a b:List UInt8}:lN P op t (.str a) (.str b)=uq op a b:=by
 cases op<;>rfl
theorem agu {P:Program} {t:TypeId} {x y:V} {b:Bool} (h:nu P t x y=some b):(∀k n k' m,x= .int k n→y= .int k' m→False)∧∀s s',x= .str s→y= .str s'→False:=by
 unfold nu at h
 constructor
 ·intro k n k' m hx hy;subst hx;subst hy;split at h<;>simp_all
 ·intro s s' hx hy;subst hx;subst hy;split at h<;>simp_all
theorem W9 {P:Program} {t:TypeId} {x y:V} {b:Bool} (h:nu P t x y=some b):lN P .eql t x y=some (.bool b)∧lN P .neq t x y=some (.bool !b):=by
 obtain⟨h1,h2⟩:=agu h
 constructor
 all_goals
  unfold lN
  split
  ·rename_i he;cases he
  ·rename_i he;cases he
  ·exact(h1 _ _ _ _ rfl rfl).elim
  ·exact(h2 _ _ rfl rfl).elim
  all_goals first| (rw[h];rfl)| (rename_i he;cases he)|simp_all
theorem agv {op:BinOp} {t:TypeId} {x y:TV R.T} {v w:V} {r:dG R} (h:Oe E R op t x y=some r) (hx:Rl R ρ top x v) (hy:Rl R ρ top y w):mX ρ top (lN E.P op t v w) r:=by
 unfold Oe at h
 split at h
 ·rename_i k a k' b
  rw[hx.fq,hy.fq]
  cases hs:y8 op
  ·rw[hs,cond_false] at h
   split at h
   ·rename_i e;subst e;rw[agr hs];exact WZ h
   ·cases h
  ·rw[hs,cond_true] at h;rw[ags hs];exact agp h
 ·rw[hx.kX,hy.kX,agt];exact agq h
 ·split at h
  ·split at h
   ·rename_i b hb;cases h
    exact⟨_,(W9 (WY hb hx hy)).1,by unfold Rl;rfl⟩
   ·cases h
  ·split at h
   ·rename_i b hb;cases h
    exact⟨_,(W9 (WY hb hx hy)).2,by unfold Rl;rfl⟩
   ·cases h
  ·cases h
theorem agw {op:UnOp} {x:TV R.T} {v:V} {r:dG R} (h:Og R op x=some r) (hx:Rl R ρ top x v):mX ρ top (vX op v) r:=by
 unfold Og at h
 split at h
 ·cases h;rw[hx.fq];exact⟨_,rfl,by unfold Rl;rfl⟩
 ·rw[hx.fq];exact WZ h
 ·cases h;rw[hx.oM];exact⟨_,rfl,by unfold Rl;rfl⟩
 ·cases h;rw[hx.qI];exact⟨_,rfl,by unfold Rl;rfl⟩
 ·cases h
theorem Xa (s:List UInt8):s.map kN=List.map (aG R (.int .u8)) (s.map fun b=>((b.toNat:Nat):Int)):=by
 show s.map kN=List.map (fun n:Int=>V.int .u8 n) (List.map (fun b:UInt8=>((b.toNat:Nat):Int)) s)
 rw[List.map_map];rfl
theorem O7:∀l:List Int,(List.map (aG R (.int .u8)) l).mapM vY=some (List.map (fun n:Int=>UInt8.ofNat n.toNat) l)
 | []=>rfl
 |n::l=>by
  show List.mapM vY (V.int .u8 n::List.map (aG R (.int .u8)) l)=_
  rw[List.mapM_cons,O7 l];rfl
theorem agx {a b:TypeId} {x:TV R.T} {v:V} {σ:ah} {r:dG R} (h:Ic E R a b x=some r) (hx:Rl R ρ top x v):mX ρ top (rY E.P σ a b v) r:=by
 unfold Ic at h
 unfold rY
 split at h
 ·rename_i hu hv;cases h;rw[hx.fq,hu,hv];exact⟨_,rfl,by unfold Rl;rfl⟩
 ·rename_i hu hv;cases h;rw[hx.kX,hu,hv];exact⟨_,rfl,by unfold Rl;rfl⟩
 ·rename_i hu hv
  rw[hx.kX,hu,hv]
  split at h
  ·rename_i he;cases h
   dsimp only;rw[he]
   exact⟨_,rfl,by unfold Rl;exact⟨.sh,by rw[Xa],trivial⟩⟩
  ·cases h
 ·rename_i l hu hv
  obtain⟨c',rfl,_⟩:=hx.jO
  rw[hu,hv]
  split at h
  ·rename_i he;cases h
   dsimp only;rw[he]
   exact⟨_,congrArg (Option.map V.str) (O7 (R:=R) l),by unfold Rl;rfl⟩
  ·cases h
 ·rename_i hu hv
  rw[hx.nQ,hu,hv]
  split at h
  ·rename_i he;cases h
   dsimp only;rw[he]
   exact⟨_,rfl,by unfold Rl;rfl⟩
  ·cases h
 ·cases h
theorem IL {x:Option (TV R.T)} {v:Option V} {i:Option Int} (h:y9 R x=some i) (hx:∀y,x=some y→∃w,v=some w∧Rl R ρ top y w) (hn:x=none→v=none):(i=none∧v=none)∨∃n k,i=some n∧v=some (.int k n):=by
 unfold y9 at h
 split at h
 ·cases h;exact .inl ⟨rfl,hn rfl⟩
 ·rename_i k n
  cases h
  obtain⟨w,rfl,hw⟩:=hx _ rfl
  exact .inr ⟨n,k,rfl,by rw[hw.fq]⟩
 ·cases h
theorem oN {k:IntKind} {n:Int} {m:Nat} (h:fI n m=true):bnd (.int k n) m=some n.toNat:=by
 unfold fI at h
 have:=of_decide_eq_true h
 simp[bnd,kg,this]
theorem Xb {α:Type} (l:List α) {lo hi:Option Int} {vl vh:Option V} (hl:(lo=none∧vl=none)∨∃n k,lo=some n∧vl=some (.int k n)) (hh:(hi=none∧vh=none)∨∃n k,hi=some n∧vh=some (.int k n)) (hb:Oh l.length lo hi=true):
 ∃a c,iY l.length l.length vl vh none=some (a,c,l.length)∧(l.take c).drop a=nN l lo hi:=by
 rcases hl with ⟨rfl,rfl⟩| ⟨n,k,rfl,rfl⟩<;>rcases hh with ⟨rfl,rfl⟩| ⟨m,k',rfl,rfl⟩
 ·exact⟨0,l.length,rfl,by simp[nN]⟩
 ·have h1:fI m l.length=true:=hb
  exact⟨0,m.toNat,by simp[iY,oN h1],by simp[nN]⟩
 ·have h1:fI n l.length=true:=hb
  exact⟨n.toNat,l.length,by simp[iY,oN h1],by simp[nN]⟩
 ·have h1:(fI m l.length&& fI n m.toNat)=true:=hb
  rw[Bool.and_eq_true] at h1
  exact⟨n.toNat,m.toNat,by simp[iY,oN h1.1,oN h1.2],by simp[nN]⟩
theorem O8 {α:Type} (f:α→V) (l:List α) (a c:Nat):((l.map f).take c).drop a=((l.take c).drop a).map f:=by simp
variable (hR:lZ R)
include hR
theorem zN (t:Ty) (x:Den R.T t):(aG R t x).cells.length=bW R t∧bf (aG R t x).cells=true∧er (aG R t x)=aG R t x∧(fZ t=true→∃l,aG R t x= .agg l)∧(fZ t=false→(aG R t x).cells=[aG R t x]):=by
 cases t with
 |int k=>exact⟨rfl,rfl,rfl,by simp[fZ],fun _=>rfl⟩
 |bool=>exact⟨rfl,rfl,rfl,by simp[fZ],fun _=>rfl⟩
 |str=>exact⟨rfl,rfl,rfl,by simp[fZ],fun _=>rfl⟩
 |slice t=>exact⟨rfl,rfl,rfl,by simp[fZ],fun _=>rfl⟩
 |st n=>
  have he:aG R (.st n) x= .agg (encs R (R.lf n) (R.of n x)):=hR.enc n x
  rw[he]
  have hl:=hR.leaf n
  have key:∀(l:List Ty) (p:lC R.T l),l.all lY=true→bf (encs R l p)=true∧(encs R l p).map eO=encs R l p:=by
   intro l
   induction l with
   |nil=>intro p _;exact⟨rfl,rfl⟩
   |cons t l ih=>
    intro p h
    rw[List.all_cons,Bool.and_eq_true] at h
    have h1:∀y:Den R.T t,oneCell (aG R t y)=true∧eO (aG R t y)=aG R t y:=by
     intro y
     cases t<;>first|exact⟨rfl,rfl⟩| (have:=h.1;simp[lY] at this)
    cases l with
    |nil=>exact⟨by simp[encs,bf,(h1 p).1],by simp[encs,(h1 p).2]⟩
    |cons u l=>
     have:=ih p.2 h.2
     exact⟨by show (oneCell _&& bf (encs R (u::l) p.2))=true;rw[(h1 p.1).1,this.1];rfl,by show eO _::List.map eO (encs R (u::l) p.2)=_;rw[(h1 p.1).2,this.2];rfl⟩
  have:=key (R.lf n) (R.of n x) hl
  exact⟨OI _ _,this.1,by show V.agg (List.map eO _)=_;rw[this.2],fun _=>⟨_,rfl⟩,by simp[fZ]⟩
theorem C8 {t:Ty} (l:List (Den R.T t)):kP (bW R t) (l.map (aG R t))=true:=by
 cases l with
 |nil=>rfl
 |cons x l=>show ((aG R t x).cells.length==bW R t)=true;rw[(zN hR t x).1];simp
theorem IQ {t:TypeId} {x:TV R.T} {lo hi:Option (TV R.T)} {v:V} {vl vh:Option V} {σ:ah} {r:dG R} (h:uX E R t x lo hi=some r) (hx:Rl R ρ top x v)
 (hl:∀y,lo=some y→∃w,vl=some w∧Rl R ρ top y w) (hln:lo=none→vl=none) (hh:∀y,hi=some y→∃w,vh=some w∧Rl R ρ top y w) (hhn:hi=none→vh=none):mX ρ top (ko E.P σ t v vl vh none) r:=by
 unfold uX at h
 split at h
 ·rename_i lo' hi' e1 e2
  have b1:=IL e1 hl hln
  have b2:=IL e2 hh hhn
  split at h
  ·rename_i s hu
   cases h
   rw[hx.kX]
   intro hc
   obtain⟨a,c,h1,h2⟩:=Xb s b1 b2 hc
   refine⟨.str (nN s lo' hi'), ?_,by unfold Rl;rfl⟩
   unfold ko;rw[hu];dsimp only;rw[h1];simp[h2]
  ·rename_i e c u l hu
   split at h
   ·rename_i sz hs
    cases hb:Nat.beq sz (bW R u)
    ·rw[hb] at h;cases h
    ·rw[hb,cond_true] at h;cases h
     have:=dI hb;subst this
     obtain⟨c',rfl,_⟩:=hx.jO
     intro hc
     obtain⟨a,m,h1,h2⟩:=Xb l b1 b2 hc
     unfold ko;rw[hu];dsimp only
     rw[hs];simp only[Option.bind_some,List.length_map,h1,C8 hR,if_true]
     by_cases hcs:a=0∧m=l.length∧(none:Option V).isNone=true
     ·refine⟨_,by rw[if_pos hcs], ?_⟩
      unfold Rl
      refine⟨c', ?_,trivial⟩
      rw[←h2,hcs.1,hcs.2.1];simp
     ·refine⟨_,by rw[if_neg hcs], ?_⟩
      unfold Rl
      exact⟨_,by rw[←h2,O8],trivial⟩
   ·cases h
  ·cases h
 ·cases h
theorem IU {t:TypeId} {k:Ty} (hk:sM E t k=true) (x y:Den R.T k):kM (aG R k x) (aG R k y)=some (jY R k x y)∧jI E.P t (aG R k x)=true:=by
 unfold sM at hk
 split at hk
 ·rename_i hu;exact⟨by simp[kM,aG,jY],by unfold jI;rw[hu];rfl⟩
 ·rename_i hu;exact⟨rfl,by unfold jI;rw[hu];rfl⟩
 ·rename_i hu;exact⟨rfl,by unfold jI;rw[hu];rfl⟩
 ·cases hk
theorem Xc {t:TypeId} {k e:Ty} (hk:sM E t k=true) (x:Den R.T k):∀m:List (Den R.T k×Den R.T e),l9 (aG R k x) (m.map fun p=>aG R k p.1) (m.map fun p=>aG R e p.2)=some ((wN (jY R k) x m).map (aG R e))
 | []=>rfl
 | (a,v)::m=>by
   show (kM (aG R k x) (aG R k a)).bind _=some ((bif jY R k x a then some v else wN (jY R k) x m).map (aG R e))
   rw[(IU hR hk x a).1,Option.bind_some]
   cases jY R k x a
   ·exact Xc hk x m
   ·rfl
theorem Xd {t:TypeId} {k e:Ty} (hk:sM E t k=true) (x:Den R.T k) (v:Den R.T e):∀m:List (Den R.T k×Den R.T e),qN (aG R k x) (aG R e v) (m.map fun p=>aG R k p.1) (m.map fun p=>aG R e p.2)=
 some ((uY (jY R k) x v m).map (fun p=>aG R k p.1),(uY (jY R k) x v m).map fun p=>aG R e p.2)
 | []=>rfl
 | (a,w)::m=>by
   show (kM (aG R k x) (aG R k a)).bind _=_
   rw[(IU hR hk x a).1,Option.bind_some]
   show _=some (List.map _ (bif jY R k x a then (x,v)::m else (a,w)::uY (jY R k) x v m),List.map _ (bif jY R k x a then (x,v)::m else (a,w)::uY (jY R k) x v m))
   cases jY R k x a
   ·simp only[Bool.false_eq_true,if_false,cond_false]
    rw[Xd hk x v m];rfl
   ·rfl
theorem Xe {t:TypeId} {k:Ty} (hk:sM E t k=true) {x:Den R.T k} {y:TV R.T} {v:V} (h:mJ R k y=some x) (hr:Rl R ρ top y v):v=aG R k x:=by
 unfold sM at hk
 split at hk
 ·exact OE h hr
 ·exact OH h hr
 ·exact OG h hr
 ·cases hk
omit hR in
def mapOf (σ:ah):V→Option (List V×List V)
 |.dP=>some ([],[])
 |.bN loc s=>σ.eD loc s
 |.cK ks vs=>some (ks,vs)
 |_=>none
omit hR in
theorem Xf {P:Program} {σ:ah} {t:TypeId} {m k:V} {ok:Bool}:qO P σ t m k ok=(o7 P t).bind fun p=>if jI P p.1 k then (mapOf σ m).bind fun q=>(l9 k q.1 q.2).bind fun r=>
 (match r with|some v=>some (v,true)|none=>(fF P p.2).map fun z=>(z,false)).map fun (x:V×Bool)=>if ok then .bA [x.1,.bool x.2] else x.1 else none:=by
 cases m<;>rfl
theorem O9 {t:TypeId} {k e:Ty} {m:List (Den R.T k×Den R.T e)} {y:TV R.T} {w mv:V} {ok:Bool} {σ:ah} {r:dG R} (h:Cy E R t k e m y ok=some r) (hy:Rl R ρ top y w)
 (hm:mapOf σ mv=some (m.map (fun p=>aG R k p.1),m.map fun p=>aG R e p.2)):mX ρ top (qO E.P σ t mv w ok) r:=by
 unfold Cy at h
 split at h
 ·rename_i kt et ht
  cases hk:sM E kt k
  ·rw[hk] at h;cases h
  ·rw[hk,cond_true] at h
   split at h
   ·rename_i z hz
    split at h
    ·rename_i z' x hz' hx
     cases h
     have hw:=Xe hR hk hx hy
     subst hw
     obtain⟨zv,hzv,Pb⟩:=zM (ρ:=ρ) (top:=top) hz
     have agy:=CV hR hz' Pb
     rw[Xf,ht];simp only[Option.bind_some]
     rw[if_pos (IU hR hk x x).2,hm]
     simp only[Option.bind_some]
     rw[Xc hR hk x m]
     simp only[Option.bind_some]
     cases hg:wN (jY R k) x m with
     |some v=>
      simp only[Option.map_some]
      cases ok
      ·exact⟨_,rfl,IC hR .any (.inl rfl) e v⟩
      ·refine⟨_,rfl, ?_⟩
       rw[cond_true]
       unfold Rl
       exact⟨_,rfl,.cons' (IC hR .any (.inl rfl) e v) (.cons' (by unfold Rl;rfl) rfl)⟩
     |none=>
      simp only[Option.map_none,hzv,Option.map_some]
      have hz3:Rl R ρ top (eG R .any e z') zv:=agy
      cases ok
      ·exact⟨_,rfl,hz3⟩
      ·refine⟨_,rfl, ?_⟩
       rw[cond_true]
       unfold Rl
       exact⟨_,rfl,.cons' hz3 (.cons' (by unfold Rl;rfl) rfl)⟩
    ·cases h
   ·cases h
 ·cases h
end
end Aq
end
section
namespace Aq
open Go
set_option linter.unusedSectionVars false
set_option linter.unusedVariables false
section
variable {R:fU} {E:Env}
variable {ρ:aL} {top:Nat→Nat} {b:Nat} {st:MS R.T} {fr:Fr} {σ:ah}
theorem dA.{u} {α:Type u} {c:Bool} {o:Option α} {y:α} (h:(bif c then o else none)=some y):c=true∧o=some y:=by
 cases c
 ·cases h
 ·exact⟨rfl,h⟩
theorem IW {t e:TypeId} {u:Ty} {sz dz:Nat} (h:ze E R t=some (e,u,sz,dz)):∃z,gG E.P t=some e∧bJ E.P e=some sz∧ni E.P e=some dz∧fP E.P e=some (fZ u)∧fF E.P e=some z∧
 sz=bW R u∧0<sz∧(fZ u||sz==1)=true∧z.cells.length=sz:=by
 unfold ze at h
 split at h
 ·rename_i e' he
  split at h
  ·rename_i u' sz' by' ag z h1 h2 h3 h4 h5
   obtain⟨hc,h⟩:=dA h
   cases h
   simp only[Bool.and_eq_true] at hc
   obtain⟨⟨⟨⟨c1,c2⟩,c3⟩,c4⟩,c5⟩:=hc
   have:ag=fZ u:=by simpa using c5
   subst this
   refine⟨z,he,h2,h3,h4,h5,dI c1,Nat.le_of_ble_eq_true c2, ?_,dI c4⟩
   rw[Bool.or_eq_true] at c3⊢
   rcases c3 with c3|c3
   ·exact .inl c3
   ·exact .inr (by rw[dI c3];rfl)
  ·cases h
 ·cases h
theorem Pd (ag:Bool) (sz:Nat):∀vs:List V,(∀v∈vs,v.cells.length=sz)→chunks ag sz vs.length (vs.flatMap V.cells)=vs.map fun v=>if ag then .agg v.cells else v.cells.headD aC
 | [],_=>rfl
 |v::vs,h=>by
  have h1:=h v (by simp)
  have h2:=Pd ag sz vs (fun w hw=>h w (by simp[hw]))
  show _::chunks ag sz vs.length ((v.cells++vs.flatMap V.cells).drop sz)=_
  rw[List.drop_left' h1,h2,List.map_cons]
  congr 1
  cases ag
  ·simp only[Bool.false_eq_true,if_false]
   show (v.cells++vs.flatMap V.cells).headD aC=_
   cases hv:v.cells with
   |nil=>
    have h0:sz=0:=by rw[←h1,hv];rfl
    cases vs with
    |nil=>rfl
    |cons w vs=>
     have:w.cells=[]:=List.eq_nil_of_length_eq_zero (by rw[h w (by simp),h0])
     simp only[List.flatMap_cons,this,List.nil_append]
     have:∀vs:List V,(∀v∈vs,v.cells.length=sz)→vs.flatMap V.cells=[]:=by
      intro vs hvs
      rw[List.flatMap_eq_nil_iff]
      intro x hx;exact List.eq_nil_of_length_eq_zero (by rw[hvs x hx,h0])
     rw[this vs (fun x hx=>h x (by simp[hx]))]
   |cons a l=>rfl
  ·simp only[if_true]
   show V.agg ((v.cells++vs.flatMap V.cells).take sz)=_
   rw[List.take_left' h1]
variable (hR:lZ R)
include hR
theorem agz {t:Ty} {x:Den R.T t} {v:V} (h:er v=aG R t x):dn v=true:=by
 cases v<;>try rfl
 have h1:=mU hR t x
 rw[←h] at h1
 simp[er,aF] at h1
theorem Xg {u:Ty} {sz len:Nat} (hsz:sz=bW R u):∀(ps:List (Nat×TV R.T)) (qs:List (Nat×V)) (xs:List (Den R.T u)) (n:Nat) (done rest:List V),uZ R u n ps=some xs→ps.map (·.1)=qs.map (·.1)→
 aB R ρ top (ps.map (·.2)) (qs.map (·.2))→done.length=n*sz→rest.length=xs.length*sz→n+xs.length≤len→
 ∃vs:List V,nk (fun i=>if i<len then some (i*sz,sz) else none) (done++rest) qs=some (done++vs.flatMap V.cells)∧vs.length=xs.length∧vs.map er=xs.map (aG R u)∧(∀v∈vs,v.cells.length=sz∧bf v.cells=true)
 | [],[],xs,n,done,rest,h,_,_,h1,h2,_=>by
   cases h
   have:rest=[]:=List.eq_nil_of_length_eq_zero (by simpa using h2)
   subst this
   exact⟨[],by simp[nk],rfl,rfl,by simp⟩
 | [],_::_,_,_,_,_,_,h,_,_,_,_=>by simp at h
 |_::_,[],_,_,_,_,_,h,_,_,_,_=>by simp at h
 | (i,v)::ps,(j,w)::qs,xs,n,done,rest,h,hi,hr,h1,h2,h3=>by
   simp only[List.map_cons,List.cons.injEq] at hi
   obtain⟨rfl,hi⟩:=hi
   obtain⟨y,ys,e,g1,g2⟩:=hr.dH
   simp only[List.map_cons,List.cons.injEq] at e
   obtain⟨rfl,rfl⟩:=e
   unfold uZ at h
   cases hb:Nat.beq i n
   ·rw[hb] at h;cases h
   ·rw[hb,cond_true] at h
    have:=dI hb;subst this
    cases hu:mJ R u v with
    |none=>simp only[hu] at h;cases h
    |some x=>
     cases hs:uZ R u (i+1) ps with
     |none=>simp only[hu,hs] at h;cases h
     |some xs'=>
      simp only[hu,hs] at h
      obtain rfl:=Option.some.inj h
      obtain⟨a1,a2,a3,a4,a5⟩:=OL hR hu g1
      rw[←hsz] at a4
      have hlen:rest.length=sz+xs'.length*sz:=by rw[h2,List.length_cons,Nat.succ_mul];omega
      have q1:(done++w.cells).length=(i+1)*sz:=by rw[List.length_append,h1,a4,Nat.succ_mul]
      have q2:(rest.drop sz).length=xs'.length*sz:=by rw[List.length_drop,hlen,Nat.add_sub_cancel_left]
      have q3:i+1+xs'.length≤len:=by rw[List.length_cons] at h3;omega
      obtain⟨vs,k1,k2,k3,k4⟩:=Xg hsz ps qs xs' (i+1) (done++w.cells) (rest.drop sz) hs hi g2 q1 q2 q3
      refine⟨w::vs, ?_,by simp[k2],by simp[a1,k3], ?_⟩
      ·simp only[List.length_cons] at h3
       unfold nk
       simp only[if_pos (show i<len by omega)]
       rw[if_pos ⟨a4,by rw[List.length_append,h1,hlen];exact Nat.add_le_add_left (Nat.le_add_right _ _) _,agz hR a1⟩]
       have:dZ (done++rest) (i*sz) w.cells=done++w.cells++rest.drop sz:=by
        unfold dZ
        rw[List.take_left' h1,a4,List.drop_append,h1,Nat.add_sub_cancel_left,List.drop_eq_nil_of_le (by omega)]
        rfl
       rw[this,k1]
       simp
      ·intro z hz
       rcases List.mem_cons.1 hz with rfl|hz
       ·exact⟨a4,a5⟩
       ·exact k4 z hz
theorem agA {u:Ty} {sz:Nat} (hsz:sz=bW R u) (h1:(fZ u||sz==1)=true) {v:V} {x:Den R.T u} (he:er v=aG R u x) (hl:v.cells.length=sz):er (if fZ u then .agg v.cells else v.cells.headD aC)=aG R u x:=by
 cases hs:fZ u
 ·simp only[Bool.false_eq_true,if_false]
  have hne:∀cs,v≠ .agg cs:=by
   rintro cs rfl
   cases u<;>first| (simp[fZ] at hs;done)| (simp[er,aG] at he;done)
  have:v.cells=[v]:=by cases v<;>first|rfl|exact absurd rfl (hne _)
  rw[this];exact he
 ·simp only[if_true]
  obtain⟨l,hl'⟩:=(zN hR u x).2.2.2.1 hs
  cases v<;>first|exact he| (rw[hl'] at he;simp[er] at he)
theorem agB {t:TypeId} {len:Nat} {ps:List (Nat×TV R.T)} {qs:List (Nat×V)} {r:dG R} (h:Oi E R t len ps=some r) (hi:ps.map (·.1)=qs.map (·.1)) (hr:aB R ρ top (ps.map (·.2)) (qs.map (·.2))):mX ρ top (qR E t len qs) r:=by
 unfold Oi at h
 split at h
 ·rename_i e u sz dz he
  obtain⟨z,e1,e2,e3,e4,e5,e6,e7,e8,e9⟩:=IW he
  ·obtain⟨hc,h⟩:=dA h
   rw[Bool.and_eq_true] at hc
   split at h
   ·rename_i xs hx
    cases h
    have hlen:xs.length=len:=by
     have:∀(ps:List (Nat×TV R.T)) (n:Nat) (xs:List (Den R.T u)),uZ R u n ps=some xs→xs.length=ps.length:=by
      intro ps
      induction ps with
      |nil=>intro n xs h;cases h;rfl
      |cons p ps ih=>
       intro n xs h
       obtain⟨i,v⟩:=p
       unfold uZ at h
       obtain⟨_,h⟩:=dA h
       cases hu:mJ R u v with
       |none=>simp only[hu] at h;cases h
       |some x=>
        cases hs:uZ R u (n+1) ps with
        |none=>simp only[hu,hs] at h;cases h
        |some xs'=>simp only[hu,hs] at h;cases h;simp[ih _ _ hs]
     rw[this ps 0 xs hx];exact dI hc.2
    obtain⟨vs,k1,k2,k3,k4⟩:=Xg hR (len:=len) e6 ps qs xs 0 [] ((List.replicate len z.cells).flatten) hx hi hr (by simp) (by simp[e9,hlen]) (by omega)
    refine⟨.aj .full (xs.map (aG R u)), ?_,by unfold Rl;exact⟨.full,rfl,rfl⟩⟩
    unfold qR
    rw[e1];simp only[Option.bind_some,e2,e4,e5]
    rw[if_pos ⟨Nat.le_of_ble_eq_true hc.1,e9,e7,e8⟩]
    rw[List.nil_append,List.nil_append] at k1
    rw[k1]
    simp only[Option.bind_some]
    have hone:bf (vs.flatMap V.cells)=true:=by
     unfold bf
     rw[List.all_flatMap,List.all_eq_true]
     intro v hv;exact(k4 v hv).2
    rw[hone,if_pos rfl,←hlen,←k2,Pd _ _ _ (fun v hv=>(k4 v hv).1),List.map_map]
    congr 2
    have:∀(vs:List V) (xs:List (Den R.T u)),vs.map er=xs.map (aG R u)→(∀v∈vs,v.cells.length=sz∧bf v.cells=true)→vs.map (er∘fun v=>if fZ u then .agg v.cells else v.cells.headD aC)=xs.map (aG R u):=by
     intro vs
     induction vs with
     |nil=>intro xs h _;exact h
     |cons v vs ih=>
      intro xs h hk
      cases xs with
      |nil=>simp at h
      |cons x xs=>
       simp only[List.map_cons,List.cons.injEq] at h
       rw[List.map_cons,List.map_cons,ih xs h.2 (fun w hw=>hk w (by simp[hw]))]
       congr 1
       exact agA hR e6 e8 h.1 (hk v (by simp)).1
    rw[this vs xs k3 k4]
   ·cases h
 ·cases h
theorem Pe {u:Ty} (l:List (Den R.T u)):(l.map (aG R u)).all (fun v=>bf v.cells)=true:=by
 simp[List.all_map,(zN hR u _).2.1]
theorem Pf {u:Ty} {ag:Bool} {y:TV R.T} {v z:V} {l:List (Den R.T u)} (h:Cz R u y=some l) (hy:Rl R ρ top y v):jo σ ag (bW R u) z v=some (l.map (aG R u))∧qP v=false:=by
 unfold Cz at h
 split at h
 ·obtain⟨e,e2⟩:=pV h;subst e;cases e2
  obtain⟨c',rfl,_⟩:=hy.jO
  exact⟨by show (if kP _ _=true then _ else _)=_;rw[if_pos (C8 hR _)],rfl⟩
 ·cases h;rw[hy.nQ];exact⟨rfl,rfl⟩
 ·rename_i s
  obtain⟨e,e2⟩:=pV h;subst e;cases e2
  rw[hy.kX]
  exact⟨by show (if 1=1 then some (s.map kN) else none)=_;rw[if_pos rfl];exact congrArg some (Xa (R:=R) s),rfl⟩
 ·cases h
theorem agC {t e:TypeId} {sz dz:Nat} {ag:Bool} {z:V} {c:Cap} {l ys:List V} {y:V} {loc:Option Loc} {aD:Nat} {P:Program} (h1:gG P t=some e) (h2:bJ P e=some sz) (h3:ni P e=some dz) (h4:fP P e=some ag) (h5:fF P e=some z)
 (h6:z.cells.length=sz) (h7:0<sz) (h8:(ag||sz==1)=true) (hy:jo σ ag sz z y=some ys) (hi:qP y=false) (ho:ys.all (fun v=>bf v.cells)=true) (hr:dD (l.length+ys.length) dz=true) (hh:kP sz l=true):
 gy P false false σ aD loc t (.aj c l) y=match c with
  |.own n s=>if n=sz∧σ.top s=l.length then some (.aj (.own n s) (l++ys),σ.bV s (l.length+ys.length)) else none
  |.nil|.full=>some (.aj (.own sz aD) (l++ys),σ.bV aD (l.length+ys.length))
  |_=>none:=by
 unfold gy
 simp only[h1,h2,h3,h4,h5,Option.bind_some,hi,hy,ho,if_true]
 rw[if_pos ⟨trivial,h6,h7,h8⟩]
 simp only[hr,hh,and_self,if_true]
 cases c<;>rfl
theorem agD {d:Option Nat} {t u:TypeId} {x y:TV R.T} {v w:V} {r:dG R} {aD:Nat} {loc:Option Loc} {o:Oper} (h:CB E R d t u x y st=some r) (hx:Rl R ρ σ.top x v) (hy:Rl R ρ σ.top y w) (hi:aH ρ aD st fr σ)
 (ho:∀y σ',gy E.P false false σ aD loc t v w=some (y,σ')→j4 E fr σ aD o y σ'):pY E st ρ aD fr σ o r:=by
 unfold CB at h
 split at h
 ·rename_i d
  split at h
  ·rename_i e τ sz dz he
   obtain⟨z,e1,e2,e3,e4,e5,e6,e7,e8,e9⟩:=IW he
   ·obtain⟨hss,h⟩:=dA h
    split at h
    ·rename_i tk l l' hd hs
     cases h
     intro hroom
     subst e6
     obtain⟨g1,g2⟩:=Pf hR (ag:=fZ τ) (z:=z) (σ:=σ) hs hy
     have hlen:dD ((l.map (aG R τ)).length+(l'.map (aG R τ)).length) dz=true:=by rw[List.length_map,List.length_map];exact hroom
     have hap:∀c,gy E.P false false σ aD loc t (.aj c (l.map (aG R τ))) w=_:=fun c=>agC hR (σ:=σ) (c:=c) (loc:=loc) (aD:=aD) e1 e2 e3 e4 e5 e9 e7 e8 g1 g2 (Pe hR l') hlen (C8 hR l)
     have fresh:∀(c:Cap),(c= .nil∨c= .full)→v= .aj c (l.map (aG R τ))→∃x σ' ρ',j4 E fr σ aD o x σ'∧aH ρ' (aD+1) (st.wk tk) fr σ'∧σ'.next=σ.next∧Rl R ρ' σ'.top (.aj (.own tk) τ (l++l')) x∧∀p,o.dst≠some p→aV true p st ρ σ (st.wk tk) ρ' σ':=by
      intro c hc hv
      subst hv
      have:=hap c
      refine⟨.aj (.own (bW R τ) aD) (l.map (aG R τ)++l'.map (aG R τ)),σ.bV aD ((l.map (aG R τ)).length+(l'.map (aG R τ)).length),ρ.fJ tk aD,ho _ _ (by rw[this];rcases hc with rfl|rfl<;>rfl), ?_,rfl, ?_, ?_⟩
      ·exact hi.wk tk aD _ (Nat.le_succ _) (Nat.lt_succ_self _) hi.nx (fun u _ hu=>by have:=hi.lt u _ hu;omega)
      ·unfold Rl
       exact⟨_,by rw[List.map_append],.inr (.inr ⟨aD,rfl,by simp[aL.fJ,upd],by rw[Ck];simp⟩)⟩
      ·exact fun p _=>aV.wk hi.nx
     unfold VW at hd
     split at hd
     ·rename_i l0
      split at hd
      ·rename_i l1 hl1
       cases hd
       obtain⟨e,e2⟩:=pV hl1;subst e;cases e2
       obtain⟨c',rfl,hc'⟩:=hx.jO
       exact fresh c' (.inl hc') rfl
      ·cases hd
     ·rename_i l0
      split at hd
      ·rename_i l1 hl1
       cases hd
       obtain⟨e,e2⟩:=pV hl1;subst e;cases e2
       obtain⟨c',rfl,hc'⟩:=hx.jO
       exact fresh c' (.inr hc') rfl
      ·cases hd
     ·rename_i tk' τ' l0
      split at hd
      ·rename_i l1 hl1
       cases hd
       obtain⟨e,e2⟩:=pV hl1;subst e;cases e2
       obtain⟨c',rfl,hc'⟩:=hx.jO
       rcases hc' with hc'|hc'| ⟨s,hc',ht,hl⟩
       ·exact fresh c' (.inl hc') rfl
       ·exact fresh c' (.inr hc') rfl
       ·subst hc'
        have:=hap (.own (bW R τ') s)
        dsimp only at this
        rw[if_pos ⟨rfl,by rw[List.length_map];exact hl⟩] at this
        refine⟨_,_,ρ.fJ tk s,ho _ _ this, ?_,rfl, ?_, ?_⟩
        ·exact hi.wk tk s _ (Nat.le_succ _) (by have:=hi.lt tk s ht;omega) (hi.ge tk s ht) (fun u hu h'=>hu (hi.inj u tk s h' ht))
        ·unfold Rl
         exact⟨_,by rw[List.map_append],.inr (.inr ⟨s,rfl,by simp[aL.fJ,upd],by rw[Ck];simp⟩)⟩
        ·exact fun p _=>aV.wk (hi.ge tk s ht)
      ·cases hd
     ·cases hd
      rw[hx.nQ] at fresh
      have hx':=hx.nQ
      subst hx'
      exact fresh .nil (.inl rfl) rfl
     ·cases hd
    ·cases h
  ·cases h
 ·cases h
omit hR in
theorem agE {t:TypeId} {x:TV R.T} {v:V} {n:Nat} (h:Ol E t x st=some n) (hx:Rl R ρ σ.top x v) (hi:aH ρ b st fr σ):lg E σ t v=some n:=by
 unfold Ol at h
 unfold lg
 split at h
 ·rename_i hu;cases h;obtain⟨c',rfl,_⟩:=hx.jO;rw[hu];simp
 ·rename_i hu;cases h;rw[hx.nQ,hu];rfl
 ·rename_i o t hu
  split at h
  ·rename_i t' l hl
   cases h
   have h1:=(hi.rd hl).1
   rcases hx.zD with ⟨s,_,rfl⟩| ⟨h0,rfl|rfl⟩
   ·rw[hu];dsimp only;rw[h1]
   ·rw[hu];dsimp only;rw[h1,h0];rfl
   ·rw[hu];dsimp only;rw[h1,h0];rfl
  ·cases h
 ·rename_i hu;cases h;rw[hx.kX,hu]
 ·rename_i o hu
  split at h
  ·rename_i k e m hl
   cases h
   obtain⟨s,h1,rfl⟩:=hx.sQ
   obtain⟨s',h2,h3⟩:=hi.rd hl
   rw[h1] at h2;cases h2
   rw[hu];dsimp only;rw[h3];simp
  ·cases h
 ·rename_i hu;cases h;rw[hx.zC,hu];simp
 ·rename_i hu;cases h;unfold Rl at hx;subst hx;rw[hu]
 ·rename_i hu;cases h;rw[hu]
 ·cases h
omit hR in
theorem Pg (mx:Bool):∀{l:List (TV R.T)} {x y:TV R.T} {v:V} {k:List V},zh mx x l=some y→Rl R ρ top x v→aB R ρ top l k→∃w,jJ mx v k=some w∧Rl R ρ top y w
 | [],x,y,v,k,h,hx,hl=>by
   rw[hl.eH]
   unfold zh at h;cases h
   exact⟨v,by cases v<;>rfl,hx⟩
 |z::l,x,y,v,k,h,hx,hl=>by
  obtain⟨w,ws,rfl,h1,h2⟩:=hl.dH
  unfold zh at h
  split at h
  ·rename_i hz;cases hz
  ·rename_i k a k' b l' hz
   simp only[List.cons.injEq] at hz
   obtain⟨rfl,rfl⟩:=hz
   split at h
   ·rename_i e;subst e
    rw[hx.fq,h1.fq]
    unfold jJ
    rw[if_pos rfl]
    refine Pg mx h ?_ h2
    unfold Rl
    cases mx<;>rfl
   ·cases h
  ·cases h
omit hR in
theorem Xh (c:Cp):∀(l:List Ty) (p:lC R.T l),(iU R c l p).length=l.length
 | [],_=>rfl
 | [_],_=>rfl
 |_::u::l,p=>by show (iU R c (u::l) p.2).length+1=_;rw[Xh c (u::l)];rfl
omit hR in
theorem IX (c:Cp) (t:Ty) (x:Den R.T t):(eG R c t x).cells.length=bW R t:=by
 cases t with
 |st n=>exact Xh c _ _
 |_=>rfl
omit hR in
theorem IY (t:Ty):∀l:List (Den R.T t),(l.flatMap fun x=>(eG R .any t x).cells).length=l.length*bW R t
 | []=>by simp
 |x::l=>by rw[List.flatMap_cons,List.length_append,IX,IY t l,List.length_cons,Nat.succ_mul];omega
omit hR in
theorem Xi {α:Type}:∀{l:List α} {i:Nat} {x:α},l[i]? =some x→∃a b,l=a++x::b∧a.length=i
 | [],_,_,h=>by simp at h
 |y::l,0,x,h=>by simp at h;subst h;exact⟨[],l,rfl,rfl⟩
 |y::l,i+1,x,h=>by
  obtain⟨a,b,rfl,hl⟩:=Xi (l:=l) (i:=i) (by simpa using h)
  exact⟨y::a,b,rfl,by simp[hl]⟩
omit hR in
theorem agF {α:Type} {l:List α} {i:Int} {x:α} (h:cO l i=some x):∃a b,l=a++x::b∧a.length=i.toNat∧0≤i:=by
 unfold cO at h
 split at h
 ·rename_i hi
  obtain⟨a,b,h1,h2⟩:=Xi h
  exact⟨a,b,h1,h2,hi.1⟩
 ·cases h
omit hR in
theorem agG {ag:Bool} {n off:Nat} {pre el post:List (TV R.T)} {v:TV R.T} (h:H7 ag n el off=some v):H7 ag n (pre++el++post) (pre.length+off)=some v:=by
 cases ag with
 |true=>
  have h':(bif Nat.ble (off+n) el.length then some (TV.agg ((el.drop off).take n)) else none)=some v:=h
  obtain⟨hb,h'⟩:=dA h'
  have hle:=Nat.le_of_ble_eq_true hb
  show (bif Nat.ble (pre.length+off+n) (pre++el++post).length then some (TV.agg (((pre++el++post).drop (pre.length+off)).take n)) else none)=some v
  have hb':Nat.ble (pre.length+off+n) (pre++el++post).length=true:=Nat.ble_eq_true_of_le (by simp;omega)
  rw[hb',cond_true,←h']
  congr 2
  have e1:(pre++el++post).drop (pre.length+off)=(el++post).drop off:=by
   rw[List.append_assoc,List.drop_append,List.drop_eq_nil_of_le (by omega)]
   simp
  rw[e1,List.drop_append,List.take_append]
  have e2:n-(el.drop off).length=0:=by simp;omega
  rw[e2];simp
 |false=>
  have h':el[off]? =some v:=h
  show (pre++el++post)[pre.length+off]? =some v
  have hlt:off<el.length:=by rw[List.getElem?_eq_some_iff] at h';exact h'.1
  rw[List.append_assoc,List.getElem?_append_right (by omega),Nat.add_sub_cancel_left,List.getElem?_append_left hlt]
  exact h'
omit hR in
theorem agH {t:TypeId} {off:Nat} {pre el post:List (TV R.T)} {v:TV R.T} (h:jD E t el off=some v):jD E t (pre++el++post) (pre.length+off)=some v:=by
 unfold jD at h⊢
 cases h1:fP E.P t with
 |none=>simp only[h1] at h;cases h
 |some a=>
  cases h2:bJ E.P t with
  |none=>simp only[h1,h2] at h;cases h
  |some n=>simp only[h1,h2] at h⊢;exact agG h
omit hR in
theorem agI {t:TypeId} {off:Nat} {cs cs':List (TV R.T)} (hl:cs.length=cs'.length) (h:(jD E t cs off).isSome=true):∃v,jD E t cs' off=some v:=by
 unfold jD at h⊢
 cases h1:fP E.P t with
 |none=>simp only[h1] at h;cases h
 |some a=>
  cases h2:bJ E.P t with
  |none=>simp only[h1,h2] at h;cases h
  |some n=>
   simp only[h1,h2] at h⊢
   cases a with
   |true=>
    have h':(bif Nat.ble (off+n) cs.length then some (TV.agg ((cs.drop off).take n)) else none).isSome=true:=h
    cases hb:Nat.ble (off+n) cs.length
    ·rw[hb] at h';cases h'
    ·exact⟨.agg ((cs'.drop off).take n),by show (bif Nat.ble (off+n) cs'.length then _ else _)=_;rw[←hl,hb];rfl⟩
   |false=>
    have h':cs[off]?.isSome=true:=h
    have hlt:off<cs'.length:=by rw[←hl];simpa using h'
    exact⟨cs'[off],List.getElem?_eq_getElem hlt⟩
omit hR in
theorem Xj {o s:Nat} {τ:Ty} {l:List (Den R.T τ)} {i:Int} {y:Den R.T τ} (hO:dO ρ σ o (.arr τ l)) (hs:ρ.ob o=some s) (hy:cO l i=some y):
 ∃a b cs,l=a++y::b∧a.length=i.toNat∧σ.bO (ρ.om.lc o) s=some cs∧aB R ρ σ.top ((a.flatMap fun x=>(eG R .any τ x).cells)++(eG R .any τ y).cells++b.flatMap fun x=>(eG R .any τ x).cells) cs∧(a.flatMap fun x=>(eG R .any τ x).cells).length=i.toNat*bW R τ:=by
 obtain⟨a,b,rfl,h1,h2⟩:=agF hy
 rcases hO.2 with h| ⟨s',cs,h3,h4,h5⟩
 ·exact absurd h.1 (by simp)
 ·rw[hs] at h3;cases h3
  refine⟨a,b,cs,rfl,h1,h4, ?_,by rw[IY,h1]⟩
  rw[List.flatMap_append,List.flatMap_cons] at h5
  rw[List.append_assoc];exact h5
omit hR in
theorem agJ {t:TypeId} {o s off:Nat} {τ:Ty} {i:Int} {ob:Ob R.T} {r:dG R} (h:Oq E R t τ i off ob=some r) (hO:dO ρ σ o ob) (hs:ρ.ob o=some s):∃(l:List (Den R.T τ)) (f:Den R.T τ→TV R.T),r= .p (Den R.T τ) (yO R τ) (cO l i) f∧
 ∀y,cO l i=some y→∃cs w,σ.bO (ρ.om.lc o) s=some cs∧dJ E.P t cs (i.toNat*bW R τ+off)=some w∧Rl R ρ σ.top (f y) w:=by
 unfold Oq at h
 split at h
 ·rename_i τ' l0
  split at h
  ·rename_i l1 hl
   obtain⟨e,e2⟩:=pV hl;subst e;cases e2
   obtain⟨hb,h⟩:=dA h
   cases h
   refine⟨l0,_,rfl,fun y hy=> ?_⟩
   obtain⟨a,b,cs,h1,h2,h3,h4,h5⟩:=Xj hO hs hy
   obtain⟨v,hv⟩:=agI (cs':=(eG R .any τ' y).cells) (by rw[IX,IX]) hb
   have:=agH (pre:=a.flatMap fun x=>(eG R .any τ' x).cells) (post:=b.flatMap fun x=>(eG R .any τ' x).cells) hv
   rw[h5] at this
   obtain⟨w,hw,hr⟩:=tq h4 this
   exact⟨cs,w,h3,hw,by rw[hv];exact hr⟩
  ·cases h
 ·cases h
theorem agK {τ:Ty} {cs:List (TV R.T)} {x:Den R.T τ} {vs:List V} (h:Ot R τ cs=some x) (hr:aB R ρ top cs vs):aB R ρ top (eG R .any τ x).cells vs:=by
 have one:∀(t:Ty) (x:Den R.T t),lY t=true→nK R t (hd1 R cs)=some x→aB R ρ top [uR R .any t x] vs:=by
  intro t x ht h
  cases cs with
  |nil=>cases t<;>cases h
  |cons c cs=>
   cases cs with
   |nil=>
    obtain⟨v,l,rfl,h1,h2⟩:=hr.dH
    rw[h2.eH]
    exact .cons' (wY hR h h1) rfl
   |cons c' cs=>cases t<;>cases h
 cases τ with
 |st n=>
  have:=CV hR (t:=.st n) (show mJ R (.st n) (.agg cs)=some x from h) (v:=.agg vs) (by unfold Rl;exact⟨vs,rfl,hr⟩)
  obtain⟨l,e,hl⟩:=Rl.jA this
  cases e;exact hl
 |int k=>exact one (.int k) x rfl h
 |bool=>exact one .bool x rfl h
 |str=>exact one .str x rfl h
 |slice t=>exact one (.slice t) x rfl h
omit hR in
theorem agL {α:Type} (pre el post vs:List α) (off:Nat) (h:off+vs.length≤el.length):(pre++el++post).take (pre.length+off)++vs++(pre++el++post).drop (pre.length+off+vs.length)=pre++(el.take off++vs++el.drop (off+vs.length))++post:=by
 have e1:(pre++el++post).take (pre.length+off)=pre++el.take off:=by
  rw[List.append_assoc,List.take_append,List.take_of_length_le (by omega),Nat.add_sub_cancel_left,List.take_append,Nat.sub_eq_zero_of_le (by omega)]
  simp
 have e2:(pre++el++post).drop (pre.length+off+vs.length)=el.drop (off+vs.length)++post:=by
  rw[List.append_assoc,List.drop_append,List.drop_eq_nil_of_le (by omega),show pre.length+off+vs.length-pre.length=off+vs.length by omega,List.drop_append,Nat.sub_eq_zero_of_le (by omega)]
  simp
 rw[e1,e2]
 simp
theorem agM {o s off:Nat} {τ:Ty} {i:Int} {l:List (Den R.T τ)} {y y':Den R.T τ} {vc:List (TV R.T)} {vl:List V} (hO:dO ρ σ o (.arr τ l)) (hs:ρ.ob o=some s) (hy:cO l i=some y) (hv:aB R ρ σ.top vc vl) (hle:off+vc.length≤bW R τ)
 (hu:Ot R τ (yZ (eG R .any τ y).cells off vc)=some y'):∃cs,σ.bO (ρ.om.lc o) s=some cs∧i.toNat*bW R τ+off+vl.length≤cs.length∧aB R ρ σ.top ((wP l i y').flatMap fun x=>(eG R .any τ x).cells) (dZ cs (i.toNat*bW R τ+off) vl)∧(wP l i y').length=l.length:=by
 obtain⟨a,b,cs,rfl,h2,h3,h4,h5⟩:=Xj hO hs hy
 obtain⟨p1,post,rfl,g1,g2⟩:=h4.split
 obtain⟨pre,el,rfl,g3,g4⟩:=g1.split
 have l1:pre.length=i.toNat*bW R τ:=by rw[g3.length,h5]
 have l2:el.length=bW R τ:=by rw[g4.length,IX]
 have l3:=hv.length
 refine⟨_,h3, ?_, ?_, ?_⟩
 ·rw[List.length_append,List.length_append];omega
 ·have e:wP (a++y::b) i y'=a++y'::b:=by
   unfold wP
   rw[←h2,List.set_append_right _ _ (Nat.le_refl _),Nat.sub_self];rfl
  rw[e,List.flatMap_append,List.flatMap_cons,←List.append_assoc]
  have e2:dZ (pre++el++post) (i.toNat*bW R τ+off) vl=pre++dZ el off vl++post:=by
   unfold dZ
   rw[←l1];exact agL pre el post vl off (by omega)
  rw[e2]
  exact(g3.append (agK hR hu (O5 off g4 hv))).append g2
 ·unfold wP;rw[List.length_set]
theorem agN (τ:Ty) (x:Den R.T τ):aB R ρ top (eG R .any τ x).cells (aG R τ x).cells:=by
 refine(rF ?_ (IC hR .any (.inl rfl) τ x)).1
 cases τ<;>rfl
theorem zO (τ:Ty):∀l:List (Den R.T τ),aB R ρ top (l.flatMap fun x=>(eG R .any τ x).cells) ((l.map (aG R τ)).flatMap V.cells)
 | []=>rfl
 |x::l=>by
  rw[List.map_cons,List.flatMap_cons,List.flatMap_cons]
  exact(agN hR τ x).append (zO τ l)
theorem agO {t e:TypeId} {sz dz:Nat} {ag:Bool} {z:V} {ys:List V} {x y:V} {loc:Option Loc} {aD:Nat} {P:Program} (h1:gG P t=some e) (h2:bJ P e=some sz) (h3:ni P e=some dz) (h4:fP P e=some ag) (h5:fF P e=some z)
 (h6:z.cells.length=sz) (h7:0<sz) (h8:(ag||sz==1)=true) (hy:jo σ ag sz z y=some ys) (hi:qP y=false) (ho:ys.all (fun v=>bf v.cells)=true):
 gy P true false σ aD loc t x y=match x with
  |.aj c l=>if dD (l.length+ys.length) dz=true∧kP sz l=true then
     match c with
     |.nil=>loc.map fun loc=>(.vw loc aD 0 (l.length+ys.length) (l.length+ys.length) sz ag,σ.setObj loc aD (.cells ((l++ys).flatMap V.cells)))
     |.full=>if ys.isEmpty then some (.aj .full l,σ) else loc.map fun loc=>(.vw loc aD 0 (l.length+ys.length) (l.length+ys.length) sz ag,σ.setObj loc aD (.cells ((l++ys).flatMap V.cells)))
     |_=>none else none
  |.vw gB s off len cap aU _=>
   if dD (len+ys.length) dz=true∧off=0∧aU=sz then
    loc.bind fun loc=>(σ.bO gB s).bind fun cs=>
     if len+ys.length≤cap then
      if (len+ys.length)*sz≤cs.length then
       some (.vw gB s 0 (len+ys.length) cap sz ag,σ.setObj gB s (.cells (dZ cs (len*sz) (ys.flatMap V.cells))))
      else none
     else if len*sz≤cs.length then
      some (.vw loc aD 0 (len+ys.length) (len+ys.length) sz ag,(σ.jH gB).setObj loc aD (.cells (cs.take (len*sz)++ys.flatMap V.cells)))
     else none
   else none
  |_=>none:=by
 unfold gy
 simp only[h1,h2,h3,h4,h5,Option.bind_some,hi,hy,ho,if_true]
 rw[if_pos ⟨trivial,h6,h7,h8⟩]
 cases x<;>try rfl
 ·rename_i c l
  cases c<;>rfl
 ·simp only[true_and]
omit hR in
theorem aV.OP {o q s n:Nat} {x:Ob R.T} {a:fE} (hne:q≠o):aV true q st ρ σ (st.new o x) (ρ.wX o s n) (σ.setObj (ρ.om.lc o) s a):=⟨(OO q hne).1,(OO q hne).2,rfl,Nat.le_refl _,⟨fun _ _=>rfl,fun _ _=>rfl⟩,fun _ _ hL=>OZ hL,(aV.new (nr:=true) (ρ:=ρ) (s:=s) (a:=a) hne).ro⟩
omit hR in
theorem aV.del {o q:Nat} {y:Ob R.T} (hl:look st.ob o=some y) (hy:mK y=false):aV true q st ρ σ (st.del o) ρ (σ.jH (ρ.om.lc o)):=⟨rfl,rfl,rfl,Nat.le_refl _,⟨fun _ _=>rfl,fun _ _=>rfl⟩,fun _ _ hL=>agi hL,fun hr=>by
 have hne:q≠o:=by rintro rfl;rw[hr y hl] at hy;cases hy
 refine⟨fun z hz=> ?_,fun s'=> ?_⟩
 ·have hz':look (fV o st.ob) q=some z:=hz
  rw[nR hne] at hz'
  exact hr z hz'
 ·unfold ah.bO ah.eD;rw[Wv σ hne];exact⟨rfl,rfl⟩⟩
omit hR in
theorem aV.del' {o q:Nat} {y:Ob R.T} (hl:look st.ob o=some y) (hy:mK y=false):aV true q st ρ σ (st.del o) ρ σ:=⟨rfl,rfl,rfl,Nat.le_refl _,⟨fun _ _=>rfl,fun _ _=>rfl⟩,fun _ _ _=>rfl,fun hr=>by
 have hne:q≠o:=by rintro rfl;rw[hr y hl] at hy;cases hy
 refine⟨fun z hz=> ?_,fun s'=>⟨rfl,rfl⟩⟩
 have hz':look (fV o st.ob) q=some z:=hz
 rw[nR hne] at hz'
 exact hr z hz'⟩
omit hR in
theorem Ph {α:Type} {p:Nat}:∀l:List (Nat×α),look (fV p l) p=none
 | []=>rfl
 | (j,x)::l=>by
   unfold fV
   cases hj:Nat.beq j p
   ·show (bif Nat.beq j p then some x else look (fV p l) p)=none
    rw[hj];exact Ph l
   ·exact Ph l
omit hR in
theorem aH.del' (h:aH ρ b st fr σ) (o:Nat):aH ρ b (st.del o) fr σ:={h with
 ob:=fun p y hy=>by
  by_cases e:p=o
  ·subst e
   have:look (fV p st.ob) p=some y:=hy
   rw[Ph] at this;cases this
  ·have hy':look (fV o st.ob) p=some y:=hy
   rw[nR e] at hy'
   exact h.ob p y hy'
 fr:=h.fr}
omit hR in
theorem zP {d aD:Nat} {τ:Ty} {l:List (Den R.T τ)} {L:List V} {st0:MS R.T} {σ0:ah} {o:Oper} {v:V} {σ1:ah} (hd:o.dst=some d) (hi:aH ρ (aD+1) st0 fr σ0) (hk:∀p,aV true p st ρ σ st0 ρ σ0) (hn:σ0.next=σ.next) (hL:aB R ρ σ0.top (l.flatMap fun x=>(eG R .any τ x).cells) L)
 (hs:j4 E fr σ aD o v σ1) (hv:v= .vw (ρ.om.lc d) aD 0 l.length l.length (bW R τ) (fZ τ)) (h1:σ1=σ0.setObj (ρ.om.lc d) aD (.cells L)):∃x σ' ρ',j4 E fr σ aD o x σ'∧aH ρ' (aD+1) (st0.new d (.arr τ l)) fr σ'∧σ'.next=σ.next∧Rl R ρ' σ'.top (.vw d τ) x∧∀p,o.dst≠some p→aV true p st ρ σ (st0.new d (.arr τ l)) ρ' σ':=by
 subst hv;subst h1
 refine⟨_,_,ρ.wX d aD l.length,hs,hi.OP d aD l.length ⟨(CU (ρ:=ρ.jZ d aD)).symm,.inr ⟨aD,L,pX (ρ:=ρ),qX _ _ _ _,sS l L hL⟩⟩,hn, ?_,fun p hp=> ?_⟩
 ·unfold Rl
  exact .inl ⟨aD,pX (ρ:=ρ),by rw[show (ρ.wX d aD l.length).ln d=l.length from CU (ρ:=ρ.jZ d aD)];rfl⟩
 ·have hne:p≠d:=fun e=>hp (by rw[hd,e])
  exact(hk p).trans (aV.OP hne)
theorem agP {d:Option Nat} {t u:TypeId} {x y:TV R.T} {v w:V} {r:dG R} {aD:Nat} {o:Oper} (h:CF E R d t u x y st=some r) (hx:Rl R ρ σ.top x v) (hy:Rl R ρ σ.top y w) (hi:aH ρ aD st fr σ) (hd:o.dst=d)
 (ho:∀y σ',gy E.P true false σ aD (d.map fun t=>(ρ.om.lc t)) t v w=some (y,σ')→j4 E fr σ aD o y σ'):pY E st ρ aD fr σ o r:=by
 have hi1:=hi.le (Nat.le_succ aD)
 unfold CF at h
 split at h
 ·rename_i d
  split at h
  ·rename_i e τ sz dz he
   obtain⟨z,e1,e2,e3,e4,e5,e6,e7,e8,e9⟩:=IW he
   obtain⟨hss,h⟩:=dA h
   split at h
   ·rename_i l' hs
    subst e6
    obtain⟨g1,g2⟩:=Pf hR (ag:=fZ τ) (z:=z) (σ:=σ) hs hy
    have hap:=fun x=>agO hR (σ:=σ) (x:=x) (loc:=some (ρ.om.lc d)) (aD:=aD) e1 e2 e3 e4 e5 e9 e7 e8 g1 g2 (Pe hR l')
    split at h
    ·rename_i p τ0 _
     split at h
     ·rename_i e0
      subst e0
      split at h
      ·rename_i τ' l0 hl
       split at h
       ·rename_i a l1 l2 hl2
        obtain⟨e,e2'⟩:=pV hl2;subst e;cases e2'
        cases h
        intro hroom
        have hO:=hi.ob _ _ hl
        have hlen:l0.length=ρ.ln p:=hO.1
        have hnr:mK (Ob.arr τ' l0)=false:=rfl
        have hne:¬((a::l1).map (aG R τ')).isEmpty=true:=by simp
        rcases hx.zD with ⟨s,k1,rfl⟩| ⟨k1,k2⟩
        ·rcases hO.2 with hO2| ⟨s',cs,k3,k4,k5⟩
         ·rw[k1] at hO2;exact absurd hO2.2 (by simp)
         ·rw[k1] at k3;cases k3
          have:=hap (.vw (ρ.om.lc p) s 0 (ρ.ln p) (ρ.ln p) (bW R τ') (fZ τ'))
          dsimp only at this
          have hlc:cs.length=l0.length*bW R τ':=by rw[k5.length,IY]
          rw[if_pos ⟨by rw[List.length_map,←hlen];exact hroom,rfl,rfl⟩] at this
          simp only[Option.bind_some,k4] at this
          rw[if_neg (by rw[List.length_map,List.length_cons];omega),if_pos (by rw[hlc,hlen];exact Nat.le_refl _)] at this
          refine zP (σ0:=σ.jH (ρ.om.lc p)) (L:=cs.take (ρ.ln p*bW R τ')++((a::l1).map (aG R τ')).flatMap V.cells) hd (hi1.del p) (fun q=>aV.del hl hnr) rfl ?_ (ho _ _ this) ?_ rfl
          ·rw[List.flatMap_append,List.take_of_length_le (by rw[hlc,hlen];exact Nat.le_refl _)]
           exact aB.append k5 (zO hR _ _)
          ·rw[List.length_map,List.length_append,hlen]
        ·have hl0:l0=[]:=List.eq_nil_of_length_eq_zero (by omega)
         subst hl0
         have hroom':dD (([]:List V).length+((a::l1).map (aG R τ')).length) dz=true∧kP (bW R τ') ([]:List V)=true:=⟨by rw[List.length_map];exact hroom,rfl⟩
         rcases k2 with rfl|rfl
         ·have:=hap (.aj .nil [])
          dsimp only at this
          rw[if_pos hroom'] at this
          refine zP (σ0:=σ) hd (hi1.del' p) (fun q=>aV.del' hl hnr) rfl (zO hR _ _) (ho _ _ this) ?_ rfl
          simp
         ·have:=hap (.aj .full [])
          dsimp only at this
          rw[if_pos hroom',if_neg hne] at this
          refine zP (σ0:=σ) hd (hi1.del' p) (fun q=>aV.del' hl hnr) rfl (zO hR _ _) (ho _ _ this) ?_ rfl
          simp
       ·cases h
      ·cases h
     ·cases h
    ·obtain⟨hE,h⟩:=dA h
     cases h
     intro hroom
     have hroom':dD (([]:List V).length+(l'.map (aG R τ)).length) dz=true∧kP (bW R τ) ([]:List V)=true:=⟨by rw[List.length_map,List.length_nil,Nat.zero_add];exact hroom,rfl⟩
     rcases WQ (fr:=fr) hE (.of hx) with rfl|rfl
     ·have:=hap (.aj .nil [])
      dsimp only at this
      rw[if_pos hroom'] at this
      refine zP (σ0:=σ) hd hi1 (fun q=>.refl) rfl (zO hR _ _) (ho _ _ this) ?_ rfl
      simp
     ·have:=hap (.aj .full [])
      dsimp only at this
      rw[if_pos hroom'] at this
      by_cases hne:((l'.map (aG R τ)).isEmpty)=true
      ·rw[if_pos hne] at this
       have hl':l'=[]:=by simpa using hne
       subst hl'
       refine⟨_,_,ρ.gh d,ho _ _ this,hi1.ghost d τ,rfl,by unfold Rl;exact .inr ⟨CU (ρ:=ρ) (n:=0),.inr rfl⟩,fun p hp=> ?_⟩
       have Pj:p≠d:=fun e=>hp (by rw[hd,e])
       exact⟨(zJ p Pj).1,(zJ p Pj).2,rfl,Nat.le_refl _,⟨fun _ _=>rfl,fun _ _=>rfl⟩,fun _ _ _=>rfl,fun hr=>⟨((aV.new (nr:=true) (ρ:=ρ) (σ:=σ) (s:=0) (a:=.cells []) Pj).ro hr).1,fun _=>⟨rfl,rfl⟩⟩⟩
      ·rw[if_neg hne] at this
       refine zP (σ0:=σ) hd hi1 (fun q=>.refl) rfl (zO hR _ _) (ho _ _ this) ?_ rfl
       simp
   ·cases h
  ·cases h
 ·cases h
omit hR in
theorem Xk {α β:Type} (f:α→List β) (x:α):∀n,(List.replicate n x).flatMap f=(List.replicate n (f x)).flatten
 |0=>rfl
 |n+1=>by rw[List.replicate_succ,List.replicate_succ,List.flatMap_cons,List.flatten_cons,Xk f x n]
omit hR in
theorem Xl {ts:List (TV R.T)} {vs:List V} (h:aB R ρ top ts vs):∀n,aB R ρ top (List.replicate n ts).flatten (List.replicate n vs).flatten
 |0=>rfl
 |n+1=>by rw[List.replicate_succ,List.replicate_succ,List.flatten_cons,List.flatten_cons];exact h.append (Xl h n)
theorem agQ {om:Bool} {d:Option Nat} {t:TypeId} {x y:TV R.T} {v w:V} {r:dG R} {aD:Nat} {o:Oper} (h:Oj E R om d t x y st=some r) (hx:Rl R ρ σ.top x v) (hy:Rl R ρ σ.top y w) (hi:aH ρ aD st fr σ) (hd:o.dst=d)
 (ho:∀y σ',ql E.P om σ aD (d.map fun t=>(ρ.om.lc t)) t v w=some (y,σ')→j4 E fr σ aD o y σ'):pY E st ρ aD fr σ o r:=by
 have hi1:=hi.le (Nat.le_succ aD)
 unfold Oj at h
 split at h
 ·rename_i d e τ sz dz k n k' m he
  obtain⟨z0,e1,e2,e3,e4,e5,e6,e7,e8,e9⟩:=IW he
  split at h
  ·rename_i z hz
   split at h
   ·rename_i x0 hx0
    obtain⟨zv,z1,z2⟩:=zM (ρ:=ρ) (top:=σ.top) hz
    rw[e5] at z1;cases z1
    rw[hx.fq,hy.fq] at ho
    have mk:0≤n→n≤m→m≤2^47→dD m.toNat dz=true→ql E.P om σ aD ((some d).map fun t=>(ρ.om.lc t)) t (.int k n) (.int k' m)=if n=0∧om=false then some (.aj (.own sz aD) [],σ.bV aD 0) else some (.vw (ρ.om.lc d) aD 0 n.toNat m.toNat sz (fZ τ),σ.setObj (ρ.om.lc d) aD (.cells (List.replicate m.toNat z0.cells).flatten)):=by
     intro h1 h2 h3 h4
     unfold ql
     simp only[e1,e2,e3,e5,Option.bind_some,kg]
     rw[if_pos ⟨h1,h2,h4,h3,e9⟩]
     split
     ·rfl
     ·simp only[Option.map_some,Option.bind_some,e4]
    cases om with
    |true=>
     cases h
     intro hc
     rw[Bool.and_eq_true] at hc
     obtain⟨c1,c2,c3⟩:=of_decide_eq_true hc.1
     subst c2
     have:=mk c1 (Int.le_refl _) c3 hc.2
     rw[if_neg (by simp)] at this
     subst e6
     refine zP (σ0:=σ) hd hi1 (fun q=>.refl) rfl ?_ (ho _ _ this) ?_ rfl
     ·rw[Xk]
      refine Xl ?_ _
      have hzc:aB R ρ σ.top (eG R .any τ x0).cells z0.cells:=by
       have h1:=CV hR hx0 z2
       refine(rF ?_ h1).1
       cases τ<;>rfl
      exact hzc
     ·rw[List.length_replicate]
    |false=>
     cases h
     intro hc
     rw[Bool.and_eq_true] at hc
     obtain⟨c1,c2,c3⟩:=of_decide_eq_true hc.1
     subst c1
     have:=mk (Int.le_refl _) c2 c3 hc.2
     rw[if_pos ⟨rfl,rfl⟩] at this
     refine⟨_,_,ρ.fJ d aD,ho _ _ this,hi.wk d aD _ (Nat.le_succ _) (Nat.lt_succ_self _) hi.nx (fun u _ hu=>by have:=hi.lt u _ hu;omega),rfl, ?_,fun p _=>aV.wk hi.nx⟩
     unfold Rl
     exact⟨_,rfl,.inr (.inr ⟨aD,by rw[e6],by simp[aL.fJ,upd],by rw[Ck];rfl⟩)⟩
   ·cases h
  ·cases h
 ·cases h
theorem agR {om:Bool} {t:TypeId} {p:Nat} {τ:Ty} {y:TV R.T} {v w:V} {r:dG R} (h:Oo E R t p τ y st=some r) (hx:Rl R ρ σ.top (.vw p τ) v) (hy:Rl R ρ σ.top y w) (hi:aH ρ b st fr σ):mX ρ σ.top (kZ E.P t v w) r:=by
 unfold Oo at h
 split at h
 ·rename_i e k n hu
  split at h
  ·rename_i sz hs
   obtain⟨hb,h⟩:=dA h
   split at h
   ·rename_i τ' l hl
    cases h
    have:=dI hb;subst this
    rw[hy.fq]
    intro hc
    have hc':=of_decide_eq_true hc
    have hlen:=(hi.rd hl).1
    rcases hx.zD with ⟨s,k1,rfl⟩| ⟨h0,_⟩
    ·refine⟨.ref (ρ.om.lc p) s (n.toNat*bW R τ), ?_,by unfold Rl;exact⟨s,k1,hc'.1,rfl⟩⟩
     unfold kZ
     rw[hu]
     simp only[hs,Option.bind_some,idx,kg]
     rw[if_pos ⟨hc'.1,by rw[←hlen];exact hc'.2⟩]
     simp
    ·rw[hlen,h0] at hc';omega
   ·cases h
  ·cases h
 ·cases h
end
end Aq
end
section
namespace Aq
open Go
set_option linter.unusedSectionVars false
set_option linter.unusedVariables false
section
variable {R:fU} {E:Env}
variable {ρ:aL} {top:Nat→Nat} {b:Nat} {st:MS R.T} {fr:Fr} {σ:ah}
theorem Pk {n:Nat} {f:Nat} (a b:List V):aM (n+2) σ (.fn (.func f) a b)=(a.mapM (aM (n+1) σ)).bind fun a=>(b.mapM (aM (n+1) σ)).map fun b=>.fn (.func f) a b:=by
 by_cases hp:aF (.fn (.func f) a b)=true
 ·rw[ji hp]
  have:∀cs:List V,aR cs=true→cs.mapM (aM (n+1) σ)=some cs:=by
   intro cs
   induction cs with
   |nil=>intro _;rfl
   |cons a l ih=>
    intro h
    simp only[aR,Bool.and_eq_true] at h
    rw[List.mapM_cons,ji h.1,ih h.2];rfl
  simp only[aF,Bool.and_eq_true] at hp
  rw[this a hp.1,this b hp.2];rfl
 ·conv=>lhs;unfold aM
  simp only[hp,if_false,Bool.false_eq_true]
theorem Xm {n:Nat} {off:Nat} (cs:List V):aM (n+2) σ (.aI cs off)=(cs.mapM (aM (n+1) σ)).map (.aI · off):=by
 by_cases hp:aF (.aI cs off)=true
 ·rw[ji hp]
  have:∀cs:List V,aR cs=true→cs.mapM (aM (n+1) σ)=some cs:=by
   intro cs
   induction cs with
   |nil=>intro _;rfl
   |cons a l ih=>
    intro h
    simp only[aR,Bool.and_eq_true] at h
    rw[List.mapM_cons,ji h.1,ih h.2];rfl
  rw[this cs (by simpa [aF] using hp)];rfl
 ·conv=>lhs;unfold aM
  simp only[hp,if_false,Bool.false_eq_true]
variable (hR:lZ R)
include hR
theorem Pm {k e:Ty} (m:List (Den R.T k×Den R.T e)):aF (.cK (m.map fun p=>aG R k p.1) (m.map fun p=>aG R e p.2))=true:=by
 simp only[aF,Bool.and_eq_true]
 have h1:∀m:List (Den R.T k×Den R.T e),aR (m.map fun p=>aG R k p.1)=true∧aR (m.map fun p=>aG R e p.2)=true:=by
  intro m
  induction m with
  |nil=>exact⟨rfl,rfl⟩
  |cons p m ih=>exact⟨by simp[aR,mU hR,ih.1],by simp[aR,mU hR,ih.2]⟩
 exact h1 m
theorem Xn:∀(t:Ty) (x:Den R.T t) (v:V),lY t=true→Rl R ρ top (uR R .any t x) v→∀n σ,aM (n+2) σ v=some (aG R t x)
 |.int k,x,v,_,h,n,σ=>by rw[Rl.fq (R:=R) h];exact NK (n+1) _ _
 |.bool,x,v,_,h,n,σ=>by rw[Rl.oM (R:=R) h];exact NM (n+1) _
 |.str,x,v,_,h,n,σ=>by rw[Rl.kX (R:=R) h];exact NP (n+1) _
 |.slice t,x,v,_,h,n,σ=>by
  obtain⟨c,rfl,_⟩:=Rl.jO (R:=R) h
  exact uP _ _ (mU hR _)
 |.st n,_,_,h,_,_,_=>by simp[lY] at h
theorem zQ:∀(l:List Ty) (p:lC R.T l) (vs:List V),l.all lY=true→aB R ρ top (iU R .any l p) vs→∀n σ,vs.mapM (aM (n+2) σ)=some (encs R l p)
 | [],_,vs,_,h,n,σ=>by rw[aB.eH h];rfl
 | [t],x,vs,hl,h,n,σ=>by
   obtain⟨v,l,rfl,h1,h2⟩:=aB.dH h
   rw[aB.eH h2,List.mapM_cons,Xn hR t x v (by simpa using hl) h1];rfl
 |t::u::l,p,vs,hl,h,n,σ=>by
  rw[List.all_cons,Bool.and_eq_true] at hl
  obtain⟨v,ws,rfl,h1,h2⟩:=aB.dH h
  rw[List.mapM_cons,Xn hR t p.1 v hl.1 h1,zQ (u::l) p.2 ws hl.2 h2];rfl
theorem agS (t:Ty) (x:Den R.T t) (vs:List V) (h:aB R ρ top (eG R .any t x).cells vs) (n:Nat) (σ:ah):vs.mapM (aM (n+2) σ)=some (aG R t x).cells:=by
 cases t with
 |st k=>
  have he:aG R (.st k) x= .agg (encs R (R.lf k) (R.of k x)):=hR.enc k x
  rw[he]
  exact zQ hR _ _ vs (hR.leaf k) h n σ
 |int k=>exact zQ hR [.int k] x vs rfl h n σ
 |bool=>exact zQ hR [.bool] x vs rfl h n σ
 |str=>exact zQ hR [.str] x vs rfl h n σ
 |slice t=>exact zQ hR [.slice t] x vs rfl h n σ
theorem Xo {t:Ty} {ρ:aL} {top:Nat→Nat}:∀(l:List (Den R.T t)) (cs:List V),aB R ρ top (l.flatMap fun x=>(eG R .any t x).cells) cs→∀(n:Nat) (σ:ah),cs.mapM (aM (n+2) σ)=some ((l.map (aG R t)).flatMap V.cells)
 | [],cs,h,n,σ=>by rw[aB.eH h];rfl
 |x::l,cs,h,n,σ=>by
  rw[List.flatMap_cons] at h
  obtain⟨a,b,rfl,h1,h2⟩:=h.split
  rw[List.mapM_append,Xo l b h2 n σ,List.map_cons,List.flatMap_cons]
  have:a.mapM (aM (n+2) σ)=some (aG R t x).cells:=agS hR t x a h1 n σ
  rw[this];rfl
theorem agT {t:Ty} (l:List (Den R.T t)):chunks (fZ t) (bW R t) l.length ((l.map (aG R t)).flatMap V.cells)=l.map (aG R t):=by
 have:=Pd (fZ t) (bW R t) (l.map (aG R t)) (fun v hv=>by
  obtain⟨x,_,rfl⟩:=List.mem_map.1 hv
  exact(zN hR t x).1)
 rw[List.length_map] at this
 rw[this,List.map_map]
 refine List.map_congr_left fun x _=> ?_
 show (if fZ t then V.agg (aG R t x).cells else (aG R t x).cells.headD aC)=aG R t x
 cases hs:fZ t
 ·cases t<;>first|rfl| (simp[fZ] at hs;done)
 ·obtain⟨c,hc⟩:=(zN hR t x).2.2.2.1 hs
  rw[hc];rfl
theorem agU {t:Ty} (l:List (Den R.T t)):(fZ t||bW R t==1&& bf ((l.map (aG R t)).flatMap V.cells))=true:=by
 cases hs:fZ t
 ·have h1:bW R t=1:=by cases t<;>first|rfl| (simp[fZ] at hs;done)
  rw[h1]
  have:bf ((l.map (aG R t)).flatMap V.cells)=true:=by
   have:=Pe hR l
   unfold bf at this⊢
   rw[List.all_flatMap]
   exact this
  rw[this];rfl
 ·rfl
omit hR in
theorem Xp:∀(a b:List V),aR (a++b)=(aR a&& aR b)
 | [],b=>by simp[aR]
 |x::a,b=>by simp only[List.cons_append,aR];rw[Xp a b,Bool.and_assoc]
omit hR in
theorem IZ (k:IntKind):∀l:List Int,aR (l.map (V.int k))=true
 | []=>by simp[aR]
 |x::l=>by simp only[List.map_cons,aR,NR,Bool.true_and];exact IZ k l
omit hR in
theorem Pn:∀ss:List Sg,aR (bH ss)=true
 | []=>by simp[bH,aR]
 |.i k x::ss=>by show aR (V.int k x::bH ss)=true;unfold aR;rw[Pn ss];simp[aF]
 |.a k n v::ss=>by
  show aR (v.l.map (V.int k)++bH ss)=true
  rw[Xp,IZ,Pn ss];rfl
omit hR in
theorem Po (ss:List Sg):aF (.agg (bH ss))=true:=by unfold aF;exact Pn ss
omit hR in
theorem Xq:∀(a b:List V),iD (a++b)=(iD a&& iD b)
 | [],b=>by simp[iD]
 |x::a,b=>by simp only[List.cons_append,iD];rw[Xq a b,Bool.and_assoc]
omit hR in
theorem Xr (k:IntKind):∀l:List Int,iD (l.map (V.int k))=true
 | []=>by simp[iD]
 |x::l=>by simp only[List.map_cons,iD,flat,Bool.true_and];exact Xr k l
omit hR in
theorem I4:∀ss:List Sg,iD (bH ss)=true
 | []=>by simp[bH,iD]
 |.i k x::ss=>by show iD (V.int k x::bH ss)=true;unfold iD;rw[I4 ss];simp[flat]
 |.a k n v::ss=>by
  show iD (v.l.map (V.int k)++bH ss)=true
  rw[Xq,Xr,I4 ss];rfl
omit hR in
theorem agV (ss:List Sg):er (.agg (bH ss))= .agg (bH ss):=by
 have:∀ss:List Sg,(bH ss).map eO=bH ss:=by
  intro ss
  induction ss with
  |nil=>rfl
  |cons s ss ih=>
   cases s with
   |i k x=>show eO (.int k x)::(bH ss).map eO=_;rw[ih];rfl
   |a k n v=>
    show (v.l.map (V.int k)++bH ss).map eO=_
    rw[List.map_append,ih,List.map_map];rfl
 show V.agg ((bH ss).map eO)=_
 rw[this]
omit hR in
theorem nS:∀(a b:List Sg),bH (a++b)=bH a++bH b
 | [],b=>rfl
 |s::a,b=>by show s.vs++bH (a++b)=s.vs++bH a++bH b;rw[nS a b,List.append_assoc]
omit hR in
theorem Sg.len:∀s:Sg,s.vs.length=s.w
 |.i _ _=>rfl
 |.a _ n v=>by show (v.l.map _).length=n;rw[List.length_map,v.h]
omit hR in
theorem fD:∀ss:List Sg,(bH ss).length=iw ss
 | []=>rfl
 |s::ss=>by show (s.vs++bH ss).length=s.w+iw ss;rw[List.length_append,s.len,fD ss]
omit hR in
theorem qK:∀{ss:List Sg} {n:Nat} {a b:List Sg},mM ss n=some (a,b)→ss=a++b∧iw a=n
 |ss,0,a,b,h=>by
  have h':some (([]:List Sg),ss)=some (a,b):=by cases ss<;>exact h
  cases h';exact⟨rfl,rfl⟩
 | [],n+1,a,b,h=>by cases h
 |s::ss,n+1,a,b,h=>by
  unfold mM at h
  obtain⟨h1,h⟩:=dA h
  split at h
  ·rename_i a' b' h2
   cases h
   obtain⟨e,hw⟩:=qK h2
   have:=Nat.le_of_ble_eq_true h1
   refine⟨by rw[e];rfl, ?_⟩
   show s.w+iw a'=n+1
   omega
  ·cases h
omit hR in
theorem Pp {ρ:aL} {top:Nat→Nat} {k:IntKind}:∀{cs:List (TV R.T)} {xs:List Int} {vs:List V},wK k cs=some xs→aB R ρ top cs vs→vs=xs.map (V.int k)
 | [],xs,vs,h,hr=>by cases h;exact hr.eH
 |c::cs,xs,vs,h,hr=>by
  obtain⟨v,ws,rfl,h1,h2⟩:=hr.dH
  cases c<;>first| (exact absurd (show none=some xs from h) (by simp))|skip
  rename_i k' x
  have h':(if k'=k then (match wK k cs with
   |some xs=>some (x::xs)
   |none=>none) else none)=some xs:=h
  split at h'
  ·rename_i e;subst e
   split at h'
   ·rename_i ys hy
    cases h'
    rw[h1.fq,Pp hy h2];rfl
   ·cases h'
  ·cases h'
omit hR in
theorem Xt (k:IntKind):∀(l:List Int) (rest:List V),chunks false 1 l.length (l.map (V.int k)++rest)=l.map (V.int k)
 | [],rest=>rfl
 |x::l,rest=>by
  show V.int k x::chunks false 1 l.length (l.map (V.int k)++rest)=_
  rw[Xt k l rest];rfl
omit hR in
theorem w9 {n:Nat} {lo hi:Option Int} (h:lX n lo hi=true):(dx lo).toNat≤(eY n hi).toNat∧(eY n hi).toNat≤n∧((dx lo).toNat< (eY n hi).toNat∨(dx lo).toNat=0)∧0≤dx lo∧dx lo≤eY n hi:=by
 cases lo<;>cases hi<;>simp only[lX,dx,eY,decide_eq_true_eq] at h⊢ <;>omega
omit hR in
theorem agW {α:Type} {n:Nat} {lo hi:Option Int} (h:lX n lo hi=true) {l:List α} (hl:l.length=n):yT l lo hi=(l.drop (dx lo).toNat).take ((eY n hi).toNat-(dx lo).toNat):=by
 obtain⟨h1,h2,_⟩:=w9 h
 cases lo<;>cases hi<;>simp only[yT,dx,eY] at*
 ·simp[hl];rw[List.take_of_length_le (by omega)]
 ·simp
 ·rw[List.take_of_length_le];rw[List.length_drop];omega
 ·rw[List.take_drop];congr 1;congr 1;omega
theorem Xu (hi:aH ρ b st fr σ) {o off n:Nat} {k:IntKind} {lo hi':Option Int} {l:List Int} (h:HY st o off k n lo hi'=some l) {s:Nat} (hs:ρ.ob o=some s) (hB:lX n lo hi'=true):
 ∃cs,σ.bO (ρ.om.lc o) s=some cs∧off+n≤cs.length∧(cs.drop (off+(dx lo).toNat)).take ((eY n hi').toNat-(dx lo).toNat)=l.map (V.int k)∧l.length=(eY n hi').toNat-(dx lo).toNat:=by
 obtain⟨p1,p2,p3,_,_⟩:=w9 hB
 have fin:∀(cs:List V) (xs:List Int),xs.length=n→(cs.drop off).take n=xs.map (V.int k)→off+n≤cs.length→l=yT xs lo hi'→(cs.drop (off+(dx lo).toNat)).take ((eY n hi').toNat-(dx lo).toNat)=l.map (V.int k)∧l.length=(eY n hi').toNat-(dx lo).toNat:=by
  intro cs xs hx hc hle hl
  rw[agW hB hx] at hl
  subst hl
  constructor
  ·rw[List.map_take,List.map_drop,←hc,List.drop_take,List.take_take,List.drop_drop]
   congr 1
   omega
  ·rw[List.length_take,List.length_drop];omega
 unfold HY at h
 split at h
 ·rename_i ss hl
  obtain⟨s',h1,h2⟩:=hi.rd hl
  rw[hs] at h1;cases h1
  split at h
  ·rename_i pre k' n' v post hsp
   by_cases e:k'=k
   ·subst e
    rw[if_pos rfl] at h
    cases e2:Nat.beq n' n
    ·rw[e2] at h;cases h
    rw[e2] at h
    have e2:=dI e2
    subst e2
    obtain rfl:yT v.l lo hi'=l:=Option.some.inj h
    obtain⟨e3,hw⟩:=qK hsp
    refine⟨_,h2, ?_, ?_⟩
    ·rw[e3,fD]
     have:∀a b:List Sg,iw (a++b)=iw a+iw b:=fun a b=>by rw[←fD,nS,List.length_append,fD,fD]
     rw[this,hw]
     show off+n'≤off+(n'+iw post);omega
    ·refine fin _ v.l v.h ?_ ?_ rfl
     ·rw[e3,nS,List.drop_append_of_le_length (by rw[fD,hw];exact Nat.le_refl _),List.drop_of_length_le (by rw[fD,hw];exact Nat.le_refl _),List.nil_append]
      show ((v.l.map (V.int k'))++bH post).take n'=_
      rw[List.take_append_of_le_length (by rw[List.length_map,v.h];exact Nat.le_refl _),List.take_of_length_le (by rw[List.length_map,v.h];exact Nat.le_refl _)]
     ·rw[e3,nS,List.length_append,fD,hw,fD]
      show off+n'≤off+(n'+iw post);omega
   ·rw[if_neg e] at h;cases h
  ·cases h
 ·rename_i cs hl
  obtain⟨s',vs,h1,h2,h3⟩:=hi.rd hl
  rw[hs] at h1;cases h1
  obtain⟨hb,h⟩:=dA h
  have hb:=Nat.le_of_ble_eq_true hb
  split at h
  ·rename_i xs hx
   cases h
   have hv:=Pp hx ((h3.drop off).take n)
   have hlen:off+n≤vs.length:=by rw[h3.length];exact hb
   refine⟨vs,h2,hlen,fin vs xs ?_ hv hlen rfl⟩
   have:=congrArg List.length hv
   rw[List.length_map,List.length_take,List.length_drop] at this
   omega
  ·cases h
 ·cases h
theorem Xv (hi:aH ρ b st fr σ) {x:TV R.T} {v:V} (h:Rl R ρ σ.top x v):∃v',Rl R ρ σ.top (qZ st x) v'∧∀n,aM (n+3) σ v=aM (n+3) σ v':=by
 by_cases hx:∃o off,x= .ref o off
 ·obtain⟨o,off,rfl⟩:=hx
  unfold qZ
  dsimp only
  split
  ·rename_i cs hl
   obtain⟨s,h1,rfl⟩:=h.mR
   obtain⟨s',l,h2,h3,h4⟩:=hi.rd hl
   rw[h1] at h2;cases h2
   refine⟨.aI l off,by unfold Rl;exact⟨l,rfl,h4⟩,fun n=> ?_⟩
   rw[Xm]
   conv=>lhs;unfold aM
   simp only[aF,Bool.false_eq_true,if_false,h3,Option.bind_some]
  ·exact⟨v,h,fun _=>rfl⟩
 ·by_cases hy:∃o,x= .bN o
  ·obtain⟨o,rfl⟩:=hy
   unfold qZ
   dsimp only
   split
   ·rename_i k e m hl
    obtain⟨s,h1,rfl⟩:=h.sQ
    obtain⟨s',h2,h3⟩:=hi.rd hl
    rw[h1] at h2;cases h2
    refine⟨.cK (m.map fun p=>aG R k p.1) (m.map fun p=>aG R e p.2),by unfold Rl;rfl,fun n=> ?_⟩
    have hp:=Pm hR m
    rw[ji hp]
    have hp':=hp
    simp only[aF,Bool.and_eq_true] at hp'
    have key:∀cs:List V,aR cs=true→cs.mapM (aM (n+2) σ)=some cs:=by
     intro cs
     induction cs with
     |nil=>intro _;rfl
     |cons a l ih=>
      intro h
      simp only[aR,Bool.and_eq_true] at h
      rw[List.mapM_cons,ji h.1,ih h.2];rfl
    conv=>lhs;unfold aM
    simp only[aF,Bool.false_eq_true,if_false,h3,Option.bind_some,key _ hp'.1,key _ hp'.2,Option.map_some]
   ·exact⟨v,h,fun _=>rfl⟩
  ·by_cases hz:∃o t,x= .vw o t
   ·obtain⟨o,t,rfl⟩:=hz
    unfold qZ
    dsimp only
    split
    ·rename_i t' l hl
     split
     ·rename_i e
      subst e
      have hO:=hi.rd hl
      refine⟨.aj .sh (l.map (aG R t')),by unfold Rl;exact⟨.sh,rfl,rfl⟩,fun n=> ?_⟩
      rw[uP _ _ (mU hR t')]
      rcases h.zD with ⟨s,h1,rfl⟩| ⟨h1,h2⟩
      ·rcases hO.2 with h2| ⟨s',cs,h2,h3,h4⟩
       ·rw[h1] at h2;exact absurd h2.2 (by simp)
       ·rw[h1] at h2;cases h2
        have hlc:cs.length=l.length*bW R t':=by rw[h4.length,IY]
        have hlen:l.length=ρ.ln o:=hO.1
        conv=>lhs;unfold aM
        simp only[aF,Bool.false_eq_true,if_false,h3,Option.bind_some,Nat.zero_add,List.drop_zero]
        rw[if_pos (by rw[hlc,hlen];exact Nat.le_refl _),List.take_of_length_le (by rw[hlc,hlen];exact Nat.le_refl _),Xo hR l cs h4 n σ]
        simp only[Option.bind_some]
        rw[←hlen,agT hR l,agU hR l,if_pos rfl]
        rfl
      ·have hl0:l=[]:=List.eq_nil_of_length_eq_zero (hO.1.trans h1)
       subst hl0
       rcases h2 with rfl|rfl<;>exact uP _ ([]:List (Den R.T t')) (mU hR t')
     ·exact⟨v,h,fun _=>rfl⟩
    ·exact⟨v,h,fun _=>rfl⟩
   ·by_cases hz2:∃o off k n lo hi,x= .sv o off k n lo hi
    ·obtain⟨o,off,k,n,lo,hi',rfl⟩:=hz2
     unfold qZ
     dsimp only
     split
     ·rename_i l hl
      obtain⟨s,h1,hB,rfl⟩:=h.vo
      obtain⟨cs,c1,c2,c3,c4⟩:=Xu hR hi hl h1 hB
      obtain⟨p1,p2,p3,_,_⟩:=w9 hB
      refine⟨.aj .sh (l.map (V.int k)),by unfold Rl;exact⟨.sh,rfl,rfl⟩,fun m=> ?_⟩
      have hcl:aM (m+3) σ (.aj .sh (l.map (V.int k)))=some (.aj .sh (l.map (V.int k))):=ji (by unfold aF;exact IZ k l)
      rw[hcl]
      conv=>lhs;unfold aM
      simp only[aF,Bool.false_eq_true,if_false,c1,Option.bind_some,Nat.mul_one]
      rw[if_pos (by omega),c3]
      have key:∀cs:List V,aR cs=true→cs.mapM (aM (m+2) σ)=some cs:=by
       intro cs
       induction cs with
       |nil=>intro _;rfl
       |cons a l ih=>
        intro h
        simp only[aR,Bool.and_eq_true] at h
        rw[List.mapM_cons,ji h.1,ih h.2];rfl
      rw[key _ (IZ k l)]
      simp only[Option.bind_some]
      have hone:bf (l.map (V.int k))=true:=by unfold bf;rw[List.all_map];simp[oneCell]
      rw[hone,←c4]
      have:=Xt k l []
      rw[List.append_nil] at this
      rw[this];rfl
     ·exact⟨v,h,fun _=>rfl⟩
    ·have:qZ st x=x:=by cases x<;>first|rfl|exact absurd ⟨_,_,rfl⟩ hx|exact absurd ⟨_,rfl⟩ hy|exact absurd ⟨_,_,rfl⟩ hz|exact absurd ⟨_,_,_,_,_,_,rfl⟩ hz2
     rw[this];exact⟨v,h,fun _=>rfl⟩
theorem I5 (hi:aH ρ b st fr σ):∀{x:List (TV R.T)} {v:List V},aB R ρ σ.top x v→∃v',aB R ρ σ.top (Ct st x) v'∧∀n,v.mapM (aM (n+3) σ)=v'.mapM (aM (n+3) σ)
 | [],v,h=>by rw[h.eH];exact⟨[],rfl,fun _=>rfl⟩
 |x::xs,v,h=>by
  obtain⟨w,ws,rfl,h1,h2⟩:=h.dH
  obtain⟨w',a1,a2⟩:=Xv hR hi h1
  obtain⟨ws',b1,b2⟩:=I5 hi h2
  exact⟨w'::ws',.cons' a1 b1,fun n=>by rw[List.mapM_cons,List.mapM_cons,a2,b2]⟩
theorem agX (hi:aH ρ b st fr σ) {x:TV R.T} {v:V} (h:Rl R ρ σ.top x v):∃v',Rl R ρ σ.top (wL st x) v'∧∀n,aM (n+4) σ v=aM (n+4) σ v':=by
 by_cases hx:∃f a b,x= .fn f a b
 ·obtain⟨f,a,b,rfl⟩:=hx
  obtain⟨a',b',rfl,ha,hb⟩:=h.l5
  obtain⟨va,a1,a2⟩:=I5 hR hi ha
  obtain⟨vb,b1,b2⟩:=I5 hR hi hb
  refine⟨.fn (.func f) va vb,⟨va,vb,rfl,a1,b1⟩,fun n=> ?_⟩
  rw[Pk,Pk,a2,b2]
 ·by_cases hy:∃cs,x= .agg cs
  ·obtain⟨cs,rfl⟩:=hy
   obtain⟨l,rfl,hl⟩:=h.jA
   obtain⟨v',a1,a2⟩:=I5 hR hi hl
   refine⟨.agg v',by unfold wL;unfold Rl;exact⟨v',rfl,a1⟩,fun n=> ?_⟩
   rw[OJ,OJ,a2]
  ·have:wL st x=qZ st x:=by cases x<;>first|rfl|exact absurd ⟨_,_,_,rfl⟩ hx|exact absurd ⟨_,rfl⟩ hy
   rw[this]
   obtain⟨v',h1,h2⟩:=Xv hR hi h
   exact⟨v',h1,fun n=>h2 (n+1)⟩
theorem C9 (hi:aH ρ b st fr σ):∀{x:List (TV R.T)} {v:List V},aB R ρ σ.top x v→∃v',aB R ρ σ.top (lW st x) v'∧∀n,v.mapM (aM (n+4) σ)=v'.mapM (aM (n+4) σ)
 | [],v,h=>by rw[h.eH];exact⟨[],rfl,fun _=>rfl⟩
 |x::xs,v,h=>by
  obtain⟨w,ws,rfl,h1,h2⟩:=h.dH
  obtain⟨w',a1,a2⟩:=agX hR hi h1
  obtain⟨ws',b1,b2⟩:=C9 hi h2
  exact⟨w'::ws',.cons' a1 b1,fun n=>by rw[List.mapM_cons,List.mapM_cons,a2,b2]⟩
mutual
theorem Xw:∀(k:Sk) (x:oG R.T k) (tv:TV R.T) (v:V),jX k=true→pk R k tv=some x→Rl R ρ top tv v→∀n σ,dep k≤n→aM n σ v=some (encS R k x)
 |.d t,x,tv,v,_,h,hr,n,σ,hn=>by
  obtain⟨m,rfl⟩:∃m,n=m+3:=⟨n-3,by have:3≤n:=hn;omega⟩
  exact(OL hR (show mJ R t tv=some x from h) hr).2.2.1 m σ
 |.l c t,x,tv,v,_,h,hr,n,σ,hn=>by
  obtain⟨m,rfl⟩:∃m,n=m+3:=⟨n-3,by have:3≤n:=hn;omega⟩
  obtain⟨c',rfl,_⟩:=(WE (show H6 R c t tv=some x from h) hr).jO
  exact uP _ _ (mU hR _)
 |.agg l,x,tv,v,hc,h,hr,n,σ,hn=>by
  cases tv<;>first| (exact absurd (show none=some x from h) (by simp))|skip
  rename_i cs
  obtain⟨vs,rfl,hl⟩:=hr.jA
  unfold dep at hn
  obtain⟨m,rfl⟩:∃m,n=m+2:=⟨n-2,by omega⟩
  rw[VJ,p8 l x cs vs (by unfold jX at hc;exact hc) h hl (m+1) σ (by omega)];rfl
 |.aI l off,x,tv,v,hc,h,hr,n,σ,hn=>by
  cases tv<;>first| (exact absurd (show none=some x from h) (by simp))|skip
  rename_i cs off'
  have h':(bif Nat.beq off' off then eX R l cs else none)=some x:=h
  obtain⟨hb,h'⟩:=dA h'
  rw[dI hb] at hr
  obtain⟨vs,rfl,hl⟩:=hr.rE
  unfold dep at hn
  obtain⟨m,rfl⟩:∃m,n=m+2:=⟨n-2,by omega⟩
  rw[Xm,p8 l x cs vs (by unfold jX at hc;exact hc) h' hl (m+1) σ (by omega)];rfl
 |.cK k e,x,tv,v,_,h,hr,n,σ,hn=>by
  cases tv<;>first| (exact absurd (show none=some x from h) (by simp))|skip
  rename_i k' e' m
  obtain⟨e1,e2,e3⟩:=OT (show yX R m=some x from h)
  subst e1;subst e2;cases e3
  obtain⟨m',rfl⟩:∃m,n=m+3:=⟨n-3,by have:3≤n:=hn;omega⟩
  rw[hr.zC]
  exact ji (Pm hR m)
 |.fn f a b,x,tv,v,hc,h,hr,n,σ,hn=>by
  cases tv<;>first| (exact absurd (show none=some x from h) (by simp))|skip
  rename_i f' a' b'
  have h':(bif Nat.beq f' f then (match eX R a a' with
   |some x=>match eX R b b' with
    |some y=>some (x,y)
    |none=>none
   |none=>none) else none)=some x:=h
  obtain⟨hb,h'⟩:=dA h'
  rw[dI hb] at hr
  obtain⟨va,vb,rfl,ha,hbb⟩:=hr.l5
  unfold jX at hc
  rw[Bool.and_eq_true] at hc
  unfold dep at hn
  obtain⟨m,rfl⟩:∃m,n=m+2:=⟨n-2,by omega⟩
  cases h1:eX R a a' with
  |none=>simp only[h1] at h';cases h'
  |some y=>
   cases h2:eX R b b' with
   |none=>simp only[h1,h2] at h';cases h'
   |some z=>
    simp only[h1,h2] at h';cases h'
    rw[Pk,p8 a y a' va hc.1 h1 ha (m+1) σ (by omega),p8 b z b' vb hc.2 h2 hbb (m+1) σ (by omega)];rfl
 |.ref _ _,_,_,_,h,_,_,_,_,_=>by simp[jX] at h
 |.bN _,_,_,_,h,_,_,_,_,_=>by simp[jX] at h
 |.dW,_,_,_,h,_,_,_,_,_=>by simp[jX] at h
 |.vw _ _,_,_,_,h,_,_,_,_,_=>by simp[jX] at h
 |.sg l,x,tv,v,_,h,hr,n,σ,hn=>by
  cases tv<;>first| (exact absurd (show none=some x from h) (by simp))|skip
  rename_i ss
  obtain⟨m,rfl⟩:∃m,n=m+1:=⟨n-1,by have:3≤n:=hn;omega⟩
  rw[hr.CQ]
  show _=some (V.agg (bH (qF l x)))
  rw[II (show sJ l ss=some x from h)]
  exact ji (Po ss)
 |.undef,_,_,_,h,_,_,_,_,_=>by simp[jX] at h
theorem p8:∀(l:List Sk) (x:aA R.T l) (cs:List (TV R.T)) (vs:List V),gJ l=true→eX R l cs=some x→aB R ρ top cs vs→∀n σ,mO l≤n→vs.mapM (aM n σ)=some (bD R l x)
 | [],x,cs,vs,_,h,hr,n,σ,hn=>by
   cases cs with
   |nil=>rw[hr.eH];rfl
   |cons c cs=>exact absurd (show none=some x from h) (by simp)
 | [k],x,cs,vs,hc,h,hr,n,σ,hn=>by
   unfold gJ at hc
   rw[Bool.and_eq_true] at hc
   unfold mO at hn
   cases cs with
   |nil=>exact absurd (show none=some x from h) (by simp)
   |cons c cs=>
    cases cs with
    |nil=>
     obtain⟨v,l,rfl,h1,h2⟩:=hr.dH
     rw[h2.eH,List.mapM_cons,Xw k x c v hc.1 h h1 n σ (by omega)];rfl
    |cons c' cs=>exact absurd (show none=some x from h) (by simp)
 |k::k'::l,x,cs,vs,hc,h,hr,n,σ,hn=>by
  unfold gJ at hc
  rw[Bool.and_eq_true] at hc
  unfold mO at hn
  cases cs with
  |nil=>exact absurd (show none=some x from h) (by simp)
  |cons c cs=>
   have h':(match pk R k c with
    |some x=>match eX R (k'::l) cs with
     |some p=>some (x,p)
     |none=>none
    |none=>none)=some x:=h
   obtain⟨v,vs,rfl,h1,h2⟩:=hr.dH
   cases hu:pk R k c with
   |none=>simp only[hu] at h';cases h'
   |some y=>
    cases hs:eX R (k'::l) cs with
    |none=>simp only[hu,hs] at h';cases h'
    |some q=>
     simp only[hu,hs] at h'
     obtain rfl:=Option.some.inj h'
     rw[List.mapM_cons,Xw k y c v hc.1 hu h1 n σ (by omega),p8 (k'::l) q cs vs hc.2 hs h2 n σ (by omega)];rfl
end
mutual
theorem I6:∀(tv:TV R.T) (v:V),jw tv=true→Rl R ρ top tv v→aF v=true
 |.int _ _,v,_,h=>by rw[h.fq];exact NR _ _
 |.bool _,v,_,h=>by rw[h.oM];exact NS _
 |.fH _,v,_,h=>by rw[h.qI];exact NS _
 |.str _,v,_,h=>by rw[h.kX];exact VD _
 |.eu,v,_,h=>by unfold Rl at h;subst h;simp[aF]
 |.dU,v,_,h=>by unfold Rl at h;subst h;simp[aF]
 |.dP,v,_,h=>by unfold Rl at h;subst h;simp[aF]
 |.fB,v,_,h=>by unfold Rl at h;subst h;simp[aF]
 |.aj c t l,v,hs,h=>by
  cases c<;>simp only[jw,Bool.false_eq_true] at hs
  obtain⟨c',rfl,hc⟩:=h.jO
  obtain rfl:c'= .sh:=hc
  exact Cn (mU hR t) l
 |.agg cs,v,hs,h=>by
  obtain⟨l,rfl,hl⟩:=h.jA
  unfold aF;exact vD cs l (by unfold jw at hs;exact hs) hl
 |.bA cs,v,hs,h=>by
  obtain⟨l,rfl,hl⟩:=h.Iz
  unfold aF;exact vD cs l (by unfold jw at hs;exact hs) hl
 |.cK k e m,v,_,h=>by rw[h.zC];exact Pm hR m
 |.fn f a b,v,hs,h=>by
  obtain⟨a',b',rfl,ha,hb⟩:=h.l5
  unfold jw at hs
  rw[Bool.and_eq_true] at hs
  unfold aF;rw[vD a a' hs.1 ha,vD b b' hs.2 hb];rfl
 |.dW,_,hs,_=>by simp[jw] at hs
 |.ref _ _,_,hs,_=>by simp[jw] at hs
 |.aI cs off,v,hs,h=>by
  obtain⟨l,rfl,hl⟩:=h.rE
  unfold aF;exact vD cs l (by unfold jw at hs;exact hs) hl
 |.vw _ _,_,hs,_=>by simp[jw] at hs
 |.jk _ _ _ _,_,hs,_=>by simp[jw] at hs
 |.sg ss,v,_,h=>by rw[h.CQ];exact Po ss
 |.sv _ _ _ _ _ _,_,hs,_=>by simp[jw] at hs
 |.sel _ _ _ _ _ _,_,hs,_=>by simp[jw] at hs
 |.oz _ _ _ _,_,hs,_=>by simp[jw] at hs
 |.bN _,_,hs,_=>by simp[jw] at hs
 |.opt _ _ _,_,hs,_=>by simp[jw] at hs
 |.undef,_,hs,_=>by simp[jw] at hs
 |.gone,_,hs,_=>by simp[jw] at hs
theorem vD:∀(l:List (TV R.T)) (vs:List V),nL l=true→aB R ρ top l vs→aR vs=true
 | [],vs,_,h=>by rw[h.eH];rfl
 |x::l,vs,hs,h=>by
  obtain⟨v,ws,rfl,h1,h2⟩:=h.dH
  unfold nL at hs
  rw[Bool.and_eq_true] at hs
  unfold aR;rw[I6 x v hs.1 h1,vD l ws hs.2 h2];rfl
end
theorem Xx {x:TV R.T} {v:V} (hs:Cu x=true) (h:Rl R ρ top x v):aF (eO v)=true:=by
 have key:jw x=true→aF (eO v)=true:=fun hs=>by
  have:=I6 hR x v hs h
  cases v with
  |aj c l=>cases c<;>simp[aF] at this<;>simpa [eO,aF] using this
  |_=>exact this
 cases x<;>first|exact key hs|skip
 ·rw[h.nQ];simp[eO,aF,aR]
 ·obtain⟨c',rfl,hc⟩:=h.jO
  exact Cn (mU hR _) _
theorem Xy:∀{x:List (TV R.T)} {v:List V},HZ x=true→aB R ρ top x v→aR (v.map eO)=true
 | [],vs,_,h=>by rw[h.eH];rfl
 |x::l,vs,hs,h=>by
  obtain⟨v,ws,rfl,h1,h2⟩:=h.dH
  unfold HZ at hs
  rw[Bool.and_eq_true] at hs
  rw[List.map_cons];unfold aR;rw[Xx hR hs.1 h1,Xy hs.2 h2];rfl
theorem agY {x:TV R.T} {v:V} (hs:VQ x=true) (h:Rl R ρ top x v):aF (er v)=true:=by
 by_cases hx:∃cs,x= .agg cs
 ·obtain⟨cs,rfl⟩:=hx
  obtain⟨l,rfl,hl⟩:=h.jA
  show aF (.agg (l.map eO))=true
  unfold aF;exact Xy hR hs hl
 ·by_cases hy:∃ss,x= .sg ss
  ·obtain⟨ss,rfl⟩:=hy
   rw[h.CQ,agV];exact Po ss
  have hs':Cu x=true:=by cases x<;>first|exact hs|exact absurd ⟨_,rfl⟩ hx
  have h1:=Xx hR hs' h
  have hne:∀cs,v≠ .agg cs:=by
   rintro cs rfl
   cases x<;>first|exact hy ⟨_,rfl⟩| (unfold Rl at h;simp at h;done)|exact hx ⟨_,rfl⟩| (simp[Cu,jw] at hs';done)
  rw[afZ hne];exact h1
theorem Da:∀{x:List (TV R.T)} {v:List V},uV x=true→aB R ρ top x v→v.all (fun a=>aF (er a))=true
 | [],vs,_,h=>by rw[h.eH];rfl
 |x::l,vs,hs,h=>by
  obtain⟨v,ws,rfl,h1,h2⟩:=h.dH
  unfold uV at hs
  rw[Bool.and_eq_true] at hs
  rw[List.all_cons,agY hR hs.1 h1,Da hs.2 h2];rfl
theorem Pq:∀(l:List Sk) (x:aA R.T l),yU l=true→iD (bD R l x)=true
 | [],x,_=>rfl
 | [k],x,h=>by
   cases k<;>simp only[yU,Bool.and_true,Bool.false_eq_true] at h
   ·rename_i t
    show (flat (aG R t x)&& iD [])=true
    cases t<;>simp only[Oa,Bool.false_eq_true] at h<;>rfl
   ·rename_i ks
    show (flat (.agg (bH (qF ks x)))&& iD [])=true
    unfold flat;rw[I4];rfl
 |k::k'::l,x,h=>by
  cases k<;>simp only[yU,Bool.false_eq_true] at h
  ·rename_i t
   rw[Bool.and_eq_true] at h
   show (flat (aG R t x.1)&& iD (bD R (k'::l) x.2))=true
   rw[Pq (k'::l) x.2 h.2]
   have:=h.1
   cases t<;>simp only[Oa,Bool.false_eq_true] at this<;>rfl
  ·rename_i ks
   show (flat (.agg (bH (qF ks x.1)))&& iD (bD R (k'::l) x.2))=true
   rw[Pq (k'::l) x.2 h]
   unfold flat;rw[I4];rfl
omit hR in
theorem agZ {vs:List V} (h:iD vs=true):flat (kU vs)=true:=by
 match vs with
 | []=>simp[kU,flat,iD]
 | [v]=>simp only[iD,Bool.and_true] at h;exact h
 |v::w::vs=>show flat (.bA _)=true;unfold flat;exact h
mutual
theorem Xz:∀(k:Sk) (x:oG R.T k),jX k=true→Rl R ρ top (up R .sh k x) (encS R k x)
 |.d t,x,_=>Wi hR t x
 |.l c t,x,h=>by
  refine⟨.sh,rfl, ?_⟩
  cases c<;>first|trivial|rfl| (simp[jX] at h;done)
 |.agg l,x,h=>⟨_,rfl,tC l x (by unfold jX at h;exact h)⟩
 |.aI l off,x,h=>⟨_,rfl,tC l x (by unfold jX at h;exact h)⟩
 |.cK k e,x,_=>rfl
 |.fn f a b,x,h=>by
  unfold jX at h
  rw[Bool.and_eq_true] at h
  exact⟨_,_,rfl,tC a x.1 h.1,tC b x.2 h.2⟩
 |.ref _ _,_,h=>by simp[jX] at h
 |.bN _,_,h=>by simp[jX] at h
 |.dW,_,h=>by simp[jX] at h
 |.vw _ _,_,h=>by simp[jX] at h
 |.sg l,x,_=>rfl
 |.undef,_,h=>by simp[jX] at h
theorem tC:∀(l:List Sk) (x:aA R.T l),gJ l=true→aB R ρ top (iy R .sh l x) (bD R l x)
 | [],_,_=>rfl
 | [k],x,h=>by
   unfold gJ at h
   rw[Bool.and_eq_true] at h
   exact .cons' (Xz k x h.1) rfl
 |k::k'::l,x,h=>by
  unfold gJ at h
  rw[Bool.and_eq_true] at h
  exact .cons' (Xz k x.1 h.1) (tC (k'::l) x.2 h.2)
end
omit hR in
theorem ag0 {x:List (TV R.T)} {v:List V} (h:aB R ρ top x v):Rl R ρ top (VX R x) (kU v):=by
 match x,h with
 | [],h=>rw[h.eH];exact⟨[],rfl,rfl⟩
 | [a],h=>
   obtain⟨v,vs,rfl,h1,h2⟩:=h.dH
   rw[h2.eH];exact h1
 |a::b::l,h=>
  obtain⟨v,vs,rfl,h1,h2⟩:=h.dH
  obtain⟨w,ws,rfl,h3,h4⟩:=h2.dH
  exact⟨_,rfl,.cons' h1 (.cons' h3 h4)⟩
def XA:List V→List V
 |_::l=>.aj .nil []::l
 | []=>[]
def aW (E:Env) (F:Nat→List (FR R)):Prop:=∀f,∀r∈F f,∀p x,r.F p=some x→(gJ r.args=true→Pure E f (bD R r.args p) (kU (bD R r.res x)))∧
 (r.own=true→∀(τ:Ty) (h:r.res=[.d (.slice τ)]) (l:List (Den R.T τ)),(h▸x:aA R.T [.d (.slice τ)])=l→
   (gJ r.args=true→E.sj f=false∧lU E f (bD R r.args p) (bW R τ) (l.map (aG R τ)))∧
   (gJ r.args=false→E.sj f=true∧lU E f (XA (bD R r.args p)) (bW R τ) (l.map (aG R τ))))
theorem XB {F:Nat→List (FR R)} (hF:aW E F) {f:Nat} {c:Call} {fo:Operand} {o:Oper} {aD:Nat} {a' b':List V} (ho:o.op= .call c) (eU:c.callee= .value fo) (hf:fr.ev E fo= .fn (.func f) a' b') (hi:E.imp f=false) {args:List (TV R.T)}
 (ha:aB R ρ σ.top args (a'++c.args.toList.map (fr.ev E)++b')) (hi':aH ρ b st fr σ):∀{l:List (FR R)} {r:dG R},(∀x∈l,x∈F f)→findF R args (lW st args) l=some r→pY E st ρ aD fr σ o r
 | [],r,_,h=>by cases h
 |q::l,r,hl,h=>by
  unfold findF at h
  split at h
  ·rename_i p hp
   obtain⟨hc,h⟩:=dA h
   cases h
   simp only[Bool.and_eq_true] at hc
   obtain⟨⟨⟨c1,c2⟩,c3⟩,c4⟩:=hc
   intro x hx
   have hP:=(hF f q (hl q (by simp)) p x hx).1 c1
   obtain⟨vs',v1,v2⟩:=C9 hR hi' ha
   have Db:=p8 hR q.args p (lW st args) _ c1 hp v1 20 σ (by have:=Nat.le_of_ble_eq_true c2;omega)
   have has:=(v2 16).trans Db
   have hcl:((a'++c.args.toList.map (fr.ev E)++b').all (fun x=>aF (er x))||flat (kU (bD R q.res x)))=true:=by
    rw[Bool.or_eq_true] at c4⊢
    rcases c4 with c4|c4
    ·exact .inl (Da hR c4 ha)
    ·exact .inr (agZ (Pq hR _ _ c4))
   exact⟨kU (bD R q.res x),⟨fun dM _ _ _ hw h'=>OW.call hw ho eU hf hi has hP hcl h' (WT ho eU hf dM),fun dM _ _ _ _ _ hw h'=>dN.call hw ho eU hf hi has hP hcl h' (WT ho eU hf dM)⟩,ag0 (tC hR _ _ c3)⟩
  ·exact XB hF ho eU hf hi ha hi' (fun x hx=>hl x (by simp[hx])) h
theorem ag1 {t:TypeId} {x i:TV R.T} {v w:V} {r:dG R} (h:Om E R t x i=some r) (hx:Rl R ρ top x v) (hi:Rl R ρ top i w):mX ρ top (kZ E.P t v w) r:=by
 unfold Om at h
 split at h
 ·rename_i e c u l k n hu
  split at h
  ·rename_i sz hs
   obtain⟨hb,h⟩:=dA h
   cases h
   have:=dI hb;subst this
   obtain⟨c',rfl,_⟩:=hx.jO
   rw[hi.fq]
   intro a ha
   refine⟨.aI (aG R u a).cells 0, ?_, ?_⟩
   ·rw[Hq,if_pos (by unfold lV;rw[hu])]
    have:gG E.P t=some e:=by unfold gG;rw[hu]
    rw[this];simp only[Option.bind_some,hs,ha]
    rw[if_pos (zN hR u a).1]
   ·unfold Rl
    refine⟨_,rfl,(rF ?_ (Wi hR u a)).1⟩
    cases u<;>rfl
  ·cases h
 ·rename_i n e o off k m hu
  split at h
  ·rename_i sz hs
   cases h
   obtain⟨s,h1,rfl⟩:=hx.mR
   rw[hi.fq]
   intro hc
   have hc':0≤m∧m<n:=of_decide_eq_true hc
   refine⟨.ref (ρ.om.lc o) s (off+m.toNat*sz), ?_,by unfold Rl;exact⟨s,h1,rfl⟩⟩
   unfold kZ;rw[hu];dsimp only;rw[hs]
   simp[idx,kg,hc']
  ·cases h
 ·rename_i n e cs off k m hu
  split at h
  ·rename_i sz hs
   cases h
   obtain⟨l,rfl,h1⟩:=hx.rE
   rw[hi.fq]
   intro hc
   have hc':0≤m∧m<n:=of_decide_eq_true hc
   refine⟨.aI l (off+m.toNat*sz), ?_,by unfold Rl;exact⟨l,rfl,h1⟩⟩
   unfold kZ;rw[hu];dsimp only;rw[hs]
   simp[idx,kg,hc']
  ·cases h
 ·cases h
omit hR in
theorem ag2 {t:TypeId} {x i:TV R.T} {v w:V} {r:dG R} (h:Ou E R t x i=some r) (hx:Rl R ρ top x v) (hi:Rl R ρ top i w):mX ρ top (rZ E.P t v w) r:=by
 unfold Ou at h
 split at h
 ·rename_i s k n hu
  cases h
  rw[hx.kX,hi.fq]
  intro a ha
  refine⟨.int .u8 ((a.toNat:Nat):Int), ?_,by unfold Rl;rfl⟩
  rw[VP (by unfold Co;rw[hu]),ha];rfl
 ·cases h
end
end Aq
end
