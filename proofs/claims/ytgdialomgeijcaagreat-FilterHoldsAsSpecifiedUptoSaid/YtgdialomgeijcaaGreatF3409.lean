/- Part of the proof of a law. -/
import Derived.Test.YtgdialomgeijcaaGreatF3408
set_option linter.all false
set_option linter.unusedSimpArgs false
set_option linter.unusedSectionVars false
section
namespace Aq
open Go
set_option linter.unusedSectionVars false
set_option linter.unusedVariables false
section
variable {R:fI} {E:Env}
variable {ρ:aK} {top:Nat→Nat}
def lW (ρ:aK) (top:Nat→Nat) (v:Option V):bW R→Prop
 |.t x=> ∃y,v=some y∧Rl R ρ top x y
 |.c c x=>c=true→∃y,v=some y∧Rl R ρ top x y
 |.p _ _ o f=> ∀a,o=some a→∃y,v=some y∧Rl R ρ top (f a) y
 |_=>False
theorem RL {op:BinOp} {k:IntKind} {x y:Int} {r:bW R} (h:FU R op k x y=some r):lW ρ top (gZ op k x y) r:=by
 unfold FU at h
 cases op<;>cases h<;>first
  |exact⟨_,rfl,by unfold Rl;rfl⟩
  | (intro hc
     have hy:¬y=0:=by simpa using hc
     exact⟨_,if_neg hy,by unfold Rl;rfl⟩)
theorem abC {op:BinOp} {k:IntKind} {x y:Int} {r:bW R} (h:Kr R op k x y=some r):lW ρ top (Bv op k x y) r:=by
 unfold Kr at h
 cases op<;>cases h<;>
  (intro hc
   have hy:¬y<0:=by have:=of_decide_eq_true hc;omega
   exact⟨_,if_neg hy,by unfold Rl;rfl⟩)
theorem abD {op:BinOp} {x y:List UInt8} {r:bW R} (h:Kt R op x y=some r):lW ρ top (uL op x y) r:=by
 unfold Kt at h
 cases op<;>cases h<;>first
  |exact⟨_,rfl,by unfold Rl;rfl⟩
  | (intro hc
     have hy:¬((x.length+y.length:Nat):Int)>IntKind.i64.max:=by have:=of_decide_eq_true hc;omega
     exact⟨_,if_neg hy,by unfold Rl;rfl⟩)
theorem abE {P:Program} {op:BinOp} {t:TypeId} {k:IntKind} {a b:Int} (h:zK op=false):l6 P op t (.int k a) (.int k b)=gZ op k a b:=by
 cases op<;>first| (simp[zK] at h;done)|simp[l6]
theorem abF {P:Program} {op:BinOp} {t:TypeId} {k k':IntKind} {a b:Int} (h:zK op=true):l6 P op t (.int k a) (.int k' b)=Bv op k a b:=by
 cases op<;>first| (simp[zK] at h;done)|rfl
theorem abG {P:Program} {op:BinOp} {t:TypeId} {a b:List UInt8}:l6 P op t (.str a) (.str b)=uL op a b:=by
 cases op<;>rfl
theorem abH {P:Program} {t:TypeId} {x y:V} {b:Bool} (h:ow P t x y=some b):(∀k n k' m,x= .int k n→y= .int k' m→False)∧∀s s',x= .str s→y= .str s'→False:=by
 unfold ow at h
 constructor
 ·intro k n k' m hx hy;subst hx;subst hy;split at h<;>simp_all
 ·intro s s' hx hy;subst hx;subst hy;split at h<;>simp_all
theorem RN {P:Program} {t:TypeId} {x y:V} {b:Bool} (h:ow P t x y=some b):l6 P .eql t x y=some (.bool b)∧l6 P .neq t x y=some (.bool !b):=by
 obtain⟨h1,h2⟩:=abH h
 constructor
 all_goals
  unfold l6
  split
  ·rename_i he;cases he
  ·rename_i he;cases he
  ·exact(h1 _ _ _ _ rfl rfl).elim
  ·exact(h2 _ _ rfl rfl).elim
  all_goals first| (rw[h];rfl)| (rename_i he;cases he)|simp_all
theorem abI {op:BinOp} {t:TypeId} {x y:TV R.T} {v w:V} {r:bW R} (h:Ku E R op t x y=some r) (hx:Rl R ρ top x v) (hy:Rl R ρ top y w):lW ρ top (l6 E.P op t v w) r:=by
 unfold Ku at h
 split at h
 ·rename_i k a k' b
  rw[hx.dZ,hy.dZ]
  cases hs:zK op
  ·rw[hs,cond_false] at h
   split at h
   ·rename_i e;subst e;rw[abE hs];exact RL h
   ·cases h
  ·rw[hs,cond_true] at h;rw[abF hs];exact abC h
 ·rw[hx.jJ,hy.jJ,abG];exact abD h
 ·split at h
  ·split at h
   ·rename_i b hb;cases h
    exact⟨_,(RN (RJ hb hx hy)).1,by unfold Rl;rfl⟩
   ·cases h
  ·split at h
   ·rename_i b hb;cases h
    exact⟨_,(RN (RJ hb hx hy)).2,by unfold Rl;rfl⟩
   ·cases h
  ·cases h
theorem abJ {op:UnOp} {x:TV R.T} {v:V} {r:bW R} (h:Kv R op x=some r) (hx:Rl R ρ top x v):lW ρ top (wC op v) r:=by
 unfold Kv at h
 split at h
 ·cases h;rw[hx.dZ];exact⟨_,rfl,by unfold Rl;rfl⟩
 ·rw[hx.dZ];exact RL h
 ·cases h;rw[hx.mK];exact⟨_,rfl,by unfold Rl;rfl⟩
 ·cases h;rw[hx.qh];exact⟨_,rfl,by unfold Rl;rfl⟩
 ·cases h
theorem RP (s:List UInt8):s.map jN=List.map (aC R (.int .u8)) (s.map fun b=>((b.toNat:Nat):Int)):=by
 show s.map jN=List.map (fun n:Int=>V.int .u8 n) (List.map (fun b:UInt8=>((b.toNat:Nat):Int)) s)
 rw[List.map_map];rfl
theorem Lf:∀l:List Int,(List.map (aC R (.int .u8)) l).mapM wD=some (List.map (fun n:Int=>UInt8.ofNat n.toNat) l)
 | []=>rfl
 |n::l=>by
  show List.mapM wD (V.int .u8 n::List.map (aC R (.int .u8)) l)=_
  rw[List.mapM_cons,Lf l];rfl
theorem abK {a b:TypeId} {x:TV R.T} {v:V} {σ:ah} {r:bW R} (h:FV E R a b x=some r) (hx:Rl R ρ top x v):lW ρ top (sM E.P σ a b v) r:=by
 unfold FV at h
 unfold sM
 split at h
 ·rename_i hu hv;cases h;rw[hx.dZ,hu,hv];exact⟨_,rfl,by unfold Rl;rfl⟩
 ·rename_i hu hv;cases h;rw[hx.jJ,hu,hv];exact⟨_,rfl,by unfold Rl;rfl⟩
 ·rename_i hu hv
  rw[hx.jJ,hu,hv]
  split at h
  ·rename_i he;cases h
   dsimp only;rw[he]
   exact⟨_,rfl,by unfold Rl;exact⟨.sh,by rw[RP],trivial⟩⟩
  ·cases h
 ·rename_i l hu hv
  obtain⟨c',rfl,_⟩:=hx.iV
  rw[hu,hv]
  split at h
  ·rename_i he;cases h
   dsimp only;rw[he]
   exact⟨_,congrArg (Option.map V.str) (Lf (R:=R) l),by unfold Rl;rfl⟩
  ·cases h
 ·rename_i hu hv
  rw[hx.nQ,hu,hv]
  split at h
  ·rename_i he;cases h
   dsimp only;rw[he]
   exact⟨_,rfl,by unfold Rl;rfl⟩
  ·cases h
 ·cases h
theorem Am {x:Option (TV R.T)} {v:Option V} {i:Option Int} (h:zL R x=some i) (hx:∀y,x=some y→∃w,v=some w∧Rl R ρ top y w) (hn:x=none→v=none):(i=none∧v=none)∨∃n k,i=some n∧v=some (.int k n):=by
 unfold zL at h
 split at h
 ·cases h;exact .inl ⟨rfl,hn rfl⟩
 ·rename_i k n
  cases h
  obtain⟨w,rfl,hw⟩:=hx _ rfl
  exact .inr ⟨n,k,rfl,by rw[hw.dZ]⟩
 ·cases h
theorem nS {k:IntKind} {n:Int} {m:Nat} (h:jw n m=true):bnd (.int k n) m=some n.toNat:=by
 unfold jw at h
 have:=of_decide_eq_true h
 simp[bnd,jO,this]
theorem RQ {α:Type} (l:List α) {lo hi:Option Int} {vl vh:Option V} (hl:(lo=none∧vl=none)∨∃n k,lo=some n∧vl=some (.int k n)) (hh:(hi=none∧vh=none)∨∃n k,hi=some n∧vh=some (.int k n)) (hb:Kw l.length lo hi=true):
 ∃a c,iN l.length l.length vl vh none=some (a,c,l.length)∧(l.take c).drop a=mH l lo hi:=by
 rcases hl with ⟨rfl,rfl⟩| ⟨n,k,rfl,rfl⟩<;>rcases hh with ⟨rfl,rfl⟩| ⟨m,k',rfl,rfl⟩
 ·exact⟨0,l.length,rfl,by simp[mH]⟩
 ·have h1:jw m l.length=true:=hb
  exact⟨0,m.toNat,by simp[iN,nS h1],by simp[mH]⟩
 ·have h1:jw n l.length=true:=hb
  exact⟨n.toNat,l.length,by simp[iN,nS h1],by simp[mH]⟩
 ·have h1:(jw m l.length&& jw n m.toNat)=true:=hb
  rw[Bool.and_eq_true] at h1
  exact⟨n.toNat,m.toNat,by simp[iN,nS h1.1,nS h1.2],by simp[mH]⟩
theorem Lg {α:Type} (f:α→V) (l:List α) (a c:Nat):((l.map f).take c).drop a=((l.take c).drop a).map f:=by simp
variable (hR:kY R)
include hR
theorem Ao (t:Ty) (x:Den R.T t):(aC R t x).cells.length=bR R t∧bn (aC R t x).cells=true∧er (aC R t x)=aC R t x∧(fK t=true→∃l,aC R t x= .agg l)∧(fK t=false→(aC R t x).cells=[aC R t x]):=by
 cases t with
 |int k=>exact⟨rfl,rfl,rfl,by simp[fK],fun _=>rfl⟩
 |bool=>exact⟨rfl,rfl,rfl,by simp[fK],fun _=>rfl⟩
 |str=>exact⟨rfl,rfl,rfl,by simp[fK],fun _=>rfl⟩
 |slice t=>exact⟨rfl,rfl,rfl,by simp[fK],fun _=>rfl⟩
 |st n=>
  have he:aC R (.st n) x= .agg (encs R (R.lf n) (R.of n x)):=hR.enc n x
  rw[he]
  have hl:=hR.leaf n
  have key:∀(l:List Ty) (p:jS R.T l),l.all jI=true→bn (encs R l p)=true∧(encs R l p).map dw=encs R l p:=by
   intro l
   induction l with
   |nil=>intro p _;exact⟨rfl,rfl⟩
   |cons t l ih=>
    intro p h
    rw[List.all_cons,Bool.and_eq_true] at h
    have h1:∀y:Den R.T t,oneCell (aC R t y)=true∧dw (aC R t y)=aC R t y:=by
     intro y
     cases t<;>first|exact⟨rfl,rfl⟩| (have:=h.1;simp[jI] at this)
    cases l with
    |nil=>exact⟨by simp[encs,bn,(h1 p).1],by simp[encs,(h1 p).2]⟩
    |cons u l=>
     have:=ih p.2 h.2
     exact⟨by show (oneCell _&& bn (encs R (u::l) p.2))=true;rw[(h1 p.1).1,this.1];rfl,by show dw _::List.map dw (encs R (u::l) p.2)=_;rw[(h1 p.1).2,this.2];rfl⟩
  have:=key (R.lf n) (R.of n x) hl
  exact⟨KU _ _,this.1,by show V.agg (List.map dw _)=_;rw[this.2],fun _=>⟨_,rfl⟩,by simp[fK]⟩
theorem Dk {t:Ty} (l:List (Den R.T t)):lC (bR R t) (l.map (aC R t))=true:=by
 cases l with
 |nil=>rfl
 |cons x l=>show ((aC R t x).cells.length==bR R t)=true;rw[(Ao hR t x).1];simp
theorem Gr {t:TypeId} {x:TV R.T} {lo hi:Option (TV R.T)} {v:V} {vl vh:Option V} {σ:ah} {r:bW R} (h:vC E R t x lo hi=some r) (hx:Rl R ρ top x v)
 (hl:∀y,lo=some y→∃w,vl=some w∧Rl R ρ top y w) (hln:lo=none→vl=none) (hh:∀y,hi=some y→∃w,vh=some w∧Rl R ρ top y w) (hhn:hi=none→vh=none):lW ρ top (kL E.P σ t v vl vh none) r:=by
 unfold vC at h
 split at h
 ·rename_i lo' hi' e1 e2
  have b1:=Am e1 hl hln
  have b2:=Am e2 hh hhn
  split at h
  ·rename_i s hu
   cases h
   rw[hx.jJ]
   intro hc
   obtain⟨a,c,h1,h2⟩:=RQ s b1 b2 hc
   refine⟨.str (mH s lo' hi'), ?_,by unfold Rl;rfl⟩
   unfold kL;rw[hu];dsimp only;rw[h1];simp[h2]
  ·rename_i e c u l hu
   split at h
   ·rename_i sz hs
    cases hb:Nat.beq sz (bR R u)
    ·rw[hb] at h;cases h
    ·rw[hb,cond_true] at h;cases h
     have:=dn hb;subst this
     obtain⟨c',rfl,_⟩:=hx.iV
     intro hc
     obtain⟨a,m,h1,h2⟩:=RQ l b1 b2 hc
     unfold kL;rw[hu];dsimp only
     rw[hs];simp only[Option.bind_some,List.length_map,h1,Dk hR,if_true]
     by_cases hcs:a=0∧m=l.length∧(none:Option V).isNone=true
     ·refine⟨_,by rw[if_pos hcs], ?_⟩
      unfold Rl
      refine⟨c', ?_,trivial⟩
      rw[←h2,hcs.1,hcs.2.1];simp
     ·refine⟨_,by rw[if_neg hcs], ?_⟩
      unfold Rl
      exact⟨_,by rw[←h2,Lg],trivial⟩
   ·cases h
  ·cases h
 ·cases h
theorem Gs {t:TypeId} {k:Ty} (hk:tZ E t k=true) (x y:Den R.T k):jM (aC R k x) (aC R k y)=some (jy R k x y)∧iX E.P t (aC R k x)=true:=by
 unfold tZ at hk
 split at hk
 ·rename_i hu;exact⟨by simp[jM,aC,jy],by unfold iX;rw[hu];rfl⟩
 ·rename_i hu;exact⟨rfl,by unfold iX;rw[hu];rfl⟩
 ·rename_i hu;exact⟨rfl,by unfold iX;rw[hu];rfl⟩
 ·cases hk
theorem RU {t:TypeId} {k e:Ty} (hk:tZ E t k=true) (x:Den R.T k):∀m:List (Den R.T k×Den R.T e),lD (aC R k x) (m.map fun p=>aC R k p.1) (m.map fun p=>aC R e p.2)=some ((xu (jy R k) x m).map (aC R e))
 | []=>rfl
 | (a,v)::m=>by
   show (jM (aC R k x) (aC R k a)).bind _=some ((bif jy R k x a then some v else xu (jy R k) x m).map (aC R e))
   rw[(Gs hR hk x a).1,Option.bind_some]
   cases jy R k x a
   ·exact RU hk x m
   ·rfl
theorem RV {t:TypeId} {k e:Ty} (hk:tZ E t k=true) (x:Den R.T k) (v:Den R.T e):∀m:List (Den R.T k×Den R.T e),qL (aC R k x) (aC R e v) (m.map fun p=>aC R k p.1) (m.map fun p=>aC R e p.2)=
 some ((vD (jy R k) x v m).map (fun p=>aC R k p.1),(vD (jy R k) x v m).map fun p=>aC R e p.2)
 | []=>rfl
 | (a,w)::m=>by
   show (jM (aC R k x) (aC R k a)).bind _=_
   rw[(Gs hR hk x a).1,Option.bind_some]
   show _=some (List.map _ (bif jy R k x a then (x,v)::m else (a,w)::vD (jy R k) x v m),List.map _ (bif jy R k x a then (x,v)::m else (a,w)::vD (jy R k) x v m))
   cases jy R k x a
   ·simp only[Bool.false_eq_true,if_false,cond_false]
    rw[RV hk x v m];rfl
   ·rfl
theorem RX {t:TypeId} {k:Ty} (hk:tZ E t k=true) {x:Den R.T k} {y:TV R.T} {v:V} (h:lK R k y=some x) (hr:Rl R ρ top y v):v=aC R k x:=by
 unfold tZ at hk
 split at hk
 ·exact KR h hr
 ·exact KT h hr
 ·exact KS h hr
 ·cases hk
omit hR in
def mapOf (σ:ah):V→Option (List V×List V)
 |.dF=>some ([],[])
 |.bq loc s=>σ.dU loc s
 |.bL ks vs=>some (ks,vs)
 |_=>none
omit hR in
theorem RY {P:Program} {σ:ah} {t:TypeId} {m k:V} {ok:Bool}:qM P σ t m k ok=(ou P t).bind fun p=>if iX P p.1 k then (mapOf σ m).bind fun q=>(lD k q.1 q.2).bind fun r=>
 (match r with|some v=>some (v,true)|none=>(fO P p.2).map fun z=>(z,false)).map fun (x:V×Bool)=>if ok then .aT [x.1,.bool x.2] else x.1 else none:=by
 cases m<;>rfl
theorem Lh {t:TypeId} {k e:Ty} {m:List (Den R.T k×Den R.T e)} {y:TV R.T} {w mv:V} {ok:Bool} {σ:ah} {r:bW R} (h:CK E R t k e m y ok=some r) (hy:Rl R ρ top y w)
 (hm:mapOf σ mv=some (m.map (fun p=>aC R k p.1),m.map fun p=>aC R e p.2)):lW ρ top (qM E.P σ t mv w ok) r:=by
 unfold CK at h
 split at h
 ·rename_i kt et ht
  cases hk:tZ E kt k
  ·rw[hk] at h;cases h
  ·rw[hk,cond_true] at h
   split at h
   ·rename_i z hz
    split at h
    ·rename_i z' x hz' hx
     cases h
     have hw:=RX hR hk hx hy
     subst hw
     obtain⟨zv,hzv,Li⟩:=Al (ρ:=ρ) (top:=top) hz
     have abL:=Df hR hz' Li
     rw[RY,ht];simp only[Option.bind_some]
     rw[if_pos (Gs hR hk x x).2,hm]
     simp only[Option.bind_some]
     rw[RU hR hk x m]
     simp only[Option.bind_some]
     cases hg:xu (jy R k) x m with
     |some v=>
      simp only[Option.map_some]
      cases ok
      ·exact⟨_,rfl,Gj hR .any (.inl rfl) e v⟩
      ·refine⟨_,rfl, ?_⟩
       rw[cond_true]
       unfold Rl
       exact⟨_,rfl,.cons' (Gj hR .any (.inl rfl) e v) (.cons' (by unfold Rl;rfl) rfl)⟩
     |none=>
      simp only[Option.map_none,hzv,Option.map_some]
      have hz3:Rl R ρ top (dN R .any e z') zv:=abL
      cases ok
      ·exact⟨_,rfl,hz3⟩
      ·refine⟨_,rfl, ?_⟩
       rw[cond_true]
       unfold Rl
       exact⟨_,rfl,.cons' hz3 (.cons' (by unfold Rl;rfl) rfl)⟩
    ·cases h
   ·cases h
 ·cases h
end
end Aq
end
section
namespace Aq
open Go
set_option linter.unusedSectionVars false
set_option linter.unusedVariables false
section
variable {R:fI} {E:Env}
variable {ρ:aK} {top:Nat→Nat} {b:Nat} {st:MS R.T} {fr:Fr} {σ:ah}
theorem bU.{u} {α:Type u} {c:Bool} {o:Option α} {y:α} (h:(bif c then o else none)=some y):c=true∧o=some y:=by
 cases c
 ·cases h
 ·exact⟨rfl,h⟩
theorem Gt {t e:TypeId} {u:Ty} {sz dI:Nat} (h:zN E R t=some (e,u,sz,dI)):∃z,iA E.P t=some e∧bF E.P e=some sz∧pE E.P e=some dI∧gB E.P e=some (fK u)∧fO E.P e=some z∧
 sz=bR R u∧0<sz∧(fK u||sz==1)=true∧z.cells.length=sz:=by
 unfold zN at h
 split at h
 ·rename_i e' he
  split at h
  ·rename_i u' sz' by' ag z h1 h2 h3 h4 h5
   obtain⟨hc,h⟩:=bU h
   cases h
   simp only[Bool.and_eq_true] at hc
   obtain⟨⟨⟨⟨c1,c2⟩,c3⟩,c4⟩,c5⟩:=hc
   have:ag=fK u:=by simpa using c5
   subst this
   refine⟨z,he,h2,h3,h4,h5,dn c1,Nat.le_of_ble_eq_true c2, ?_,dn c4⟩
   rw[Bool.or_eq_true] at c3⊢
   rcases c3 with c3|c3
   ·exact .inl c3
   ·exact .inr (by rw[dn c3];rfl)
  ·cases h
 ·cases h
theorem Lj (ag:Bool) (sz:Nat):∀vs:List V,(∀v∈vs,v.cells.length=sz)→chunks ag sz vs.length (vs.flatMap V.cells)=vs.map fun v=>if ag then .agg v.cells else v.cells.headD aA
 | [],_=>rfl
 |v::vs,h=>by
  have h1:=h v (by simp)
  have h2:=Lj ag sz vs (fun w hw=>h w (by simp[hw]))
  show _::chunks ag sz vs.length ((v.cells++vs.flatMap V.cells).drop sz)=_
  rw[List.drop_left' h1,h2,List.map_cons]
  congr 1
  cases ag
  ·simp only[Bool.false_eq_true,if_false]
   show (v.cells++vs.flatMap V.cells).headD aA=_
   cases hv:v.cells with
   |nil=>
    have h0:sz=0:=by rw[←h1,hv];rfl
    cases vs with
    |nil=>rfl
    |cons w vs=>
     have:w.cells=[]:=List.eq_nil_of_length_eq_zero (by rw[h w (by simp),h0])
     simp only[List.flatMap_cons,this,List.nil_append]
     have:∀vs:List V,(∀v∈vs,v.cells.length=sz)→vs.flatMap V.cells=[]:=by
      intro vs hvs
      rw[List.flatMap_eq_nil_iff]
      intro x hx;exact List.eq_nil_of_length_eq_zero (by rw[hvs x hx,h0])
     rw[this vs (fun x hx=>h x (by simp[hx]))]
   |cons a l=>rfl
  ·simp only[if_true]
   show V.agg ((v.cells++vs.flatMap V.cells).take sz)=_
   rw[List.take_left' h1]
variable (hR:kY R)
include hR
theorem abM {t:Ty} {x:Den R.T t} {v:V} (h:er v=aC R t x):dL v=true:=by
 cases v<;>try rfl
 have h1:=nR hR t x
 rw[←h] at h1
 simp[er,aD] at h1
theorem RZ {u:Ty} {sz len:Nat} (hsz:sz=bR R u):∀(ps:List (Nat×TV R.T)) (qs:List (Nat×V)) (xs:List (Den R.T u)) (n:Nat) (done rest:List V),vE R u n ps=some xs→ps.map (·.1)=qs.map (·.1)→
 ay R ρ top (ps.map (·.2)) (qs.map (·.2))→done.length=n*sz→rest.length=xs.length*sz→n+xs.length≤len→
 ∃vs:List V,l5 (fun i=>if i<len then some (i*sz,sz) else none) (done++rest) qs=some (done++vs.flatMap V.cells)∧vs.length=xs.length∧vs.map er=xs.map (aC R u)∧(∀v∈vs,v.cells.length=sz∧bn v.cells=true)
 | [],[],xs,n,done,rest,h,_,_,h1,h2,_=>by
   cases h
   have:rest=[]:=List.eq_nil_of_length_eq_zero (by simpa using h2)
   subst this
   exact⟨[],by simp[l5],rfl,rfl,by simp⟩
 | [],_::_,_,_,_,_,_,h,_,_,_,_=>by simp at h
 |_::_,[],_,_,_,_,_,h,_,_,_,_=>by simp at h
 | (i,v)::ps,(j,w)::qs,xs,n,done,rest,h,hi,hr,h1,h2,h3=>by
   simp only[List.map_cons,List.cons.injEq] at hi
   obtain⟨rfl,hi⟩:=hi
   obtain⟨y,ys,e,g1,g2⟩:=hr.bX
   simp only[List.map_cons,List.cons.injEq] at e
   obtain⟨rfl,rfl⟩:=e
   unfold vE at h
   cases hb:Nat.beq i n
   ·rw[hb] at h;cases h
   ·rw[hb,cond_true] at h
    have:=dn hb;subst this
    cases hu:lK R u v with
    |none=>simp only[hu] at h;cases h
    |some x=>
     cases hs:vE R u (i+1) ps with
     |none=>simp only[hu,hs] at h;cases h
     |some xs'=>
      simp only[hu,hs] at h
      obtain rfl:=Option.some.inj h
      obtain⟨a1,a2,a3,a4,a5⟩:=KW hR hu g1
      rw[←hsz] at a4
      have hlen:rest.length=sz+xs'.length*sz:=by rw[h2,List.length_cons,Nat.succ_mul];omega
      have q1:(done++w.cells).length=(i+1)*sz:=by rw[List.length_append,h1,a4,Nat.succ_mul]
      have q2:(rest.drop sz).length=xs'.length*sz:=by rw[List.length_drop,hlen,Nat.add_sub_cancel_left]
      have q3:i+1+xs'.length≤len:=by rw[List.length_cons] at h3;omega
      obtain⟨vs,k1,k2,k3,k4⟩:=RZ hsz ps qs xs' (i+1) (done++w.cells) (rest.drop sz) hs hi g2 q1 q2 q3
      refine⟨w::vs, ?_,by simp[k2],by simp[a1,k3], ?_⟩
      ·simp only[List.length_cons] at h3
       unfold l5
       simp only[if_pos (show i<len by omega)]
       rw[if_pos ⟨a4,by rw[List.length_append,h1,hlen];exact Nat.add_le_add_left (Nat.le_add_right _ _) _,abM hR a1⟩]
       have:dR (done++rest) (i*sz) w.cells=done++w.cells++rest.drop sz:=by
        unfold dR
        rw[List.take_left' h1,a4,List.drop_append,h1,Nat.add_sub_cancel_left,List.drop_eq_nil_of_le (by omega)]
        rfl
       rw[this,k1]
       simp
      ·intro z hz
       rcases List.mem_cons.1 hz with rfl|hz
       ·exact⟨a4,a5⟩
       ·exact k4 z hz
theorem abN {u:Ty} {sz:Nat} (hsz:sz=bR R u) (h1:(fK u||sz==1)=true) {v:V} {x:Den R.T u} (he:er v=aC R u x) (hl:v.cells.length=sz):er (if fK u then .agg v.cells else v.cells.headD aA)=aC R u x:=by
 cases hs:fK u
 ·simp only[Bool.false_eq_true,if_false]
  have hne:∀cs,v≠ .agg cs:=by
   rintro cs rfl
   cases u<;>first| (simp[fK] at hs;done)| (simp[er,aC] at he;done)
  have:v.cells=[v]:=by cases v<;>first|rfl|exact absurd rfl (hne _)
  rw[this];exact he
 ·simp only[if_true]
  obtain⟨l,hl'⟩:=(Ao hR u x).2.2.2.1 hs
  cases v<;>first|exact he| (rw[hl'] at he;simp[er] at he)
theorem abO {t:TypeId} {len:Nat} {ps:List (Nat×TV R.T)} {qs:List (Nat×V)} {r:bW R} (h:Ky E R t len ps=some r) (hi:ps.map (·.1)=qs.map (·.1)) (hr:ay R ρ top (ps.map (·.2)) (qs.map (·.2))):lW ρ top (wF E t len qs) r:=by
 unfold Ky at h
 split at h
 ·rename_i e u sz dI he
  obtain⟨z,e1,e2,e3,e4,e5,e6,e7,e8,e9⟩:=Gt he
  ·obtain⟨hc,h⟩:=bU h
   rw[Bool.and_eq_true] at hc
   split at h
   ·rename_i xs hx
    cases h
    have hlen:xs.length=len:=by
     have:∀(ps:List (Nat×TV R.T)) (n:Nat) (xs:List (Den R.T u)),vE R u n ps=some xs→xs.length=ps.length:=by
      intro ps
      induction ps with
      |nil=>intro n xs h;cases h;rfl
      |cons p ps ih=>
       intro n xs h
       obtain⟨i,v⟩:=p
       unfold vE at h
       obtain⟨_,h⟩:=bU h
       cases hu:lK R u v with
       |none=>simp only[hu] at h;cases h
       |some x=>
        cases hs:vE R u (n+1) ps with
        |none=>simp only[hu,hs] at h;cases h
        |some xs'=>simp only[hu,hs] at h;cases h;simp[ih _ _ hs]
     rw[this ps 0 xs hx];exact dn hc.2
    obtain⟨vs,k1,k2,k3,k4⟩:=RZ hR (len:=len) e6 ps qs xs 0 [] ((List.replicate len z.cells).flatten) hx hi hr (by simp) (by simp[e9,hlen]) (by omega)
    refine⟨.aj .full (xs.map (aC R u)), ?_,by unfold Rl;exact⟨.full,rfl,rfl⟩⟩
    unfold wF
    rw[e1];simp only[Option.bind_some,e2,e4,e5]
    rw[if_pos ⟨Nat.le_of_ble_eq_true hc.1,e9,e7,e8⟩]
    rw[List.nil_append,List.nil_append] at k1
    rw[k1]
    simp only[Option.bind_some]
    have hone:bn (vs.flatMap V.cells)=true:=by
     unfold bn
     rw[List.all_flatMap,List.all_eq_true]
     intro v hv;exact(k4 v hv).2
    rw[hone,if_pos rfl,←hlen,←k2,Lj _ _ _ (fun v hv=>(k4 v hv).1),List.map_map]
    congr 2
    have:∀(vs:List V) (xs:List (Den R.T u)),vs.map er=xs.map (aC R u)→(∀v∈vs,v.cells.length=sz∧bn v.cells=true)→vs.map (er∘fun v=>if fK u then .agg v.cells else v.cells.headD aA)=xs.map (aC R u):=by
     intro vs
     induction vs with
     |nil=>intro xs h _;exact h
     |cons v vs ih=>
      intro xs h hk
      cases xs with
      |nil=>simp at h
      |cons x xs=>
       simp only[List.map_cons,List.cons.injEq] at h
       rw[List.map_cons,List.map_cons,ih xs h.2 (fun w hw=>hk w (by simp[hw]))]
       congr 1
       exact abN hR e6 e8 h.1 (hk v (by simp)).1
    rw[this vs xs k3 k4]
   ·cases h
 ·cases h
theorem Ll {u:Ty} (l:List (Den R.T u)):(l.map (aC R u)).all (fun v=>bn v.cells)=true:=by
 simp[List.all_map,(Ao hR u _).2.1]
theorem Lm {u:Ty} {ag:Bool} {y:TV R.T} {v z:V} {l:List (Den R.T u)} (h:CO R u y=some l) (hy:Rl R ρ top y v):iZ σ ag (bR R u) z v=some (l.map (aC R u))∧sO v=false:=by
 unfold CO at h
 split at h
 ·obtain⟨e,e2⟩:=oO h;subst e;cases e2
  obtain⟨c',rfl,_⟩:=hy.iV
  exact⟨by show (if lC _ _=true then _ else _)=_;rw[if_pos (Dk hR _)],rfl⟩
 ·cases h;rw[hy.nQ];exact⟨rfl,rfl⟩
 ·rename_i s
  obtain⟨e,e2⟩:=oO h;subst e;cases e2
  rw[hy.jJ]
  exact⟨by show (if 1=1 then some (s.map jN) else none)=_;rw[if_pos rfl];exact congrArg some (RP (R:=R) s),rfl⟩
 ·cases h
theorem abP {t e:TypeId} {sz dI:Nat} {ag:Bool} {z:V} {c:Cap} {l ys:List V} {y:V} {loc:Option Loc} {au:Nat} {P:Program} (h1:iA P t=some e) (h2:bF P e=some sz) (h3:pE P e=some dI) (h4:gB P e=some ag) (h5:fO P e=some z)
 (h6:z.cells.length=sz) (h7:0<sz) (h8:(ag||sz==1)=true) (hy:iZ σ ag sz z y=some ys) (hi:sO y=false) (ho:ys.all (fun v=>bn v.cells)=true) (hr:iY (l.length+ys.length) dI=true) (hh:lC sz l=true):
 gT P false false σ au loc t (.aj c l) y=match c with
  |.own n s=>if n=sz∧σ.top s=l.length then some (.aj (.own n s) (l++ys),σ.bE s (l.length+ys.length)) else none
  |.nil|.full=>some (.aj (.own sz au) (l++ys),σ.bE au (l.length+ys.length))
  |_=>none:=by
 unfold gT
 simp only[h1,h2,h3,h4,h5,Option.bind_some,hi,hy,ho,if_true]
 rw[if_pos ⟨trivial,h6,h7,h8⟩]
 simp only[hr,hh,and_self,if_true]
 cases c<;>rfl
theorem abQ {d:Option Nat} {t u:TypeId} {x y:TV R.T} {v w:V} {r:bW R} {au:Nat} {loc:Option Loc} {o:Oper} (h:CP E R d t u x y st=some r) (hx:Rl R ρ σ.top x v) (hy:Rl R ρ σ.top y w) (hi:aB ρ au st fr σ)
 (ho:∀y σ',gT E.P false false σ au loc t v w=some (y,σ')→jB E fr σ au o y σ'):oU E st ρ au fr σ o r:=by
 unfold CP at h
 split at h
 ·rename_i d
  split at h
  ·rename_i e τ sz dI he
   obtain⟨z,e1,e2,e3,e4,e5,e6,e7,e8,e9⟩:=Gt he
   ·obtain⟨hss,h⟩:=bU h
    split at h
    ·rename_i tk l l' hd hs
     cases h
     intro hroom
     subst e6
     obtain⟨g1,g2⟩:=Lm hR (ag:=fK τ) (z:=z) (σ:=σ) hs hy
     have hlen:iY ((l.map (aC R τ)).length+(l'.map (aC R τ)).length) dI=true:=by rw[List.length_map,List.length_map];exact hroom
     have hap:∀c,gT E.P false false σ au loc t (.aj c (l.map (aC R τ))) w=_:=fun c=>abP hR (σ:=σ) (c:=c) (loc:=loc) (au:=au) e1 e2 e3 e4 e5 e9 e7 e8 g1 g2 (Ll hR l') hlen (Dk hR l)
     have fresh:∀(c:Cap),(c= .nil∨c= .full)→v= .aj c (l.map (aC R τ))→∃x σ' ρ',jB E fr σ au o x σ'∧aB ρ' (au+1) (st.wk tk) fr σ'∧σ'.next=σ.next∧Rl R ρ' σ'.top (.aj (.own tk) τ (l++l')) x∧∀p,o.dst≠some p→aQ true p st ρ σ (st.wk tk) ρ' σ':=by
      intro c hc hv
      subst hv
      have:=hap c
      refine⟨.aj (.own (bR R τ) au) (l.map (aC R τ)++l'.map (aC R τ)),σ.bE au ((l.map (aC R τ)).length+(l'.map (aC R τ)).length),ρ.eG tk au,ho _ _ (by rw[this];rcases hc with rfl|rfl<;>rfl), ?_,rfl, ?_, ?_⟩
      ·exact hi.wk tk au _ (Nat.le_succ _) (Nat.lt_succ_self _) hi.nx (fun u _ hu=>by have:=hi.lt u _ hu;omega)
      ·unfold Rl
       exact⟨_,by rw[List.map_append],.inr (.inr ⟨au,rfl,by simp[aK.eG,upd],by rw[zn];simp⟩)⟩
      ·exact fun p _=>aQ.wk hi.nx
     unfold QI at hd
     split at hd
     ·rename_i l0
      split at hd
      ·rename_i l1 hl1
       cases hd
       obtain⟨e,e2⟩:=oO hl1;subst e;cases e2
       obtain⟨c',rfl,hc'⟩:=hx.iV
       exact fresh c' (.inl hc') rfl
      ·cases hd
     ·rename_i l0
      split at hd
      ·rename_i l1 hl1
       cases hd
       obtain⟨e,e2⟩:=oO hl1;subst e;cases e2
       obtain⟨c',rfl,hc'⟩:=hx.iV
       exact fresh c' (.inr hc') rfl
      ·cases hd
     ·rename_i tk' τ' l0
      split at hd
      ·rename_i l1 hl1
       cases hd
       obtain⟨e,e2⟩:=oO hl1;subst e;cases e2
       obtain⟨c',rfl,hc'⟩:=hx.iV
       rcases hc' with hc'|hc'| ⟨s,hc',ht,hl⟩
       ·exact fresh c' (.inl hc') rfl
       ·exact fresh c' (.inr hc') rfl
       ·subst hc'
        have:=hap (.own (bR R τ') s)
        dsimp only at this
        rw[if_pos ⟨rfl,by rw[List.length_map];exact hl⟩] at this
        refine⟨_,_,ρ.eG tk s,ho _ _ this, ?_,rfl, ?_, ?_⟩
        ·exact hi.wk tk s _ (Nat.le_succ _) (by have:=hi.lt tk s ht;omega) (hi.ge tk s ht) (fun u hu h'=>hu (hi.inj u tk s h' ht))
        ·unfold Rl
         exact⟨_,by rw[List.map_append],.inr (.inr ⟨s,rfl,by simp[aK.eG,upd],by rw[zn];simp⟩)⟩
        ·exact fun p _=>aQ.wk (hi.ge tk s ht)
      ·cases hd
     ·cases hd
      rw[hx.nQ] at fresh
      have hx':=hx.nQ
      subst hx'
      exact fresh .nil (.inl rfl) rfl
     ·cases hd
    ·cases h
  ·cases h
 ·cases h
omit hR in
theorem abR {t:TypeId} {x:TV R.T} {v:V} {n:Nat} (h:KC E t x st=some n) (hx:Rl R ρ σ.top x v) (hi:aB ρ b st fr σ):kg E σ t v=some n:=by
 unfold KC at h
 unfold kg
 split at h
 ·rename_i hu;cases h;obtain⟨c',rfl,_⟩:=hx.iV;rw[hu];simp
 ·rename_i hu;cases h;rw[hx.nQ,hu];rfl
 ·rename_i o t hu
  split at h
  ·rename_i t' l hl
   cases h
   have h1:=(hi.rd hl).1
   rcases hx.xG with ⟨s,_,rfl⟩| ⟨h0,rfl|rfl⟩
   ·rw[hu];dsimp only;rw[h1]
   ·rw[hu];dsimp only;rw[h1,h0];rfl
   ·rw[hu];dsimp only;rw[h1,h0];rfl
  ·cases h
 ·rename_i hu;cases h;rw[hx.jJ,hu]
 ·rename_i o hu
  split at h
  ·rename_i k e m hl
   cases h
   obtain⟨s,h1,rfl⟩:=hx.um
   obtain⟨s',h2,h3⟩:=hi.rd hl
   rw[h1] at h2;cases h2
   rw[hu];dsimp only;rw[h3];simp
  ·cases h
 ·rename_i hu;cases h;rw[hx.Ac,hu];simp
 ·rename_i hu;cases h;unfold Rl at hx;subst hx;rw[hu]
 ·rename_i hu;cases h;rw[hu]
 ·cases h
omit hR in
theorem Lp (mx:Bool):∀{l:List (TV R.T)} {x y:TV R.T} {v:V} {k:List V},zP mx x l=some y→Rl R ρ top x v→ay R ρ top l k→∃w,jc mx v k=some w∧Rl R ρ top y w
 | [],x,y,v,k,h,hx,hl=>by
   rw[hl.dO]
   unfold zP at h;cases h
   exact⟨v,by cases v<;>rfl,hx⟩
 |z::l,x,y,v,k,h,hx,hl=>by
  obtain⟨w,ws,rfl,h1,h2⟩:=hl.bX
  unfold zP at h
  split at h
  ·rename_i hz;cases hz
  ·rename_i k a k' b l' hz
   simp only[List.cons.injEq] at hz
   obtain⟨rfl,rfl⟩:=hz
   split at h
   ·rename_i e;subst e
    rw[hx.dZ,h1.dZ]
    unfold jc
    rw[if_pos rfl]
    refine Lp mx h ?_ h2
    unfold Rl
    cases mx<;>rfl
   ·cases h
  ·cases h
omit hR in
theorem R3 (c:Cp):∀(l:List Ty) (p:jS R.T l),(gM R c l p).length=l.length
 | [],_=>rfl
 | [_],_=>rfl
 |_::u::l,p=>by show (gM R c (u::l) p.2).length+1=_;rw[R3 c (u::l)];rfl
omit hR in
theorem Gu (c:Cp) (t:Ty) (x:Den R.T t):(dN R c t x).cells.length=bR R t:=by
 cases t with
 |st n=>exact R3 c _ _
 |_=>rfl
omit hR in
theorem Dl (t:Ty):∀l:List (Den R.T t),(l.flatMap fun x=>(dN R .any t x).cells).length=l.length*bR R t
 | []=>by simp
 |x::l=>by rw[List.flatMap_cons,List.length_append,Gu,Dl t l,List.length_cons,Nat.succ_mul];omega
omit hR in
theorem R4 {α:Type}:∀{l:List α} {i:Nat} {x:α},l[i]? =some x→∃a b,l=a++x::b∧a.length=i
 | [],_,_,h=>by simp at h
 |y::l,0,x,h=>by simp at h;subst h;exact⟨[],l,rfl,rfl⟩
 |y::l,i+1,x,h=>by
  obtain⟨a,b,rfl,hl⟩:=R4 (l:=l) (i:=i) (by simpa using h)
  exact⟨y::a,b,rfl,by simp[hl]⟩
omit hR in
theorem abS {α:Type} {l:List α} {i:Int} {x:α} (h:dX l i=some x):∃a b,l=a++x::b∧a.length=i.toNat∧0≤i:=by
 unfold dX at h
 split at h
 ·rename_i hi
  obtain⟨a,b,h1,h2⟩:=R4 h
  exact⟨a,b,h1,h2,hi.1⟩
 ·cases h
omit hR in
theorem abT {ag:Bool} {n off:Nat} {pre el post:List (TV R.T)} {v:TV R.T} (h:FN ag n el off=some v):FN ag n (pre++el++post) (pre.length+off)=some v:=by
 cases ag with
 |true=>
  have h':(bif Nat.ble (off+n) el.length then some (TV.agg ((el.drop off).take n)) else none)=some v:=h
  obtain⟨hb,h'⟩:=bU h'
  have hle:=Nat.le_of_ble_eq_true hb
  show (bif Nat.ble (pre.length+off+n) (pre++el++post).length then some (TV.agg (((pre++el++post).drop (pre.length+off)).take n)) else none)=some v
  have hb':Nat.ble (pre.length+off+n) (pre++el++post).length=true:=Nat.ble_eq_true_of_le (by simp;omega)
  rw[hb',cond_true,←h']
  congr 2
  have e1:(pre++el++post).drop (pre.length+off)=(el++post).drop off:=by
   rw[List.append_assoc,List.drop_append,List.drop_eq_nil_of_le (by omega)]
   simp
  rw[e1,List.drop_append,List.take_append]
  have e2:n-(el.drop off).length=0:=by simp;omega
  rw[e2];simp
 |false=>
  have h':el[off]? =some v:=h
  show (pre++el++post)[pre.length+off]? =some v
  have hlt:off<el.length:=by rw[List.getElem?_eq_some_iff] at h';exact h'.1
  rw[List.append_assoc,List.getElem?_append_right (by omega),Nat.add_sub_cancel_left,List.getElem?_append_left hlt]
  exact h'
omit hR in
theorem abU {t:TypeId} {off:Nat} {pre el post:List (TV R.T)} {v:TV R.T} (h:iU E t el off=some v):iU E t (pre++el++post) (pre.length+off)=some v:=by
 unfold iU at h⊢
 cases h1:gB E.P t with
 |none=>simp only[h1] at h;cases h
 |some a=>
  cases h2:bF E.P t with
  |none=>simp only[h1,h2] at h;cases h
  |some n=>simp only[h1,h2] at h⊢;exact abT h
omit hR in
theorem abV {t:TypeId} {off:Nat} {cs cs':List (TV R.T)} (hl:cs.length=cs'.length) (h:(iU E t cs off).isSome=true):∃v,iU E t cs' off=some v:=by
 unfold iU at h⊢
 cases h1:gB E.P t with
 |none=>simp only[h1] at h;cases h
 |some a=>
  cases h2:bF E.P t with
  |none=>simp only[h1,h2] at h;cases h
  |some n=>
   simp only[h1,h2] at h⊢
   cases a with
   |true=>
    have h':(bif Nat.ble (off+n) cs.length then some (TV.agg ((cs.drop off).take n)) else none).isSome=true:=h
    cases hb:Nat.ble (off+n) cs.length
    ·rw[hb] at h';cases h'
    ·exact⟨.agg ((cs'.drop off).take n),by show (bif Nat.ble (off+n) cs'.length then _ else _)=_;rw[←hl,hb];rfl⟩
   |false=>
    have h':cs[off]?.isSome=true:=h
    have hlt:off<cs'.length:=by rw[←hl];simpa using h'
    exact⟨cs'[off],List.getElem?_eq_getElem hlt⟩
omit hR in
theorem R5 {o s:Nat} {τ:Ty} {l:List (Den R.T τ)} {i:Int} {y:Den R.T τ} (hO:dx ρ σ o (.arr τ l)) (hs:ρ.ob o=some s) (hy:dX l i=some y):
 ∃a b cs,l=a++y::b∧a.length=i.toNat∧σ.bD (ρ.om.lc o) s=some cs∧ay R ρ σ.top ((a.flatMap fun x=>(dN R .any τ x).cells)++(dN R .any τ y).cells++b.flatMap fun x=>(dN R .any τ x).cells) cs∧(a.flatMap fun x=>(dN R .any τ x).cells).length=i.toNat*bR R τ:=by
 obtain⟨a,b,rfl,h1,h2⟩:=abS hy
 rcases hO.2 with h| ⟨s',cs,h3,h4,h5⟩
 ·exact absurd h.1 (by simp)
 ·rw[hs] at h3;cases h3
  refine⟨a,b,cs,rfl,h1,h4, ?_,by rw[Dl,h1]⟩
  rw[List.flatMap_append,List.flatMap_cons] at h5
  rw[List.append_assoc];exact h5
omit hR in
theorem abW {t:TypeId} {o s off:Nat} {τ:Ty} {i:Int} {ob:Ob R.T} {r:bW R} (h:KG E R t τ i off ob=some r) (hO:dx ρ σ o ob) (hs:ρ.ob o=some s):∃(l:List (Den R.T τ)) (f:Den R.T τ→TV R.T),r= .p (Den R.T τ) (zu R τ) (dX l i) f∧
 ∀y,dX l i=some y→∃cs w,σ.bD (ρ.om.lc o) s=some cs∧eB E.P t cs (i.toNat*bR R τ+off)=some w∧Rl R ρ σ.top (f y) w:=by
 unfold KG at h
 split at h
 ·rename_i τ' l0
  split at h
  ·rename_i l1 hl
   obtain⟨e,e2⟩:=oO hl;subst e;cases e2
   obtain⟨hb,h⟩:=bU h
   cases h
   refine⟨l0,_,rfl,fun y hy=> ?_⟩
   obtain⟨a,b,cs,h1,h2,h3,h4,h5⟩:=R5 hO hs hy
   obtain⟨v,hv⟩:=abV (cs':=(dN R .any τ' y).cells) (by rw[Gu,Gu]) hb
   have:=abU (pre:=a.flatMap fun x=>(dN R .any τ' x).cells) (post:=b.flatMap fun x=>(dN R .any τ' x).cells) hv
   rw[h5] at this
   obtain⟨w,hw,hr⟩:=uy h4 this
   exact⟨cs,w,h3,hw,by rw[hv];exact hr⟩
  ·cases h
 ·cases h
theorem abX {τ:Ty} {cs:List (TV R.T)} {x:Den R.T τ} {vs:List V} (h:KH R τ cs=some x) (hr:ay R ρ top cs vs):ay R ρ top (dN R .any τ x).cells vs:=by
 have one:∀(t:Ty) (x:Den R.T t),jI t=true→mD R t (hd1 R cs)=some x→ay R ρ top [tX R .any t x] vs:=by
  intro t x ht h
  cases cs with
  |nil=>cases t<;>cases h
  |cons c cs=>
   cases cs with
   |nil=>
    obtain⟨v,l,rfl,h1,h2⟩:=hr.bX
    rw[h2.dO]
    exact .cons' (xK hR h h1) rfl
   |cons c' cs=>cases t<;>cases h
 cases τ with
 |st n=>
  have:=Df hR (t:=.st n) (show lK R (.st n) (.agg cs)=some x from h) (v:=.agg vs) (by unfold Rl;exact⟨vs,rfl,hr⟩)
  obtain⟨l,e,hl⟩:=Rl.iK this
  cases e;exact hl
 |int k=>exact one (.int k) x rfl h
 |bool=>exact one .bool x rfl h
 |str=>exact one .str x rfl h
 |slice t=>exact one (.slice t) x rfl h
omit hR in
theorem abY {α:Type} (pre el post vs:List α) (off:Nat) (h:off+vs.length≤el.length):(pre++el++post).take (pre.length+off)++vs++(pre++el++post).drop (pre.length+off+vs.length)=pre++(el.take off++vs++el.drop (off+vs.length))++post:=by
 have e1:(pre++el++post).take (pre.length+off)=pre++el.take off:=by
  rw[List.append_assoc,List.take_append,List.take_of_length_le (by omega),Nat.add_sub_cancel_left,List.take_append,Nat.sub_eq_zero_of_le (by omega)]
  simp
 have e2:(pre++el++post).drop (pre.length+off+vs.length)=el.drop (off+vs.length)++post:=by
  rw[List.append_assoc,List.drop_append,List.drop_eq_nil_of_le (by omega),show pre.length+off+vs.length-pre.length=off+vs.length by omega,List.drop_append,Nat.sub_eq_zero_of_le (by omega)]
  simp
 rw[e1,e2]
 simp
theorem abZ {o s off:Nat} {τ:Ty} {i:Int} {l:List (Den R.T τ)} {y y':Den R.T τ} {vc:List (TV R.T)} {vl:List V} (hO:dx ρ σ o (.arr τ l)) (hs:ρ.ob o=some s) (hy:dX l i=some y) (hv:ay R ρ σ.top vc vl) (hle:off+vc.length≤bR R τ)
 (hu:KH R τ (zH (dN R .any τ y).cells off vc)=some y'):∃cs,σ.bD (ρ.om.lc o) s=some cs∧i.toNat*bR R τ+off+vl.length≤cs.length∧ay R ρ σ.top ((xA l i y').flatMap fun x=>(dN R .any τ x).cells) (dR cs (i.toNat*bR R τ+off) vl)∧(xA l i y').length=l.length:=by
 obtain⟨a,b,cs,rfl,h2,h3,h4,h5⟩:=R5 hO hs hy
 obtain⟨p1,post,rfl,g1,g2⟩:=h4.split
 obtain⟨pre,el,rfl,g3,g4⟩:=g1.split
 have l1:pre.length=i.toNat*bR R τ:=by rw[g3.length,h5]
 have l2:el.length=bR R τ:=by rw[g4.length,Gu]
 have l3:=hv.length
 refine⟨_,h3, ?_, ?_, ?_⟩
 ·rw[List.length_append,List.length_append];omega
 ·have e:xA (a++y::b) i y'=a++y'::b:=by
   unfold xA
   rw[←h2,List.set_append_right _ _ (Nat.le_refl _),Nat.sub_self];rfl
  rw[e,List.flatMap_append,List.flatMap_cons,←List.append_assoc]
  have e2:dR (pre++el++post) (i.toNat*bR R τ+off) vl=pre++dR el off vl++post:=by
   unfold dR
   rw[←l1];exact abY pre el post vl off (by omega)
  rw[e2]
  exact(g3.append (abX hR hu (Ld off g4 hv))).append g2
 ·unfold xA;rw[List.length_set]
theorem ab0 (τ:Ty) (x:Den R.T τ):ay R ρ top (dN R .any τ x).cells (aC R τ x).cells:=by
 refine(rF ?_ (Gj hR .any (.inl rfl) τ x)).1
 cases τ<;>rfl
theorem Ap (τ:Ty):∀l:List (Den R.T τ),ay R ρ top (l.flatMap fun x=>(dN R .any τ x).cells) ((l.map (aC R τ)).flatMap V.cells)
 | []=>rfl
 |x::l=>by
  rw[List.map_cons,List.flatMap_cons,List.flatMap_cons]
  exact(ab0 hR τ x).append (Ap τ l)
theorem ab1 {t e:TypeId} {sz dI:Nat} {ag:Bool} {z:V} {ys:List V} {x y:V} {loc:Option Loc} {au:Nat} {P:Program} (h1:iA P t=some e) (h2:bF P e=some sz) (h3:pE P e=some dI) (h4:gB P e=some ag) (h5:fO P e=some z)
 (h6:z.cells.length=sz) (h7:0<sz) (h8:(ag||sz==1)=true) (hy:iZ σ ag sz z y=some ys) (hi:sO y=false) (ho:ys.all (fun v=>bn v.cells)=true):
 gT P true false σ au loc t x y=match x with
  |.aj c l=>if iY (l.length+ys.length) dI=true∧lC sz l=true then
     match c with
     |.nil=>loc.map fun loc=>(.vw loc au 0 (l.length+ys.length) (l.length+ys.length) sz ag,σ.setObj loc au (.cells ((l++ys).flatMap V.cells)))
     |.full=>if ys.isEmpty then some (.aj .full l,σ) else loc.map fun loc=>(.vw loc au 0 (l.length+ys.length) (l.length+ys.length) sz ag,σ.setObj loc au (.cells ((l++ys).flatMap V.cells)))
     |_=>none else none
  |.vw fP s off len cap aL _=>
   if iY (len+ys.length) dI=true∧off=0∧aL=sz then
    loc.bind fun loc=>(σ.bD fP s).bind fun cs=>
     if len+ys.length≤cap then
      if (len+ys.length)*sz≤cs.length then
       some (.vw fP s 0 (len+ys.length) cap sz ag,σ.setObj fP s (.cells (dR cs (len*sz) (ys.flatMap V.cells))))
      else none
     else if len*sz≤cs.length then
      some (.vw loc au 0 (len+ys.length) (len+ys.length) sz ag,(σ.fE fP).setObj loc au (.cells (cs.take (len*sz)++ys.flatMap V.cells)))
     else none
   else none
  |_=>none:=by
 unfold gT
 simp only[h1,h2,h3,h4,h5,Option.bind_some,hi,hy,ho,if_true]
 rw[if_pos ⟨trivial,h6,h7,h8⟩]
 cases x<;>try rfl
 ·rename_i c l
  cases c<;>rfl
 ·simp only[true_and]
omit hR in
theorem aQ.KZ {o q s n:Nat} {x:Ob R.T} {a:eO} (hne:q≠o):aQ true q st ρ σ (st.new o x) (ρ.xJ o s n) (σ.setObj (ρ.om.lc o) s a):=⟨(KY q hne).1,(KY q hne).2,rfl,Nat.le_refl _,⟨fun _ _=>rfl,fun _ _=>rfl⟩,fun _ _ hL=>La hL,(aQ.new (nr:=true) (ρ:=ρ) (s:=s) (a:=a) hne).ro⟩
omit hR in
theorem aQ.del {o q:Nat} {y:Ob R.T} (hl:look st.ob o=some y) (hy:lM y=false):aQ true q st ρ σ (st.del o) ρ (σ.fE (ρ.om.lc o)):=⟨rfl,rfl,rfl,Nat.le_refl _,⟨fun _ _=>rfl,fun _ _=>rfl⟩,fun _ _ hL=>abw hL,fun hr=>by
 have hne:q≠o:=by rintro rfl;rw[hr y hl] at hy;cases hy
 refine⟨fun z hz=> ?_,fun s'=> ?_⟩
 ·have hz':look (fJ o st.ob) q=some z:=hz
  rw[mM hne] at hz'
  exact hr z hz'
 ·unfold ah.bD ah.dU;rw[Rf σ hne];exact⟨rfl,rfl⟩⟩
omit hR in
theorem aQ.del' {o q:Nat} {y:Ob R.T} (hl:look st.ob o=some y) (hy:lM y=false):aQ true q st ρ σ (st.del o) ρ σ:=⟨rfl,rfl,rfl,Nat.le_refl _,⟨fun _ _=>rfl,fun _ _=>rfl⟩,fun _ _ _=>rfl,fun hr=>by
 have hne:q≠o:=by rintro rfl;rw[hr y hl] at hy;cases hy
 refine⟨fun z hz=> ?_,fun s'=>⟨rfl,rfl⟩⟩
 have hz':look (fJ o st.ob) q=some z:=hz
 rw[mM hne] at hz'
 exact hr z hz'⟩
omit hR in
theorem Lr {α:Type} {p:Nat}:∀l:List (Nat×α),look (fJ p l) p=none
 | []=>rfl
 | (j,x)::l=>by
   unfold fJ
   cases hj:Nat.beq j p
   ·show (bif Nat.beq j p then some x else look (fJ p l) p)=none
    rw[hj];exact Lr l
   ·exact Lr l
omit hR in
theorem aB.del' (h:aB ρ b st fr σ) (o:Nat):aB ρ b (st.del o) fr σ:={h with
 ob:=fun p y hy=>by
  by_cases e:p=o
  ·subst e
   have:look (fJ p st.ob) p=some y:=hy
   rw[Lr] at this;cases this
  ·have hy':look (fJ o st.ob) p=some y:=hy
   rw[mM e] at hy'
   exact h.ob p y hy'
 fr:=h.fr}
omit hR in
theorem Ar {d au:Nat} {τ:Ty} {l:List (Den R.T τ)} {L:List V} {st0:MS R.T} {σ0:ah} {o:Oper} {v:V} {σ1:ah} (hd:o.dst=some d) (hi:aB ρ (au+1) st0 fr σ0) (hk:∀p,aQ true p st ρ σ st0 ρ σ0) (hn:σ0.next=σ.next) (hL:ay R ρ σ0.top (l.flatMap fun x=>(dN R .any τ x).cells) L)
 (hs:jB E fr σ au o v σ1) (hv:v= .vw (ρ.om.lc d) au 0 l.length l.length (bR R τ) (fK τ)) (h1:σ1=σ0.setObj (ρ.om.lc d) au (.cells L)):∃x σ' ρ',jB E fr σ au o x σ'∧aB ρ' (au+1) (st0.new d (.arr τ l)) fr σ'∧σ'.next=σ.next∧Rl R ρ' σ'.top (.vw d τ) x∧∀p,o.dst≠some p→aQ true p st ρ σ (st0.new d (.arr τ l)) ρ' σ':=by
 subst hv;subst h1
 refine⟨_,_,ρ.xJ d au l.length,hs,hi.KZ d au l.length ⟨(Dc (ρ:=ρ.jA d au)).symm,.inr ⟨au,L,oQ (ρ:=ρ),p8 _ _ _ _,uo l L hL⟩⟩,hn, ?_,fun p hp=> ?_⟩
 ·unfold Rl
  exact .inl ⟨au,oQ (ρ:=ρ),by rw[show (ρ.xJ d au l.length).ln d=l.length from Dc (ρ:=ρ.jA d au)];rfl⟩
 ·have hne:p≠d:=fun e=>hp (by rw[hd,e])
  exact(hk p).trans (aQ.KZ hne)
theorem ab2 {d:Option Nat} {t u:TypeId} {x y:TV R.T} {v w:V} {r:bW R} {au:Nat} {o:Oper} (h:CQ E R d t u x y st=some r) (hx:Rl R ρ σ.top x v) (hy:Rl R ρ σ.top y w) (hi:aB ρ au st fr σ) (hd:o.dst=d)
 (ho:∀y σ',gT E.P true false σ au (d.map fun t=>(ρ.om.lc t)) t v w=some (y,σ')→jB E fr σ au o y σ'):oU E st ρ au fr σ o r:=by
 have hi1:=hi.le (Nat.le_succ au)
 unfold CQ at h
 split at h
 ·rename_i d
  split at h
  ·rename_i e τ sz dI he
   obtain⟨z,e1,e2,e3,e4,e5,e6,e7,e8,e9⟩:=Gt he
   obtain⟨hss,h⟩:=bU h
   split at h
   ·rename_i l' hs
    subst e6
    obtain⟨g1,g2⟩:=Lm hR (ag:=fK τ) (z:=z) (σ:=σ) hs hy
    have hap:=fun x=>ab1 hR (σ:=σ) (x:=x) (loc:=some (ρ.om.lc d)) (au:=au) e1 e2 e3 e4 e5 e9 e7 e8 g1 g2 (Ll hR l')
    split at h
    ·rename_i p τ0 _
     split at h
     ·rename_i e0
      subst e0
      split at h
      ·rename_i τ' l0 hl
       split at h
       ·rename_i a l1 l2 hl2
        obtain⟨e,e2'⟩:=oO hl2;subst e;cases e2'
        cases h
        intro hroom
        have hO:=hi.ob _ _ hl
        have hlen:l0.length=ρ.ln p:=hO.1
        have hnr:lM (Ob.arr τ' l0)=false:=rfl
        have hne:¬((a::l1).map (aC R τ')).isEmpty=true:=by simp
        rcases hx.xG with ⟨s,k1,rfl⟩| ⟨k1,k2⟩
        ·rcases hO.2 with hO2| ⟨s',cs,k3,k4,k5⟩
         ·rw[k1] at hO2;exact absurd hO2.2 (by simp)
         ·rw[k1] at k3;cases k3
          have:=hap (.vw (ρ.om.lc p) s 0 (ρ.ln p) (ρ.ln p) (bR R τ') (fK τ'))
          dsimp only at this
          have hlc:cs.length=l0.length*bR R τ':=by rw[k5.length,Dl]
          rw[if_pos ⟨by rw[List.length_map,←hlen];exact hroom,rfl,rfl⟩] at this
          simp only[Option.bind_some,k4] at this
          rw[if_neg (by rw[List.length_map,List.length_cons];omega),if_pos (by rw[hlc,hlen];exact Nat.le_refl _)] at this
          refine Ar (σ0:=σ.fE (ρ.om.lc p)) (L:=cs.take (ρ.ln p*bR R τ')++((a::l1).map (aC R τ')).flatMap V.cells) hd (hi1.del p) (fun q=>aQ.del hl hnr) rfl ?_ (ho _ _ this) ?_ rfl
          ·rw[List.flatMap_append,List.take_of_length_le (by rw[hlc,hlen];exact Nat.le_refl _)]
           exact ay.append k5 (Ap hR _ _)
          ·rw[List.length_map,List.length_append,hlen]
        ·have hl0:l0=[]:=List.eq_nil_of_length_eq_zero (by omega)
         subst hl0
         have hroom':iY (([]:List V).length+((a::l1).map (aC R τ')).length) dI=true∧lC (bR R τ') ([]:List V)=true:=⟨by rw[List.length_map];exact hroom,rfl⟩
         rcases k2 with rfl|rfl
         ·have:=hap (.aj .nil [])
          dsimp only at this
          rw[if_pos hroom'] at this
          refine Ar (σ0:=σ) hd (hi1.del' p) (fun q=>aQ.del' hl hnr) rfl (Ap hR _ _) (ho _ _ this) ?_ rfl
          simp
         ·have:=hap (.aj .full [])
          dsimp only at this
          rw[if_pos hroom',if_neg hne] at this
          refine Ar (σ0:=σ) hd (hi1.del' p) (fun q=>aQ.del' hl hnr) rfl (Ap hR _ _) (ho _ _ this) ?_ rfl
          simp
       ·cases h
      ·cases h
     ·cases h
    ·obtain⟨hE,h⟩:=bU h
     cases h
     intro hroom
     have hroom':iY (([]:List V).length+(l'.map (aC R τ)).length) dI=true∧lC (bR R τ) ([]:List V)=true:=⟨by rw[List.length_map,List.length_nil,Nat.zero_add];exact hroom,rfl⟩
     rcases Rz (fr:=fr) hE (.of hx) with rfl|rfl
     ·have:=hap (.aj .nil [])
      dsimp only at this
      rw[if_pos hroom'] at this
      refine Ar (σ0:=σ) hd hi1 (fun q=>.refl) rfl (Ap hR _ _) (ho _ _ this) ?_ rfl
      simp
     ·have:=hap (.aj .full [])
      dsimp only at this
      rw[if_pos hroom'] at this
      by_cases hne:((l'.map (aC R τ)).isEmpty)=true
      ·rw[if_pos hne] at this
       have hl':l'=[]:=by simpa using hne
       subst hl'
       refine⟨_,_,ρ.gh d,ho _ _ this,hi1.ghost d τ,rfl,by unfold Rl;exact .inr ⟨Dc (ρ:=ρ) (n:=0),.inr rfl⟩,fun p hp=> ?_⟩
       have Ls:p≠d:=fun e=>hp (by rw[hd,e])
       exact⟨(Ai p Ls).1,(Ai p Ls).2,rfl,Nat.le_refl _,⟨fun _ _=>rfl,fun _ _=>rfl⟩,fun _ _ _=>rfl,fun hr=>⟨((aQ.new (nr:=true) (ρ:=ρ) (σ:=σ) (s:=0) (a:=.cells []) Ls).ro hr).1,fun _=>⟨rfl,rfl⟩⟩⟩
      ·rw[if_neg hne] at this
       refine Ar (σ0:=σ) hd hi1 (fun q=>.refl) rfl (Ap hR _ _) (ho _ _ this) ?_ rfl
       simp
   ·cases h
  ·cases h
 ·cases h
omit hR in
theorem R6 {α β:Type} (f:α→List β) (x:α):∀n,(List.replicate n x).flatMap f=(List.replicate n (f x)).flatten
 |0=>rfl
 |n+1=>by rw[List.replicate_succ,List.replicate_succ,List.flatMap_cons,List.flatten_cons,R6 f x n]
omit hR in
theorem R7 {ts:List (TV R.T)} {vs:List V} (h:ay R ρ top ts vs):∀n,ay R ρ top (List.replicate n ts).flatten (List.replicate n vs).flatten
 |0=>rfl
 |n+1=>by rw[List.replicate_succ,List.replicate_succ,List.flatten_cons,List.flatten_cons];exact h.append (R7 h n)
theorem ab3 {om:Bool} {d:Option Nat} {t:TypeId} {x y:TV R.T} {v w:V} {r:bW R} {au:Nat} {o:Oper} (h:Kz E R om d t x y st=some r) (hx:Rl R ρ σ.top x v) (hy:Rl R ρ σ.top y w) (hi:aB ρ au st fr σ) (hd:o.dst=d)
 (ho:∀y σ',pF E.P om σ au (d.map fun t=>(ρ.om.lc t)) t v w=some (y,σ')→jB E fr σ au o y σ'):oU E st ρ au fr σ o r:=by
 have hi1:=hi.le (Nat.le_succ au)
 unfold Kz at h
 split at h
 ·rename_i d e τ sz dI k n k' m he
  obtain⟨z0,e1,e2,e3,e4,e5,e6,e7,e8,e9⟩:=Gt he
  split at h
  ·rename_i z hz
   split at h
   ·rename_i x0 hx0
    obtain⟨zv,z1,z2⟩:=Al (ρ:=ρ) (top:=σ.top) hz
    rw[e5] at z1;cases z1
    rw[hx.dZ,hy.dZ] at ho
    have mk:0≤n→n≤m→m≤2^47→iY m.toNat dI=true→pF E.P om σ au ((some d).map fun t=>(ρ.om.lc t)) t (.int k n) (.int k' m)=if n=0∧om=false then some (.aj (.own sz au) [],σ.bE au 0) else some (.vw (ρ.om.lc d) au 0 n.toNat m.toNat sz (fK τ),σ.setObj (ρ.om.lc d) au (.cells (List.replicate m.toNat z0.cells).flatten)):=by
     intro h1 h2 h3 h4
     unfold pF
     simp only[e1,e2,e3,e5,Option.bind_some,jO]
     rw[if_pos ⟨h1,h2,h4,h3,e9⟩]
     split
     ·rfl
     ·simp only[Option.map_some,Option.bind_some,e4]
    cases om with
    |true=>
     cases h
     intro hc
     rw[Bool.and_eq_true] at hc
     obtain⟨c1,c2,c3⟩:=of_decide_eq_true hc.1
     subst c2
     have:=mk c1 (Int.le_refl _) c3 hc.2
     rw[if_neg (by simp)] at this
     subst e6
     refine Ar (σ0:=σ) hd hi1 (fun q=>.refl) rfl ?_ (ho _ _ this) ?_ rfl
     ·rw[R6]
      refine R7 ?_ _
      have hzc:ay R ρ σ.top (dN R .any τ x0).cells z0.cells:=by
       have h1:=Df hR hx0 z2
       refine(rF ?_ h1).1
       cases τ<;>rfl
      exact hzc
     ·rw[List.length_replicate]
    |false=>
     cases h
     intro hc
     rw[Bool.and_eq_true] at hc
     obtain⟨c1,c2,c3⟩:=of_decide_eq_true hc.1
     subst c1
     have:=mk (Int.le_refl _) c2 c3 hc.2
     rw[if_pos ⟨rfl,rfl⟩] at this
     refine⟨_,_,ρ.eG d au,ho _ _ this,hi.wk d au _ (Nat.le_succ _) (Nat.lt_succ_self _) hi.nx (fun u _ hu=>by have:=hi.lt u _ hu;omega),rfl, ?_,fun p _=>aQ.wk hi.nx⟩
     unfold Rl
     exact⟨_,rfl,.inr (.inr ⟨au,by rw[e6],by simp[aK.eG,upd],by rw[zn];rfl⟩)⟩
   ·cases h
  ·cases h
 ·cases h
theorem ab4 {om:Bool} {t:TypeId} {p:Nat} {τ:Ty} {y:TV R.T} {v w:V} {r:bW R} (h:KF E R t p τ y st=some r) (hx:Rl R ρ σ.top (.vw p τ) v) (hy:Rl R ρ σ.top y w) (hi:aB ρ b st fr σ):lW ρ σ.top (kM E.P t v w) r:=by
 unfold KF at h
 split at h
 ·rename_i e k n hu
  split at h
  ·rename_i sz hs
   obtain⟨hb,h⟩:=bU h
   split at h
   ·rename_i τ' l hl
    cases h
    have:=dn hb;subst this
    rw[hy.dZ]
    intro hc
    have hc':=of_decide_eq_true hc
    have hlen:=(hi.rd hl).1
    rcases hx.xG with ⟨s,k1,rfl⟩| ⟨h0,_⟩
    ·refine⟨.ref (ρ.om.lc p) s (n.toNat*bR R τ), ?_,by unfold Rl;exact⟨s,k1,hc'.1,rfl⟩⟩
     unfold kM
     rw[hu]
     simp only[hs,Option.bind_some,idx,jO]
     rw[if_pos ⟨hc'.1,by rw[←hlen];exact hc'.2⟩]
     simp
    ·rw[hlen,h0] at hc';omega
   ·cases h
  ·cases h
 ·cases h
end
end Aq
end
section
namespace Aq
open Go
set_option linter.unusedSectionVars false
set_option linter.unusedVariables false
section
variable {R:fI} {E:Env}
variable {ρ:aK} {top:Nat→Nat} {b:Nat} {st:MS R.T} {fr:Fr} {σ:ah}
theorem Lu {n:Nat} {f:Nat} (a b:List V):aJ (n+2) σ (.fn (.func f) a b)=(a.mapM (aJ (n+1) σ)).bind fun a=>(b.mapM (aJ (n+1) σ)).map fun b=>.fn (.func f) a b:=by
 by_cases hp:aD (.fn (.func f) a b)=true
 ·rw[iG hp]
  have:∀cs:List V,aY cs=true→cs.mapM (aJ (n+1) σ)=some cs:=by
   intro cs
   induction cs with
   |nil=>intro _;rfl
   |cons a l ih=>
    intro h
    simp only[aY,Bool.and_eq_true] at h
    rw[List.mapM_cons,iG h.1,ih h.2];rfl
  simp only[aD,Bool.and_eq_true] at hp
  rw[this a hp.1,this b hp.2];rfl
 ·conv=>lhs;unfold aJ
  simp only[hp,if_false,Bool.false_eq_true]
theorem R8 {n:Nat} {off:Nat} (cs:List V):aJ (n+2) σ (.aH cs off)=(cs.mapM (aJ (n+1) σ)).map (.aH · off):=by
 by_cases hp:aD (.aH cs off)=true
 ·rw[iG hp]
  have:∀cs:List V,aY cs=true→cs.mapM (aJ (n+1) σ)=some cs:=by
   intro cs
   induction cs with
   |nil=>intro _;rfl
   |cons a l ih=>
    intro h
    simp only[aY,Bool.and_eq_true] at h
    rw[List.mapM_cons,iG h.1,ih h.2];rfl
  rw[this cs (by simpa [aD] using hp)];rfl
 ·conv=>lhs;unfold aJ
  simp only[hp,if_false,Bool.false_eq_true]
variable (hR:kY R)
include hR
theorem Lv {k e:Ty} (m:List (Den R.T k×Den R.T e)):aD (.bL (m.map fun p=>aC R k p.1) (m.map fun p=>aC R e p.2))=true:=by
 simp only[aD,Bool.and_eq_true]
 have h1:∀m:List (Den R.T k×Den R.T e),aY (m.map fun p=>aC R k p.1)=true∧aY (m.map fun p=>aC R e p.2)=true:=by
  intro m
  induction m with
  |nil=>exact⟨rfl,rfl⟩
  |cons p m ih=>exact⟨by simp[aY,nR hR,ih.1],by simp[aY,nR hR,ih.2]⟩
 exact h1 m
theorem R9:∀(t:Ty) (x:Den R.T t) (v:V),jI t=true→Rl R ρ top (tX R .any t x) v→∀n σ,aJ (n+2) σ v=some (aC R t x)
 |.int k,x,v,_,h,n,σ=>by rw[Rl.dZ (R:=R) h];exact J8 (n+1) _ _
 |.bool,x,v,_,h,n,σ=>by rw[Rl.mK (R:=R) h];exact J9 (n+1) _
 |.str,x,v,_,h,n,σ=>by rw[Rl.jJ (R:=R) h];exact Ka (n+1) _
 |.slice t,x,v,_,h,n,σ=>by
  obtain⟨c,rfl,_⟩:=Rl.iV (R:=R) h
  exact wX _ _ (nR hR _)
 |.st n,_,_,h,_,_,_=>by simp[jI] at h
theorem Au:∀(l:List Ty) (p:jS R.T l) (vs:List V),l.all jI=true→ay R ρ top (gM R .any l p) vs→∀n σ,vs.mapM (aJ (n+2) σ)=some (encs R l p)
 | [],_,vs,_,h,n,σ=>by rw[ay.dO h];rfl
 | [t],x,vs,hl,h,n,σ=>by
   obtain⟨v,l,rfl,h1,h2⟩:=ay.bX h
   rw[ay.dO h2,List.mapM_cons,R9 hR t x v (by simpa using hl) h1];rfl
 |t::u::l,p,vs,hl,h,n,σ=>by
  rw[List.all_cons,Bool.and_eq_true] at hl
  obtain⟨v,ws,rfl,h1,h2⟩:=ay.bX h
  rw[List.mapM_cons,R9 hR t p.1 v hl.1 h1,Au (u::l) p.2 ws hl.2 h2];rfl
theorem ab5 (t:Ty) (x:Den R.T t) (vs:List V) (h:ay R ρ top (dN R .any t x).cells vs) (n:Nat) (σ:ah):vs.mapM (aJ (n+2) σ)=some (aC R t x).cells:=by
 cases t with
 |st k=>
  have he:aC R (.st k) x= .agg (encs R (R.lf k) (R.of k x)):=hR.enc k x
  rw[he]
  exact Au hR _ _ vs (hR.leaf k) h n σ
 |int k=>exact Au hR [.int k] x vs rfl h n σ
 |bool=>exact Au hR [.bool] x vs rfl h n σ
 |str=>exact Au hR [.str] x vs rfl h n σ
 |slice t=>exact Au hR [.slice t] x vs rfl h n σ
theorem Sb {t:Ty} {ρ:aK} {top:Nat→Nat}:∀(l:List (Den R.T t)) (cs:List V),ay R ρ top (l.flatMap fun x=>(dN R .any t x).cells) cs→∀(n:Nat) (σ:ah),cs.mapM (aJ (n+2) σ)=some ((l.map (aC R t)).flatMap V.cells)
 | [],cs,h,n,σ=>by rw[ay.dO h];rfl
 |x::l,cs,h,n,σ=>by
  rw[List.flatMap_cons] at h
  obtain⟨a,b,rfl,h1,h2⟩:=h.split
  rw[List.mapM_append,Sb l b h2 n σ,List.map_cons,List.flatMap_cons]
  have:a.mapM (aJ (n+2) σ)=some (aC R t x).cells:=ab5 hR t x a h1 n σ
  rw[this];rfl
omit hR in
theorem Sc:∀(t:Ty) (x:Den R.T t) (v:V),jI t=true→Rl R ρ top (tX R .any t x) v→dw v=aC R t x
 |.int k,x,v,_,h=>by rw[Rl.dZ (R:=R) h];rfl
 |.bool,x,v,_,h=>by rw[Rl.mK (R:=R) h];rfl
 |.str,x,v,_,h=>by rw[Rl.jJ (R:=R) h];rfl
 |.slice t,x,v,_,h=>by
  obtain⟨c,rfl,_⟩:=Rl.iV (R:=R) h
  rfl
 |.st n,_,_,h,_=>by simp[jI] at h
omit hR in
theorem Av:∀(l:List Ty) (p:jS R.T l) (vs:List V),l.all jI=true→ay R ρ top (gM R .any l p) vs→vs.map dw=encs R l p
 | [],_,vs,_,h=>by rw[ay.dO h];rfl
 | [t],x,vs,hl,h=>by
   obtain⟨v,l,rfl,h1,h2⟩:=ay.bX h
   rw[ay.dO h2,List.map_cons,Sc t x v (by simpa using hl) h1];rfl
 |t::u::l,p,vs,hl,h=>by
  rw[List.all_cons,Bool.and_eq_true] at hl
  obtain⟨v,ws,rfl,h1,h2⟩:=ay.bX h
  rw[List.map_cons,Sc t p.1 v hl.1 h1,Av (u::l) p.2 ws hl.2 h2];rfl
theorem ab6 (t:Ty) (x:Den R.T t) (vs:List V) (h:ay R ρ top (dN R .any t x).cells vs):vs.map dw=(aC R t x).cells:=by
 cases t with
 |st k=>
  have he:aC R (.st k) x= .agg (encs R (R.lf k) (R.of k x)):=hR.enc k x
  rw[he]
  exact Av _ _ vs (hR.leaf k) h
 |int k=>exact Av [.int k] x vs rfl h
 |bool=>exact Av [.bool] x vs rfl h
 |str=>exact Av [.str] x vs rfl h
 |slice t=>exact Av [.slice t] x vs rfl h
theorem Sd {t:Ty} {ρ:aK} {top:Nat→Nat}:∀(l:List (Den R.T t)) (cs:List V),ay R ρ top (l.flatMap fun x=>(dN R .any t x).cells) cs→cs.map dw=(l.map (aC R t)).flatMap V.cells
 | [],cs,h=>by rw[ay.dO h];rfl
 |x::l,cs,h=>by
  rw[List.flatMap_cons] at h
  obtain⟨a,b,rfl,h1,h2⟩:=h.split
  rw[List.map_append,Sd l b h2,List.map_cons,List.flatMap_cons,ab6 hR t x a h1]
theorem Si {t:Ty} (l:List (Den R.T t)):chunks (fK t) (bR R t) l.length ((l.map (aC R t)).flatMap V.cells)=l.map (aC R t):=by
 have:=Lj (fK t) (bR R t) (l.map (aC R t)) (fun v hv=>by
  obtain⟨x,_,rfl⟩:=List.mem_map.1 hv
  exact(Ao hR t x).1)
 rw[List.length_map] at this
 rw[this,List.map_map]
 refine List.map_congr_left fun x _=> ?_
 show (if fK t then V.agg (aC R t x).cells else (aC R t x).cells.headD aA)=aC R t x
 cases hs:fK t
 ·cases t<;>first|rfl| (simp[fK] at hs;done)
 ·obtain⟨c,hc⟩:=(Ao hR t x).2.2.2.1 hs
  rw[hc];rfl
theorem Sj {t:Ty} (l:List (Den R.T t)):(fK t||bR R t==1&& bn ((l.map (aC R t)).flatMap V.cells))=true:=by
 cases hs:fK t
 ·have h1:bR R t=1:=by cases t<;>first|rfl| (simp[fK] at hs;done)
  rw[h1]
  have:bn ((l.map (aC R t)).flatMap V.cells)=true:=by
   have:=Ll hR l
   unfold bn at this⊢
   rw[List.all_flatMap]
   exact this
  rw[this];rfl
 ·rfl
omit hR in
theorem Sl:∀(a b:List V),aY (a++b)=(aY a&& aY b)
 | [],b=>by simp[aY]
 |x::a,b=>by simp only[List.cons_append,aY];rw[Sl a b,Bool.and_assoc]
omit hR in
theorem Gv (k:IntKind):∀l:List Int,aY (l.map (V.int k))=true
 | []=>by simp[aY]
 |x::l=>by simp only[List.map_cons,aY,Kc,Bool.true_and];exact Gv k l
omit hR in
theorem Lx:∀ss:List Sg,aY (bf ss)=true
 | []=>by simp[bf,aY]
 |.i k x::ss=>by show aY (V.int k x::bf ss)=true;unfold aY;rw[Lx ss];simp[aD]
 |.a k n v::ss=>by
  show aY (v.l.map (V.int k)++bf ss)=true
  rw[Sl,Gv,Lx ss];rfl
omit hR in
theorem LA (ss:List Sg):aD (.agg (bf ss))=true:=by unfold aD;exact Lx ss
omit hR in
theorem Sm:∀(a b:List V),gy (a++b)=(gy a&& gy b)
 | [],b=>by simp[gy]
 |x::a,b=>by simp only[List.cons_append,gy];rw[Sm a b,Bool.and_assoc]
omit hR in
theorem Sn (k:IntKind):∀l:List Int,gy (l.map (V.int k))=true
 | []=>by simp[gy]
 |x::l=>by simp only[List.map_cons,gy,flat,Bool.true_and];exact Sn k l
omit hR in
theorem Gw:∀ss:List Sg,gy (bf ss)=true
 | []=>by simp[bf,gy]
 |.i k x::ss=>by show gy (V.int k x::bf ss)=true;unfold gy;rw[Gw ss];simp[flat]
 |.a k n v::ss=>by
  show gy (v.l.map (V.int k)++bf ss)=true
  rw[Sm,Sn,Gw ss];rfl
omit hR in
theorem ab7 (ss:List Sg):er (.agg (bf ss))= .agg (bf ss):=by
 have:∀ss:List Sg,(bf ss).map dw=bf ss:=by
  intro ss
  induction ss with
  |nil=>rfl
  |cons s ss ih=>
   cases s with
   |i k x=>show dw (.int k x)::(bf ss).map dw=_;rw[ih];rfl
   |a k n v=>
    show (v.l.map (V.int k)++bf ss).map dw=_
    rw[List.map_append,ih,List.map_map];rfl
 show V.agg ((bf ss).map dw)=_
 rw[this]
omit hR in
theorem mO:∀(a b:List Sg),bf (a++b)=bf a++bf b
 | [],b=>rfl
 |s::a,b=>by show s.vs++bf (a++b)=s.vs++bf a++bf b;rw[mO a b,List.append_assoc]
omit hR in
theorem Sg.len:∀s:Sg,s.vs.length=s.w
 |.i _ _=>rfl
 |.a _ n v=>by show (v.l.map _).length=n;rw[List.length_map,v.h]
omit hR in
theorem eX:∀ss:List Sg,(bf ss).length=gq ss
 | []=>rfl
 |s::ss=>by show (s.vs++bf ss).length=s.w+gq ss;rw[List.length_append,s.len,eX ss]
omit hR in
theorem qm:∀{ss:List Sg} {n:Nat} {a b:List Sg},lN ss n=some (a,b)→ss=a++b∧gq a=n
 |ss,0,a,b,h=>by
  have h':some (([]:List Sg),ss)=some (a,b):=by cases ss<;>exact h
  cases h';exact⟨rfl,rfl⟩
 | [],n+1,a,b,h=>by cases h
 |s::ss,n+1,a,b,h=>by
  unfold lN at h
  obtain⟨h1,h⟩:=bU h
  split at h
  ·rename_i a' b' h2
   cases h
   obtain⟨e,hw⟩:=qm h2
   have:=Nat.le_of_ble_eq_true h1
   refine⟨by rw[e];rfl, ?_⟩
   show s.w+gq a'=n+1
   omega
  ·cases h
omit hR in
theorem Gx {ρ:aK} {top:Nat→Nat} {k:IntKind}:∀{cs:List (TV R.T)} {xs:List Int} {vs:List V},vg k cs=some xs→ay R ρ top cs vs→vs=xs.map (V.int k)
 | [],xs,vs,h,hr=>by cases h;exact hr.dO
 |c::cs,xs,vs,h,hr=>by
  obtain⟨v,ws,rfl,h1,h2⟩:=hr.bX
  cases c<;>first| (exact absurd (show none=some xs from h) (by simp))|skip
  rename_i k' x
  have h':(if k'=k then (match vg k cs with
   |some xs=>some (x::xs)
   |none=>none) else none)=some xs:=h
  split at h'
  ·rename_i e;subst e
   split at h'
   ·rename_i ys hy
    cases h'
    rw[h1.dZ,Gx hy h2];rfl
   ·cases h'
  ·cases h'
omit hR in
theorem LB (k:IntKind):∀(l:List Int) (rest:List V),chunks false 1 l.length (l.map (V.int k)++rest)=l.map (V.int k)
 | [],rest=>rfl
 |x::l,rest=>by
  show V.int k x::chunks false 1 l.length (l.map (V.int k)++rest)=_
  rw[LB k l rest];rfl
omit hR in
theorem xM {n:Nat} {lo hi:Option Int} (h:oK n lo hi=true):(bP lo).toNat≤(dY n hi).toNat∧(dY n hi).toNat≤n∧((bP lo).toNat< (dY n hi).toNat∨(bP lo).toNat=0)∧0≤bP lo∧bP lo≤dY n hi:=by
 cases lo<;>cases hi<;>simp only[oK,bP,dY,decide_eq_true_eq] at h⊢ <;>omega
omit hR in
theorem ab8 {α:Type} {n:Nat} {lo hi:Option Int} (h:oK n lo hi=true) {l:List α} (hl:l.length=n):zB l lo hi=(l.drop (bP lo).toNat).take ((dY n hi).toNat-(bP lo).toNat):=by
 obtain⟨h1,h2,_⟩:=xM h
 cases lo<;>cases hi<;>simp only[zB,bP,dY] at*
 ·simp[hl];rw[List.take_of_length_le (by omega)]
 ·simp
 ·rw[List.take_of_length_le];rw[List.length_drop];omega
 ·rw[List.take_drop];congr 1;congr 1;omega
theorem Sq (hi:aB ρ b st fr σ) {o off n:Nat} {k:IntKind} {lo hi':Option Int} {l:List Int} (h:FJ st o off k n lo hi'=some l) {s:Nat} (hs:ρ.ob o=some s) (hB:oK n lo hi'=true):
 ∃cs,σ.bD (ρ.om.lc o) s=some cs∧off+n≤cs.length∧(cs.drop (off+(bP lo).toNat)).take ((dY n hi').toNat-(bP lo).toNat)=l.map (V.int k)∧l.length=(dY n hi').toNat-(bP lo).toNat:=by
 obtain⟨p1,p2,p3,_,_⟩:=xM hB
 have fin:∀(cs:List V) (xs:List Int),xs.length=n→(cs.drop off).take n=xs.map (V.int k)→off+n≤cs.length→l=zB xs lo hi'→(cs.drop (off+(bP lo).toNat)).take ((dY n hi').toNat-(bP lo).toNat)=l.map (V.int k)∧l.length=(dY n hi').toNat-(bP lo).toNat:=by
  intro cs xs hx hc hle hl
  rw[ab8 hB hx] at hl
  subst hl
  constructor
  ·rw[List.map_take,List.map_drop,←hc,List.drop_take,List.take_take,List.drop_drop]
   congr 1
   omega
  ·rw[List.length_take,List.length_drop];omega
 unfold FJ at h
 split at h
 ·rename_i ss hl
  obtain⟨s',h1,h2⟩:=hi.rd hl
  rw[hs] at h1;cases h1
  split at h
  ·rename_i pre k' n' v post hsp
   by_cases e:k'=k
   ·subst e
    rw[if_pos rfl] at h
    cases e2:Nat.beq n' n
    ·rw[e2] at h;cases h
    rw[e2] at h
    have e2:=dn e2
    subst e2
    obtain rfl:zB v.l lo hi'=l:=Option.some.inj h
    obtain⟨e3,hw⟩:=qm hsp
    refine⟨_,h2, ?_, ?_⟩
    ·rw[e3,eX]
     have:∀a b:List Sg,gq (a++b)=gq a+gq b:=fun a b=>by rw[←eX,mO,List.length_append,eX,eX]
     rw[this,hw]
     show off+n'≤off+(n'+gq post);omega
    ·refine fin _ v.l v.h ?_ ?_ rfl
     ·rw[e3,mO,List.drop_append_of_le_length (by rw[eX,hw];exact Nat.le_refl _),List.drop_of_length_le (by rw[eX,hw];exact Nat.le_refl _),List.nil_append]
      show ((v.l.map (V.int k'))++bf post).take n'=_
      rw[List.take_append_of_le_length (by rw[List.length_map,v.h];exact Nat.le_refl _),List.take_of_length_le (by rw[List.length_map,v.h];exact Nat.le_refl _)]
     ·rw[e3,mO,List.length_append,eX,hw,eX]
      show off+n'≤off+(n'+gq post);omega
   ·rw[if_neg e] at h;cases h
  ·cases h
 ·rename_i cs hl
  obtain⟨s',vs,h1,h2,h3⟩:=hi.rd hl
  rw[hs] at h1;cases h1
  obtain⟨hb,h⟩:=bU h
  have hb:=Nat.le_of_ble_eq_true hb
  split at h
  ·rename_i xs hx
   cases h
   have hv:=Gx hx ((h3.drop off).take n)
   have hlen:off+n≤vs.length:=by rw[h3.length];exact hb
   refine⟨vs,h2,hlen,fin vs xs ?_ hv hlen rfl⟩
   have:=congrArg List.length hv
   rw[List.length_map,List.length_take,List.length_drop] at this
   omega
  ·cases h
 ·cases h
theorem Sr (hi:aB ρ b st fr σ) {x:TV R.T} {v:V} (h:Rl R ρ σ.top x v):∃v',Rl R ρ σ.top (ru st x) v'∧∀n,aJ (n+3) σ v=aJ (n+3) σ v':=by
 by_cases hx:∃o off,x= .ref o off
 ·obtain⟨o,off,rfl⟩:=hx
  unfold ru
  dsimp only
  split
  ·rename_i cs hl
   obtain⟨s,h1,rfl⟩:=h.lT
   obtain⟨s',l,h2,h3,h4⟩:=hi.rd hl
   rw[h1] at h2;cases h2
   refine⟨.aH l off,by unfold Rl;exact⟨l,rfl,h4⟩,fun n=> ?_⟩
   rw[R8]
   conv=>lhs;unfold aJ
   simp only[aD,Bool.false_eq_true,if_false,h3,Option.bind_some]
  ·exact⟨v,h,fun _=>rfl⟩
 ·by_cases hy:∃o,x= .bq o
  ·obtain⟨o,rfl⟩:=hy
   unfold ru
   dsimp only
   split
   ·rename_i k e m hl
    obtain⟨s,h1,rfl⟩:=h.um
    obtain⟨s',h2,h3⟩:=hi.rd hl
    rw[h1] at h2;cases h2
    refine⟨.bL (m.map fun p=>aC R k p.1) (m.map fun p=>aC R e p.2),by unfold Rl;rfl,fun n=> ?_⟩
    have hp:=Lv hR m
    rw[iG hp]
    have hp':=hp
    simp only[aD,Bool.and_eq_true] at hp'
    have key:∀cs:List V,aY cs=true→cs.mapM (aJ (n+2) σ)=some cs:=by
     intro cs
     induction cs with
     |nil=>intro _;rfl
     |cons a l ih=>
      intro h
      simp only[aY,Bool.and_eq_true] at h
      rw[List.mapM_cons,iG h.1,ih h.2];rfl
    conv=>lhs;unfold aJ
    simp only[aD,Bool.false_eq_true,if_false,h3,Option.bind_some,key _ hp'.1,key _ hp'.2,Option.map_some]
   ·exact⟨v,h,fun _=>rfl⟩
  ·by_cases hz:∃o t,x= .vw o t
   ·obtain⟨o,t,rfl⟩:=hz
    unfold ru
    dsimp only
    split
    ·rename_i t' l hl
     split
     ·rename_i e
      subst e
      have hO:=hi.rd hl
      refine⟨.aj .sh (l.map (aC R t')),by unfold Rl;exact⟨.sh,rfl,rfl⟩,fun n=> ?_⟩
      rw[wX _ _ (nR hR t')]
      rcases h.xG with ⟨s,h1,rfl⟩| ⟨h1,h2⟩
      ·rcases hO.2 with h2| ⟨s',cs,h2,h3,h4⟩
       ·rw[h1] at h2;exact absurd h2.2 (by simp)
       ·rw[h1] at h2;cases h2
        have hlc:cs.length=l.length*bR R t':=by rw[h4.length,Dl]
        have hlen:l.length=ρ.ln o:=hO.1
        conv=>lhs;unfold aJ
        simp only[aD,Bool.false_eq_true,if_false,h3,Option.bind_some,Nat.zero_add,List.drop_zero]
        rw[if_pos (by rw[hlc,hlen];exact Nat.le_refl _),List.take_of_length_le (by rw[hlc,hlen];exact Nat.le_refl _),Sb hR l cs h4 n σ]
        simp only[Option.bind_some]
        rw[←hlen,Si hR l,Sj hR l,if_pos rfl]
        rfl
      ·have hl0:l=[]:=List.eq_nil_of_length_eq_zero (hO.1.trans h1)
       subst hl0
       rcases h2 with rfl|rfl<;>exact wX _ ([]:List (Den R.T t')) (nR hR t')
     ·exact⟨v,h,fun _=>rfl⟩
    ·exact⟨v,h,fun _=>rfl⟩
   ·by_cases hz2:∃o off k n lo hi,x= .sv o off k n lo hi
    ·obtain⟨o,off,k,n,lo,hi',rfl⟩:=hz2
     unfold ru
     dsimp only
     split
     ·rename_i l hl
      obtain⟨s,h1,hB,rfl⟩:=h.vJ
      obtain⟨cs,c1,c2,c3,c4⟩:=Sq hR hi hl h1 hB
      obtain⟨p1,p2,p3,_,_⟩:=xM hB
      refine⟨.aj .sh (l.map (V.int k)),by unfold Rl;exact⟨.sh,rfl,rfl⟩,fun m=> ?_⟩
      have hcl:aJ (m+3) σ (.aj .sh (l.map (V.int k)))=some (.aj .sh (l.map (V.int k))):=iG (by unfold aD;exact Gv k l)
      rw[hcl]
      conv=>lhs;unfold aJ
      simp only[aD,Bool.false_eq_true,if_false,c1,Option.bind_some,Nat.mul_one]
      rw[if_pos (by omega),c3]
      have key:∀cs:List V,aY cs=true→cs.mapM (aJ (m+2) σ)=some cs:=by
       intro cs
       induction cs with
       |nil=>intro _;rfl
       |cons a l ih=>
        intro h
        simp only[aY,Bool.and_eq_true] at h
        rw[List.mapM_cons,iG h.1,ih h.2];rfl
      rw[key _ (Gv k l)]
      simp only[Option.bind_some]
      have hone:bn (l.map (V.int k))=true:=by unfold bn;rw[List.all_map];simp[oneCell]
      rw[hone,←c4]
      have:=LB k l []
      rw[List.append_nil] at this
      rw[this];rfl
     ·exact⟨v,h,fun _=>rfl⟩
    ·have:ru st x=x:=by cases x<;>first|rfl|exact absurd ⟨_,_,rfl⟩ hx|exact absurd ⟨_,rfl⟩ hy|exact absurd ⟨_,_,rfl⟩ hz|exact absurd ⟨_,_,_,_,_,_,rfl⟩ hz2
     rw[this];exact⟨v,h,fun _=>rfl⟩
theorem Gy (hi:aB ρ b st fr σ):∀{x:List (TV R.T)} {v:List V},ay R ρ σ.top x v→∃v',ay R ρ σ.top (CB st x) v'∧∀n,v.mapM (aJ (n+3) σ)=v'.mapM (aJ (n+3) σ)
 | [],v,h=>by rw[h.dO];exact⟨[],rfl,fun _=>rfl⟩
 |x::xs,v,h=>by
  obtain⟨w,ws,rfl,h1,h2⟩:=h.bX
  obtain⟨w',a1,a2⟩:=Sr hR hi h1
  obtain⟨ws',b1,b2⟩:=Gy hi h2
  exact⟨w'::ws',.cons' a1 b1,fun n=>by rw[List.mapM_cons,List.mapM_cons,a2,b2]⟩
theorem ab9 (hi:aB ρ b st fr σ) {x:TV R.T} {v:V} (h:Rl R ρ σ.top x v):∃v',Rl R ρ σ.top (xk st x) v'∧∀n,aJ (n+4) σ v=aJ (n+4) σ v':=by
 by_cases hx:∃f a b,x= .fn f a b
 ·obtain⟨f,a,b,rfl⟩:=hx
  obtain⟨a',b',rfl,ha,hb⟩:=h.jY
  obtain⟨va,a1,a2⟩:=Gy hR hi ha
  obtain⟨vb,b1,b2⟩:=Gy hR hi hb
  refine⟨.fn (.func f) va vb,⟨va,vb,rfl,a1,b1⟩,fun n=> ?_⟩
  rw[Lu,Lu,a2,b2]
 ·by_cases hy:∃cs,x= .agg cs
  ·obtain⟨cs,rfl⟩:=hy
   obtain⟨l,rfl,hl⟩:=h.iK
   obtain⟨v',a1,a2⟩:=Gy hR hi hl
   refine⟨.agg v',by unfold xk;unfold Rl;exact⟨v',rfl,a1⟩,fun n=> ?_⟩
   rw[KV,KV,a2]
  ·have:xk st x=ru st x:=by cases x<;>first|rfl|exact absurd ⟨_,_,_,rfl⟩ hx|exact absurd ⟨_,rfl⟩ hy
   rw[this]
   obtain⟨v',h1,h2⟩:=Sr hR hi h
   exact⟨v',h1,fun n=>h2 (n+1)⟩
theorem Dm (hi:aB ρ b st fr σ):∀{x:List (TV R.T)} {v:List V},ay R ρ σ.top x v→∃v',ay R ρ σ.top (kV st x) v'∧∀n,v.mapM (aJ (n+4) σ)=v'.mapM (aJ (n+4) σ)
 | [],v,h=>by rw[h.dO];exact⟨[],rfl,fun _=>rfl⟩
 |x::xs,v,h=>by
  obtain⟨w,ws,rfl,h1,h2⟩:=h.bX
  obtain⟨w',a1,a2⟩:=ab9 hR hi h1
  obtain⟨ws',b1,b2⟩:=Dm hi h2
  exact⟨w'::ws',.cons' a1 b1,fun n=>by rw[List.mapM_cons,List.mapM_cons,a2,b2]⟩
mutual
theorem Sv:∀(k:Sk) (x:nM R.T k) (tv:TV R.T) (v:V),jv k=true→pk R k tv=some x→Rl R ρ top tv v→∀n σ,dep k≤n→aJ n σ v=some (encS R k x)
 |.d t,x,tv,v,_,h,hr,n,σ,hn=>by
  obtain⟨m,rfl⟩:∃m,n=m+3:=⟨n-3,by have:3≤n:=hn;omega⟩
  exact(KW hR (show lK R t tv=some x from h) hr).2.2.1 m σ
 |.l c t,x,tv,v,_,h,hr,n,σ,hn=>by
  obtain⟨m,rfl⟩:∃m,n=m+3:=⟨n-3,by have:3≤n:=hn;omega⟩
  obtain⟨c',rfl,_⟩:=(Rp (show FL R c t tv=some x from h) hr).iV
  exact wX _ _ (nR hR _)
 |.agg l,x,tv,v,hc,h,hr,n,σ,hn=>by
  cases tv<;>first| (exact absurd (show none=some x from h) (by simp))|skip
  rename_i cs
  obtain⟨vs,rfl,hl⟩:=hr.iK
  unfold dep at hn
  obtain⟨m,rfl⟩:∃m,n=m+2:=⟨n-2,by omega⟩
  rw[Qz,oV l x cs vs (by unfold jv at hc;exact hc) h hl (m+1) σ (by omega)];rfl
 |.aH l off,x,tv,v,hc,h,hr,n,σ,hn=>by
  cases tv<;>first| (exact absurd (show none=some x from h) (by simp))|skip
  rename_i cs off'
  have h':(bif Nat.beq off' off then eF R l cs else none)=some x:=h
  obtain⟨hb,h'⟩:=bU h'
  rw[dn hb] at hr
  obtain⟨vs,rfl,hl⟩:=hr.qj
  unfold dep at hn
  obtain⟨m,rfl⟩:∃m,n=m+2:=⟨n-2,by omega⟩
  rw[R8,oV l x cs vs (by unfold jv at hc;exact hc) h' hl (m+1) σ (by omega)];rfl
 |.bL k e,x,tv,v,_,h,hr,n,σ,hn=>by
  cases tv<;>first| (exact absurd (show none=some x from h) (by simp))|skip
  rename_i k' e' m
  obtain⟨e1,e2,e3⟩:=K5 (show zF R m=some x from h)
  subst e1;subst e2;cases e3
  obtain⟨m',rfl⟩:∃m,n=m+3:=⟨n-3,by have:3≤n:=hn;omega⟩
  rw[hr.Ac]
  exact iG (Lv hR m)
 |.fn f a b,x,tv,v,hc,h,hr,n,σ,hn=>by
  cases tv<;>first| (exact absurd (show none=some x from h) (by simp))|skip
  rename_i f' a' b'
  have h':(bif Nat.beq f' f then (match eF R a a' with
   |some x=>match eF R b b' with
    |some y=>some (x,y)
    |none=>none
   |none=>none) else none)=some x:=h
  obtain⟨hb,h'⟩:=bU h'
  rw[dn hb] at hr
  obtain⟨va,vb,rfl,ha,hbb⟩:=hr.jY
  unfold jv at hc
  rw[Bool.and_eq_true] at hc
  unfold dep at hn
  obtain⟨m,rfl⟩:∃m,n=m+2:=⟨n-2,by omega⟩
  cases h1:eF R a a' with
  |none=>simp only[h1] at h';cases h'
  |some y=>
   cases h2:eF R b b' with
   |none=>simp only[h1,h2] at h';cases h'
   |some z=>
    simp only[h1,h2] at h';cases h'
    rw[Lu,oV a y a' va hc.1 h1 ha (m+1) σ (by omega),oV b z b' vb hc.2 h2 hbb (m+1) σ (by omega)];rfl
 |.ref _ _,_,_,_,h,_,_,_,_,_=>by simp[jv] at h
 |.bq _,_,_,_,h,_,_,_,_,_=>by simp[jv] at h
 |.d9,_,_,_,h,_,_,_,_,_=>by simp[jv] at h
 |.vw _ _,_,_,_,h,_,_,_,_,_=>by simp[jv] at h
 |.sg l,x,tv,v,_,h,hr,n,σ,hn=>by
  cases tv<;>first| (exact absurd (show none=some x from h) (by simp))|skip
  rename_i ss
  obtain⟨m,rfl⟩:∃m,n=m+1:=⟨n-1,by have:3≤n:=hn;omega⟩
  rw[hr.Da]
  show _=some (V.agg (bf (qc l x)))
  rw[Gn (show tV l ss=some x from h)]
  exact iG (LA ss)
 |.undef,_,_,_,h,_,_,_,_,_=>by simp[jv] at h
theorem oV:∀(l:List Sk) (x:ak R.T l) (cs:List (TV R.T)) (vs:List V),gH l=true→eF R l cs=some x→ay R ρ top cs vs→∀n σ,lQ l≤n→vs.mapM (aJ n σ)=some (aI R l x)
 | [],x,cs,vs,_,h,hr,n,σ,hn=>by
   cases cs with
   |nil=>rw[hr.dO];rfl
   |cons c cs=>exact absurd (show none=some x from h) (by simp)
 | [k],x,cs,vs,hc,h,hr,n,σ,hn=>by
   unfold gH at hc
   rw[Bool.and_eq_true] at hc
   unfold lQ at hn
   cases cs with
   |nil=>exact absurd (show none=some x from h) (by simp)
   |cons c cs=>
    cases cs with
    |nil=>
     obtain⟨v,l,rfl,h1,h2⟩:=hr.bX
     rw[h2.dO,List.mapM_cons,Sv k x c v hc.1 h h1 n σ (by omega)];rfl
    |cons c' cs=>exact absurd (show none=some x from h) (by simp)
 |k::k'::l,x,cs,vs,hc,h,hr,n,σ,hn=>by
  unfold gH at hc
  rw[Bool.and_eq_true] at hc
  unfold lQ at hn
  cases cs with
  |nil=>exact absurd (show none=some x from h) (by simp)
  |cons c cs=>
   have h':(match pk R k c with
    |some x=>match eF R (k'::l) cs with
     |some p=>some (x,p)
     |none=>none
    |none=>none)=some x:=h
   obtain⟨v,vs,rfl,h1,h2⟩:=hr.bX
   cases hu:pk R k c with
   |none=>simp only[hu] at h';cases h'
   |some y=>
    cases hs:eF R (k'::l) cs with
    |none=>simp only[hu,hs] at h';cases h'
    |some q=>
     simp only[hu,hs] at h'
     obtain rfl:=Option.some.inj h'
     rw[List.mapM_cons,Sv k y c v hc.1 hu h1 n σ (by omega),oV (k'::l) q cs vs hc.2 hs h2 n σ (by omega)];rfl
end
mutual
theorem Gz:∀(tv:TV R.T) (v:V),iH tv=true→Rl R ρ top tv v→aD v=true
 |.int _ _,v,_,h=>by rw[h.dZ];exact Kc _ _
 |.bool _,v,_,h=>by rw[h.mK];exact Ke _
 |.fq _,v,_,h=>by rw[h.qh];exact Ke _
 |.str _,v,_,h=>by rw[h.jJ];exact Qv _
 |.dQ,v,_,h=>by unfold Rl at h;subst h;simp[aD]
 |.dJ,v,_,h=>by unfold Rl at h;subst h;simp[aD]
 |.dF,v,_,h=>by unfold Rl at h;subst h;simp[aD]
 |.dK,v,_,h=>by unfold Rl at h;subst h;simp[aD]
 |.aj c t l,v,hs,h=>by
  cases c<;>simp only[iH,Bool.false_eq_true] at hs
  obtain⟨c',rfl,hc⟩:=h.iV
  obtain rfl:c'= .sh:=hc
  exact Fx (nR hR t) l
 |.agg cs,v,hs,h=>by
  obtain⟨l,rfl,hl⟩:=h.iK
  unfold aD;exact vN cs l (by unfold iH at hs;exact hs) hl
 |.aT cs,v,hs,h=>by
  obtain⟨l,rfl,hl⟩:=h.Gh
  unfold aD;exact vN cs l (by unfold iH at hs;exact hs) hl
 |.bL k e m,v,_,h=>by rw[h.Ac];exact Lv hR m
 |.fn f a b,v,hs,h=>by
  obtain⟨a',b',rfl,ha,hb⟩:=h.jY
  unfold iH at hs
  rw[Bool.and_eq_true] at hs
  unfold aD;rw[vN a a' hs.1 ha,vN b b' hs.2 hb];rfl
 |.d9,_,hs,_=>by simp[iH] at hs
 |.ref _ _,_,hs,_=>by simp[iH] at hs
 |.aH cs off,v,hs,h=>by
  obtain⟨l,rfl,hl⟩:=h.qj
  unfold aD;exact vN cs l (by unfold iH at hs;exact hs) hl
 |.vw _ _,_,hs,_=>by simp[iH] at hs
 |.iq _ _ _ _,_,hs,_=>by simp[iH] at hs
 |.sg ss,v,_,h=>by rw[h.Da];exact LA ss
 |.sv _ _ _ _ _ _,_,hs,_=>by simp[iH] at hs
 |.sel _ _ _ _ _ _,_,hs,_=>by simp[iH] at hs
 |.nL _ _ _ _,_,hs,_=>by simp[iH] at hs
 |.bq _,_,hs,_=>by simp[iH] at hs
 |.opt _ _ _,_,hs,_=>by simp[iH] at hs
 |.undef,_,hs,_=>by simp[iH] at hs
 |.gone,_,hs,_=>by simp[iH] at hs
theorem vN:∀(l:List (TV R.T)) (vs:List V),mE l=true→ay R ρ top l vs→aY vs=true
 | [],vs,_,h=>by rw[h.dO];rfl
 |x::l,vs,hs,h=>by
  obtain⟨v,ws,rfl,h1,h2⟩:=h.bX
  unfold mE at hs
  rw[Bool.and_eq_true] at hs
  unfold aY;rw[Gz x v hs.1 h1,vN l ws hs.2 h2];rfl
end
theorem Sw {x:TV R.T} {v:V} (hs:CF x=true) (h:Rl R ρ top x v):aD (dw v)=true:=by
 have key:iH x=true→aD (dw v)=true:=fun hs=>by
  have:=Gz hR x v hs h
  cases v with
  |aj c l=>cases c<;>simp[aD] at this<;>simpa [dw,aD] using this
  |_=>exact this
 cases x<;>first|exact key hs|skip
 ·rw[h.nQ];simp[dw,aD,aY]
 ·obtain⟨c',rfl,hc⟩:=h.iV
  exact Fx (nR hR _) _
theorem Sy:∀{x:List (TV R.T)} {v:List V},FK x=true→ay R ρ top x v→aY (v.map dw)=true
 | [],vs,_,h=>by rw[h.dO];rfl
 |x::l,vs,hs,h=>by
  obtain⟨v,ws,rfl,h1,h2⟩:=h.bX
  unfold FK at hs
  rw[Bool.and_eq_true] at hs
  rw[List.map_cons];unfold aY;rw[Sw hR hs.1 h1,Sy hs.2 h2];rfl
theorem acd {x:TV R.T} {v:V} (hs:QE x=true) (h:Rl R ρ top x v):aD (er v)=true:=by
 by_cases hx:∃cs,x= .agg cs
 ·obtain⟨cs,rfl⟩:=hx
  obtain⟨l,rfl,hl⟩:=h.iK
  show aD (.agg (l.map dw))=true
  unfold aD;exact Sy hR hs hl
 ·by_cases hy:∃ss,x= .sg ss
  ·obtain⟨ss,rfl⟩:=hy
   rw[h.Da,ab7];exact LA ss
  have hs':CF x=true:=by cases x<;>first|exact hs|exact absurd ⟨_,rfl⟩ hx
  have h1:=Sw hR hs' h
  have hne:∀cs,v≠ .agg cs:=by
   rintro cs rfl
   cases x<;>first|exact hy ⟨_,rfl⟩| (unfold Rl at h;simp at h;done)|exact hx ⟨_,rfl⟩| (simp[CF,iH] at hs';done)
  rw[abe hne];exact h1
theorem Dn:∀{x:List (TV R.T)} {v:List V},vv x=true→ay R ρ top x v→v.all (fun a=>aD (er a))=true
 | [],vs,_,h=>by rw[h.dO];rfl
 |x::l,vs,hs,h=>by
  obtain⟨v,ws,rfl,h1,h2⟩:=h.bX
  unfold vv at hs
  rw[Bool.and_eq_true] at hs
  rw[List.all_cons,acd hR hs.1 h1,Dn hs.2 h2];rfl
theorem LC:∀(l:List Sk) (x:ak R.T l),zC l=true→gy (aI R l x)=true
 | [],x,_=>rfl
 | [k],x,h=>by
   cases k<;>simp only[zC,Bool.and_true,Bool.false_eq_true] at h
   ·rename_i t
    show (flat (aC R t x)&& gy [])=true
    cases t<;>simp only[Kq,Bool.false_eq_true] at h<;>rfl
   ·rename_i ks
    show (flat (.agg (bf (qc ks x)))&& gy [])=true
    unfold flat;rw[Gw];rfl
 |k::k'::l,x,h=>by
  cases k<;>simp only[zC,Bool.false_eq_true] at h
  ·rename_i t
   rw[Bool.and_eq_true] at h
   show (flat (aC R t x.1)&& gy (aI R (k'::l) x.2))=true
   rw[LC (k'::l) x.2 h.2]
   have:=h.1
   cases t<;>simp only[Kq,Bool.false_eq_true] at this<;>rfl
  ·rename_i ks
   show (flat (.agg (bf (qc ks x.1)))&& gy (aI R (k'::l) x.2))=true
   rw[LC (k'::l) x.2 h]
   unfold flat;rw[Gw];rfl
omit hR in
theorem ace {vs:List V} (h:gy vs=true):flat (bT vs)=true:=by
 match vs with
 | []=>simp[bT,flat,gy]
 | [v]=>simp only[gy,Bool.and_true] at h;exact h
 |v::w::vs=>show flat (.aT _)=true;unfold flat;exact h
mutual
theorem Sz:∀(k:Sk) (x:nM R.T k),jv k=true→Rl R ρ top (up R .sh k x) (encS R k x)
 |.d t,x,_=>QZ hR t x
 |.l c t,x,h=>by
  refine⟨.sh,rfl, ?_⟩
  cases c<;>first|trivial|rfl| (simp[jv] at h;done)
 |.agg l,x,h=>⟨_,rfl,vO l x (by unfold jv at h;exact h)⟩
 |.aH l off,x,h=>⟨_,rfl,vO l x (by unfold jv at h;exact h)⟩
 |.bL k e,x,_=>rfl
 |.fn f a b,x,h=>by
  unfold jv at h
  rw[Bool.and_eq_true] at h
  exact⟨_,_,rfl,vO a x.1 h.1,vO b x.2 h.2⟩
 |.ref _ _,_,h=>by simp[jv] at h
 |.bq _,_,h=>by simp[jv] at h
 |.d9,_,h=>by simp[jv] at h
 |.vw _ _,_,h=>by simp[jv] at h
 |.sg l,x,_=>rfl
 |.undef,_,h=>by simp[jv] at h
theorem vO:∀(l:List Sk) (x:ak R.T l),gH l=true→ay R ρ top (gN R .sh l x) (aI R l x)
 | [],_,_=>rfl
 | [k],x,h=>by
   unfold gH at h
   rw[Bool.and_eq_true] at h
   exact .cons' (Sz k x h.1) rfl
 |k::k'::l,x,h=>by
  unfold gH at h
  rw[Bool.and_eq_true] at h
  exact .cons' (Sz k x.1 h.1) (vO (k'::l) x.2 h.2)
end
omit hR in
theorem acf {x:List (TV R.T)} {v:List V} (h:ay R ρ top x v):Rl R ρ top (QJ R x) (bT v):=by
 match x,h with
 | [],h=>rw[h.dO];exact⟨[],rfl,rfl⟩
 | [a],h=>
   obtain⟨v,vs,rfl,h1,h2⟩:=h.bX
   rw[h2.dO];exact h1
 |a::b::l,h=>
  obtain⟨v,vs,rfl,h1,h2⟩:=h.bX
  obtain⟨w,ws,rfl,h3,h4⟩:=h2.bX
  exact⟨_,rfl,.cons' h1 (.cons' h3 h4)⟩
def SA:List V→List V
 |_::l=>.aj .nil []::l
 | []=>[]
def bG (E:Env) (F:Nat→List (FR R)):Prop:=∀f,∀r∈F f,∀p x,r.F p=some x→(gH r.args=true→Pure E f (aI R r.args p) (bT (aI R r.res x)))∧
 (r.own=true→∀(τ:Ty) (h:r.res=[.d (.slice τ)]) (l:List (Den R.T τ)),(h▸x:ak R.T [.d (.slice τ)])=l→
   (gH r.args=true→E.wE f=false∧uX E f (aI R r.args p) (bR R τ) (l.map (aC R τ)))∧
   (gH r.args=false→E.wE f=true∧uX E f (SA (aI R r.args p)) (bR R τ) (l.map (aC R τ))))
theorem SB {F:Nat→List (FR R)} (hF:bG E F) {f:Nat} {c:Call} {fo:Operand} {o:Oper} {au:Nat} {a' b':List V} (ho:o.op= .call c) (cZ:c.callee= .value fo) (hf:fr.ev E fo= .fn (.func f) a' b') (hi:E.imp f=false) {args:List (TV R.T)}
 (ha:ay R ρ σ.top args (a'++c.args.toList.map (fr.ev E)++b')) (hi':aB ρ b st fr σ):∀{l:List (FR R)} {r:bW R},(∀x∈l,x∈F f)→findF R args (kV st args) l=some r→oU E st ρ au fr σ o r
 | [],r,_,h=>by cases h
 |q::l,r,hl,h=>by
  unfold findF at h
  split at h
  ·rename_i p hp
   obtain⟨hc,h⟩:=bU h
   cases h
   simp only[Bool.and_eq_true] at hc
   obtain⟨⟨⟨c1,c2⟩,c3⟩,c4⟩:=hc
   intro x hx
   have hP:=(hF f q (hl q (by simp)) p x hx).1 c1
   obtain⟨vs',v1,v2⟩:=Dm hR hi' ha
   have Dp:=oV hR q.args p (kV st args) _ c1 hp v1 20 σ (by have:=Nat.le_of_ble_eq_true c2;omega)
   have has:=(v2 16).trans Dp
   have hcl:((a'++c.args.toList.map (fr.ev E)++b').all (fun x=>aD (er x))||flat (bT (aI R q.res x)))=true:=by
    rw[Bool.or_eq_true] at c4⊢
    rcases c4 with c4|c4
    ·exact .inl (Dn hR c4 ha)
    ·exact .inr (ace (LC hR _ _ c4))
   exact⟨bT (aI R q.res x),⟨fun cu _ _ _ hw h'=>OW.call hw ho cZ hf hi has hP hcl h' (RD ho cZ hf cu),fun cu _ _ _ _ _ hw h'=>bJ.call hw ho cZ hf hi has hP hcl h' (RD ho cZ hf cu)⟩,acf (vO hR _ _ c3)⟩
  ·exact SB hF ho cZ hf hi ha hi' (fun x hx=>hl x (by simp[hx])) h
theorem acg {t:TypeId} {x i:TV R.T} {v w:V} {r:bW R} (h:KE E R t x i=some r) (hx:Rl R ρ top x v) (hi:Rl R ρ top i w):lW ρ top (kM E.P t v w) r:=by
 unfold KE at h
 split at h
 ·rename_i e c u l k n hu
  split at h
  ·rename_i sz hs
   obtain⟨hb,h⟩:=bU h
   cases h
   have:=dn hb;subst this
   obtain⟨c',rfl,_⟩:=hx.iV
   rw[hi.dZ]
   intro a ha
   refine⟨.aH (aC R u a).cells 0, ?_, ?_⟩
   ·rw[Kg,if_pos (by unfold qb;rw[hu])]
    have:iA E.P t=some e:=by unfold iA;rw[hu]
    rw[this];simp only[Option.bind_some,hs,ha]
    rw[if_pos (Ao hR u a).1]
   ·unfold Rl
    refine⟨_,rfl,(rF ?_ (QZ hR u a)).1⟩
    cases u<;>rfl
  ·cases h
 ·rename_i n e o off k m hu
  split at h
  ·rename_i sz hs
   cases h
   obtain⟨s,h1,rfl⟩:=hx.lT
   rw[hi.dZ]
   intro hc
   have hc':0≤m∧m<n:=of_decide_eq_true hc
   refine⟨.ref (ρ.om.lc o) s (off+m.toNat*sz), ?_,by unfold Rl;exact⟨s,h1,rfl⟩⟩
   unfold kM;rw[hu];dsimp only;rw[hs]
   simp[idx,jO,hc']
  ·cases h
 ·rename_i n e cs off k m hu
  split at h
  ·rename_i sz hs
   cases h
   obtain⟨l,rfl,h1⟩:=hx.qj
   rw[hi.dZ]
   intro hc
   have hc':0≤m∧m<n:=of_decide_eq_true hc
   refine⟨.aH l (off+m.toNat*sz), ?_,by unfold Rl;exact⟨l,rfl,h1⟩⟩
   unfold kM;rw[hu];dsimp only;rw[hs]
   simp[idx,jO,hc']
  ·cases h
 ·cases h
omit hR in
theorem ach {t:TypeId} {x i:TV R.T} {v w:V} {r:bW R} (h:KI E R t x i=some r) (hx:Rl R ρ top x v) (hi:Rl R ρ top i w):lW ρ top (sN E.P t v w) r:=by
 unfold KI at h
 split at h
 ·rename_i s k n hu
  cases h
  rw[hx.jJ,hi.dZ]
  intro a ha
  refine⟨.int .u8 ((a.toNat:Nat):Int), ?_,by unfold Rl;rfl⟩
  rw[QD (by unfold Ct;rw[hu]),ha];rfl
 ·cases h
end
end Aq
end
