/- Part of the proof of a law. -/
import Derived.Test.YtdcnajadcbedkaaGreatDoorS608
set_option linter.all false
set_option linter.unusedSimpArgs false
set_option linter.unusedSectionVars false
section
namespace Aq
open Go
set_option linter.unusedSectionVars false
set_option linter.unusedVariables false
section
variable {R:gB} {E:Env}
variable {ρ:aL} {top:Nat→Nat}
def nu (ρ:aL) (top:Nat→Nat) (v:Option V):dI R→Prop
 |.t x=> ∃y,v=some y∧Rl R ρ top x y
 |.c c x=>c=true→∃y,v=some y∧Rl R ρ top x y
 |.p _ _ o f=> ∀a,o=some a→∃y,v=some y∧Rl R ρ top (f a) y
 |_=>False
theorem Xc {op:BinOp} {k:IntKind} {x y:Int} {r:dI R} (h:Ji R op k x y=some r):nu ρ top (je op k x y) r:=by
 unfold Ji at h
 cases op<;>cases h<;>first
  |exact⟨_,rfl,by unfold Rl;rfl⟩
  | (intro hc
     have hy:¬y=0:=by simpa using hc
     exact⟨_,if_neg hy,by unfold Rl;rfl⟩)
theorem agu {op:BinOp} {k:IntKind} {x y:Int} {r:dI R} (h:Pf R op k x y=some r):nu ρ top (CB op k x y) r:=by
 unfold Pf at h
 cases op<;>cases h<;>
  (intro hc
   have hy:¬y<0:=by have:=of_decide_eq_true hc;omega
   exact⟨_,if_neg hy,by unfold Rl;rfl⟩)
theorem agv {op:BinOp} {x y:List UInt8} {r:dI R} (h:Pg R op x y=some r):nu ρ top (uP op x y) r:=by
 unfold Pg at h
 cases op<;>cases h<;>first
  |exact⟨_,rfl,by unfold Rl;rfl⟩
  | (intro hc
     have hy:¬((x.length+y.length:Nat):Int)>IntKind.i64.max:=by have:=of_decide_eq_true hc;omega
     exact⟨_,if_neg hy,by unfold Rl;rfl⟩)
theorem agw {P:Program} {op:BinOp} {t:TypeId} {k:IntKind} {a b:Int} (h:zN op=false):lX P op t (.int k a) (.int k b)=je op k a b:=by
 cases op<;>first| (simp[zN] at h;done)|simp[lX]
theorem agx {P:Program} {op:BinOp} {t:TypeId} {k k':IntKind} {a b:Int} (h:zN op=true):lX P op t (.int k a) (.int k' b)=CB op k a b:=by
 cases op<;>first| (simp[zN] at h;done)|rfl
theorem agy {P:Program} {op:BinOp} {t:TypeId} {a b:List UInt8}:lX P op t (.str a) (.str b)=uP op a b:=by
 cases op<;>rfl
theorem agz {P:Program} {t:TypeId} {x y:V} {b:Bool} (h:nE P t x y=some b):(∀k n k' m,x= .int k n→y= .int k' m→False)∧∀s s',x= .str s→y= .str s'→False:=by
 unfold nE at h
 constructor
 ·intro k n k' m hx hy;subst hx;subst hy;split at h<;>simp_all
 ·intro s s' hx hy;subst hx;subst hy;split at h<;>simp_all
theorem Xd {P:Program} {t:TypeId} {x y:V} {b:Bool} (h:nE P t x y=some b):lX P .eql t x y=some (.bool b)∧lX P .neq t x y=some (.bool !b):=by
 obtain⟨h1,h2⟩:=agz h
 constructor
 all_goals
  unfold lX
  split
  ·rename_i he;cases he
  ·rename_i he;cases he
  ·exact(h1 _ _ _ _ rfl rfl).elim
  ·exact(h2 _ _ rfl rfl).elim
  all_goals first| (rw[h];rfl)| (rename_i he;cases he)|simp_all
theorem agA {op:BinOp} {t:TypeId} {x y:TV R.T} {v w:V} {r:dI R} (h:Ph E R op t x y=some r) (hx:Rl R ρ top x v) (hy:Rl R ρ top y w):nu ρ top (lX E.P op t v w) r:=by
 unfold Ph at h
 split at h
 ·rename_i k a k' b
  rw[hx.fC,hy.fC]
  cases hs:zN op
  ·rw[hs,cond_false] at h
   split at h
   ·rename_i e;subst e;rw[agw hs];exact Xc h
   ·cases h
  ·rw[hs,cond_true] at h;rw[agx hs];exact agu h
 ·rw[hx.lq,hy.lq,agy];exact agv h
 ·split at h
  ·split at h
   ·rename_i b hb;cases h
    exact⟨_,(Xd (Xb hb hx hy)).1,by unfold Rl;rfl⟩
   ·cases h
  ·split at h
   ·rename_i b hb;cases h
    exact⟨_,(Xd (Xb hb hx hy)).2,by unfold Rl;rfl⟩
   ·cases h
  ·cases h
theorem agB {op:UnOp} {x:TV R.T} {v:V} {r:dI R} (h:Pj R op x=some r) (hx:Rl R ρ top x v):nu ρ top (wJ op v) r:=by
 unfold Pj at h
 split at h
 ·cases h;rw[hx.fC];exact⟨_,rfl,by unfold Rl;rfl⟩
 ·rw[hx.fC];exact Xc h
 ·cases h;rw[hx.oW];exact⟨_,rfl,by unfold Rl;rfl⟩
 ·cases h;rw[hx.qN];exact⟨_,rfl,by unfold Rl;rfl⟩
 ·cases h
theorem Xe (s:List UInt8):s.map kT=List.map (aG R (.int .u8)) (s.map fun b=>((b.toNat:Nat):Int)):=by
 show s.map kT=List.map (fun n:Int=>V.int .u8 n) (List.map (fun b:UInt8=>((b.toNat:Nat):Int)) s)
 rw[List.map_map];rfl
theorem Qg:∀l:List Int,(List.map (aG R (.int .u8)) l).mapM wK=some (List.map (fun n:Int=>UInt8.ofNat n.toNat) l)
 | []=>rfl
 |n::l=>by
  show List.mapM wK (V.int .u8 n::List.map (aG R (.int .u8)) l)=_
  rw[List.mapM_cons,Qg l];rfl
theorem agC {a b:TypeId} {x:TV R.T} {v:V} {σ:ah} {r:dI R} (h:Jj E R a b x=some r) (hx:Rl R ρ top x v):nu ρ top (sP E.P σ a b v) r:=by
 unfold Jj at h
 unfold sP
 split at h
 ·rename_i hu hv;cases h;rw[hx.fC,hu,hv];exact⟨_,rfl,by unfold Rl;rfl⟩
 ·rename_i hu hv;cases h;rw[hx.lq,hu,hv];exact⟨_,rfl,by unfold Rl;rfl⟩
 ·rename_i hu hv
  rw[hx.lq,hu,hv]
  split at h
  ·rename_i he;cases h
   dsimp only;rw[he]
   exact⟨_,rfl,by unfold Rl;exact⟨.sh,by rw[Xe],trivial⟩⟩
  ·cases h
 ·rename_i l hu hv
  obtain⟨c',rfl,_⟩:=hx.jU
  rw[hu,hv]
  split at h
  ·rename_i he;cases h
   dsimp only;rw[he]
   exact⟨_,congrArg (Option.map V.str) (Qg (R:=R) l),by unfold Rl;rfl⟩
  ·cases h
 ·rename_i hu hv
  rw[hx.nV,hu,hv]
  split at h
  ·rename_i he;cases h
   dsimp only;rw[he]
   exact⟨_,rfl,by unfold Rl;rfl⟩
  ·cases h
 ·cases h
theorem JJ {x:Option (TV R.T)} {v:Option V} {i:Option Int} (h:zO R x=some i) (hx:∀y,x=some y→∃w,v=some w∧Rl R ρ top y w) (hn:x=none→v=none):(i=none∧v=none)∨∃n k,i=some n∧v=some (.int k n):=by
 unfold zO at h
 split at h
 ·cases h;exact .inl ⟨rfl,hn rfl⟩
 ·rename_i k n
  cases h
  obtain⟨w,rfl,hw⟩:=hx _ rfl
  exact .inr ⟨n,k,rfl,by rw[hw.fC]⟩
 ·cases h
theorem oZ {k:IntKind} {n:Int} {m:Nat} (h:jr n m=true):bnd (.int k n) m=some n.toNat:=by
 unfold jr at h
 have:=of_decide_eq_true h
 simp[bnd,kF,this]
theorem Xf {α:Type} (l:List α) {lo hi:Option Int} {vl vh:Option V} (hl:(lo=none∧vl=none)∨∃n k,lo=some n∧vl=some (.int k n)) (hh:(hi=none∧vh=none)∨∃n k,hi=some n∧vh=some (.int k n)) (hb:Pk l.length lo hi=true):
 ∃a c,jf l.length l.length vl vh none=some (a,c,l.length)∧(l.take c).drop a=nS l lo hi:=by
 rcases hl with ⟨rfl,rfl⟩| ⟨n,k,rfl,rfl⟩<;>rcases hh with ⟨rfl,rfl⟩| ⟨m,k',rfl,rfl⟩
 ·exact⟨0,l.length,rfl,by simp[nS]⟩
 ·have h1:jr m l.length=true:=hb
  exact⟨0,m.toNat,by simp[jf,oZ h1],by simp[nS]⟩
 ·have h1:jr n l.length=true:=hb
  exact⟨n.toNat,l.length,by simp[jf,oZ h1],by simp[nS]⟩
 ·have h1:(jr m l.length&& jr n m.toNat)=true:=hb
  rw[Bool.and_eq_true] at h1
  exact⟨n.toNat,m.toNat,by simp[jf,oZ h1.1,oZ h1.2],by simp[nS]⟩
theorem Qh {α:Type} (f:α→V) (l:List α) (a c:Nat):((l.map f).take c).drop a=((l.take c).drop a).map f:=by simp
variable (hR:mh R)
include hR
theorem Au (t:Ty) (x:Den R.T t):(aG R t x).cells.length=cB R t∧bg (aG R t x).cells=true∧er (aG R t x)=aG R t x∧(gF t=true→∃l,aG R t x= .agg l)∧(gF t=false→(aG R t x).cells=[aG R t x]):=by
 cases t with
 |int k=>exact⟨rfl,rfl,rfl,by simp[gF],fun _=>rfl⟩
 |bool=>exact⟨rfl,rfl,rfl,by simp[gF],fun _=>rfl⟩
 |str=>exact⟨rfl,rfl,rfl,by simp[gF],fun _=>rfl⟩
 |slice t=>exact⟨rfl,rfl,rfl,by simp[gF],fun _=>rfl⟩
 |st n=>
  have he:aG R (.st n) x= .agg (encs R (R.lf n) (R.of n x)):=hR.enc n x
  rw[he]
  have hl:=hR.leaf n
  have key:∀(l:List Ty) (p:lK R.T l),l.all mg=true→bg (encs R l p)=true∧(encs R l p).map eU=encs R l p:=by
   intro l
   induction l with
   |nil=>intro p _;exact⟨rfl,rfl⟩
   |cons t l ih=>
    intro p h
    rw[List.all_cons,Bool.and_eq_true] at h
    have h1:∀y:Den R.T t,oneCell (aG R t y)=true∧eU (aG R t y)=aG R t y:=by
     intro y
     cases t<;>first|exact⟨rfl,rfl⟩| (have:=h.1;simp[mg] at this)
    cases l with
    |nil=>exact⟨by simp[encs,bg,(h1 p).1],by simp[encs,(h1 p).2]⟩
    |cons u l=>
     have:=ih p.2 h.2
     exact⟨by show (oneCell _&& bg (encs R (u::l) p.2))=true;rw[(h1 p.1).1,this.1];rfl,by show eU _::List.map eU (encs R (u::l) p.2)=_;rw[(h1 p.1).2,this.2];rfl⟩
  have:=key (R.lf n) (R.of n x) hl
  exact⟨PU _ _,this.1,by show V.agg (List.map eU _)=_;rw[this.2],fun _=>⟨_,rfl⟩,by simp[gF]⟩
theorem Eb {t:Ty} (l:List (Den R.T t)):kU (cB R t) (l.map (aG R t))=true:=by
 cases l with
 |nil=>rfl
 |cons x l=>show ((aG R t x).cells.length==cB R t)=true;rw[(Au hR t x).1];simp
theorem JK {t:TypeId} {x:TV R.T} {lo hi:Option (TV R.T)} {v:V} {vl vh:Option V} {σ:ah} {r:dI R} (h:vI E R t x lo hi=some r) (hx:Rl R ρ top x v)
 (hl:∀y,lo=some y→∃w,vl=some w∧Rl R ρ top y w) (hln:lo=none→vl=none) (hh:∀y,hi=some y→∃w,vh=some w∧Rl R ρ top y w) (hhn:hi=none→vh=none):nu ρ top (kG E.P σ t v vl vh none) r:=by
 unfold vI at h
 split at h
 ·rename_i lo' hi' e1 e2
  have b1:=JJ e1 hl hln
  have b2:=JJ e2 hh hhn
  split at h
  ·rename_i s hu
   cases h
   rw[hx.lq]
   intro hc
   obtain⟨a,c,h1,h2⟩:=Xf s b1 b2 hc
   refine⟨.str (nS s lo' hi'), ?_,by unfold Rl;rfl⟩
   unfold kG;rw[hu];dsimp only;rw[h1];simp[h2]
  ·rename_i e c u l hu
   split at h
   ·rename_i sz hs
    cases hb:Nat.beq sz (cB R u)
    ·rw[hb] at h;cases h
    ·rw[hb,cond_true] at h;cases h
     have:=dK hb;subst this
     obtain⟨c',rfl,_⟩:=hx.jU
     intro hc
     obtain⟨a,m,h1,h2⟩:=Xf l b1 b2 hc
     unfold kG;rw[hu];dsimp only
     rw[hs];simp only[Option.bind_some,List.length_map,h1,Eb hR,if_true]
     by_cases hcs:a=0∧m=l.length∧(none:Option V).isNone=true
     ·refine⟨_,by rw[if_pos hcs], ?_⟩
      unfold Rl
      refine⟨c', ?_,trivial⟩
      rw[←h2,hcs.1,hcs.2.1];simp
     ·refine⟨_,by rw[if_neg hcs], ?_⟩
      unfold Rl
      exact⟨_,by rw[←h2,Qh],trivial⟩
   ·cases h
  ·cases h
 ·cases h
theorem JL {t:TypeId} {k:Ty} (hk:tK E t k=true) (x y:Den R.T k):kS (aG R k x) (aG R k y)=some (kr R k x y)∧jO E.P t (aG R k x)=true:=by
 unfold tK at hk
 split at hk
 ·rename_i hu;exact⟨by simp[kS,aG,kr],by unfold jO;rw[hu];rfl⟩
 ·rename_i hu;exact⟨rfl,by unfold jO;rw[hu];rfl⟩
 ·rename_i hu;exact⟨rfl,by unfold jO;rw[hu];rfl⟩
 ·cases hk
theorem Xg {t:TypeId} {k e:Ty} (hk:tK E t k=true) (x:Den R.T k):∀m:List (Den R.T k×Den R.T e),mE (aG R k x) (m.map fun p=>aG R k p.1) (m.map fun p=>aG R e p.2)=some ((xq (kr R k) x m).map (aG R e))
 | []=>rfl
 | (a,v)::m=>by
   show (kS (aG R k x) (aG R k a)).bind _=some ((bif kr R k x a then some v else xq (kr R k) x m).map (aG R e))
   rw[(JL hR hk x a).1,Option.bind_some]
   cases kr R k x a
   ·exact Xg hk x m
   ·rfl
theorem Xh {t:TypeId} {k e:Ty} (hk:tK E t k=true) (x:Den R.T k) (v:Den R.T e):∀m:List (Den R.T k×Den R.T e),qW (aG R k x) (aG R e v) (m.map fun p=>aG R k p.1) (m.map fun p=>aG R e p.2)=
 some ((vJ (kr R k) x v m).map (fun p=>aG R k p.1),(vJ (kr R k) x v m).map fun p=>aG R e p.2)
 | []=>rfl
 | (a,w)::m=>by
   show (kS (aG R k x) (aG R k a)).bind _=_
   rw[(JL hR hk x a).1,Option.bind_some]
   show _=some (List.map _ (bif kr R k x a then (x,v)::m else (a,w)::vJ (kr R k) x v m),List.map _ (bif kr R k x a then (x,v)::m else (a,w)::vJ (kr R k) x v m))
   cases kr R k x a
   ·simp only[Bool.false_eq_true,if_false,cond_false]
    rw[Xh hk x v m];rfl
   ·rfl
theorem Xi {t:TypeId} {k:Ty} (hk:tK E t k=true) {x:Den R.T k} {y:TV R.T} {v:V} (h:mR R k y=some x) (hr:Rl R ρ top y v):v=aG R k x:=by
 unfold tK at hk
 split at hk
 ·exact PN h hr
 ·exact PS h hr
 ·exact PO h hr
 ·cases hk
omit hR in
def mapOf (σ:ah):V→Option (List V×List V)
 |.dS=>some ([],[])
 |.bK loc s=>σ.eG loc s
 |.dn ks vs=>some (ks,vs)
 |_=>none
omit hR in
theorem Xj {P:Program} {σ:ah} {t:TypeId} {m k:V} {ok:Bool}:qX P σ t m k ok=(pG P t).bind fun p=>if jO P p.1 k then (mapOf σ m).bind fun q=>(mE k q.1 q.2).bind fun r=>
 (match r with|some v=>some (v,true)|none=>(fP P p.2).map fun z=>(z,false)).map fun (x:V×Bool)=>if ok then .bB [x.1,.bool x.2] else x.1 else none:=by
 cases m<;>rfl
theorem Qi {t:TypeId} {k e:Ty} {m:List (Den R.T k×Den R.T e)} {y:TV R.T} {w mv:V} {ok:Bool} {σ:ah} {r:dI R} (h:DL E R t k e m y ok=some r) (hy:Rl R ρ top y w)
 (hm:mapOf σ mv=some (m.map (fun p=>aG R k p.1),m.map fun p=>aG R e p.2)):nu ρ top (qX E.P σ t mv w ok) r:=by
 unfold DL at h
 split at h
 ·rename_i kt et ht
  cases hk:tK E kt k
  ·rw[hk] at h;cases h
  ·rw[hk,cond_true] at h
   split at h
   ·rename_i z hz
    split at h
    ·rename_i z' x hz' hx
     cases h
     have hw:=Xi hR hk hx hy
     subst hw
     obtain⟨zv,hzv,Qj⟩:=Ar (ρ:=ρ) (top:=top) hz
     have agD:=D7 hR hz' Qj
     rw[Xj,ht];simp only[Option.bind_some]
     rw[if_pos (JL hR hk x x).2,hm]
     simp only[Option.bind_some]
     rw[Xg hR hk x m]
     simp only[Option.bind_some]
     cases hg:xq (kr R k) x m with
     |some v=>
      simp only[Option.map_some]
      cases ok
      ·exact⟨_,rfl,JD hR .any (.inl rfl) e v⟩
      ·refine⟨_,rfl, ?_⟩
       rw[cond_true]
       unfold Rl
       exact⟨_,rfl,.cons' (JD hR .any (.inl rfl) e v) (.cons' (by unfold Rl;rfl) rfl)⟩
     |none=>
      simp only[Option.map_none,hzv,Option.map_some]
      have hz3:Rl R ρ top (eO R .any e z') zv:=agD
      cases ok
      ·exact⟨_,rfl,hz3⟩
      ·refine⟨_,rfl, ?_⟩
       rw[cond_true]
       unfold Rl
       exact⟨_,rfl,.cons' hz3 (.cons' (by unfold Rl;rfl) rfl)⟩
    ·cases h
   ·cases h
 ·cases h
end
end Aq
end
section
namespace Aq
open Go
set_option linter.unusedSectionVars false
set_option linter.unusedVariables false
section
variable {R:gB} {E:Env}
variable {ρ:aL} {top:Nat→Nat} {b:Nat} {st:MS R.T} {fr:Fr} {σ:ah}
theorem dD.{u} {α:Type u} {c:Bool} {o:Option α} {y:α} (h:(bif c then o else none)=some y):c=true∧o=some y:=by
 cases c
 ·cases h
 ·exact⟨rfl,h⟩
theorem JM {t e:TypeId} {u:Ty} {sz dB:Nat} (h:zQ E R t=some (e,u,sz,dB)):∃z,gQ E.P t=some e∧bG E.P e=some sz∧nC E.P e=some dB∧gq E.P e=some (gF u)∧fP E.P e=some z∧
 sz=cB R u∧0<sz∧(gF u||sz==1)=true∧z.cells.length=sz:=by
 unfold zQ at h
 split at h
 ·rename_i e' he
  split at h
  ·rename_i u' sz' by' ag z h1 h2 h3 h4 h5
   obtain⟨hc,h⟩:=dD h
   cases h
   simp only[Bool.and_eq_true] at hc
   obtain⟨⟨⟨⟨c1,c2⟩,c3⟩,c4⟩,c5⟩:=hc
   have:ag=gF u:=by simpa using c5
   subst this
   refine⟨z,he,h2,h3,h4,h5,dK c1,Nat.le_of_ble_eq_true c2, ?_,dK c4⟩
   rw[Bool.or_eq_true] at c3⊢
   rcases c3 with c3|c3
   ·exact .inl c3
   ·exact .inr (by rw[dK c3];rfl)
  ·cases h
 ·cases h
theorem Qk (ag:Bool) (sz:Nat):∀vs:List V,(∀v∈vs,v.cells.length=sz)→chunks ag sz vs.length (vs.flatMap V.cells)=vs.map fun v=>if ag then .agg v.cells else v.cells.headD aC
 | [],_=>rfl
 |v::vs,h=>by
  have h1:=h v (by simp)
  have h2:=Qk ag sz vs (fun w hw=>h w (by simp[hw]))
  show _::chunks ag sz vs.length ((v.cells++vs.flatMap V.cells).drop sz)=_
  rw[List.drop_left' h1,h2,List.map_cons]
  congr 1
  cases ag
  ·simp only[Bool.false_eq_true,if_false]
   show (v.cells++vs.flatMap V.cells).headD aC=_
   cases hv:v.cells with
   |nil=>
    have h0:sz=0:=by rw[←h1,hv];rfl
    cases vs with
    |nil=>rfl
    |cons w vs=>
     have:w.cells=[]:=List.eq_nil_of_length_eq_zero (by rw[h w (by simp),h0])
     simp only[List.flatMap_cons,this,List.nil_append]
     have:∀vs:List V,(∀v∈vs,v.cells.length=sz)→vs.flatMap V.cells=[]:=by
      intro vs hvs
      rw[List.flatMap_eq_nil_iff]
      intro x hx;exact List.eq_nil_of_length_eq_zero (by rw[hvs x hx,h0])
     rw[this vs (fun x hx=>h x (by simp[hx]))]
   |cons a l=>rfl
  ·simp only[if_true]
   show V.agg ((v.cells++vs.flatMap V.cells).take sz)=_
   rw[List.take_left' h1]
variable (hR:mh R)
include hR
theorem agE {t:Ty} {x:Den R.T t} {v:V} (h:er v=aG R t x):dx v=true:=by
 cases v<;>try rfl
 have h1:=ng hR t x
 rw[←h] at h1
 simp[er,aF] at h1
theorem Xk {u:Ty} {sz len:Nat} (hsz:sz=cB R u):∀(ps:List (Nat×TV R.T)) (qs:List (Nat×V)) (xs:List (Den R.T u)) (n:Nat) (done rest:List V),vK R u n ps=some xs→ps.map (·.1)=qs.map (·.1)→
 aA R ρ top (ps.map (·.2)) (qs.map (·.2))→done.length=n*sz→rest.length=xs.length*sz→n+xs.length≤len→
 ∃vs:List V,nD (fun i=>if i<len then some (i*sz,sz) else none) (done++rest) qs=some (done++vs.flatMap V.cells)∧vs.length=xs.length∧vs.map er=xs.map (aG R u)∧(∀v∈vs,v.cells.length=sz∧bg v.cells=true)
 | [],[],xs,n,done,rest,h,_,_,h1,h2,_=>by
   cases h
   have:rest=[]:=List.eq_nil_of_length_eq_zero (by simpa using h2)
   subst this
   exact⟨[],by simp[nD],rfl,rfl,by simp⟩
 | [],_::_,_,_,_,_,_,h,_,_,_,_=>by simp at h
 |_::_,[],_,_,_,_,_,h,_,_,_,_=>by simp at h
 | (i,v)::ps,(j,w)::qs,xs,n,done,rest,h,hi,hr,h1,h2,h3=>by
   simp only[List.map_cons,List.cons.injEq] at hi
   obtain⟨rfl,hi⟩:=hi
   obtain⟨y,ys,e,g1,g2⟩:=hr.dJ
   simp only[List.map_cons,List.cons.injEq] at e
   obtain⟨rfl,rfl⟩:=e
   unfold vK at h
   cases hb:Nat.beq i n
   ·rw[hb] at h;cases h
   ·rw[hb,cond_true] at h
    have:=dK hb;subst this
    cases hu:mR R u v with
    |none=>simp only[hu] at h;cases h
    |some x=>
     cases hs:vK R u (i+1) ps with
     |none=>simp only[hu,hs] at h;cases h
     |some xs'=>
      simp only[hu,hs] at h
      obtain rfl:=Option.some.inj h
      obtain⟨a1,a2,a3,a4,a5⟩:=PW hR hu g1
      rw[←hsz] at a4
      have hlen:rest.length=sz+xs'.length*sz:=by rw[h2,List.length_cons,Nat.succ_mul];omega
      have q1:(done++w.cells).length=(i+1)*sz:=by rw[List.length_append,h1,a4,Nat.succ_mul]
      have q2:(rest.drop sz).length=xs'.length*sz:=by rw[List.length_drop,hlen,Nat.add_sub_cancel_left]
      have q3:i+1+xs'.length≤len:=by rw[List.length_cons] at h3;omega
      obtain⟨vs,k1,k2,k3,k4⟩:=Xk hsz ps qs xs' (i+1) (done++w.cells) (rest.drop sz) hs hi g2 q1 q2 q3
      refine⟨w::vs, ?_,by simp[k2],by simp[a1,k3], ?_⟩
      ·simp only[List.length_cons] at h3
       unfold nD
       simp only[if_pos (show i<len by omega)]
       rw[if_pos ⟨a4,by rw[List.length_append,h1,hlen];exact Nat.add_le_add_left (Nat.le_add_right _ _) _,agE hR a1⟩]
       have:eu (done++rest) (i*sz) w.cells=done++w.cells++rest.drop sz:=by
        unfold eu
        rw[List.take_left' h1,a4,List.drop_append,h1,Nat.add_sub_cancel_left,List.drop_eq_nil_of_le (by omega)]
        rfl
       rw[this,k1]
       simp
      ·intro z hz
       rcases List.mem_cons.1 hz with rfl|hz
       ·exact⟨a4,a5⟩
       ·exact k4 z hz
theorem agF {u:Ty} {sz:Nat} (hsz:sz=cB R u) (h1:(gF u||sz==1)=true) {v:V} {x:Den R.T u} (he:er v=aG R u x) (hl:v.cells.length=sz):er (if gF u then .agg v.cells else v.cells.headD aC)=aG R u x:=by
 cases hs:gF u
 ·simp only[Bool.false_eq_true,if_false]
  have hne:∀cs,v≠ .agg cs:=by
   rintro cs rfl
   cases u<;>first| (simp[gF] at hs;done)| (simp[er,aG] at he;done)
  have:v.cells=[v]:=by cases v<;>first|rfl|exact absurd rfl (hne _)
  rw[this];exact he
 ·simp only[if_true]
  obtain⟨l,hl'⟩:=(Au hR u x).2.2.2.1 hs
  cases v<;>first|exact he| (rw[hl'] at he;simp[er] at he)
theorem agG {t:TypeId} {len:Nat} {ps:List (Nat×TV R.T)} {qs:List (Nat×V)} {r:dI R} (h:Pm E R t len ps=some r) (hi:ps.map (·.1)=qs.map (·.1)) (hr:aA R ρ top (ps.map (·.2)) (qs.map (·.2))):nu ρ top (ru E t len qs) r:=by
 unfold Pm at h
 split at h
 ·rename_i e u sz dB he
  obtain⟨z,e1,e2,e3,e4,e5,e6,e7,e8,e9⟩:=JM he
  ·obtain⟨hc,h⟩:=dD h
   rw[Bool.and_eq_true] at hc
   split at h
   ·rename_i xs hx
    cases h
    have hlen:xs.length=len:=by
     have:∀(ps:List (Nat×TV R.T)) (n:Nat) (xs:List (Den R.T u)),vK R u n ps=some xs→xs.length=ps.length:=by
      intro ps
      induction ps with
      |nil=>intro n xs h;cases h;rfl
      |cons p ps ih=>
       intro n xs h
       obtain⟨i,v⟩:=p
       unfold vK at h
       obtain⟨_,h⟩:=dD h
       cases hu:mR R u v with
       |none=>simp only[hu] at h;cases h
       |some x=>
        cases hs:vK R u (n+1) ps with
        |none=>simp only[hu,hs] at h;cases h
        |some xs'=>simp only[hu,hs] at h;cases h;simp[ih _ _ hs]
     rw[this ps 0 xs hx];exact dK hc.2
    obtain⟨vs,k1,k2,k3,k4⟩:=Xk hR (len:=len) e6 ps qs xs 0 [] ((List.replicate len z.cells).flatten) hx hi hr (by simp) (by simp[e9,hlen]) (by omega)
    refine⟨.aj .full (xs.map (aG R u)), ?_,by unfold Rl;exact⟨.full,rfl,rfl⟩⟩
    unfold ru
    rw[e1];simp only[Option.bind_some,e2,e4,e5]
    rw[if_pos ⟨Nat.le_of_ble_eq_true hc.1,e9,e7,e8⟩]
    rw[List.nil_append,List.nil_append] at k1
    rw[k1]
    simp only[Option.bind_some]
    have hone:bg (vs.flatMap V.cells)=true:=by
     unfold bg
     rw[List.all_flatMap,List.all_eq_true]
     intro v hv;exact(k4 v hv).2
    rw[hone,if_pos rfl,←hlen,←k2,Qk _ _ _ (fun v hv=>(k4 v hv).1),List.map_map]
    congr 2
    have:∀(vs:List V) (xs:List (Den R.T u)),vs.map er=xs.map (aG R u)→(∀v∈vs,v.cells.length=sz∧bg v.cells=true)→vs.map (er∘fun v=>if gF u then .agg v.cells else v.cells.headD aC)=xs.map (aG R u):=by
     intro vs
     induction vs with
     |nil=>intro xs h _;exact h
     |cons v vs ih=>
      intro xs h hk
      cases xs with
      |nil=>simp at h
      |cons x xs=>
       simp only[List.map_cons,List.cons.injEq] at h
       rw[List.map_cons,List.map_cons,ih xs h.2 (fun w hw=>hk w (by simp[hw]))]
       congr 1
       exact agF hR e6 e8 h.1 (hk v (by simp)).1
    rw[this vs xs k3 k4]
   ·cases h
 ·cases h
theorem Ql {u:Ty} (l:List (Den R.T u)):(l.map (aG R u)).all (fun v=>bg v.cells)=true:=by
 simp[List.all_map,(Au hR u _).2.1]
theorem Qm {u:Ty} {ag:Bool} {y:TV R.T} {v z:V} {l:List (Den R.T u)} (h:DN R u y=some l) (hy:Rl R ρ top y v):jB σ ag (cB R u) z v=some (l.map (aG R u))∧qY v=false:=by
 unfold DN at h
 split at h
 ·obtain⟨e,e2⟩:=qc h;subst e;cases e2
  obtain⟨c',rfl,_⟩:=hy.jU
  exact⟨by show (if kU _ _=true then _ else _)=_;rw[if_pos (Eb hR _)],rfl⟩
 ·cases h;rw[hy.nV];exact⟨rfl,rfl⟩
 ·rename_i s
  obtain⟨e,e2⟩:=qc h;subst e;cases e2
  rw[hy.lq]
  exact⟨by show (if 1=1 then some (s.map kT) else none)=_;rw[if_pos rfl];exact congrArg some (Xe (R:=R) s),rfl⟩
 ·cases h
theorem agH {t e:TypeId} {sz dB:Nat} {ag:Bool} {z:V} {c:Cap} {l ys:List V} {y:V} {loc:Option Loc} {aD:Nat} {P:Program} (h1:gQ P t=some e) (h2:bG P e=some sz) (h3:nC P e=some dB) (h4:gq P e=some ag) (h5:fP P e=some z)
 (h6:z.cells.length=sz) (h7:0<sz) (h8:(ag||sz==1)=true) (hy:jB σ ag sz z y=some ys) (hi:qY y=false) (ho:ys.all (fun v=>bg v.cells)=true) (hr:dG (l.length+ys.length) dB=true) (hh:kU sz l=true):
 gJ P false false σ aD loc t (.aj c l) y=match c with
  |.own n s=>if n=sz∧σ.top s=l.length then some (.aj (.own n s) (l++ys),σ.bZ s (l.length+ys.length)) else none
  |.nil|.full=>some (.aj (.own sz aD) (l++ys),σ.bZ aD (l.length+ys.length))
  |_=>none:=by
 unfold gJ
 simp only[h1,h2,h3,h4,h5,Option.bind_some,hi,hy,ho,if_true]
 rw[if_pos ⟨trivial,h6,h7,h8⟩]
 simp only[hr,hh,and_self,if_true]
 cases c<;>rfl
theorem agI {d:Option Nat} {t u:TypeId} {x y:TV R.T} {v w:V} {r:dI R} {aD:Nat} {loc:Option Loc} {o:Oper} (h:DR E R d t u x y st=some r) (hx:Rl R ρ σ.top x v) (hy:Rl R ρ σ.top y w) (hi:aH ρ aD st fr σ)
 (ho:∀y σ',gJ E.P false false σ aD loc t v w=some (y,σ')→kC E fr σ aD o y σ'):qh E st ρ aD fr σ o r:=by
 unfold DR at h
 split at h
 ·rename_i d
  split at h
  ·rename_i e τ sz dB he
   obtain⟨z,e1,e2,e3,e4,e5,e6,e7,e8,e9⟩:=JM he
   ·obtain⟨hss,h⟩:=dD h
    split at h
    ·rename_i tk l l' hd hs
     cases h
     intro hroom
     subst e6
     obtain⟨g1,g2⟩:=Qm hR (ag:=gF τ) (z:=z) (σ:=σ) hs hy
     have hlen:dG ((l.map (aG R τ)).length+(l'.map (aG R τ)).length) dB=true:=by rw[List.length_map,List.length_map];exact hroom
     have hap:∀c,gJ E.P false false σ aD loc t (.aj c (l.map (aG R τ))) w=_:=fun c=>agH hR (σ:=σ) (c:=c) (loc:=loc) (aD:=aD) e1 e2 e3 e4 e5 e9 e7 e8 g1 g2 (Ql hR l') hlen (Eb hR l)
     have fresh:∀(c:Cap),(c= .nil∨c= .full)→v= .aj c (l.map (aG R τ))→∃x σ' ρ',kC E fr σ aD o x σ'∧aH ρ' (aD+1) (st.wk tk) fr σ'∧σ'.next=σ.next∧Rl R ρ' σ'.top (.aj (.own tk) τ (l++l')) x∧∀p,o.dst≠some p→aV true p st ρ σ (st.wk tk) ρ' σ':=by
      intro c hc hv
      subst hv
      have:=hap c
      refine⟨.aj (.own (cB R τ) aD) (l.map (aG R τ)++l'.map (aG R τ)),σ.bZ aD ((l.map (aG R τ)).length+(l'.map (aG R τ)).length),ρ.fU tk aD,ho _ _ (by rw[this];rcases hc with rfl|rfl<;>rfl), ?_,rfl, ?_, ?_⟩
      ·exact hi.wk tk aD _ (Nat.le_succ _) (Nat.lt_succ_self _) hi.nx (fun u _ hu=>by have:=hi.lt u _ hu;omega)
      ·unfold Rl
       exact⟨_,by rw[List.map_append],.inr (.inr ⟨aD,rfl,by simp[aL.fU,upd],by rw[Dv];simp⟩)⟩
      ·exact fun p _=>aV.wk hi.nx
     unfold V3 at hd
     split at hd
     ·rename_i l0
      split at hd
      ·rename_i l1 hl1
       cases hd
       obtain⟨e,e2⟩:=qc hl1;subst e;cases e2
       obtain⟨c',rfl,hc'⟩:=hx.jU
       exact fresh c' (.inl hc') rfl
      ·cases hd
     ·rename_i l0
      split at hd
      ·rename_i l1 hl1
       cases hd
       obtain⟨e,e2⟩:=qc hl1;subst e;cases e2
       obtain⟨c',rfl,hc'⟩:=hx.jU
       exact fresh c' (.inr hc') rfl
      ·cases hd
     ·rename_i tk' τ' l0
      split at hd
      ·rename_i l1 hl1
       cases hd
       obtain⟨e,e2⟩:=qc hl1;subst e;cases e2
       obtain⟨c',rfl,hc'⟩:=hx.jU
       rcases hc' with hc'|hc'| ⟨s,hc',ht,hl⟩
       ·exact fresh c' (.inl hc') rfl
       ·exact fresh c' (.inr hc') rfl
       ·subst hc'
        have:=hap (.own (cB R τ') s)
        dsimp only at this
        rw[if_pos ⟨rfl,by rw[List.length_map];exact hl⟩] at this
        refine⟨_,_,ρ.fU tk s,ho _ _ this, ?_,rfl, ?_, ?_⟩
        ·exact hi.wk tk s _ (Nat.le_succ _) (by have:=hi.lt tk s ht;omega) (hi.ge tk s ht) (fun u hu h'=>hu (hi.inj u tk s h' ht))
        ·unfold Rl
         exact⟨_,by rw[List.map_append],.inr (.inr ⟨s,rfl,by simp[aL.fU,upd],by rw[Dv];simp⟩)⟩
        ·exact fun p _=>aV.wk (hi.ge tk s ht)
      ·cases hd
     ·cases hd
      rw[hx.nV] at fresh
      have hx':=hx.nV
      subst hx'
      exact fresh .nil (.inl rfl) rfl
     ·cases hd
    ·cases h
  ·cases h
 ·cases h
omit hR in
theorem agJ {t:TypeId} {x:TV R.T} {v:V} {n:Nat} (h:Po E t x st=some n) (hx:Rl R ρ σ.top x v) (hi:aH ρ b st fr σ):lH E σ t v=some n:=by
 unfold Po at h
 unfold lH
 split at h
 ·rename_i hu;cases h;obtain⟨c',rfl,_⟩:=hx.jU;rw[hu];simp
 ·rename_i hu;cases h;rw[hx.nV,hu];rfl
 ·rename_i o t hu
  split at h
  ·rename_i t' l hl
   cases h
   have h1:=(hi.rd hl).1
   rcases hx.Ah with ⟨s,_,rfl⟩| ⟨h0,rfl|rfl⟩
   ·rw[hu];dsimp only;rw[h1]
   ·rw[hu];dsimp only;rw[h1,h0];rfl
   ·rw[hu];dsimp only;rw[h1,h0];rfl
  ·cases h
 ·rename_i hu;cases h;rw[hx.lq,hu]
 ·rename_i o hu
  split at h
  ·rename_i k e m hl
   cases h
   obtain⟨s,h1,rfl⟩:=hx.tQ
   obtain⟨s',h2,h3⟩:=hi.rd hl
   rw[h1] at h2;cases h2
   rw[hu];dsimp only;rw[h3];simp
  ·cases h
 ·rename_i hu;cases h;rw[hx.Af,hu];simp
 ·rename_i hu;cases h;unfold Rl at hx;subst hx;rw[hu]
 ·rename_i hu;cases h;rw[hu]
 ·cases h
omit hR in
theorem Qn (mx:Bool):∀{l:List (TV R.T)} {x y:TV R.T} {v:V} {k:List V},zS mx x l=some y→Rl R ρ top x v→aA R ρ top l k→∃w,jP mx v k=some w∧Rl R ρ top y w
 | [],x,y,v,k,h,hx,hl=>by
   rw[hl.eT]
   unfold zS at h;cases h
   exact⟨v,by cases v<;>rfl,hx⟩
 |z::l,x,y,v,k,h,hx,hl=>by
  obtain⟨w,ws,rfl,h1,h2⟩:=hl.dJ
  unfold zS at h
  split at h
  ·rename_i hz;cases hz
  ·rename_i k a k' b l' hz
   simp only[List.cons.injEq] at hz
   obtain⟨rfl,rfl⟩:=hz
   split at h
   ·rename_i e;subst e
    rw[hx.fC,h1.fC]
    unfold jP
    rw[if_pos rfl]
    refine Qn mx h ?_ h2
    unfold Rl
    cases mx<;>rfl
   ·cases h
  ·cases h
omit hR in
theorem Xl (c:Cp):∀(l:List Ty) (p:lK R.T l),(iY R c l p).length=l.length
 | [],_=>rfl
 | [_],_=>rfl
 |_::u::l,p=>by show (iY R c (u::l) p.2).length+1=_;rw[Xl c (u::l)];rfl
omit hR in
theorem JN (c:Cp) (t:Ty) (x:Den R.T t):(eO R c t x).cells.length=cB R t:=by
 cases t with
 |st n=>exact Xl c _ _
 |_=>rfl
omit hR in
theorem JO (t:Ty):∀l:List (Den R.T t),(l.flatMap fun x=>(eO R .any t x).cells).length=l.length*cB R t
 | []=>by simp
 |x::l=>by rw[List.flatMap_cons,List.length_append,JN,JO t l,List.length_cons,Nat.succ_mul];omega
omit hR in
theorem Xm {α:Type}:∀{l:List α} {i:Nat} {x:α},l[i]? =some x→∃a b,l=a++x::b∧a.length=i
 | [],_,_,h=>by simp at h
 |y::l,0,x,h=>by simp at h;subst h;exact⟨[],l,rfl,rfl⟩
 |y::l,i+1,x,h=>by
  obtain⟨a,b,rfl,hl⟩:=Xm (l:=l) (i:=i) (by simpa using h)
  exact⟨y::a,b,rfl,by simp[hl]⟩
omit hR in
theorem agK {α:Type} {l:List α} {i:Int} {x:α} (h:dw l i=some x):∃a b,l=a++x::b∧a.length=i.toNat∧0≤i:=by
 unfold dw at h
 split at h
 ·rename_i hi
  obtain⟨a,b,h1,h2⟩:=Xm h
  exact⟨a,b,h1,h2,hi.1⟩
 ·cases h
omit hR in
theorem agL {ag:Bool} {n off:Nat} {pre el post:List (TV R.T)} {v:TV R.T} (h:Je ag n el off=some v):Je ag n (pre++el++post) (pre.length+off)=some v:=by
 cases ag with
 |true=>
  have h':(bif Nat.ble (off+n) el.length then some (TV.agg ((el.drop off).take n)) else none)=some v:=h
  obtain⟨hb,h'⟩:=dD h'
  have hle:=Nat.le_of_ble_eq_true hb
  show (bif Nat.ble (pre.length+off+n) (pre++el++post).length then some (TV.agg (((pre++el++post).drop (pre.length+off)).take n)) else none)=some v
  have hb':Nat.ble (pre.length+off+n) (pre++el++post).length=true:=Nat.ble_eq_true_of_le (by simp;omega)
  rw[hb',cond_true,←h']
  congr 2
  have e1:(pre++el++post).drop (pre.length+off)=(el++post).drop off:=by
   rw[List.append_assoc,List.drop_append,List.drop_eq_nil_of_le (by omega)]
   simp
  rw[e1,List.drop_append,List.take_append]
  have e2:n-(el.drop off).length=0:=by simp;omega
  rw[e2];simp
 |false=>
  have h':el[off]? =some v:=h
  show (pre++el++post)[pre.length+off]? =some v
  have hlt:off<el.length:=by rw[List.getElem?_eq_some_iff] at h';exact h'.1
  rw[List.append_assoc,List.getElem?_append_right (by omega),Nat.add_sub_cancel_left,List.getElem?_append_left hlt]
  exact h'
omit hR in
theorem agM {t:TypeId} {off:Nat} {pre el post:List (TV R.T)} {v:TV R.T} (h:jK E t el off=some v):jK E t (pre++el++post) (pre.length+off)=some v:=by
 unfold jK at h⊢
 cases h1:gq E.P t with
 |none=>simp only[h1] at h;cases h
 |some a=>
  cases h2:bG E.P t with
  |none=>simp only[h1,h2] at h;cases h
  |some n=>simp only[h1,h2] at h⊢;exact agL h
omit hR in
theorem agN {t:TypeId} {off:Nat} {cs cs':List (TV R.T)} (hl:cs.length=cs'.length) (h:(jK E t cs off).isSome=true):∃v,jK E t cs' off=some v:=by
 unfold jK at h⊢
 cases h1:gq E.P t with
 |none=>simp only[h1] at h;cases h
 |some a=>
  cases h2:bG E.P t with
  |none=>simp only[h1,h2] at h;cases h
  |some n=>
   simp only[h1,h2] at h⊢
   cases a with
   |true=>
    have h':(bif Nat.ble (off+n) cs.length then some (TV.agg ((cs.drop off).take n)) else none).isSome=true:=h
    cases hb:Nat.ble (off+n) cs.length
    ·rw[hb] at h';cases h'
    ·exact⟨.agg ((cs'.drop off).take n),by show (bif Nat.ble (off+n) cs'.length then _ else _)=_;rw[←hl,hb];rfl⟩
   |false=>
    have h':cs[off]?.isSome=true:=h
    have hlt:off<cs'.length:=by rw[←hl];simpa using h'
    exact⟨cs'[off],List.getElem?_eq_getElem hlt⟩
omit hR in
theorem Xn {o s:Nat} {τ:Ty} {l:List (Den R.T τ)} {i:Int} {y:Den R.T τ} (hO:dQ ρ σ o (.arr τ l)) (hs:ρ.ob o=some s) (hy:dw l i=some y):
 ∃a b cs,l=a++y::b∧a.length=i.toNat∧σ.bO (ρ.om.lc o) s=some cs∧aA R ρ σ.top ((a.flatMap fun x=>(eO R .any τ x).cells)++(eO R .any τ y).cells++b.flatMap fun x=>(eO R .any τ x).cells) cs∧(a.flatMap fun x=>(eO R .any τ x).cells).length=i.toNat*cB R τ:=by
 obtain⟨a,b,rfl,h1,h2⟩:=agK hy
 rcases hO.2 with h| ⟨s',cs,h3,h4,h5⟩
 ·exact absurd h.1 (by simp)
 ·rw[hs] at h3;cases h3
  refine⟨a,b,cs,rfl,h1,h4, ?_,by rw[JO,h1]⟩
  rw[List.flatMap_append,List.flatMap_cons] at h5
  rw[List.append_assoc];exact h5
omit hR in
theorem agO {t:TypeId} {o s off:Nat} {τ:Ty} {i:Int} {ob:Ob R.T} {r:dI R} (h:Pt E R t τ i off ob=some r) (hO:dQ ρ σ o ob) (hs:ρ.ob o=some s):∃(l:List (Den R.T τ)) (f:Den R.T τ→TV R.T),r= .p (Den R.T τ) (zy R τ) (dw l i) f∧
 ∀y,dw l i=some y→∃cs w,σ.bO (ρ.om.lc o) s=some cs∧dM E.P t cs (i.toNat*cB R τ+off)=some w∧Rl R ρ σ.top (f y) w:=by
 unfold Pt at h
 split at h
 ·rename_i τ' l0
  split at h
  ·rename_i l1 hl
   obtain⟨e,e2⟩:=qc hl;subst e;cases e2
   obtain⟨hb,h⟩:=dD h
   cases h
   refine⟨l0,_,rfl,fun y hy=> ?_⟩
   obtain⟨a,b,cs,h1,h2,h3,h4,h5⟩:=Xn hO hs hy
   obtain⟨v,hv⟩:=agN (cs':=(eO R .any τ' y).cells) (by rw[JN,JN]) hb
   have:=agM (pre:=a.flatMap fun x=>(eO R .any τ' x).cells) (post:=b.flatMap fun x=>(eO R .any τ' x).cells) hv
   rw[h5] at this
   obtain⟨w,hw,hr⟩:=uf h4 this
   exact⟨cs,w,h3,hw,by rw[hv];exact hr⟩
  ·cases h
 ·cases h
theorem agP {τ:Ty} {cs:List (TV R.T)} {x:Den R.T τ} {vs:List V} (h:Pv R τ cs=some x) (hr:aA R ρ top cs vs):aA R ρ top (eO R .any τ x).cells vs:=by
 have one:∀(t:Ty) (x:Den R.T t),mg t=true→nP R t (hd1 R cs)=some x→aA R ρ top [vC R .any t x] vs:=by
  intro t x ht h
  cases cs with
  |nil=>cases t<;>cases h
  |cons c cs=>
   cases cs with
   |nil=>
    obtain⟨v,l,rfl,h1,h2⟩:=hr.dJ
    rw[h2.eT]
    exact .cons' (xJ hR h h1) rfl
   |cons c' cs=>cases t<;>cases h
 cases τ with
 |st n=>
  have:=D7 hR (t:=.st n) (show mR R (.st n) (.agg cs)=some x from h) (v:=.agg vs) (by unfold Rl;exact⟨vs,rfl,hr⟩)
  obtain⟨l,e,hl⟩:=Rl.jH this
  cases e;exact hl
 |int k=>exact one (.int k) x rfl h
 |bool=>exact one .bool x rfl h
 |str=>exact one .str x rfl h
 |slice t=>exact one (.slice t) x rfl h
omit hR in
theorem agQ {α:Type} (pre el post vs:List α) (off:Nat) (h:off+vs.length≤el.length):(pre++el++post).take (pre.length+off)++vs++(pre++el++post).drop (pre.length+off+vs.length)=pre++(el.take off++vs++el.drop (off+vs.length))++post:=by
 have e1:(pre++el++post).take (pre.length+off)=pre++el.take off:=by
  rw[List.append_assoc,List.take_append,List.take_of_length_le (by omega),Nat.add_sub_cancel_left,List.take_append,Nat.sub_eq_zero_of_le (by omega)]
  simp
 have e2:(pre++el++post).drop (pre.length+off+vs.length)=el.drop (off+vs.length)++post:=by
  rw[List.append_assoc,List.drop_append,List.drop_eq_nil_of_le (by omega),show pre.length+off+vs.length-pre.length=off+vs.length by omega,List.drop_append,Nat.sub_eq_zero_of_le (by omega)]
  simp
 rw[e1,e2]
 simp
theorem agR {o s off:Nat} {τ:Ty} {i:Int} {l:List (Den R.T τ)} {y y':Den R.T τ} {vc:List (TV R.T)} {vl:List V} (hO:dQ ρ σ o (.arr τ l)) (hs:ρ.ob o=some s) (hy:dw l i=some y) (hv:aA R ρ σ.top vc vl) (hle:off+vc.length≤cB R τ)
 (hu:Pv R τ (zK (eO R .any τ y).cells off vc)=some y'):∃cs,σ.bO (ρ.om.lc o) s=some cs∧i.toNat*cB R τ+off+vl.length≤cs.length∧aA R ρ σ.top ((xw l i y').flatMap fun x=>(eO R .any τ x).cells) (eu cs (i.toNat*cB R τ+off) vl)∧(xw l i y').length=l.length:=by
 obtain⟨a,b,cs,rfl,h2,h3,h4,h5⟩:=Xn hO hs hy
 obtain⟨p1,post,rfl,g1,g2⟩:=h4.split
 obtain⟨pre,el,rfl,g3,g4⟩:=g1.split
 have l1:pre.length=i.toNat*cB R τ:=by rw[g3.length,h5]
 have l2:el.length=cB R τ:=by rw[g4.length,JN]
 have l3:=hv.length
 refine⟨_,h3, ?_, ?_, ?_⟩
 ·rw[List.length_append,List.length_append];omega
 ·have e:xw (a++y::b) i y'=a++y'::b:=by
   unfold xw
   rw[←h2,List.set_append_right _ _ (Nat.le_refl _),Nat.sub_self];rfl
  rw[e,List.flatMap_append,List.flatMap_cons,←List.append_assoc]
  have e2:eu (pre++el++post) (i.toNat*cB R τ+off) vl=pre++eu el off vl++post:=by
   unfold eu
   rw[←l1];exact agQ pre el post vl off (by omega)
  rw[e2]
  exact(g3.append (agP hR hu (Qe off g4 hv))).append g2
 ·unfold xw;rw[List.length_set]
theorem agS (τ:Ty) (x:Den R.T τ):aA R ρ top (eO R .any τ x).cells (aG R τ x).cells:=by
 refine(rQ ?_ (JD hR .any (.inl rfl) τ x)).1
 cases τ<;>rfl
theorem Av (τ:Ty):∀l:List (Den R.T τ),aA R ρ top (l.flatMap fun x=>(eO R .any τ x).cells) ((l.map (aG R τ)).flatMap V.cells)
 | []=>rfl
 |x::l=>by
  rw[List.map_cons,List.flatMap_cons,List.flatMap_cons]
  exact(agS hR τ x).append (Av τ l)
theorem agT {t e:TypeId} {sz dB:Nat} {ag:Bool} {z:V} {ys:List V} {x y:V} {loc:Option Loc} {aD:Nat} {P:Program} (h1:gQ P t=some e) (h2:bG P e=some sz) (h3:nC P e=some dB) (h4:gq P e=some ag) (h5:fP P e=some z)
 (h6:z.cells.length=sz) (h7:0<sz) (h8:(ag||sz==1)=true) (hy:jB σ ag sz z y=some ys) (hi:qY y=false) (ho:ys.all (fun v=>bg v.cells)=true):
 gJ P true false σ aD loc t x y=match x with
  |.aj c l=>if dG (l.length+ys.length) dB=true∧kU sz l=true then
     match c with
     |.nil=>loc.map fun loc=>(.vw loc aD 0 (l.length+ys.length) (l.length+ys.length) sz ag,σ.setObj loc aD (.cells ((l++ys).flatMap V.cells)))
     |.full=>if ys.isEmpty then some (.aj .full l,σ) else loc.map fun loc=>(.vw loc aD 0 (l.length+ys.length) (l.length+ys.length) sz ag,σ.setObj loc aD (.cells ((l++ys).flatMap V.cells)))
     |_=>none else none
  |.vw gK s off len cap aU _=>
   if dG (len+ys.length) dB=true∧off=0∧aU=sz then
    loc.bind fun loc=>(σ.bO gK s).bind fun cs=>
     if len+ys.length≤cap then
      if (len+ys.length)*sz≤cs.length then
       some (.vw gK s 0 (len+ys.length) cap sz ag,σ.setObj gK s (.cells (eu cs (len*sz) (ys.flatMap V.cells))))
      else none
     else if len*sz≤cs.length then
      some (.vw loc aD 0 (len+ys.length) (len+ys.length) sz ag,(σ.jN gK).setObj loc aD (.cells (cs.take (len*sz)++ys.flatMap V.cells)))
     else none
   else none
  |_=>none:=by
 unfold gJ
 simp only[h1,h2,h3,h4,h5,Option.bind_some,hi,hy,ho,if_true]
 rw[if_pos ⟨trivial,h6,h7,h8⟩]
 cases x<;>try rfl
 ·rename_i c l
  cases c<;>rfl
 ·simp only[true_and]
omit hR in
theorem aV.PZ {o q s n:Nat} {x:Ob R.T} {a:fO} (hne:q≠o):aV true q st ρ σ (st.new o x) (ρ.xI o s n) (σ.setObj (ρ.om.lc o) s a):=⟨(PY q hne).1,(PY q hne).2,rfl,Nat.le_refl _,⟨fun _ _=>rfl,fun _ _=>rfl⟩,fun _ _ hL=>Qb hL,(aV.new (nr:=true) (ρ:=ρ) (s:=s) (a:=a) hne).ro⟩
omit hR in
theorem aV.del {o q:Nat} {y:Ob R.T} (hl:look st.ob o=some y) (hy:mU y=false):aV true q st ρ σ (st.del o) ρ (σ.jN (ρ.om.lc o)):=⟨rfl,rfl,rfl,Nat.le_refl _,⟨fun _ _=>rfl,fun _ _=>rfl⟩,fun _ _ hL=>agn hL,fun hr=>by
 have hne:q≠o:=by rintro rfl;rw[hr y hl] at hy;cases hy
 refine⟨fun z hz=> ?_,fun s'=> ?_⟩
 ·have hz':look (gD o st.ob) q=some z:=hz
  rw[nW hne] at hz'
  exact hr z hz'
 ·unfold ah.bO ah.eG;rw[Wz σ hne];exact⟨rfl,rfl⟩⟩
omit hR in
theorem aV.del' {o q:Nat} {y:Ob R.T} (hl:look st.ob o=some y) (hy:mU y=false):aV true q st ρ σ (st.del o) ρ σ:=⟨rfl,rfl,rfl,Nat.le_refl _,⟨fun _ _=>rfl,fun _ _=>rfl⟩,fun _ _ _=>rfl,fun hr=>by
 have hne:q≠o:=by rintro rfl;rw[hr y hl] at hy;cases hy
 refine⟨fun z hz=> ?_,fun s'=>⟨rfl,rfl⟩⟩
 have hz':look (gD o st.ob) q=some z:=hz
 rw[nW hne] at hz'
 exact hr z hz'⟩
omit hR in
theorem Qo {α:Type} {p:Nat}:∀l:List (Nat×α),look (gD p l) p=none
 | []=>rfl
 | (j,x)::l=>by
   unfold gD
   cases hj:Nat.beq j p
   ·show (bif Nat.beq j p then some x else look (gD p l) p)=none
    rw[hj];exact Qo l
   ·exact Qo l
omit hR in
theorem aH.del' (h:aH ρ b st fr σ) (o:Nat):aH ρ b (st.del o) fr σ:={h with
 ob:=fun p y hy=>by
  by_cases e:p=o
  ·subst e
   have:look (gD p st.ob) p=some y:=hy
   rw[Qo] at this;cases this
  ·have hy':look (gD o st.ob) p=some y:=hy
   rw[nW e] at hy'
   exact h.ob p y hy'
 fr:=h.fr}
omit hR in
theorem Aw {d aD:Nat} {τ:Ty} {l:List (Den R.T τ)} {L:List V} {st0:MS R.T} {σ0:ah} {o:Oper} {v:V} {σ1:ah} (hd:o.dst=some d) (hi:aH ρ (aD+1) st0 fr σ0) (hk:∀p,aV true p st ρ σ st0 ρ σ0) (hn:σ0.next=σ.next) (hL:aA R ρ σ0.top (l.flatMap fun x=>(eO R .any τ x).cells) L)
 (hs:kC E fr σ aD o v σ1) (hv:v= .vw (ρ.om.lc d) aD 0 l.length l.length (cB R τ) (gF τ)) (h1:σ1=σ0.setObj (ρ.om.lc d) aD (.cells L)):∃x σ' ρ',kC E fr σ aD o x σ'∧aH ρ' (aD+1) (st0.new d (.arr τ l)) fr σ'∧σ'.next=σ.next∧Rl R ρ' σ'.top (.vw d τ) x∧∀p,o.dst≠some p→aV true p st ρ σ (st0.new d (.arr τ l)) ρ' σ':=by
 subst hv;subst h1
 refine⟨_,_,ρ.xI d aD l.length,hs,hi.PZ d aD l.length ⟨(D6 (ρ:=ρ.ku d aD)).symm,.inr ⟨aD,L,qg (ρ:=ρ),rE _ _ _ _,tT l L hL⟩⟩,hn, ?_,fun p hp=> ?_⟩
 ·unfold Rl
  exact .inl ⟨aD,qg (ρ:=ρ),by rw[show (ρ.xI d aD l.length).ln d=l.length from D6 (ρ:=ρ.ku d aD)];rfl⟩
 ·have hne:p≠d:=fun e=>hp (by rw[hd,e])
  exact(hk p).trans (aV.PZ hne)
theorem agU {d:Option Nat} {t u:TypeId} {x y:TV R.T} {v w:V} {r:dI R} {aD:Nat} {o:Oper} (h:DT E R d t u x y st=some r) (hx:Rl R ρ σ.top x v) (hy:Rl R ρ σ.top y w) (hi:aH ρ aD st fr σ) (hd:o.dst=d)
 (ho:∀y σ',gJ E.P true false σ aD (d.map fun t=>(ρ.om.lc t)) t v w=some (y,σ')→kC E fr σ aD o y σ'):qh E st ρ aD fr σ o r:=by
 have hi1:=hi.le (Nat.le_succ aD)
 unfold DT at h
 split at h
 ·rename_i d
  split at h
  ·rename_i e τ sz dB he
   obtain⟨z,e1,e2,e3,e4,e5,e6,e7,e8,e9⟩:=JM he
   obtain⟨hss,h⟩:=dD h
   split at h
   ·rename_i l' hs
    subst e6
    obtain⟨g1,g2⟩:=Qm hR (ag:=gF τ) (z:=z) (σ:=σ) hs hy
    have hap:=fun x=>agT hR (σ:=σ) (x:=x) (loc:=some (ρ.om.lc d)) (aD:=aD) e1 e2 e3 e4 e5 e9 e7 e8 g1 g2 (Ql hR l')
    split at h
    ·rename_i p τ0 _
     split at h
     ·rename_i e0
      subst e0
      split at h
      ·rename_i τ' l0 hl
       split at h
       ·rename_i a l1 l2 hl2
        obtain⟨e,e2'⟩:=qc hl2;subst e;cases e2'
        cases h
        intro hroom
        have hO:=hi.ob _ _ hl
        have hlen:l0.length=ρ.ln p:=hO.1
        have hnr:mU (Ob.arr τ' l0)=false:=rfl
        have hne:¬((a::l1).map (aG R τ')).isEmpty=true:=by simp
        rcases hx.Ah with ⟨s,k1,rfl⟩| ⟨k1,k2⟩
        ·rcases hO.2 with hO2| ⟨s',cs,k3,k4,k5⟩
         ·rw[k1] at hO2;exact absurd hO2.2 (by simp)
         ·rw[k1] at k3;cases k3
          have:=hap (.vw (ρ.om.lc p) s 0 (ρ.ln p) (ρ.ln p) (cB R τ') (gF τ'))
          dsimp only at this
          have hlc:cs.length=l0.length*cB R τ':=by rw[k5.length,JO]
          rw[if_pos ⟨by rw[List.length_map,←hlen];exact hroom,rfl,rfl⟩] at this
          simp only[Option.bind_some,k4] at this
          rw[if_neg (by rw[List.length_map,List.length_cons];omega),if_pos (by rw[hlc,hlen];exact Nat.le_refl _)] at this
          refine Aw (σ0:=σ.jN (ρ.om.lc p)) (L:=cs.take (ρ.ln p*cB R τ')++((a::l1).map (aG R τ')).flatMap V.cells) hd (hi1.del p) (fun q=>aV.del hl hnr) rfl ?_ (ho _ _ this) ?_ rfl
          ·rw[List.flatMap_append,List.take_of_length_le (by rw[hlc,hlen];exact Nat.le_refl _)]
           exact aA.append k5 (Av hR _ _)
          ·rw[List.length_map,List.length_append,hlen]
        ·have hl0:l0=[]:=List.eq_nil_of_length_eq_zero (by omega)
         subst hl0
         have hroom':dG (([]:List V).length+((a::l1).map (aG R τ')).length) dB=true∧kU (cB R τ') ([]:List V)=true:=⟨by rw[List.length_map];exact hroom,rfl⟩
         rcases k2 with rfl|rfl
         ·have:=hap (.aj .nil [])
          dsimp only at this
          rw[if_pos hroom'] at this
          refine Aw (σ0:=σ) hd (hi1.del' p) (fun q=>aV.del' hl hnr) rfl (Av hR _ _) (ho _ _ this) ?_ rfl
          simp
         ·have:=hap (.aj .full [])
          dsimp only at this
          rw[if_pos hroom',if_neg hne] at this
          refine Aw (σ0:=σ) hd (hi1.del' p) (fun q=>aV.del' hl hnr) rfl (Av hR _ _) (ho _ _ this) ?_ rfl
          simp
       ·cases h
      ·cases h
     ·cases h
    ·obtain⟨hE,h⟩:=dD h
     cases h
     intro hroom
     have hroom':dG (([]:List V).length+(l'.map (aG R τ)).length) dB=true∧kU (cB R τ) ([]:List V)=true:=⟨by rw[List.length_map,List.length_nil,Nat.zero_add];exact hroom,rfl⟩
     rcases WU (fr:=fr) hE (.of hx) with rfl|rfl
     ·have:=hap (.aj .nil [])
      dsimp only at this
      rw[if_pos hroom'] at this
      refine Aw (σ0:=σ) hd hi1 (fun q=>.refl) rfl (Av hR _ _) (ho _ _ this) ?_ rfl
      simp
     ·have:=hap (.aj .full [])
      dsimp only at this
      rw[if_pos hroom'] at this
      by_cases hne:((l'.map (aG R τ)).isEmpty)=true
      ·rw[if_pos hne] at this
       have hl':l'=[]:=by simpa using hne
       subst hl'
       refine⟨_,_,ρ.gh d,ho _ _ this,hi1.ghost d τ,rfl,by unfold Rl;exact .inr ⟨D6 (ρ:=ρ) (n:=0),.inr rfl⟩,fun p hp=> ?_⟩
       have Qp:p≠d:=fun e=>hp (by rw[hd,e])
       exact⟨(Am p Qp).1,(Am p Qp).2,rfl,Nat.le_refl _,⟨fun _ _=>rfl,fun _ _=>rfl⟩,fun _ _ _=>rfl,fun hr=>⟨((aV.new (nr:=true) (ρ:=ρ) (σ:=σ) (s:=0) (a:=.cells []) Qp).ro hr).1,fun _=>⟨rfl,rfl⟩⟩⟩
      ·rw[if_neg hne] at this
       refine Aw (σ0:=σ) hd hi1 (fun q=>.refl) rfl (Av hR _ _) (ho _ _ this) ?_ rfl
       simp
   ·cases h
  ·cases h
 ·cases h
omit hR in
theorem Xo {α β:Type} (f:α→List β) (x:α):∀n,(List.replicate n x).flatMap f=(List.replicate n (f x)).flatten
 |0=>rfl
 |n+1=>by rw[List.replicate_succ,List.replicate_succ,List.flatMap_cons,List.flatten_cons,Xo f x n]
omit hR in
theorem Xp {ts:List (TV R.T)} {vs:List V} (h:aA R ρ top ts vs):∀n,aA R ρ top (List.replicate n ts).flatten (List.replicate n vs).flatten
 |0=>rfl
 |n+1=>by rw[List.replicate_succ,List.replicate_succ,List.flatten_cons,List.flatten_cons];exact h.append (Xp h n)
theorem agV {om:Bool} {d:Option Nat} {t:TypeId} {x y:TV R.T} {v w:V} {r:dI R} {aD:Nat} {o:Oper} (h:Pn E R om d t x y st=some r) (hx:Rl R ρ σ.top x v) (hy:Rl R ρ σ.top y w) (hi:aH ρ aD st fr σ) (hd:o.dst=d)
 (ho:∀y σ',qx E.P om σ aD (d.map fun t=>(ρ.om.lc t)) t v w=some (y,σ')→kC E fr σ aD o y σ'):qh E st ρ aD fr σ o r:=by
 have hi1:=hi.le (Nat.le_succ aD)
 unfold Pn at h
 split at h
 ·rename_i d e τ sz dB k n k' m he
  obtain⟨z0,e1,e2,e3,e4,e5,e6,e7,e8,e9⟩:=JM he
  split at h
  ·rename_i z hz
   split at h
   ·rename_i x0 hx0
    obtain⟨zv,z1,z2⟩:=Ar (ρ:=ρ) (top:=σ.top) hz
    rw[e5] at z1;cases z1
    rw[hx.fC,hy.fC] at ho
    have mk:0≤n→n≤m→m≤2^47→dG m.toNat dB=true→qx E.P om σ aD ((some d).map fun t=>(ρ.om.lc t)) t (.int k n) (.int k' m)=if n=0∧om=false then some (.aj (.own sz aD) [],σ.bZ aD 0) else some (.vw (ρ.om.lc d) aD 0 n.toNat m.toNat sz (gF τ),σ.setObj (ρ.om.lc d) aD (.cells (List.replicate m.toNat z0.cells).flatten)):=by
     intro h1 h2 h3 h4
     unfold qx
     simp only[e1,e2,e3,e5,Option.bind_some,kF]
     rw[if_pos ⟨h1,h2,h4,h3,e9⟩]
     split
     ·rfl
     ·simp only[Option.map_some,Option.bind_some,e4]
    cases om with
    |true=>
     cases h
     intro hc
     rw[Bool.and_eq_true] at hc
     obtain⟨c1,c2,c3⟩:=of_decide_eq_true hc.1
     subst c2
     have:=mk c1 (Int.le_refl _) c3 hc.2
     rw[if_neg (by simp)] at this
     subst e6
     refine Aw (σ0:=σ) hd hi1 (fun q=>.refl) rfl ?_ (ho _ _ this) ?_ rfl
     ·rw[Xo]
      refine Xp ?_ _
      have hzc:aA R ρ σ.top (eO R .any τ x0).cells z0.cells:=by
       have h1:=D7 hR hx0 z2
       refine(rQ ?_ h1).1
       cases τ<;>rfl
      exact hzc
     ·rw[List.length_replicate]
    |false=>
     cases h
     intro hc
     rw[Bool.and_eq_true] at hc
     obtain⟨c1,c2,c3⟩:=of_decide_eq_true hc.1
     subst c1
     have:=mk (Int.le_refl _) c2 c3 hc.2
     rw[if_pos ⟨rfl,rfl⟩] at this
     refine⟨_,_,ρ.fU d aD,ho _ _ this,hi.wk d aD _ (Nat.le_succ _) (Nat.lt_succ_self _) hi.nx (fun u _ hu=>by have:=hi.lt u _ hu;omega),rfl, ?_,fun p _=>aV.wk hi.nx⟩
     unfold Rl
     exact⟨_,rfl,.inr (.inr ⟨aD,by rw[e6],by simp[aL.fU,upd],by rw[Dv];rfl⟩)⟩
   ·cases h
  ·cases h
 ·cases h
theorem agW {om:Bool} {t:TypeId} {p:Nat} {τ:Ty} {y:TV R.T} {v w:V} {r:dI R} (h:Pq E R t p τ y st=some r) (hx:Rl R ρ σ.top (.vw p τ) v) (hy:Rl R ρ σ.top y w) (hi:aH ρ b st fr σ):nu ρ σ.top (lG E.P t v w) r:=by
 unfold Pq at h
 split at h
 ·rename_i e k n hu
  split at h
  ·rename_i sz hs
   obtain⟨hb,h⟩:=dD h
   split at h
   ·rename_i τ' l hl
    cases h
    have:=dK hb;subst this
    rw[hy.fC]
    intro hc
    have hc':=of_decide_eq_true hc
    have hlen:=(hi.rd hl).1
    rcases hx.Ah with ⟨s,k1,rfl⟩| ⟨h0,_⟩
    ·refine⟨.ref (ρ.om.lc p) s (n.toNat*cB R τ), ?_,by unfold Rl;exact⟨s,k1,hc'.1,rfl⟩⟩
     unfold lG
     rw[hu]
     simp only[hs,Option.bind_some,idx,kF]
     rw[if_pos ⟨hc'.1,by rw[←hlen];exact hc'.2⟩]
     simp
    ·rw[hlen,h0] at hc';omega
   ·cases h
  ·cases h
 ·cases h
end
end Aq
end
section
namespace Aq
open Go
set_option linter.unusedSectionVars false
set_option linter.unusedVariables false
section
variable {R:gB} {E:Env}
variable {ρ:aL} {top:Nat→Nat} {b:Nat} {st:MS R.T} {fr:Fr} {σ:ah}
theorem Qq {n:Nat} {f:Nat} (a b:List V):aM (n+2) σ (.fn (.func f) a b)=(a.mapM (aM (n+1) σ)).bind fun a=>(b.mapM (aM (n+1) σ)).map fun b=>.fn (.func f) a b:=by
 by_cases hp:aF (.fn (.func f) a b)=true
 ·rw[jo hp]
  have:∀cs:List V,aQ cs=true→cs.mapM (aM (n+1) σ)=some cs:=by
   intro cs
   induction cs with
   |nil=>intro _;rfl
   |cons a l ih=>
    intro h
    simp only[aQ,Bool.and_eq_true] at h
    rw[List.mapM_cons,jo h.1,ih h.2];rfl
  simp only[aF,Bool.and_eq_true] at hp
  rw[this a hp.1,this b hp.2];rfl
 ·conv=>lhs;unfold aM
  simp only[hp,if_false,Bool.false_eq_true]
theorem Xq {n:Nat} {off:Nat} (cs:List V):aM (n+2) σ (.aJ cs off)=(cs.mapM (aM (n+1) σ)).map (.aJ · off):=by
 by_cases hp:aF (.aJ cs off)=true
 ·rw[jo hp]
  have:∀cs:List V,aQ cs=true→cs.mapM (aM (n+1) σ)=some cs:=by
   intro cs
   induction cs with
   |nil=>intro _;rfl
   |cons a l ih=>
    intro h
    simp only[aQ,Bool.and_eq_true] at h
    rw[List.mapM_cons,jo h.1,ih h.2];rfl
  rw[this cs (by simpa [aF] using hp)];rfl
 ·conv=>lhs;unfold aM
  simp only[hp,if_false,Bool.false_eq_true]
variable (hR:mh R)
include hR
theorem Qr {k e:Ty} (m:List (Den R.T k×Den R.T e)):aF (.dn (m.map fun p=>aG R k p.1) (m.map fun p=>aG R e p.2))=true:=by
 simp only[aF,Bool.and_eq_true]
 have h1:∀m:List (Den R.T k×Den R.T e),aQ (m.map fun p=>aG R k p.1)=true∧aQ (m.map fun p=>aG R e p.2)=true:=by
  intro m
  induction m with
  |nil=>exact⟨rfl,rfl⟩
  |cons p m ih=>exact⟨by simp[aQ,ng hR,ih.1],by simp[aQ,ng hR,ih.2]⟩
 exact h1 m
theorem Xr:∀(t:Ty) (x:Den R.T t) (v:V),mg t=true→Rl R ρ top (vC R .any t x) v→∀n σ,aM (n+2) σ v=some (aG R t x)
 |.int k,x,v,_,h,n,σ=>by rw[Rl.fC (R:=R) h];exact OU (n+1) _ _
 |.bool,x,v,_,h,n,σ=>by rw[Rl.oW (R:=R) h];exact OV (n+1) _
 |.str,x,v,_,h,n,σ=>by rw[Rl.lq (R:=R) h];exact OX (n+1) _
 |.slice t,x,v,_,h,n,σ=>by
  obtain⟨c,rfl,_⟩:=Rl.jU (R:=R) h
  exact vo _ _ (ng hR _)
 |.st n,_,_,h,_,_,_=>by simp[mg] at h
theorem Ay:∀(l:List Ty) (p:lK R.T l) (vs:List V),l.all mg=true→aA R ρ top (iY R .any l p) vs→∀n σ,vs.mapM (aM (n+2) σ)=some (encs R l p)
 | [],_,vs,_,h,n,σ=>by rw[aA.eT h];rfl
 | [t],x,vs,hl,h,n,σ=>by
   obtain⟨v,l,rfl,h1,h2⟩:=aA.dJ h
   rw[aA.eT h2,List.mapM_cons,Xr hR t x v (by simpa using hl) h1];rfl
 |t::u::l,p,vs,hl,h,n,σ=>by
  rw[List.all_cons,Bool.and_eq_true] at hl
  obtain⟨v,ws,rfl,h1,h2⟩:=aA.dJ h
  rw[List.mapM_cons,Xr hR t p.1 v hl.1 h1,Ay (u::l) p.2 ws hl.2 h2];rfl
theorem agX (t:Ty) (x:Den R.T t) (vs:List V) (h:aA R ρ top (eO R .any t x).cells vs) (n:Nat) (σ:ah):vs.mapM (aM (n+2) σ)=some (aG R t x).cells:=by
 cases t with
 |st k=>
  have he:aG R (.st k) x= .agg (encs R (R.lf k) (R.of k x)):=hR.enc k x
  rw[he]
  exact Ay hR _ _ vs (hR.leaf k) h n σ
 |int k=>exact Ay hR [.int k] x vs rfl h n σ
 |bool=>exact Ay hR [.bool] x vs rfl h n σ
 |str=>exact Ay hR [.str] x vs rfl h n σ
 |slice t=>exact Ay hR [.slice t] x vs rfl h n σ
theorem Xt {t:Ty} {ρ:aL} {top:Nat→Nat}:∀(l:List (Den R.T t)) (cs:List V),aA R ρ top (l.flatMap fun x=>(eO R .any t x).cells) cs→∀(n:Nat) (σ:ah),cs.mapM (aM (n+2) σ)=some ((l.map (aG R t)).flatMap V.cells)
 | [],cs,h,n,σ=>by rw[aA.eT h];rfl
 |x::l,cs,h,n,σ=>by
  rw[List.flatMap_cons] at h
  obtain⟨a,b,rfl,h1,h2⟩:=h.split
  rw[List.mapM_append,Xt l b h2 n σ,List.map_cons,List.flatMap_cons]
  have:a.mapM (aM (n+2) σ)=some (aG R t x).cells:=agX hR t x a h1 n σ
  rw[this];rfl
theorem agY {t:Ty} (l:List (Den R.T t)):chunks (gF t) (cB R t) l.length ((l.map (aG R t)).flatMap V.cells)=l.map (aG R t):=by
 have:=Qk (gF t) (cB R t) (l.map (aG R t)) (fun v hv=>by
  obtain⟨x,_,rfl⟩:=List.mem_map.1 hv
  exact(Au hR t x).1)
 rw[List.length_map] at this
 rw[this,List.map_map]
 refine List.map_congr_left fun x _=> ?_
 show (if gF t then V.agg (aG R t x).cells else (aG R t x).cells.headD aC)=aG R t x
 cases hs:gF t
 ·cases t<;>first|rfl| (simp[gF] at hs;done)
 ·obtain⟨c,hc⟩:=(Au hR t x).2.2.2.1 hs
  rw[hc];rfl
theorem agZ {t:Ty} (l:List (Den R.T t)):(gF t||cB R t==1&& bg ((l.map (aG R t)).flatMap V.cells))=true:=by
 cases hs:gF t
 ·have h1:cB R t=1:=by cases t<;>first|rfl| (simp[gF] at hs;done)
  rw[h1]
  have:bg ((l.map (aG R t)).flatMap V.cells)=true:=by
   have:=Ql hR l
   unfold bg at this⊢
   rw[List.all_flatMap]
   exact this
  rw[this];rfl
 ·rfl
omit hR in
theorem Xu:∀(a b:List V),aQ (a++b)=(aQ a&& aQ b)
 | [],b=>by simp[aQ]
 |x::a,b=>by simp only[List.cons_append,aQ];rw[Xu a b,Bool.and_assoc]
omit hR in
theorem JQ (k:IntKind):∀l:List Int,aQ (l.map (V.int k))=true
 | []=>by simp[aQ]
 |x::l=>by simp only[List.map_cons,aQ,OY,Bool.true_and];exact JQ k l
omit hR in
theorem Qs:∀ss:List Sg,aQ (bE ss)=true
 | []=>by simp[bE,aQ]
 |.i k x::ss=>by show aQ (V.int k x::bE ss)=true;unfold aQ;rw[Qs ss];simp[aF]
 |.a k n v::ss=>by
  show aQ (v.l.map (V.int k)++bE ss)=true
  rw[Xu,JQ,Qs ss];rfl
omit hR in
theorem Qt (ss:List Sg):aF (.agg (bE ss))=true:=by unfold aF;exact Qs ss
omit hR in
theorem Xv:∀(a b:List V),iJ (a++b)=(iJ a&& iJ b)
 | [],b=>by simp[iJ]
 |x::a,b=>by simp only[List.cons_append,iJ];rw[Xv a b,Bool.and_assoc]
omit hR in
theorem Xw (k:IntKind):∀l:List Int,iJ (l.map (V.int k))=true
 | []=>by simp[iJ]
 |x::l=>by simp only[List.map_cons,iJ,flat,Bool.true_and];exact Xw k l
omit hR in
theorem JR:∀ss:List Sg,iJ (bE ss)=true
 | []=>by simp[bE,iJ]
 |.i k x::ss=>by show iJ (V.int k x::bE ss)=true;unfold iJ;rw[JR ss];simp[flat]
 |.a k n v::ss=>by
  show iJ (v.l.map (V.int k)++bE ss)=true
  rw[Xv,Xw,JR ss];rfl
omit hR in
theorem ag0 (ss:List Sg):er (.agg (bE ss))= .agg (bE ss):=by
 have:∀ss:List Sg,(bE ss).map eU=bE ss:=by
  intro ss
  induction ss with
  |nil=>rfl
  |cons s ss ih=>
   cases s with
   |i k x=>show eU (.int k x)::(bE ss).map eU=_;rw[ih];rfl
   |a k n v=>
    show (v.l.map (V.int k)++bE ss).map eU=_
    rw[List.map_append,ih,List.map_map];rfl
 show V.agg ((bE ss).map eU)=_
 rw[this]
omit hR in
theorem nX:∀(a b:List Sg),bE (a++b)=bE a++bE b
 | [],b=>rfl
 |s::a,b=>by show s.vs++bE (a++b)=s.vs++bE a++bE b;rw[nX a b,List.append_assoc]
omit hR in
theorem Sg.len:∀s:Sg,s.vs.length=s.w
 |.i _ _=>rfl
 |.a _ n v=>by show (v.l.map _).length=n;rw[List.length_map,v.h]
omit hR in
theorem fJ:∀ss:List Sg,(bE ss).length=iF ss
 | []=>rfl
 |s::ss=>by show (s.vs++bE ss).length=s.w+iF ss;rw[List.length_append,s.len,fJ ss]
omit hR in
theorem qP:∀{ss:List Sg} {n:Nat} {a b:List Sg},mV ss n=some (a,b)→ss=a++b∧iF a=n
 |ss,0,a,b,h=>by
  have h':some (([]:List Sg),ss)=some (a,b):=by cases ss<;>exact h
  cases h';exact⟨rfl,rfl⟩
 | [],n+1,a,b,h=>by cases h
 |s::ss,n+1,a,b,h=>by
  unfold mV at h
  obtain⟨h1,h⟩:=dD h
  split at h
  ·rename_i a' b' h2
   cases h
   obtain⟨e,hw⟩:=qP h2
   have:=Nat.le_of_ble_eq_true h1
   refine⟨by rw[e];rfl, ?_⟩
   show s.w+iF a'=n+1
   omega
  ·cases h
omit hR in
theorem Qu {ρ:aL} {top:Nat→Nat} {k:IntKind}:∀{cs:List (TV R.T)} {xs:List Int} {vs:List V},w9 k cs=some xs→aA R ρ top cs vs→vs=xs.map (V.int k)
 | [],xs,vs,h,hr=>by cases h;exact hr.eT
 |c::cs,xs,vs,h,hr=>by
  obtain⟨v,ws,rfl,h1,h2⟩:=hr.dJ
  cases c<;>first| (exact absurd (show none=some xs from h) (by simp))|skip
  rename_i k' x
  have h':(if k'=k then (match w9 k cs with
   |some xs=>some (x::xs)
   |none=>none) else none)=some xs:=h
  split at h'
  ·rename_i e;subst e
   split at h'
   ·rename_i ys hy
    cases h'
    rw[h1.fC,Qu hy h2];rfl
   ·cases h'
  ·cases h'
omit hR in
theorem Xx (k:IntKind):∀(l:List Int) (rest:List V),chunks false 1 l.length (l.map (V.int k)++rest)=l.map (V.int k)
 | [],rest=>rfl
 |x::l,rest=>by
  show V.int k x::chunks false 1 l.length (l.map (V.int k)++rest)=_
  rw[Xx k l rest];rfl
omit hR in
theorem xL {n:Nat} {lo hi:Option Int} (h:l9 n lo hi=true):(dA lo).toNat≤(fB n hi).toNat∧(fB n hi).toNat≤n∧((dA lo).toNat< (fB n hi).toNat∨(dA lo).toNat=0)∧0≤dA lo∧dA lo≤fB n hi:=by
 cases lo<;>cases hi<;>simp only[l9,dA,fB,decide_eq_true_eq] at h⊢ <;>omega
omit hR in
theorem ag1 {α:Type} {n:Nat} {lo hi:Option Int} (h:l9 n lo hi=true) {l:List α} (hl:l.length=n):zF l lo hi=(l.drop (dA lo).toNat).take ((fB n hi).toNat-(dA lo).toNat):=by
 obtain⟨h1,h2,_⟩:=xL h
 cases lo<;>cases hi<;>simp only[zF,dA,fB] at*
 ·simp[hl];rw[List.take_of_length_le (by omega)]
 ·simp
 ·rw[List.take_of_length_le];rw[List.length_drop];omega
 ·rw[List.take_drop];congr 1;congr 1;omega
theorem Xy (hi:aH ρ b st fr σ) {o off n:Nat} {k:IntKind} {lo hi':Option Int} {l:List Int} (h:Jb st o off k n lo hi'=some l) {s:Nat} (hs:ρ.ob o=some s) (hB:l9 n lo hi'=true):
 ∃cs,σ.bO (ρ.om.lc o) s=some cs∧off+n≤cs.length∧(cs.drop (off+(dA lo).toNat)).take ((fB n hi').toNat-(dA lo).toNat)=l.map (V.int k)∧l.length=(fB n hi').toNat-(dA lo).toNat:=by
 obtain⟨p1,p2,p3,_,_⟩:=xL hB
 have fin:∀(cs:List V) (xs:List Int),xs.length=n→(cs.drop off).take n=xs.map (V.int k)→off+n≤cs.length→l=zF xs lo hi'→(cs.drop (off+(dA lo).toNat)).take ((fB n hi').toNat-(dA lo).toNat)=l.map (V.int k)∧l.length=(fB n hi').toNat-(dA lo).toNat:=by
  intro cs xs hx hc hle hl
  rw[ag1 hB hx] at hl
  subst hl
  constructor
  ·rw[List.map_take,List.map_drop,←hc,List.drop_take,List.take_take,List.drop_drop]
   congr 1
   omega
  ·rw[List.length_take,List.length_drop];omega
 unfold Jb at h
 split at h
 ·rename_i ss hl
  obtain⟨s',h1,h2⟩:=hi.rd hl
  rw[hs] at h1;cases h1
  split at h
  ·rename_i pre k' n' v post hsp
   by_cases e:k'=k
   ·subst e
    rw[if_pos rfl] at h
    cases e2:Nat.beq n' n
    ·rw[e2] at h;cases h
    rw[e2] at h
    have e2:=dK e2
    subst e2
    obtain rfl:zF v.l lo hi'=l:=Option.some.inj h
    obtain⟨e3,hw⟩:=qP hsp
    refine⟨_,h2, ?_, ?_⟩
    ·rw[e3,fJ]
     have:∀a b:List Sg,iF (a++b)=iF a+iF b:=fun a b=>by rw[←fJ,nX,List.length_append,fJ,fJ]
     rw[this,hw]
     show off+n'≤off+(n'+iF post);omega
    ·refine fin _ v.l v.h ?_ ?_ rfl
     ·rw[e3,nX,List.drop_append_of_le_length (by rw[fJ,hw];exact Nat.le_refl _),List.drop_of_length_le (by rw[fJ,hw];exact Nat.le_refl _),List.nil_append]
      show ((v.l.map (V.int k'))++bE post).take n'=_
      rw[List.take_append_of_le_length (by rw[List.length_map,v.h];exact Nat.le_refl _),List.take_of_length_le (by rw[List.length_map,v.h];exact Nat.le_refl _)]
     ·rw[e3,nX,List.length_append,fJ,hw,fJ]
      show off+n'≤off+(n'+iF post);omega
   ·rw[if_neg e] at h;cases h
  ·cases h
 ·rename_i cs hl
  obtain⟨s',vs,h1,h2,h3⟩:=hi.rd hl
  rw[hs] at h1;cases h1
  obtain⟨hb,h⟩:=dD h
  have hb:=Nat.le_of_ble_eq_true hb
  split at h
  ·rename_i xs hx
   cases h
   have hv:=Qu hx ((h3.drop off).take n)
   have hlen:off+n≤vs.length:=by rw[h3.length];exact hb
   refine⟨vs,h2,hlen,fin vs xs ?_ hv hlen rfl⟩
   have:=congrArg List.length hv
   rw[List.length_map,List.length_take,List.length_drop] at this
   omega
  ·cases h
 ·cases h
theorem Xz (hi:aH ρ b st fr σ) {x:TV R.T} {v:V} (h:Rl R ρ σ.top x v):∃v',Rl R ρ σ.top (rG st x) v'∧∀n,aM (n+3) σ v=aM (n+3) σ v':=by
 by_cases hx:∃o off,x= .ref o off
 ·obtain⟨o,off,rfl⟩:=hx
  unfold rG
  dsimp only
  split
  ·rename_i cs hl
   obtain⟨s,h1,rfl⟩:=h.mZ
   obtain⟨s',l,h2,h3,h4⟩:=hi.rd hl
   rw[h1] at h2;cases h2
   refine⟨.aJ l off,by unfold Rl;exact⟨l,rfl,h4⟩,fun n=> ?_⟩
   rw[Xq]
   conv=>lhs;unfold aM
   simp only[aF,Bool.false_eq_true,if_false,h3,Option.bind_some]
  ·exact⟨v,h,fun _=>rfl⟩
 ·by_cases hy:∃o,x= .bK o
  ·obtain⟨o,rfl⟩:=hy
   unfold rG
   dsimp only
   split
   ·rename_i k e m hl
    obtain⟨s,h1,rfl⟩:=h.tQ
    obtain⟨s',h2,h3⟩:=hi.rd hl
    rw[h1] at h2;cases h2
    refine⟨.dn (m.map fun p=>aG R k p.1) (m.map fun p=>aG R e p.2),by unfold Rl;rfl,fun n=> ?_⟩
    have hp:=Qr hR m
    rw[jo hp]
    have hp':=hp
    simp only[aF,Bool.and_eq_true] at hp'
    have key:∀cs:List V,aQ cs=true→cs.mapM (aM (n+2) σ)=some cs:=by
     intro cs
     induction cs with
     |nil=>intro _;rfl
     |cons a l ih=>
      intro h
      simp only[aQ,Bool.and_eq_true] at h
      rw[List.mapM_cons,jo h.1,ih h.2];rfl
    conv=>lhs;unfold aM
    simp only[aF,Bool.false_eq_true,if_false,h3,Option.bind_some,key _ hp'.1,key _ hp'.2,Option.map_some]
   ·exact⟨v,h,fun _=>rfl⟩
  ·by_cases hz:∃o t,x= .vw o t
   ·obtain⟨o,t,rfl⟩:=hz
    unfold rG
    dsimp only
    split
    ·rename_i t' l hl
     split
     ·rename_i e
      subst e
      have hO:=hi.rd hl
      refine⟨.aj .sh (l.map (aG R t')),by unfold Rl;exact⟨.sh,rfl,rfl⟩,fun n=> ?_⟩
      rw[vo _ _ (ng hR t')]
      rcases h.Ah with ⟨s,h1,rfl⟩| ⟨h1,h2⟩
      ·rcases hO.2 with h2| ⟨s',cs,h2,h3,h4⟩
       ·rw[h1] at h2;exact absurd h2.2 (by simp)
       ·rw[h1] at h2;cases h2
        have hlc:cs.length=l.length*cB R t':=by rw[h4.length,JO]
        have hlen:l.length=ρ.ln o:=hO.1
        conv=>lhs;unfold aM
        simp only[aF,Bool.false_eq_true,if_false,h3,Option.bind_some,Nat.zero_add,List.drop_zero]
        rw[if_pos (by rw[hlc,hlen];exact Nat.le_refl _),List.take_of_length_le (by rw[hlc,hlen];exact Nat.le_refl _),Xt hR l cs h4 n σ]
        simp only[Option.bind_some]
        rw[←hlen,agY hR l,agZ hR l,if_pos rfl]
        rfl
      ·have hl0:l=[]:=List.eq_nil_of_length_eq_zero (hO.1.trans h1)
       subst hl0
       rcases h2 with rfl|rfl<;>exact vo _ ([]:List (Den R.T t')) (ng hR t')
     ·exact⟨v,h,fun _=>rfl⟩
    ·exact⟨v,h,fun _=>rfl⟩
   ·by_cases hz2:∃o off k n lo hi,x= .sv o off k n lo hi
    ·obtain⟨o,off,k,n,lo,hi',rfl⟩:=hz2
     unfold rG
     dsimp only
     split
     ·rename_i l hl
      obtain⟨s,h1,hB,rfl⟩:=h.vP
      obtain⟨cs,c1,c2,c3,c4⟩:=Xy hR hi hl h1 hB
      obtain⟨p1,p2,p3,_,_⟩:=xL hB
      refine⟨.aj .sh (l.map (V.int k)),by unfold Rl;exact⟨.sh,rfl,rfl⟩,fun m=> ?_⟩
      have hcl:aM (m+3) σ (.aj .sh (l.map (V.int k)))=some (.aj .sh (l.map (V.int k))):=jo (by unfold aF;exact JQ k l)
      rw[hcl]
      conv=>lhs;unfold aM
      simp only[aF,Bool.false_eq_true,if_false,c1,Option.bind_some,Nat.mul_one]
      rw[if_pos (by omega),c3]
      have key:∀cs:List V,aQ cs=true→cs.mapM (aM (m+2) σ)=some cs:=by
       intro cs
       induction cs with
       |nil=>intro _;rfl
       |cons a l ih=>
        intro h
        simp only[aQ,Bool.and_eq_true] at h
        rw[List.mapM_cons,jo h.1,ih h.2];rfl
      rw[key _ (JQ k l)]
      simp only[Option.bind_some]
      have hone:bg (l.map (V.int k))=true:=by unfold bg;rw[List.all_map];simp[oneCell]
      rw[hone,←c4]
      have:=Xx k l []
      rw[List.append_nil] at this
      rw[this];rfl
     ·exact⟨v,h,fun _=>rfl⟩
    ·have:rG st x=x:=by cases x<;>first|rfl|exact absurd ⟨_,_,rfl⟩ hx|exact absurd ⟨_,rfl⟩ hy|exact absurd ⟨_,_,rfl⟩ hz|exact absurd ⟨_,_,_,_,_,_,rfl⟩ hz2
     rw[this];exact⟨v,h,fun _=>rfl⟩
theorem JU (hi:aH ρ b st fr σ):∀{x:List (TV R.T)} {v:List V},aA R ρ σ.top x v→∃v',aA R ρ σ.top (DF st x) v'∧∀n,v.mapM (aM (n+3) σ)=v'.mapM (aM (n+3) σ)
 | [],v,h=>by rw[h.eT];exact⟨[],rfl,fun _=>rfl⟩
 |x::xs,v,h=>by
  obtain⟨w,ws,rfl,h1,h2⟩:=h.dJ
  obtain⟨w',a1,a2⟩:=Xz hR hi h1
  obtain⟨ws',b1,b2⟩:=JU hi h2
  exact⟨w'::ws',.cons' a1 b1,fun n=>by rw[List.mapM_cons,List.mapM_cons,a2,b2]⟩
theorem ag2 (hi:aH ρ b st fr σ) {x:TV R.T} {v:V} (h:Rl R ρ σ.top x v):∃v',Rl R ρ σ.top (xg st x) v'∧∀n,aM (n+4) σ v=aM (n+4) σ v':=by
 by_cases hx:∃f a b,x= .fn f a b
 ·obtain⟨f,a,b,rfl⟩:=hx
  obtain⟨a',b',rfl,ha,hb⟩:=h.mo
  obtain⟨va,a1,a2⟩:=JU hR hi ha
  obtain⟨vb,b1,b2⟩:=JU hR hi hb
  refine⟨.fn (.func f) va vb,⟨va,vb,rfl,a1,b1⟩,fun n=> ?_⟩
  rw[Qq,Qq,a2,b2]
 ·by_cases hy:∃cs,x= .agg cs
  ·obtain⟨cs,rfl⟩:=hy
   obtain⟨l,rfl,hl⟩:=h.jH
   obtain⟨v',a1,a2⟩:=JU hR hi hl
   refine⟨.agg v',by unfold xg;unfold Rl;exact⟨v',rfl,a1⟩,fun n=> ?_⟩
   rw[PV,PV,a2]
  ·have:xg st x=rG st x:=by cases x<;>first|rfl|exact absurd ⟨_,_,_,rfl⟩ hx|exact absurd ⟨_,rfl⟩ hy
   rw[this]
   obtain⟨v',h1,h2⟩:=Xz hR hi h
   exact⟨v',h1,fun n=>h2 (n+1)⟩
theorem Ec (hi:aH ρ b st fr σ):∀{x:List (TV R.T)} {v:List V},aA R ρ σ.top x v→∃v',aA R ρ σ.top (l8 st x) v'∧∀n,v.mapM (aM (n+4) σ)=v'.mapM (aM (n+4) σ)
 | [],v,h=>by rw[h.eT];exact⟨[],rfl,fun _=>rfl⟩
 |x::xs,v,h=>by
  obtain⟨w,ws,rfl,h1,h2⟩:=h.dJ
  obtain⟨w',a1,a2⟩:=ag2 hR hi h1
  obtain⟨ws',b1,b2⟩:=Ec hi h2
  exact⟨w'::ws',.cons' a1 b1,fun n=>by rw[List.mapM_cons,List.mapM_cons,a2,b2]⟩
mutual
theorem XA:∀(k:Sk) (x:oM R.T k) (tv:TV R.T) (v:V),kg k=true→pk R k tv=some x→Rl R ρ top tv v→∀n σ,dep k≤n→aM n σ v=some (encS R k x)
 |.d t,x,tv,v,_,h,hr,n,σ,hn=>by
  obtain⟨m,rfl⟩:∃m,n=m+3:=⟨n-3,by have:3≤n:=hn;omega⟩
  exact(PW hR (show mR R t tv=some x from h) hr).2.2.1 m σ
 |.l c t,x,tv,v,_,h,hr,n,σ,hn=>by
  obtain⟨m,rfl⟩:∃m,n=m+3:=⟨n-3,by have:3≤n:=hn;omega⟩
  obtain⟨c',rfl,_⟩:=(WJ (show Jd R c t tv=some x from h) hr).jU
  exact vo _ _ (ng hR _)
 |.agg l,x,tv,v,hc,h,hr,n,σ,hn=>by
  cases tv<;>first| (exact absurd (show none=some x from h) (by simp))|skip
  rename_i cs
  obtain⟨vs,rfl,hl⟩:=hr.jH
  unfold dep at hn
  obtain⟨m,rfl⟩:∃m,n=m+2:=⟨n-2,by omega⟩
  rw[VO,qj l x cs vs (by unfold kg at hc;exact hc) h hl (m+1) σ (by omega)];rfl
 |.aJ l off,x,tv,v,hc,h,hr,n,σ,hn=>by
  cases tv<;>first| (exact absurd (show none=some x from h) (by simp))|skip
  rename_i cs off'
  have h':(bif Nat.beq off' off then fA R l cs else none)=some x:=h
  obtain⟨hb,h'⟩:=dD h'
  rw[dK hb] at hr
  obtain⟨vs,rfl,hl⟩:=hr.rP
  unfold dep at hn
  obtain⟨m,rfl⟩:∃m,n=m+2:=⟨n-2,by omega⟩
  rw[Xq,qj l x cs vs (by unfold kg at hc;exact hc) h' hl (m+1) σ (by omega)];rfl
 |.dn k e,x,tv,v,_,h,hr,n,σ,hn=>by
  cases tv<;>first| (exact absurd (show none=some x from h) (by simp))|skip
  rename_i k' e' m
  obtain⟨e1,e2,e3⟩:=P6 (show zI R m=some x from h)
  subst e1;subst e2;cases e3
  obtain⟨m',rfl⟩:∃m,n=m+3:=⟨n-3,by have:3≤n:=hn;omega⟩
  rw[hr.Af]
  exact jo (Qr hR m)
 |.fn f a b,x,tv,v,hc,h,hr,n,σ,hn=>by
  cases tv<;>first| (exact absurd (show none=some x from h) (by simp))|skip
  rename_i f' a' b'
  have h':(bif Nat.beq f' f then (match fA R a a' with
   |some x=>match fA R b b' with
    |some y=>some (x,y)
    |none=>none
   |none=>none) else none)=some x:=h
  obtain⟨hb,h'⟩:=dD h'
  rw[dK hb] at hr
  obtain⟨va,vb,rfl,ha,hbb⟩:=hr.mo
  unfold kg at hc
  rw[Bool.and_eq_true] at hc
  unfold dep at hn
  obtain⟨m,rfl⟩:∃m,n=m+2:=⟨n-2,by omega⟩
  cases h1:fA R a a' with
  |none=>simp only[h1] at h';cases h'
  |some y=>
   cases h2:fA R b b' with
   |none=>simp only[h1,h2] at h';cases h'
   |some z=>
    simp only[h1,h2] at h';cases h'
    rw[Qq,qj a y a' va hc.1 h1 ha (m+1) σ (by omega),qj b z b' vb hc.2 h2 hbb (m+1) σ (by omega)];rfl
 |.ref _ _,_,_,_,h,_,_,_,_,_=>by simp[kg] at h
 |.bK _,_,_,_,h,_,_,_,_,_=>by simp[kg] at h
 |.dZ,_,_,_,h,_,_,_,_,_=>by simp[kg] at h
 |.vw _ _,_,_,_,h,_,_,_,_,_=>by simp[kg] at h
 |.sg l,x,tv,v,_,h,hr,n,σ,hn=>by
  cases tv<;>first| (exact absurd (show none=some x from h) (by simp))|skip
  rename_i ss
  obtain⟨m,rfl⟩:∃m,n=m+1:=⟨n-1,by have:3≤n:=hn;omega⟩
  rw[hr.DZ]
  show _=some (V.agg (bE (qK l x)))
  rw[JG (show tH l ss=some x from h)]
  exact jo (Qt ss)
 |.undef,_,_,_,h,_,_,_,_,_=>by simp[kg] at h
theorem qj:∀(l:List Sk) (x:aB R.T l) (cs:List (TV R.T)) (vs:List V),gN l=true→fA R l cs=some x→aA R ρ top cs vs→∀n σ,mW l≤n→vs.mapM (aM n σ)=some (bA R l x)
 | [],x,cs,vs,_,h,hr,n,σ,hn=>by
   cases cs with
   |nil=>rw[hr.eT];rfl
   |cons c cs=>exact absurd (show none=some x from h) (by simp)
 | [k],x,cs,vs,hc,h,hr,n,σ,hn=>by
   unfold gN at hc
   rw[Bool.and_eq_true] at hc
   unfold mW at hn
   cases cs with
   |nil=>exact absurd (show none=some x from h) (by simp)
   |cons c cs=>
    cases cs with
    |nil=>
     obtain⟨v,l,rfl,h1,h2⟩:=hr.dJ
     rw[h2.eT,List.mapM_cons,XA k x c v hc.1 h h1 n σ (by omega)];rfl
    |cons c' cs=>exact absurd (show none=some x from h) (by simp)
 |k::k'::l,x,cs,vs,hc,h,hr,n,σ,hn=>by
  unfold gN at hc
  rw[Bool.and_eq_true] at hc
  unfold mW at hn
  cases cs with
  |nil=>exact absurd (show none=some x from h) (by simp)
  |cons c cs=>
   have h':(match pk R k c with
    |some x=>match fA R (k'::l) cs with
     |some p=>some (x,p)
     |none=>none
    |none=>none)=some x:=h
   obtain⟨v,vs,rfl,h1,h2⟩:=hr.dJ
   cases hu:pk R k c with
   |none=>simp only[hu] at h';cases h'
   |some y=>
    cases hs:fA R (k'::l) cs with
    |none=>simp only[hu,hs] at h';cases h'
    |some q=>
     simp only[hu,hs] at h'
     obtain rfl:=Option.some.inj h'
     rw[List.mapM_cons,XA k y c v hc.1 hu h1 n σ (by omega),qj (k'::l) q cs vs hc.2 hs h2 n σ (by omega)];rfl
end
mutual
theorem JV:∀(tv:TV R.T) (v:V),jF tv=true→Rl R ρ top tv v→aF v=true
 |.int _ _,v,_,h=>by rw[h.fC];exact OY _ _
 |.bool _,v,_,h=>by rw[h.oW];exact OZ _
 |.fT _,v,_,h=>by rw[h.qN];exact OZ _
 |.str _,v,_,h=>by rw[h.lq];exact VH _
 |.eD,v,_,h=>by unfold Rl at h;subst h;simp[aF]
 |.dX,v,_,h=>by unfold Rl at h;subst h;simp[aF]
 |.dS,v,_,h=>by unfold Rl at h;subst h;simp[aF]
 |.fH,v,_,h=>by unfold Rl at h;subst h;simp[aF]
 |.aj c t l,v,hs,h=>by
  cases c<;>simp only[jF,Bool.false_eq_true] at hs
  obtain⟨c',rfl,hc⟩:=h.jU
  obtain rfl:c'= .sh:=hc
  exact Dx (ng hR t) l
 |.agg cs,v,hs,h=>by
  obtain⟨l,rfl,hl⟩:=h.jH
  unfold aF;exact vS cs l (by unfold jF at hs;exact hs) hl
 |.bB cs,v,hs,h=>by
  obtain⟨l,rfl,hl⟩:=h.JB
  unfold aF;exact vS cs l (by unfold jF at hs;exact hs) hl
 |.dn k e m,v,_,h=>by rw[h.Af];exact Qr hR m
 |.fn f a b,v,hs,h=>by
  obtain⟨a',b',rfl,ha,hb⟩:=h.mo
  unfold jF at hs
  rw[Bool.and_eq_true] at hs
  unfold aF;rw[vS a a' hs.1 ha,vS b b' hs.2 hb];rfl
 |.dZ,_,hs,_=>by simp[jF] at hs
 |.ref _ _,_,hs,_=>by simp[jF] at hs
 |.aJ cs off,v,hs,h=>by
  obtain⟨l,rfl,hl⟩:=h.rP
  unfold aF;exact vS cs l (by unfold jF at hs;exact hs) hl
 |.vw _ _,_,hs,_=>by simp[jF] at hs
 |.jq _ _ _ _,_,hs,_=>by simp[jF] at hs
 |.sg ss,v,_,h=>by rw[h.DZ];exact Qt ss
 |.sv _ _ _ _ _ _,_,hs,_=>by simp[jF] at hs
 |.sel _ _ _ _ _ _,_,hs,_=>by simp[jF] at hs
 |.oL _ _ _ _,_,hs,_=>by simp[jF] at hs
 |.bK _,_,hs,_=>by simp[jF] at hs
 |.opt _ _ _,_,hs,_=>by simp[jF] at hs
 |.undef,_,hs,_=>by simp[jF] at hs
 |.gone,_,hs,_=>by simp[jF] at hs
theorem vS:∀(l:List (TV R.T)) (vs:List V),nQ l=true→aA R ρ top l vs→aQ vs=true
 | [],vs,_,h=>by rw[h.eT];rfl
 |x::l,vs,hs,h=>by
  obtain⟨v,ws,rfl,h1,h2⟩:=h.dJ
  unfold nQ at hs
  rw[Bool.and_eq_true] at hs
  unfold aQ;rw[JV x v hs.1 h1,vS l ws hs.2 h2];rfl
end
theorem XB {x:TV R.T} {v:V} (hs:DI x=true) (h:Rl R ρ top x v):aF (eU v)=true:=by
 have key:jF x=true→aF (eU v)=true:=fun hs=>by
  have:=JV hR x v hs h
  cases v with
  |aj c l=>cases c<;>simp[aF] at this<;>simpa [eU,aF] using this
  |_=>exact this
 cases x<;>first|exact key hs|skip
 ·rw[h.nV];simp[eU,aF,aQ]
 ·obtain⟨c',rfl,hc⟩:=h.jU
  exact Dx (ng hR _) _
theorem XC:∀{x:List (TV R.T)} {v:List V},Jc x=true→aA R ρ top x v→aQ (v.map eU)=true
 | [],vs,_,h=>by rw[h.eT];rfl
 |x::l,vs,hs,h=>by
  obtain⟨v,ws,rfl,h1,h2⟩:=h.dJ
  unfold Jc at hs
  rw[Bool.and_eq_true] at hs
  rw[List.map_cons];unfold aQ;rw[XB hR hs.1 h1,XC hs.2 h2];rfl
theorem ag3 {x:TV R.T} {v:V} (hs:VW x=true) (h:Rl R ρ top x v):aF (er v)=true:=by
 by_cases hx:∃cs,x= .agg cs
 ·obtain⟨cs,rfl⟩:=hx
  obtain⟨l,rfl,hl⟩:=h.jH
  show aF (.agg (l.map eU))=true
  unfold aF;exact XC hR hs hl
 ·by_cases hy:∃ss,x= .sg ss
  ·obtain⟨ss,rfl⟩:=hy
   rw[h.DZ,ag0];exact Qt ss
  have hs':DI x=true:=by cases x<;>first|exact hs|exact absurd ⟨_,rfl⟩ hx
  have h1:=XB hR hs' h
  have hne:∀cs,v≠ .agg cs:=by
   rintro cs rfl
   cases x<;>first|exact hy ⟨_,rfl⟩| (unfold Rl at h;simp at h;done)|exact hx ⟨_,rfl⟩| (simp[DI,jF] at hs';done)
  rw[af5 hne];exact h1
theorem Ed:∀{x:List (TV R.T)} {v:List V},vG x=true→aA R ρ top x v→v.all (fun a=>aF (er a))=true
 | [],vs,_,h=>by rw[h.eT];rfl
 |x::l,vs,hs,h=>by
  obtain⟨v,ws,rfl,h1,h2⟩:=h.dJ
  unfold vG at hs
  rw[Bool.and_eq_true] at hs
  rw[List.all_cons,ag3 hR hs.1 h1,Ed hs.2 h2];rfl
theorem Qv:∀(l:List Sk) (x:aB R.T l),zG l=true→iJ (bA R l x)=true
 | [],x,_=>rfl
 | [k],x,h=>by
   cases k<;>simp only[zG,Bool.and_true,Bool.false_eq_true] at h
   ·rename_i t
    show (flat (aG R t x)&& iJ [])=true
    cases t<;>simp only[Pe,Bool.false_eq_true] at h<;>rfl
   ·rename_i ks
    show (flat (.agg (bE (qK ks x)))&& iJ [])=true
    unfold flat;rw[JR];rfl
 |k::k'::l,x,h=>by
  cases k<;>simp only[zG,Bool.false_eq_true] at h
  ·rename_i t
   rw[Bool.and_eq_true] at h
   show (flat (aG R t x.1)&& iJ (bA R (k'::l) x.2))=true
   rw[Qv (k'::l) x.2 h.2]
   have:=h.1
   cases t<;>simp only[Pe,Bool.false_eq_true] at this<;>rfl
  ·rename_i ks
   show (flat (.agg (bE (qK ks x.1)))&& iJ (bA R (k'::l) x.2))=true
   rw[Qv (k'::l) x.2 h]
   unfold flat;rw[JR];rfl
omit hR in
theorem ag4 {vs:List V} (h:iJ vs=true):flat (ko vs)=true:=by
 match vs with
 | []=>simp[ko,flat,iJ]
 | [v]=>simp only[iJ,Bool.and_true] at h;exact h
 |v::w::vs=>show flat (.bB _)=true;unfold flat;exact h
mutual
theorem XD:∀(k:Sk) (x:oM R.T k),kg k=true→Rl R ρ top (up R .sh k x) (encS R k x)
 |.d t,x,_=>Wo hR t x
 |.l c t,x,h=>by
  refine⟨.sh,rfl, ?_⟩
  cases c<;>first|trivial|rfl| (simp[kg] at h;done)
 |.agg l,x,h=>⟨_,rfl,uh l x (by unfold kg at h;exact h)⟩
 |.aJ l off,x,h=>⟨_,rfl,uh l x (by unfold kg at h;exact h)⟩
 |.dn k e,x,_=>rfl
 |.fn f a b,x,h=>by
  unfold kg at h
  rw[Bool.and_eq_true] at h
  exact⟨_,_,rfl,uh a x.1 h.1,uh b x.2 h.2⟩
 |.ref _ _,_,h=>by simp[kg] at h
 |.bK _,_,h=>by simp[kg] at h
 |.dZ,_,h=>by simp[kg] at h
 |.vw _ _,_,h=>by simp[kg] at h
 |.sg l,x,_=>rfl
 |.undef,_,h=>by simp[kg] at h
theorem uh:∀(l:List Sk) (x:aB R.T l),gN l=true→aA R ρ top (iG R .sh l x) (bA R l x)
 | [],_,_=>rfl
 | [k],x,h=>by
   unfold gN at h
   rw[Bool.and_eq_true] at h
   exact .cons' (XD k x h.1) rfl
 |k::k'::l,x,h=>by
  unfold gN at h
  rw[Bool.and_eq_true] at h
  exact .cons' (XD k x.1 h.1) (uh (k'::l) x.2 h.2)
end
omit hR in
theorem ag5 {x:List (TV R.T)} {v:List V} (h:aA R ρ top x v):Rl R ρ top (V4 R x) (ko v):=by
 match x,h with
 | [],h=>rw[h.eT];exact⟨[],rfl,rfl⟩
 | [a],h=>
   obtain⟨v,vs,rfl,h1,h2⟩:=h.dJ
   rw[h2.eT];exact h1
 |a::b::l,h=>
  obtain⟨v,vs,rfl,h1,h2⟩:=h.dJ
  obtain⟨w,ws,rfl,h3,h4⟩:=h2.dJ
  exact⟨_,rfl,.cons' h1 (.cons' h3 h4)⟩
def XE:List V→List V
 |_::l=>.aj .nil []::l
 | []=>[]
def aY (E:Env) (F:Nat→List (FR R)):Prop:=∀f,∀r∈F f,∀p x,r.F p=some x→(gN r.args=true→Pure E f (bA R r.args p) (ko (bA R r.res x)))∧
 (r.own=true→∀(τ:Ty) (h:r.res=[.d (.slice τ)]) (l:List (Den R.T τ)),(h▸x:aB R.T [.d (.slice τ)])=l→
   (gN r.args=true→E.sS f=false∧l6 E f (bA R r.args p) (cB R τ) (l.map (aG R τ)))∧
   (gN r.args=false→E.sS f=true∧l6 E f (XE (bA R r.args p)) (cB R τ) (l.map (aG R τ))))
theorem XF {F:Nat→List (FR R)} (hF:aY E F) {f:Nat} {c:Call} {fo:Operand} {o:Oper} {aD:Nat} {a' b':List V} (ho:o.op= .call c) (fu:c.callee= .value fo) (hf:fr.ev E fo= .fn (.func f) a' b') (hi:E.imp f=false) {args:List (TV R.T)}
 (ha:aA R ρ σ.top args (a'++c.args.toList.map (fr.ev E)++b')) (hi':aH ρ b st fr σ):∀{l:List (FR R)} {r:dI R},(∀x∈l,x∈F f)→findF R args (l8 st args) l=some r→qh E st ρ aD fr σ o r
 | [],r,_,h=>by cases h
 |q::l,r,hl,h=>by
  unfold findF at h
  split at h
  ·rename_i p hp
   obtain⟨hc,h⟩:=dD h
   cases h
   simp only[Bool.and_eq_true] at hc
   obtain⟨⟨⟨c1,c2⟩,c3⟩,c4⟩:=hc
   intro x hx
   have hP:=(hF f q (hl q (by simp)) p x hx).1 c1
   obtain⟨vs',v1,v2⟩:=Ec hR hi' ha
   have Ee:=qj hR q.args p (l8 st args) _ c1 hp v1 20 σ (by have:=Nat.le_of_ble_eq_true c2;omega)
   have has:=(v2 16).trans Ee
   have hcl:((a'++c.args.toList.map (fr.ev E)++b').all (fun x=>aF (er x))||flat (ko (bA R q.res x)))=true:=by
    rw[Bool.or_eq_true] at c4⊢
    rcases c4 with c4|c4
    ·exact .inl (Ed hR c4 ha)
    ·exact .inr (ag4 (Qv hR _ _ c4))
   exact⟨ko (bA R q.res x),⟨fun dO _ _ _ hw h'=>OW.call hw ho fu hf hi has hP hcl h' (WX ho fu hf dO),fun dO _ _ _ _ _ hw h'=>dP.call hw ho fu hf hi has hP hcl h' (WX ho fu hf dO)⟩,ag5 (uh hR _ _ c3)⟩
  ·exact XF hF ho fu hf hi ha hi' (fun x hx=>hl x (by simp[hx])) h
theorem ag6 {t:TypeId} {x i:TV R.T} {v w:V} {r:dI R} (h:Pp E R t x i=some r) (hx:Rl R ρ top x v) (hi:Rl R ρ top i w):nu ρ top (lG E.P t v w) r:=by
 unfold Pp at h
 split at h
 ·rename_i e c u l k n hu
  split at h
  ·rename_i sz hs
   obtain⟨hb,h⟩:=dD h
   cases h
   have:=dK hb;subst this
   obtain⟨c',rfl,_⟩:=hx.jU
   rw[hi.fC]
   intro a ha
   refine⟨.aJ (aG R u a).cells 0, ?_, ?_⟩
   ·rw[IZ,if_pos (by unfold l7;rw[hu])]
    have:gQ E.P t=some e:=by unfold gQ;rw[hu]
    rw[this];simp only[Option.bind_some,hs,ha]
    rw[if_pos (Au hR u a).1]
   ·unfold Rl
    refine⟨_,rfl,(rQ ?_ (Wo hR u a)).1⟩
    cases u<;>rfl
  ·cases h
 ·rename_i n e o off k m hu
  split at h
  ·rename_i sz hs
   cases h
   obtain⟨s,h1,rfl⟩:=hx.mZ
   rw[hi.fC]
   intro hc
   have hc':0≤m∧m<n:=of_decide_eq_true hc
   refine⟨.ref (ρ.om.lc o) s (off+m.toNat*sz), ?_,by unfold Rl;exact⟨s,h1,rfl⟩⟩
   unfold lG;rw[hu];dsimp only;rw[hs]
   simp[idx,kF,hc']
  ·cases h
 ·rename_i n e cs off k m hu
  split at h
  ·rename_i sz hs
   cases h
   obtain⟨l,rfl,h1⟩:=hx.rP
   rw[hi.fC]
   intro hc
   have hc':0≤m∧m<n:=of_decide_eq_true hc
   refine⟨.aJ l (off+m.toNat*sz), ?_,by unfold Rl;exact⟨l,rfl,h1⟩⟩
   unfold lG;rw[hu];dsimp only;rw[hs]
   simp[idx,kF,hc']
  ·cases h
 ·cases h
omit hR in
theorem ag7 {t:TypeId} {x i:TV R.T} {v w:V} {r:dI R} (h:Pw E R t x i=some r) (hx:Rl R ρ top x v) (hi:Rl R ρ top i w):nu ρ top (sQ E.P t v w) r:=by
 unfold Pw at h
 split at h
 ·rename_i s k n hu
  cases h
  rw[hx.lq,hi.fC]
  intro a ha
  refine⟨.int .u8 ((a.toNat:Nat):Int), ?_,by unfold Rl;rfl⟩
  rw[VU (by unfold Dy;rw[hu]),ha];rfl
 ·cases h
end
end Aq
end
