/- Part of the proof of a law. -/
import Derived.Test.YtdcnajadcbedkaaGreatDoorS1108
set_option linter.all false
set_option linter.unusedSimpArgs false
set_option linter.unusedSectionVars false
section
namespace Aq
open Go
set_option linter.unusedSectionVars false
set_option linter.unusedVariables false
section
variable {R:gM} {E:Env}
variable {ρ:aL} {top:Nat→Nat}
def nO (ρ:aL) (top:Nat→Nat) (v:Option V):dA R→Prop
 |.t x=> ∃y,v=some y∧Rl R ρ top x y
 |.c c x=>c=true→∃y,v=some y∧Rl R ρ top x y
 |.p _ _ o f=> ∀a,o=some a→∃y,v=some y∧Rl R ρ top (f a) y
 |_=>False
theorem Vf {op:BinOp} {k:IntKind} {x y:Int} {r:dA R} (h:IB R op k x y=some r):nO ρ top (jl op k x y) r:=by
 unfold IB at h
 cases op<;>cases h<;>first
  |exact⟨_,rfl,by unfold Rl;rfl⟩
  | (intro hc
     have hy:¬y=0:=by simpa using hc
     exact⟨_,if_neg hy,by unfold Rl;rfl⟩)
theorem aew {op:BinOp} {k:IntKind} {x y:Int} {r:dA R} (h:NK R op k x y=some r):nO ρ top (C9 op k x y) r:=by
 unfold NK at h
 cases op<;>cases h<;>
  (intro hc
   have hy:¬y<0:=by have:=of_decide_eq_true hc;omega
   exact⟨_,if_neg hy,by unfold Rl;rfl⟩)
theorem aex {op:BinOp} {x y:List UInt8} {r:dA R} (h:NM R op x y=some r):nO ρ top (vP op x y) r:=by
 unfold NM at h
 cases op<;>cases h<;>first
  |exact⟨_,rfl,by unfold Rl;rfl⟩
  | (intro hc
     have hy:¬((x.length+y.length:Nat):Int)>IntKind.i64.max:=by have:=of_decide_eq_true hc;omega
     exact⟨_,if_neg hy,by unfold Rl;rfl⟩)
theorem aey {P:Program} {op:BinOp} {t:TypeId} {k:IntKind} {a b:Int} (h:AJ op=false):mD P op t (.int k a) (.int k b)=jl op k a b:=by
 cases op<;>first| (simp[AJ] at h;done)|simp[mD]
theorem aez {P:Program} {op:BinOp} {t:TypeId} {k k':IntKind} {a b:Int} (h:AJ op=true):mD P op t (.int k a) (.int k' b)=C9 op k a b:=by
 cases op<;>first| (simp[AJ] at h;done)|rfl
theorem aeA {P:Program} {op:BinOp} {t:TypeId} {a b:List UInt8}:mD P op t (.str a) (.str b)=vP op a b:=by
 cases op<;>rfl
theorem aeB {P:Program} {t:TypeId} {x y:V} {b:Bool} (h:nW P t x y=some b):(∀k n k' m,x= .int k n→y= .int k' m→False)∧∀s s',x= .str s→y= .str s'→False:=by
 unfold nW at h
 constructor
 ·intro k n k' m hx hy;subst hx;subst hy;split at h<;>simp_all
 ·intro s s' hx hy;subst hx;subst hy;split at h<;>simp_all
theorem Vg {P:Program} {t:TypeId} {x y:V} {b:Bool} (h:nW P t x y=some b):mD P .eql t x y=some (.bool b)∧mD P .neq t x y=some (.bool !b):=by
 obtain⟨h1,h2⟩:=aeB h
 constructor
 all_goals
  unfold mD
  split
  ·rename_i he;cases he
  ·rename_i he;cases he
  ·exact(h1 _ _ _ _ rfl rfl).elim
  ·exact(h2 _ _ rfl rfl).elim
  all_goals first| (rw[h];rfl)| (rename_i he;cases he)|simp_all
theorem aeC {op:BinOp} {t:TypeId} {x y:TV R.T} {v w:V} {r:dA R} (h:NP E R op t x y=some r) (hx:Rl R ρ top x v) (hy:Rl R ρ top y w):nO ρ top (mD E.P op t v w) r:=by
 unfold NP at h
 split at h
 ·rename_i k a k' b
  rw[hx.fG,hy.fG]
  cases hs:AJ op
  ·rw[hs,cond_false] at h
   split at h
   ·rename_i e;subst e;rw[aey hs];exact Vf h
   ·cases h
  ·rw[hs,cond_true] at h;rw[aez hs];exact aew h
 ·rw[hx.lM,hy.lM,aeA];exact aex h
 ·split at h
  ·split at h
   ·rename_i b hb;cases h
    exact⟨_,(Vg (Ve hb hx hy)).1,by unfold Rl;rfl⟩
   ·cases h
  ·split at h
   ·rename_i b hb;cases h
    exact⟨_,(Vg (Ve hb hx hy)).2,by unfold Rl;rfl⟩
   ·cases h
  ·cases h
theorem aeD {op:UnOp} {x:TV R.T} {v:V} {r:dA R} (h:NR R op x=some r) (hx:Rl R ρ top x v):nO ρ top (xC op v) r:=by
 unfold NR at h
 split at h
 ·cases h;rw[hx.fG];exact⟨_,rfl,by unfold Rl;rfl⟩
 ·rw[hx.fG];exact Vf h
 ·cases h;rw[hx.pK];exact⟨_,rfl,by unfold Rl;rfl⟩
 ·cases h;rw[hx.sV];exact⟨_,rfl,by unfold Rl;rfl⟩
 ·cases h
theorem Vh (s:List UInt8):s.map lu=List.map (aG R (.int .u8)) (s.map fun b=>((b.toNat:Nat):Int)):=by
 show s.map lu=List.map (fun n:Int=>V.int .u8 n) (List.map (fun b:UInt8=>((b.toNat:Nat):Int)) s)
 rw[List.map_map];rfl
theorem OI:∀l:List Int,(List.map (aG R (.int .u8)) l).mapM xD=some (List.map (fun n:Int=>UInt8.ofNat n.toNat) l)
 | []=>rfl
 |n::l=>by
  show List.mapM xD (V.int .u8 n::List.map (aG R (.int .u8)) l)=_
  rw[List.mapM_cons,OI l];rfl
theorem aeE {a b:TypeId} {x:TV R.T} {v:V} {σ:ah} {r:dA R} (h:IC E R a b x=some r) (hx:Rl R ρ top x v):nO ρ top (uN E.P σ a b v) r:=by
 unfold IC at h
 unfold uN
 split at h
 ·rename_i hu hv;cases h;rw[hx.fG,hu,hv];exact⟨_,rfl,by unfold Rl;rfl⟩
 ·rename_i hu hv;cases h;rw[hx.lM,hu,hv];exact⟨_,rfl,by unfold Rl;rfl⟩
 ·rename_i hu hv
  rw[hx.lM,hu,hv]
  split at h
  ·rename_i he;cases h
   dsimp only;rw[he]
   exact⟨_,rfl,by unfold Rl;exact⟨.sh,by rw[Vh],trivial⟩⟩
  ·cases h
 ·rename_i l hu hv
  obtain⟨c',rfl,_⟩:=hx.jO
  rw[hu,hv]
  split at h
  ·rename_i he;cases h
   dsimp only;rw[he]
   exact⟨_,congrArg (Option.map V.str) (OI (R:=R) l),by unfold Rl;rfl⟩
  ·cases h
 ·rename_i hu hv
  rw[hx.nK,hu,hv]
  split at h
  ·rename_i he;cases h
   dsimp only;rw[he]
   exact⟨_,rfl,by unfold Rl;rfl⟩
  ·cases h
 ·cases h
theorem Bw {x:Option (TV R.T)} {v:Option V} {i:Option Int} (h:AL R x=some i) (hx:∀y,x=some y→∃w,v=some w∧Rl R ρ top y w) (hn:x=none→v=none):(i=none∧v=none)∨∃n k,i=some n∧v=some (.int k n):=by
 unfold AL at h
 split at h
 ·cases h;exact .inl ⟨rfl,hn rfl⟩
 ·rename_i k n
  cases h
  obtain⟨w,rfl,hw⟩:=hx _ rfl
  exact .inr ⟨n,k,rfl,by rw[hw.fG]⟩
 ·cases h
theorem pQ {k:IntKind} {n:Int} {m:Nat} (h:fB n m=true):bnd (.int k n) m=some n.toNat:=by
 unfold fB at h
 have:=of_decide_eq_true h
 simp[bnd,kU,this]
theorem Vi {α:Type} (l:List α) {lo hi:Option Int} {vl vh:Option V} (hl:(lo=none∧vl=none)∨∃n k,lo=some n∧vl=some (.int k n)) (hh:(hi=none∧vh=none)∨∃n k,hi=some n∧vh=some (.int k n)) (hb:NS l.length lo hi=true):
 ∃a c,jm l.length l.length vl vh none=some (a,c,l.length)∧(l.take c).drop a=oC l lo hi:=by
 rcases hl with ⟨rfl,rfl⟩| ⟨n,k,rfl,rfl⟩<;>rcases hh with ⟨rfl,rfl⟩| ⟨m,k',rfl,rfl⟩
 ·exact⟨0,l.length,rfl,by simp[oC]⟩
 ·have h1:fB m l.length=true:=hb
  exact⟨0,m.toNat,by simp[jm,pQ h1],by simp[oC]⟩
 ·have h1:fB n l.length=true:=hb
  exact⟨n.toNat,l.length,by simp[jm,pQ h1],by simp[oC]⟩
 ·have h1:(fB m l.length&& fB n m.toNat)=true:=hb
  rw[Bool.and_eq_true] at h1
  exact⟨n.toNat,m.toNat,by simp[jm,pQ h1.1,pQ h1.2],by simp[oC]⟩
theorem OJ {α:Type} (f:α→V) (l:List α) (a c:Nat):((l.map f).take c).drop a=((l.take c).drop a).map f:=by simp
variable (hR:mQ R)
include hR
theorem Bz (t:Ty) (x:Den R.T t):(aG R t x).cells.length=bI R t∧bf (aG R t x).cells=true∧er (aG R t x)=aG R t x∧(gP t=true→∃l,aG R t x= .agg l)∧(gP t=false→(aG R t x).cells=[aG R t x]):=by
 cases t with
 |int k=>exact⟨rfl,rfl,rfl,by simp[gP],fun _=>rfl⟩
 |bool=>exact⟨rfl,rfl,rfl,by simp[gP],fun _=>rfl⟩
 |str=>exact⟨rfl,rfl,rfl,by simp[gP],fun _=>rfl⟩
 |slice t=>exact⟨rfl,rfl,rfl,by simp[gP],fun _=>rfl⟩
 |st n=>
  have he:aG R (.st n) x= .agg (encs R (R.lf n) (R.of n x)):=hR.enc n x
  rw[he]
  have hl:=hR.leaf n
  have key:∀(l:List Ty) (p:lY R.T l),l.all mP=true→bf (encs R l p)=true∧(encs R l p).map fq=encs R l p:=by
   intro l
   induction l with
   |nil=>intro p _;exact⟨rfl,rfl⟩
   |cons t l ih=>
    intro p h
    rw[List.all_cons,Bool.and_eq_true] at h
    have h1:∀y:Den R.T t,oneCell (aG R t y)=true∧fq (aG R t y)=aG R t y:=by
     intro y
     cases t<;>first|exact⟨rfl,rfl⟩| (have:=h.1;simp[mP] at this)
    cases l with
    |nil=>exact⟨by simp[encs,bf,(h1 p).1],by simp[encs,(h1 p).2]⟩
    |cons u l=>
     have:=ih p.2 h.2
     exact⟨by show (oneCell _&& bf (encs R (u::l) p.2))=true;rw[(h1 p.1).1,this.1];rfl,by show fq _::List.map fq (encs R (u::l) p.2)=_;rw[(h1 p.1).2,this.2];rfl⟩
  have:=key (R.lf n) (R.of n x) hl
  exact⟨Om _ _,this.1,by show V.agg (List.map fq _)=_;rw[this.2],fun _=>⟨_,rfl⟩,by simp[gP]⟩
theorem Ew {t:Ty} (l:List (Den R.T t)):lC (bI R t) (l.map (aG R t))=true:=by
 cases l with
 |nil=>rfl
 |cons x l=>show ((aG R t x).cells.length==bI R t)=true;rw[(Bz hR t x).1];simp
theorem Je {t:TypeId} {x:TV R.T} {lo hi:Option (TV R.T)} {v:V} {vl vh:Option V} {σ:ah} {r:dA R} (h:wI E R t x lo hi=some r) (hx:Rl R ρ top x v)
 (hl:∀y,lo=some y→∃w,vl=some w∧Rl R ρ top y w) (hln:lo=none→vl=none) (hh:∀y,hi=some y→∃w,vh=some w∧Rl R ρ top y w) (hhn:hi=none→vh=none):nO ρ top (kF E.P σ t v vl vh none) r:=by
 unfold wI at h
 split at h
 ·rename_i lo' hi' e1 e2
  have b1:=Bw e1 hl hln
  have b2:=Bw e2 hh hhn
  split at h
  ·rename_i s hu
   cases h
   rw[hx.lM]
   intro hc
   obtain⟨a,c,h1,h2⟩:=Vi s b1 b2 hc
   refine⟨.str (oC s lo' hi'), ?_,by unfold Rl;rfl⟩
   unfold kF;rw[hu];dsimp only;rw[h1];simp[h2]
  ·rename_i e c u l hu
   split at h
   ·rename_i sz hs
    cases hb:Nat.beq sz (bI R u)
    ·rw[hb] at h;cases h
    ·rw[hb,cond_true] at h;cases h
     have:=dG hb;subst this
     obtain⟨c',rfl,_⟩:=hx.jO
     intro hc
     obtain⟨a,m,h1,h2⟩:=Vi l b1 b2 hc
     unfold kF;rw[hu];dsimp only
     rw[hs];simp only[Option.bind_some,List.length_map,h1,Ew hR,if_true]
     by_cases hcs:a=0∧m=l.length∧(none:Option V).isNone=true
     ·refine⟨_,by rw[if_pos hcs], ?_⟩
      unfold Rl
      refine⟨c', ?_,trivial⟩
      rw[←h2,hcs.1,hcs.2.1];simp
     ·refine⟨_,by rw[if_neg hcs], ?_⟩
      unfold Rl
      exact⟨_,by rw[←h2,OJ],trivial⟩
   ·cases h
  ·cases h
 ·cases h
theorem Jf {t:TypeId} {k:Ty} (hk:uY E t k=true) (x y:Den R.T k):lq (aG R k x) (aG R k y)=some (kM R k x y)∧j6 E.P t (aG R k x)=true:=by
 unfold uY at hk
 split at hk
 ·rename_i hu;exact⟨by simp[lq,aG,kM],by unfold j6;rw[hu];rfl⟩
 ·rename_i hu;exact⟨rfl,by unfold j6;rw[hu];rfl⟩
 ·rename_i hu;exact⟨rfl,by unfold j6;rw[hu];rfl⟩
 ·cases hk
theorem Vj {t:TypeId} {k e:Ty} (hk:uY E t k=true) (x:Den R.T k):∀m:List (Den R.T k×Den R.T e),mY (aG R k x) (m.map fun p=>aG R k p.1) (m.map fun p=>aG R e p.2)=some ((xX (kM R k) x m).map (aG R e))
 | []=>rfl
 | (a,v)::m=>by
   show (lq (aG R k x) (aG R k a)).bind _=some ((bif kM R k x a then some v else xX (kM R k) x m).map (aG R e))
   rw[(Jf hR hk x a).1,Option.bind_some]
   cases kM R k x a
   ·exact Vj hk x m
   ·rfl
theorem Vk {t:TypeId} {k e:Ty} (hk:uY E t k=true) (x:Den R.T k) (v:Den R.T e):∀m:List (Den R.T k×Den R.T e),tH (aG R k x) (aG R e v) (m.map fun p=>aG R k p.1) (m.map fun p=>aG R e p.2)=
 some ((wJ (kM R k) x v m).map (fun p=>aG R k p.1),(wJ (kM R k) x v m).map fun p=>aG R e p.2)
 | []=>rfl
 | (a,w)::m=>by
   show (lq (aG R k x) (aG R k a)).bind _=_
   rw[(Jf hR hk x a).1,Option.bind_some]
   show _=some (List.map _ (bif kM R k x a then (x,v)::m else (a,w)::wJ (kM R k) x v m),List.map _ (bif kM R k x a then (x,v)::m else (a,w)::wJ (kM R k) x v m))
   cases kM R k x a
   ·simp only[Bool.false_eq_true,if_false,cond_false]
    rw[Vk hk x v m];rfl
   ·rfl
theorem Vl {t:TypeId} {k:Ty} (hk:uY E t k=true) {x:Den R.T k} {y:TV R.T} {v:V} (h:nD R k y=some x) (hr:Rl R ρ top y v):v=aG R k x:=by
 unfold uY at hk
 split at hk
 ·exact Oi h hr
 ·exact Ol h hr
 ·exact Oj h hr
 ·cases hk
omit hR in
def mapOf (σ:ah):V→Option (List V×List V)
 |.dU=>some ([],[])
 |.bD loc s=>σ.eX loc s
 |.bV ks vs=>some (ks,vs)
 |_=>none
omit hR in
theorem Vm {P:Program} {σ:ah} {t:TypeId} {m k:V} {ok:Bool}:tJ P σ t m k ok=(qY P t).bind fun p=>if j6 P p.1 k then (mapOf σ m).bind fun q=>(mY k q.1 q.2).bind fun r=>
 (match r with|some v=>some (v,true)|none=>(fZ P p.2).map fun z=>(z,false)).map fun (x:V×Bool)=>if ok then .bg [x.1,.bool x.2] else x.1 else none:=by
 cases m<;>rfl
theorem OL {t:TypeId} {k e:Ty} {m:List (Den R.T k×Den R.T e)} {y:TV R.T} {w mv:V} {ok:Bool} {σ:ah} {r:dA R} (h:Ea E R t k e m y ok=some r) (hy:Rl R ρ top y w)
 (hm:mapOf σ mv=some (m.map (fun p=>aG R k p.1),m.map fun p=>aG R e p.2)):nO ρ top (tJ E.P σ t mv w ok) r:=by
 unfold Ea at h
 split at h
 ·rename_i kt et ht
  cases hk:uY E kt k
  ·rw[hk] at h;cases h
  ·rw[hk,cond_true] at h
   split at h
   ·rename_i z hz
    split at h
    ·rename_i z' x hz' hx
     cases h
     have hw:=Vl hR hk hx hy
     subst hw
     obtain⟨zv,hzv,OM⟩:=Bv (ρ:=ρ) (top:=top) hz
     have aeF:=Es hR hz' OM
     rw[Vm,ht];simp only[Option.bind_some]
     rw[if_pos (Jf hR hk x x).2,hm]
     simp only[Option.bind_some]
     rw[Vj hR hk x m]
     simp only[Option.bind_some]
     cases hg:xX (kM R k) x m with
     |some v=>
      simp only[Option.map_some]
      cases ok
      ·exact⟨_,rfl,I8 hR .any (.inl rfl) e v⟩
      ·refine⟨_,rfl, ?_⟩
       rw[cond_true]
       unfold Rl
       exact⟨_,rfl,.cons' (I8 hR .any (.inl rfl) e v) (.cons' (by unfold Rl;rfl) rfl)⟩
     |none=>
      simp only[Option.map_none,hzv,Option.map_some]
      have hz3:Rl R ρ top (eZ R .any e z') zv:=aeF
      cases ok
      ·exact⟨_,rfl,hz3⟩
      ·refine⟨_,rfl, ?_⟩
       rw[cond_true]
       unfold Rl
       exact⟨_,rfl,.cons' hz3 (.cons' (by unfold Rl;rfl) rfl)⟩
    ·cases h
   ·cases h
 ·cases h
end
end Aq
end
section
namespace Aq
open Go
set_option linter.unusedSectionVars false
set_option linter.unusedVariables false
section
variable {R:gM} {E:Env}
variable {ρ:aL} {top:Nat→Nat} {b:Nat} {st:MS R.T} {fr:Fr} {σ:ah}
theorem cZ.{u} {α:Type u} {c:Bool} {o:Option α} {y:α} (h:(bif c then o else none)=some y):c=true∧o=some y:=by
 cases c
 ·cases h
 ·exact⟨rfl,h⟩
theorem Jg {t e:TypeId} {u:Ty} {sz bY:Nat} (h:AP E R t=some (e,u,sz,bY)):∃z,iw E.P t=some e∧bC E.P e=some sz∧nU E.P e=some bY∧gH E.P e=some (gP u)∧fZ E.P e=some z∧
 sz=bI R u∧0<sz∧(gP u||sz==1)=true∧z.cells.length=sz:=by
 unfold AP at h
 split at h
 ·rename_i e' he
  split at h
  ·rename_i u' sz' by' ag z h1 h2 h3 h4 h5
   obtain⟨hc,h⟩:=cZ h
   cases h
   simp only[Bool.and_eq_true] at hc
   obtain⟨⟨⟨⟨c1,c2⟩,c3⟩,c4⟩,c5⟩:=hc
   have:ag=gP u:=by simpa using c5
   subst this
   refine⟨z,he,h2,h3,h4,h5,dG c1,Nat.le_of_ble_eq_true c2, ?_,dG c4⟩
   rw[Bool.or_eq_true] at c3⊢
   rcases c3 with c3|c3
   ·exact .inl c3
   ·exact .inr (by rw[dG c3];rfl)
  ·cases h
 ·cases h
theorem OO (ag:Bool) (sz:Nat):∀vs:List V,(∀v∈vs,v.cells.length=sz)→chunks ag sz vs.length (vs.flatMap V.cells)=vs.map fun v=>if ag then .agg v.cells else v.cells.headD aD
 | [],_=>rfl
 |v::vs,h=>by
  have h1:=h v (by simp)
  have h2:=OO ag sz vs (fun w hw=>h w (by simp[hw]))
  show _::chunks ag sz vs.length ((v.cells++vs.flatMap V.cells).drop sz)=_
  rw[List.drop_left' h1,h2,List.map_cons]
  congr 1
  cases ag
  ·simp only[Bool.false_eq_true,if_false]
   show (v.cells++vs.flatMap V.cells).headD aD=_
   cases hv:v.cells with
   |nil=>
    have h0:sz=0:=by rw[←h1,hv];rfl
    cases vs with
    |nil=>rfl
    |cons w vs=>
     have:w.cells=[]:=List.eq_nil_of_length_eq_zero (by rw[h w (by simp),h0])
     simp only[List.flatMap_cons,this,List.nil_append]
     have:∀vs:List V,(∀v∈vs,v.cells.length=sz)→vs.flatMap V.cells=[]:=by
      intro vs hvs
      rw[List.flatMap_eq_nil_iff]
      intro x hx;exact List.eq_nil_of_length_eq_zero (by rw[hvs x hx,h0])
     rw[this vs (fun x hx=>h x (by simp[hx]))]
   |cons a l=>rfl
  ·simp only[if_true]
   show V.agg ((v.cells++vs.flatMap V.cells).take sz)=_
   rw[List.take_left' h1]
variable (hR:mQ R)
include hR
theorem aeG {t:Ty} {x:Den R.T t} {v:V} (h:er v=aG R t x):cu v=true:=by
 cases v<;>try rfl
 have h1:=mR hR t x
 rw[←h] at h1
 simp[er,aF] at h1
theorem Vn {u:Ty} {sz len:Nat} (hsz:sz=bI R u):∀(ps:List (Nat×TV R.T)) (qs:List (Nat×V)) (xs:List (Den R.T u)) (n:Nat) (done rest:List V),wK R u n ps=some xs→ps.map (·.1)=qs.map (·.1)→
 aC R ρ top (ps.map (·.2)) (qs.map (·.2))→done.length=n*sz→rest.length=xs.length*sz→n+xs.length≤len→
 ∃vs:List V,nV (fun i=>if i<len then some (i*sz,sz) else none) (done++rest) qs=some (done++vs.flatMap V.cells)∧vs.length=xs.length∧vs.map er=xs.map (aG R u)∧(∀v∈vs,v.cells.length=sz∧bf v.cells=true)
 | [],[],xs,n,done,rest,h,_,_,h1,h2,_=>by
   cases h
   have:rest=[]:=List.eq_nil_of_length_eq_zero (by simpa using h2)
   subst this
   exact⟨[],by simp[nV],rfl,rfl,by simp⟩
 | [],_::_,_,_,_,_,_,h,_,_,_,_=>by simp at h
 |_::_,[],_,_,_,_,_,h,_,_,_,_=>by simp at h
 | (i,v)::ps,(j,w)::qs,xs,n,done,rest,h,hi,hr,h1,h2,h3=>by
   simp only[List.map_cons,List.cons.injEq] at hi
   obtain⟨rfl,hi⟩:=hi
   obtain⟨y,ys,e,g1,g2⟩:=hr.dB
   simp only[List.map_cons,List.cons.injEq] at e
   obtain⟨rfl,rfl⟩:=e
   unfold wK at h
   cases hb:Nat.beq i n
   ·rw[hb] at h;cases h
   ·rw[hb,cond_true] at h
    have:=dG hb;subst this
    cases hu:nD R u v with
    |none=>simp only[hu] at h;cases h
    |some x=>
     cases hs:wK R u (i+1) ps with
     |none=>simp only[hu,hs] at h;cases h
     |some xs'=>
      simp only[hu,hs] at h
      obtain rfl:=Option.some.inj h
      obtain⟨a1,a2,a3,a4,a5⟩:=Oq hR hu g1
      rw[←hsz] at a4
      have hlen:rest.length=sz+xs'.length*sz:=by rw[h2,List.length_cons,Nat.succ_mul];omega
      have q1:(done++w.cells).length=(i+1)*sz:=by rw[List.length_append,h1,a4,Nat.succ_mul]
      have q2:(rest.drop sz).length=xs'.length*sz:=by rw[List.length_drop,hlen,Nat.add_sub_cancel_left]
      have q3:i+1+xs'.length≤len:=by rw[List.length_cons] at h3;omega
      obtain⟨vs,k1,k2,k3,k4⟩:=Vn hsz ps qs xs' (i+1) (done++w.cells) (rest.drop sz) hs hi g2 q1 q2 q3
      refine⟨w::vs, ?_,by simp[k2],by simp[a1,k3], ?_⟩
      ·simp only[List.length_cons] at h3
       unfold nV
       simp only[if_pos (show i<len by omega)]
       rw[if_pos ⟨a4,by rw[List.length_append,h1,hlen];exact Nat.add_le_add_left (Nat.le_add_right _ _) _,aeG hR a1⟩]
       have:eO (done++rest) (i*sz) w.cells=done++w.cells++rest.drop sz:=by
        unfold eO
        rw[List.take_left' h1,a4,List.drop_append,h1,Nat.add_sub_cancel_left,List.drop_eq_nil_of_le (by omega)]
        rfl
       rw[this,k1]
       simp
      ·intro z hz
       rcases List.mem_cons.1 hz with rfl|hz
       ·exact⟨a4,a5⟩
       ·exact k4 z hz
theorem aeH {u:Ty} {sz:Nat} (hsz:sz=bI R u) (h1:(gP u||sz==1)=true) {v:V} {x:Den R.T u} (he:er v=aG R u x) (hl:v.cells.length=sz):er (if gP u then .agg v.cells else v.cells.headD aD)=aG R u x:=by
 cases hs:gP u
 ·simp only[Bool.false_eq_true,if_false]
  have hne:∀cs,v≠ .agg cs:=by
   rintro cs rfl
   cases u<;>first| (simp[gP] at hs;done)| (simp[er,aG] at he;done)
  have:v.cells=[v]:=by cases v<;>first|rfl|exact absurd rfl (hne _)
  rw[this];exact he
 ·simp only[if_true]
  obtain⟨l,hl'⟩:=(Bz hR u x).2.2.2.1 hs
  cases v<;>first|exact he| (rw[hl'] at he;simp[er] at he)
theorem aeI {t:TypeId} {len:Nat} {ps:List (Nat×TV R.T)} {qs:List (Nat×V)} {r:dA R} (h:NT E R t len ps=some r) (hi:ps.map (·.1)=qs.map (·.1)) (hr:aC R ρ top (ps.map (·.2)) (qs.map (·.2))):nO ρ top (tO E t len qs) r:=by
 unfold NT at h
 split at h
 ·rename_i e u sz bY he
  obtain⟨z,e1,e2,e3,e4,e5,e6,e7,e8,e9⟩:=Jg he
  ·obtain⟨hc,h⟩:=cZ h
   rw[Bool.and_eq_true] at hc
   split at h
   ·rename_i xs hx
    cases h
    have hlen:xs.length=len:=by
     have:∀(ps:List (Nat×TV R.T)) (n:Nat) (xs:List (Den R.T u)),wK R u n ps=some xs→xs.length=ps.length:=by
      intro ps
      induction ps with
      |nil=>intro n xs h;cases h;rfl
      |cons p ps ih=>
       intro n xs h
       obtain⟨i,v⟩:=p
       unfold wK at h
       obtain⟨_,h⟩:=cZ h
       cases hu:nD R u v with
       |none=>simp only[hu] at h;cases h
       |some x=>
        cases hs:wK R u (n+1) ps with
        |none=>simp only[hu,hs] at h;cases h
        |some xs'=>simp only[hu,hs] at h;cases h;simp[ih _ _ hs]
     rw[this ps 0 xs hx];exact dG hc.2
    obtain⟨vs,k1,k2,k3,k4⟩:=Vn hR (len:=len) e6 ps qs xs 0 [] ((List.replicate len z.cells).flatten) hx hi hr (by simp) (by simp[e9,hlen]) (by omega)
    refine⟨.aj .full (xs.map (aG R u)), ?_,by unfold Rl;exact⟨.full,rfl,rfl⟩⟩
    unfold tO
    rw[e1];simp only[Option.bind_some,e2,e4,e5]
    rw[if_pos ⟨Nat.le_of_ble_eq_true hc.1,e9,e7,e8⟩]
    rw[List.nil_append,List.nil_append] at k1
    rw[k1]
    simp only[Option.bind_some]
    have hone:bf (vs.flatMap V.cells)=true:=by
     unfold bf
     rw[List.all_flatMap,List.all_eq_true]
     intro v hv;exact(k4 v hv).2
    rw[hone,if_pos rfl,←hlen,←k2,OO _ _ _ (fun v hv=>(k4 v hv).1),List.map_map]
    congr 2
    have:∀(vs:List V) (xs:List (Den R.T u)),vs.map er=xs.map (aG R u)→(∀v∈vs,v.cells.length=sz∧bf v.cells=true)→vs.map (er∘fun v=>if gP u then .agg v.cells else v.cells.headD aD)=xs.map (aG R u):=by
     intro vs
     induction vs with
     |nil=>intro xs h _;exact h
     |cons v vs ih=>
      intro xs h hk
      cases xs with
      |nil=>simp at h
      |cons x xs=>
       simp only[List.map_cons,List.cons.injEq] at h
       rw[List.map_cons,List.map_cons,ih xs h.2 (fun w hw=>hk w (by simp[hw]))]
       congr 1
       exact aeH hR e6 e8 h.1 (hk v (by simp)).1
    rw[this vs xs k3 k4]
   ·cases h
 ·cases h
theorem OP {u:Ty} (l:List (Den R.T u)):(l.map (aG R u)).all (fun v=>bf v.cells)=true:=by
 simp[List.all_map,(Bz hR u _).2.1]
theorem OQ {u:Ty} {ag:Bool} {y:TV R.T} {v z:V} {l:List (Den R.T u)} (h:Eb R u y=some l) (hy:Rl R ρ top y v):jE σ ag (bI R u) z v=some (l.map (aG R u))∧tK v=false:=by
 unfold Eb at h
 split at h
 ·obtain⟨e,e2⟩:=pO h;subst e;cases e2
  obtain⟨c',rfl,_⟩:=hy.jO
  exact⟨by show (if lC _ _=true then _ else _)=_;rw[if_pos (Ew hR _)],rfl⟩
 ·cases h;rw[hy.nK];exact⟨rfl,rfl⟩
 ·rename_i s
  obtain⟨e,e2⟩:=pO h;subst e;cases e2
  rw[hy.lM]
  exact⟨by show (if 1=1 then some (s.map lu) else none)=_;rw[if_pos rfl];exact congrArg some (Vh (R:=R) s),rfl⟩
 ·cases h
theorem aeJ {t e:TypeId} {sz bY:Nat} {ag:Bool} {z:V} {c:Cap} {l ys:List V} {y:V} {loc:Option Loc} {aB:Nat} {P:Program} (h1:iw P t=some e) (h2:bC P e=some sz) (h3:nU P e=some bY) (h4:gH P e=some ag) (h5:fZ P e=some z)
 (h6:z.cells.length=sz) (h7:0<sz) (h8:(ag||sz==1)=true) (hy:jE σ ag sz z y=some ys) (hi:tK y=false) (ho:ys.all (fun v=>bf v.cells)=true) (hr:bX (l.length+ys.length) bY=true) (hh:lC sz l=true):
 gV P false false σ aB loc t (.aj c l) y=match c with
  |.own n s=>if n=sz∧σ.top s=l.length then some (.aj (.own n s) (l++ys),σ.bJ s (l.length+ys.length)) else none
  |.nil|.full=>some (.aj (.own sz aB) (l++ys),σ.bJ aB (l.length+ys.length))
  |_=>none:=by
 unfold gV
 simp only[h1,h2,h3,h4,h5,Option.bind_some,hi,hy,ho,if_true]
 rw[if_pos ⟨trivial,h6,h7,h8⟩]
 simp only[hr,hh,and_self,if_true]
 cases c<;>rfl
theorem aeK {d:Option Nat} {t u:TypeId} {x y:TV R.T} {v w:V} {r:dA R} {aB:Nat} {loc:Option Loc} {o:Oper} (h:Ec E R d t u x y st=some r) (hx:Rl R ρ σ.top x v) (hy:Rl R ρ σ.top y w) (hi:aH ρ aB st fr σ)
 (ho:∀y σ',gV E.P false false σ aB loc t v w=some (y,σ')→kP E fr σ aB o y σ'):rW E st ρ aB fr σ o r:=by
 unfold Ec at h
 split at h
 ·rename_i d
  split at h
  ·rename_i e τ sz bY he
   obtain⟨z,e1,e2,e3,e4,e5,e6,e7,e8,e9⟩:=Jg he
   ·obtain⟨hss,h⟩:=cZ h
    split at h
    ·rename_i tk l l' hd hs
     cases h
     intro hroom
     subst e6
     obtain⟨g1,g2⟩:=OQ hR (ag:=gP τ) (z:=z) (σ:=σ) hs hy
     have hlen:bX ((l.map (aG R τ)).length+(l'.map (aG R τ)).length) bY=true:=by rw[List.length_map,List.length_map];exact hroom
     have hap:∀c,gV E.P false false σ aB loc t (.aj c (l.map (aG R τ))) w=_:=fun c=>aeJ hR (σ:=σ) (c:=c) (loc:=loc) (aB:=aB) e1 e2 e3 e4 e5 e9 e7 e8 g1 g2 (OP hR l') hlen (Ew hR l)
     have fresh:∀(c:Cap),(c= .nil∨c= .full)→v= .aj c (l.map (aG R τ))→∃x σ' ρ',kP E fr σ aB o x σ'∧aH ρ' (aB+1) (st.wk tk) fr σ'∧σ'.next=σ.next∧Rl R ρ' σ'.top (.aj (.own tk) τ (l++l')) x∧∀p,o.dst≠some p→aT true p st ρ σ (st.wk tk) ρ' σ':=by
      intro c hc hv
      subst hv
      have:=hap c
      refine⟨.aj (.own (bI R τ) aB) (l.map (aG R τ)++l'.map (aG R τ)),σ.bJ aB ((l.map (aG R τ)).length+(l'.map (aG R τ)).length),ρ.fH tk aB,ho _ _ (by rw[this];rcases hc with rfl|rfl<;>rfl), ?_,rfl, ?_, ?_⟩
      ·exact hi.wk tk aB _ (Nat.le_succ _) (Nat.lt_succ_self _) hi.nx (fun u _ hu=>by have:=hi.lt u _ hu;omega)
      ·unfold Rl
       exact⟨_,by rw[List.map_append],.inr (.inr ⟨aB,rfl,by simp[aL.fH,upd],by rw[Ad];simp⟩)⟩
      ·exact fun p _=>aT.wk hi.nx
     unfold Ui at hd
     split at hd
     ·rename_i l0
      split at hd
      ·rename_i l1 hl1
       cases hd
       obtain⟨e,e2⟩:=pO hl1;subst e;cases e2
       obtain⟨c',rfl,hc'⟩:=hx.jO
       exact fresh c' (.inl hc') rfl
      ·cases hd
     ·rename_i l0
      split at hd
      ·rename_i l1 hl1
       cases hd
       obtain⟨e,e2⟩:=pO hl1;subst e;cases e2
       obtain⟨c',rfl,hc'⟩:=hx.jO
       exact fresh c' (.inr hc') rfl
      ·cases hd
     ·rename_i tk' τ' l0
      split at hd
      ·rename_i l1 hl1
       cases hd
       obtain⟨e,e2⟩:=pO hl1;subst e;cases e2
       obtain⟨c',rfl,hc'⟩:=hx.jO
       rcases hc' with hc'|hc'| ⟨s,hc',ht,hl⟩
       ·exact fresh c' (.inl hc') rfl
       ·exact fresh c' (.inr hc') rfl
       ·subst hc'
        have:=hap (.own (bI R τ') s)
        dsimp only at this
        rw[if_pos ⟨rfl,by rw[List.length_map];exact hl⟩] at this
        refine⟨_,_,ρ.fH tk s,ho _ _ this, ?_,rfl, ?_, ?_⟩
        ·exact hi.wk tk s _ (Nat.le_succ _) (by have:=hi.lt tk s ht;omega) (hi.ge tk s ht) (fun u hu h'=>hu (hi.inj u tk s h' ht))
        ·unfold Rl
         exact⟨_,by rw[List.map_append],.inr (.inr ⟨s,rfl,by simp[aL.fH,upd],by rw[Ad];simp⟩)⟩
        ·exact fun p _=>aT.wk (hi.ge tk s ht)
      ·cases hd
     ·cases hd
      rw[hx.nK] at fresh
      have hx':=hx.nK
      subst hx'
      exact fresh .nil (.inl rfl) rfl
     ·cases hd
    ·cases h
  ·cases h
 ·cases h
omit hR in
theorem aeL {t:TypeId} {x:TV R.T} {v:V} {n:Nat} (h:NV E t x st=some n) (hx:Rl R ρ σ.top x v) (hi:aH ρ b st fr σ):lU E σ t v=some n:=by
 unfold NV at h
 unfold lU
 split at h
 ·rename_i hu;cases h;obtain⟨c',rfl,_⟩:=hx.jO;rw[hu];simp
 ·rename_i hu;cases h;rw[hx.nK,hu];rfl
 ·rename_i o t hu
  split at h
  ·rename_i t' l hl
   cases h
   have h1:=(hi.rd hl).1
   rcases hx.Bl with ⟨s,_,rfl⟩| ⟨h0,rfl|rfl⟩
   ·rw[hu];dsimp only;rw[h1]
   ·rw[hu];dsimp only;rw[h1,h0];rfl
   ·rw[hu];dsimp only;rw[h1,h0];rfl
  ·cases h
 ·rename_i hu;cases h;rw[hx.lM,hu]
 ·rename_i o hu
  split at h
  ·rename_i k e m hl
   cases h
   obtain⟨s,h1,rfl⟩:=hx.vg
   obtain⟨s',h2,h3⟩:=hi.rd hl
   rw[h1] at h2;cases h2
   rw[hu];dsimp only;rw[h3];simp
  ·cases h
 ·rename_i hu;cases h;rw[hx.Bj,hu];simp
 ·rename_i hu;cases h;unfold Rl at hx;subst hx;rw[hu]
 ·rename_i hu;cases h;rw[hu]
 ·cases h
omit hR in
theorem OT (mx:Bool):∀{l:List (TV R.T)} {x y:TV R.T} {v:V} {k:List V},AU mx x l=some y→Rl R ρ top x v→aC R ρ top l k→∃w,kg mx v k=some w∧Rl R ρ top y w
 | [],x,y,v,k,h,hx,hl=>by
   rw[hl.eT]
   unfold AU at h;cases h
   exact⟨v,by cases v<;>rfl,hx⟩
 |z::l,x,y,v,k,h,hx,hl=>by
  obtain⟨w,ws,rfl,h1,h2⟩:=hl.dB
  unfold AU at h
  split at h
  ·rename_i hz;cases hz
  ·rename_i k a k' b l' hz
   simp only[List.cons.injEq] at hz
   obtain⟨rfl,rfl⟩:=hz
   split at h
   ·rename_i e;subst e
    rw[hx.fG,h1.fG]
    unfold kg
    rw[if_pos rfl]
    refine OT mx h ?_ h2
    unfold Rl
    cases mx<;>rfl
   ·cases h
  ·cases h
omit hR in
theorem Vo (c:Cp):∀(l:List Ty) (p:lY R.T l),(ji R c l p).length=l.length
 | [],_=>rfl
 | [_],_=>rfl
 |_::u::l,p=>by show (ji R c (u::l) p.2).length+1=_;rw[Vo c (u::l)];rfl
omit hR in
theorem Jh (c:Cp) (t:Ty) (x:Den R.T t):(eZ R c t x).cells.length=bI R t:=by
 cases t with
 |st n=>exact Vo c _ _
 |_=>rfl
omit hR in
theorem Ji (t:Ty):∀l:List (Den R.T t),(l.flatMap fun x=>(eZ R .any t x).cells).length=l.length*bI R t
 | []=>by simp
 |x::l=>by rw[List.flatMap_cons,List.length_append,Jh,Ji t l,List.length_cons,Nat.succ_mul];omega
omit hR in
theorem Vp {α:Type}:∀{l:List α} {i:Nat} {x:α},l[i]? =some x→∃a b,l=a++x::b∧a.length=i
 | [],_,_,h=>by simp at h
 |y::l,0,x,h=>by simp at h;subst h;exact⟨[],l,rfl,rfl⟩
 |y::l,i+1,x,h=>by
  obtain⟨a,b,rfl,hl⟩:=Vp (l:=l) (i:=i) (by simpa using h)
  exact⟨y::a,b,rfl,by simp[hl]⟩
omit hR in
theorem aeM {α:Type} {l:List α} {i:Int} {x:α} (h:aQ l i=some x):∃a b,l=a++x::b∧a.length=i.toNat∧0≤i:=by
 unfold aQ at h
 split at h
 ·rename_i hi
  obtain⟨a,b,h1,h2⟩:=Vp h
  exact⟨a,b,h1,h2,hi.1⟩
 ·cases h
omit hR in
theorem aeN {ag:Bool} {n off:Nat} {pre el post:List (TV R.T)} {v:TV R.T} (h:Iu ag n el off=some v):Iu ag n (pre++el++post) (pre.length+off)=some v:=by
 cases ag with
 |true=>
  have h':(bif Nat.ble (off+n) el.length then some (TV.agg ((el.drop off).take n)) else none)=some v:=h
  obtain⟨hb,h'⟩:=cZ h'
  have hle:=Nat.le_of_ble_eq_true hb
  show (bif Nat.ble (pre.length+off+n) (pre++el++post).length then some (TV.agg (((pre++el++post).drop (pre.length+off)).take n)) else none)=some v
  have hb':Nat.ble (pre.length+off+n) (pre++el++post).length=true:=Nat.ble_eq_true_of_le (by simp;omega)
  rw[hb',cond_true,←h']
  congr 2
  have e1:(pre++el++post).drop (pre.length+off)=(el++post).drop off:=by
   rw[List.append_assoc,List.drop_append,List.drop_eq_nil_of_le (by omega)]
   simp
  rw[e1,List.drop_append,List.take_append]
  have e2:n-(el.drop off).length=0:=by simp;omega
  rw[e2];simp
 |false=>
  have h':el[off]? =some v:=h
  show (pre++el++post)[pre.length+off]? =some v
  have hlt:off<el.length:=by rw[List.getElem?_eq_some_iff] at h';exact h'.1
  rw[List.append_assoc,List.getElem?_append_right (by omega),Nat.add_sub_cancel_left,List.getElem?_append_left hlt]
  exact h'
omit hR in
theorem aeO {t:TypeId} {off:Nat} {pre el post:List (TV R.T)} {v:TV R.T} (h:jZ E t el off=some v):jZ E t (pre++el++post) (pre.length+off)=some v:=by
 unfold jZ at h⊢
 cases h1:gH E.P t with
 |none=>simp only[h1] at h;cases h
 |some a=>
  cases h2:bC E.P t with
  |none=>simp only[h1,h2] at h;cases h
  |some n=>simp only[h1,h2] at h⊢;exact aeN h
omit hR in
theorem aeP {t:TypeId} {off:Nat} {cs cs':List (TV R.T)} (hl:cs.length=cs'.length) (h:(jZ E t cs off).isSome=true):∃v,jZ E t cs' off=some v:=by
 unfold jZ at h⊢
 cases h1:gH E.P t with
 |none=>simp only[h1] at h;cases h
 |some a=>
  cases h2:bC E.P t with
  |none=>simp only[h1,h2] at h;cases h
  |some n=>
   simp only[h1,h2] at h⊢
   cases a with
   |true=>
    have h':(bif Nat.ble (off+n) cs.length then some (TV.agg ((cs.drop off).take n)) else none).isSome=true:=h
    cases hb:Nat.ble (off+n) cs.length
    ·rw[hb] at h';cases h'
    ·exact⟨.agg ((cs'.drop off).take n),by show (bif Nat.ble (off+n) cs'.length then _ else _)=_;rw[←hl,hb];rfl⟩
   |false=>
    have h':cs[off]?.isSome=true:=h
    have hlt:off<cs'.length:=by rw[←hl];simpa using h'
    exact⟨cs'[off],List.getElem?_eq_getElem hlt⟩
omit hR in
theorem Vq {o s:Nat} {τ:Ty} {l:List (Den R.T τ)} {i:Int} {y:Den R.T τ} (hO:dO ρ σ o (.arr τ l)) (hs:ρ.ob o=some s) (hy:aQ l i=some y):
 ∃a b cs,l=a++y::b∧a.length=i.toNat∧σ.bK (ρ.om.lc o) s=some cs∧aC R ρ σ.top ((a.flatMap fun x=>(eZ R .any τ x).cells)++(eZ R .any τ y).cells++b.flatMap fun x=>(eZ R .any τ x).cells) cs∧(a.flatMap fun x=>(eZ R .any τ x).cells).length=i.toNat*bI R τ:=by
 obtain⟨a,b,rfl,h1,h2⟩:=aeM hy
 rcases hO.2 with h| ⟨s',cs,h3,h4,h5⟩
 ·exact absurd h.1 (by simp)
 ·rw[hs] at h3;cases h3
  refine⟨a,b,cs,rfl,h1,h4, ?_,by rw[Ji,h1]⟩
  rw[List.flatMap_append,List.flatMap_cons] at h5
  rw[List.append_assoc];exact h5
omit hR in
theorem aeQ {t:TypeId} {o s off:Nat} {τ:Ty} {i:Int} {ob:Ob R.T} {r:dA R} (h:NZ E R t τ i off ob=some r) (hO:dO ρ σ o ob) (hs:ρ.ob o=some s):∃(l:List (Den R.T τ)) (f:Den R.T τ→TV R.T),r= .p (Den R.T τ) (Ak R τ) (aQ l i) f∧
 ∀y,aQ l i=some y→∃cs w,σ.bK (ρ.om.lc o) s=some cs∧dI E.P t cs (i.toNat*bI R τ+off)=some w∧Rl R ρ σ.top (f y) w:=by
 unfold NZ at h
 split at h
 ·rename_i τ' l0
  split at h
  ·rename_i l1 hl
   obtain⟨e,e2⟩:=pO hl;subst e;cases e2
   obtain⟨hb,h⟩:=cZ h
   cases h
   refine⟨l0,_,rfl,fun y hy=> ?_⟩
   obtain⟨a,b,cs,h1,h2,h3,h4,h5⟩:=Vq hO hs hy
   obtain⟨v,hv⟩:=aeP (cs':=(eZ R .any τ' y).cells) (by rw[Jh,Jh]) hb
   have:=aeO (pre:=a.flatMap fun x=>(eZ R .any τ' x).cells) (post:=b.flatMap fun x=>(eZ R .any τ' x).cells) hv
   rw[h5] at this
   obtain⟨w,hw,hr⟩:=vD h4 this
   exact⟨cs,w,h3,hw,by rw[hv];exact hr⟩
  ·cases h
 ·cases h
theorem aeR {τ:Ty} {cs:List (TV R.T)} {x:Den R.T τ} {vs:List V} (h:N7 R τ cs=some x) (hr:aC R ρ top cs vs):aC R ρ top (eZ R .any τ x).cells vs:=by
 have one:∀(t:Ty) (x:Den R.T t),mP t=true→ou R t (hd1 R cs)=some x→aC R ρ top [wB R .any t x] vs:=by
  intro t x ht h
  cases cs with
  |nil=>cases t<;>cases h
  |cons c cs=>
   cases cs with
   |nil=>
    obtain⟨v,l,rfl,h1,h2⟩:=hr.dB
    rw[h2.eT]
    exact .cons' (yA hR h h1) rfl
   |cons c' cs=>cases t<;>cases h
 cases τ with
 |st n=>
  have:=Es hR (t:=.st n) (show nD R (.st n) (.agg cs)=some x from h) (v:=.agg vs) (by unfold Rl;exact⟨vs,rfl,hr⟩)
  obtain⟨l,e,hl⟩:=Rl.jN this
  cases e;exact hl
 |int k=>exact one (.int k) x rfl h
 |bool=>exact one .bool x rfl h
 |str=>exact one .str x rfl h
 |slice t=>exact one (.slice t) x rfl h
omit hR in
theorem aeS {α:Type} (pre el post vs:List α) (off:Nat) (h:off+vs.length≤el.length):(pre++el++post).take (pre.length+off)++vs++(pre++el++post).drop (pre.length+off+vs.length)=pre++(el.take off++vs++el.drop (off+vs.length))++post:=by
 have e1:(pre++el++post).take (pre.length+off)=pre++el.take off:=by
  rw[List.append_assoc,List.take_append,List.take_of_length_le (by omega),Nat.add_sub_cancel_left,List.take_append,Nat.sub_eq_zero_of_le (by omega)]
  simp
 have e2:(pre++el++post).drop (pre.length+off+vs.length)=el.drop (off+vs.length)++post:=by
  rw[List.append_assoc,List.drop_append,List.drop_eq_nil_of_le (by omega),show pre.length+off+vs.length-pre.length=off+vs.length by omega,List.drop_append,Nat.sub_eq_zero_of_le (by omega)]
  simp
 rw[e1,e2]
 simp
theorem aeT {o s off:Nat} {τ:Ty} {i:Int} {l:List (Den R.T τ)} {y y':Den R.T τ} {vc:List (TV R.T)} {vl:List V} (hO:dO ρ σ o (.arr τ l)) (hs:ρ.ob o=some s) (hy:aQ l i=some y) (hv:aC R ρ σ.top vc vl) (hle:off+vc.length≤bI R τ)
 (hu:N7 R τ (Az (eZ R .any τ y).cells off vc)=some y'):∃cs,σ.bK (ρ.om.lc o) s=some cs∧i.toNat*bI R τ+off+vl.length≤cs.length∧aC R ρ σ.top ((xZ l i y').flatMap fun x=>(eZ R .any τ x).cells) (eO cs (i.toNat*bI R τ+off) vl)∧(xZ l i y').length=l.length:=by
 obtain⟨a,b,cs,rfl,h2,h3,h4,h5⟩:=Vq hO hs hy
 obtain⟨p1,post,rfl,g1,g2⟩:=h4.split
 obtain⟨pre,el,rfl,g3,g4⟩:=g1.split
 have l1:pre.length=i.toNat*bI R τ:=by rw[g3.length,h5]
 have l2:el.length=bI R τ:=by rw[g4.length,Jh]
 have l3:=hv.length
 refine⟨_,h3, ?_, ?_, ?_⟩
 ·rw[List.length_append,List.length_append];omega
 ·have e:xZ (a++y::b) i y'=a++y'::b:=by
   unfold xZ
   rw[←h2,List.set_append_right _ _ (Nat.le_refl _),Nat.sub_self];rfl
  rw[e,List.flatMap_append,List.flatMap_cons,←List.append_assoc]
  have e2:eO (pre++el++post) (i.toNat*bI R τ+off) vl=pre++eO el off vl++post:=by
   unfold eO
   rw[←l1];exact aeS pre el post vl off (by omega)
  rw[e2]
  exact(g3.append (aeR hR hu (OG off g4 hv))).append g2
 ·unfold xZ;rw[List.length_set]
theorem aeU (τ:Ty) (x:Den R.T τ):aC R ρ top (eZ R .any τ x).cells (aG R τ x).cells:=by
 refine(uq ?_ (I8 hR .any (.inl rfl) τ x)).1
 cases τ<;>rfl
theorem BA (τ:Ty):∀l:List (Den R.T τ),aC R ρ top (l.flatMap fun x=>(eZ R .any τ x).cells) ((l.map (aG R τ)).flatMap V.cells)
 | []=>rfl
 |x::l=>by
  rw[List.map_cons,List.flatMap_cons,List.flatMap_cons]
  exact(aeU hR τ x).append (BA τ l)
theorem aeV {t e:TypeId} {sz bY:Nat} {ag:Bool} {z:V} {ys:List V} {x y:V} {loc:Option Loc} {aB:Nat} {P:Program} (h1:iw P t=some e) (h2:bC P e=some sz) (h3:nU P e=some bY) (h4:gH P e=some ag) (h5:fZ P e=some z)
 (h6:z.cells.length=sz) (h7:0<sz) (h8:(ag||sz==1)=true) (hy:jE σ ag sz z y=some ys) (hi:tK y=false) (ho:ys.all (fun v=>bf v.cells)=true):
 gV P true false σ aB loc t x y=match x with
  |.aj c l=>if bX (l.length+ys.length) bY=true∧lC sz l=true then
     match c with
     |.nil=>loc.map fun loc=>(.vw loc aB 0 (l.length+ys.length) (l.length+ys.length) sz ag,σ.setObj loc aB (.cells ((l++ys).flatMap V.cells)))
     |.full=>if ys.isEmpty then some (.aj .full l,σ) else loc.map fun loc=>(.vw loc aB 0 (l.length+ys.length) (l.length+ys.length) sz ag,σ.setObj loc aB (.cells ((l++ys).flatMap V.cells)))
     |_=>none else none
  |.vw gW s off len cap aU _=>
   if bX (len+ys.length) bY=true∧off=0∧aU=sz then
    loc.bind fun loc=>(σ.bK gW s).bind fun cs=>
     if len+ys.length≤cap then
      if (len+ys.length)*sz≤cs.length then
       some (.vw gW s 0 (len+ys.length) cap sz ag,σ.setObj gW s (.cells (eO cs (len*sz) (ys.flatMap V.cells))))
      else none
     else if len*sz≤cs.length then
      some (.vw loc aB 0 (len+ys.length) (len+ys.length) sz ag,(σ.j5 gW).setObj loc aB (.cells (cs.take (len*sz)++ys.flatMap V.cells)))
     else none
   else none
  |_=>none:=by
 unfold gV
 simp only[h1,h2,h3,h4,h5,Option.bind_some,hi,hy,ho,if_true]
 rw[if_pos ⟨trivial,h6,h7,h8⟩]
 cases x<;>try rfl
 ·rename_i c l
  cases c<;>rfl
 ·simp only[true_and]
omit hR in
theorem aT.Ov {o q s n:Nat} {x:Ob R.T} {a:fV} (hne:q≠o):aT true q st ρ σ (st.new o x) (ρ.yx o s n) (σ.setObj (ρ.om.lc o) s a):=⟨(Ou q hne).1,(Ou q hne).2,rfl,Nat.le_refl _,⟨fun _ _=>rfl,fun _ _=>rfl⟩,fun _ _ hL=>OC hL,(aT.new (nr:=true) (ρ:=ρ) (s:=s) (a:=a) hne).ro⟩
omit hR in
theorem aT.del {o q:Nat} {y:Ob R.T} (hl:look st.ob o=some y) (hy:nE y=false):aT true q st ρ σ (st.del o) ρ (σ.j5 (ρ.om.lc o)):=⟨rfl,rfl,rfl,Nat.le_refl _,⟨fun _ _=>rfl,fun _ _=>rfl⟩,fun _ _ hL=>aeo hL,fun hr=>by
 have hne:q≠o:=by rintro rfl;rw[hr y hl] at hy;cases hy
 refine⟨fun z hz=> ?_,fun s'=> ?_⟩
 ·have hz':look (gN o st.ob) q=some z:=hz
  rw[oG hne] at hz'
  exact hr z hz'
 ·unfold ah.bK ah.eX;rw[UJ σ hne];exact⟨rfl,rfl⟩⟩
omit hR in
theorem aT.del' {o q:Nat} {y:Ob R.T} (hl:look st.ob o=some y) (hy:nE y=false):aT true q st ρ σ (st.del o) ρ σ:=⟨rfl,rfl,rfl,Nat.le_refl _,⟨fun _ _=>rfl,fun _ _=>rfl⟩,fun _ _ _=>rfl,fun hr=>by
 have hne:q≠o:=by rintro rfl;rw[hr y hl] at hy;cases hy
 refine⟨fun z hz=> ?_,fun s'=>⟨rfl,rfl⟩⟩
 have hz':look (gN o st.ob) q=some z:=hz
 rw[oG hne] at hz'
 exact hr z hz'⟩
omit hR in
theorem OU {α:Type} {p:Nat}:∀l:List (Nat×α),look (gN p l) p=none
 | []=>rfl
 | (j,x)::l=>by
   unfold gN
   cases hj:Nat.beq j p
   ·show (bif Nat.beq j p then some x else look (gN p l) p)=none
    rw[hj];exact OU l
   ·exact OU l
omit hR in
theorem aH.del' (h:aH ρ b st fr σ) (o:Nat):aH ρ b (st.del o) fr σ:={h with
 ob:=fun p y hy=>by
  by_cases e:p=o
  ·subst e
   have:look (gN p st.ob) p=some y:=hy
   rw[OU] at this;cases this
  ·have hy':look (gN o st.ob) p=some y:=hy
   rw[oG e] at hy'
   exact h.ob p y hy'
 fr:=h.fr}
omit hR in
theorem BD {d aB:Nat} {τ:Ty} {l:List (Den R.T τ)} {L:List V} {st0:MS R.T} {σ0:ah} {o:Oper} {v:V} {σ1:ah} (hd:o.dst=some d) (hi:aH ρ (aB+1) st0 fr σ0) (hk:∀p,aT true p st ρ σ st0 ρ σ0) (hn:σ0.next=σ.next) (hL:aC R ρ σ0.top (l.flatMap fun x=>(eZ R .any τ x).cells) L)
 (hs:kP E fr σ aB o v σ1) (hv:v= .vw (ρ.om.lc d) aB 0 l.length l.length (bI R τ) (gP τ)) (h1:σ1=σ0.setObj (ρ.om.lc d) aB (.cells L)):∃x σ' ρ',kP E fr σ aB o x σ'∧aH ρ' (aB+1) (st0.new d (.arr τ l)) fr σ'∧σ'.next=σ.next∧Rl R ρ' σ'.top (.vw d τ) x∧∀p,o.dst≠some p→aT true p st ρ σ (st0.new d (.arr τ l)) ρ' σ':=by
 subst hv;subst h1
 refine⟨_,_,ρ.yx d aB l.length,hs,hi.Ov d aB l.length ⟨(Er (ρ:=ρ.kN d aB)).symm,.inr ⟨aB,L,rV (ρ:=ρ),tX _ _ _ _,vk l L hL⟩⟩,hn, ?_,fun p hp=> ?_⟩
 ·unfold Rl
  exact .inl ⟨aB,rV (ρ:=ρ),by rw[show (ρ.yx d aB l.length).ln d=l.length from Er (ρ:=ρ.kN d aB)];rfl⟩
 ·have hne:p≠d:=fun e=>hp (by rw[hd,e])
  exact(hk p).trans (aT.Ov hne)
theorem aeW {d:Option Nat} {t u:TypeId} {x y:TV R.T} {v w:V} {r:dA R} {aB:Nat} {o:Oper} (h:Ed E R d t u x y st=some r) (hx:Rl R ρ σ.top x v) (hy:Rl R ρ σ.top y w) (hi:aH ρ aB st fr σ) (hd:o.dst=d)
 (ho:∀y σ',gV E.P true false σ aB (d.map fun t=>(ρ.om.lc t)) t v w=some (y,σ')→kP E fr σ aB o y σ'):rW E st ρ aB fr σ o r:=by
 have hi1:=hi.le (Nat.le_succ aB)
 unfold Ed at h
 split at h
 ·rename_i d
  split at h
  ·rename_i e τ sz bY he
   obtain⟨z,e1,e2,e3,e4,e5,e6,e7,e8,e9⟩:=Jg he
   obtain⟨hss,h⟩:=cZ h
   split at h
   ·rename_i l' hs
    subst e6
    obtain⟨g1,g2⟩:=OQ hR (ag:=gP τ) (z:=z) (σ:=σ) hs hy
    have hap:=fun x=>aeV hR (σ:=σ) (x:=x) (loc:=some (ρ.om.lc d)) (aB:=aB) e1 e2 e3 e4 e5 e9 e7 e8 g1 g2 (OP hR l')
    split at h
    ·rename_i p τ0 _
     split at h
     ·rename_i e0
      subst e0
      split at h
      ·rename_i τ' l0 hl
       split at h
       ·rename_i a l1 l2 hl2
        obtain⟨e,e2'⟩:=pO hl2;subst e;cases e2'
        cases h
        intro hroom
        have hO:=hi.ob _ _ hl
        have hlen:l0.length=ρ.ln p:=hO.1
        have hnr:nE (Ob.arr τ' l0)=false:=rfl
        have hne:¬((a::l1).map (aG R τ')).isEmpty=true:=by simp
        rcases hx.Bl with ⟨s,k1,rfl⟩| ⟨k1,k2⟩
        ·rcases hO.2 with hO2| ⟨s',cs,k3,k4,k5⟩
         ·rw[k1] at hO2;exact absurd hO2.2 (by simp)
         ·rw[k1] at k3;cases k3
          have:=hap (.vw (ρ.om.lc p) s 0 (ρ.ln p) (ρ.ln p) (bI R τ') (gP τ'))
          dsimp only at this
          have hlc:cs.length=l0.length*bI R τ':=by rw[k5.length,Ji]
          rw[if_pos ⟨by rw[List.length_map,←hlen];exact hroom,rfl,rfl⟩] at this
          simp only[Option.bind_some,k4] at this
          rw[if_neg (by rw[List.length_map,List.length_cons];omega),if_pos (by rw[hlc,hlen];exact Nat.le_refl _)] at this
          refine BD (σ0:=σ.j5 (ρ.om.lc p)) (L:=cs.take (ρ.ln p*bI R τ')++((a::l1).map (aG R τ')).flatMap V.cells) hd (hi1.del p) (fun q=>aT.del hl hnr) rfl ?_ (ho _ _ this) ?_ rfl
          ·rw[List.flatMap_append,List.take_of_length_le (by rw[hlc,hlen];exact Nat.le_refl _)]
           exact aC.append k5 (BA hR _ _)
          ·rw[List.length_map,List.length_append,hlen]
        ·have hl0:l0=[]:=List.eq_nil_of_length_eq_zero (by omega)
         subst hl0
         have hroom':bX (([]:List V).length+((a::l1).map (aG R τ')).length) bY=true∧lC (bI R τ') ([]:List V)=true:=⟨by rw[List.length_map];exact hroom,rfl⟩
         rcases k2 with rfl|rfl
         ·have:=hap (.aj .nil [])
          dsimp only at this
          rw[if_pos hroom'] at this
          refine BD (σ0:=σ) hd (hi1.del' p) (fun q=>aT.del' hl hnr) rfl (BA hR _ _) (ho _ _ this) ?_ rfl
          simp
         ·have:=hap (.aj .full [])
          dsimp only at this
          rw[if_pos hroom',if_neg hne] at this
          refine BD (σ0:=σ) hd (hi1.del' p) (fun q=>aT.del' hl hnr) rfl (BA hR _ _) (ho _ _ this) ?_ rfl
          simp
       ·cases h
      ·cases h
     ·cases h
    ·obtain⟨hE,h⟩:=cZ h
     cases h
     intro hroom
     have hroom':bX (([]:List V).length+(l'.map (aG R τ)).length) bY=true∧lC (bI R τ) ([]:List V)=true:=⟨by rw[List.length_map,List.length_nil,Nat.zero_add];exact hroom,rfl⟩
     rcases U5 (fr:=fr) hE (.of hx) with rfl|rfl
     ·have:=hap (.aj .nil [])
      dsimp only at this
      rw[if_pos hroom'] at this
      refine BD (σ0:=σ) hd hi1 (fun q=>.refl) rfl (BA hR _ _) (ho _ _ this) ?_ rfl
      simp
     ·have:=hap (.aj .full [])
      dsimp only at this
      rw[if_pos hroom'] at this
      by_cases hne:((l'.map (aG R τ)).isEmpty)=true
      ·rw[if_pos hne] at this
       have hl':l'=[]:=by simpa using hne
       subst hl'
       refine⟨_,_,ρ.gh d,ho _ _ this,hi1.ghost d τ,rfl,by unfold Rl;exact .inr ⟨Er (ρ:=ρ) (n:=0),.inr rfl⟩,fun p hp=> ?_⟩
       have OV:p≠d:=fun e=>hp (by rw[hd,e])
       exact⟨(Br p OV).1,(Br p OV).2,rfl,Nat.le_refl _,⟨fun _ _=>rfl,fun _ _=>rfl⟩,fun _ _ _=>rfl,fun hr=>⟨((aT.new (nr:=true) (ρ:=ρ) (σ:=σ) (s:=0) (a:=.cells []) OV).ro hr).1,fun _=>⟨rfl,rfl⟩⟩⟩
      ·rw[if_neg hne] at this
       refine BD (σ0:=σ) hd hi1 (fun q=>.refl) rfl (BA hR _ _) (ho _ _ this) ?_ rfl
       simp
   ·cases h
  ·cases h
 ·cases h
omit hR in
theorem Vr {α β:Type} (f:α→List β) (x:α):∀n,(List.replicate n x).flatMap f=(List.replicate n (f x)).flatten
 |0=>rfl
 |n+1=>by rw[List.replicate_succ,List.replicate_succ,List.flatMap_cons,List.flatten_cons,Vr f x n]
omit hR in
theorem Vs {ts:List (TV R.T)} {vs:List V} (h:aC R ρ top ts vs):∀n,aC R ρ top (List.replicate n ts).flatten (List.replicate n vs).flatten
 |0=>rfl
 |n+1=>by rw[List.replicate_succ,List.replicate_succ,List.flatten_cons,List.flatten_cons];exact h.append (Vs h n)
theorem aeX {om:Bool} {d:Option Nat} {t:TypeId} {x y:TV R.T} {v w:V} {r:dA R} {aB:Nat} {o:Oper} (h:NU E R om d t x y st=some r) (hx:Rl R ρ σ.top x v) (hy:Rl R ρ σ.top y w) (hi:aH ρ aB st fr σ) (hd:o.dst=d)
 (ho:∀y σ',sw E.P om σ aB (d.map fun t=>(ρ.om.lc t)) t v w=some (y,σ')→kP E fr σ aB o y σ'):rW E st ρ aB fr σ o r:=by
 have hi1:=hi.le (Nat.le_succ aB)
 unfold NU at h
 split at h
 ·rename_i d e τ sz bY k n k' m he
  obtain⟨z0,e1,e2,e3,e4,e5,e6,e7,e8,e9⟩:=Jg he
  split at h
  ·rename_i z hz
   split at h
   ·rename_i x0 hx0
    obtain⟨zv,z1,z2⟩:=Bv (ρ:=ρ) (top:=σ.top) hz
    rw[e5] at z1;cases z1
    rw[hx.fG,hy.fG] at ho
    have mk:0≤n→n≤m→m≤2^47→bX m.toNat bY=true→sw E.P om σ aB ((some d).map fun t=>(ρ.om.lc t)) t (.int k n) (.int k' m)=if n=0∧om=false then some (.aj (.own sz aB) [],σ.bJ aB 0) else some (.vw (ρ.om.lc d) aB 0 n.toNat m.toNat sz (gP τ),σ.setObj (ρ.om.lc d) aB (.cells (List.replicate m.toNat z0.cells).flatten)):=by
     intro h1 h2 h3 h4
     unfold sw
     simp only[e1,e2,e3,e5,Option.bind_some,kU]
     rw[if_pos ⟨h1,h2,h4,h3,e9⟩]
     split
     ·rfl
     ·simp only[Option.map_some,Option.bind_some,e4]
    cases om with
    |true=>
     cases h
     intro hc
     rw[Bool.and_eq_true] at hc
     obtain⟨c1,c2,c3⟩:=of_decide_eq_true hc.1
     subst c2
     have:=mk c1 (Int.le_refl _) c3 hc.2
     rw[if_neg (by simp)] at this
     subst e6
     refine BD (σ0:=σ) hd hi1 (fun q=>.refl) rfl ?_ (ho _ _ this) ?_ rfl
     ·rw[Vr]
      refine Vs ?_ _
      have hzc:aC R ρ σ.top (eZ R .any τ x0).cells z0.cells:=by
       have h1:=Es hR hx0 z2
       refine(uq ?_ h1).1
       cases τ<;>rfl
      exact hzc
     ·rw[List.length_replicate]
    |false=>
     cases h
     intro hc
     rw[Bool.and_eq_true] at hc
     obtain⟨c1,c2,c3⟩:=of_decide_eq_true hc.1
     subst c1
     have:=mk (Int.le_refl _) c2 c3 hc.2
     rw[if_pos ⟨rfl,rfl⟩] at this
     refine⟨_,_,ρ.fH d aB,ho _ _ this,hi.wk d aB _ (Nat.le_succ _) (Nat.lt_succ_self _) hi.nx (fun u _ hu=>by have:=hi.lt u _ hu;omega),rfl, ?_,fun p _=>aT.wk hi.nx⟩
     unfold Rl
     exact⟨_,rfl,.inr (.inr ⟨aB,by rw[e6],by simp[aL.fH,upd],by rw[Ad];rfl⟩)⟩
   ·cases h
  ·cases h
 ·cases h
theorem aeY {om:Bool} {t:TypeId} {p:Nat} {τ:Ty} {y:TV R.T} {v w:V} {r:dA R} (h:NY E R t p τ y st=some r) (hx:Rl R ρ σ.top (.vw p τ) v) (hy:Rl R ρ σ.top y w) (hi:aH ρ b st fr σ):nO ρ σ.top (lT E.P t v w) r:=by
 unfold NY at h
 split at h
 ·rename_i e k n hu
  split at h
  ·rename_i sz hs
   obtain⟨hb,h⟩:=cZ h
   split at h
   ·rename_i τ' l hl
    cases h
    have:=dG hb;subst this
    rw[hy.fG]
    intro hc
    have hc':=of_decide_eq_true hc
    have hlen:=(hi.rd hl).1
    rcases hx.Bl with ⟨s,k1,rfl⟩| ⟨h0,_⟩
    ·refine⟨.ref (ρ.om.lc p) s (n.toNat*bI R τ), ?_,by unfold Rl;exact⟨s,k1,hc'.1,rfl⟩⟩
     unfold lT
     rw[hu]
     simp only[hs,Option.bind_some,idx,kU]
     rw[if_pos ⟨hc'.1,by rw[←hlen];exact hc'.2⟩]
     simp
    ·rw[hlen,h0] at hc';omega
   ·cases h
  ·cases h
 ·cases h
end
end Aq
end
section
namespace Aq
open Go
set_option linter.unusedSectionVars false
set_option linter.unusedVariables false
section
variable {R:gM} {E:Env}
variable {ρ:aL} {top:Nat→Nat} {b:Nat} {st:MS R.T} {fr:Fr} {σ:ah}
theorem OX {n:Nat} {f:Nat} (a b:List V):aN (n+2) σ (.fn (.func f) a b)=(a.mapM (aN (n+1) σ)).bind fun a=>(b.mapM (aN (n+1) σ)).map fun b=>.fn (.func f) a b:=by
 by_cases hp:aF (.fn (.func f) a b)=true
 ·rw[jA hp]
  have:∀cs:List V,aR cs=true→cs.mapM (aN (n+1) σ)=some cs:=by
   intro cs
   induction cs with
   |nil=>intro _;rfl
   |cons a l ih=>
    intro h
    simp only[aR,Bool.and_eq_true] at h
    rw[List.mapM_cons,jA h.1,ih h.2];rfl
  simp only[aF,Bool.and_eq_true] at hp
  rw[this a hp.1,this b hp.2];rfl
 ·conv=>lhs;unfold aN
  simp only[hp,if_false,Bool.false_eq_true]
theorem Vt {n:Nat} {off:Nat} (cs:List V):aN (n+2) σ (.aK cs off)=(cs.mapM (aN (n+1) σ)).map (.aK · off):=by
 by_cases hp:aF (.aK cs off)=true
 ·rw[jA hp]
  have:∀cs:List V,aR cs=true→cs.mapM (aN (n+1) σ)=some cs:=by
   intro cs
   induction cs with
   |nil=>intro _;rfl
   |cons a l ih=>
    intro h
    simp only[aR,Bool.and_eq_true] at h
    rw[List.mapM_cons,jA h.1,ih h.2];rfl
  rw[this cs (by simpa [aF] using hp)];rfl
 ·conv=>lhs;unfold aN
  simp only[hp,if_false,Bool.false_eq_true]
variable (hR:mQ R)
include hR
theorem OY {k e:Ty} (m:List (Den R.T k×Den R.T e)):aF (.bV (m.map fun p=>aG R k p.1) (m.map fun p=>aG R e p.2))=true:=by
 simp only[aF,Bool.and_eq_true]
 have h1:∀m:List (Den R.T k×Den R.T e),aR (m.map fun p=>aG R k p.1)=true∧aR (m.map fun p=>aG R e p.2)=true:=by
  intro m
  induction m with
  |nil=>exact⟨rfl,rfl⟩
  |cons p m ih=>exact⟨by simp[aR,mR hR,ih.1],by simp[aR,mR hR,ih.2]⟩
 exact h1 m
theorem Vu:∀(t:Ty) (x:Den R.T t) (v:V),mP t=true→Rl R ρ top (wB R .any t x) v→∀n σ,aN (n+2) σ v=some (aG R t x)
 |.int k,x,v,_,h,n,σ=>by rw[Rl.fG (R:=R) h];exact Nr (n+1) _ _
 |.bool,x,v,_,h,n,σ=>by rw[Rl.pK (R:=R) h];exact Ns (n+1) _
 |.str,x,v,_,h,n,σ=>by rw[Rl.lM (R:=R) h];exact Nt (n+1) _
 |.slice t,x,v,_,h,n,σ=>by
  obtain⟨c,rfl,_⟩:=Rl.jO (R:=R) h
  exact wu _ _ (mR hR _)
 |.st n,_,_,h,_,_,_=>by simp[mP] at h
theorem BF:∀(l:List Ty) (p:lY R.T l) (vs:List V),l.all mP=true→aC R ρ top (ji R .any l p) vs→∀n σ,vs.mapM (aN (n+2) σ)=some (encs R l p)
 | [],_,vs,_,h,n,σ=>by rw[aC.eT h];rfl
 | [t],x,vs,hl,h,n,σ=>by
   obtain⟨v,l,rfl,h1,h2⟩:=aC.dB h
   rw[aC.eT h2,List.mapM_cons,Vu hR t x v (by simpa using hl) h1];rfl
 |t::u::l,p,vs,hl,h,n,σ=>by
  rw[List.all_cons,Bool.and_eq_true] at hl
  obtain⟨v,ws,rfl,h1,h2⟩:=aC.dB h
  rw[List.mapM_cons,Vu hR t p.1 v hl.1 h1,BF (u::l) p.2 ws hl.2 h2];rfl
theorem aeZ (t:Ty) (x:Den R.T t) (vs:List V) (h:aC R ρ top (eZ R .any t x).cells vs) (n:Nat) (σ:ah):vs.mapM (aN (n+2) σ)=some (aG R t x).cells:=by
 cases t with
 |st k=>
  have he:aG R (.st k) x= .agg (encs R (R.lf k) (R.of k x)):=hR.enc k x
  rw[he]
  exact BF hR _ _ vs (hR.leaf k) h n σ
 |int k=>exact BF hR [.int k] x vs rfl h n σ
 |bool=>exact BF hR [.bool] x vs rfl h n σ
 |str=>exact BF hR [.str] x vs rfl h n σ
 |slice t=>exact BF hR [.slice t] x vs rfl h n σ
theorem Vv {t:Ty} {ρ:aL} {top:Nat→Nat}:∀(l:List (Den R.T t)) (cs:List V),aC R ρ top (l.flatMap fun x=>(eZ R .any t x).cells) cs→∀(n:Nat) (σ:ah),cs.mapM (aN (n+2) σ)=some ((l.map (aG R t)).flatMap V.cells)
 | [],cs,h,n,σ=>by rw[aC.eT h];rfl
 |x::l,cs,h,n,σ=>by
  rw[List.flatMap_cons] at h
  obtain⟨a,b,rfl,h1,h2⟩:=h.split
  rw[List.mapM_append,Vv l b h2 n σ,List.map_cons,List.flatMap_cons]
  have:a.mapM (aN (n+2) σ)=some (aG R t x).cells:=aeZ hR t x a h1 n σ
  rw[this];rfl
theorem ae0 {t:Ty} (l:List (Den R.T t)):chunks (gP t) (bI R t) l.length ((l.map (aG R t)).flatMap V.cells)=l.map (aG R t):=by
 have:=OO (gP t) (bI R t) (l.map (aG R t)) (fun v hv=>by
  obtain⟨x,_,rfl⟩:=List.mem_map.1 hv
  exact(Bz hR t x).1)
 rw[List.length_map] at this
 rw[this,List.map_map]
 refine List.map_congr_left fun x _=> ?_
 show (if gP t then V.agg (aG R t x).cells else (aG R t x).cells.headD aD)=aG R t x
 cases hs:gP t
 ·cases t<;>first|rfl| (simp[gP] at hs;done)
 ·obtain⟨c,hc⟩:=(Bz hR t x).2.2.2.1 hs
  rw[hc];rfl
theorem ae1 {t:Ty} (l:List (Den R.T t)):(gP t||bI R t==1&& bf ((l.map (aG R t)).flatMap V.cells))=true:=by
 cases hs:gP t
 ·have h1:bI R t=1:=by cases t<;>first|rfl| (simp[gP] at hs;done)
  rw[h1]
  have:bf ((l.map (aG R t)).flatMap V.cells)=true:=by
   have:=OP hR l
   unfold bf at this⊢
   rw[List.all_flatMap]
   exact this
  rw[this];rfl
 ·rfl
omit hR in
theorem Vw:∀(a b:List V),aR (a++b)=(aR a&& aR b)
 | [],b=>by simp[aR]
 |x::a,b=>by simp only[List.cons_append,aR];rw[Vw a b,Bool.and_assoc]
omit hR in
theorem Jj (k:IntKind):∀l:List Int,aR (l.map (V.int k))=true
 | []=>by simp[aR]
 |x::l=>by simp only[List.map_cons,aR,Nu,Bool.true_and];exact Jj k l
omit hR in
theorem OZ:∀ss:List Sg,aR (bB ss)=true
 | []=>by simp[bB,aR]
 |.i k x::ss=>by show aR (V.int k x::bB ss)=true;unfold aR;rw[OZ ss];simp[aF]
 |.a k n v::ss=>by
  show aR (v.l.map (V.int k)++bB ss)=true
  rw[Vw,Jj,OZ ss];rfl
omit hR in
theorem O1 (ss:List Sg):aF (.agg (bB ss))=true:=by unfold aF;exact OZ ss
omit hR in
theorem Vx:∀(a b:List V),iV (a++b)=(iV a&& iV b)
 | [],b=>by simp[iV]
 |x::a,b=>by simp only[List.cons_append,iV];rw[Vx a b,Bool.and_assoc]
omit hR in
theorem Vy (k:IntKind):∀l:List Int,iV (l.map (V.int k))=true
 | []=>by simp[iV]
 |x::l=>by simp only[List.map_cons,iV,flat,Bool.true_and];exact Vy k l
omit hR in
theorem Jk:∀ss:List Sg,iV (bB ss)=true
 | []=>by simp[bB,iV]
 |.i k x::ss=>by show iV (V.int k x::bB ss)=true;unfold iV;rw[Jk ss];simp[flat]
 |.a k n v::ss=>by
  show iV (v.l.map (V.int k)++bB ss)=true
  rw[Vx,Vy,Jk ss];rfl
omit hR in
theorem ae2 (ss:List Sg):er (.agg (bB ss))= .agg (bB ss):=by
 have:∀ss:List Sg,(bB ss).map fq=bB ss:=by
  intro ss
  induction ss with
  |nil=>rfl
  |cons s ss ih=>
   cases s with
   |i k x=>show fq (.int k x)::(bB ss).map fq=_;rw[ih];rfl
   |a k n v=>
    show (v.l.map (V.int k)++bB ss).map fq=_
    rw[List.map_append,ih,List.map_map];rfl
 show V.agg ((bB ss).map fq)=_
 rw[this]
omit hR in
theorem oH:∀(a b:List Sg),bB (a++b)=bB a++bB b
 | [],b=>rfl
 |s::a,b=>by show s.vs++bB (a++b)=s.vs++bB a++bB b;rw[oH a b,List.append_assoc]
omit hR in
theorem Sg.len:∀s:Sg,s.vs.length=s.w
 |.i _ _=>rfl
 |.a _ n v=>by show (v.l.map _).length=n;rw[List.length_map,v.h]
omit hR in
theorem fQ:∀ss:List Sg,(bB ss).length=iO ss
 | []=>rfl
 |s::ss=>by show (s.vs++bB ss).length=s.w+iO ss;rw[List.length_append,s.len,fQ ss]
omit hR in
theorem tq:∀{ss:List Sg} {n:Nat} {a b:List Sg},nG ss n=some (a,b)→ss=a++b∧iO a=n
 |ss,0,a,b,h=>by
  have h':some (([]:List Sg),ss)=some (a,b):=by cases ss<;>exact h
  cases h';exact⟨rfl,rfl⟩
 | [],n+1,a,b,h=>by cases h
 |s::ss,n+1,a,b,h=>by
  unfold nG at h
  obtain⟨h1,h⟩:=cZ h
  split at h
  ·rename_i a' b' h2
   cases h
   obtain⟨e,hw⟩:=tq h2
   have:=Nat.le_of_ble_eq_true h1
   refine⟨by rw[e];rfl, ?_⟩
   show s.w+iO a'=n+1
   omega
  ·cases h
omit hR in
theorem Jl {ρ:aL} {top:Nat→Nat} {k:IntKind}:∀{cs:List (TV R.T)} {xs:List Int} {vs:List V},wD k cs=some xs→aC R ρ top cs vs→vs=xs.map (V.int k)
 | [],xs,vs,h,hr=>by cases h;exact hr.eT
 |c::cs,xs,vs,h,hr=>by
  obtain⟨v,ws,rfl,h1,h2⟩:=hr.dB
  cases c<;>first| (exact absurd (show none=some xs from h) (by simp))|skip
  rename_i k' x
  have h':(if k'=k then (match wD k cs with
   |some xs=>some (x::xs)
   |none=>none) else none)=some xs:=h
  split at h'
  ·rename_i e;subst e
   split at h'
   ·rename_i ys hy
    cases h'
    rw[h1.fG,Jl hy h2];rfl
   ·cases h'
  ·cases h'
omit hR in
theorem O4 (k:IntKind):∀(l:List Int) (rest:List V),chunks false 1 l.length (l.map (V.int k)++rest)=l.map (V.int k)
 | [],rest=>rfl
 |x::l,rest=>by
  show V.int k x::chunks false 1 l.length (l.map (V.int k)++rest)=_
  rw[O4 k l rest];rfl
omit hR in
theorem yC {n:Nat} {lo hi:Option Int} (h:l6 n lo hi=true):(cO lo).toNat≤(fu n hi).toNat∧(fu n hi).toNat≤n∧((cO lo).toNat< (fu n hi).toNat∨(cO lo).toNat=0)∧0≤cO lo∧cO lo≤fu n hi:=by
 cases lo<;>cases hi<;>simp only[l6,cO,fu,decide_eq_true_eq] at h⊢ <;>omega
omit hR in
theorem ae3 {α:Type} {n:Nat} {lo hi:Option Int} (h:l6 n lo hi=true) {l:List α} (hl:l.length=n):Ar l lo hi=(l.drop (cO lo).toNat).take ((fu n hi).toNat-(cO lo).toNat):=by
 obtain⟨h1,h2,_⟩:=yC h
 cases lo<;>cases hi<;>simp only[Ar,cO,fu] at*
 ·simp[hl];rw[List.take_of_length_le (by omega)]
 ·simp
 ·rw[List.take_of_length_le];rw[List.length_drop];omega
 ·rw[List.take_drop];congr 1;congr 1;omega
theorem Vz (hi:aH ρ b st fr σ) {o off n:Nat} {k:IntKind} {lo hi':Option Int} {l:List Int} (h:Ip st o off k n lo hi'=some l) {s:Nat} (hs:ρ.ob o=some s) (hB:l6 n lo hi'=true):
 ∃cs,σ.bK (ρ.om.lc o) s=some cs∧off+n≤cs.length∧(cs.drop (off+(cO lo).toNat)).take ((fu n hi').toNat-(cO lo).toNat)=l.map (V.int k)∧l.length=(fu n hi').toNat-(cO lo).toNat:=by
 obtain⟨p1,p2,p3,_,_⟩:=yC hB
 have fin:∀(cs:List V) (xs:List Int),xs.length=n→(cs.drop off).take n=xs.map (V.int k)→off+n≤cs.length→l=Ar xs lo hi'→(cs.drop (off+(cO lo).toNat)).take ((fu n hi').toNat-(cO lo).toNat)=l.map (V.int k)∧l.length=(fu n hi').toNat-(cO lo).toNat:=by
  intro cs xs hx hc hle hl
  rw[ae3 hB hx] at hl
  subst hl
  constructor
  ·rw[List.map_take,List.map_drop,←hc,List.drop_take,List.take_take,List.drop_drop]
   congr 1
   omega
  ·rw[List.length_take,List.length_drop];omega
 unfold Ip at h
 split at h
 ·rename_i ss hl
  obtain⟨s',h1,h2⟩:=hi.rd hl
  rw[hs] at h1;cases h1
  split at h
  ·rename_i pre k' n' v post hsp
   by_cases e:k'=k
   ·subst e
    rw[if_pos rfl] at h
    cases e2:Nat.beq n' n
    ·rw[e2] at h;cases h
    rw[e2] at h
    have e2:=dG e2
    subst e2
    obtain rfl:Ar v.l lo hi'=l:=Option.some.inj h
    obtain⟨e3,hw⟩:=tq hsp
    refine⟨_,h2, ?_, ?_⟩
    ·rw[e3,fQ]
     have:∀a b:List Sg,iO (a++b)=iO a+iO b:=fun a b=>by rw[←fQ,oH,List.length_append,fQ,fQ]
     rw[this,hw]
     show off+n'≤off+(n'+iO post);omega
    ·refine fin _ v.l v.h ?_ ?_ rfl
     ·rw[e3,oH,List.drop_append_of_le_length (by rw[fQ,hw];exact Nat.le_refl _),List.drop_of_length_le (by rw[fQ,hw];exact Nat.le_refl _),List.nil_append]
      show ((v.l.map (V.int k'))++bB post).take n'=_
      rw[List.take_append_of_le_length (by rw[List.length_map,v.h];exact Nat.le_refl _),List.take_of_length_le (by rw[List.length_map,v.h];exact Nat.le_refl _)]
     ·rw[e3,oH,List.length_append,fQ,hw,fQ]
      show off+n'≤off+(n'+iO post);omega
   ·rw[if_neg e] at h;cases h
  ·cases h
 ·rename_i cs hl
  obtain⟨s',vs,h1,h2,h3⟩:=hi.rd hl
  rw[hs] at h1;cases h1
  obtain⟨hb,h⟩:=cZ h
  have hb:=Nat.le_of_ble_eq_true hb
  split at h
  ·rename_i xs hx
   cases h
   have hv:=Jl hx ((h3.drop off).take n)
   have hlen:off+n≤vs.length:=by rw[h3.length];exact hb
   refine⟨vs,h2,hlen,fin vs xs ?_ hv hlen rfl⟩
   have:=congrArg List.length hv
   rw[List.length_map,List.length_take,List.length_drop] at this
   omega
  ·cases h
 ·cases h
theorem VA (hi:aH ρ b st fr σ) {x:TV R.T} {v:V} (h:Rl R ρ σ.top x v):∃v',Rl R ρ σ.top (uf st x) v'∧∀n,aN (n+3) σ v=aN (n+3) σ v':=by
 by_cases hx:∃o off,x= .ref o off
 ·obtain⟨o,off,rfl⟩:=hx
  unfold uf
  dsimp only
  split
  ·rename_i cs hl
   obtain⟨s,h1,rfl⟩:=h.nL
   obtain⟨s',l,h2,h3,h4⟩:=hi.rd hl
   rw[h1] at h2;cases h2
   refine⟨.aK l off,by unfold Rl;exact⟨l,rfl,h4⟩,fun n=> ?_⟩
   rw[Vt]
   conv=>lhs;unfold aN
   simp only[aF,Bool.false_eq_true,if_false,h3,Option.bind_some]
  ·exact⟨v,h,fun _=>rfl⟩
 ·by_cases hy:∃o,x= .bD o
  ·obtain⟨o,rfl⟩:=hy
   unfold uf
   dsimp only
   split
   ·rename_i k e m hl
    obtain⟨s,h1,rfl⟩:=h.vg
    obtain⟨s',h2,h3⟩:=hi.rd hl
    rw[h1] at h2;cases h2
    refine⟨.bV (m.map fun p=>aG R k p.1) (m.map fun p=>aG R e p.2),by unfold Rl;rfl,fun n=> ?_⟩
    have hp:=OY hR m
    rw[jA hp]
    have hp':=hp
    simp only[aF,Bool.and_eq_true] at hp'
    have key:∀cs:List V,aR cs=true→cs.mapM (aN (n+2) σ)=some cs:=by
     intro cs
     induction cs with
     |nil=>intro _;rfl
     |cons a l ih=>
      intro h
      simp only[aR,Bool.and_eq_true] at h
      rw[List.mapM_cons,jA h.1,ih h.2];rfl
    conv=>lhs;unfold aN
    simp only[aF,Bool.false_eq_true,if_false,h3,Option.bind_some,key _ hp'.1,key _ hp'.2,Option.map_some]
   ·exact⟨v,h,fun _=>rfl⟩
  ·by_cases hz:∃o t,x= .vw o t
   ·obtain⟨o,t,rfl⟩:=hz
    unfold uf
    dsimp only
    split
    ·rename_i t' l hl
     split
     ·rename_i e
      subst e
      have hO:=hi.rd hl
      refine⟨.aj .sh (l.map (aG R t')),by unfold Rl;exact⟨.sh,rfl,rfl⟩,fun n=> ?_⟩
      rw[wu _ _ (mR hR t')]
      rcases h.Bl with ⟨s,h1,rfl⟩| ⟨h1,h2⟩
      ·rcases hO.2 with h2| ⟨s',cs,h2,h3,h4⟩
       ·rw[h1] at h2;exact absurd h2.2 (by simp)
       ·rw[h1] at h2;cases h2
        have hlc:cs.length=l.length*bI R t':=by rw[h4.length,Ji]
        have hlen:l.length=ρ.ln o:=hO.1
        conv=>lhs;unfold aN
        simp only[aF,Bool.false_eq_true,if_false,h3,Option.bind_some,Nat.zero_add,List.drop_zero]
        rw[if_pos (by rw[hlc,hlen];exact Nat.le_refl _),List.take_of_length_le (by rw[hlc,hlen];exact Nat.le_refl _),Vv hR l cs h4 n σ]
        simp only[Option.bind_some]
        rw[←hlen,ae0 hR l,ae1 hR l,if_pos rfl]
        rfl
      ·have hl0:l=[]:=List.eq_nil_of_length_eq_zero (hO.1.trans h1)
       subst hl0
       rcases h2 with rfl|rfl<;>exact wu _ ([]:List (Den R.T t')) (mR hR t')
     ·exact⟨v,h,fun _=>rfl⟩
    ·exact⟨v,h,fun _=>rfl⟩
   ·by_cases hz2:∃o off k n lo hi,x= .sv o off k n lo hi
    ·obtain⟨o,off,k,n,lo,hi',rfl⟩:=hz2
     unfold uf
     dsimp only
     split
     ·rename_i l hl
      obtain⟨s,h1,hB,rfl⟩:=h.wQ
      obtain⟨cs,c1,c2,c3,c4⟩:=Vz hR hi hl h1 hB
      obtain⟨p1,p2,p3,_,_⟩:=yC hB
      refine⟨.aj .sh (l.map (V.int k)),by unfold Rl;exact⟨.sh,rfl,rfl⟩,fun m=> ?_⟩
      have hcl:aN (m+3) σ (.aj .sh (l.map (V.int k)))=some (.aj .sh (l.map (V.int k))):=jA (by unfold aF;exact Jj k l)
      rw[hcl]
      conv=>lhs;unfold aN
      simp only[aF,Bool.false_eq_true,if_false,c1,Option.bind_some,Nat.mul_one]
      rw[if_pos (by omega),c3]
      have key:∀cs:List V,aR cs=true→cs.mapM (aN (m+2) σ)=some cs:=by
       intro cs
       induction cs with
       |nil=>intro _;rfl
       |cons a l ih=>
        intro h
        simp only[aR,Bool.and_eq_true] at h
        rw[List.mapM_cons,jA h.1,ih h.2];rfl
      rw[key _ (Jj k l)]
      simp only[Option.bind_some]
      have hone:bf (l.map (V.int k))=true:=by unfold bf;rw[List.all_map];simp[oneCell]
      rw[hone,←c4]
      have:=O4 k l []
      rw[List.append_nil] at this
      rw[this];rfl
     ·exact⟨v,h,fun _=>rfl⟩
    ·have:uf st x=x:=by cases x<;>first|rfl|exact absurd ⟨_,_,rfl⟩ hx|exact absurd ⟨_,rfl⟩ hy|exact absurd ⟨_,_,rfl⟩ hz|exact absurd ⟨_,_,_,_,_,_,rfl⟩ hz2
     rw[this];exact⟨v,h,fun _=>rfl⟩
theorem Jm (hi:aH ρ b st fr σ):∀{x:List (TV R.T)} {v:List V},aC R ρ σ.top x v→∃v',aC R ρ σ.top (D6 st x) v'∧∀n,v.mapM (aN (n+3) σ)=v'.mapM (aN (n+3) σ)
 | [],v,h=>by rw[h.eT];exact⟨[],rfl,fun _=>rfl⟩
 |x::xs,v,h=>by
  obtain⟨w,ws,rfl,h1,h2⟩:=h.dB
  obtain⟨w',a1,a2⟩:=VA hR hi h1
  obtain⟨ws',b1,b2⟩:=Jm hi h2
  exact⟨w'::ws',.cons' a1 b1,fun n=>by rw[List.mapM_cons,List.mapM_cons,a2,b2]⟩
theorem ae4 (hi:aH ρ b st fr σ) {x:TV R.T} {v:V} (h:Rl R ρ σ.top x v):∃v',Rl R ρ σ.top (xV st x) v'∧∀n,aN (n+4) σ v=aN (n+4) σ v':=by
 by_cases hx:∃f a b,x= .fn f a b
 ·obtain⟨f,a,b,rfl⟩:=hx
  obtain⟨a',b',rfl,ha,hb⟩:=h.lN
  obtain⟨va,a1,a2⟩:=Jm hR hi ha
  obtain⟨vb,b1,b2⟩:=Jm hR hi hb
  refine⟨.fn (.func f) va vb,⟨va,vb,rfl,a1,b1⟩,fun n=> ?_⟩
  rw[OX,OX,a2,b2]
 ·by_cases hy:∃cs,x= .agg cs
  ·obtain⟨cs,rfl⟩:=hy
   obtain⟨l,rfl,hl⟩:=h.jN
   obtain⟨v',a1,a2⟩:=Jm hR hi hl
   refine⟨.agg v',by unfold xV;unfold Rl;exact⟨v',rfl,a1⟩,fun n=> ?_⟩
   rw[Oo,Oo,a2]
  ·have:xV st x=uf st x:=by cases x<;>first|rfl|exact absurd ⟨_,_,_,rfl⟩ hx|exact absurd ⟨_,rfl⟩ hy
   rw[this]
   obtain⟨v',h1,h2⟩:=VA hR hi h
   exact⟨v',h1,fun n=>h2 (n+1)⟩
theorem Ey (hi:aH ρ b st fr σ):∀{x:List (TV R.T)} {v:List V},aC R ρ σ.top x v→∃v',aC R ρ σ.top (mM st x) v'∧∀n,v.mapM (aN (n+4) σ)=v'.mapM (aN (n+4) σ)
 | [],v,h=>by rw[h.eT];exact⟨[],rfl,fun _=>rfl⟩
 |x::xs,v,h=>by
  obtain⟨w,ws,rfl,h1,h2⟩:=h.dB
  obtain⟨w',a1,a2⟩:=ae4 hR hi h1
  obtain⟨ws',b1,b2⟩:=Ey hi h2
  exact⟨w'::ws',.cons' a1 b1,fun n=>by rw[List.mapM_cons,List.mapM_cons,a2,b2]⟩
mutual
theorem VB:∀(k:Sk) (x:pE R.T k) (tv:TV R.T) (v:V),kL k=true→pk R k tv=some x→Rl R ρ top tv v→∀n σ,dep k≤n→aN n σ v=some (encS R k x)
 |.d t,x,tv,v,_,h,hr,n,σ,hn=>by
  obtain⟨m,rfl⟩:∃m,n=m+3:=⟨n-3,by have:3≤n:=hn;omega⟩
  exact(Oq hR (show nD R t tv=some x from h) hr).2.2.1 m σ
 |.l c t,x,tv,v,_,h,hr,n,σ,hn=>by
  obtain⟨m,rfl⟩:∃m,n=m+3:=⟨n-3,by have:3≤n:=hn;omega⟩
  obtain⟨c',rfl,_⟩:=(UU (show Ir R c t tv=some x from h) hr).jO
  exact wu _ _ (mR hR _)
 |.agg l,x,tv,v,hc,h,hr,n,σ,hn=>by
  cases tv<;>first| (exact absurd (show none=some x from h) (by simp))|skip
  rename_i cs
  obtain⟨vs,rfl,hl⟩:=hr.jN
  unfold dep at hn
  obtain⟨m,rfl⟩:∃m,n=m+2:=⟨n-2,by omega⟩
  rw[TY,rX l x cs vs (by unfold kL at hc;exact hc) h hl (m+1) σ (by omega)];rfl
 |.aK l off,x,tv,v,hc,h,hr,n,σ,hn=>by
  cases tv<;>first| (exact absurd (show none=some x from h) (by simp))|skip
  rename_i cs off'
  have h':(bif Nat.beq off' off then fF R l cs else none)=some x:=h
  obtain⟨hb,h'⟩:=cZ h'
  rw[dG hb] at hr
  obtain⟨vs,rfl,hl⟩:=hr.sW
  unfold dep at hn
  obtain⟨m,rfl⟩:∃m,n=m+2:=⟨n-2,by omega⟩
  rw[Vt,rX l x cs vs (by unfold kL at hc;exact hc) h' hl (m+1) σ (by omega)];rfl
 |.bV k e,x,tv,v,_,h,hr,n,σ,hn=>by
  cases tv<;>first| (exact absurd (show none=some x from h) (by simp))|skip
  rename_i k' e' m
  obtain⟨e1,e2,e3⟩:=Ox (show Aw R m=some x from h)
  subst e1;subst e2;cases e3
  obtain⟨m',rfl⟩:∃m,n=m+3:=⟨n-3,by have:3≤n:=hn;omega⟩
  rw[hr.Bj]
  exact jA (OY hR m)
 |.fn f a b,x,tv,v,hc,h,hr,n,σ,hn=>by
  cases tv<;>first| (exact absurd (show none=some x from h) (by simp))|skip
  rename_i f' a' b'
  have h':(bif Nat.beq f' f then (match fF R a a' with
   |some x=>match fF R b b' with
    |some y=>some (x,y)
    |none=>none
   |none=>none) else none)=some x:=h
  obtain⟨hb,h'⟩:=cZ h'
  rw[dG hb] at hr
  obtain⟨va,vb,rfl,ha,hbb⟩:=hr.lN
  unfold kL at hc
  rw[Bool.and_eq_true] at hc
  unfold dep at hn
  obtain⟨m,rfl⟩:∃m,n=m+2:=⟨n-2,by omega⟩
  cases h1:fF R a a' with
  |none=>simp only[h1] at h';cases h'
  |some y=>
   cases h2:fF R b b' with
   |none=>simp only[h1,h2] at h';cases h'
   |some z=>
    simp only[h1,h2] at h';cases h'
    rw[OX,rX a y a' va hc.1 h1 ha (m+1) σ (by omega),rX b z b' vb hc.2 h2 hbb (m+1) σ (by omega)];rfl
 |.ref _ _,_,_,_,h,_,_,_,_,_=>by simp[kL] at h
 |.bD _,_,_,_,h,_,_,_,_,_=>by simp[kL] at h
 |.dN,_,_,_,h,_,_,_,_,_=>by simp[kL] at h
 |.vw _ _,_,_,_,h,_,_,_,_,_=>by simp[kL] at h
 |.sg l,x,tv,v,_,h,hr,n,σ,hn=>by
  cases tv<;>first| (exact absurd (show none=some x from h) (by simp))|skip
  rename_i ss
  obtain⟨m,rfl⟩:∃m,n=m+1:=⟨n-1,by have:3≤n:=hn;omega⟩
  rw[hr.Eo]
  show _=some (V.agg (bB (sO l x)))
  rw[Jb (show uV l ss=some x from h)]
  exact jA (O1 ss)
 |.undef,_,_,_,h,_,_,_,_,_=>by simp[kL] at h
theorem rX:∀(l:List Sk) (x:aJ R.T l) (cs:List (TV R.T)) (vs:List V),gZ l=true→fF R l cs=some x→aC R ρ top cs vs→∀n σ,nH l≤n→vs.mapM (aN n σ)=some (aY R l x)
 | [],x,cs,vs,_,h,hr,n,σ,hn=>by
   cases cs with
   |nil=>rw[hr.eT];rfl
   |cons c cs=>exact absurd (show none=some x from h) (by simp)
 | [k],x,cs,vs,hc,h,hr,n,σ,hn=>by
   unfold gZ at hc
   rw[Bool.and_eq_true] at hc
   unfold nH at hn
   cases cs with
   |nil=>exact absurd (show none=some x from h) (by simp)
   |cons c cs=>
    cases cs with
    |nil=>
     obtain⟨v,l,rfl,h1,h2⟩:=hr.dB
     rw[h2.eT,List.mapM_cons,VB k x c v hc.1 h h1 n σ (by omega)];rfl
    |cons c' cs=>exact absurd (show none=some x from h) (by simp)
 |k::k'::l,x,cs,vs,hc,h,hr,n,σ,hn=>by
  unfold gZ at hc
  rw[Bool.and_eq_true] at hc
  unfold nH at hn
  cases cs with
  |nil=>exact absurd (show none=some x from h) (by simp)
  |cons c cs=>
   have h':(match pk R k c with
    |some x=>match fF R (k'::l) cs with
     |some p=>some (x,p)
     |none=>none
    |none=>none)=some x:=h
   obtain⟨v,vs,rfl,h1,h2⟩:=hr.dB
   cases hu:pk R k c with
   |none=>simp only[hu] at h';cases h'
   |some y=>
    cases hs:fF R (k'::l) cs with
    |none=>simp only[hu,hs] at h';cases h'
    |some q=>
     simp only[hu,hs] at h'
     obtain rfl:=Option.some.inj h'
     rw[List.mapM_cons,VB k y c v hc.1 hu h1 n σ (by omega),rX (k'::l) q cs vs hc.2 hs h2 n σ (by omega)];rfl
end
mutual
theorem Jo:∀(tv:TV R.T) (v:V),jK tv=true→Rl R ρ top tv v→aF v=true
 |.int _ _,v,_,h=>by rw[h.fG];exact Nu _ _
 |.bool _,v,_,h=>by rw[h.pK];exact Nv _
 |.gy _,v,_,h=>by rw[h.sV];exact Nv _
 |.str _,v,_,h=>by rw[h.lM];exact TQ _
 |.eH,v,_,h=>by unfold Rl at h;subst h;simp[aF]
 |.eB,v,_,h=>by unfold Rl at h;subst h;simp[aF]
 |.dU,v,_,h=>by unfold Rl at h;subst h;simp[aF]
 |.fM,v,_,h=>by unfold Rl at h;subst h;simp[aF]
 |.aj c t l,v,hs,h=>by
  cases c<;>simp only[jK,Bool.false_eq_true] at hs
  obtain⟨c',rfl,hc⟩:=h.jO
  obtain rfl:c'= .sh:=hc
  exact Ae (mR hR t) l
 |.agg cs,v,hs,h=>by
  obtain⟨l,rfl,hl⟩:=h.jN
  unfold aF;exact wT cs l (by unfold jK at hs;exact hs) hl
 |.bg cs,v,hs,h=>by
  obtain⟨l,rfl,hl⟩:=h.I6
  unfold aF;exact wT cs l (by unfold jK at hs;exact hs) hl
 |.bV k e m,v,_,h=>by rw[h.Bj];exact OY hR m
 |.fn f a b,v,hs,h=>by
  obtain⟨a',b',rfl,ha,hb⟩:=h.lN
  unfold jK at hs
  rw[Bool.and_eq_true] at hs
  unfold aF;rw[wT a a' hs.1 ha,wT b b' hs.2 hb];rfl
 |.dN,_,hs,_=>by simp[jK] at hs
 |.ref _ _,_,hs,_=>by simp[jK] at hs
 |.aK cs off,v,hs,h=>by
  obtain⟨l,rfl,hl⟩:=h.sW
  unfold aF;exact wT cs l (by unfold jK at hs;exact hs) hl
 |.vw _ _,_,hs,_=>by simp[jK] at hs
 |.jB _ _ _ _,_,hs,_=>by simp[jK] at hs
 |.sg ss,v,_,h=>by rw[h.Eo];exact O1 ss
 |.sv _ _ _ _ _ _,_,hs,_=>by simp[jK] at hs
 |.sel _ _ _ _ _ _,_,hs,_=>by simp[jK] at hs
 |.pz _ _ _ _,_,hs,_=>by simp[jK] at hs
 |.bD _,_,hs,_=>by simp[jK] at hs
 |.opt _ _ _,_,hs,_=>by simp[jK] at hs
 |.undef,_,hs,_=>by simp[jK] at hs
 |.gone,_,hs,_=>by simp[jK] at hs
theorem wT:∀(l:List (TV R.T)) (vs:List V),ow l=true→aC R ρ top l vs→aR vs=true
 | [],vs,_,h=>by rw[h.eT];rfl
 |x::l,vs,hs,h=>by
  obtain⟨v,ws,rfl,h1,h2⟩:=h.dB
  unfold ow at hs
  rw[Bool.and_eq_true] at hs
  unfold aR;rw[Jo x v hs.1 h1,wT l ws hs.2 h2];rfl
end
theorem VD {x:TV R.T} {v:V} (hs:D7 x=true) (h:Rl R ρ top x v):aF (fq v)=true:=by
 have key:jK x=true→aF (fq v)=true:=fun hs=>by
  have:=Jo hR x v hs h
  cases v with
  |aj c l=>cases c<;>simp[aF] at this<;>simpa [fq,aF] using this
  |_=>exact this
 cases x<;>first|exact key hs|skip
 ·rw[h.nK];simp[fq,aF,aR]
 ·obtain⟨c',rfl,hc⟩:=h.jO
  exact Ae (mR hR _) _
theorem VE:∀{x:List (TV R.T)} {v:List V},Iq x=true→aC R ρ top x v→aR (v.map fq)=true
 | [],vs,_,h=>by rw[h.eT];rfl
 |x::l,vs,hs,h=>by
  obtain⟨v,ws,rfl,h1,h2⟩:=h.dB
  unfold Iq at hs
  rw[Bool.and_eq_true] at hs
  rw[List.map_cons];unfold aR;rw[VD hR hs.1 h1,VE hs.2 h2];rfl
theorem ae5 {x:TV R.T} {v:V} (hs:Ue x=true) (h:Rl R ρ top x v):aF (er v)=true:=by
 by_cases hx:∃cs,x= .agg cs
 ·obtain⟨cs,rfl⟩:=hx
  obtain⟨l,rfl,hl⟩:=h.jN
  show aF (.agg (l.map fq))=true
  unfold aF;exact VE hR hs hl
 ·by_cases hy:∃ss,x= .sg ss
  ·obtain⟨ss,rfl⟩:=hy
   rw[h.Eo,ae2];exact O1 ss
  have hs':D7 x=true:=by cases x<;>first|exact hs|exact absurd ⟨_,rfl⟩ hx
  have h1:=VD hR hs' h
  have hne:∀cs,v≠ .agg cs:=by
   rintro cs rfl
   cases x<;>first|exact hy ⟨_,rfl⟩| (unfold Rl at h;simp at h;done)|exact hx ⟨_,rfl⟩| (simp[D7,jK] at hs';done)
  rw[ad8 hne];exact h1
theorem Ez:∀{x:List (TV R.T)} {v:List V},wG x=true→aC R ρ top x v→v.all (fun a=>aF (er a))=true
 | [],vs,_,h=>by rw[h.eT];rfl
 |x::l,vs,hs,h=>by
  obtain⟨v,ws,rfl,h1,h2⟩:=h.dB
  unfold wG at hs
  rw[Bool.and_eq_true] at hs
  rw[List.all_cons,ae5 hR hs.1 h1,Ez hs.2 h2];rfl
theorem O5:∀(l:List Sk) (x:aJ R.T l),Au l=true→iV (aY R l x)=true
 | [],x,_=>rfl
 | [k],x,h=>by
   cases k<;>simp only[Au,Bool.and_true,Bool.false_eq_true] at h
   ·rename_i t
    show (flat (aG R t x)&& iV [])=true
    cases t<;>simp only[NJ,Bool.false_eq_true] at h<;>rfl
   ·rename_i ks
    show (flat (.agg (bB (sO ks x)))&& iV [])=true
    unfold flat;rw[Jk];rfl
 |k::k'::l,x,h=>by
  cases k<;>simp only[Au,Bool.false_eq_true] at h
  ·rename_i t
   rw[Bool.and_eq_true] at h
   show (flat (aG R t x.1)&& iV (aY R (k'::l) x.2))=true
   rw[O5 (k'::l) x.2 h.2]
   have:=h.1
   cases t<;>simp only[NJ,Bool.false_eq_true] at this<;>rfl
  ·rename_i ks
   show (flat (.agg (bB (sO ks x.1)))&& iV (aY R (k'::l) x.2))=true
   rw[O5 (k'::l) x.2 h]
   unfold flat;rw[Jk];rfl
omit hR in
theorem ae6 {vs:List V} (h:iV vs=true):flat (mO vs)=true:=by
 match vs with
 | []=>simp[mO,flat,iV]
 | [v]=>simp only[iV,Bool.and_true] at h;exact h
 |v::w::vs=>show flat (.bg _)=true;unfold flat;exact h
mutual
theorem VF:∀(k:Sk) (x:pE R.T k),kL k=true→Rl R ρ top (up R .sh k x) (encS R k x)
 |.d t,x,_=>Ux hR t x
 |.l c t,x,h=>by
  refine⟨.sh,rfl, ?_⟩
  cases c<;>first|trivial|rfl| (simp[kL] at h;done)
 |.agg l,x,h=>⟨_,rfl,uw l x (by unfold kL at h;exact h)⟩
 |.aK l off,x,h=>⟨_,rfl,uw l x (by unfold kL at h;exact h)⟩
 |.bV k e,x,_=>rfl
 |.fn f a b,x,h=>by
  unfold kL at h
  rw[Bool.and_eq_true] at h
  exact⟨_,_,rfl,uw a x.1 h.1,uw b x.2 h.2⟩
 |.ref _ _,_,h=>by simp[kL] at h
 |.bD _,_,h=>by simp[kL] at h
 |.dN,_,h=>by simp[kL] at h
 |.vw _ _,_,h=>by simp[kL] at h
 |.sg l,x,_=>rfl
 |.undef,_,h=>by simp[kL] at h
theorem uw:∀(l:List Sk) (x:aJ R.T l),gZ l=true→aC R ρ top (iC R .sh l x) (aY R l x)
 | [],_,_=>rfl
 | [k],x,h=>by
   unfold gZ at h
   rw[Bool.and_eq_true] at h
   exact .cons' (VF k x h.1) rfl
 |k::k'::l,x,h=>by
  unfold gZ at h
  rw[Bool.and_eq_true] at h
  exact .cons' (VF k x.1 h.1) (uw (k'::l) x.2 h.2)
end
omit hR in
theorem ae7 {x:List (TV R.T)} {v:List V} (h:aC R ρ top x v):Rl R ρ top (Uj R x) (mO v):=by
 match x,h with
 | [],h=>rw[h.eT];exact⟨[],rfl,rfl⟩
 | [a],h=>
   obtain⟨v,vs,rfl,h1,h2⟩:=h.dB
   rw[h2.eT];exact h1
 |a::b::l,h=>
  obtain⟨v,vs,rfl,h1,h2⟩:=h.dB
  obtain⟨w,ws,rfl,h3,h4⟩:=h2.dB
  exact⟨_,rfl,.cons' h1 (.cons' h3 h4)⟩
def VG:List V→List V
 |_::l=>.aj .nil []::l
 | []=>[]
def bS (E:Env) (F:Nat→List (FR R)):Prop:=∀f,∀r∈F f,∀p x,r.F p=some x→(gZ r.args=true→Pure E f (aY R r.args p) (mO (aY R r.res x)))∧
 (r.own=true→∀(τ:Ty) (h:r.res=[.d (.slice τ)]) (l:List (Den R.T τ)),(h▸x:aJ R.T [.d (.slice τ)])=l→
   (gZ r.args=true→E.tL f=false∧jJ E f (aY R r.args p) (bI R τ) (l.map (aG R τ)))∧
   (gZ r.args=false→E.tL f=true∧jJ E f (VG (aY R r.args p)) (bI R τ) (l.map (aG R τ))))
theorem VH {F:Nat→List (FR R)} (hF:bS E F) {f:Nat} {c:Call} {fo:Operand} {o:Oper} {aB:Nat} {a' b':List V} (ho:o.op= .call c) (dX:c.callee= .value fo) (hf:fr.ev E fo= .fn (.func f) a' b') (hi:E.imp f=false) {args:List (TV R.T)}
 (ha:aC R ρ σ.top args (a'++c.args.toList.map (fr.ev E)++b')) (hi':aH ρ b st fr σ):∀{l:List (FR R)} {r:dA R},(∀x∈l,x∈F f)→findF R args (mM st args) l=some r→rW E st ρ aB fr σ o r
 | [],r,_,h=>by cases h
 |q::l,r,hl,h=>by
  unfold findF at h
  split at h
  ·rename_i p hp
   obtain⟨hc,h⟩:=cZ h
   cases h
   simp only[Bool.and_eq_true] at hc
   obtain⟨⟨⟨c1,c2⟩,c3⟩,c4⟩:=hc
   intro x hx
   have hP:=(hF f q (hl q (by simp)) p x hx).1 c1
   obtain⟨vs',v1,v2⟩:=Ey hR hi' ha
   have EA:=rX hR q.args p (mM st args) _ c1 hp v1 20 σ (by have:=Nat.le_of_ble_eq_true c2;omega)
   have has:=(v2 16).trans EA
   have hcl:((a'++c.args.toList.map (fr.ev E)++b').all (fun x=>aF (er x))||flat (mO (aY R q.res x)))=true:=by
    rw[Bool.or_eq_true] at c4⊢
    rcases c4 with c4|c4
    ·exact .inl (Ez hR c4 ha)
    ·exact .inr (ae6 (O5 hR _ _ c4))
   exact⟨mO (aY R q.res x),⟨fun dF _ _ _ hw h'=>OW.call hw ho dX hf hi has hP hcl h' (U8 ho dX hf dF),fun dF _ _ _ _ _ hw h'=>cK.call hw ho dX hf hi has hP hcl h' (U8 ho dX hf dF)⟩,ae7 (uw hR _ _ c3)⟩
  ·exact VH hF ho dX hf hi ha hi' (fun x hx=>hl x (by simp[hx])) h
theorem ae8 {t:TypeId} {x i:TV R.T} {v w:V} {r:dA R} (h:NW E R t x i=some r) (hx:Rl R ρ top x v) (hi:Rl R ρ top i w):nO ρ top (lT E.P t v w) r:=by
 unfold NW at h
 split at h
 ·rename_i e c u l k n hu
  split at h
  ·rename_i sz hs
   obtain⟨hb,h⟩:=cZ h
   cases h
   have:=dG hb;subst this
   obtain⟨c',rfl,_⟩:=hx.jO
   rw[hi.fG]
   intro a ha
   refine⟨.aK (aG R u a).cells 0, ?_, ?_⟩
   ·rw[Ih,if_pos (by unfold mK;rw[hu])]
    have:iw E.P t=some e:=by unfold iw;rw[hu]
    rw[this];simp only[Option.bind_some,hs,ha]
    rw[if_pos (Bz hR u a).1]
   ·unfold Rl
    refine⟨_,rfl,(uq ?_ (Ux hR u a)).1⟩
    cases u<;>rfl
  ·cases h
 ·rename_i n e o off k m hu
  split at h
  ·rename_i sz hs
   cases h
   obtain⟨s,h1,rfl⟩:=hx.nL
   rw[hi.fG]
   intro hc
   have hc':0≤m∧m<n:=of_decide_eq_true hc
   refine⟨.ref (ρ.om.lc o) s (off+m.toNat*sz), ?_,by unfold Rl;exact⟨s,h1,rfl⟩⟩
   unfold lT;rw[hu];dsimp only;rw[hs]
   simp[idx,kU,hc']
  ·cases h
 ·rename_i n e cs off k m hu
  split at h
  ·rename_i sz hs
   cases h
   obtain⟨l,rfl,h1⟩:=hx.sW
   rw[hi.fG]
   intro hc
   have hc':0≤m∧m<n:=of_decide_eq_true hc
   refine⟨.aK l (off+m.toNat*sz), ?_,by unfold Rl;exact⟨l,rfl,h1⟩⟩
   unfold lT;rw[hu];dsimp only;rw[hs]
   simp[idx,kU,hc']
  ·cases h
 ·cases h
omit hR in
theorem ae9 {t:TypeId} {x i:TV R.T} {v w:V} {r:dA R} (h:N8 E R t x i=some r) (hx:Rl R ρ top x v) (hi:Rl R ρ top i w):nO ρ top (uO E.P t v w) r:=by
 unfold N8 at h
 split at h
 ·rename_i s k n hu
  cases h
  rw[hx.lM,hi.fG]
  intro a ha
  refine⟨.int .u8 ((a.toNat:Nat):Int), ?_,by unfold Rl;rfl⟩
  rw[Ud (by unfold DX;rw[hu]),ha];rfl
 ·cases h
end
end Aq
end
