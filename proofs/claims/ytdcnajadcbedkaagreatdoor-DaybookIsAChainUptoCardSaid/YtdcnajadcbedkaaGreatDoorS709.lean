/- Part of the proof of a law. -/
import Derived.Test.YtdcnajadcbedkaaGreatDoorS708
set_option linter.all false
set_option linter.unusedSimpArgs false
set_option linter.unusedSectionVars false
section
namespace Aq
open Go
set_option linter.unusedSectionVars false
set_option linter.unusedVariables false
section
variable {R:gy} {E:Env}
variable {ρ:aK} {top:Nat→Nat}
def nC (ρ:aK) (top:Nat→Nat) (v:Option V):dh R→Prop
 |.t x=> ∃y,v=some y∧Rl R ρ top x y
 |.c c x=>c=true→∃y,v=some y∧Rl R ρ top x y
 |.p _ _ o f=> ∀a,o=some a→∃y,v=some y∧Rl R ρ top (f a) y
 |_=>False
theorem Uz {op:BinOp} {k:IntKind} {x y:Int} {r:dh R} (h:G7 R op k x y=some r):nC ρ top (iX op k x y) r:=by
 unfold G7 at h
 cases op<;>cases h<;>first
  |exact⟨_,rfl,by unfold Rl;rfl⟩
  | (intro hc
     have hy:¬y=0:=by simpa using hc
     exact⟨_,if_neg hy,by unfold Rl;rfl⟩)
theorem adL {op:BinOp} {k:IntKind} {x y:Int} {r:dh R} (h:ME R op k x y=some r):nC ρ top (BK op k x y) r:=by
 unfold ME at h
 cases op<;>cases h<;>
  (intro hc
   have hy:¬y<0:=by have:=of_decide_eq_true hc;omega
   exact⟨_,if_neg hy,by unfold Rl;rfl⟩)
theorem adM {op:BinOp} {x y:List UInt8} {r:dh R} (h:MF R op x y=some r):nC ρ top (uE op x y) r:=by
 unfold MF at h
 cases op<;>cases h<;>first
  |exact⟨_,rfl,by unfold Rl;rfl⟩
  | (intro hc
     have hy:¬((x.length+y.length:Nat):Int)>IntKind.i64.max:=by have:=of_decide_eq_true hc;omega
     exact⟨_,if_neg hy,by unfold Rl;rfl⟩)
theorem adN {P:Program} {op:BinOp} {t:TypeId} {k:IntKind} {a b:Int} (h:zD op=false):lW P op t (.int k a) (.int k b)=iX op k a b:=by
 cases op<;>first| (simp[zD] at h;done)|simp[lW]
theorem adO {P:Program} {op:BinOp} {t:TypeId} {k k':IntKind} {a b:Int} (h:zD op=true):lW P op t (.int k a) (.int k' b)=BK op k a b:=by
 cases op<;>first| (simp[zD] at h;done)|rfl
theorem adP {P:Program} {op:BinOp} {t:TypeId} {a b:List UInt8}:lW P op t (.str a) (.str b)=uE op a b:=by
 cases op<;>rfl
theorem adQ {P:Program} {t:TypeId} {x y:V} {b:Bool} (h:nJ P t x y=some b):(∀k n k' m,x= .int k n→y= .int k' m→False)∧∀s s',x= .str s→y= .str s'→False:=by
 unfold nJ at h
 constructor
 ·intro k n k' m hx hy;subst hx;subst hy;split at h<;>simp_all
 ·intro s s' hx hy;subst hx;subst hy;split at h<;>simp_all
theorem UA {P:Program} {t:TypeId} {x y:V} {b:Bool} (h:nJ P t x y=some b):lW P .eql t x y=some (.bool b)∧lW P .neq t x y=some (.bool !b):=by
 obtain⟨h1,h2⟩:=adQ h
 constructor
 all_goals
  unfold lW
  split
  ·rename_i he;cases he
  ·rename_i he;cases he
  ·exact(h1 _ _ _ _ rfl rfl).elim
  ·exact(h2 _ _ rfl rfl).elim
  all_goals first| (rw[h];rfl)| (rename_i he;cases he)|simp_all
theorem adR {op:BinOp} {t:TypeId} {x y:TV R.T} {v w:V} {r:dh R} (h:MG E R op t x y=some r) (hx:Rl R ρ top x v) (hy:Rl R ρ top y w):nC ρ top (lW E.P op t v w) r:=by
 unfold MG at h
 split at h
 ·rename_i k a k' b
  rw[hx.fE,hy.fE]
  cases hs:zD op
  ·rw[hs,cond_false] at h
   split at h
   ·rename_i e;subst e;rw[adN hs];exact Uz h
   ·cases h
  ·rw[hs,cond_true] at h;rw[adO hs];exact adL h
 ·rw[hx.lq,hy.lq,adP];exact adM h
 ·split at h
  ·split at h
   ·rename_i b hb;cases h
    exact⟨_,(UA (Uy hb hx hy)).1,by unfold Rl;rfl⟩
   ·cases h
  ·split at h
   ·rename_i b hb;cases h
    exact⟨_,(UA (Uy hb hx hy)).2,by unfold Rl;rfl⟩
   ·cases h
  ·cases h
theorem adS {op:UnOp} {x:TV R.T} {v:V} {r:dh R} (h:MH R op x=some r) (hx:Rl R ρ top x v):nC ρ top (wE op v) r:=by
 unfold MH at h
 split at h
 ·cases h;rw[hx.fE];exact⟨_,rfl,by unfold Rl;rfl⟩
 ·rw[hx.fE];exact Uz h
 ·cases h;rw[hx.o7];exact⟨_,rfl,by unfold Rl;rfl⟩
 ·cases h;rw[hx.qN];exact⟨_,rfl,by unfold Rl;rfl⟩
 ·cases h
theorem UC (s:List UInt8):s.map kS=List.map (aF R (.int .u8)) (s.map fun b=>((b.toNat:Nat):Int)):=by
 show s.map kS=List.map (fun n:Int=>V.int .u8 n) (List.map (fun b:UInt8=>((b.toNat:Nat):Int)) s)
 rw[List.map_map];rfl
theorem Nw:∀l:List Int,(List.map (aF R (.int .u8)) l).mapM wF=some (List.map (fun n:Int=>UInt8.ofNat n.toNat) l)
 | []=>rfl
 |n::l=>by
  show List.mapM wF (V.int .u8 n::List.map (aF R (.int .u8)) l)=_
  rw[List.mapM_cons,Nw l];rfl
theorem adT {a b:TypeId} {x:TV R.T} {v:V} {σ:ah} {r:dh R} (h:G8 E R a b x=some r) (hx:Rl R ρ top x v):nC ρ top (sI E.P σ a b v) r:=by
 unfold G8 at h
 unfold sI
 split at h
 ·rename_i hu hv;cases h;rw[hx.fE,hu,hv];exact⟨_,rfl,by unfold Rl;rfl⟩
 ·rename_i hu hv;cases h;rw[hx.lq,hu,hv];exact⟨_,rfl,by unfold Rl;rfl⟩
 ·rename_i hu hv
  rw[hx.lq,hu,hv]
  split at h
  ·rename_i he;cases h
   dsimp only;rw[he]
   exact⟨_,rfl,by unfold Rl;exact⟨.sh,by rw[UC],trivial⟩⟩
  ·cases h
 ·rename_i l hu hv
  obtain⟨c',rfl,_⟩:=hx.jQ
  rw[hu,hv]
  split at h
  ·rename_i he;cases h
   dsimp only;rw[he]
   exact⟨_,congrArg (Option.map V.str) (Nw (R:=R) l),by unfold Rl;rfl⟩
  ·cases h
 ·rename_i hu hv
  rw[hx.nY,hu,hv]
  split at h
  ·rename_i he;cases h
   dsimp only;rw[he]
   exact⟨_,rfl,by unfold Rl;rfl⟩
  ·cases h
 ·cases h
theorem Ic {x:Option (TV R.T)} {v:Option V} {i:Option Int} (h:zF R x=some i) (hx:∀y,x=some y→∃w,v=some w∧Rl R ρ top y w) (hn:x=none→v=none):(i=none∧v=none)∨∃n k,i=some n∧v=some (.int k n):=by
 unfold zF at h
 split at h
 ·cases h;exact .inl ⟨rfl,hn rfl⟩
 ·rename_i k n
  cases h
  obtain⟨w,rfl,hw⟩:=hx _ rfl
  exact .inr ⟨n,k,rfl,by rw[hw.fE]⟩
 ·cases h
theorem o8 {k:IntKind} {n:Int} {m:Nat} (h:gL n m=true):bnd (.int k n) m=some n.toNat:=by
 unfold gL at h
 have:=of_decide_eq_true h
 simp[bnd,kD,this]
theorem UD {α:Type} (l:List α) {lo hi:Option Int} {vl vh:Option V} (hl:(lo=none∧vl=none)∨∃n k,lo=some n∧vl=some (.int k n)) (hh:(hi=none∧vh=none)∨∃n k,hi=some n∧vh=some (.int k n)) (hb:MI l.length lo hi=true):
 ∃a c,iY l.length l.length vl vh none=some (a,c,l.length)∧(l.take c).drop a=nV l lo hi:=by
 rcases hl with ⟨rfl,rfl⟩| ⟨n,k,rfl,rfl⟩<;>rcases hh with ⟨rfl,rfl⟩| ⟨m,k',rfl,rfl⟩
 ·exact⟨0,l.length,rfl,by simp[nV]⟩
 ·have h1:gL m l.length=true:=hb
  exact⟨0,m.toNat,by simp[iY,o8 h1],by simp[nV]⟩
 ·have h1:gL n l.length=true:=hb
  exact⟨n.toNat,l.length,by simp[iY,o8 h1],by simp[nV]⟩
 ·have h1:(gL m l.length&& gL n m.toNat)=true:=hb
  rw[Bool.and_eq_true] at h1
  exact⟨n.toNat,m.toNat,by simp[iY,o8 h1.1,o8 h1.2],by simp[nV]⟩
theorem Ny {α:Type} (f:α→V) (l:List α) (a c:Nat):((l.map f).take c).drop a=((l.take c).drop a).map f:=by simp
variable (hR:l9 R)
include hR
theorem Ah (t:Ty) (x:Den R.T t):(aF R t x).cells.length=bL R t∧aW (aF R t x).cells=true∧er (aF R t x)=aF R t x∧(gD t=true→∃l,aF R t x= .agg l)∧(gD t=false→(aF R t x).cells=[aF R t x]):=by
 cases t with
 |int k=>exact⟨rfl,rfl,rfl,by simp[gD],fun _=>rfl⟩
 |bool=>exact⟨rfl,rfl,rfl,by simp[gD],fun _=>rfl⟩
 |str=>exact⟨rfl,rfl,rfl,by simp[gD],fun _=>rfl⟩
 |slice t=>exact⟨rfl,rfl,rfl,by simp[gD],fun _=>rfl⟩
 |st n=>
  have he:aF R (.st n) x= .agg (encs R (R.lf n) (R.of n x)):=hR.enc n x
  rw[he]
  have hl:=hR.leaf n
  have key:∀(l:List Ty) (p:lK R.T l),l.all l8=true→aW (encs R l p)=true∧(encs R l p).map eY=encs R l p:=by
   intro l
   induction l with
   |nil=>intro p _;exact⟨rfl,rfl⟩
   |cons t l ih=>
    intro p h
    rw[List.all_cons,Bool.and_eq_true] at h
    have h1:∀y:Den R.T t,oneCell (aF R t y)=true∧eY (aF R t y)=aF R t y:=by
     intro y
     cases t<;>first|exact⟨rfl,rfl⟩| (have:=h.1;simp[l8] at this)
    cases l with
    |nil=>exact⟨by simp[encs,aW,(h1 p).1],by simp[encs,(h1 p).2]⟩
    |cons u l=>
     have:=ih p.2 h.2
     exact⟨by show (oneCell _&& aW (encs R (u::l) p.2))=true;rw[(h1 p.1).1,this.1];rfl,by show eY _::List.map eY (encs R (u::l) p.2)=_;rw[(h1 p.1).2,this.2];rfl⟩
  have:=key (R.lf n) (R.of n x) hl
  exact⟨Nb _ _,this.1,by show V.agg (List.map eY _)=_;rw[this.2],fun _=>⟨_,rfl⟩,by simp[gD]⟩
theorem Dn {t:Ty} (l:List (Den R.T t)):kT (bL R t) (l.map (aF R t))=true:=by
 cases l with
 |nil=>rfl
 |cons x l=>show ((aF R t x).cells.length==bL R t)=true;rw[(Ah hR t x).1];simp
theorem Ie {t:TypeId} {x:TV R.T} {lo hi:Option (TV R.T)} {v:V} {vl vh:Option V} {σ:ah} {r:dh R} (h:vg E R t x lo hi=some r) (hx:Rl R ρ top x v)
 (hl:∀y,lo=some y→∃w,vl=some w∧Rl R ρ top y w) (hln:lo=none→vl=none) (hh:∀y,hi=some y→∃w,vh=some w∧Rl R ρ top y w) (hhn:hi=none→vh=none):nC ρ top (kE E.P σ t v vl vh none) r:=by
 unfold vg at h
 split at h
 ·rename_i lo' hi' e1 e2
  have b1:=Ic e1 hl hln
  have b2:=Ic e2 hh hhn
  split at h
  ·rename_i s hu
   cases h
   rw[hx.lq]
   intro hc
   obtain⟨a,c,h1,h2⟩:=UD s b1 b2 hc
   refine⟨.str (nV s lo' hi'), ?_,by unfold Rl;rfl⟩
   unfold kE;rw[hu];dsimp only;rw[h1];simp[h2]
  ·rename_i e c u l hu
   split at h
   ·rename_i sz hs
    cases hb:Nat.beq sz (bL R u)
    ·rw[hb] at h;cases h
    ·rw[hb,cond_true] at h;cases h
     have:=dB hb;subst this
     obtain⟨c',rfl,_⟩:=hx.jQ
     intro hc
     obtain⟨a,m,h1,h2⟩:=UD l b1 b2 hc
     unfold kE;rw[hu];dsimp only
     rw[hs];simp only[Option.bind_some,List.length_map,h1,Dn hR,if_true]
     by_cases hcs:a=0∧m=l.length∧(none:Option V).isNone=true
     ·refine⟨_,by rw[if_pos hcs], ?_⟩
      unfold Rl
      refine⟨c', ?_,trivial⟩
      rw[←h2,hcs.1,hcs.2.1];simp
     ·refine⟨_,by rw[if_neg hcs], ?_⟩
      unfold Rl
      exact⟨_,by rw[←h2,Ny],trivial⟩
   ·cases h
  ·cases h
 ·cases h
theorem Ig {t:TypeId} {k:Ty} (hk:sZ E t k=true) (x y:Den R.T k):kR (aF R k x) (aF R k y)=some (j4 R k x y)∧jK E.P t (aF R k x)=true:=by
 unfold sZ at hk
 split at hk
 ·rename_i hu;exact⟨by simp[kR,aF,j4],by unfold jK;rw[hu];rfl⟩
 ·rename_i hu;exact⟨rfl,by unfold jK;rw[hu];rfl⟩
 ·rename_i hu;exact⟨rfl,by unfold jK;rw[hu];rfl⟩
 ·cases hk
theorem UE {t:TypeId} {k e:Ty} (hk:sZ E t k=true) (x:Den R.T k):∀m:List (Den R.T k×Den R.T e),mH (aF R k x) (m.map fun p=>aF R k p.1) (m.map fun p=>aF R e p.2)=some ((wY (j4 R k) x m).map (aF R e))
 | []=>rfl
 | (a,v)::m=>by
   show (kR (aF R k x) (aF R k a)).bind _=some ((bif j4 R k x a then some v else wY (j4 R k) x m).map (aF R e))
   rw[(Ig hR hk x a).1,Option.bind_some]
   cases j4 R k x a
   ·exact UE hk x m
   ·rfl
theorem UF {t:TypeId} {k e:Ty} (hk:sZ E t k=true) (x:Den R.T k) (v:Den R.T e):∀m:List (Den R.T k×Den R.T e),qV (aF R k x) (aF R e v) (m.map fun p=>aF R k p.1) (m.map fun p=>aF R e p.2)=
 some ((vk (j4 R k) x v m).map (fun p=>aF R k p.1),(vk (j4 R k) x v m).map fun p=>aF R e p.2)
 | []=>rfl
 | (a,w)::m=>by
   show (kR (aF R k x) (aF R k a)).bind _=_
   rw[(Ig hR hk x a).1,Option.bind_some]
   show _=some (List.map _ (bif j4 R k x a then (x,v)::m else (a,w)::vk (j4 R k) x v m),List.map _ (bif j4 R k x a then (x,v)::m else (a,w)::vk (j4 R k) x v m))
   cases j4 R k x a
   ·simp only[Bool.false_eq_true,if_false,cond_false]
    rw[UF hk x v m];rfl
   ·rfl
theorem UG {t:TypeId} {k:Ty} (hk:sZ E t k=true) {x:Den R.T k} {y:TV R.T} {v:V} (h:mW R k y=some x) (hr:Rl R ρ top y v):v=aF R k x:=by
 unfold sZ at hk
 split at hk
 ·exact M8 h hr
 ·exact Na h hr
 ·exact M9 h hr
 ·cases hk
omit hR in
def mapOf (σ:ah):V→Option (List V×List V)
 |.dQ=>some ([],[])
 |.bB loc s=>σ.eP loc s
 |.bR ks vs=>some (ks,vs)
 |_=>none
omit hR in
theorem UH {P:Program} {σ:ah} {t:TypeId} {m k:V} {ok:Bool}:qW P σ t m k ok=(pz P t).bind fun p=>if jK P p.1 k then (mapOf σ m).bind fun q=>(mH k q.1 q.2).bind fun r=>
 (match r with|some v=>some (v,true)|none=>(fK P p.2).map fun z=>(z,false)).map fun (x:V×Bool)=>if ok then .aZ [x.1,.bool x.2] else x.1 else none:=by
 cases m<;>rfl
theorem Nz {t:TypeId} {k e:Ty} {m:List (Den R.T k×Den R.T e)} {y:TV R.T} {w mv:V} {ok:Bool} {σ:ah} {r:dh R} (h:CV E R t k e m y ok=some r) (hy:Rl R ρ top y w)
 (hm:mapOf σ mv=some (m.map (fun p=>aF R k p.1),m.map fun p=>aF R e p.2)):nC ρ top (qW E.P σ t mv w ok) r:=by
 unfold CV at h
 split at h
 ·rename_i kt et ht
  cases hk:sZ E kt k
  ·rw[hk] at h;cases h
  ·rw[hk,cond_true] at h
   split at h
   ·rename_i z hz
    split at h
    ·rename_i z' x hz' hx
     cases h
     have hw:=UG hR hk hx hy
     subst hw
     obtain⟨zv,hzv,NA⟩:=Af (ρ:=ρ) (top:=top) hz
     have adU:=Dj hR hz' NA
     rw[UH,ht];simp only[Option.bind_some]
     rw[if_pos (Ig hR hk x x).2,hm]
     simp only[Option.bind_some]
     rw[UE hR hk x m]
     simp only[Option.bind_some]
     cases hg:wY (j4 R k) x m with
     |some v=>
      simp only[Option.map_some]
      cases ok
      ·exact⟨_,rfl,H6 hR .any (.inl rfl) e v⟩
      ·refine⟨_,rfl, ?_⟩
       rw[cond_true]
       unfold Rl
       exact⟨_,rfl,.cons' (H6 hR .any (.inl rfl) e v) (.cons' (by unfold Rl;rfl) rfl)⟩
     |none=>
      simp only[Option.map_none,hzv,Option.map_some]
      have hz3:Rl R ρ top (eU R .any e z') zv:=adU
      cases ok
      ·exact⟨_,rfl,hz3⟩
      ·refine⟨_,rfl, ?_⟩
       rw[cond_true]
       unfold Rl
       exact⟨_,rfl,.cons' hz3 (.cons' (by unfold Rl;rfl) rfl)⟩
    ·cases h
   ·cases h
 ·cases h
end
end Aq
end
section
namespace Aq
open Go
set_option linter.unusedSectionVars false
set_option linter.unusedVariables false
section
variable {R:gy} {E:Env}
variable {ρ:aK} {top:Nat→Nat} {b:Nat} {st:MS R.T} {fr:Fr} {σ:ah}
theorem cB.{u} {α:Type u} {c:Bool} {o:Option α} {y:α} (h:(bif c then o else none)=some y):c=true∧o=some y:=by
 cases c
 ·cases h
 ·exact⟨rfl,h⟩
theorem Ih {t e:TypeId} {u:Ty} {sz cu:Nat} (h:zH E R t=some (e,u,sz,cu)):∃z,gN E.P t=some e∧bq E.P e=some sz∧nG E.P e=some cu∧fZ E.P e=some (gD u)∧fK E.P e=some z∧
 sz=bL R u∧0<sz∧(gD u||sz==1)=true∧z.cells.length=sz:=by
 unfold zH at h
 split at h
 ·rename_i e' he
  split at h
  ·rename_i u' sz' by' ag z h1 h2 h3 h4 h5
   obtain⟨hc,h⟩:=cB h
   cases h
   simp only[Bool.and_eq_true] at hc
   obtain⟨⟨⟨⟨c1,c2⟩,c3⟩,c4⟩,c5⟩:=hc
   have:ag=gD u:=by simpa using c5
   subst this
   refine⟨z,he,h2,h3,h4,h5,dB c1,Nat.le_of_ble_eq_true c2, ?_,dB c4⟩
   rw[Bool.or_eq_true] at c3⊢
   rcases c3 with c3|c3
   ·exact .inl c3
   ·exact .inr (by rw[dB c3];rfl)
  ·cases h
 ·cases h
theorem NC (ag:Bool) (sz:Nat):∀vs:List V,(∀v∈vs,v.cells.length=sz)→chunks ag sz vs.length (vs.flatMap V.cells)=vs.map fun v=>if ag then .agg v.cells else v.cells.headD aA
 | [],_=>rfl
 |v::vs,h=>by
  have h1:=h v (by simp)
  have h2:=NC ag sz vs (fun w hw=>h w (by simp[hw]))
  show _::chunks ag sz vs.length ((v.cells++vs.flatMap V.cells).drop sz)=_
  rw[List.drop_left' h1,h2,List.map_cons]
  congr 1
  cases ag
  ·simp only[Bool.false_eq_true,if_false]
   show (v.cells++vs.flatMap V.cells).headD aA=_
   cases hv:v.cells with
   |nil=>
    have h0:sz=0:=by rw[←h1,hv];rfl
    cases vs with
    |nil=>rfl
    |cons w vs=>
     have:w.cells=[]:=List.eq_nil_of_length_eq_zero (by rw[h w (by simp),h0])
     simp only[List.flatMap_cons,this,List.nil_append]
     have:∀vs:List V,(∀v∈vs,v.cells.length=sz)→vs.flatMap V.cells=[]:=by
      intro vs hvs
      rw[List.flatMap_eq_nil_iff]
      intro x hx;exact List.eq_nil_of_length_eq_zero (by rw[hvs x hx,h0])
     rw[this vs (fun x hx=>h x (by simp[hx]))]
   |cons a l=>rfl
  ·simp only[if_true]
   show V.agg ((v.cells++vs.flatMap V.cells).take sz)=_
   rw[List.take_left' h1]
variable (hR:l9 R)
include hR
theorem adV {t:Ty} {x:Den R.T t} {v:V} (h:er v=aF R t x):bV v=true:=by
 cases v<;>try rfl
 have h1:=nu hR t x
 rw[←h] at h1
 simp[er,aD] at h1
theorem UJ {u:Ty} {sz len:Nat} (hsz:sz=bL R u):∀(ps:List (Nat×TV R.T)) (qs:List (Nat×V)) (xs:List (Den R.T u)) (n:Nat) (done rest:List V),vo R u n ps=some xs→ps.map (·.1)=qs.map (·.1)→
 au R ρ top (ps.map (·.2)) (qs.map (·.2))→done.length=n*sz→rest.length=xs.length*sz→n+xs.length≤len→
 ∃vs:List V,nH (fun i=>if i<len then some (i*sz,sz) else none) (done++rest) qs=some (done++vs.flatMap V.cells)∧vs.length=xs.length∧vs.map er=xs.map (aF R u)∧(∀v∈vs,v.cells.length=sz∧aW v.cells=true)
 | [],[],xs,n,done,rest,h,_,_,h1,h2,_=>by
   cases h
   have:rest=[]:=List.eq_nil_of_length_eq_zero (by simpa using h2)
   subst this
   exact⟨[],by simp[nH],rfl,rfl,by simp⟩
 | [],_::_,_,_,_,_,_,h,_,_,_,_=>by simp at h
 |_::_,[],_,_,_,_,_,h,_,_,_,_=>by simp at h
 | (i,v)::ps,(j,w)::qs,xs,n,done,rest,h,hi,hr,h1,h2,h3=>by
   simp only[List.map_cons,List.cons.injEq] at hi
   obtain⟨rfl,hi⟩:=hi
   obtain⟨y,ys,e,g1,g2⟩:=hr.dA
   simp only[List.map_cons,List.cons.injEq] at e
   obtain⟨rfl,rfl⟩:=e
   unfold vo at h
   cases hb:Nat.beq i n
   ·rw[hb] at h;cases h
   ·rw[hb,cond_true] at h
    have:=dB hb;subst this
    cases hu:mW R u v with
    |none=>simp only[hu] at h;cases h
    |some x=>
     cases hs:vo R u (i+1) ps with
     |none=>simp only[hu,hs] at h;cases h
     |some xs'=>
      simp only[hu,hs] at h
      obtain rfl:=Option.some.inj h
      obtain⟨a1,a2,a3,a4,a5⟩:=Nf hR hu g1
      rw[←hsz] at a4
      have hlen:rest.length=sz+xs'.length*sz:=by rw[h2,List.length_cons,Nat.succ_mul];omega
      have q1:(done++w.cells).length=(i+1)*sz:=by rw[List.length_append,h1,a4,Nat.succ_mul]
      have q2:(rest.drop sz).length=xs'.length*sz:=by rw[List.length_drop,hlen,Nat.add_sub_cancel_left]
      have q3:i+1+xs'.length≤len:=by rw[List.length_cons] at h3;omega
      obtain⟨vs,k1,k2,k3,k4⟩:=UJ hsz ps qs xs' (i+1) (done++w.cells) (rest.drop sz) hs hi g2 q1 q2 q3
      refine⟨w::vs, ?_,by simp[k2],by simp[a1,k3], ?_⟩
      ·simp only[List.length_cons] at h3
       unfold nH
       simp only[if_pos (show i<len by omega)]
       rw[if_pos ⟨a4,by rw[List.length_append,h1,hlen];exact Nat.add_le_add_left (Nat.le_add_right _ _) _,adV hR a1⟩]
       have:eB (done++rest) (i*sz) w.cells=done++w.cells++rest.drop sz:=by
        unfold eB
        rw[List.take_left' h1,a4,List.drop_append,h1,Nat.add_sub_cancel_left,List.drop_eq_nil_of_le (by omega)]
        rfl
       rw[this,k1]
       simp
      ·intro z hz
       rcases List.mem_cons.1 hz with rfl|hz
       ·exact⟨a4,a5⟩
       ·exact k4 z hz
theorem adW {u:Ty} {sz:Nat} (hsz:sz=bL R u) (h1:(gD u||sz==1)=true) {v:V} {x:Den R.T u} (he:er v=aF R u x) (hl:v.cells.length=sz):er (if gD u then .agg v.cells else v.cells.headD aA)=aF R u x:=by
 cases hs:gD u
 ·simp only[Bool.false_eq_true,if_false]
  have hne:∀cs,v≠ .agg cs:=by
   rintro cs rfl
   cases u<;>first| (simp[gD] at hs;done)| (simp[er,aF] at he;done)
  have:v.cells=[v]:=by cases v<;>first|rfl|exact absurd rfl (hne _)
  rw[this];exact he
 ·simp only[if_true]
  obtain⟨l,hl'⟩:=(Ah hR u x).2.2.2.1 hs
  cases v<;>first|exact he| (rw[hl'] at he;simp[er] at he)
theorem adX {t:TypeId} {len:Nat} {ps:List (Nat×TV R.T)} {qs:List (Nat×V)} {r:dh R} (h:MJ E R t len ps=some r) (hi:ps.map (·.1)=qs.map (·.1)) (hr:au R ρ top (ps.map (·.2)) (qs.map (·.2))):nC ρ top (qZ E t len qs) r:=by
 unfold MJ at h
 split at h
 ·rename_i e u sz cu he
  obtain⟨z,e1,e2,e3,e4,e5,e6,e7,e8,e9⟩:=Ih he
  ·obtain⟨hc,h⟩:=cB h
   rw[Bool.and_eq_true] at hc
   split at h
   ·rename_i xs hx
    cases h
    have hlen:xs.length=len:=by
     have:∀(ps:List (Nat×TV R.T)) (n:Nat) (xs:List (Den R.T u)),vo R u n ps=some xs→xs.length=ps.length:=by
      intro ps
      induction ps with
      |nil=>intro n xs h;cases h;rfl
      |cons p ps ih=>
       intro n xs h
       obtain⟨i,v⟩:=p
       unfold vo at h
       obtain⟨_,h⟩:=cB h
       cases hu:mW R u v with
       |none=>simp only[hu] at h;cases h
       |some x=>
        cases hs:vo R u (n+1) ps with
        |none=>simp only[hu,hs] at h;cases h
        |some xs'=>simp only[hu,hs] at h;cases h;simp[ih _ _ hs]
     rw[this ps 0 xs hx];exact dB hc.2
    obtain⟨vs,k1,k2,k3,k4⟩:=UJ hR (len:=len) e6 ps qs xs 0 [] ((List.replicate len z.cells).flatten) hx hi hr (by simp) (by simp[e9,hlen]) (by omega)
    refine⟨.aj .full (xs.map (aF R u)), ?_,by unfold Rl;exact⟨.full,rfl,rfl⟩⟩
    unfold qZ
    rw[e1];simp only[Option.bind_some,e2,e4,e5]
    rw[if_pos ⟨Nat.le_of_ble_eq_true hc.1,e9,e7,e8⟩]
    rw[List.nil_append,List.nil_append] at k1
    rw[k1]
    simp only[Option.bind_some]
    have hone:aW (vs.flatMap V.cells)=true:=by
     unfold aW
     rw[List.all_flatMap,List.all_eq_true]
     intro v hv;exact(k4 v hv).2
    rw[hone,if_pos rfl,←hlen,←k2,NC _ _ _ (fun v hv=>(k4 v hv).1),List.map_map]
    congr 2
    have:∀(vs:List V) (xs:List (Den R.T u)),vs.map er=xs.map (aF R u)→(∀v∈vs,v.cells.length=sz∧aW v.cells=true)→vs.map (er∘fun v=>if gD u then .agg v.cells else v.cells.headD aA)=xs.map (aF R u):=by
     intro vs
     induction vs with
     |nil=>intro xs h _;exact h
     |cons v vs ih=>
      intro xs h hk
      cases xs with
      |nil=>simp at h
      |cons x xs=>
       simp only[List.map_cons,List.cons.injEq] at h
       rw[List.map_cons,List.map_cons,ih xs h.2 (fun w hw=>hk w (by simp[hw]))]
       congr 1
       exact adW hR e6 e8 h.1 (hk v (by simp)).1
    rw[this vs xs k3 k4]
   ·cases h
 ·cases h
theorem ND {u:Ty} (l:List (Den R.T u)):(l.map (aF R u)).all (fun v=>aW v.cells)=true:=by
 simp[List.all_map,(Ah hR u _).2.1]
theorem NG {u:Ty} {ag:Bool} {y:TV R.T} {v z:V} {l:List (Den R.T u)} (h:CX R u y=some l) (hy:Rl R ρ top y v):jo σ ag (bL R u) z v=some (l.map (aF R u))∧qX v=false:=by
 unfold CX at h
 split at h
 ·obtain⟨e,e2⟩:=p8 h;subst e;cases e2
  obtain⟨c',rfl,_⟩:=hy.jQ
  exact⟨by show (if kT _ _=true then _ else _)=_;rw[if_pos (Dn hR _)],rfl⟩
 ·cases h;rw[hy.nY];exact⟨rfl,rfl⟩
 ·rename_i s
  obtain⟨e,e2⟩:=p8 h;subst e;cases e2
  rw[hy.lq]
  exact⟨by show (if 1=1 then some (s.map kS) else none)=_;rw[if_pos rfl];exact congrArg some (UC (R:=R) s),rfl⟩
 ·cases h
theorem adY {t e:TypeId} {sz cu:Nat} {ag:Bool} {z:V} {c:Cap} {l ys:List V} {y:V} {loc:Option Loc} {aB:Nat} {P:Program} (h1:gN P t=some e) (h2:bq P e=some sz) (h3:nG P e=some cu) (h4:fZ P e=some ag) (h5:fK P e=some z)
 (h6:z.cells.length=sz) (h7:0<sz) (h8:(ag||sz==1)=true) (hy:jo σ ag sz z y=some ys) (hi:qX y=false) (ho:ys.all (fun v=>aW v.cells)=true) (hr:eD (l.length+ys.length) cu=true) (hh:kT sz l=true):
 gH P false false σ aB loc t (.aj c l) y=match c with
  |.own n s=>if n=sz∧σ.top s=l.length then some (.aj (.own n s) (l++ys),σ.bK s (l.length+ys.length)) else none
  |.nil|.full=>some (.aj (.own sz aB) (l++ys),σ.bK aB (l.length+ys.length))
  |_=>none:=by
 unfold gH
 simp only[h1,h2,h3,h4,h5,Option.bind_some,hi,hy,ho,if_true]
 rw[if_pos ⟨trivial,h6,h7,h8⟩]
 simp only[hr,hh,and_self,if_true]
 cases c<;>rfl
theorem adZ {d:Option Nat} {t u:TypeId} {x y:TV R.T} {v w:V} {r:dh R} {aB:Nat} {loc:Option Loc} {o:Oper} (h:CY E R d t u x y st=some r) (hx:Rl R ρ σ.top x v) (hy:Rl R ρ σ.top y w) (hi:aG ρ aB st fr σ)
 (ho:∀y σ',gH E.P false false σ aB loc t v w=some (y,σ')→j6 E fr σ aB o y σ'):qc E st ρ aB fr σ o r:=by
 unfold CY at h
 split at h
 ·rename_i d
  split at h
  ·rename_i e τ sz cu he
   obtain⟨z,e1,e2,e3,e4,e5,e6,e7,e8,e9⟩:=Ih he
   ·obtain⟨hss,h⟩:=cB h
    split at h
    ·rename_i tk l l' hd hs
     cases h
     intro hroom
     subst e6
     obtain⟨g1,g2⟩:=NG hR (ag:=gD τ) (z:=z) (σ:=σ) hs hy
     have hlen:eD ((l.map (aF R τ)).length+(l'.map (aF R τ)).length) cu=true:=by rw[List.length_map,List.length_map];exact hroom
     have hap:∀c,gH E.P false false σ aB loc t (.aj c (l.map (aF R τ))) w=_:=fun c=>adY hR (σ:=σ) (c:=c) (loc:=loc) (aB:=aB) e1 e2 e3 e4 e5 e9 e7 e8 g1 g2 (ND hR l') hlen (Dn hR l)
     have fresh:∀(c:Cap),(c= .nil∨c= .full)→v= .aj c (l.map (aF R τ))→∃x σ' ρ',j6 E fr σ aB o x σ'∧aG ρ' (aB+1) (st.wk tk) fr σ'∧σ'.next=σ.next∧Rl R ρ' σ'.top (.aj (.own tk) τ (l++l')) x∧∀p,o.dst≠some p→aS true p st ρ σ (st.wk tk) ρ' σ':=by
      intro c hc hv
      subst hv
      have:=hap c
      refine⟨.aj (.own (bL R τ) aB) (l.map (aF R τ)++l'.map (aF R τ)),σ.bK aB ((l.map (aF R τ)).length+(l'.map (aF R τ)).length),ρ.fP tk aB,ho _ _ (by rw[this];rcases hc with rfl|rfl<;>rfl), ?_,rfl, ?_, ?_⟩
      ·exact hi.wk tk aB _ (Nat.le_succ _) (Nat.lt_succ_self _) hi.nx (fun u _ hu=>by have:=hi.lt u _ hu;omega)
      ·unfold Rl
       exact⟨_,by rw[List.map_append],.inr (.inr ⟨aB,rfl,by simp[aK.fP,upd],by rw[CB];simp⟩)⟩
      ·exact fun p _=>aS.wk hi.nx
     unfold Tv at hd
     split at hd
     ·rename_i l0
      split at hd
      ·rename_i l1 hl1
       cases hd
       obtain⟨e,e2⟩:=p8 hl1;subst e;cases e2
       obtain⟨c',rfl,hc'⟩:=hx.jQ
       exact fresh c' (.inl hc') rfl
      ·cases hd
     ·rename_i l0
      split at hd
      ·rename_i l1 hl1
       cases hd
       obtain⟨e,e2⟩:=p8 hl1;subst e;cases e2
       obtain⟨c',rfl,hc'⟩:=hx.jQ
       exact fresh c' (.inr hc') rfl
      ·cases hd
     ·rename_i tk' τ' l0
      split at hd
      ·rename_i l1 hl1
       cases hd
       obtain⟨e,e2⟩:=p8 hl1;subst e;cases e2
       obtain⟨c',rfl,hc'⟩:=hx.jQ
       rcases hc' with hc'|hc'| ⟨s,hc',ht,hl⟩
       ·exact fresh c' (.inl hc') rfl
       ·exact fresh c' (.inr hc') rfl
       ·subst hc'
        have:=hap (.own (bL R τ') s)
        dsimp only at this
        rw[if_pos ⟨rfl,by rw[List.length_map];exact hl⟩] at this
        refine⟨_,_,ρ.fP tk s,ho _ _ this, ?_,rfl, ?_, ?_⟩
        ·exact hi.wk tk s _ (Nat.le_succ _) (by have:=hi.lt tk s ht;omega) (hi.ge tk s ht) (fun u hu h'=>hu (hi.inj u tk s h' ht))
        ·unfold Rl
         exact⟨_,by rw[List.map_append],.inr (.inr ⟨s,rfl,by simp[aK.fP,upd],by rw[CB];simp⟩)⟩
        ·exact fun p _=>aS.wk (hi.ge tk s ht)
      ·cases hd
     ·cases hd
      rw[hx.nY] at fresh
      have hx':=hx.nY
      subst hx'
      exact fresh .nil (.inl rfl) rfl
     ·cases hd
    ·cases h
  ·cases h
 ·cases h
omit hR in
theorem ad1 {t:TypeId} {x:TV R.T} {v:V} {n:Nat} (h:ML E t x st=some n) (hx:Rl R ρ σ.top x v) (hi:aG ρ b st fr σ):lH E σ t v=some n:=by
 unfold ML at h
 unfold lH
 split at h
 ·rename_i hu;cases h;obtain⟨c',rfl,_⟩:=hx.jQ;rw[hu];simp
 ·rename_i hu;cases h;rw[hx.nY,hu];rfl
 ·rename_i o t hu
  split at h
  ·rename_i t' l hl
   cases h
   have h1:=(hi.rd hl).1
   rcases hx.zY with ⟨s,_,rfl⟩| ⟨h0,rfl|rfl⟩
   ·rw[hu];dsimp only;rw[h1]
   ·rw[hu];dsimp only;rw[h1,h0];rfl
   ·rw[hu];dsimp only;rw[h1,h0];rfl
  ·cases h
 ·rename_i hu;cases h;rw[hx.lq,hu]
 ·rename_i o hu
  split at h
  ·rename_i k e m hl
   cases h
   obtain⟨s,h1,rfl⟩:=hx.tH
   obtain⟨s',h2,h3⟩:=hi.rd hl
   rw[h1] at h2;cases h2
   rw[hu];dsimp only;rw[h3];simp
  ·cases h
 ·rename_i hu;cases h;rw[hx.zX,hu];simp
 ·rename_i hu;cases h;unfold Rl at hx;subst hx;rw[hu]
 ·rename_i hu;cases h;rw[hu]
 ·cases h
omit hR in
theorem NH (mx:Bool):∀{l:List (TV R.T)} {x y:TV R.T} {v:V} {k:List V},zJ mx x l=some y→Rl R ρ top x v→au R ρ top l k→∃w,jL mx v k=some w∧Rl R ρ top y w
 | [],x,y,v,k,h,hx,hl=>by
   rw[hl.eX]
   unfold zJ at h;cases h
   exact⟨v,by cases v<;>rfl,hx⟩
 |z::l,x,y,v,k,h,hx,hl=>by
  obtain⟨w,ws,rfl,h1,h2⟩:=hl.dA
  unfold zJ at h
  split at h
  ·rename_i hz;cases hz
  ·rename_i k a k' b l' hz
   simp only[List.cons.injEq] at hz
   obtain⟨rfl,rfl⟩:=hz
   split at h
   ·rename_i e;subst e
    rw[hx.fE,h1.fE]
    unfold jL
    rw[if_pos rfl]
    refine NH mx h ?_ h2
    unfold Rl
    cases mx<;>rfl
   ·cases h
  ·cases h
omit hR in
theorem UK (c:Cp):∀(l:List Ty) (p:lK R.T l),(iU R c l p).length=l.length
 | [],_=>rfl
 | [_],_=>rfl
 |_::u::l,p=>by show (iU R c (u::l) p.2).length+1=_;rw[UK c (u::l)];rfl
omit hR in
theorem Ii (c:Cp) (t:Ty) (x:Den R.T t):(eU R c t x).cells.length=bL R t:=by
 cases t with
 |st n=>exact UK c _ _
 |_=>rfl
omit hR in
theorem Ij (t:Ty):∀l:List (Den R.T t),(l.flatMap fun x=>(eU R .any t x).cells).length=l.length*bL R t
 | []=>by simp
 |x::l=>by rw[List.flatMap_cons,List.length_append,Ii,Ij t l,List.length_cons,Nat.succ_mul];omega
omit hR in
theorem UL {α:Type}:∀{l:List α} {i:Nat} {x:α},l[i]? =some x→∃a b,l=a++x::b∧a.length=i
 | [],_,_,h=>by simp at h
 |y::l,0,x,h=>by simp at h;subst h;exact⟨[],l,rfl,rfl⟩
 |y::l,i+1,x,h=>by
  obtain⟨a,b,rfl,hl⟩:=UL (l:=l) (i:=i) (by simpa using h)
  exact⟨y::a,b,rfl,by simp[hl]⟩
omit hR in
theorem ad2 {α:Type} {l:List α} {i:Int} {x:α} (h:dx l i=some x):∃a b,l=a++x::b∧a.length=i.toNat∧0≤i:=by
 unfold dx at h
 split at h
 ·rename_i hi
  obtain⟨a,b,h1,h2⟩:=UL h
  exact⟨a,b,h1,h2,hi.1⟩
 ·cases h
omit hR in
theorem ad3 {ag:Bool} {n off:Nat} {pre el post:List (TV R.T)} {v:TV R.T} (h:GY ag n el off=some v):GY ag n (pre++el++post) (pre.length+off)=some v:=by
 cases ag with
 |true=>
  have h':(bif Nat.ble (off+n) el.length then some (TV.agg ((el.drop off).take n)) else none)=some v:=h
  obtain⟨hb,h'⟩:=cB h'
  have hle:=Nat.le_of_ble_eq_true hb
  show (bif Nat.ble (pre.length+off+n) (pre++el++post).length then some (TV.agg (((pre++el++post).drop (pre.length+off)).take n)) else none)=some v
  have hb':Nat.ble (pre.length+off+n) (pre++el++post).length=true:=Nat.ble_eq_true_of_le (by simp;omega)
  rw[hb',cond_true,←h']
  congr 2
  have e1:(pre++el++post).drop (pre.length+off)=(el++post).drop off:=by
   rw[List.append_assoc,List.drop_append,List.drop_eq_nil_of_le (by omega)]
   simp
  rw[e1,List.drop_append,List.take_append]
  have e2:n-(el.drop off).length=0:=by simp;omega
  rw[e2];simp
 |false=>
  have h':el[off]? =some v:=h
  show (pre++el++post)[pre.length+off]? =some v
  have hlt:off<el.length:=by rw[List.getElem?_eq_some_iff] at h';exact h'.1
  rw[List.append_assoc,List.getElem?_append_right (by omega),Nat.add_sub_cancel_left,List.getElem?_append_left hlt]
  exact h'
omit hR in
theorem ad4 {t:TypeId} {off:Nat} {pre el post:List (TV R.T)} {v:TV R.T} (h:jG E t el off=some v):jG E t (pre++el++post) (pre.length+off)=some v:=by
 unfold jG at h⊢
 cases h1:fZ E.P t with
 |none=>simp only[h1] at h;cases h
 |some a=>
  cases h2:bq E.P t with
  |none=>simp only[h1,h2] at h;cases h
  |some n=>simp only[h1,h2] at h⊢;exact ad3 h
omit hR in
theorem ad5 {t:TypeId} {off:Nat} {cs cs':List (TV R.T)} (hl:cs.length=cs'.length) (h:(jG E t cs off).isSome=true):∃v,jG E t cs' off=some v:=by
 unfold jG at h⊢
 cases h1:fZ E.P t with
 |none=>simp only[h1] at h;cases h
 |some a=>
  cases h2:bq E.P t with
  |none=>simp only[h1,h2] at h;cases h
  |some n=>
   simp only[h1,h2] at h⊢
   cases a with
   |true=>
    have h':(bif Nat.ble (off+n) cs.length then some (TV.agg ((cs.drop off).take n)) else none).isSome=true:=h
    cases hb:Nat.ble (off+n) cs.length
    ·rw[hb] at h';cases h'
    ·exact⟨.agg ((cs'.drop off).take n),by show (bif Nat.ble (off+n) cs'.length then _ else _)=_;rw[←hl,hb];rfl⟩
   |false=>
    have h':cs[off]?.isSome=true:=h
    have hlt:off<cs'.length:=by rw[←hl];simpa using h'
    exact⟨cs'[off],List.getElem?_eq_getElem hlt⟩
omit hR in
theorem UM {o s:Nat} {τ:Ty} {l:List (Den R.T τ)} {i:Int} {y:Den R.T τ} (hO:dL ρ σ o (.arr τ l)) (hs:ρ.ob o=some s) (hy:dx l i=some y):
 ∃a b cs,l=a++y::b∧a.length=i.toNat∧σ.bC (ρ.om.lc o) s=some cs∧au R ρ σ.top ((a.flatMap fun x=>(eU R .any τ x).cells)++(eU R .any τ y).cells++b.flatMap fun x=>(eU R .any τ x).cells) cs∧(a.flatMap fun x=>(eU R .any τ x).cells).length=i.toNat*bL R τ:=by
 obtain⟨a,b,rfl,h1,h2⟩:=ad2 hy
 rcases hO.2 with h| ⟨s',cs,h3,h4,h5⟩
 ·exact absurd h.1 (by simp)
 ·rw[hs] at h3;cases h3
  refine⟨a,b,cs,rfl,h1,h4, ?_,by rw[Ij,h1]⟩
  rw[List.flatMap_append,List.flatMap_cons] at h5
  rw[List.append_assoc];exact h5
omit hR in
theorem ad6 {t:TypeId} {o s off:Nat} {τ:Ty} {i:Int} {ob:Ob R.T} {r:dh R} (h:MP E R t τ i off ob=some r) (hO:dL ρ σ o ob) (hs:ρ.ob o=some s):∃(l:List (Den R.T τ)) (f:Den R.T τ→TV R.T),r= .p (Den R.T τ) (zk R τ) (dx l i) f∧
 ∀y,dx l i=some y→∃cs w,σ.bC (ρ.om.lc o) s=some cs∧dD E.P t cs (i.toNat*bL R τ+off)=some w∧Rl R ρ σ.top (f y) w:=by
 unfold MP at h
 split at h
 ·rename_i τ' l0
  split at h
  ·rename_i l1 hl
   obtain⟨e,e2⟩:=p8 hl;subst e;cases e2
   obtain⟨hb,h⟩:=cB h
   cases h
   refine⟨l0,_,rfl,fun y hy=> ?_⟩
   obtain⟨a,b,cs,h1,h2,h3,h4,h5⟩:=UM hO hs hy
   obtain⟨v,hv⟩:=ad5 (cs':=(eU R .any τ' y).cells) (by rw[Ii,Ii]) hb
   have:=ad4 (pre:=a.flatMap fun x=>(eU R .any τ' x).cells) (post:=b.flatMap fun x=>(eU R .any τ' x).cells) hv
   rw[h5] at this
   obtain⟨w,hw,hr⟩:=tQ h4 this
   exact⟨cs,w,h3,hw,by rw[hv];exact hr⟩
  ·cases h
 ·cases h
theorem ad7 {τ:Ty} {cs:List (TV R.T)} {x:Den R.T τ} {vs:List V} (h:MQ R τ cs=some x) (hr:au R ρ top cs vs):au R ρ top (eU R .any τ x).cells vs:=by
 have one:∀(t:Ty) (x:Den R.T t),l8 t=true→nS R t (hd1 R cs)=some x→au R ρ top [uW R .any t x] vs:=by
  intro t x ht h
  cases cs with
  |nil=>cases t<;>cases h
  |cons c cs=>
   cases cs with
   |nil=>
    obtain⟨v,l,rfl,h1,h2⟩:=hr.dA
    rw[h2.eX]
    exact .cons' (xD hR h h1) rfl
   |cons c' cs=>cases t<;>cases h
 cases τ with
 |st n=>
  have:=Dj hR (t:=.st n) (show mW R (.st n) (.agg cs)=some x from h) (v:=.agg vs) (by unfold Rl;exact⟨vs,rfl,hr⟩)
  obtain⟨l,e,hl⟩:=Rl.jA this
  cases e;exact hl
 |int k=>exact one (.int k) x rfl h
 |bool=>exact one .bool x rfl h
 |str=>exact one .str x rfl h
 |slice t=>exact one (.slice t) x rfl h
omit hR in
theorem ad8 {α:Type} (pre el post vs:List α) (off:Nat) (h:off+vs.length≤el.length):(pre++el++post).take (pre.length+off)++vs++(pre++el++post).drop (pre.length+off+vs.length)=pre++(el.take off++vs++el.drop (off+vs.length))++post:=by
 have e1:(pre++el++post).take (pre.length+off)=pre++el.take off:=by
  rw[List.append_assoc,List.take_append,List.take_of_length_le (by omega),Nat.add_sub_cancel_left,List.take_append,Nat.sub_eq_zero_of_le (by omega)]
  simp
 have e2:(pre++el++post).drop (pre.length+off+vs.length)=el.drop (off+vs.length)++post:=by
  rw[List.append_assoc,List.drop_append,List.drop_eq_nil_of_le (by omega),show pre.length+off+vs.length-pre.length=off+vs.length by omega,List.drop_append,Nat.sub_eq_zero_of_le (by omega)]
  simp
 rw[e1,e2]
 simp
theorem ad9 {o s off:Nat} {τ:Ty} {i:Int} {l:List (Den R.T τ)} {y y':Den R.T τ} {vc:List (TV R.T)} {vl:List V} (hO:dL ρ σ o (.arr τ l)) (hs:ρ.ob o=some s) (hy:dx l i=some y) (hv:au R ρ σ.top vc vl) (hle:off+vc.length≤bL R τ)
 (hu:MQ R τ (zA (eU R .any τ y).cells off vc)=some y'):∃cs,σ.bC (ρ.om.lc o) s=some cs∧i.toNat*bL R τ+off+vl.length≤cs.length∧au R ρ σ.top ((w9 l i y').flatMap fun x=>(eU R .any τ x).cells) (eB cs (i.toNat*bL R τ+off) vl)∧(w9 l i y').length=l.length:=by
 obtain⟨a,b,cs,rfl,h2,h3,h4,h5⟩:=UM hO hs hy
 obtain⟨p1,post,rfl,g1,g2⟩:=h4.split
 obtain⟨pre,el,rfl,g3,g4⟩:=g1.split
 have l1:pre.length=i.toNat*bL R τ:=by rw[g3.length,h5]
 have l2:el.length=bL R τ:=by rw[g4.length,Ii]
 have l3:=hv.length
 refine⟨_,h3, ?_, ?_, ?_⟩
 ·rw[List.length_append,List.length_append];omega
 ·have e:w9 (a++y::b) i y'=a++y'::b:=by
   unfold w9
   rw[←h2,List.set_append_right _ _ (Nat.le_refl _),Nat.sub_self];rfl
  rw[e,List.flatMap_append,List.flatMap_cons,←List.append_assoc]
  have e2:eB (pre++el++post) (i.toNat*bL R τ+off) vl=pre++eB el off vl++post:=by
   unfold eB
   rw[←l1];exact ad8 pre el post vl off (by omega)
  rw[e2]
  exact(g3.append (ad7 hR hu (Nu off g4 hv))).append g2
 ·unfold w9;rw[List.length_set]
theorem aea (τ:Ty) (x:Den R.T τ):au R ρ top (eU R .any τ x).cells (aF R τ x).cells:=by
 refine(rO ?_ (H6 hR .any (.inl rfl) τ x)).1
 cases τ<;>rfl
theorem Ai (τ:Ty):∀l:List (Den R.T τ),au R ρ top (l.flatMap fun x=>(eU R .any τ x).cells) ((l.map (aF R τ)).flatMap V.cells)
 | []=>rfl
 |x::l=>by
  rw[List.map_cons,List.flatMap_cons,List.flatMap_cons]
  exact(aea hR τ x).append (Ai τ l)
theorem aeb {t e:TypeId} {sz cu:Nat} {ag:Bool} {z:V} {ys:List V} {x y:V} {loc:Option Loc} {aB:Nat} {P:Program} (h1:gN P t=some e) (h2:bq P e=some sz) (h3:nG P e=some cu) (h4:fZ P e=some ag) (h5:fK P e=some z)
 (h6:z.cells.length=sz) (h7:0<sz) (h8:(ag||sz==1)=true) (hy:jo σ ag sz z y=some ys) (hi:qX y=false) (ho:ys.all (fun v=>aW v.cells)=true):
 gH P true false σ aB loc t x y=match x with
  |.aj c l=>if eD (l.length+ys.length) cu=true∧kT sz l=true then
     match c with
     |.nil=>loc.map fun loc=>(.vw loc aB 0 (l.length+ys.length) (l.length+ys.length) sz ag,σ.setObj loc aB (.cells ((l++ys).flatMap V.cells)))
     |.full=>if ys.isEmpty then some (.aj .full l,σ) else loc.map fun loc=>(.vw loc aB 0 (l.length+ys.length) (l.length+ys.length) sz ag,σ.setObj loc aB (.cells ((l++ys).flatMap V.cells)))
     |_=>none else none
  |.vw gI s off len cap aR _=>
   if eD (len+ys.length) cu=true∧off=0∧aR=sz then
    loc.bind fun loc=>(σ.bC gI s).bind fun cs=>
     if len+ys.length≤cap then
      if (len+ys.length)*sz≤cs.length then
       some (.vw gI s 0 (len+ys.length) cap sz ag,σ.setObj gI s (.cells (eB cs (len*sz) (ys.flatMap V.cells))))
      else none
     else if len*sz≤cs.length then
      some (.vw loc aB 0 (len+ys.length) (len+ys.length) sz ag,(σ.jJ gI).setObj loc aB (.cells (cs.take (len*sz)++ys.flatMap V.cells)))
     else none
   else none
  |_=>none:=by
 unfold gH
 simp only[h1,h2,h3,h4,h5,Option.bind_some,hi,hy,ho,if_true]
 rw[if_pos ⟨trivial,h6,h7,h8⟩]
 cases x<;>try rfl
 ·rename_i c l
  cases c<;>rfl
 ·simp only[true_and]
omit hR in
theorem aS.Ni {o q s n:Nat} {x:Ob R.T} {a:fJ} (hne:q≠o):aS true q st ρ σ (st.new o x) (ρ.xC o s n) (σ.setObj (ρ.om.lc o) s a):=⟨(Nh q hne).1,(Nh q hne).2,rfl,Nat.le_refl _,⟨fun _ _=>rfl,fun _ _=>rfl⟩,fun _ _ hL=>Nr hL,(aS.new (nr:=true) (ρ:=ρ) (s:=s) (a:=a) hne).ro⟩
omit hR in
theorem aS.del {o q:Nat} {y:Ob R.T} (hl:look st.ob o=some y) (hy:mX y=false):aS true q st ρ σ (st.del o) ρ (σ.jJ (ρ.om.lc o)):=⟨rfl,rfl,rfl,Nat.le_refl _,⟨fun _ _=>rfl,fun _ _=>rfl⟩,fun _ _ hL=>adF hL,fun hr=>by
 have hne:q≠o:=by rintro rfl;rw[hr y hl] at hy;cases hy
 refine⟨fun z hz=> ?_,fun s'=> ?_⟩
 ·have hz':look (gB o st.ob) q=some z:=hz
  rw[nZ hne] at hz'
  exact hr z hz'
 ·unfold ah.bC ah.eP;rw[TY σ hne];exact⟨rfl,rfl⟩⟩
omit hR in
theorem aS.del' {o q:Nat} {y:Ob R.T} (hl:look st.ob o=some y) (hy:mX y=false):aS true q st ρ σ (st.del o) ρ σ:=⟨rfl,rfl,rfl,Nat.le_refl _,⟨fun _ _=>rfl,fun _ _=>rfl⟩,fun _ _ _=>rfl,fun hr=>by
 have hne:q≠o:=by rintro rfl;rw[hr y hl] at hy;cases hy
 refine⟨fun z hz=> ?_,fun s'=>⟨rfl,rfl⟩⟩
 have hz':look (gB o st.ob) q=some z:=hz
 rw[nZ hne] at hz'
 exact hr z hz'⟩
omit hR in
theorem NI {α:Type} {p:Nat}:∀l:List (Nat×α),look (gB p l) p=none
 | []=>rfl
 | (j,x)::l=>by
   unfold gB
   cases hj:Nat.beq j p
   ·show (bif Nat.beq j p then some x else look (gB p l) p)=none
    rw[hj];exact NI l
   ·exact NI l
omit hR in
theorem aG.del' (h:aG ρ b st fr σ) (o:Nat):aG ρ b (st.del o) fr σ:={h with
 ob:=fun p y hy=>by
  by_cases e:p=o
  ·subst e
   have:look (gB p st.ob) p=some y:=hy
   rw[NI] at this;cases this
  ·have hy':look (gB o st.ob) p=some y:=hy
   rw[nZ e] at hy'
   exact h.ob p y hy'
 fr:=h.fr}
omit hR in
theorem Aj {d aB:Nat} {τ:Ty} {l:List (Den R.T τ)} {L:List V} {st0:MS R.T} {σ0:ah} {o:Oper} {v:V} {σ1:ah} (hd:o.dst=some d) (hi:aG ρ (aB+1) st0 fr σ0) (hk:∀p,aS true p st ρ σ st0 ρ σ0) (hn:σ0.next=σ.next) (hL:au R ρ σ0.top (l.flatMap fun x=>(eU R .any τ x).cells) L)
 (hs:j6 E fr σ aB o v σ1) (hv:v= .vw (ρ.om.lc d) aB 0 l.length l.length (bL R τ) (gD τ)) (h1:σ1=σ0.setObj (ρ.om.lc d) aB (.cells L)):∃x σ' ρ',j6 E fr σ aB o x σ'∧aG ρ' (aB+1) (st0.new d (.arr τ l)) fr σ'∧σ'.next=σ.next∧Rl R ρ' σ'.top (.vw d τ) x∧∀p,o.dst≠some p→aS true p st ρ σ (st0.new d (.arr τ l)) ρ' σ':=by
 subst hv;subst h1
 refine⟨_,_,ρ.xC d aB l.length,hs,hi.Ni d aB l.length ⟨(Di (ρ:=ρ.j5 d aB)).symm,.inr ⟨aB,L,qb (ρ:=ρ),rC _ _ _ _,tJ l L hL⟩⟩,hn, ?_,fun p hp=> ?_⟩
 ·unfold Rl
  exact .inl ⟨aB,qb (ρ:=ρ),by rw[show (ρ.xC d aB l.length).ln d=l.length from Di (ρ:=ρ.j5 d aB)];rfl⟩
 ·have hne:p≠d:=fun e=>hp (by rw[hd,e])
  exact(hk p).trans (aS.Ni hne)
theorem aec {d:Option Nat} {t u:TypeId} {x y:TV R.T} {v w:V} {r:dh R} {aB:Nat} {o:Oper} (h:CZ E R d t u x y st=some r) (hx:Rl R ρ σ.top x v) (hy:Rl R ρ σ.top y w) (hi:aG ρ aB st fr σ) (hd:o.dst=d)
 (ho:∀y σ',gH E.P true false σ aB (d.map fun t=>(ρ.om.lc t)) t v w=some (y,σ')→j6 E fr σ aB o y σ'):qc E st ρ aB fr σ o r:=by
 have hi1:=hi.le (Nat.le_succ aB)
 unfold CZ at h
 split at h
 ·rename_i d
  split at h
  ·rename_i e τ sz cu he
   obtain⟨z,e1,e2,e3,e4,e5,e6,e7,e8,e9⟩:=Ih he
   obtain⟨hss,h⟩:=cB h
   split at h
   ·rename_i l' hs
    subst e6
    obtain⟨g1,g2⟩:=NG hR (ag:=gD τ) (z:=z) (σ:=σ) hs hy
    have hap:=fun x=>aeb hR (σ:=σ) (x:=x) (loc:=some (ρ.om.lc d)) (aB:=aB) e1 e2 e3 e4 e5 e9 e7 e8 g1 g2 (ND hR l')
    split at h
    ·rename_i p τ0 _
     split at h
     ·rename_i e0
      subst e0
      split at h
      ·rename_i τ' l0 hl
       split at h
       ·rename_i a l1 l2 hl2
        obtain⟨e,e2'⟩:=p8 hl2;subst e;cases e2'
        cases h
        intro hroom
        have hO:=hi.ob _ _ hl
        have hlen:l0.length=ρ.ln p:=hO.1
        have hnr:mX (Ob.arr τ' l0)=false:=rfl
        have hne:¬((a::l1).map (aF R τ')).isEmpty=true:=by simp
        rcases hx.zY with ⟨s,k1,rfl⟩| ⟨k1,k2⟩
        ·rcases hO.2 with hO2| ⟨s',cs,k3,k4,k5⟩
         ·rw[k1] at hO2;exact absurd hO2.2 (by simp)
         ·rw[k1] at k3;cases k3
          have:=hap (.vw (ρ.om.lc p) s 0 (ρ.ln p) (ρ.ln p) (bL R τ') (gD τ'))
          dsimp only at this
          have hlc:cs.length=l0.length*bL R τ':=by rw[k5.length,Ij]
          rw[if_pos ⟨by rw[List.length_map,←hlen];exact hroom,rfl,rfl⟩] at this
          simp only[Option.bind_some,k4] at this
          rw[if_neg (by rw[List.length_map,List.length_cons];omega),if_pos (by rw[hlc,hlen];exact Nat.le_refl _)] at this
          refine Aj (σ0:=σ.jJ (ρ.om.lc p)) (L:=cs.take (ρ.ln p*bL R τ')++((a::l1).map (aF R τ')).flatMap V.cells) hd (hi1.del p) (fun q=>aS.del hl hnr) rfl ?_ (ho _ _ this) ?_ rfl
          ·rw[List.flatMap_append,List.take_of_length_le (by rw[hlc,hlen];exact Nat.le_refl _)]
           exact au.append k5 (Ai hR _ _)
          ·rw[List.length_map,List.length_append,hlen]
        ·have hl0:l0=[]:=List.eq_nil_of_length_eq_zero (by omega)
         subst hl0
         have hroom':eD (([]:List V).length+((a::l1).map (aF R τ')).length) cu=true∧kT (bL R τ') ([]:List V)=true:=⟨by rw[List.length_map];exact hroom,rfl⟩
         rcases k2 with rfl|rfl
         ·have:=hap (.aj .nil [])
          dsimp only at this
          rw[if_pos hroom'] at this
          refine Aj (σ0:=σ) hd (hi1.del' p) (fun q=>aS.del' hl hnr) rfl (Ai hR _ _) (ho _ _ this) ?_ rfl
          simp
         ·have:=hap (.aj .full [])
          dsimp only at this
          rw[if_pos hroom',if_neg hne] at this
          refine Aj (σ0:=σ) hd (hi1.del' p) (fun q=>aS.del' hl hnr) rfl (Ai hR _ _) (ho _ _ this) ?_ rfl
          simp
       ·cases h
      ·cases h
     ·cases h
    ·obtain⟨hE,h⟩:=cB h
     cases h
     intro hroom
     have hroom':eD (([]:List V).length+(l'.map (aF R τ)).length) cu=true∧kT (bL R τ) ([]:List V)=true:=⟨by rw[List.length_map,List.length_nil,Nat.zero_add];exact hroom,rfl⟩
     rcases Uq (fr:=fr) hE (.of hx) with rfl|rfl
     ·have:=hap (.aj .nil [])
      dsimp only at this
      rw[if_pos hroom'] at this
      refine Aj (σ0:=σ) hd hi1 (fun q=>.refl) rfl (Ai hR _ _) (ho _ _ this) ?_ rfl
      simp
     ·have:=hap (.aj .full [])
      dsimp only at this
      rw[if_pos hroom'] at this
      by_cases hne:((l'.map (aF R τ)).isEmpty)=true
      ·rw[if_pos hne] at this
       have hl':l'=[]:=by simpa using hne
       subst hl'
       refine⟨_,_,ρ.gh d,ho _ _ this,hi1.ghost d τ,rfl,by unfold Rl;exact .inr ⟨Di (ρ:=ρ) (n:=0),.inr rfl⟩,fun p hp=> ?_⟩
       have NJ:p≠d:=fun e=>hp (by rw[hd,e])
       exact⟨(Ac p NJ).1,(Ac p NJ).2,rfl,Nat.le_refl _,⟨fun _ _=>rfl,fun _ _=>rfl⟩,fun _ _ _=>rfl,fun hr=>⟨((aS.new (nr:=true) (ρ:=ρ) (σ:=σ) (s:=0) (a:=.cells []) NJ).ro hr).1,fun _=>⟨rfl,rfl⟩⟩⟩
      ·rw[if_neg hne] at this
       refine Aj (σ0:=σ) hd hi1 (fun q=>.refl) rfl (Ai hR _ _) (ho _ _ this) ?_ rfl
       simp
   ·cases h
  ·cases h
 ·cases h
omit hR in
theorem UN {α β:Type} (f:α→List β) (x:α):∀n,(List.replicate n x).flatMap f=(List.replicate n (f x)).flatten
 |0=>rfl
 |n+1=>by rw[List.replicate_succ,List.replicate_succ,List.flatMap_cons,List.flatten_cons,UN f x n]
omit hR in
theorem UO {ts:List (TV R.T)} {vs:List V} (h:au R ρ top ts vs):∀n,au R ρ top (List.replicate n ts).flatten (List.replicate n vs).flatten
 |0=>rfl
 |n+1=>by rw[List.replicate_succ,List.replicate_succ,List.flatten_cons,List.flatten_cons];exact h.append (UO h n)
theorem aed {om:Bool} {d:Option Nat} {t:TypeId} {x y:TV R.T} {v w:V} {r:dh R} {aB:Nat} {o:Oper} (h:MK E R om d t x y st=some r) (hx:Rl R ρ σ.top x v) (hy:Rl R ρ σ.top y w) (hi:aG ρ aB st fr σ) (hd:o.dst=d)
 (ho:∀y σ',qx E.P om σ aB (d.map fun t=>(ρ.om.lc t)) t v w=some (y,σ')→j6 E fr σ aB o y σ'):qc E st ρ aB fr σ o r:=by
 have hi1:=hi.le (Nat.le_succ aB)
 unfold MK at h
 split at h
 ·rename_i d e τ sz cu k n k' m he
  obtain⟨z0,e1,e2,e3,e4,e5,e6,e7,e8,e9⟩:=Ih he
  split at h
  ·rename_i z hz
   split at h
   ·rename_i x0 hx0
    obtain⟨zv,z1,z2⟩:=Af (ρ:=ρ) (top:=σ.top) hz
    rw[e5] at z1;cases z1
    rw[hx.fE,hy.fE] at ho
    have mk:0≤n→n≤m→m≤2^47→eD m.toNat cu=true→qx E.P om σ aB ((some d).map fun t=>(ρ.om.lc t)) t (.int k n) (.int k' m)=if n=0∧om=false then some (.aj (.own sz aB) [],σ.bK aB 0) else some (.vw (ρ.om.lc d) aB 0 n.toNat m.toNat sz (gD τ),σ.setObj (ρ.om.lc d) aB (.cells (List.replicate m.toNat z0.cells).flatten)):=by
     intro h1 h2 h3 h4
     unfold qx
     simp only[e1,e2,e3,e5,Option.bind_some,kD]
     rw[if_pos ⟨h1,h2,h4,h3,e9⟩]
     split
     ·rfl
     ·simp only[Option.map_some,Option.bind_some,e4]
    cases om with
    |true=>
     cases h
     intro hc
     rw[Bool.and_eq_true] at hc
     obtain⟨c1,c2,c3⟩:=of_decide_eq_true hc.1
     subst c2
     have:=mk c1 (Int.le_refl _) c3 hc.2
     rw[if_neg (by simp)] at this
     subst e6
     refine Aj (σ0:=σ) hd hi1 (fun q=>.refl) rfl ?_ (ho _ _ this) ?_ rfl
     ·rw[UN]
      refine UO ?_ _
      have hzc:au R ρ σ.top (eU R .any τ x0).cells z0.cells:=by
       have h1:=Dj hR hx0 z2
       refine(rO ?_ h1).1
       cases τ<;>rfl
      exact hzc
     ·rw[List.length_replicate]
    |false=>
     cases h
     intro hc
     rw[Bool.and_eq_true] at hc
     obtain⟨c1,c2,c3⟩:=of_decide_eq_true hc.1
     subst c1
     have:=mk (Int.le_refl _) c2 c3 hc.2
     rw[if_pos ⟨rfl,rfl⟩] at this
     refine⟨_,_,ρ.fP d aB,ho _ _ this,hi.wk d aB _ (Nat.le_succ _) (Nat.lt_succ_self _) hi.nx (fun u _ hu=>by have:=hi.lt u _ hu;omega),rfl, ?_,fun p _=>aS.wk hi.nx⟩
     unfold Rl
     exact⟨_,rfl,.inr (.inr ⟨aB,by rw[e6],by simp[aK.fP,upd],by rw[CB];rfl⟩)⟩
   ·cases h
  ·cases h
 ·cases h
theorem aee {om:Bool} {t:TypeId} {p:Nat} {τ:Ty} {y:TV R.T} {v w:V} {r:dh R} (h:MO E R t p τ y st=some r) (hx:Rl R ρ σ.top (.vw p τ) v) (hy:Rl R ρ σ.top y w) (hi:aG ρ b st fr σ):nC ρ σ.top (lG E.P t v w) r:=by
 unfold MO at h
 split at h
 ·rename_i e k n hu
  split at h
  ·rename_i sz hs
   obtain⟨hb,h⟩:=cB h
   split at h
   ·rename_i τ' l hl
    cases h
    have:=dB hb;subst this
    rw[hy.fE]
    intro hc
    have hc':=of_decide_eq_true hc
    have hlen:=(hi.rd hl).1
    rcases hx.zY with ⟨s,k1,rfl⟩| ⟨h0,_⟩
    ·refine⟨.ref (ρ.om.lc p) s (n.toNat*bL R τ), ?_,by unfold Rl;exact⟨s,k1,hc'.1,rfl⟩⟩
     unfold lG
     rw[hu]
     simp only[hs,Option.bind_some,idx,kD]
     rw[if_pos ⟨hc'.1,by rw[←hlen];exact hc'.2⟩]
     simp
    ·rw[hlen,h0] at hc';omega
   ·cases h
  ·cases h
 ·cases h
end
end Aq
end
section
namespace Aq
open Go
set_option linter.unusedSectionVars false
set_option linter.unusedVariables false
section
variable {R:gy} {E:Env}
variable {ρ:aK} {top:Nat→Nat} {b:Nat} {st:MS R.T} {fr:Fr} {σ:ah}
theorem NK {n:Nat} {f:Nat} (a b:List V):aL (n+2) σ (.fn (.func f) a b)=(a.mapM (aL (n+1) σ)).bind fun a=>(b.mapM (aL (n+1) σ)).map fun b=>.fn (.func f) a b:=by
 by_cases hp:aD (.fn (.func f) a b)=true
 ·rw[ji hp]
  have:∀cs:List V,aP cs=true→cs.mapM (aL (n+1) σ)=some cs:=by
   intro cs
   induction cs with
   |nil=>intro _;rfl
   |cons a l ih=>
    intro h
    simp only[aP,Bool.and_eq_true] at h
    rw[List.mapM_cons,ji h.1,ih h.2];rfl
  simp only[aD,Bool.and_eq_true] at hp
  rw[this a hp.1,this b hp.2];rfl
 ·conv=>lhs;unfold aL
  simp only[hp,if_false,Bool.false_eq_true]
theorem UQ {n:Nat} {off:Nat} (cs:List V):aL (n+2) σ (.aI cs off)=(cs.mapM (aL (n+1) σ)).map (.aI · off):=by
 by_cases hp:aD (.aI cs off)=true
 ·rw[ji hp]
  have:∀cs:List V,aP cs=true→cs.mapM (aL (n+1) σ)=some cs:=by
   intro cs
   induction cs with
   |nil=>intro _;rfl
   |cons a l ih=>
    intro h
    simp only[aP,Bool.and_eq_true] at h
    rw[List.mapM_cons,ji h.1,ih h.2];rfl
  rw[this cs (by simpa [aD] using hp)];rfl
 ·conv=>lhs;unfold aL
  simp only[hp,if_false,Bool.false_eq_true]
variable (hR:l9 R)
include hR
theorem NM {k e:Ty} (m:List (Den R.T k×Den R.T e)):aD (.bR (m.map fun p=>aF R k p.1) (m.map fun p=>aF R e p.2))=true:=by
 simp only[aD,Bool.and_eq_true]
 have h1:∀m:List (Den R.T k×Den R.T e),aP (m.map fun p=>aF R k p.1)=true∧aP (m.map fun p=>aF R e p.2)=true:=by
  intro m
  induction m with
  |nil=>exact⟨rfl,rfl⟩
  |cons p m ih=>exact⟨by simp[aP,nu hR,ih.1],by simp[aP,nu hR,ih.2]⟩
 exact h1 m
theorem UR:∀(t:Ty) (x:Den R.T t) (v:V),l8 t=true→Rl R ρ top (uW R .any t x) v→∀n σ,aL (n+2) σ v=some (aF R t x)
 |.int k,x,v,_,h,n,σ=>by rw[Rl.fE (R:=R) h];exact Mh (n+1) _ _
 |.bool,x,v,_,h,n,σ=>by rw[Rl.o7 (R:=R) h];exact Mi (n+1) _
 |.str,x,v,_,h,n,σ=>by rw[Rl.lq (R:=R) h];exact Mj (n+1) _
 |.slice t,x,v,_,h,n,σ=>by
  obtain⟨c,rfl,_⟩:=Rl.jQ (R:=R) h
  exact uU _ _ (nu hR _)
 |.st n,_,_,h,_,_,_=>by simp[l8] at h
theorem Ak:∀(l:List Ty) (p:lK R.T l) (vs:List V),l.all l8=true→au R ρ top (iU R .any l p) vs→∀n σ,vs.mapM (aL (n+2) σ)=some (encs R l p)
 | [],_,vs,_,h,n,σ=>by rw[au.eX h];rfl
 | [t],x,vs,hl,h,n,σ=>by
   obtain⟨v,l,rfl,h1,h2⟩:=au.dA h
   rw[au.eX h2,List.mapM_cons,UR hR t x v (by simpa using hl) h1];rfl
 |t::u::l,p,vs,hl,h,n,σ=>by
  rw[List.all_cons,Bool.and_eq_true] at hl
  obtain⟨v,ws,rfl,h1,h2⟩:=au.dA h
  rw[List.mapM_cons,UR hR t p.1 v hl.1 h1,Ak (u::l) p.2 ws hl.2 h2];rfl
theorem aef (t:Ty) (x:Den R.T t) (vs:List V) (h:au R ρ top (eU R .any t x).cells vs) (n:Nat) (σ:ah):vs.mapM (aL (n+2) σ)=some (aF R t x).cells:=by
 cases t with
 |st k=>
  have he:aF R (.st k) x= .agg (encs R (R.lf k) (R.of k x)):=hR.enc k x
  rw[he]
  exact Ak hR _ _ vs (hR.leaf k) h n σ
 |int k=>exact Ak hR [.int k] x vs rfl h n σ
 |bool=>exact Ak hR [.bool] x vs rfl h n σ
 |str=>exact Ak hR [.str] x vs rfl h n σ
 |slice t=>exact Ak hR [.slice t] x vs rfl h n σ
theorem UU {t:Ty} {ρ:aK} {top:Nat→Nat}:∀(l:List (Den R.T t)) (cs:List V),au R ρ top (l.flatMap fun x=>(eU R .any t x).cells) cs→∀(n:Nat) (σ:ah),cs.mapM (aL (n+2) σ)=some ((l.map (aF R t)).flatMap V.cells)
 | [],cs,h,n,σ=>by rw[au.eX h];rfl
 |x::l,cs,h,n,σ=>by
  rw[List.flatMap_cons] at h
  obtain⟨a,b,rfl,h1,h2⟩:=h.split
  rw[List.mapM_append,UU l b h2 n σ,List.map_cons,List.flatMap_cons]
  have:a.mapM (aL (n+2) σ)=some (aF R t x).cells:=aef hR t x a h1 n σ
  rw[this];rfl
theorem aeg {t:Ty} (l:List (Den R.T t)):chunks (gD t) (bL R t) l.length ((l.map (aF R t)).flatMap V.cells)=l.map (aF R t):=by
 have:=NC (gD t) (bL R t) (l.map (aF R t)) (fun v hv=>by
  obtain⟨x,_,rfl⟩:=List.mem_map.1 hv
  exact(Ah hR t x).1)
 rw[List.length_map] at this
 rw[this,List.map_map]
 refine List.map_congr_left fun x _=> ?_
 show (if gD t then V.agg (aF R t x).cells else (aF R t x).cells.headD aA)=aF R t x
 cases hs:gD t
 ·cases t<;>first|rfl| (simp[gD] at hs;done)
 ·obtain⟨c,hc⟩:=(Ah hR t x).2.2.2.1 hs
  rw[hc];rfl
theorem aeh {t:Ty} (l:List (Den R.T t)):(gD t||bL R t==1&& aW ((l.map (aF R t)).flatMap V.cells))=true:=by
 cases hs:gD t
 ·have h1:bL R t=1:=by cases t<;>first|rfl| (simp[gD] at hs;done)
  rw[h1]
  have:aW ((l.map (aF R t)).flatMap V.cells)=true:=by
   have:=ND hR l
   unfold aW at this⊢
   rw[List.all_flatMap]
   exact this
  rw[this];rfl
 ·rfl
omit hR in
theorem UW:∀(a b:List V),aP (a++b)=(aP a&& aP b)
 | [],b=>by simp[aP]
 |x::a,b=>by simp only[List.cons_append,aP];rw[UW a b,Bool.and_assoc]
omit hR in
theorem Ik (k:IntKind):∀l:List Int,aP (l.map (V.int k))=true
 | []=>by simp[aP]
 |x::l=>by simp only[List.map_cons,aP,Mk,Bool.true_and];exact Ik k l
omit hR in
theorem NP:∀ss:List Sg,aP (bn ss)=true
 | []=>by simp[bn,aP]
 |.i k x::ss=>by show aP (V.int k x::bn ss)=true;unfold aP;rw[NP ss];simp[aD]
 |.a k n v::ss=>by
  show aP (v.l.map (V.int k)++bn ss)=true
  rw[UW,Ik,NP ss];rfl
omit hR in
theorem NR (ss:List Sg):aD (.agg (bn ss))=true:=by unfold aD;exact NP ss
omit hR in
theorem UY:∀(a b:List V),iG (a++b)=(iG a&& iG b)
 | [],b=>by simp[iG]
 |x::a,b=>by simp only[List.cons_append,iG];rw[UY a b,Bool.and_assoc]
omit hR in
theorem UZ (k:IntKind):∀l:List Int,iG (l.map (V.int k))=true
 | []=>by simp[iG]
 |x::l=>by simp only[List.map_cons,iG,flat,Bool.true_and];exact UZ k l
omit hR in
theorem Il:∀ss:List Sg,iG (bn ss)=true
 | []=>by simp[bn,iG]
 |.i k x::ss=>by show iG (V.int k x::bn ss)=true;unfold iG;rw[Il ss];simp[flat]
 |.a k n v::ss=>by
  show iG (v.l.map (V.int k)++bn ss)=true
  rw[UY,UZ,Il ss];rfl
omit hR in
theorem aei (ss:List Sg):er (.agg (bn ss))= .agg (bn ss):=by
 have:∀ss:List Sg,(bn ss).map eY=bn ss:=by
  intro ss
  induction ss with
  |nil=>rfl
  |cons s ss ih=>
   cases s with
   |i k x=>show eY (.int k x)::(bn ss).map eY=_;rw[ih];rfl
   |a k n v=>
    show (v.l.map (V.int k)++bn ss).map eY=_
    rw[List.map_append,ih,List.map_map];rfl
 show V.agg ((bn ss).map eY)=_
 rw[this]
omit hR in
theorem og:∀(a b:List Sg),bn (a++b)=bn a++bn b
 | [],b=>rfl
 |s::a,b=>by show s.vs++bn (a++b)=s.vs++bn a++bn b;rw[og a b,List.append_assoc]
omit hR in
theorem Sg.len:∀s:Sg,s.vs.length=s.w
 |.i _ _=>rfl
 |.a _ n v=>by show (v.l.map _).length=n;rw[List.length_map,v.h]
omit hR in
theorem fI:∀ss:List Sg,(bn ss).length=iB ss
 | []=>rfl
 |s::ss=>by show (s.vs++bn ss).length=s.w+iB ss;rw[List.length_append,s.len,fI ss]
omit hR in
theorem qP:∀{ss:List Sg} {n:Nat} {a b:List Sg},mY ss n=some (a,b)→ss=a++b∧iB a=n
 |ss,0,a,b,h=>by
  have h':some (([]:List Sg),ss)=some (a,b):=by cases ss<;>exact h
  cases h';exact⟨rfl,rfl⟩
 | [],n+1,a,b,h=>by cases h
 |s::ss,n+1,a,b,h=>by
  unfold mY at h
  obtain⟨h1,h⟩:=cB h
  split at h
  ·rename_i a' b' h2
   cases h
   obtain⟨e,hw⟩:=qP h2
   have:=Nat.le_of_ble_eq_true h1
   refine⟨by rw[e];rfl, ?_⟩
   show s.w+iB a'=n+1
   omega
  ·cases h
omit hR in
theorem NS {ρ:aK} {top:Nat→Nat} {k:IntKind}:∀{cs:List (TV R.T)} {xs:List Int} {vs:List V},wV k cs=some xs→au R ρ top cs vs→vs=xs.map (V.int k)
 | [],xs,vs,h,hr=>by cases h;exact hr.eX
 |c::cs,xs,vs,h,hr=>by
  obtain⟨v,ws,rfl,h1,h2⟩:=hr.dA
  cases c<;>first| (exact absurd (show none=some xs from h) (by simp))|skip
  rename_i k' x
  have h':(if k'=k then (match wV k cs with
   |some xs=>some (x::xs)
   |none=>none) else none)=some xs:=h
  split at h'
  ·rename_i e;subst e
   split at h'
   ·rename_i ys hy
    cases h'
    rw[h1.fE,NS hy h2];rfl
   ·cases h'
  ·cases h'
omit hR in
theorem U0 (k:IntKind):∀(l:List Int) (rest:List V),chunks false 1 l.length (l.map (V.int k)++rest)=l.map (V.int k)
 | [],rest=>rfl
 |x::l,rest=>by
  show V.int k x::chunks false 1 l.length (l.map (V.int k)++rest)=_
  rw[U0 k l rest];rfl
omit hR in
theorem xG {n:Nat} {lo hi:Option Int} (h:l7 n lo hi=true):(bY lo).toNat≤(fC n hi).toNat∧(fC n hi).toNat≤n∧((bY lo).toNat< (fC n hi).toNat∨(bY lo).toNat=0)∧0≤bY lo∧bY lo≤fC n hi:=by
 cases lo<;>cases hi<;>simp only[l7,bY,fC,decide_eq_true_eq] at h⊢ <;>omega
omit hR in
theorem aej {α:Type} {n:Nat} {lo hi:Option Int} (h:l7 n lo hi=true) {l:List α} (hl:l.length=n):zq l lo hi=(l.drop (bY lo).toNat).take ((fC n hi).toNat-(bY lo).toNat):=by
 obtain⟨h1,h2,_⟩:=xG h
 cases lo<;>cases hi<;>simp only[zq,bY,fC] at*
 ·simp[hl];rw[List.take_of_length_le (by omega)]
 ·simp
 ·rw[List.take_of_length_le];rw[List.length_drop];omega
 ·rw[List.take_drop];congr 1;congr 1;omega
theorem U1 (hi:aG ρ b st fr σ) {o off n:Nat} {k:IntKind} {lo hi':Option Int} {l:List Int} (h:GU st o off k n lo hi'=some l) {s:Nat} (hs:ρ.ob o=some s) (hB:l7 n lo hi'=true):
 ∃cs,σ.bC (ρ.om.lc o) s=some cs∧off+n≤cs.length∧(cs.drop (off+(bY lo).toNat)).take ((fC n hi').toNat-(bY lo).toNat)=l.map (V.int k)∧l.length=(fC n hi').toNat-(bY lo).toNat:=by
 obtain⟨p1,p2,p3,_,_⟩:=xG hB
 have fin:∀(cs:List V) (xs:List Int),xs.length=n→(cs.drop off).take n=xs.map (V.int k)→off+n≤cs.length→l=zq xs lo hi'→(cs.drop (off+(bY lo).toNat)).take ((fC n hi').toNat-(bY lo).toNat)=l.map (V.int k)∧l.length=(fC n hi').toNat-(bY lo).toNat:=by
  intro cs xs hx hc hle hl
  rw[aej hB hx] at hl
  subst hl
  constructor
  ·rw[List.map_take,List.map_drop,←hc,List.drop_take,List.take_take,List.drop_drop]
   congr 1
   omega
  ·rw[List.length_take,List.length_drop];omega
 unfold GU at h
 split at h
 ·rename_i ss hl
  obtain⟨s',h1,h2⟩:=hi.rd hl
  rw[hs] at h1;cases h1
  split at h
  ·rename_i pre k' n' v post hsp
   by_cases e:k'=k
   ·subst e
    rw[if_pos rfl] at h
    cases e2:Nat.beq n' n
    ·rw[e2] at h;cases h
    rw[e2] at h
    have e2:=dB e2
    subst e2
    obtain rfl:zq v.l lo hi'=l:=Option.some.inj h
    obtain⟨e3,hw⟩:=qP hsp
    refine⟨_,h2, ?_, ?_⟩
    ·rw[e3,fI]
     have:∀a b:List Sg,iB (a++b)=iB a+iB b:=fun a b=>by rw[←fI,og,List.length_append,fI,fI]
     rw[this,hw]
     show off+n'≤off+(n'+iB post);omega
    ·refine fin _ v.l v.h ?_ ?_ rfl
     ·rw[e3,og,List.drop_append_of_le_length (by rw[fI,hw];exact Nat.le_refl _),List.drop_of_length_le (by rw[fI,hw];exact Nat.le_refl _),List.nil_append]
      show ((v.l.map (V.int k'))++bn post).take n'=_
      rw[List.take_append_of_le_length (by rw[List.length_map,v.h];exact Nat.le_refl _),List.take_of_length_le (by rw[List.length_map,v.h];exact Nat.le_refl _)]
     ·rw[e3,og,List.length_append,fI,hw,fI]
      show off+n'≤off+(n'+iB post);omega
   ·rw[if_neg e] at h;cases h
  ·cases h
 ·rename_i cs hl
  obtain⟨s',vs,h1,h2,h3⟩:=hi.rd hl
  rw[hs] at h1;cases h1
  obtain⟨hb,h⟩:=cB h
  have hb:=Nat.le_of_ble_eq_true hb
  split at h
  ·rename_i xs hx
   cases h
   have hv:=NS hx ((h3.drop off).take n)
   have hlen:off+n≤vs.length:=by rw[h3.length];exact hb
   refine⟨vs,h2,hlen,fin vs xs ?_ hv hlen rfl⟩
   have:=congrArg List.length hv
   rw[List.length_map,List.length_take,List.length_drop] at this
   omega
  ·cases h
 ·cases h
theorem U2 (hi:aG ρ b st fr σ) {x:TV R.T} {v:V} (h:Rl R ρ σ.top x v):∃v',Rl R ρ σ.top (rE st x) v'∧∀n,aL (n+3) σ v=aL (n+3) σ v':=by
 by_cases hx:∃o off,x= .ref o off
 ·obtain⟨o,off,rfl⟩:=hx
  unfold rE
  dsimp only
  split
  ·rename_i cs hl
   obtain⟨s,h1,rfl⟩:=h.nk
   obtain⟨s',l,h2,h3,h4⟩:=hi.rd hl
   rw[h1] at h2;cases h2
   refine⟨.aI l off,by unfold Rl;exact⟨l,rfl,h4⟩,fun n=> ?_⟩
   rw[UQ]
   conv=>lhs;unfold aL
   simp only[aD,Bool.false_eq_true,if_false,h3,Option.bind_some]
  ·exact⟨v,h,fun _=>rfl⟩
 ·by_cases hy:∃o,x= .bB o
  ·obtain⟨o,rfl⟩:=hy
   unfold rE
   dsimp only
   split
   ·rename_i k e m hl
    obtain⟨s,h1,rfl⟩:=h.tH
    obtain⟨s',h2,h3⟩:=hi.rd hl
    rw[h1] at h2;cases h2
    refine⟨.bR (m.map fun p=>aF R k p.1) (m.map fun p=>aF R e p.2),by unfold Rl;rfl,fun n=> ?_⟩
    have hp:=NM hR m
    rw[ji hp]
    have hp':=hp
    simp only[aD,Bool.and_eq_true] at hp'
    have key:∀cs:List V,aP cs=true→cs.mapM (aL (n+2) σ)=some cs:=by
     intro cs
     induction cs with
     |nil=>intro _;rfl
     |cons a l ih=>
      intro h
      simp only[aP,Bool.and_eq_true] at h
      rw[List.mapM_cons,ji h.1,ih h.2];rfl
    conv=>lhs;unfold aL
    simp only[aD,Bool.false_eq_true,if_false,h3,Option.bind_some,key _ hp'.1,key _ hp'.2,Option.map_some]
   ·exact⟨v,h,fun _=>rfl⟩
  ·by_cases hz:∃o t,x= .vw o t
   ·obtain⟨o,t,rfl⟩:=hz
    unfold rE
    dsimp only
    split
    ·rename_i t' l hl
     split
     ·rename_i e
      subst e
      have hO:=hi.rd hl
      refine⟨.aj .sh (l.map (aF R t')),by unfold Rl;exact⟨.sh,rfl,rfl⟩,fun n=> ?_⟩
      rw[uU _ _ (nu hR t')]
      rcases h.zY with ⟨s,h1,rfl⟩| ⟨h1,h2⟩
      ·rcases hO.2 with h2| ⟨s',cs,h2,h3,h4⟩
       ·rw[h1] at h2;exact absurd h2.2 (by simp)
       ·rw[h1] at h2;cases h2
        have hlc:cs.length=l.length*bL R t':=by rw[h4.length,Ij]
        have hlen:l.length=ρ.ln o:=hO.1
        conv=>lhs;unfold aL
        simp only[aD,Bool.false_eq_true,if_false,h3,Option.bind_some,Nat.zero_add,List.drop_zero]
        rw[if_pos (by rw[hlc,hlen];exact Nat.le_refl _),List.take_of_length_le (by rw[hlc,hlen];exact Nat.le_refl _),UU hR l cs h4 n σ]
        simp only[Option.bind_some]
        rw[←hlen,aeg hR l,aeh hR l,if_pos rfl]
        rfl
      ·have hl0:l=[]:=List.eq_nil_of_length_eq_zero (hO.1.trans h1)
       subst hl0
       rcases h2 with rfl|rfl<;>exact uU _ ([]:List (Den R.T t')) (nu hR t')
     ·exact⟨v,h,fun _=>rfl⟩
    ·exact⟨v,h,fun _=>rfl⟩
   ·by_cases hz2:∃o off k n lo hi,x= .sv o off k n lo hi
    ·obtain⟨o,off,k,n,lo,hi',rfl⟩:=hz2
     unfold rE
     dsimp only
     split
     ·rename_i l hl
      obtain⟨s,h1,hB,rfl⟩:=h.vF
      obtain⟨cs,c1,c2,c3,c4⟩:=U1 hR hi hl h1 hB
      obtain⟨p1,p2,p3,_,_⟩:=xG hB
      refine⟨.aj .sh (l.map (V.int k)),by unfold Rl;exact⟨.sh,rfl,rfl⟩,fun m=> ?_⟩
      have hcl:aL (m+3) σ (.aj .sh (l.map (V.int k)))=some (.aj .sh (l.map (V.int k))):=ji (by unfold aD;exact Ik k l)
      rw[hcl]
      conv=>lhs;unfold aL
      simp only[aD,Bool.false_eq_true,if_false,c1,Option.bind_some,Nat.mul_one]
      rw[if_pos (by omega),c3]
      have key:∀cs:List V,aP cs=true→cs.mapM (aL (m+2) σ)=some cs:=by
       intro cs
       induction cs with
       |nil=>intro _;rfl
       |cons a l ih=>
        intro h
        simp only[aP,Bool.and_eq_true] at h
        rw[List.mapM_cons,ji h.1,ih h.2];rfl
      rw[key _ (Ik k l)]
      simp only[Option.bind_some]
      have hone:aW (l.map (V.int k))=true:=by unfold aW;rw[List.all_map];simp[oneCell]
      rw[hone,←c4]
      have:=U0 k l []
      rw[List.append_nil] at this
      rw[this];rfl
     ·exact⟨v,h,fun _=>rfl⟩
    ·have:rE st x=x:=by cases x<;>first|rfl|exact absurd ⟨_,_,rfl⟩ hx|exact absurd ⟨_,rfl⟩ hy|exact absurd ⟨_,_,rfl⟩ hz|exact absurd ⟨_,_,_,_,_,_,rfl⟩ hz2
     rw[this];exact⟨v,h,fun _=>rfl⟩
theorem Im (hi:aG ρ b st fr σ):∀{x:List (TV R.T)} {v:List V},au R ρ σ.top x v→∃v',au R ρ σ.top (CP st x) v'∧∀n,v.mapM (aL (n+3) σ)=v'.mapM (aL (n+3) σ)
 | [],v,h=>by rw[h.eX];exact⟨[],rfl,fun _=>rfl⟩
 |x::xs,v,h=>by
  obtain⟨w,ws,rfl,h1,h2⟩:=h.dA
  obtain⟨w',a1,a2⟩:=U2 hR hi h1
  obtain⟨ws',b1,b2⟩:=Im hi h2
  exact⟨w'::ws',.cons' a1 b1,fun n=>by rw[List.mapM_cons,List.mapM_cons,a2,b2]⟩
theorem aek (hi:aG ρ b st fr σ) {x:TV R.T} {v:V} (h:Rl R ρ σ.top x v):∃v',Rl R ρ σ.top (wW st x) v'∧∀n,aL (n+4) σ v=aL (n+4) σ v':=by
 by_cases hx:∃f a b,x= .fn f a b
 ·obtain⟨f,a,b,rfl⟩:=hx
  obtain⟨a',b',rfl,ha,hb⟩:=h.mg
  obtain⟨va,a1,a2⟩:=Im hR hi ha
  obtain⟨vb,b1,b2⟩:=Im hR hi hb
  refine⟨.fn (.func f) va vb,⟨va,vb,rfl,a1,b1⟩,fun n=> ?_⟩
  rw[NK,NK,a2,b2]
 ·by_cases hy:∃cs,x= .agg cs
  ·obtain⟨cs,rfl⟩:=hy
   obtain⟨l,rfl,hl⟩:=h.jA
   obtain⟨v',a1,a2⟩:=Im hR hi hl
   refine⟨.agg v',by unfold wW;unfold Rl;exact⟨v',rfl,a1⟩,fun n=> ?_⟩
   rw[Nc,Nc,a2]
  ·have:wW st x=rE st x:=by cases x<;>first|rfl|exact absurd ⟨_,_,_,rfl⟩ hx|exact absurd ⟨_,rfl⟩ hy
   rw[this]
   obtain⟨v',h1,h2⟩:=U2 hR hi h
   exact⟨v',h1,fun n=>h2 (n+1)⟩
theorem Dp (hi:aG ρ b st fr σ):∀{x:List (TV R.T)} {v:List V},au R ρ σ.top x v→∃v',au R ρ σ.top (l6 st x) v'∧∀n,v.mapM (aL (n+4) σ)=v'.mapM (aL (n+4) σ)
 | [],v,h=>by rw[h.eX];exact⟨[],rfl,fun _=>rfl⟩
 |x::xs,v,h=>by
  obtain⟨w,ws,rfl,h1,h2⟩:=h.dA
  obtain⟨w',a1,a2⟩:=aek hR hi h1
  obtain⟨ws',b1,b2⟩:=Dp hi h2
  exact⟨w'::ws',.cons' a1 b1,fun n=>by rw[List.mapM_cons,List.mapM_cons,a2,b2]⟩
mutual
theorem U3:∀(k:Sk) (x:oO R.T k) (tv:TV R.T) (v:V),jZ k=true→pk R k tv=some x→Rl R ρ top tv v→∀n σ,dep k≤n→aL n σ v=some (encS R k x)
 |.d t,x,tv,v,_,h,hr,n,σ,hn=>by
  obtain⟨m,rfl⟩:∃m,n=m+3:=⟨n-3,by have:3≤n:=hn;omega⟩
  exact(Nf hR (show mW R t tv=some x from h) hr).2.2.1 m σ
 |.l c t,x,tv,v,_,h,hr,n,σ,hn=>by
  obtain⟨m,rfl⟩:∃m,n=m+3:=⟨n-3,by have:3≤n:=hn;omega⟩
  obtain⟨c',rfl,_⟩:=(Ug (show GX R c t tv=some x from h) hr).jQ
  exact uU _ _ (nu hR _)
 |.agg l,x,tv,v,hc,h,hr,n,σ,hn=>by
  cases tv<;>first| (exact absurd (show none=some x from h) (by simp))|skip
  rename_i cs
  obtain⟨vs,rfl,hl⟩:=hr.jA
  unfold dep at hn
  obtain⟨m,rfl⟩:∃m,n=m+2:=⟨n-2,by omega⟩
  rw[Te,qd l x cs vs (by unfold jZ at hc;exact hc) h hl (m+1) σ (by omega)];rfl
 |.aI l off,x,tv,v,hc,h,hr,n,σ,hn=>by
  cases tv<;>first| (exact absurd (show none=some x from h) (by simp))|skip
  rename_i cs off'
  have h':(bif Nat.beq off' off then fB R l cs else none)=some x:=h
  obtain⟨hb,h'⟩:=cB h'
  rw[dB hb] at hr
  obtain⟨vs,rfl,hl⟩:=hr.rM
  unfold dep at hn
  obtain⟨m,rfl⟩:∃m,n=m+2:=⟨n-2,by omega⟩
  rw[UQ,qd l x cs vs (by unfold jZ at hc;exact hc) h' hl (m+1) σ (by omega)];rfl
 |.bR k e,x,tv,v,_,h,hr,n,σ,hn=>by
  cases tv<;>first| (exact absurd (show none=some x from h) (by simp))|skip
  rename_i k' e' m
  obtain⟨e1,e2,e3⟩:=Nk (show zx R m=some x from h)
  subst e1;subst e2;cases e3
  obtain⟨m',rfl⟩:∃m,n=m+3:=⟨n-3,by have:3≤n:=hn;omega⟩
  rw[hr.zX]
  exact ji (NM hR m)
 |.fn f a b,x,tv,v,hc,h,hr,n,σ,hn=>by
  cases tv<;>first| (exact absurd (show none=some x from h) (by simp))|skip
  rename_i f' a' b'
  have h':(bif Nat.beq f' f then (match fB R a a' with
   |some x=>match fB R b b' with
    |some y=>some (x,y)
    |none=>none
   |none=>none) else none)=some x:=h
  obtain⟨hb,h'⟩:=cB h'
  rw[dB hb] at hr
  obtain⟨va,vb,rfl,ha,hbb⟩:=hr.mg
  unfold jZ at hc
  rw[Bool.and_eq_true] at hc
  unfold dep at hn
  obtain⟨m,rfl⟩:∃m,n=m+2:=⟨n-2,by omega⟩
  cases h1:fB R a a' with
  |none=>simp only[h1] at h';cases h'
  |some y=>
   cases h2:fB R b b' with
   |none=>simp only[h1,h2] at h';cases h'
   |some z=>
    simp only[h1,h2] at h';cases h'
    rw[NK,qd a y a' va hc.1 h1 ha (m+1) σ (by omega),qd b z b' vb hc.2 h2 hbb (m+1) σ (by omega)];rfl
 |.ref _ _,_,_,_,h,_,_,_,_,_=>by simp[jZ] at h
 |.bB _,_,_,_,h,_,_,_,_,_=>by simp[jZ] at h
 |.d9,_,_,_,h,_,_,_,_,_=>by simp[jZ] at h
 |.vw _ _,_,_,_,h,_,_,_,_,_=>by simp[jZ] at h
 |.sg l,x,tv,v,_,h,hr,n,σ,hn=>by
  cases tv<;>first| (exact absurd (show none=some x from h) (by simp))|skip
  rename_i ss
  obtain⟨m,rfl⟩:∃m,n=m+1:=⟨n-1,by have:3≤n:=hn;omega⟩
  rw[hr.Df]
  show _=some (V.agg (bn (qK l x)))
  rw[H9 (show sV l ss=some x from h)]
  exact ji (NR ss)
 |.undef,_,_,_,h,_,_,_,_,_=>by simp[jZ] at h
theorem qd:∀(l:List Sk) (x:aH R.T l) (cs:List (TV R.T)) (vs:List V),gT l=true→fB R l cs=some x→au R ρ top cs vs→∀n σ,mZ l≤n→vs.mapM (aL n σ)=some (bf R l x)
 | [],x,cs,vs,_,h,hr,n,σ,hn=>by
   cases cs with
   |nil=>rw[hr.eX];rfl
   |cons c cs=>exact absurd (show none=some x from h) (by simp)
 | [k],x,cs,vs,hc,h,hr,n,σ,hn=>by
   unfold gT at hc
   rw[Bool.and_eq_true] at hc
   unfold mZ at hn
   cases cs with
   |nil=>exact absurd (show none=some x from h) (by simp)
   |cons c cs=>
    cases cs with
    |nil=>
     obtain⟨v,l,rfl,h1,h2⟩:=hr.dA
     rw[h2.eX,List.mapM_cons,U3 k x c v hc.1 h h1 n σ (by omega)];rfl
    |cons c' cs=>exact absurd (show none=some x from h) (by simp)
 |k::k'::l,x,cs,vs,hc,h,hr,n,σ,hn=>by
  unfold gT at hc
  rw[Bool.and_eq_true] at hc
  unfold mZ at hn
  cases cs with
  |nil=>exact absurd (show none=some x from h) (by simp)
  |cons c cs=>
   have h':(match pk R k c with
    |some x=>match fB R (k'::l) cs with
     |some p=>some (x,p)
     |none=>none
    |none=>none)=some x:=h
   obtain⟨v,vs,rfl,h1,h2⟩:=hr.dA
   cases hu:pk R k c with
   |none=>simp only[hu] at h';cases h'
   |some y=>
    cases hs:fB R (k'::l) cs with
    |none=>simp only[hu,hs] at h';cases h'
    |some q=>
     simp only[hu,hs] at h'
     obtain rfl:=Option.some.inj h'
     rw[List.mapM_cons,U3 k y c v hc.1 hu h1 n σ (by omega),qd (k'::l) q cs vs hc.2 hs h2 n σ (by omega)];rfl
end
mutual
theorem Io:∀(tv:TV R.T) (v:V),jw tv=true→Rl R ρ top tv v→aD v=true
 |.int _ _,v,_,h=>by rw[h.fE];exact Mk _ _
 |.bool _,v,_,h=>by rw[h.o7];exact Ml _
 |.fO _,v,_,h=>by rw[h.qN];exact Ml _
 |.str _,v,_,h=>by rw[h.lq];exact SX _
 |.eH,v,_,h=>by unfold Rl at h;subst h;simp[aD]
 |.dY,v,_,h=>by unfold Rl at h;subst h;simp[aD]
 |.dQ,v,_,h=>by unfold Rl at h;subst h;simp[aD]
 |.fG,v,_,h=>by unfold Rl at h;subst h;simp[aD]
 |.aj c t l,v,hs,h=>by
  cases c<;>simp only[jw,Bool.false_eq_true] at hs
  obtain⟨c',rfl,hc⟩:=h.jQ
  obtain rfl:c'= .sh:=hc
  exact CG (nu hR t) l
 |.agg cs,v,hs,h=>by
  obtain⟨l,rfl,hl⟩:=h.jA
  unfold aD;exact vI cs l (by unfold jw at hs;exact hs) hl
 |.aZ cs,v,hs,h=>by
  obtain⟨l,rfl,hl⟩:=h.HY
  unfold aD;exact vI cs l (by unfold jw at hs;exact hs) hl
 |.bR k e m,v,_,h=>by rw[h.zX];exact NM hR m
 |.fn f a b,v,hs,h=>by
  obtain⟨a',b',rfl,ha,hb⟩:=h.mg
  unfold jw at hs
  rw[Bool.and_eq_true] at hs
  unfold aD;rw[vI a a' hs.1 ha,vI b b' hs.2 hb];rfl
 |.d9,_,hs,_=>by simp[jw] at hs
 |.ref _ _,_,hs,_=>by simp[jw] at hs
 |.aI cs off,v,hs,h=>by
  obtain⟨l,rfl,hl⟩:=h.rM
  unfold aD;exact vI cs l (by unfold jw at hs;exact hs) hl
 |.vw _ _,_,hs,_=>by simp[jw] at hs
 |.jk _ _ _ _,_,hs,_=>by simp[jw] at hs
 |.sg ss,v,_,h=>by rw[h.Df];exact NR ss
 |.sv _ _ _ _ _ _,_,hs,_=>by simp[jw] at hs
 |.sel _ _ _ _ _ _,_,hs,_=>by simp[jw] at hs
 |.oN _ _ _ _,_,hs,_=>by simp[jw] at hs
 |.bB _,_,hs,_=>by simp[jw] at hs
 |.opt _ _ _,_,hs,_=>by simp[jw] at hs
 |.undef,_,hs,_=>by simp[jw] at hs
 |.gone,_,hs,_=>by simp[jw] at hs
theorem vI:∀(l:List (TV R.T)) (vs:List V),nT l=true→au R ρ top l vs→aP vs=true
 | [],vs,_,h=>by rw[h.eX];rfl
 |x::l,vs,hs,h=>by
  obtain⟨v,ws,rfl,h1,h2⟩:=h.dA
  unfold nT at hs
  rw[Bool.and_eq_true] at hs
  unfold aP;rw[Io x v hs.1 h1,vI l ws hs.2 h2];rfl
end
theorem U4 {x:TV R.T} {v:V} (hs:CQ x=true) (h:Rl R ρ top x v):aD (eY v)=true:=by
 have key:jw x=true→aD (eY v)=true:=fun hs=>by
  have:=Io hR x v hs h
  cases v with
  |aj c l=>cases c<;>simp[aD] at this<;>simpa [eY,aD] using this
  |_=>exact this
 cases x<;>first|exact key hs|skip
 ·rw[h.nY];simp[eY,aD,aP]
 ·obtain⟨c',rfl,hc⟩:=h.jQ
  exact CG (nu hR _) _
theorem U5:∀{x:List (TV R.T)} {v:List V},GV x=true→au R ρ top x v→aP (v.map eY)=true
 | [],vs,_,h=>by rw[h.eX];rfl
 |x::l,vs,hs,h=>by
  obtain⟨v,ws,rfl,h1,h2⟩:=h.dA
  unfold GV at hs
  rw[Bool.and_eq_true] at hs
  rw[List.map_cons];unfold aP;rw[U4 hR hs.1 h1,U5 hs.2 h2];rfl
theorem ael {x:TV R.T} {v:V} (hs:Tm x=true) (h:Rl R ρ top x v):aD (er v)=true:=by
 by_cases hx:∃cs,x= .agg cs
 ·obtain⟨cs,rfl⟩:=hx
  obtain⟨l,rfl,hl⟩:=h.jA
  show aD (.agg (l.map eY))=true
  unfold aD;exact U5 hR hs hl
 ·by_cases hy:∃ss,x= .sg ss
  ·obtain⟨ss,rfl⟩:=hy
   rw[h.Df,aei];exact NR ss
  have hs':CQ x=true:=by cases x<;>first|exact hs|exact absurd ⟨_,rfl⟩ hx
  have h1:=U4 hR hs' h
  have hne:∀cs,v≠ .agg cs:=by
   rintro cs rfl
   cases x<;>first|exact hy ⟨_,rfl⟩| (unfold Rl at h;simp at h;done)|exact hx ⟨_,rfl⟩| (simp[CQ,jw] at hs';done)
  rw[adp hne];exact h1
theorem Dq:∀{x:List (TV R.T)} {v:List V},u6 x=true→au R ρ top x v→v.all (fun a=>aD (er a))=true
 | [],vs,_,h=>by rw[h.eX];rfl
 |x::l,vs,hs,h=>by
  obtain⟨v,ws,rfl,h1,h2⟩:=h.dA
  unfold u6 at hs
  rw[Bool.and_eq_true] at hs
  rw[List.all_cons,ael hR hs.1 h1,Dq hs.2 h2];rfl
theorem NT:∀(l:List Sk) (x:aH R.T l),zu l=true→iG (bf R l x)=true
 | [],x,_=>rfl
 | [k],x,h=>by
   cases k<;>simp only[zu,Bool.and_true,Bool.false_eq_true] at h
   ·rename_i t
    show (flat (aF R t x)&& iG [])=true
    cases t<;>simp only[MC,Bool.false_eq_true] at h<;>rfl
   ·rename_i ks
    show (flat (.agg (bn (qK ks x)))&& iG [])=true
    unfold flat;rw[Il];rfl
 |k::k'::l,x,h=>by
  cases k<;>simp only[zu,Bool.false_eq_true] at h
  ·rename_i t
   rw[Bool.and_eq_true] at h
   show (flat (aF R t x.1)&& iG (bf R (k'::l) x.2))=true
   rw[NT (k'::l) x.2 h.2]
   have:=h.1
   cases t<;>simp only[MC,Bool.false_eq_true] at this<;>rfl
  ·rename_i ks
   show (flat (.agg (bn (qK ks x.1)))&& iG (bf R (k'::l) x.2))=true
   rw[NT (k'::l) x.2 h]
   unfold flat;rw[Il];rfl
omit hR in
theorem aem {vs:List V} (h:iG vs=true):flat (kZ vs)=true:=by
 match vs with
 | []=>simp[kZ,flat,iG]
 | [v]=>simp only[iG,Bool.and_true] at h;exact h
 |v::w::vs=>show flat (.aZ _)=true;unfold flat;exact h
mutual
theorem U6:∀(k:Sk) (x:oO R.T k),jZ k=true→Rl R ρ top (up R .sh k x) (encS R k x)
 |.d t,x,_=>TL hR t x
 |.l c t,x,h=>by
  refine⟨.sh,rfl, ?_⟩
  cases c<;>first|trivial|rfl| (simp[jZ] at h;done)
 |.agg l,x,h=>⟨_,rfl,tV l x (by unfold jZ at h;exact h)⟩
 |.aI l off,x,h=>⟨_,rfl,tV l x (by unfold jZ at h;exact h)⟩
 |.bR k e,x,_=>rfl
 |.fn f a b,x,h=>by
  unfold jZ at h
  rw[Bool.and_eq_true] at h
  exact⟨_,_,rfl,tV a x.1 h.1,tV b x.2 h.2⟩
 |.ref _ _,_,h=>by simp[jZ] at h
 |.bB _,_,h=>by simp[jZ] at h
 |.d9,_,h=>by simp[jZ] at h
 |.vw _ _,_,h=>by simp[jZ] at h
 |.sg l,x,_=>rfl
 |.undef,_,h=>by simp[jZ] at h
theorem tV:∀(l:List Sk) (x:aH R.T l),gT l=true→au R ρ top (iC R .sh l x) (bf R l x)
 | [],_,_=>rfl
 | [k],x,h=>by
   unfold gT at h
   rw[Bool.and_eq_true] at h
   exact .cons' (U6 k x h.1) rfl
 |k::k'::l,x,h=>by
  unfold gT at h
  rw[Bool.and_eq_true] at h
  exact .cons' (U6 k x.1 h.1) (tV (k'::l) x.2 h.2)
end
omit hR in
theorem aen {x:List (TV R.T)} {v:List V} (h:au R ρ top x v):Rl R ρ top (Tw R x) (kZ v):=by
 match x,h with
 | [],h=>rw[h.eX];exact⟨[],rfl,rfl⟩
 | [a],h=>
   obtain⟨v,vs,rfl,h1,h2⟩:=h.dA
   rw[h2.eX];exact h1
 |a::b::l,h=>
  obtain⟨v,vs,rfl,h1,h2⟩:=h.dA
  obtain⟨w,ws,rfl,h3,h4⟩:=h2.dA
  exact⟨_,rfl,.cons' h1 (.cons' h3 h4)⟩
def U7:List V→List V
 |_::l=>.aj .nil []::l
 | []=>[]
def bI (E:Env) (F:Nat→List (FR R)):Prop:=∀f,∀r∈F f,∀p x,r.F p=some x→(gT r.args=true→Pure E f (bf R r.args p) (kZ (bf R r.res x)))∧
 (r.own=true→∀(τ:Ty) (h:r.res=[.d (.slice τ)]) (l:List (Den R.T τ)),(h▸x:aH R.T [.d (.slice τ)])=l→
   (gT r.args=true→E.sK f=false∧mR E f (bf R r.args p) (bL R τ) (l.map (aF R τ)))∧
   (gT r.args=false→E.sK f=true∧mR E f (U7 (bf R r.args p)) (bL R τ) (l.map (aF R τ))))
theorem U8 {F:Nat→List (FR R)} (hF:bI E F) {f:Nat} {c:Call} {fo:Operand} {o:Oper} {aB:Nat} {a' b':List V} (ho:o.op= .call c) (fA:c.callee= .value fo) (hf:fr.ev E fo= .fn (.func f) a' b') (hi:E.imp f=false) {args:List (TV R.T)}
 (ha:au R ρ σ.top args (a'++c.args.toList.map (fr.ev E)++b')) (hi':aG ρ b st fr σ):∀{l:List (FR R)} {r:dh R},(∀x∈l,x∈F f)→findF R args (l6 st args) l=some r→qc E st ρ aB fr σ o r
 | [],r,_,h=>by cases h
 |q::l,r,hl,h=>by
  unfold findF at h
  split at h
  ·rename_i p hp
   obtain⟨hc,h⟩:=cB h
   cases h
   simp only[Bool.and_eq_true] at hc
   obtain⟨⟨⟨c1,c2⟩,c3⟩,c4⟩:=hc
   intro x hx
   have hP:=(hF f q (hl q (by simp)) p x hx).1 c1
   obtain⟨vs',v1,v2⟩:=Dp hR hi' ha
   have Dr:=qd hR q.args p (l6 st args) _ c1 hp v1 20 σ (by have:=Nat.le_of_ble_eq_true c2;omega)
   have has:=(v2 16).trans Dr
   have hcl:((a'++c.args.toList.map (fr.ev E)++b').all (fun x=>aD (er x))||flat (kZ (bf R q.res x)))=true:=by
    rw[Bool.or_eq_true] at c4⊢
    rcases c4 with c4|c4
    ·exact .inl (Dq hR c4 ha)
    ·exact .inr (aem (NT hR _ _ c4))
   exact⟨kZ (bf R q.res x),⟨fun dI _ _ _ hw h'=>OW.call hw ho fA hf hi has hP hcl h' (Ut ho fA hf dI),fun dI _ _ _ _ _ hw h'=>dJ.call hw ho fA hf hi has hP hcl h' (Ut ho fA hf dI)⟩,aen (tV hR _ _ c3)⟩
  ·exact U8 hF ho fA hf hi ha hi' (fun x hx=>hl x (by simp[hx])) h
theorem aeo {t:TypeId} {x i:TV R.T} {v w:V} {r:dh R} (h:MN E R t x i=some r) (hx:Rl R ρ top x v) (hi:Rl R ρ top i w):nC ρ top (lG E.P t v w) r:=by
 unfold MN at h
 split at h
 ·rename_i e c u l k n hu
  split at h
  ·rename_i sz hs
   obtain⟨hb,h⟩:=cB h
   cases h
   have:=dB hb;subst this
   obtain⟨c',rfl,_⟩:=hx.jQ
   rw[hi.fE]
   intro a ha
   refine⟨.aI (aF R u a).cells 0, ?_, ?_⟩
   ·rw[GH,if_pos (by unfold l5;rw[hu])]
    have:gN E.P t=some e:=by unfold gN;rw[hu]
    rw[this];simp only[Option.bind_some,hs,ha]
    rw[if_pos (Ah hR u a).1]
   ·unfold Rl
    refine⟨_,rfl,(rO ?_ (TL hR u a)).1⟩
    cases u<;>rfl
  ·cases h
 ·rename_i n e o off k m hu
  split at h
  ·rename_i sz hs
   cases h
   obtain⟨s,h1,rfl⟩:=hx.nk
   rw[hi.fE]
   intro hc
   have hc':0≤m∧m<n:=of_decide_eq_true hc
   refine⟨.ref (ρ.om.lc o) s (off+m.toNat*sz), ?_,by unfold Rl;exact⟨s,h1,rfl⟩⟩
   unfold lG;rw[hu];dsimp only;rw[hs]
   simp[idx,kD,hc']
  ·cases h
 ·rename_i n e cs off k m hu
  split at h
  ·rename_i sz hs
   cases h
   obtain⟨l,rfl,h1⟩:=hx.rM
   rw[hi.fE]
   intro hc
   have hc':0≤m∧m<n:=of_decide_eq_true hc
   refine⟨.aI l (off+m.toNat*sz), ?_,by unfold Rl;exact⟨l,rfl,h1⟩⟩
   unfold lG;rw[hu];dsimp only;rw[hs]
   simp[idx,kD,hc']
  ·cases h
 ·cases h
omit hR in
theorem aep {t:TypeId} {x i:TV R.T} {v w:V} {r:dh R} (h:MR E R t x i=some r) (hx:Rl R ρ top x v) (hi:Rl R ρ top i w):nC ρ top (sJ E.P t v w) r:=by
 unfold MR at h
 split at h
 ·rename_i s k n hu
  cases h
  rw[hx.lq,hi.fE]
  intro a ha
  refine⟨.int .u8 ((a.toNat:Nat):Int), ?_,by unfold Rl;rfl⟩
  rw[Tk (by unfold CJ;rw[hu]),ha];rfl
 ·cases h
end
end Aq
end
