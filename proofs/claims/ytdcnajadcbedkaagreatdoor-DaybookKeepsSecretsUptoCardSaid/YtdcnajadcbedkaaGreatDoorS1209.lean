/- Part of the proof of a law. -/
import Derived.Test.YtdcnajadcbedkaaGreatDoorS1208
set_option linter.all false
section
namespace Aq
open Go
section
variable {R:iH} {E:Env}
variable {ρ:aN} {top:Nat->Nat}
def oN (ρ:aN) (top:Nat->Nat) (v:Option V):dV R->Prop
 |.t x=> ∃y,v=some y/\Rl R ρ top x y
 |.c c x=>c=true->∃y,v=some y/\Rl R ρ top x y
 |.p _ _ o f=> ∀a,o=some a->∃y,v=some y/\Rl R ρ top (f a) y
 |_=>False
theorem YS {op:BinOp} {k:IntKind} {x y:Int} {r:dV R} (h:Lf R op k x y=some r):oN ρ top (jN op k x y) r:=by
 unfold Lf at h
 cases op<;>cases h<;>first
  |exact⟨_,rfl,by unfold Rl;rfl⟩
  | (intro hc
     have hy:¬y=0:=by simpa using hc
     exact⟨_,if_neg hy,by unfold Rl;rfl⟩)
theorem ais {op:BinOp} {k:IntKind} {x y:Int} {r:dV R} (h:RA R op k x y=some r):oN ρ top (EX op k x y) r:=by
 unfold RA at h
 cases op<;>cases h<;>
  (intro hc
   have hy:¬y<0:=by have:=of_decide_eq_true hc;omega
   exact⟨_,if_neg hy,by unfold Rl;rfl⟩)
theorem ait {op:BinOp} {x y:List UInt8} {r:dV R} (h:RB R op x y=some r):oN ρ top (wT op x y) r:=by
 unfold RB at h
 cases op<;>cases h<;>first
  |exact⟨_,rfl,by unfold Rl;rfl⟩
  | (intro hc
     have hy:¬((x.length+y.length:Nat):Int)>IntKind.i64.max:=by have:=of_decide_eq_true hc;omega
     exact⟨_,if_neg hy,by unfold Rl;rfl⟩)
theorem aiu {P:Program} {op:BinOp} {t:TypeId} {k:IntKind} {a b:Int} (h:Ct op=false):nK P op t (.int k a) (.int k b)=jN op k a b:=by
 cases op<;>first| (simp[Ct] at h;done)|simp[nK]
theorem aiv {P:Program} {op:BinOp} {t:TypeId} {k k':IntKind} {a b:Int} (h:Ct op=true):nK P op t (.int k a) (.int k' b)=EX op k a b:=by
 cases op<;>first| (simp[Ct] at h;done)|rfl
theorem aiw {P:Program} {op:BinOp} {t:TypeId} {a b:List UInt8}:nK P op t (.str a) (.str b)=wT op a b:=by
 cases op<;>rfl
theorem aix {P:Program} {t:TypeId} {x y:V} {b:Bool} (h:o8 P t x y=some b):(∀k n k' m,x= .int k n->y= .int k' m->False)/\∀s s',x= .str s->y= .str s'->False:=by
 unfold o8 at h
 constructor
 ·intro k n k' m hx hy;subst hx;subst hy;split at h<;>simp_all
 ·intro s s' hx hy;subst hx;subst hy;split at h<;>simp_all
theorem YT {P:Program} {t:TypeId} {x y:V} {b:Bool} (h:o8 P t x y=some b):nK P .eql t x y=some (.bool b)/\nK P .neq t x y=some (.bool !b):=by
 obtain⟨h1,h2⟩:=aix h
 constructor
 all_goals
  unfold nK
  split
  ·rename_i he;cases he
  ·rename_i he;cases he
  ·exact(h1 _ _ _ _ rfl rfl).elim
  ·exact(h2 _ _ rfl rfl).elim
  all_goals first| (rw[h];rfl)| (rename_i he;cases he)|simp_all
theorem aiy {op:BinOp} {t:TypeId} {x y:TV R.T} {v w:V} {r:dV R} (h:RD E R op t x y=some r) (hx:Rl R ρ top x v) (hy:Rl R ρ top y w):oN ρ top (nK E.P op t v w) r:=by
 unfold RD at h
 split at h
 ·rename_i k a k' b
  rw[hx.fZ,hy.fZ]
  cases hs:Ct op
  ·rw[hs,cond_false] at h
   split at h
   ·rename_i e;subst e;rw[aiu hs];exact YS h
   ·cases h
  ·rw[hs,cond_true] at h;rw[aiv hs];exact ais h
 ·rw[hx.l5,hy.l5,aiw];exact ait h
 ·split at h
  ·split at h
   ·rename_i b hb;cases h
    exact⟨_,(YT (YR hb hx hy)).1,by unfold Rl;rfl⟩
   ·cases h
  ·split at h
   ·rename_i b hb;cases h
    exact⟨_,(YT (YR hb hx hy)).2,by unfold Rl;rfl⟩
   ·cases h
  ·cases h
theorem aiz {op:UnOp} {x:TV R.T} {v:V} {r:dV R} (h:RF R op x=some r) (hx:Rl R ρ top x v):oN ρ top (ze op v) r:=by
 unfold RF at h
 split at h
 ·cases h;rw[hx.fZ];exact⟨_,rfl,by unfold Rl;rfl⟩
 ·rw[hx.fZ];exact YS h
 ·cases h;rw[hx.pY];exact⟨_,rfl,by unfold Rl;rfl⟩
 ·cases h;rw[hx.tJ];exact⟨_,rfl,by unfold Rl;rfl⟩
 ·cases h
theorem YU (s:List UInt8):s.map mo=List.map (aG R (.int .u8)) (s.map fun b=>((b.toNat:Nat):Int)):=by
 show s.map mo=List.map (fun n:Int=>V.int .u8 n) (List.map (fun b:UInt8=>((b.toNat:Nat):Int)) s)
 rw[aj1];rfl
theorem SC:∀l:List Int,(List.map (aG R (.int .u8)) l).mapM zf=some (List.map (fun n:Int=>UInt8.ofNat n.toNat) l)
 | []=>rfl
 |n::l=>by
  show List.mapM zf (V.int .u8 n::List.map (aG R (.int .u8)) l)=_
  rw[adi,SC l];rfl
theorem aiA {a b:TypeId} {x:TV R.T} {v:V} {σ:ah} {r:dV R} (h:Lg E R a b x=some r) (hx:Rl R ρ top x v):oN ρ top (vk E.P σ a b v) r:=by
 unfold Lg at h
 unfold vk
 split at h
 ·rename_i hu hv;cases h;rw[hx.fZ,hu,hv];exact⟨_,rfl,by unfold Rl;rfl⟩
 ·rename_i hu hv;cases h;rw[hx.l5,hu,hv];exact⟨_,rfl,by unfold Rl;rfl⟩
 ·rename_i hu hv
  rw[hx.l5,hu,hv]
  split at h
  ·rename_i he;cases h
   dsimp only;rw[he]
   exact⟨_,rfl,by unfold Rl;exact⟨.sh,by rw[YU],trivial⟩⟩
  ·cases h
 ·rename_i l hu hv
  obtain⟨c',rfl,_⟩:=hx.kJ
  rw[hu,hv]
  split at h
  ·rename_i he;cases h
   dsimp only;rw[he]
   exact⟨_,congrArg (Option.map V.str) (SC (R:=R) l),by unfold Rl;rfl⟩
  ·cases h
 ·rename_i hu hv
  rw[hx.p8,hu,hv]
  split at h
  ·rename_i he;cases h
   dsimp only;rw[he]
   exact⟨_,rfl,by unfold Rl;rfl⟩
  ·cases h
 ·cases h
theorem Dh {x:Option (TV R.T)} {v:Option V} {i:Option Int} (h:Cu R x=some i) (hx:∀y,x=some y->∃w,v=some w/\Rl R ρ top y w) (hn:x=none->v=none):(i=none/\v=none)\/∃n k,i=some n/\v=some (.int k n):=by
 unfold Cu at h
 split at h
 ·cases h;exact .inl ⟨rfl,hn rfl⟩
 ·rename_i k n
  cases h
  obtain⟨w,rfl,hw⟩:=hx _ rfl
  exact .inr ⟨n,k,rfl,by rw[hw.fZ]⟩
 ·cases h
theorem qQ {k:IntKind} {n:Int} {m:Nat} (h:kF n m=true):bnd (.int k n) m=some n.toNat:=by
 unfold kF at h
 have:=of_decide_eq_true h
 simp[bnd,mq,this]
theorem YV {α:Type} (l:List α) {lo hi:Option Int} {vl vh:Option V} (hl:(lo=none/\vl=none)\/∃n k,lo=some n/\vl=some (.int k n)) (hh:(hi=none/\vh=none)\/∃n k,hi=some n/\vh=some (.int k n)) (hb:RG l.length lo hi=true):
 ∃a c,kN l.length l.length vl vh none=some (a,c,l.length)/\(l.take c).drop a=pR l lo hi:=by
 rcases hl with ⟨rfl,rfl⟩| ⟨n,k,rfl,rfl⟩<;>rcases hh with ⟨rfl,rfl⟩| ⟨m,k',rfl,rfl⟩
 ·exact⟨0,l.length,rfl,by simp[pR]⟩
 ·have h1:kF m l.length=true:=hb
  exact⟨0,m.toNat,by simp[kN,qQ h1],by simp[pR]⟩
 ·have h1:kF n l.length=true:=hb
  exact⟨n.toNat,l.length,by simp[kN,qQ h1],by simp[pR]⟩
 ·have h1:(kF m l.length&& kF n m.toNat)=true:=hb
  rw[aan] at h1
  exact⟨n.toNat,m.toNat,by simp[kN,qQ h1.1,qQ h1.2],by simp[pR]⟩
theorem SE {α:Type} (f:α->V) (l:List α) (a c:Nat):((l.map f).take c).drop a=((l.take c).drop a).map f:=by simp
variable (hR:nR R)
include hR
theorem Di (t:Ty) (x:Den R.T t):(aG R t x).cells.length=dx R t/\bC (aG R t x).cells=true/\er (aG R t x)=aG R t x/\(iA t=true->∃l,aG R t x= .agg l)/\(iA t=false->(aG R t x).cells=[aG R t x]):=by
 cases t with
 |int k=>exact⟨rfl,rfl,rfl,by simp[iA],fun _=>rfl⟩
 |bool=>exact⟨rfl,rfl,rfl,by simp[iA],fun _=>rfl⟩
 |str=>exact⟨rfl,rfl,rfl,by simp[iA],fun _=>rfl⟩
 |slice t=>exact⟨rfl,rfl,rfl,by simp[iA],fun _=>rfl⟩
 |st n=>
  have he:aG R (.st n) x= .agg (encs R (R.lf n) (R.of n x)):=hR.enc n x
  rw[he]
  have hl:=hR.leaf n
  have key:∀(l:List Ty) (p:mI R.T l),l.all lZ=true->bC (encs R l p)=true/\(encs R l p).map eP=encs R l p:=by
   intro l
   induction l with
   |nil=>intro p _;exact⟨rfl,rfl⟩
   |cons t l ih=>
    intro p h
    rw[List.all_cons,aan] at h
    have h1:∀y:Den R.T t,oneCell (aG R t y)=true/\eP (aG R t y)=aG R t y:=by
     intro y
     cases t<;>first|exact⟨rfl,rfl⟩| (have:=h.1;simp[lZ] at this)
    cases l with
    |nil=>exact⟨by simp[encs,bC,(h1 p).1],by simp[encs,(h1 p).2]⟩
    |cons u l=>
     have:=ih p.2 h.2
     exact⟨by show (oneCell _&& bC (encs R (u::l) p.2))=true;rw[(h1 p.1).1,this.1];rfl,by show eP _::List.map eP (encs R (u::l) p.2)=_;rw[(h1 p.1).2,this.2];rfl⟩
  have:=key (R.lf n) (R.of n x) hl
  exact⟨Sb _ _,this.1,by show V.agg (List.map eP _)=_;rw[this.2],fun _=>⟨_,rfl⟩,by simp[iA]⟩
theorem Gy {t:Ty} (l:List (Den R.T t)):mD (dx R t) (l.map (aG R t))=true:=by
 cases l with
 |nil=>rfl
 |cons x l=>show ((aG R t x).cells.length==dx R t)=true;rw[(Di hR t x).1];simp
theorem LV {t:TypeId} {x:TV R.T} {lo hi:Option (TV R.T)} {v:V} {vl vh:Option V} {σ:ah} {r:dV R} (h:xM E R t x lo hi=some r) (hx:Rl R ρ top x v)
 (hl:∀y,lo=some y->∃w,vl=some w/\Rl R ρ top y w) (hln:lo=none->vl=none) (hh:∀y,hi=some y->∃w,vh=some w/\Rl R ρ top y w) (hhn:hi=none->vh=none):oN ρ top (nL E.P σ t v vl vh none) r:=by
 unfold xM at h
 split at h
 ·rename_i lo' hi' e1 e2
  have b1:=Dh e1 hl hln
  have b2:=Dh e2 hh hhn
  split at h
  ·rename_i s hu
   cases h
   rw[hx.l5]
   intro hc
   obtain⟨a,c,h1,h2⟩:=YV s b1 b2 hc
   refine⟨.str (pR s lo' hi'), ?_,by unfold Rl;rfl⟩
   unfold nL;rw[hu];dsimp only;rw[h1];simp[h2]
  ·rename_i e c u l hu
   split at h
   ·rename_i sz hs
    cases hb:Nat.beq sz (dx R u)
    ·rw[hb] at h;cases h
    ·rw[hb,cond_true] at h;cases h
     have:=d9 hb;subst this
     obtain⟨c',rfl,_⟩:=hx.kJ
     intro hc
     obtain⟨a,m,h1,h2⟩:=YV l b1 b2 hc
     unfold nL;rw[hu];dsimp only
     rw[hs];simp only[Option.bind_some,aau,h1,Gy hR,if_true]
     by_cases hcs:a=0/\m=l.length/\(none:Option V).isNone=true
     ·refine⟨_,by rw[if_pos hcs], ?_⟩
      unfold Rl
      refine⟨c', ?_,trivial⟩
      rw[<-h2,hcs.1,hcs.2.1];simp
     ·refine⟨_,by rw[if_neg hcs], ?_⟩
      unfold Rl
      exact⟨_,by rw[<-h2,SE],trivial⟩
   ·cases h
  ·cases h
 ·cases h
theorem LW {t:TypeId} {k:Ty} (hk:vM E t k=true) (x y:Den R.T k):mh (aG R k x) (aG R k y)=some (lM R k x y)/\kV E.P t (aG R k x)=true:=by
 unfold vM at hk
 split at hk
 ·rename_i hu;exact⟨by simp[mh,aG,lM],by unfold kV;rw[hu];rfl⟩
 ·rename_i hu;exact⟨rfl,by unfold kV;rw[hu];rfl⟩
 ·rename_i hu;exact⟨rfl,by unfold kV;rw[hu];rfl⟩
 ·cases hk
theorem YW {t:TypeId} {k e:Ty} (hk:vM E t k=true) (x:Den R.T k):∀m:List (Den R.T k×Den R.T e),og (aG R k x) (m.map fun p=>aG R k p.1) (m.map fun p=>aG R e p.2)=some ((zF (lM R k) x m).map (aG R e))
 | []=>rfl
 | (a,v)::m=>by
   show (mh (aG R k x) (aG R k a)).bind _=some ((bif lM R k x a then some v else zF (lM R k) x m).map (aG R e))
   rw[(LW hR hk x a).1,Option.bind_some]
   cases lM R k x a
   ·exact YW hk x m
   ·rfl
theorem YX {t:TypeId} {k e:Ty} (hk:vM E t k=true) (x:Den R.T k) (v:Den R.T e):∀m:List (Den R.T k×Den R.T e),uf (aG R k x) (aG R e v) (m.map fun p=>aG R k p.1) (m.map fun p=>aG R e p.2)=
 some ((xO (lM R k) x v m).map (fun p=>aG R k p.1),(xO (lM R k) x v m).map fun p=>aG R e p.2)
 | []=>rfl
 | (a,w)::m=>by
   show (mh (aG R k x) (aG R k a)).bind _=_
   rw[(LW hR hk x a).1,Option.bind_some]
   show _=some (List.map _ (bif lM R k x a then (x,v)::m else (a,w)::xO (lM R k) x v m),List.map _ (bif lM R k x a then (x,v)::m else (a,w)::xO (lM R k) x v m))
   cases lM R k x a
   ·simp only[aap,if_false,cond_false]
    rw[YX hk x v m];rfl
   ·rfl
theorem YZ {t:TypeId} {k:Ty} (hk:vM E t k=true) {x:Den R.T k} {y:TV R.T} {v:V} (h:oD R k y=some x) (hr:Rl R ρ top y v):v=aG R k x:=by
 unfold vM at hk
 split at hk
 ·exact R7 h hr
 ·exact R9 h hr
 ·exact R8 h hr
 ·cases hk
omit hR in
def mapOf (σ:ah):V->Option (List V×List V)
 |.eZ=>some ([],[])
 |.bP loc s=>σ.fP loc s
 |.dG ks vs=>some (ks,vs)
 |_=>none
omit hR in
theorem Y0 {P:Program} {σ:ah} {t:TypeId} {m k:V} {ok:Bool}:ug P σ t m k ok=(qZ P t).bind fun p=>if kV P p.1 k then (mapOf σ m).bind fun q=>(og k q.1 q.2).bind fun r=>
 (match r with|some v=>some (v,true)|none=>(jA P p.2).map fun z=>(z,false)).map fun (x:V×Bool)=>if ok then .bE [x.1,.bool x.2] else x.1 else none:=by
 cases m<;>rfl
theorem SF {t:TypeId} {k e:Ty} {m:List (Den R.T k×Den R.T e)} {y:TV R.T} {w mv:V} {ok:Bool} {σ:ah} {r:dV R} (h:Gb E R t k e m y ok=some r) (hy:Rl R ρ top y w)
 (hm:mapOf σ mv=some (m.map (fun p=>aG R k p.1),m.map fun p=>aG R e p.2)):oN ρ top (ug E.P σ t mv w ok) r:=by
 unfold Gb at h
 split at h
 ·rename_i kt et ht
  cases hk:vM E kt k
  ·rw[hk] at h;cases h
  ·rw[hk,cond_true] at h
   split at h
   ·rename_i z hz
    split at h
    ·rename_i z' x hz' hx
     cases h
     have hw:=YZ hR hk hx hy
     subst hw
     obtain⟨zv,hzv,SG⟩:=Df (ρ:=ρ) (top:=top) hz
     have aiB:=Gu hR hz' SG
     rw[Y0,ht];simp only[Option.bind_some]
     rw[if_pos (LW hR hk x x).2,hm]
     simp only[Option.bind_some]
     rw[YW hR hk x m]
     simp only[Option.bind_some]
     cases hg:zF (lM R k) x m with
     |some v=>
      simp only[Option.map_some]
      cases ok
      ·exact⟨_,rfl,LH hR .any (.inl rfl) e v⟩
      ·refine⟨_,rfl, ?_⟩
       rw[cond_true]
       unfold Rl
       exact⟨_,rfl,.cons' (LH hR .any (.inl rfl) e v) (.cons' (by unfold Rl;rfl) rfl)⟩
     |none=>
      simp only[Option.map_none,hzv,Option.map_some]
      have hz3:Rl R ρ top (fG R .any e z') zv:=aiB
      cases ok
      ·exact⟨_,rfl,hz3⟩
      ·refine⟨_,rfl, ?_⟩
       rw[cond_true]
       unfold Rl
       exact⟨_,rfl,.cons' hz3 (.cons' (by unfold Rl;rfl) rfl)⟩
    ·cases h
   ·cases h
 ·cases h
end
end Aq
end
section
namespace Aq
open Go
section
variable {R:iH} {E:Env}
variable {ρ:aN} {top:Nat->Nat} {b:Nat} {st:MS R.T} {fr:Fr} {σ:ah}
theorem dO.{u} {α:Type u} {c:Bool} {o:Option α} {y:α} (h:(bif c then o else none)=some y):c=true/\o=some y:=by
 cases c
 ·cases h
 ·exact⟨rfl,h⟩
theorem LX {t e:TypeId} {u:Ty} {sz dZ:Nat} (h:Cw E R t=some (e,u,sz,dZ)):∃z,kU E.P t=some e/\cO E.P e=some sz/\tZ E.P e=some dZ/\jl E.P e=some (iA u)/\jA E.P e=some z/\
 sz=dx R u/\0<sz/\(iA u||sz==1)=true/\z.cells.length=sz:=by
 unfold Cw at h
 split at h
 ·rename_i e' he
  split at h
  ·rename_i u' sz' by' ag z h1 h2 h3 h4 h5
   obtain⟨hc,h⟩:=dO h
   cases h
   simp only[aan] at hc
   obtain⟨⟨⟨⟨c1,c2⟩,c3⟩,c4⟩,c5⟩:=hc
   have:ag=iA u:=by simpa using c5
   subst this
   refine⟨z,he,h2,h3,h4,h5,d9 c1,ae3 c2, ?_,d9 c4⟩
   rw[al5] at c3⊢
   rcases c3 with c3|c3
   ·exact .inl c3
   ·exact .inr (by rw[d9 c3];rfl)
  ·cases h
 ·cases h
theorem SH (ag:Bool) (sz:Nat):∀vs:List V,(∀v∈vs,v.cells.length=sz)->chunks ag sz vs.length (vs.flatMap V.cells)=vs.map fun v=>if ag then .agg v.cells else v.cells.headD aC
 | [],_=>rfl
 |v::vs,h=>by
  have h1:=h v (by simp)
  have h2:=SH ag sz vs (fun w hw=>h w (by simp[hw]))
  show _::chunks ag sz vs.length ((v.cells++vs.flatMap V.cells).drop sz)=_
  rw[List.drop_left' h1,h2,ac7]
  congr 1
  cases ag
  ·simp only[aap,if_false]
   show (v.cells++vs.flatMap V.cells).headD aC=_
   cases hv:v.cells with
   |nil=>
    have h0:sz=0:=by rw[<-h1,hv];rfl
    cases vs with
    |nil=>rfl
    |cons w vs=>
     have:w.cells=[]:=adK (by rw[h w (by simp),h0])
     simp only[afn,this,List.nil_append]
     have:∀vs:List V,(∀v∈vs,v.cells.length=sz)->vs.flatMap V.cells=[]:=by
      intro vs hvs
      rw[List.flatMap_eq_nil_iff]
      intro x hx;exact adK (by rw[hvs x hx,h0])
     rw[this vs (fun x hx=>h x (by simp[hx]))]
   |cons a l=>rfl
  ·simp only[if_true]
   show V.agg ((v.cells++vs.flatMap V.cells).take sz)=_
   rw[List.take_left' h1]
variable (hR:nR R)
include hR
theorem aiC {t:Ty} {x:Den R.T t} {v:V} (h:er v=aG R t x):dJ v=true:=by
 cases v<;>try rfl
 have h1:=oK hR t x
 rw[<-h] at h1
 simp[er,aF] at h1
theorem Y3 {u:Ty} {sz len:Nat} (hsz:sz=dx R u):∀(ps:List (Nat×TV R.T)) (qs:List (Nat×V)) (xs:List (Den R.T u)) (n:Nat) (done rest:List V),xP R u n ps=some xs->ps.map (·.1)=qs.map (·.1)->
 au R ρ top (ps.map (·.2)) (qs.map (·.2))->done.length=n*sz->rest.length=xs.length*sz->n+xs.length<=len->
 ∃vs:List V,o7 (fun i=>if i<len then some (i*sz,sz) else none) (done++rest) qs=some (done++vs.flatMap V.cells)/\vs.length=xs.length/\vs.map er=xs.map (aG R u)/\(∀v∈vs,v.cells.length=sz/\bC v.cells=true)
 | [],[],xs,n,done,rest,h,_,_,h1,h2,_=>by
   cases h
   have:rest=[]:=adK (by simpa using h2)
   subst this
   exact⟨[],by simp[o7],rfl,rfl,by simp⟩
 | [],_::_,_,_,_,_,_,h,_,_,_,_=>by simp at h
 |_::_,[],_,_,_,_,_,h,_,_,_,_=>by simp at h
 | (i,v)::ps,(j,w)::qs,xs,n,done,rest,h,hi,hr,h1,h2,h3=>by
   simp only[ac7,ajj] at hi
   obtain⟨rfl,hi⟩:=hi
   obtain⟨y,ys,e,g1,g2⟩:=hr.dN
   simp only[ac7,ajj] at e
   obtain⟨rfl,rfl⟩:=e
   unfold xP at h
   cases hb:Nat.beq i n
   ·rw[hb] at h;cases h
   ·rw[hb,cond_true] at h
    have:=d9 hb;subst this
    cases hu:oD R u v with
    |none=>simp only[hu] at h;cases h
    |some x=>
     cases hs:xP R u (i+1) ps with
     |none=>simp only[hu,hs] at h;cases h
     |some xs'=>
      simp only[hu,hs] at h
      obtain rfl:=adG h
      obtain⟨a1,a2,a3,a4,a5⟩:=Sd hR hu g1
      rw[<-hsz] at a4
      have hlen:rest.length=sz+xs'.length*sz:=by rw[h2,List.length_cons,ajh];omega
      have q1:(done++w.cells).length=(i+1)*sz:=by rw[iP,h1,a4,ajh]
      have q2:(rest.drop sz).length=xs'.length*sz:=by rw[aft,hlen,al7]
      have q3:i+1+xs'.length<=len:=by rw[List.length_cons] at h3;omega
      obtain⟨vs,k1,k2,k3,k4⟩:=Y3 hsz ps qs xs' (i+1) (done++w.cells) (rest.drop sz) hs hi g2 q1 q2 q3
      refine⟨w::vs, ?_,by simp[k2],by simp[a1,k3], ?_⟩
      ·simp only[List.length_cons] at h3
       unfold o7
       simp only[if_pos (show i<len by omega)]
       rw[if_pos ⟨a4,by rw[iP,h1,hlen];exact Nat.add_le_add_left (ajO _ _) _,aiC hR a1⟩]
       have:fT (done++rest) (i*sz) w.cells=done++w.cells++rest.drop sz:=by
        unfold fT
        rw[List.take_left' h1,a4,amd,h1,al7,al8 (by omega)]
        rfl
       rw[this,k1]
       simp
      ·intro z hz
       rcases adf.1 hz with rfl|hz
       ·exact⟨a4,a5⟩
       ·exact k4 z hz
theorem aiD {u:Ty} {sz:Nat} (hsz:sz=dx R u) (h1:(iA u||sz==1)=true) {v:V} {x:Den R.T u} (he:er v=aG R u x) (hl:v.cells.length=sz):er (if iA u then .agg v.cells else v.cells.headD aC)=aG R u x:=by
 cases hs:iA u
 ·simp only[aap,if_false]
  have hne:∀cs,v≠ .agg cs:=by
   rintro cs rfl
   cases u<;>first| (simp[iA] at hs;done)| (simp[er,aG] at he;done)
  have:v.cells=[v]:=by cases v<;>first|rfl|exact absurd rfl (hne _)
  rw[this];exact he
 ·simp only[if_true]
  obtain⟨l,hl'⟩:=(Di hR u x).2.2.2.1 hs
  cases v<;>first|exact he| (rw[hl'] at he;simp[er] at he)
theorem aiE {t:TypeId} {len:Nat} {ps:List (Nat×TV R.T)} {qs:List (Nat×V)} {r:dV R} (h:RH E R t len ps=some r) (hi:ps.map (·.1)=qs.map (·.1)) (hr:au R ρ top (ps.map (·.2)) (qs.map (·.2))):oN ρ top (vC E t len qs) r:=by
 unfold RH at h
 split at h
 ·rename_i e u sz dZ he
  obtain⟨z,e1,e2,e3,e4,e5,e6,e7,e8,e9⟩:=LX he
  ·obtain⟨hc,h⟩:=dO h
   rw[aan] at hc
   split at h
   ·rename_i xs hx
    cases h
    have hlen:xs.length=len:=by
     have:∀(ps:List (Nat×TV R.T)) (n:Nat) (xs:List (Den R.T u)),xP R u n ps=some xs->xs.length=ps.length:=by
      intro ps
      induction ps with
      |nil=>intro n xs h;cases h;rfl
      |cons p ps ih=>
       intro n xs h
       obtain⟨i,v⟩:=p
       unfold xP at h
       obtain⟨_,h⟩:=dO h
       cases hu:oD R u v with
       |none=>simp only[hu] at h;cases h
       |some x=>
        cases hs:xP R u (n+1) ps with
        |none=>simp only[hu,hs] at h;cases h
        |some xs'=>simp only[hu,hs] at h;cases h;simp[ih _ _ hs]
     rw[this ps 0 xs hx];exact d9 hc.2
    obtain⟨vs,k1,k2,k3,k4⟩:=Y3 hR (len:=len) e6 ps qs xs 0 [] ((List.replicate len z.cells).flatten) hx hi hr (by simp) (by simp[e9,hlen]) (by omega)
    refine⟨.aj .full (xs.map (aG R u)), ?_,by unfold Rl;exact⟨.full,rfl,rfl⟩⟩
    unfold vC
    rw[e1];simp only[Option.bind_some,e2,e4,e5]
    rw[if_pos ⟨ae3 hc.1,e9,e7,e8⟩]
    rw[List.nil_append,List.nil_append] at k1
    rw[k1]
    simp only[Option.bind_some]
    have hone:bC (vs.flatMap V.cells)=true:=by
     unfold bC
     rw[List.all_flatMap,adI]
     intro v hv;exact(k4 v hv).2
    rw[hone,if_pos rfl,<-hlen,<-k2,SH _ _ _ (fun v hv=>(k4 v hv).1),aj1]
    congr 2
    have:∀(vs:List V) (xs:List (Den R.T u)),vs.map er=xs.map (aG R u)->(∀v∈vs,v.cells.length=sz/\bC v.cells=true)->vs.map (er∘fun v=>if iA u then .agg v.cells else v.cells.headD aC)=xs.map (aG R u):=by
     intro vs
     induction vs with
     |nil=>intro xs h _;exact h
     |cons v vs ih=>
      intro xs h hk
      cases xs with
      |nil=>simp at h
      |cons x xs=>
       simp only[ac7,ajj] at h
       rw[ac7,ac7,ih xs h.2 (fun w hw=>hk w (by simp[hw]))]
       congr 1
       exact aiD hR e6 e8 h.1 (hk v (by simp)).1
    rw[this vs xs k3 k4]
   ·cases h
 ·cases h
theorem SI {u:Ty} (l:List (Den R.T u)):(l.map (aG R u)).all (fun v=>bC v.cells)=true:=by
 simp[List.all_map,(Di hR u _).2.1]
theorem SK {u:Ty} {ag:Bool} {y:TV R.T} {v z:V} {l:List (Den R.T u)} (h:Gc R u y=some l) (hy:Rl R ρ top y v):kP σ ag (dx R u) z v=some (l.map (aG R u))/\uh v=false:=by
 unfold Gc at h
 split at h
 ·obtain⟨e,e2⟩:=qP h;subst e;cases e2
  obtain⟨c',rfl,_⟩:=hy.kJ
  exact⟨by show (if mD _ _=true then _ else _)=_;rw[if_pos (Gy hR _)],rfl⟩
 ·cases h;rw[hy.p8];exact⟨rfl,rfl⟩
 ·rename_i s
  obtain⟨e,e2⟩:=qP h;subst e;cases e2
  rw[hy.l5]
  exact⟨by show (if 1=1 then some (s.map mo) else none)=_;rw[if_pos rfl];exact congrArg some (YU (R:=R) s),rfl⟩
 ·cases h
theorem aiF {t e:TypeId} {sz dZ:Nat} {ag:Bool} {z:V} {c:Cap} {l ys:List V} {y:V} {loc:Option Loc} {ay:Nat} {P:Program} (h1:kU P t=some e) (h2:cO P e=some sz) (h3:tZ P e=some dZ) (h4:jl P e=some ag) (h5:jA P e=some z)
 (h6:z.cells.length=sz) (h7:0<sz) (h8:(ag||sz==1)=true) (hy:kP σ ag sz z y=some ys) (hi:uh y=false) (ho:ys.all (fun v=>bC v.cells)=true) (hr:bJ (l.length+ys.length) dZ=true) (hh:mD sz l=true):
 jB P false false σ ay loc t (.aj c l) y=match c with
  |.own n s=>if n=sz/\σ.top s=l.length then some (.aj (.own n s) (l++ys),σ.bU s (l.length+ys.length)) else none
  |.nil|.full=>some (.aj (.own sz ay) (l++ys),σ.bU ay (l.length+ys.length))
  |_=>none:=by
 unfold jB
 simp only[h1,h2,h3,h4,h5,Option.bind_some,hi,hy,ho,if_true]
 rw[if_pos ⟨trivial,h6,h7,h8⟩]
 simp only[hr,hh,and_self,if_true]
 cases c<;>rfl
theorem aiG {d:Option Nat} {t u:TypeId} {x y:TV R.T} {v w:V} {r:dV R} {ay:Nat} {loc:Option Loc} {o:Oper} (h:Gf E R d t u x y st=some r) (hx:Rl R ρ σ.top x v) (hy:Rl R ρ σ.top y w) (hi:aH ρ ay st fr σ)
 (ho:∀y σ',jB E.P false false σ ay loc t v w=some (y,σ')->lQ E fr σ ay o y σ'):rY E st ρ ay fr σ o r:=by
 unfold Gf at h
 split at h
 ·rename_i d
  split at h
  ·rename_i e τ sz dZ he
   obtain⟨z,e1,e2,e3,e4,e5,e6,e7,e8,e9⟩:=LX he
   ·obtain⟨hss,h⟩:=dO h
    split at h
    ·rename_i tk l l' hd hs
     cases h
     intro hroom
     subst e6
     obtain⟨g1,g2⟩:=SK hR (ag:=iA τ) (z:=z) (σ:=σ) hs hy
     have hlen:bJ ((l.map (aG R τ)).length+(l'.map (aG R τ)).length) dZ=true:=by rw[aau,aau];exact hroom
     have hap:∀c,jB E.P false false σ ay loc t (.aj c (l.map (aG R τ))) w=_:=fun c=>aiF hR (σ:=σ) (c:=c) (loc:=loc) (ay:=ay) e1 e2 e3 e4 e5 e9 e7 e8 g1 g2 (SI hR l') hlen (Gy hR l)
     have fresh:∀(c:Cap),(c= .nil\/c= .full)->v= .aj c (l.map (aG R τ))->∃x σ' ρ',lQ E fr σ ay o x σ'/\aH ρ' (ay+1) (st.wk tk) fr σ'/\σ'.next=σ.next/\Rl R ρ' σ'.top (.aj (.own tk) τ (l++l')) x/\∀p,o.dst≠some p->aY true p st ρ σ (st.wk tk) ρ' σ':=by
      intro c hc hv
      subst hv
      have:=hap c
      refine⟨.aj (.own (dx R τ) ay) (l.map (aG R τ)++l'.map (aG R τ)),σ.bU ay ((l.map (aG R τ)).length+(l'.map (aG R τ)).length),ρ.gF tk ay,ho _ _ (by rw[this];rcases hc with rfl|rfl<;>rfl), ?_,rfl, ?_, ?_⟩
      ·exact hi.wk tk ay _ (adh _) (ake _) hi.nx (fun u _ hu=>by have:=hi.lt u _ hu;omega)
      ·unfold Rl
       exact⟨_,by rw[afr],.inr (.inr ⟨ay,rfl,by simp[aN.gF,upd],by rw[BS];simp⟩)⟩
      ·exact fun p _=>aY.wk hi.nx
     unfold X3 at hd
     split at hd
     ·rename_i l0
      split at hd
      ·rename_i l1 hl1
       cases hd
       obtain⟨e,e2⟩:=qP hl1;subst e;cases e2
       obtain⟨c',rfl,hc'⟩:=hx.kJ
       exact fresh c' (.inl hc') rfl
      ·cases hd
     ·rename_i l0
      split at hd
      ·rename_i l1 hl1
       cases hd
       obtain⟨e,e2⟩:=qP hl1;subst e;cases e2
       obtain⟨c',rfl,hc'⟩:=hx.kJ
       exact fresh c' (.inr hc') rfl
      ·cases hd
     ·rename_i tk' τ' l0
      split at hd
      ·rename_i l1 hl1
       cases hd
       obtain⟨e,e2⟩:=qP hl1;subst e;cases e2
       obtain⟨c',rfl,hc'⟩:=hx.kJ
       rcases hc' with hc'|hc'| ⟨s,hc',ht,hl⟩
       ·exact fresh c' (.inl hc') rfl
       ·exact fresh c' (.inr hc') rfl
       ·subst hc'
        have:=hap (.own (dx R τ') s)
        dsimp only at this
        rw[if_pos ⟨rfl,by rw[aau];exact hl⟩] at this
        refine⟨_,_,ρ.gF tk s,ho _ _ this, ?_,rfl, ?_, ?_⟩
        ·exact hi.wk tk s _ (adh _) (by have:=hi.lt tk s ht;omega) (hi.ge tk s ht) (fun u hu h'=>hu (hi.inj u tk s h' ht))
        ·unfold Rl
         exact⟨_,by rw[afr],.inr (.inr ⟨s,rfl,by simp[aN.gF,upd],by rw[BS];simp⟩)⟩
        ·exact fun p _=>aY.wk (hi.ge tk s ht)
      ·cases hd
     ·cases hd
      rw[hx.p8] at fresh
      have hx':=hx.p8
      subst hx'
      exact fresh .nil (.inl rfl) rfl
     ·cases hd
    ·cases h
  ·cases h
 ·cases h
omit hR in
theorem aiH {t:TypeId} {x:TV R.T} {v:V} {n:Nat} (h:RJ E t x st=some n) (hx:Rl R ρ σ.top x v) (hi:aH ρ b st fr σ):mV E σ t v=some n:=by
 unfold RJ at h
 unfold mV
 split at h
 ·rename_i hu;cases h;obtain⟨c',rfl,_⟩:=hx.kJ;rw[hu];simp
 ·rename_i hu;cases h;rw[hx.p8,hu];rfl
 ·rename_i o t hu
  split at h
  ·rename_i t' l hl
   cases h
   have h1:=(hi.rd hl).1
   rcases hx.zL with ⟨s,_,rfl⟩| ⟨h0,rfl|rfl⟩
   ·rw[hu];dsimp only;rw[h1]
   ·rw[hu];dsimp only;rw[h1,h0];rfl
   ·rw[hu];dsimp only;rw[h1,h0];rfl
  ·cases h
 ·rename_i hu;cases h;rw[hx.l5,hu]
 ·rename_i o hu
  split at h
  ·rename_i k e m hl
   cases h
   obtain⟨s,h1,rfl⟩:=hx.vT
   obtain⟨s',h2,h3⟩:=hi.rd hl
   rw[h1] at h2;cases h2
   rw[hu];dsimp only;rw[h3];simp
  ·cases h
 ·rename_i hu;cases h;rw[hx.CY,hu];simp
 ·rename_i hu;cases h;unfold Rl at hx;subst hx;rw[hu]
 ·rename_i hu;cases h;rw[hu]
 ·cases h
omit hR in
theorem SL (mx:Bool):∀{l:List (TV R.T)} {x y:TV R.T} {v:V} {k:List V},Cz mx x l=some y->Rl R ρ top x v->au R ρ top l k->∃w,kX mx v k=some w/\Rl R ρ top y w
 | [],x,y,v,k,h,hx,hl=>by
   rw[hl.fB]
   unfold Cz at h;cases h
   exact⟨v,by cases v<;>rfl,hx⟩
 |z::l,x,y,v,k,h,hx,hl=>by
  obtain⟨w,ws,rfl,h1,h2⟩:=hl.dN
  unfold Cz at h
  split at h
  ·rename_i hz;cases hz
  ·rename_i k a k' b l' hz
   simp only[ajj] at hz
   obtain⟨rfl,rfl⟩:=hz
   split at h
   ·rename_i e;subst e
    rw[hx.fZ,h1.fZ]
    unfold kX
    rw[if_pos rfl]
    refine SL mx h ?_ h2
    unfold Rl
    cases mx<;>rfl
   ·cases h
  ·cases h
omit hR in
theorem Y4 (c:Cp):∀(l:List Ty) (p:mI R.T l),(jf R c l p).length=l.length
 | [],_=>rfl
 | [_],_=>rfl
 |_::u::l,p=>by show (jf R c (u::l) p.2).length+1=_;rw[Y4 c (u::l)];rfl
omit hR in
theorem LY (c:Cp) (t:Ty) (x:Den R.T t):(fG R c t x).cells.length=dx R t:=by
 cases t with
 |st n=>exact Y4 c _ _
 |_=>rfl
omit hR in
theorem Gz (t:Ty):∀l:List (Den R.T t),(l.flatMap fun x=>(fG R .any t x).cells).length=l.length*dx R t
 | []=>by simp
 |x::l=>by rw[afn,iP,LY,Gz t l,List.length_cons,ajh];omega
omit hR in
theorem Y5 {α:Type}:∀{l:List α} {i:Nat} {x:α},l[i]? =some x->∃a b,l=a++x::b/\a.length=i
 | [],_,_,h=>by simp at h
 |y::l,0,x,h=>by simp at h;subst h;exact⟨[],l,rfl,rfl⟩
 |y::l,i+1,x,h=>by
  obtain⟨a,b,rfl,hl⟩:=Y5 (l:=l) (i:=i) (by simpa using h)
  exact⟨y::a,b,rfl,by simp[hl]⟩
omit hR in
theorem aiI {α:Type} {l:List α} {i:Int} {x:α} (h:aB l i=some x):∃a b,l=a++x::b/\a.length=i.toNat/\0<=i:=by
 unfold aB at h
 split at h
 ·rename_i hi
  obtain⟨a,b,h1,h2⟩:=Y5 h
  exact⟨a,b,h1,h2,hi.1⟩
 ·cases h
omit hR in
theorem aiJ {ag:Bool} {n off:Nat} {pre el post:List (TV R.T)} {v:TV R.T} (h:Lb ag n el off=some v):Lb ag n (pre++el++post) (pre.length+off)=some v:=by
 cases ag with
 |true=>
  have h':(bif Nat.ble (off+n) el.length then some (TV.agg ((el.drop off).take n)) else none)=some v:=h
  obtain⟨hb,h'⟩:=dO h'
  have hle:=ae3 hb
  show (bif Nat.ble (pre.length+off+n) (pre++el++post).length then some (TV.agg (((pre++el++post).drop (pre.length+off)).take n)) else none)=some v
  have hb':Nat.ble (pre.length+off+n) (pre++el++post).length=true:=Nat.ble_eq_true_of_le (by simp;omega)
  rw[hb',cond_true,<-h']
  congr 2
  have e1:(pre++el++post).drop (pre.length+off)=(el++post).drop off:=by
   rw[acF,amd,al8 (by omega)]
   simp
  rw[e1,amd,List.take_append]
  have e2:n-(el.drop off).length=0:=by simp;omega
  rw[e2];simp
 |false=>
  have h':el[off]? =some v:=h
  show (pre++el++post)[pre.length+off]? =some v
  have hlt:off<el.length:=by rw[afM] at h';exact h'.1
  rw[acF,List.getElem?_append_right (by omega),al7,amk hlt]
  exact h'
omit hR in
theorem aiK {t:TypeId} {off:Nat} {pre el post:List (TV R.T)} {v:TV R.T} (h:kQ E t el off=some v):kQ E t (pre++el++post) (pre.length+off)=some v:=by
 unfold kQ at h⊢
 cases h1:jl E.P t with
 |none=>simp only[h1] at h;cases h
 |some a=>
  cases h2:cO E.P t with
  |none=>simp only[h1,h2] at h;cases h
  |some n=>simp only[h1,h2] at h⊢;exact aiJ h
omit hR in
theorem aiL {t:TypeId} {off:Nat} {cs cs':List (TV R.T)} (hl:cs.length=cs'.length) (h:(kQ E t cs off).isSome=true):∃v,kQ E t cs' off=some v:=by
 unfold kQ at h⊢
 cases h1:jl E.P t with
 |none=>simp only[h1] at h;cases h
 |some a=>
  cases h2:cO E.P t with
  |none=>simp only[h1,h2] at h;cases h
  |some n=>
   simp only[h1,h2] at h⊢
   cases a with
   |true=>
    have h':(bif Nat.ble (off+n) cs.length then some (TV.agg ((cs.drop off).take n)) else none).isSome=true:=h
    cases hb:Nat.ble (off+n) cs.length
    ·rw[hb] at h';cases h'
    ·exact⟨.agg ((cs'.drop off).take n),by show (bif Nat.ble (off+n) cs'.length then _ else _)=_;rw[<-hl,hb];rfl⟩
   |false=>
    have h':cs[off]?.isSome=true:=h
    have hlt:off<cs'.length:=by rw[<-hl];simpa using h'
    exact⟨cs'[off],acR hlt⟩
omit hR in
theorem Y6 {o s:Nat} {τ:Ty} {l:List (Den R.T τ)} {i:Int} {y:Den R.T τ} (hO:dY ρ σ o (.arr τ l)) (hs:ρ.ob o=some s) (hy:aB l i=some y):
 ∃a b cs,l=a++y::b/\a.length=i.toNat/\σ.cB (ρ.om.lc o) s=some cs/\au R ρ σ.top ((a.flatMap fun x=>(fG R .any τ x).cells)++(fG R .any τ y).cells++b.flatMap fun x=>(fG R .any τ x).cells) cs/\(a.flatMap fun x=>(fG R .any τ x).cells).length=i.toNat*dx R τ:=by
 obtain⟨a,b,rfl,h1,h2⟩:=aiI hy
 rcases hO.2 with h| ⟨s',cs,h3,h4,h5⟩
 ·exact absurd h.1 (by simp)
 ·rw[hs] at h3;cases h3
  refine⟨a,b,cs,rfl,h1,h4, ?_,by rw[Gz,h1]⟩
  rw[List.flatMap_append,afn] at h5
  rw[acF];exact h5
omit hR in
theorem aiM {t:TypeId} {o s off:Nat} {τ:Ty} {i:Int} {ob:Ob R.T} {r:dV R} (h:RP E R t τ i off ob=some r) (hO:dY ρ σ o ob) (hs:ρ.ob o=some s):∃(l:List (Den R.T τ)) (f:Den R.T τ->TV R.T),r= .p (Den R.T τ) (Cb R τ) (aB l i) f/\
 ∀y,aB l i=some y->∃cs w,σ.cB (ρ.om.lc o) s=some cs/\gK E.P t cs (i.toNat*dx R τ+off)=some w/\Rl R ρ σ.top (f y) w:=by
 unfold RP at h
 split at h
 ·rename_i τ' l0
  split at h
  ·rename_i l1 hl
   obtain⟨e,e2⟩:=qP hl;subst e;cases e2
   obtain⟨hb,h⟩:=dO h
   cases h
   refine⟨l0,_,rfl,fun y hy=> ?_⟩
   obtain⟨a,b,cs,h1,h2,h3,h4,h5⟩:=Y6 hO hs hy
   obtain⟨v,hv⟩:=aiL (cs':=(fG R .any τ' y).cells) (by rw[LY,LY]) hb
   have:=aiK (pre:=a.flatMap fun x=>(fG R .any τ' x).cells) (post:=b.flatMap fun x=>(fG R .any τ' x).cells) hv
   rw[h5] at this
   obtain⟨w,hw,hr⟩:=vX h4 this
   exact⟨cs,w,h3,hw,by rw[hv];exact hr⟩
  ·cases h
 ·cases h
theorem aiN {τ:Ty} {cs:List (TV R.T)} {x:Den R.T τ} {vs:List V} (h:RQ R τ cs=some x) (hr:au R ρ top cs vs):au R ρ top (fG R .any τ x).cells vs:=by
 have one:∀(t:Ty) (x:Den R.T t),lZ t=true->pK R t (hd1 R cs)=some x->au R ρ top [vK R .any t x] vs:=by
  intro t x ht h
  cases cs with
  |nil=>cases t<;>cases h
  |cons c cs=>
   cases cs with
   |nil=>
    obtain⟨v,l,rfl,h1,h2⟩:=hr.dN
    rw[h2.fB]
    exact .cons' (zP hR h h1) rfl
   |cons c' cs=>cases t<;>cases h
 cases τ with
 |st n=>
  have:=Gu hR (t:=.st n) (show oD R (.st n) (.agg cs)=some x from h) (v:=.agg vs) (by unfold Rl;exact⟨vs,rfl,hr⟩)
  obtain⟨l,e,hl⟩:=Rl.kI this
  cases e;exact hl
 |int k=>exact one (.int k) x rfl h
 |bool=>exact one .bool x rfl h
 |str=>exact one .str x rfl h
 |slice t=>exact one (.slice t) x rfl h
omit hR in
theorem aiO {α:Type} (pre el post vs:List α) (off:Nat) (h:off+vs.length<=el.length):(pre++el++post).take (pre.length+off)++vs++(pre++el++post).drop (pre.length+off+vs.length)=pre++(el.take off++vs++el.drop (off+vs.length))++post:=by
 have e1:(pre++el++post).take (pre.length+off)=pre++el.take off:=by
  rw[acF,List.take_append,agk (by omega),al7,List.take_append,Nat.sub_eq_zero_of_le (by omega)]
  simp
 have e2:(pre++el++post).drop (pre.length+off+vs.length)=el.drop (off+vs.length)++post:=by
  rw[acF,amd,al8 (by omega),show pre.length+off+vs.length-pre.length=off+vs.length by omega,amd,Nat.sub_eq_zero_of_le (by omega)]
  simp
 rw[e1,e2]
 simp
theorem aiP {o s off:Nat} {τ:Ty} {i:Int} {l:List (Den R.T τ)} {y y':Den R.T τ} {vc:List (TV R.T)} {vl:List V} (hO:dY ρ σ o (.arr τ l)) (hs:ρ.ob o=some s) (hy:aB l i=some y) (hv:au R ρ σ.top vc vl) (hle:off+vc.length<=dx R τ)
 (hu:RQ R τ (Co (fG R .any τ y).cells off vc)=some y'):∃cs,σ.cB (ρ.om.lc o) s=some cs/\i.toNat*dx R τ+off+vl.length<=cs.length/\au R ρ σ.top ((aW l i y').flatMap fun x=>(fG R .any τ x).cells) (fT cs (i.toNat*dx R τ+off) vl)/\(aW l i y').length=l.length:=by
 obtain⟨a,b,cs,rfl,h2,h3,h4,h5⟩:=Y6 hO hs hy
 obtain⟨p1,post,rfl,g1,g2⟩:=h4.split
 obtain⟨pre,el,rfl,g3,g4⟩:=g1.split
 have l1:pre.length=i.toNat*dx R τ:=by rw[g3.length,h5]
 have l2:el.length=dx R τ:=by rw[g4.length,LY]
 have l3:=hv.length
 refine⟨_,h3, ?_, ?_, ?_⟩
 ·rw[iP,iP];omega
 ·have e:aW (a++y::b) i y'=a++y'::b:=by
   unfold aW
   rw[<-h2,List.set_append_right _ _ (RS _),Nat.sub_self];rfl
  rw[e,List.flatMap_append,afn,<-acF]
  have e2:fT (pre++el++post) (i.toNat*dx R τ+off) vl=pre++fT el off vl++post:=by
   unfold fT
   rw[<-l1];exact aiO pre el post vl off (by omega)
  rw[e2]
  exact(g3.append (aiN hR hu (SA off g4 hv))).append g2
 ·unfold aW;rw[List.length_set]
theorem aiQ (τ:Ty) (x:Den R.T τ):au R ρ top (fG R .any τ x).cells (aG R τ x).cells:=by
 refine(uJ ?_ (LH hR .any (.inl rfl) τ x)).1
 cases τ<;>rfl
theorem Dj (τ:Ty):∀l:List (Den R.T τ),au R ρ top (l.flatMap fun x=>(fG R .any τ x).cells) ((l.map (aG R τ)).flatMap V.cells)
 | []=>rfl
 |x::l=>by
  rw[ac7,afn,afn]
  exact(aiQ hR τ x).append (Dj τ l)
theorem aiR {t e:TypeId} {sz dZ:Nat} {ag:Bool} {z:V} {ys:List V} {x y:V} {loc:Option Loc} {ay:Nat} {P:Program} (h1:kU P t=some e) (h2:cO P e=some sz) (h3:tZ P e=some dZ) (h4:jl P e=some ag) (h5:jA P e=some z)
 (h6:z.cells.length=sz) (h7:0<sz) (h8:(ag||sz==1)=true) (hy:kP σ ag sz z y=some ys) (hi:uh y=false) (ho:ys.all (fun v=>bC v.cells)=true):
 jB P true false σ ay loc t x y=match x with
  |.aj c l=>if bJ (l.length+ys.length) dZ=true/\mD sz l=true then
     match c with
     |.nil=>loc.map fun loc=>(.vw loc ay 0 (l.length+ys.length) (l.length+ys.length) sz ag,σ.setObj loc ay (.cells ((l++ys).flatMap V.cells)))
     |.full=>if ys.isEmpty then some (.aj .full l,σ) else loc.map fun loc=>(.vw loc ay 0 (l.length+ys.length) (l.length+ys.length) sz ag,σ.setObj loc ay (.cells ((l++ys).flatMap V.cells)))
     |_=>none else none
  |.vw iC s off len cap aS _=>
   if bJ (len+ys.length) dZ=true/\off=0/\aS=sz then
    loc.bind fun loc=>(σ.cB iC s).bind fun cs=>
     if len+ys.length<=cap then
      if (len+ys.length)*sz<=cs.length then
       some (.vw iC s 0 (len+ys.length) cap sz ag,σ.setObj iC s (.cells (fT cs (len*sz) (ys.flatMap V.cells))))
      else none
     else if len*sz<=cs.length then
      some (.vw loc ay 0 (len+ys.length) (len+ys.length) sz ag,(σ.iq iC).setObj loc ay (.cells (cs.take (len*sz)++ys.flatMap V.cells)))
     else none
   else none
  |_=>none:=by
 unfold jB
 simp only[h1,h2,h3,h4,h5,Option.bind_some,hi,hy,ho,if_true]
 rw[if_pos ⟨trivial,h6,h7,h8⟩]
 cases x<;>try rfl
 ·rename_i c l
  cases c<;>rfl
 ·simp only[true_and]
omit hR in
theorem aY.Sl {o q s n:Nat} {x:Ob R.T} {a:ig} (hne:q≠o):aY true q st ρ σ (st.new o x) (ρ.zO o s n) (σ.setObj (ρ.om.lc o) s a):=⟨(Sj q hne).1,(Sj q hne).2,rfl,RS _,⟨fun _ _=>rfl,fun _ _=>rfl⟩,fun _ _ hL=>Sw hL,(aY.new (nr:=true) (ρ:=ρ) (s:=s) (a:=a) hne).ro⟩
omit hR in
theorem aY.del {o q:Nat} {y:Ob R.T} (hl:look st.ob o=some y) (hy:oF y=false):aY true q st ρ σ (st.del o) ρ (σ.iq (ρ.om.lc o)):=⟨rfl,rfl,rfl,RS _,⟨fun _ _=>rfl,fun _ _=>rfl⟩,fun _ _ hL=>ail hL,fun hr=>by
 have hne:q≠o:=by rintro rfl;rw[hr y hl] at hy;cases hy
 refine⟨fun z hz=> ?_,fun s'=> ?_⟩
 ·have hz':look (iy o st.ob) q=some z:=hz
  rw[p9 hne] at hz'
  exact hr z hz'
 ·unfold ah.cB ah.fP;rw[Yr σ hne];exact⟨rfl,rfl⟩⟩
omit hR in
theorem aY.del' {o q:Nat} {y:Ob R.T} (hl:look st.ob o=some y) (hy:oF y=false):aY true q st ρ σ (st.del o) ρ σ:=⟨rfl,rfl,rfl,RS _,⟨fun _ _=>rfl,fun _ _=>rfl⟩,fun _ _ _=>rfl,fun hr=>by
 have hne:q≠o:=by rintro rfl;rw[hr y hl] at hy;cases hy
 refine⟨fun z hz=> ?_,fun s'=>⟨rfl,rfl⟩⟩
 have hz':look (iy o st.ob) q=some z:=hz
 rw[p9 hne] at hz'
 exact hr z hz'⟩
omit hR in
theorem SN {α:Type} {p:Nat}:∀l:List (Nat×α),look (iy p l) p=none
 | []=>rfl
 | (j,x)::l=>by
   unfold iy
   cases hj:Nat.beq j p
   ·show (bif Nat.beq j p then some x else look (iy p l) p)=none
    rw[hj];exact SN l
   ·exact SN l
omit hR in
theorem aH.del' (h:aH ρ b st fr σ) (o:Nat):aH ρ b (st.del o) fr σ:={h with
 ob:=fun p y hy=>by
  by_cases e:p=o
  ·subst e
   have:look (iy p st.ob) p=some y:=hy
   rw[SN] at this;cases this
  ·have hy':look (iy o st.ob) p=some y:=hy
   rw[p9 e] at hy'
   exact h.ob p y hy'
 fr:=h.fr}
omit hR in
theorem Dk {d ay:Nat} {τ:Ty} {l:List (Den R.T τ)} {L:List V} {st0:MS R.T} {σ0:ah} {o:Oper} {v:V} {σ1:ah} (hd:o.dst=some d) (hi:aH ρ (ay+1) st0 fr σ0) (hk:∀p,aY true p st ρ σ st0 ρ σ0) (hn:σ0.next=σ.next) (hL:au R ρ σ0.top (l.flatMap fun x=>(fG R .any τ x).cells) L)
 (hs:lQ E fr σ ay o v σ1) (hv:v= .vw (ρ.om.lc d) ay 0 l.length l.length (dx R τ) (iA τ)) (h1:σ1=σ0.setObj (ρ.om.lc d) ay (.cells L)):∃x σ' ρ',lQ E fr σ ay o x σ'/\aH ρ' (ay+1) (st0.new d (.arr τ l)) fr σ'/\σ'.next=σ.next/\Rl R ρ' σ'.top (.vw d τ) x/\∀p,o.dst≠some p->aY true p st ρ σ (st0.new d (.arr τ l)) ρ' σ':=by
 subst hv;subst h1
 refine⟨_,_,ρ.zO d ay l.length,hs,hi.Sl d ay l.length ⟨(Gt (ρ:=ρ.lN d ay)).symm,.inr ⟨ay,L,rX (ρ:=ρ),vG _ _ _ _,vU l L hL⟩⟩,hn, ?_,fun p hp=> ?_⟩
 ·unfold Rl
  exact .inl ⟨ay,rX (ρ:=ρ),by rw[show (ρ.zO d ay l.length).ln d=l.length from Gt (ρ:=ρ.lN d ay)];rfl⟩
 ·have hne:p≠d:=fun e=>hp (by rw[hd,e])
  exact(hk p).trans (aY.Sl hne)
theorem aiS {d:Option Nat} {t u:TypeId} {x y:TV R.T} {v w:V} {r:dV R} {ay:Nat} {o:Oper} (h:Gg E R d t u x y st=some r) (hx:Rl R ρ σ.top x v) (hy:Rl R ρ σ.top y w) (hi:aH ρ ay st fr σ) (hd:o.dst=d)
 (ho:∀y σ',jB E.P true false σ ay (d.map fun t=>(ρ.om.lc t)) t v w=some (y,σ')->lQ E fr σ ay o y σ'):rY E st ρ ay fr σ o r:=by
 have hi1:=hi.le (adh ay)
 unfold Gg at h
 split at h
 ·rename_i d
  split at h
  ·rename_i e τ sz dZ he
   obtain⟨z,e1,e2,e3,e4,e5,e6,e7,e8,e9⟩:=LX he
   obtain⟨hss,h⟩:=dO h
   split at h
   ·rename_i l' hs
    subst e6
    obtain⟨g1,g2⟩:=SK hR (ag:=iA τ) (z:=z) (σ:=σ) hs hy
    have hap:=fun x=>aiR hR (σ:=σ) (x:=x) (loc:=some (ρ.om.lc d)) (ay:=ay) e1 e2 e3 e4 e5 e9 e7 e8 g1 g2 (SI hR l')
    split at h
    ·rename_i p τ0 _
     split at h
     ·rename_i e0
      subst e0
      split at h
      ·rename_i τ' l0 hl
       split at h
       ·rename_i a l1 l2 hl2
        obtain⟨e,e2'⟩:=qP hl2;subst e;cases e2'
        cases h
        intro hroom
        have hO:=hi.ob _ _ hl
        have hlen:l0.length=ρ.ln p:=hO.1
        have hnr:oF (Ob.arr τ' l0)=false:=rfl
        have hne:¬((a::l1).map (aG R τ')).isEmpty=true:=by simp
        rcases hx.zL with ⟨s,k1,rfl⟩| ⟨k1,k2⟩
        ·rcases hO.2 with hO2| ⟨s',cs,k3,k4,k5⟩
         ·rw[k1] at hO2;exact absurd hO2.2 (by simp)
         ·rw[k1] at k3;cases k3
          have:=hap (.vw (ρ.om.lc p) s 0 (ρ.ln p) (ρ.ln p) (dx R τ') (iA τ'))
          dsimp only at this
          have hlc:cs.length=l0.length*dx R τ':=by rw[k5.length,Gz]
          rw[if_pos ⟨by rw[aau,<-hlen];exact hroom,rfl,rfl⟩] at this
          simp only[Option.bind_some,k4] at this
          rw[if_neg (by rw[aau,List.length_cons];omega),if_pos (by rw[hlc,hlen];exact RS _)] at this
          refine Dk (σ0:=σ.iq (ρ.om.lc p)) (L:=cs.take (ρ.ln p*dx R τ')++((a::l1).map (aG R τ')).flatMap V.cells) hd (hi1.del p) (fun q=>aY.del hl hnr) rfl ?_ (ho _ _ this) ?_ rfl
          ·rw[List.flatMap_append,agk (by rw[hlc,hlen];exact RS _)]
           exact au.append k5 (Dj hR _ _)
          ·rw[aau,iP,hlen]
        ·have hl0:l0=[]:=adK (by omega)
         subst hl0
         have hroom':bJ (([]:List V).length+((a::l1).map (aG R τ')).length) dZ=true/\mD (dx R τ') ([]:List V)=true:=⟨by rw[aau];exact hroom,rfl⟩
         rcases k2 with rfl|rfl
         ·have:=hap (.aj .nil [])
          dsimp only at this
          rw[if_pos hroom'] at this
          refine Dk (σ0:=σ) hd (hi1.del' p) (fun q=>aY.del' hl hnr) rfl (Dj hR _ _) (ho _ _ this) ?_ rfl
          simp
         ·have:=hap (.aj .full [])
          dsimp only at this
          rw[if_pos hroom',if_neg hne] at this
          refine Dk (σ0:=σ) hd (hi1.del' p) (fun q=>aY.del' hl hnr) rfl (Dj hR _ _) (ho _ _ this) ?_ rfl
          simp
       ·cases h
      ·cases h
     ·cases h
    ·obtain⟨hE,h⟩:=dO h
     cases h
     intro hroom
     have hroom':bJ (([]:List V).length+(l'.map (aG R τ)).length) dZ=true/\mD (dx R τ) ([]:List V)=true:=⟨by rw[aau,List.length_nil,ae5];exact hroom,rfl⟩
     rcases YJ (fr:=fr) hE (.of hx) with rfl|rfl
     ·have:=hap (.aj .nil [])
      dsimp only at this
      rw[if_pos hroom'] at this
      refine Dk (σ0:=σ) hd hi1 (fun q=>.refl) rfl (Dj hR _ _) (ho _ _ this) ?_ rfl
      simp
     ·have:=hap (.aj .full [])
      dsimp only at this
      rw[if_pos hroom'] at this
      by_cases hne:((l'.map (aG R τ)).isEmpty)=true
      ·rw[if_pos hne] at this
       have hl':l'=[]:=by simpa using hne
       subst hl'
       refine⟨_,_,ρ.gh d,ho _ _ this,hi1.ghost d τ,rfl,by unfold Rl;exact .inr ⟨Gt (ρ:=ρ) (n:=0),.inr rfl⟩,fun p hp=> ?_⟩
       have SQ:p≠d:=fun e=>hp (by rw[hd,e])
       exact⟨(Db p SQ).1,(Db p SQ).2,rfl,RS _,⟨fun _ _=>rfl,fun _ _=>rfl⟩,fun _ _ _=>rfl,fun hr=>⟨((aY.new (nr:=true) (ρ:=ρ) (σ:=σ) (s:=0) (a:=.cells []) SQ).ro hr).1,fun _=>⟨rfl,rfl⟩⟩⟩
      ·rw[if_neg hne] at this
       refine Dk (σ0:=σ) hd hi1 (fun q=>.refl) rfl (Dj hR _ _) (ho _ _ this) ?_ rfl
       simp
   ·cases h
  ·cases h
 ·cases h
omit hR in
theorem Y7 {α β:Type} (f:α->List β) (x:α):∀n,(List.replicate n x).flatMap f=(List.replicate n (f x)).flatten
 |0=>rfl
 |n+1=>by rw[List.replicate_succ,List.replicate_succ,afn,List.flatten_cons,Y7 f x n]
omit hR in
theorem Y8 {ts:List (TV R.T)} {vs:List V} (h:au R ρ top ts vs):∀n,au R ρ top (List.replicate n ts).flatten (List.replicate n vs).flatten
 |0=>rfl
 |n+1=>by rw[List.replicate_succ,List.replicate_succ,List.flatten_cons,List.flatten_cons];exact h.append (Y8 h n)
theorem aiT {om:Bool} {d:Option Nat} {t:TypeId} {x y:TV R.T} {v w:V} {r:dV R} {ay:Nat} {o:Oper} (h:RI E R om d t x y st=some r) (hx:Rl R ρ σ.top x v) (hy:Rl R ρ σ.top y w) (hi:aH ρ ay st fr σ) (hd:o.dst=d)
 (ho:∀y σ',sK E.P om σ ay (d.map fun t=>(ρ.om.lc t)) t v w=some (y,σ')->lQ E fr σ ay o y σ'):rY E st ρ ay fr σ o r:=by
 have hi1:=hi.le (adh ay)
 unfold RI at h
 split at h
 ·rename_i d e τ sz dZ k n k' m he
  obtain⟨z0,e1,e2,e3,e4,e5,e6,e7,e8,e9⟩:=LX he
  split at h
  ·rename_i z hz
   split at h
   ·rename_i x0 hx0
    obtain⟨zv,z1,z2⟩:=Df (ρ:=ρ) (top:=σ.top) hz
    rw[e5] at z1;cases z1
    rw[hx.fZ,hy.fZ] at ho
    have mk:0<=n->n<=m->m<=2^47->bJ m.toNat dZ=true->sK E.P om σ ay ((some d).map fun t=>(ρ.om.lc t)) t (.int k n) (.int k' m)=if n=0/\om=false then some (.aj (.own sz ay) [],σ.bU ay 0) else some (.vw (ρ.om.lc d) ay 0 n.toNat m.toNat sz (iA τ),σ.setObj (ρ.om.lc d) ay (.cells (List.replicate m.toNat z0.cells).flatten)):=by
     intro h1 h2 h3 h4
     unfold sK
     simp only[e1,e2,e3,e5,Option.bind_some,mq]
     rw[if_pos ⟨h1,h2,h4,h3,e9⟩]
     split
     ·rfl
     ·simp only[Option.map_some,Option.bind_some,e4]
    cases om with
    |true=>
     cases h
     intro hc
     rw[aan] at hc
     obtain⟨c1,c2,c3⟩:=of_decide_eq_true hc.1
     subst c2
     have:=mk c1 (ajN _) c3 hc.2
     rw[if_neg (by simp)] at this
     subst e6
     refine Dk (σ0:=σ) hd hi1 (fun q=>.refl) rfl ?_ (ho _ _ this) ?_ rfl
     ·rw[Y7]
      refine Y8 ?_ _
      have hzc:au R ρ σ.top (fG R .any τ x0).cells z0.cells:=by
       have h1:=Gu hR hx0 z2
       refine(uJ ?_ h1).1
       cases τ<;>rfl
      exact hzc
     ·rw[List.length_replicate]
    |false=>
     cases h
     intro hc
     rw[aan] at hc
     obtain⟨c1,c2,c3⟩:=of_decide_eq_true hc.1
     subst c1
     have:=mk (ajN _) c2 c3 hc.2
     rw[if_pos ⟨rfl,rfl⟩] at this
     refine⟨_,_,ρ.gF d ay,ho _ _ this,hi.wk d ay _ (adh _) (ake _) hi.nx (fun u _ hu=>by have:=hi.lt u _ hu;omega),rfl, ?_,fun p _=>aY.wk hi.nx⟩
     unfold Rl
     exact⟨_,rfl,.inr (.inr ⟨ay,by rw[e6],by simp[aN.gF,upd],by rw[BS];rfl⟩)⟩
   ·cases h
  ·cases h
 ·cases h
theorem aiU {om:Bool} {t:TypeId} {p:Nat} {τ:Ty} {y:TV R.T} {v w:V} {r:dV R} (h:RN E R t p τ y st=some r) (hx:Rl R ρ σ.top (.vw p τ) v) (hy:Rl R ρ σ.top y w) (hi:aH ρ b st fr σ):oN ρ σ.top (nZ E.P t v w) r:=by
 unfold RN at h
 split at h
 ·rename_i e k n hu
  split at h
  ·rename_i sz hs
   obtain⟨hb,h⟩:=dO h
   split at h
   ·rename_i τ' l hl
    cases h
    have:=d9 hb;subst this
    rw[hy.fZ]
    intro hc
    have hc':=of_decide_eq_true hc
    have hlen:=(hi.rd hl).1
    rcases hx.zL with ⟨s,k1,rfl⟩| ⟨h0,_⟩
    ·refine⟨.ref (ρ.om.lc p) s (n.toNat*dx R τ), ?_,by unfold Rl;exact⟨s,k1,hc'.1,rfl⟩⟩
     unfold nZ
     rw[hu]
     simp only[hs,Option.bind_some,idx,mq]
     rw[if_pos ⟨hc'.1,by rw[<-hlen];exact hc'.2⟩]
     simp
    ·rw[hlen,h0] at hc';omega
   ·cases h
  ·cases h
 ·cases h
end
end Aq
end
section
namespace Aq
open Go
section
variable {R:iH} {E:Env}
variable {ρ:aN} {top:Nat->Nat} {b:Nat} {st:MS R.T} {fr:Fr} {σ:ah}
theorem SS {n:Nat} {f:Nat} (a b:List V):aQ (n+2) σ (.fn (.func f) a b)=(a.mapM (aQ (n+1) σ)).bind fun a=>(b.mapM (aQ (n+1) σ)).map fun b=>.fn (.func f) a b:=by
 by_cases hp:aF (.fn (.func f) a b)=true
 ·rw[jV hp]
  have:∀cs:List V,aX cs=true->cs.mapM (aQ (n+1) σ)=some cs:=by
   intro cs
   induction cs with
   |nil=>intro _;rfl
   |cons a l ih=>
    intro h
    simp only[aX,aan] at h
    rw[adi,jV h.1,ih h.2];rfl
  simp only[aF,aan] at hp
  rw[this a hp.1,this b hp.2];rfl
 ·conv=>lhs;unfold aQ
  simp only[hp,if_false,aap]
theorem Y9 {n:Nat} {off:Nat} (cs:List V):aQ (n+2) σ (.aK cs off)=(cs.mapM (aQ (n+1) σ)).map (.aK · off):=by
 by_cases hp:aF (.aK cs off)=true
 ·rw[jV hp]
  have:∀cs:List V,aX cs=true->cs.mapM (aQ (n+1) σ)=some cs:=by
   intro cs
   induction cs with
   |nil=>intro _;rfl
   |cons a l ih=>
    intro h
    simp only[aX,aan] at h
    rw[adi,jV h.1,ih h.2];rfl
  rw[this cs (by simpa [aF] using hp)];rfl
 ·conv=>lhs;unfold aQ
  simp only[hp,if_false,aap]
variable (hR:nR R)
include hR
theorem SV {k e:Ty} (m:List (Den R.T k×Den R.T e)):aF (.dG (m.map fun p=>aG R k p.1) (m.map fun p=>aG R e p.2))=true:=by
 simp only[aF,aan]
 have h1:∀m:List (Den R.T k×Den R.T e),aX (m.map fun p=>aG R k p.1)=true/\aX (m.map fun p=>aG R e p.2)=true:=by
  intro m
  induction m with
  |nil=>exact⟨rfl,rfl⟩
  |cons p m ih=>exact⟨by simp[aX,oK hR,ih.1],by simp[aX,oK hR,ih.2]⟩
 exact h1 m
theorem Za:∀(t:Ty) (x:Den R.T t) (v:V),lZ t=true->Rl R ρ top (vK R .any t x) v->∀n σ,aQ (n+2) σ v=some (aG R t x)
 |.int k,x,v,_,h,n,σ=>by rw[Rl.fZ (R:=R) h];exact Rk (n+1) _ _
 |.bool,x,v,_,h,n,σ=>by rw[Rl.pY (R:=R) h];exact Rm (n+1) _
 |.str,x,v,_,h,n,σ=>by rw[Rl.l5 (R:=R) h];exact Rn (n+1) _
 |.slice t,x,v,_,h,n,σ=>by
  obtain⟨c,rfl,_⟩:=Rl.kJ (R:=R) h
  exact xD _ _ (oK hR _)
 |.st n,_,_,h,_,_,_=>by simp[lZ] at h
theorem Dl:∀(l:List Ty) (p:mI R.T l) (vs:List V),l.all lZ=true->au R ρ top (jf R .any l p) vs->∀n σ,vs.mapM (aQ (n+2) σ)=some (encs R l p)
 | [],_,vs,_,h,n,σ=>by rw[au.fB h];rfl
 | [t],x,vs,hl,h,n,σ=>by
   obtain⟨v,l,rfl,h1,h2⟩:=au.dN h
   rw[au.fB h2,adi,Za hR t x v (by simpa using hl) h1];rfl
 |t::u::l,p,vs,hl,h,n,σ=>by
  rw[List.all_cons,aan] at hl
  obtain⟨v,ws,rfl,h1,h2⟩:=au.dN h
  rw[adi,Za hR t p.1 v hl.1 h1,Dl (u::l) p.2 ws hl.2 h2];rfl
theorem aiV (t:Ty) (x:Den R.T t) (vs:List V) (h:au R ρ top (fG R .any t x).cells vs) (n:Nat) (σ:ah):vs.mapM (aQ (n+2) σ)=some (aG R t x).cells:=by
 cases t with
 |st k=>
  have he:aG R (.st k) x= .agg (encs R (R.lf k) (R.of k x)):=hR.enc k x
  rw[he]
  exact Dl hR _ _ vs (hR.leaf k) h n σ
 |int k=>exact Dl hR [.int k] x vs rfl h n σ
 |bool=>exact Dl hR [.bool] x vs rfl h n σ
 |str=>exact Dl hR [.str] x vs rfl h n σ
 |slice t=>exact Dl hR [.slice t] x vs rfl h n σ
theorem Zb {t:Ty} {ρ:aN} {top:Nat->Nat}:∀(l:List (Den R.T t)) (cs:List V),au R ρ top (l.flatMap fun x=>(fG R .any t x).cells) cs->∀(n:Nat) (σ:ah),cs.mapM (aQ (n+2) σ)=some ((l.map (aG R t)).flatMap V.cells)
 | [],cs,h,n,σ=>by rw[au.fB h];rfl
 |x::l,cs,h,n,σ=>by
  rw[afn] at h
  obtain⟨a,b,rfl,h1,h2⟩:=h.split
  rw[List.mapM_append,Zb l b h2 n σ,ac7,afn]
  have:a.mapM (aQ (n+2) σ)=some (aG R t x).cells:=aiV hR t x a h1 n σ
  rw[this];rfl
omit hR in
theorem Zc:∀(t:Ty) (x:Den R.T t) (v:V),lZ t=true->Rl R ρ top (vK R .any t x) v->eP v=aG R t x
 |.int k,x,v,_,h=>by rw[Rl.fZ (R:=R) h];rfl
 |.bool,x,v,_,h=>by rw[Rl.pY (R:=R) h];rfl
 |.str,x,v,_,h=>by rw[Rl.l5 (R:=R) h];rfl
 |.slice t,x,v,_,h=>by
  obtain⟨c,rfl,_⟩:=Rl.kJ (R:=R) h
  rfl
 |.st n,_,_,h,_=>by simp[lZ] at h
omit hR in
theorem Dm:∀(l:List Ty) (p:mI R.T l) (vs:List V),l.all lZ=true->au R ρ top (jf R .any l p) vs->vs.map eP=encs R l p
 | [],_,vs,_,h=>by rw[au.fB h];rfl
 | [t],x,vs,hl,h=>by
   obtain⟨v,l,rfl,h1,h2⟩:=au.dN h
   rw[au.fB h2,ac7,Zc t x v (by simpa using hl) h1];rfl
 |t::u::l,p,vs,hl,h=>by
  rw[List.all_cons,aan] at hl
  obtain⟨v,ws,rfl,h1,h2⟩:=au.dN h
  rw[ac7,Zc t p.1 v hl.1 h1,Dm (u::l) p.2 ws hl.2 h2];rfl
theorem aiW (t:Ty) (x:Den R.T t) (vs:List V) (h:au R ρ top (fG R .any t x).cells vs):vs.map eP=(aG R t x).cells:=by
 cases t with
 |st k=>
  have he:aG R (.st k) x= .agg (encs R (R.lf k) (R.of k x)):=hR.enc k x
  rw[he]
  exact Dm _ _ vs (hR.leaf k) h
 |int k=>exact Dm [.int k] x vs rfl h
 |bool=>exact Dm [.bool] x vs rfl h
 |str=>exact Dm [.str] x vs rfl h
 |slice t=>exact Dm [.slice t] x vs rfl h
theorem Zd {t:Ty} {ρ:aN} {top:Nat->Nat}:∀(l:List (Den R.T t)) (cs:List V),au R ρ top (l.flatMap fun x=>(fG R .any t x).cells) cs->cs.map eP=(l.map (aG R t)).flatMap V.cells
 | [],cs,h=>by rw[au.fB h];rfl
 |x::l,cs,h=>by
  rw[afn] at h
  obtain⟨a,b,rfl,h1,h2⟩:=h.split
  rw[afr,Zd l b h2,ac7,afn,aiW hR t x a h1]
theorem Ze {t:Ty} (l:List (Den R.T t)):chunks (iA t) (dx R t) l.length ((l.map (aG R t)).flatMap V.cells)=l.map (aG R t):=by
 have:=SH (iA t) (dx R t) (l.map (aG R t)) (fun v hv=>by
  obtain⟨x,_,rfl⟩:=ajQ.1 hv
  exact(Di hR t x).1)
 rw[aau] at this
 rw[this,aj1]
 refine al6 fun x _=> ?_
 show (if iA t then V.agg (aG R t x).cells else (aG R t x).cells.headD aC)=aG R t x
 cases hs:iA t
 ·cases t<;>first|rfl| (simp[iA] at hs;done)
 ·obtain⟨c,hc⟩:=(Di hR t x).2.2.2.1 hs
  rw[hc];rfl
theorem Zf {t:Ty} (l:List (Den R.T t)):(iA t||dx R t==1&& bC ((l.map (aG R t)).flatMap V.cells))=true:=by
 cases hs:iA t
 ·have h1:dx R t=1:=by cases t<;>first|rfl| (simp[iA] at hs;done)
  rw[h1]
  have:bC ((l.map (aG R t)).flatMap V.cells)=true:=by
   have:=SI hR l
   unfold bC at this⊢
   rw[List.all_flatMap]
   exact this
  rw[this];rfl
 ·rfl
omit hR in
theorem Zg:∀(a b:List V),aX (a++b)=(aX a&& aX b)
 | [],b=>by simp[aX]
 |x::a,b=>by simp only[List.cons_append,aX];rw[Zg a b,Bool.and_assoc]
omit hR in
theorem LZ (k:IntKind):∀l:List Int,aX (l.map (V.int k))=true
 | []=>by simp[aX]
 |x::l=>by simp only[ac7,aX,Ro,Bool.true_and];exact LZ k l
omit hR in
theorem SX:∀ss:List Sg,aX (bN ss)=true
 | []=>by simp[bN,aX]
 |.i k x::ss=>by show aX (V.int k x::bN ss)=true;unfold aX;rw[SX ss];simp[aF]
 |.a k n v::ss=>by
  show aX (v.l.map (V.int k)++bN ss)=true
  rw[Zg,LZ,SX ss];rfl
omit hR in
theorem SY (ss:List Sg):aF (.agg (bN ss))=true:=by unfold aF;exact SX ss
omit hR in
theorem Zh:∀(a b:List V),jk (a++b)=(jk a&& jk b)
 | [],b=>by simp[jk]
 |x::a,b=>by simp only[List.cons_append,jk];rw[Zh a b,Bool.and_assoc]
omit hR in
theorem Zi (k:IntKind):∀l:List Int,jk (l.map (V.int k))=true
 | []=>by simp[jk]
 |x::l=>by simp only[ac7,jk,flat,Bool.true_and];exact Zi k l
omit hR in
theorem L6:∀ss:List Sg,jk (bN ss)=true
 | []=>by simp[bN,jk]
 |.i k x::ss=>by show jk (V.int k x::bN ss)=true;unfold jk;rw[L6 ss];simp[flat]
 |.a k n v::ss=>by
  show jk (v.l.map (V.int k)++bN ss)=true
  rw[Zh,Zi,L6 ss];rfl
omit hR in
theorem aiX (ss:List Sg):er (.agg (bN ss))= .agg (bN ss):=by
 have:∀ss:List Sg,(bN ss).map eP=bN ss:=by
  intro ss
  induction ss with
  |nil=>rfl
  |cons s ss ih=>
   cases s with
   |i k x=>show eP (.int k x)::(bN ss).map eP=_;rw[ih];rfl
   |a k n v=>
    show (v.l.map (V.int k)++bN ss).map eP=_
    rw[afr,ih,aj1];rfl
 show V.agg ((bN ss).map eP)=_
 rw[this]
omit hR in
theorem qb:∀(a b:List Sg),bN (a++b)=bN a++bN b
 | [],b=>rfl
 |s::a,b=>by show s.vs++bN (a++b)=s.vs++bN a++bN b;rw[qb a b,acF]
omit hR in
theorem Sg.len:∀s:Sg,s.vs.length=s.w
 |.i _ _=>rfl
 |.a _ n v=>by show (v.l.map _).length=n;rw[aau,v.h]
omit hR in
theorem gL:∀ss:List Sg,(bN ss).length=je ss
 | []=>rfl
 |s::ss=>by show (s.vs++bN ss).length=s.w+je ss;rw[iP,s.len,gL ss]
omit hR in
theorem tN:∀{ss:List Sg} {n:Nat} {a b:List Sg},oG ss n=some (a,b)->ss=a++b/\je a=n
 |ss,0,a,b,h=>by
  have h':some (([]:List Sg),ss)=some (a,b):=by cases ss<;>exact h
  cases h';exact⟨rfl,rfl⟩
 | [],n+1,a,b,h=>by cases h
 |s::ss,n+1,a,b,h=>by
  unfold oG at h
  obtain⟨h1,h⟩:=dO h
  split at h
  ·rename_i a' b' h2
   cases h
   obtain⟨e,hw⟩:=tN h2
   have:=ae3 h1
   refine⟨by rw[e];rfl, ?_⟩
   show s.w+je a'=n+1
   omega
  ·cases h
omit hR in
theorem L8 {ρ:aN} {top:Nat->Nat} {k:IntKind}:∀{cs:List (TV R.T)} {xs:List Int} {vs:List V},xH k cs=some xs->au R ρ top cs vs->vs=xs.map (V.int k)
 | [],xs,vs,h,hr=>by cases h;exact hr.fB
 |c::cs,xs,vs,h,hr=>by
  obtain⟨v,ws,rfl,h1,h2⟩:=hr.dN
  cases c<;>first| (exact absurd (show none=some xs from h) (by simp))|skip
  rename_i k' x
  have h':(if k'=k then (match xH k cs with
   |some xs=>some (x::xs)
   |none=>none) else none)=some xs:=h
  split at h'
  ·rename_i e;subst e
   split at h'
   ·rename_i ys hy
    cases h'
    rw[h1.fZ,L8 hy h2];rfl
   ·cases h'
  ·cases h'
omit hR in
theorem S9 (k:IntKind):∀(l:List Int) (rest:List V),chunks false 1 l.length (l.map (V.int k)++rest)=l.map (V.int k)
 | [],rest=>rfl
 |x::l,rest=>by
  show V.int k x::chunks false 1 l.length (l.map (V.int k)++rest)=_
  rw[S9 k l rest];rfl
omit hR in
theorem zR {n:Nat} {lo hi:Option Int} (h:ni n lo hi=true):(dL lo).toNat<=(fV n hi).toNat/\(fV n hi).toNat<=n/\((dL lo).toNat< (fV n hi).toNat\/(dL lo).toNat=0)/\0<=dL lo/\dL lo<=fV n hi:=by
 cases lo<;>cases hi<;>simp only[ni,dL,fV,decide_eq_true_eq] at h⊢ <;>omega
omit hR in
theorem aiY {α:Type} {n:Nat} {lo hi:Option Int} (h:ni n lo hi=true) {l:List α} (hl:l.length=n):Ci l lo hi=(l.drop (dL lo).toNat).take ((fV n hi).toNat-(dL lo).toNat):=by
 obtain⟨h1,h2,_⟩:=zR h
 cases lo<;>cases hi<;>simp only[Ci,dL,fV] at*
 ·simp[hl];rw[agk (by omega)]
 ·simp
 ·rw[agk];rw[aft];omega
 ·rw[List.take_drop];congr 1;congr 1;omega
theorem Zj (hi:aH ρ b st fr σ) {o off n:Nat} {k:IntKind} {lo hi':Option Int} {l:List Int} (h:K8 st o off k n lo hi'=some l) {s:Nat} (hs:ρ.ob o=some s) (hB:ni n lo hi'=true):
 ∃cs,σ.cB (ρ.om.lc o) s=some cs/\off+n<=cs.length/\(cs.drop (off+(dL lo).toNat)).take ((fV n hi').toNat-(dL lo).toNat)=l.map (V.int k)/\l.length=(fV n hi').toNat-(dL lo).toNat:=by
 obtain⟨p1,p2,p3,_,_⟩:=zR hB
 have fin:∀(cs:List V) (xs:List Int),xs.length=n->(cs.drop off).take n=xs.map (V.int k)->off+n<=cs.length->l=Ci xs lo hi'->(cs.drop (off+(dL lo).toNat)).take ((fV n hi').toNat-(dL lo).toNat)=l.map (V.int k)/\l.length=(fV n hi').toNat-(dL lo).toNat:=by
  intro cs xs hx hc hle hl
  rw[aiY hB hx] at hl
  subst hl
  constructor
  ·rw[List.map_take,List.map_drop,<-hc,List.drop_take,List.take_take,List.drop_drop]
   congr 1
   omega
  ·rw[ads,aft];omega
 unfold K8 at h
 split at h
 ·rename_i ss hl
  obtain⟨s',h1,h2⟩:=hi.rd hl
  rw[hs] at h1;cases h1
  split at h
  ·rename_i pre k' n' v post hsp
   by_cases e:k'=k
   ·subst e
    rw[if_pos rfl] at h
    cases e2:Nat.beq n' n
    ·rw[e2] at h;cases h
    rw[e2] at h
    have e2:=d9 e2
    subst e2
    obtain rfl:Ci v.l lo hi'=l:=adG h
    obtain⟨e3,hw⟩:=tN hsp
    refine⟨_,h2, ?_, ?_⟩
    ·rw[e3,gL]
     have:∀a b:List Sg,je (a++b)=je a+je b:=fun a b=>by rw[<-gL,qb,iP,gL,gL]
     rw[this,hw]
     show off+n'<=off+(n'+je post);omega
    ·refine fin _ v.l v.h ?_ ?_ rfl
     ·rw[e3,qb,anW (by rw[gL,hw];exact RS _),amm (by rw[gL,hw];exact RS _),List.nil_append]
      show ((v.l.map (V.int k'))++bN post).take n'=_
      rw[amg (by rw[aau,v.h];exact RS _),agk (by rw[aau,v.h];exact RS _)]
     ·rw[e3,qb,iP,gL,hw,gL]
      show off+n'<=off+(n'+je post);omega
   ·rw[if_neg e] at h;cases h
  ·cases h
 ·rename_i cs hl
  obtain⟨s',vs,h1,h2,h3⟩:=hi.rd hl
  rw[hs] at h1;cases h1
  obtain⟨hb,h⟩:=dO h
  have hb:=ae3 hb
  split at h
  ·rename_i xs hx
   cases h
   have hv:=L8 hx ((h3.drop off).take n)
   have hlen:off+n<=vs.length:=by rw[h3.length];exact hb
   refine⟨vs,h2,hlen,fin vs xs ?_ hv hlen rfl⟩
   have:=congrArg List.length hv
   rw[aau,ads,aft] at this
   omega
  ·cases h
 ·cases h
theorem Zk (hi:aH ρ b st fr σ) {x:TV R.T} {v:V} (h:Rl R ρ σ.top x v):∃v',Rl R ρ σ.top (uD st x) v'/\∀n,aQ (n+3) σ v=aQ (n+3) σ v':=by
 by_cases hx:∃o off,x= .ref o off
 ·obtain⟨o,off,rfl⟩:=hx
  unfold uD
  dsimp only
  split
  ·rename_i cs hl
   obtain⟨s,h1,rfl⟩:=h.oJ
   obtain⟨s',l,h2,h3,h4⟩:=hi.rd hl
   rw[h1] at h2;cases h2
   refine⟨.aK l off,by unfold Rl;exact⟨l,rfl,h4⟩,fun n=> ?_⟩
   rw[Y9]
   conv=>lhs;unfold aQ
   simp only[aF,aap,if_false,h3,Option.bind_some]
  ·exact⟨v,h,fun _=>rfl⟩
 ·by_cases hy:∃o,x= .bP o
  ·obtain⟨o,rfl⟩:=hy
   unfold uD
   dsimp only
   split
   ·rename_i k e m hl
    obtain⟨s,h1,rfl⟩:=h.vT
    obtain⟨s',h2,h3⟩:=hi.rd hl
    rw[h1] at h2;cases h2
    refine⟨.dG (m.map fun p=>aG R k p.1) (m.map fun p=>aG R e p.2),by unfold Rl;rfl,fun n=> ?_⟩
    have hp:=SV hR m
    rw[jV hp]
    have hp':=hp
    simp only[aF,aan] at hp'
    have key:∀cs:List V,aX cs=true->cs.mapM (aQ (n+2) σ)=some cs:=by
     intro cs
     induction cs with
     |nil=>intro _;rfl
     |cons a l ih=>
      intro h
      simp only[aX,aan] at h
      rw[adi,jV h.1,ih h.2];rfl
    conv=>lhs;unfold aQ
    simp only[aF,aap,if_false,h3,Option.bind_some,key _ hp'.1,key _ hp'.2,Option.map_some]
   ·exact⟨v,h,fun _=>rfl⟩
  ·by_cases hz:∃o t,x= .vw o t
   ·obtain⟨o,t,rfl⟩:=hz
    unfold uD
    dsimp only
    split
    ·rename_i t' l hl
     split
     ·rename_i e
      subst e
      have hO:=hi.rd hl
      refine⟨.aj .sh (l.map (aG R t')),by unfold Rl;exact⟨.sh,rfl,rfl⟩,fun n=> ?_⟩
      rw[xD _ _ (oK hR t')]
      rcases h.zL with ⟨s,h1,rfl⟩| ⟨h1,h2⟩
      ·rcases hO.2 with h2| ⟨s',cs,h2,h3,h4⟩
       ·rw[h1] at h2;exact absurd h2.2 (by simp)
       ·rw[h1] at h2;cases h2
        have hlc:cs.length=l.length*dx R t':=by rw[h4.length,Gz]
        have hlen:l.length=ρ.ln o:=hO.1
        conv=>lhs;unfold aQ
        simp only[aF,aap,if_false,h3,Option.bind_some,ae5,al9]
        rw[if_pos (by rw[hlc,hlen];exact RS _),agk (by rw[hlc,hlen];exact RS _),Zb hR l cs h4 n σ]
        simp only[Option.bind_some]
        rw[<-hlen,Ze hR l,Zf hR l,if_pos rfl]
        rfl
      ·have hl0:l=[]:=adK (hO.1.trans h1)
       subst hl0
       rcases h2 with rfl|rfl<;>exact xD _ ([]:List (Den R.T t')) (oK hR t')
     ·exact⟨v,h,fun _=>rfl⟩
    ·exact⟨v,h,fun _=>rfl⟩
   ·by_cases hz2:∃o off k n lo hi,x= .sv o off k n lo hi
    ·obtain⟨o,off,k,n,lo,hi',rfl⟩:=hz2
     unfold uD
     dsimp only
     split
     ·rename_i l hl
      obtain⟨s,h1,hB,rfl⟩:=h.xV
      obtain⟨cs,c1,c2,c3,c4⟩:=Zj hR hi hl h1 hB
      obtain⟨p1,p2,p3,_,_⟩:=zR hB
      refine⟨.aj .sh (l.map (V.int k)),by unfold Rl;exact⟨.sh,rfl,rfl⟩,fun m=> ?_⟩
      have hcl:aQ (m+3) σ (.aj .sh (l.map (V.int k)))=some (.aj .sh (l.map (V.int k))):=jV (by unfold aF;exact LZ k l)
      rw[hcl]
      conv=>lhs;unfold aQ
      simp only[aF,aap,if_false,c1,Option.bind_some,Nat.mul_one]
      rw[if_pos (by omega),c3]
      have key:∀cs:List V,aX cs=true->cs.mapM (aQ (m+2) σ)=some cs:=by
       intro cs
       induction cs with
       |nil=>intro _;rfl
       |cons a l ih=>
        intro h
        simp only[aX,aan] at h
        rw[adi,jV h.1,ih h.2];rfl
      rw[key _ (LZ k l)]
      simp only[Option.bind_some]
      have hone:bC (l.map (V.int k))=true:=by unfold bC;rw[List.all_map];simp[oneCell]
      rw[hone,<-c4]
      have:=S9 k l []
      rw[aeX] at this
      rw[this];rfl
     ·exact⟨v,h,fun _=>rfl⟩
    ·have:uD st x=x:=by cases x<;>first|rfl|exact absurd ⟨_,_,rfl⟩ hx|exact absurd ⟨_,rfl⟩ hy|exact absurd ⟨_,_,rfl⟩ hz|exact absurd ⟨_,_,_,_,_,_,rfl⟩ hz2
     rw[this];exact⟨v,h,fun _=>rfl⟩
theorem Ma (hi:aH ρ b st fr σ):∀{x:List (TV R.T)} {v:List V},au R ρ σ.top x v->∃v',au R ρ σ.top (F7 st x) v'/\∀n,v.mapM (aQ (n+3) σ)=v'.mapM (aQ (n+3) σ)
 | [],v,h=>by rw[h.fB];exact⟨[],rfl,fun _=>rfl⟩
 |x::xs,v,h=>by
  obtain⟨w,ws,rfl,h1,h2⟩:=h.dN
  obtain⟨w',a1,a2⟩:=Zk hR hi h1
  obtain⟨ws',b1,b2⟩:=Ma hi h2
  exact⟨w'::ws',.cons' a1 b1,fun n=>by rw[adi,adi,a2,b2]⟩
theorem aiZ (hi:aH ρ b st fr σ) {x:TV R.T} {v:V} (h:Rl R ρ σ.top x v):∃v',Rl R ρ σ.top (zC st x) v'/\∀n,aQ (n+4) σ v=aQ (n+4) σ v':=by
 by_cases hx:∃f a b,x= .fn f a b
 ·obtain⟨f,a,b,rfl⟩:=hx
  obtain⟨a',b',rfl,ha,hb⟩:=h.mP
  obtain⟨va,a1,a2⟩:=Ma hR hi ha
  obtain⟨vb,b1,b2⟩:=Ma hR hi hb
  refine⟨.fn (.func f) va vb,⟨va,vb,rfl,a1,b1⟩,fun n=> ?_⟩
  rw[SS,SS,a2,b2]
 ·by_cases hy:∃cs,x= .agg cs
  ·obtain⟨cs,rfl⟩:=hy
   obtain⟨l,rfl,hl⟩:=h.kI
   obtain⟨v',a1,a2⟩:=Ma hR hi hl
   refine⟨.agg v',by unfold zC;unfold Rl;exact⟨v',rfl,a1⟩,fun n=> ?_⟩
   rw[Sc,Sc,a2]
  ·have:zC st x=uD st x:=by cases x<;>first|rfl|exact absurd ⟨_,_,_,rfl⟩ hx|exact absurd ⟨_,rfl⟩ hy
   rw[this]
   obtain⟨v',h1,h2⟩:=Zk hR hi h
   exact⟨v',h1,fun n=>h2 (n+1)⟩
theorem GA (hi:aH ρ b st fr σ):∀{x:List (TV R.T)} {v:List V},au R ρ σ.top x v->∃v',au R ρ σ.top (nQ st x) v'/\∀n,v.mapM (aQ (n+4) σ)=v'.mapM (aQ (n+4) σ)
 | [],v,h=>by rw[h.fB];exact⟨[],rfl,fun _=>rfl⟩
 |x::xs,v,h=>by
  obtain⟨w,ws,rfl,h1,h2⟩:=h.dN
  obtain⟨w',a1,a2⟩:=aiZ hR hi h1
  obtain⟨ws',b1,b2⟩:=GA hi h2
  exact⟨w'::ws',.cons' a1 b1,fun n=>by rw[adi,adi,a2,b2]⟩
mutual
theorem Zl:∀(k:Sk) (x:qL R.T k) (tv:TV R.T) (v:V),lI k=true->pk R k tv=some x->Rl R ρ top tv v->∀n σ,dep k<=n->aQ n σ v=some (encS R k x)
 |.d t,x,tv,v,_,h,hr,n,σ,hn=>by
  obtain⟨m,rfl⟩:∃m,n=m+3:=⟨n-3,by have:3<=n:=hn;omega⟩
  exact(Sd hR (show oD R t tv=some x from h) hr).2.2.1 m σ
 |.l c t,x,tv,v,_,h,hr,n,σ,hn=>by
  obtain⟨m,rfl⟩:∃m,n=m+3:=⟨n-3,by have:3<=n:=hn;omega⟩
  obtain⟨c',rfl,_⟩:=(YA (show La R c t tv=some x from h) hr).kJ
  exact xD _ _ (oK hR _)
 |.agg l,x,tv,v,hc,h,hr,n,σ,hn=>by
  cases tv<;>first| (exact absurd (show none=some x from h) (by simp))|skip
  rename_i cs
  obtain⟨vs,rfl,hl⟩:=hr.kI
  unfold dep at hn
  obtain⟨m,rfl⟩:∃m,n=m+2:=⟨n-2,by omega⟩
  rw[XP,rZ l x cs vs (by unfold lI at hc;exact hc) h hl (m+1) σ (by omega)];rfl
 |.aK l off,x,tv,v,hc,h,hr,n,σ,hn=>by
  cases tv<;>first| (exact absurd (show none=some x from h) (by simp))|skip
  rename_i cs off'
  have h':(bif Nat.beq off' off then fU R l cs else none)=some x:=h
  obtain⟨hb,h'⟩:=dO h'
  rw[d9 hb] at hr
  obtain⟨vs,rfl,hl⟩:=hr.tK
  unfold dep at hn
  obtain⟨m,rfl⟩:∃m,n=m+2:=⟨n-2,by omega⟩
  rw[Y9,rZ l x cs vs (by unfold lI at hc;exact hc) h' hl (m+1) σ (by omega)];rfl
 |.dG k e,x,tv,v,_,h,hr,n,σ,hn=>by
  cases tv<;>first| (exact absurd (show none=some x from h) (by simp))|skip
  rename_i k' e' m
  obtain⟨e1,e2,e3⟩:=Sn (show Cm R m=some x from h)
  subst e1;subst e2;cases e3
  obtain⟨m',rfl⟩:∃m,n=m+3:=⟨n-3,by have:3<=n:=hn;omega⟩
  rw[hr.CY]
  exact jV (SV hR m)
 |.fn f a b,x,tv,v,hc,h,hr,n,σ,hn=>by
  cases tv<;>first| (exact absurd (show none=some x from h) (by simp))|skip
  rename_i f' a' b'
  have h':(bif Nat.beq f' f then (match fU R a a' with
   |some x=>match fU R b b' with
    |some y=>some (x,y)
    |none=>none
   |none=>none) else none)=some x:=h
  obtain⟨hb,h'⟩:=dO h'
  rw[d9 hb] at hr
  obtain⟨va,vb,rfl,ha,hbb⟩:=hr.mP
  unfold lI at hc
  rw[aan] at hc
  unfold dep at hn
  obtain⟨m,rfl⟩:∃m,n=m+2:=⟨n-2,by omega⟩
  cases h1:fU R a a' with
  |none=>simp only[h1] at h';cases h'
  |some y=>
   cases h2:fU R b b' with
   |none=>simp only[h1,h2] at h';cases h'
   |some z=>
    simp only[h1,h2] at h';cases h'
    rw[SS,rZ a y a' va hc.1 h1 ha (m+1) σ (by omega),rZ b z b' vb hc.2 h2 hbb (m+1) σ (by omega)];rfl
 |.ref _ _,_,_,_,h,_,_,_,_,_=>by simp[lI] at h
 |.bP _,_,_,_,h,_,_,_,_,_=>by simp[lI] at h
 |.dX,_,_,_,h,_,_,_,_,_=>by simp[lI] at h
 |.vw _ _,_,_,_,h,_,_,_,_,_=>by simp[lI] at h
 |.sg l,x,tv,v,_,h,hr,n,σ,hn=>by
  cases tv<;>first| (exact absurd (show none=some x from h) (by simp))|skip
  rename_i ss
  obtain⟨m,rfl⟩:∃m,n=m+1:=⟨n-1,by have:3<=n:=hn;omega⟩
  rw[hr.Gr]
  show _=some (V.agg (bN (tq l x)))
  rw[LM (show vJ l ss=some x from h)]
  exact jV (SY ss)
 |.undef,_,_,_,h,_,_,_,_,_=>by simp[lI] at h
theorem rZ:∀(l:List Sk) (x:aA R.T l) (cs:List (TV R.T)) (vs:List V),iO l=true->fU R l cs=some x->au R ρ top cs vs->∀n σ,oH l<=n->vs.mapM (aQ n σ)=some (bG R l x)
 | [],x,cs,vs,_,h,hr,n,σ,hn=>by
   cases cs with
   |nil=>rw[hr.fB];rfl
   |cons c cs=>exact absurd (show none=some x from h) (by simp)
 | [k],x,cs,vs,hc,h,hr,n,σ,hn=>by
   unfold iO at hc
   rw[aan] at hc
   unfold oH at hn
   cases cs with
   |nil=>exact absurd (show none=some x from h) (by simp)
   |cons c cs=>
    cases cs with
    |nil=>
     obtain⟨v,l,rfl,h1,h2⟩:=hr.dN
     rw[h2.fB,adi,Zl k x c v hc.1 h h1 n σ (by omega)];rfl
    |cons c' cs=>exact absurd (show none=some x from h) (by simp)
 |k::k'::l,x,cs,vs,hc,h,hr,n,σ,hn=>by
  unfold iO at hc
  rw[aan] at hc
  unfold oH at hn
  cases cs with
  |nil=>exact absurd (show none=some x from h) (by simp)
  |cons c cs=>
   have h':(match pk R k c with
    |some x=>match fU R (k'::l) cs with
     |some p=>some (x,p)
     |none=>none
    |none=>none)=some x:=h
   obtain⟨v,vs,rfl,h1,h2⟩:=hr.dN
   cases hu:pk R k c with
   |none=>simp only[hu] at h';cases h'
   |some y=>
    cases hs:fU R (k'::l) cs with
    |none=>simp only[hu,hs] at h';cases h'
    |some q=>
     simp only[hu,hs] at h'
     obtain rfl:=adG h'
     rw[adi,Zl k y c v hc.1 hu h1 n σ (by omega),rZ (k'::l) q cs vs hc.2 hs h2 n σ (by omega)];rfl
end
mutual
theorem Mc:∀(tv:TV R.T) (v:V),kD tv=true->Rl R ρ top tv v->aF v=true
 |.int _ _,v,_,h=>by rw[h.fZ];exact Ro _ _
 |.bool _,v,_,h=>by rw[h.pY];exact Rp _
 |.gQ _,v,_,h=>by rw[h.tJ];exact Rp _
 |.str _,v,_,h=>by rw[h.l5];exact XL _
 |.fJ,v,_,h=>by unfold Rl at h;subst h;simp[aF]
 |.fF,v,_,h=>by unfold Rl at h;subst h;simp[aF]
 |.eZ,v,_,h=>by unfold Rl at h;subst h;simp[aF]
 |.gH,v,_,h=>by unfold Rl at h;subst h;simp[aF]
 |.aj c t l,v,hs,h=>by
  cases c<;>simp only[kD,aap] at hs
  obtain⟨c',rfl,hc⟩:=h.kJ
  obtain rfl:c'= .sh:=hc
  exact FZ (oK hR t) l
 |.agg cs,v,hs,h=>by
  obtain⟨l,rfl,hl⟩:=h.kI
  unfold aF;exact yg cs l (by unfold kD at hs;exact hs) hl
 |.bE cs,v,hs,h=>by
  obtain⟨l,rfl,hl⟩:=h.LD
  unfold aF;exact yg cs l (by unfold kD at hs;exact hs) hl
 |.dG k e m,v,_,h=>by rw[h.CY];exact SV hR m
 |.fn f a b,v,hs,h=>by
  obtain⟨a',b',rfl,ha,hb⟩:=h.mP
  unfold kD at hs
  rw[aan] at hs
  unfold aF;rw[yg a a' hs.1 ha,yg b b' hs.2 hb];rfl
 |.dX,_,hs,_=>by simp[kD] at hs
 |.ref _ _,_,hs,_=>by simp[kD] at hs
 |.aK cs off,v,hs,h=>by
  obtain⟨l,rfl,hl⟩:=h.tK
  unfold aF;exact yg cs l (by unfold kD at hs;exact hs) hl
 |.vw _ _,_,hs,_=>by simp[kD] at hs
 |.jW _ _ _ _,_,hs,_=>by simp[kD] at hs
 |.sg ss,v,_,h=>by rw[h.Gr];exact SY ss
 |.sv _ _ _ _ _ _,_,hs,_=>by simp[kD] at hs
 |.sel _ _ _ _ _ _,_,hs,_=>by simp[kD] at hs
 |.qK _ _ _ _,_,hs,_=>by simp[kD] at hs
 |.bP _,_,hs,_=>by simp[kD] at hs
 |.opt _ _ _,_,hs,_=>by simp[kD] at hs
 |.undef,_,hs,_=>by simp[kD] at hs
 |.gone,_,hs,_=>by simp[kD] at hs
theorem yg:∀(l:List (TV R.T)) (vs:List V),pO l=true->au R ρ top l vs->aX vs=true
 | [],vs,_,h=>by rw[h.fB];rfl
 |x::l,vs,hs,h=>by
  obtain⟨v,ws,rfl,h1,h2⟩:=h.dN
  unfold pO at hs
  rw[aan] at hs
  unfold aX;rw[Mc x v hs.1 h1,yg l ws hs.2 h2];rfl
end
theorem Zm {x:TV R.T} {v:V} (hs:F8 x=true) (h:Rl R ρ top x v):aF (eP v)=true:=by
 have key:kD x=true->aF (eP v)=true:=fun hs=>by
  have:=Mc hR x v hs h
  cases v with
  |aj c l=>cases c<;>simp[aF] at this<;>simpa [eP,aF] using this
  |_=>exact this
 cases x<;>first|exact key hs|skip
 ·rw[h.p8];simp[eP,aF,aX]
 ·obtain⟨c',rfl,hc⟩:=h.kJ
  exact FZ (oK hR _) _
theorem Zn:∀{x:List (TV R.T)} {v:List V},K9 x=true->au R ρ top x v->aX (v.map eP)=true
 | [],vs,_,h=>by rw[h.fB];rfl
 |x::l,vs,hs,h=>by
  obtain⟨v,ws,rfl,h1,h2⟩:=h.dN
  unfold K9 at hs
  rw[aan] at hs
  rw[ac7];unfold aX;rw[Zm hR hs.1 h1,Zn hs.2 h2];rfl
theorem ai0 {x:TV R.T} {v:V} (hs:XW x=true) (h:Rl R ρ top x v):aF (er v)=true:=by
 by_cases hx:∃cs,x= .agg cs
 ·obtain⟨cs,rfl⟩:=hx
  obtain⟨l,rfl,hl⟩:=h.kI
  show aF (.agg (l.map eP))=true
  unfold aF;exact Zn hR hs hl
 ·by_cases hy:∃ss,x= .sg ss
  ·obtain⟨ss,rfl⟩:=hy
   rw[h.Gr,aiX];exact SY ss
  have hs':F8 x=true:=by cases x<;>first|exact hs|exact absurd ⟨_,rfl⟩ hx
  have h1:=Zm hR hs' h
  have hne:∀cs,v≠ .agg cs:=by
   rintro cs rfl
   cases x<;>first|exact hy ⟨_,rfl⟩| (unfold Rl at h;simp at h;done)|exact hx ⟨_,rfl⟩| (simp[F8,kD] at hs';done)
  rw[ah2 hne];exact h1
theorem GD:∀{x:List (TV R.T)} {v:List V},xK x=true->au R ρ top x v->v.all (fun a=>aF (er a))=true
 | [],vs,_,h=>by rw[h.fB];rfl
 |x::l,vs,hs,h=>by
  obtain⟨v,ws,rfl,h1,h2⟩:=h.dN
  unfold xK at hs
  rw[aan] at hs
  rw[List.all_cons,ai0 hR hs.1 h1,GD hs.2 h2];rfl
theorem Ta:∀(l:List Sk) (x:aA R.T l),Cj l=true->jk (bG R l x)=true
 | [],x,_=>rfl
 | [k],x,h=>by
   cases k<;>simp only[Cj,Bool.and_true,aap] at h
   ·rename_i t
    show (flat (aG R t x)&& jk [])=true
    cases t<;>simp only[Rz,aap] at h<;>rfl
   ·rename_i ks
    show (flat (.agg (bN (tq ks x)))&& jk [])=true
    unfold flat;rw[L6];rfl
 |k::k'::l,x,h=>by
  cases k<;>simp only[Cj,aap] at h
  ·rename_i t
   rw[aan] at h
   show (flat (aG R t x.1)&& jk (bG R (k'::l) x.2))=true
   rw[Ta (k'::l) x.2 h.2]
   have:=h.1
   cases t<;>simp only[Rz,aap] at this<;>rfl
  ·rename_i ks
   show (flat (.agg (bN (tq ks x.1)))&& jk (bG R (k'::l) x.2))=true
   rw[Ta (k'::l) x.2 h]
   unfold flat;rw[L6];rfl
omit hR in
theorem ai1 {vs:List V} (h:jk vs=true):flat (lJ vs)=true:=by
 match vs with
 | []=>simp[lJ,flat,jk]
 | [v]=>simp only[jk,Bool.and_true] at h;exact h
 |v::w::vs=>show flat (.bE _)=true;unfold flat;exact h
mutual
theorem Zo:∀(k:Sk) (x:qL R.T k),lI k=true->Rl R ρ top (up R .sh k x) (encS R k x)
 |.d t,x,_=>Yh hR t x
 |.l c t,x,h=>by
  refine⟨.sh,rfl, ?_⟩
  cases c<;>first|trivial|rfl| (simp[lI] at h;done)
 |.agg l,x,h=>⟨_,rfl,vZ l x (by unfold lI at h;exact h)⟩
 |.aK l off,x,h=>⟨_,rfl,vZ l x (by unfold lI at h;exact h)⟩
 |.dG k e,x,_=>rfl
 |.fn f a b,x,h=>by
  unfold lI at h
  rw[aan] at h
  exact⟨_,_,rfl,vZ a x.1 h.1,vZ b x.2 h.2⟩
 |.ref _ _,_,h=>by simp[lI] at h
 |.bP _,_,h=>by simp[lI] at h
 |.dX,_,h=>by simp[lI] at h
 |.vw _ _,_,h=>by simp[lI] at h
 |.sg l,x,_=>rfl
 |.undef,_,h=>by simp[lI] at h
theorem vZ:∀(l:List Sk) (x:aA R.T l),iO l=true->au R ρ top (gJ R .sh l x) (bG R l x)
 | [],_,_=>rfl
 | [k],x,h=>by
   unfold iO at h
   rw[aan] at h
   exact .cons' (Zo k x h.1) rfl
 |k::k'::l,x,h=>by
  unfold iO at h
  rw[aan] at h
  exact .cons' (Zo k x.1 h.1) (vZ (k'::l) x.2 h.2)
end
omit hR in
theorem ai2 {x:List (TV R.T)} {v:List V} (h:au R ρ top x v):Rl R ρ top (X4 R x) (lJ v):=by
 match x,h with
 | [],h=>rw[h.fB];exact⟨[],rfl,rfl⟩
 | [a],h=>
   obtain⟨v,vs,rfl,h1,h2⟩:=h.dN
   rw[h2.fB];exact h1
 |a::b::l,h=>
  obtain⟨v,vs,rfl,h1,h2⟩:=h.dN
  obtain⟨w,ws,rfl,h3,h4⟩:=h2.dN
  exact⟨_,rfl,.cons' h1 (.cons' h3 h4)⟩
def Zp:List V->List V
 |_::l=>.aj .nil []::l
 | []=>[]
def bH (E:Env) (F:Nat->List (FR R)):Prop:=∀f,∀r∈F f,∀p x,r.F p=some x->(iO r.args=true->Pure E f (bG R r.args p) (lJ (bG R r.res x)))/\
 (r.own=true->∀(τ:Ty) (h:r.res=[.d (.slice τ)]) (l:List (Den R.T τ)),(h▸x:aA R.T [.d (.slice τ)])=l->
   (iO r.args=true->E.vB f=false/\oC E f (bG R r.args p) (dx R τ) (l.map (aG R τ)))/\
   (iO r.args=false->E.vB f=true/\oC E f (Zp (bG R r.args p)) (dx R τ) (l.map (aG R τ))))
theorem Zq {F:Nat->List (FR R)} (hF:bH E F) {f:Nat} {c:Call} {fo:Operand} {o:Oper} {ay:Nat} {a' b':List V} (ho:o.op= .call c) (fu:c.callee= .value fo) (hf:fr.ev E fo= .fn (.func f) a' b') (hi:E.imp f=false) {args:List (TV R.T)}
 (ha:au R ρ σ.top args (a'++c.args.toList.map (fr.ev E)++b')) (hi':aH ρ b st fr σ):∀{l:List (FR R)} {r:dV R},(∀x∈l,x∈F f)->findF R args (nQ st args) l=some r->rY E st ρ ay fr σ o r
 | [],r,_,h=>by cases h
 |q::l,r,hl,h=>by
  unfold findF at h
  split at h
  ·rename_i p hp
   obtain⟨hc,h⟩:=dO h
   cases h
   simp only[aan] at hc
   obtain⟨⟨⟨c1,c2⟩,c3⟩,c4⟩:=hc
   intro x hx
   have hP:=(hF f q (hl q (by simp)) p x hx).1 c1
   obtain⟨vs',v1,v2⟩:=GA hR hi' ha
   have GH:=rZ hR q.args p (nQ st args) _ c1 hp v1 20 σ (by have:=ae3 c2;omega)
   have has:=(v2 16).trans GH
   have hcl:((a'++c.args.toList.map (fr.ev E)++b').all (fun x=>aF (er x))||flat (lJ (bG R q.res x)))=true:=by
    rw[al5] at c4⊢
    rcases c4 with c4|c4
    ·exact .inl (GD hR c4 ha)
    ·exact .inr (ai1 (Ta hR _ _ c4))
   exact⟨lJ (bG R q.res x),⟨fun dW _ _ _ hw h'=>OW.call hw ho fu hf hi has hP hcl h' (YM ho fu hf dW),fun dW _ _ _ _ _ hw h'=>dU.call hw ho fu hf hi has hP hcl h' (YM ho fu hf dW)⟩,ai2 (vZ hR _ _ c3)⟩
  ·exact Zq hF ho fu hf hi ha hi' (fun x hx=>hl x (by simp[hx])) h
theorem ai3 {t:TypeId} {x i:TV R.T} {v w:V} {r:dV R} (h:RL E R t x i=some r) (hx:Rl R ρ top x v) (hi:Rl R ρ top i w):oN ρ top (nZ E.P t v w) r:=by
 unfold RL at h
 split at h
 ·rename_i e c u l k n hu
  split at h
  ·rename_i sz hs
   obtain⟨hb,h⟩:=dO h
   cases h
   have:=d9 hb;subst this
   obtain⟨c',rfl,_⟩:=hx.kJ
   rw[hi.fZ]
   intro a ha
   refine⟨.aK (aG R u a).cells 0, ?_, ?_⟩
   ·rw[Rq,if_pos (by unfold sZ;rw[hu])]
    have:kU E.P t=some e:=by unfold kU;rw[hu]
    rw[this];simp only[Option.bind_some,hs,ha]
    rw[if_pos (Di hR u a).1]
   ·unfold Rl
    refine⟨_,rfl,(uJ ?_ (Yh hR u a)).1⟩
    cases u<;>rfl
  ·cases h
 ·rename_i n e o off k m hu
  split at h
  ·rename_i sz hs
   cases h
   obtain⟨s,h1,rfl⟩:=hx.oJ
   rw[hi.fZ]
   intro hc
   have hc':0<=m/\m<n:=of_decide_eq_true hc
   refine⟨.ref (ρ.om.lc o) s (off+m.toNat*sz), ?_,by unfold Rl;exact⟨s,h1,rfl⟩⟩
   unfold nZ;rw[hu];dsimp only;rw[hs]
   simp[idx,mq,hc']
  ·cases h
 ·rename_i n e cs off k m hu
  split at h
  ·rename_i sz hs
   cases h
   obtain⟨l,rfl,h1⟩:=hx.tK
   rw[hi.fZ]
   intro hc
   have hc':0<=m/\m<n:=of_decide_eq_true hc
   refine⟨.aK l (off+m.toNat*sz), ?_,by unfold Rl;exact⟨l,rfl,h1⟩⟩
   unfold nZ;rw[hu];dsimp only;rw[hs]
   simp[idx,mq,hc']
  ·cases h
 ·cases h
omit hR in
theorem ai4 {t:TypeId} {x i:TV R.T} {v w:V} {r:dV R} (h:RU E R t x i=some r) (hx:Rl R ρ top x v) (hi:Rl R ρ top i w):oN ρ top (vo E.P t v w) r:=by
 unfold RU at h
 split at h
 ·rename_i s k n hu
  cases h
  rw[hx.l5,hi.fZ]
  intro a ha
  refine⟨.int .u8 ((a.toNat:Nat):Int), ?_,by unfold Rl;rfl⟩
  rw[XV (by unfold F3;rw[hu]),ha];rfl
 ·cases h
end
end Aq
end
