import Derived.Test.YtabmooekodficaaF2110
set_option linter.all false
namespace Aq
open Go
section
variable {R:Reg} {E:Env}
variable {ρ:ak} {top:Nat->Nat} {b ah:Nat} {st:MS R.T} {fr:Fr} {σ:Sig} {o:Oper}
theorem NR {x:TV R.T} (h:notG x=true):notG (erM x)=true:=by cases x<;>first|exact h|rfl
theorem Ea {top:Nat->Nat} {x:TV R.T} {v:V} (hs:stV (er1M x)=true) (h:Rl R ρ top x v):Rl R ρ top (er1M x) (aP v):=by
 cases x with
 |lst c t l=>obtain⟨c',rfl,hc⟩:=h.bW;unfold er1M Rl;exact⟨.sh,rfl,rfl⟩
 |int k n=>rw[h.inv_int] at*;exact h
 |bool b=>rw[h.fA] at*;exact h
 |blit b=>rw[h.ig] at*;exact h
 |str s=>rw[h.dH] at*;exact h
 |agg cs=>obtain⟨l,rfl,hl⟩:=h.bY;exact h
 |tup cs=>obtain⟨l,rfl,hl⟩:=h.mX;exact h
 |mapc k e m=>rw[h.ku] at*;exact h
 |fn f a b=>obtain⟨a',b',rfl,ha,hb⟩:=h.dn;exact h
 |cref cs off=>obtain⟨l,rfl,hl⟩:=h.gy;exact h
 |sg ss=>rw[h.mY] at*;exact h
 |nilp=>unfold Rl at h;subst h;unfold er1M Rl;rfl
 |nilf=>unfold Rl at h;subst h;unfold er1M Rl;rfl
 |nilm=>unfold Rl at h;subst h;unfold er1M Rl;rfl
 |nili=>unfold Rl at h;subst h;unfold er1M Rl;rfl
 |_=>simp[er1M,stV] at hs
theorem Eb {top:Nat->Nat}:∀{l:List (TV R.T)} {vs:List V},stL (er1Ms l)=true->RlL R ρ top l vs->RlL R ρ top (er1Ms l) (vs.map aP)
 | [],vs,_,h=>by rw[h.inv_nil];rfl
 |x::l,vs,hs,h=>by
  obtain⟨v,ws,rfl,h1,h2⟩:=h.inv_cons
  unfold er1Ms stL at hs
  rw[iP] at hs
  exact .cons' (Ea hs.1 h1) (Eb hs.2 h2)
theorem NS {top:Nat->Nat} {x:TV R.T} {v:V} (hs:stV (er1M x)=true) (hg:notG x=true) (hn:∀cs,x≠ .agg cs) (h:Rl R ρ top x v):er v=aP v:=by
 cases x with
 |lst c t l=>obtain⟨c',rfl,hc⟩:=h.bW;rfl
 |int k n=>rw[h.inv_int];rfl
 |bool b=>rw[h.fA];rfl
 |blit b=>rw[h.ig];rfl
 |str s=>rw[h.dH];rfl
 |agg cs=>exact absurd rfl (hn cs)
 |tup cs=>obtain⟨l,rfl,hl⟩:=h.mX;rfl
 |mapc k e m=>rw[h.ku];rfl
 |fn f a b=>obtain⟨a',b',rfl,ha,hb⟩:=h.dn;rfl
 |cref cs off=>obtain⟨l,rfl,hl⟩:=h.gy;rfl
 |sg ss=>cases hg
 |nilp=>unfold Rl at h;subst h;rfl
 |nilf=>unfold Rl at h;subst h;rfl
 |nilm=>unfold Rl at h;subst h;rfl
 |nili=>unfold Rl at h;subst h;rfl
 |_=>simp[er1M,stV] at hs
theorem NT {top:Nat->Nat} {x:TV R.T} {v:V} (hs:(stV (erM x)&& notG x)=true) (h:Rl R ρ top x v):Rl R ρ top (erM x) (er v):=by
 rw[iP] at hs
 have key:(∀cs,x≠ .agg cs)->erM x=er1M x:=fun hne=>by cases x<;>first|rfl|exact absurd rfl (hne _)
 cases x with
 |agg cs=>
  obtain⟨l,rfl,hl⟩:=h.bY
  unfold erM Rl
  exact⟨_,rfl,Eb (by have:=hs.1;unfold erM stV at this;exact this) hl⟩
 |sg ss=>cases hs.2
 |_=>
  rw[key (fun _ e=>by cases e)] at hs⊢
  have h1:=Ea hs.1 h
  rw[NS hs.1 hs.2 (fun _ e=>by cases e) h];exact h1
theorem fB.val {v:Option V} {r:Res R} (hv:eB ρ σ.top v r) (ho:∀y,v=some y->opV E fr σ ah o=some (y,σ)):fB E st ρ ah fr σ o r:=by
 cases r with
 |t x=>obtain⟨y,e,hr⟩:=hv;exact⟨y,.bC (ho y e),hr⟩
 |c c x=>intro hc;obtain⟨y,e,hr⟩:=hv hc;exact⟨y,.bC (ho y e),hr⟩
 |p α d o' f=>intro a ha;obtain⟨y,e,hr⟩:=hv a ha;exact⟨y,.bC (ho y e),hr⟩
 |w x s=>exact hv.elim
 |wc c x s=>exact hv.elim
theorem fB.tt {x:TV R.T} {y:V} (ho:opV E fr σ ah o=some (y,σ)) (hr:Rl R ρ σ.top x y):fB E st ρ ah fr σ o (.t x):=⟨y,.bC ho,hr⟩
theorem qh {x:Operand}:bE E fr (some x)=some (fr.ev E x):=rfl
theorem Ec {top:Nat->Nat} {x y v:TV R.T} {w:V} (h:muxM true x y=some v) (hx:Rl R ρ top x w):Rl R ρ top v w:=by
 unfold muxM at h
 split at h<;>try cases h
 ·split at h
  ·cases h;exact hx
  ·cases h
 all_goals first|exact hx| (unfold Rl at hx⊢;exact hx)
theorem Ed {top:Nat->Nat} {x y v:TV R.T} {w:V} (h:muxM false x y=some v) (hx:Rl R ρ top y w):Rl R ρ top v w:=by
 unfold muxM at h
 split at h<;>try cases h
 ·split at h
  ·rename_i e;subst e;cases h;exact hx
  ·cases h
 all_goals first|exact hx| (unfold Rl at hx⊢;exact hx)
theorem nJ {c a' b':Operand} {t:Bool} (hop:o.op= .pick c a' b') (hc:fr.ev E c= .bool t):opV E fr σ ah o=some (if t then fr.ev E a' else fr.ev E b',σ):=by
 simp only[opV,hop,hc,jB,Option.map_some]
variable (hR:RegOK R)
include hR
theorem NU {t:TypeId} {m x:TV R.T} {v w:V} {ok:Bool} {r:Res R} (h:lookupM E R t m x ok st=some r) (hm:Rl R ρ σ.top m v) (hx:Rl R ρ σ.top x w) (hi:aj ρ b st fr σ):eB ρ σ.top (jg E.P σ t v w ok) r:=by
 unfold lookupM at h
 split at h
 ·rename_i o
  split at h
  ·rename_i k e m hl
   obtain⟨s,h1,rfl⟩:=hm.jH
   obtain⟨s',h2,h3⟩:=hi.rd hl
   rw[h1] at h2;cases h2
   exact xC hR h hx h3
  ·cases h
 ·rename_i k e m
  exact xC hR h hx (by rw[hm.ku];rfl)
 ·split at h
  ·split at h
   ·unfold Rl at hm;subst hm
    exact xC hR h hx rfl
   ·cases h
  ·cases h
 ·cases h
omit hR in
theorem Ee {top:Nat->Nat} {x y:TV R.T} {v w:V} {r:Bool} (h:eqKM x y=some r) (hx:Rl R ρ top x v) (hy:Rl R ρ top y w):dS v w=some r:=by
 unfold eqKM at h
 split at h
 ·rw[hx.inv_int,hy.inv_int];exact h
 ·cases h;rw[hx.dH,hy.dH];rfl
 ·cases h
omit hR in
theorem Ef {top:Nat->Nat} {t:TypeId} {x:TV R.T} {v:V} (h:keyS E t x=true) (hx:Rl R ρ top x v):dD E.P t v=true:=by
 unfold keyS at h
 split at h
 ·rename_i hu;rw[hx.inv_int];unfold dD;rw[hu]
 ·rename_i hu;rw[hx.dH];unfold dD;rw[hu]
 ·cases h
omit hR in
theorem Eh {top:Nat->Nat} {x y:TV R.T} {v w:V} (hx:Rl R ρ top x v) (hy:Rl R ρ top y w):∀{ks vs:List (TV R.T)} {ks' vs':List (TV R.T)} {k l:List V},setS x y ks vs=some (ks',vs')->RlL R ρ top ks k->RlL R ρ top vs l->
 ∃k' l',jf v w k l=some (k',l')/\RlL R ρ top ks' k'/\RlL R ρ top vs' l'
 | [],[],_,_,k,l,h,h1,h2=>by
   cases h
   rw[h1.inv_nil,h2.inv_nil]
   exact⟨_,_,rfl,.cons' hx rfl,.cons' hy rfl⟩
 | [],_::_,_,_,_,_,h,_,_=>by cases h
 |_::_,[],_,_,_,_,h,_,_=>by cases h
 |a::ks,b::vs,ks',vs',k,l,h,h1,h2=>by
  obtain⟨k0,k,rfl,g1,g2⟩:=h1.inv_cons
  obtain⟨l0,l,rfl,g3,g4⟩:=h2.inv_cons
  unfold setS at h
  split at h
  ·rename_i c hc
   have he:=Ee hc hx g1
   cases c with
   |true=>cases h;exact⟨v::k,w::l,by simp[jf,he],.cons' hx g2,.cons' hy g4⟩
   |false=>
    rw[cond_false] at h
    split at h
    ·rename_i Qm vs1 hs
     cases h
     obtain⟨k',l',e1,e2,e3⟩:=Eh hx hy hs g2 g4
     exact⟨k0::k',l0::l',by simp[jf,he,e1],.cons' g1 e2,.cons' g3 e3⟩
    ·cases h
  ·cases h
theorem Ei {t:TypeId} {m x y:TV R.T} {v w u:V} {r:Res R} (h:updateM E R t m x y st=some r) (hm:Rl R ρ σ.top m v) (hx:Rl R ρ σ.top x w) (hy:Rl R ρ σ.top y u) (hi:aj ρ ah st fr σ)
 (ho:∀σ',gM E.P σ t v w u=some σ'->opV E fr σ ah o=some (undefV,σ')):fB E st ρ ah fr σ o r:=by
 unfold updateM at h
 split at h
 ·rename_i p
  split at h
  ·rename_i k e m hl
   split at h
   ·rename_i kt et ht
    obtain⟨hk,h⟩:=aH h
    split at h
    ·rename_i a c ha hc
     cases h
     obtain⟨s,h1,rfl⟩:=hm.jH
     obtain⟨s',h2,h3⟩:=hi.ob _ _ hl
     rw[h1] at h2;cases h2
     have hw:=Dr hR hk ha hx
     subst hw
     unfold unE at hc
     obtain⟨hs,hc⟩:=aH hc
     have hu:u=encD R e c:=by
      have h4:=wW hR hc hy
      have h5:=p8 hR y u hs hy
      have h6:=h4.2.2.1 0 σ
      rw[closeV_clean h5] at h6
      exact QL h6
     subst hu
     have hup:gM E.P σ t (.mapr (ρ.om.lc p) s) (encD R k a) (encD R e c)=some (σ.setObj (ρ.om.lc p) s (.map ((mset (beqD R k) a c m).map fun q=>encD R k q.1) ((mset (beqD R k) a c m).map fun q=>encD R e q.2))):=by
      unfold gM
      rw[ht];simp only[Option.bind_some]
      rw[if_pos (sS hR hk a a).2,h3]
      simp only[Option.bind_some]
      rw[Dq hR hk a c m];rfl
     refine⟨undefV,_,ρ,.bC (ho _ hup),(hi.le (QD _)).set p s ⟨s,h1,map_eq _ _ _ _ _⟩,rfl,by unfold Rl;rfl,fun q _=>au.set hl rfl⟩
    ·cases h
   ·cases h
  ·rename_i ks vs hl
   split at h
   ·rename_i kt et ht
    obtain⟨hk,h⟩:=aH h
    split at h
    ·rename_i ks' vs' hs
     cases h
     obtain⟨s,h1,rfl⟩:=hm.jH
     obtain⟨s',k0,l0,h2,h3,h4,h5⟩:=hi.ob _ _ hl
     rw[h1] at h2;cases h2
     obtain⟨k1,l1,g1,g2,g3⟩:=Eh hx hy hs h4 h5
     have hup:gM E.P σ t (.mapr (ρ.om.lc p) s) w u=some (σ.setObj (ρ.om.lc p) s (.map k1 l1)):=by
      unfold gM
      rw[ht];simp only[Option.bind_some]
      rw[if_pos (Ef hk hx),h3]
      simp only[Option.bind_some]
      rw[g1];rfl
     refine⟨undefV,_,ρ,.bC (ho _ hup),(hi.le (QD _)).set p s ⟨s,k1,l1,h1,map_eq _ _ _ _ _,g2,g3⟩,rfl,by unfold Rl;rfl,fun q _=>au.set hl rfl⟩
    ·cases h
   ·cases h
  ·cases h
 ·cases h
omit hR in
theorem aj.at (h:aj ρ b st fr σ) {d:Nat} (hd:d<F0):(fr.d,d)=ρ.om.lc d:=by rw[h.d,Cx.lF _ hd]
omit hR in
theorem aj.Ej (h:aj ρ b st fr σ) {x:Option Nat} (hd:∀d,x=some d->d<F0):(x.map fun t=>(fr.d,t))=x.map fun t=>ρ.om.lc t:=by
 cases x with
 |none=>rfl
 |some d=>exact congrArg some (h.at (hd d rfl))
theorem El {d s:Nat} {cs:List (TV R.T)} {l:List V} (hi:aj ρ b st fr σ) (hc:RlL R ρ σ.top cs l) (hm:mentL d cs=false):aj (ρ.bX d s) b (st.new d (.cells cs)) fr (σ.setObj (ρ.om.lc d) s (.cells l)):=
 hi.new d s ⟨s,l,d9,cells_eq _ _ _ _,RlL.kill d nu rfl rfl cs l hm hc⟩
theorem Em {d s:Nat} {ss:List Sg} (hi:aj ρ b st fr σ):aj (ρ.bX d s) b (st.new d (.sg ss)) fr (σ.setObj (ρ.om.lc d) s (.cells (sgV ss))):=
 hi.new d s ⟨s,d9,cells_eq _ _ _ _⟩
theorem yD {g:Nat} {cs:List V} (h:E.glob g=some cs):fr.ev E (.global g)= .cref cs 0:=by
 show (match E.glob g with|some cs=>V.cref cs 0|none=>V.raw (Value.pointer (some ⟨g,0,none⟩)))=_
 rw[h]
omit hR in
theorem En {top:Nat->Nat} {k:IntKind} (l:List Int):∀L:List Nat,RlL R ρ top (L.map fun j=>(TV.int k (l.getD j 0):TV R.T)) (L.map fun j=>V.int k (l.getD j 0))
 | []=>RlL.nil'
 |j::L=>RlL.cons' (by unfold Rl;rfl) (En l L)
omit hR in
theorem NV {k:IntKind} {l:List Int} {m:Nat} (h:m<=l.length):((List.range m).map fun j=>V.int k (l.getD j 0))=(l.map (V.int k)).take m:=by
 apply List.ext_getElem
 ·rw[Qy,RL,QE,Qy];omega
 ·intro i h1 h2
  rw[Qy,RL] at h1
  rw[Ro,RB,List.getElem_take,Ro,Q0,QT (show i<l.length by omega)]
  rfl
theorem NW {g:List (Nat×Bool)} (aU:∀d,o.dst=some d->d<F0) (hg:fM fr g) (hi:aj ρ ah st fr σ) {r:Res R} (h:opX E R g o.dst o.op st=some r):fB E st ρ ah fr σ o r:=by
 unfold opX at h
 split at h
 ·
  rename_i t hop
  split at h
  ·rename_i d ks cs hd hks hz
   obtain⟨hc,h⟩:=aH h
   cases h
   obtain⟨v,hv,hr⟩:=lN (ρ:=ρ) (top:=σ.top) hz
   obtain⟨l,rfl,hl⟩:=hr.bY
   have hl2:=NI hc hl
   refine⟨.ref (ρ.om.lc d) ah 0,_,ρ.bX d ah,.bC (o:=o) ?_,Em hR (ss:=ks.map zeroG) (hi.le (QD _)),rfl,by unfold Rl;exact⟨ah,d9,rfl⟩,fun q hq=>au.new (fun e=>hq.1 (by rw[hd,e]))⟩
   simp only[opV,hop,hd,Option.map_some,Option.bind_some,hv,V.cells,hl2,qg,if_true,hi.at (aU _ hd)]
  ·cases h
 ·
  rename_i t x hop
  cases hz:frzB E t o.dst
  case true=>rw[hz] at h;cases h
  rw[hz,cond_false] at h
  split at h
  ·rename_i d ks v hd hks hv
   split at h
   ·rename_i ss hss
    cases h
    obtain⟨c1,c2,c3⟩:=D7 hss (aC (E:=E) hi hg hv)
    refine⟨.ref (ρ.om.lc d) ah 0,_,ρ.bX d ah,.bC (o:=o) ?_,Em hR (ss:=ss) (hi.le (QD _)),rfl,by unfold Rl;exact⟨ah,d9,rfl⟩,fun q hq=>au.new (fun e=>hq.1 (by rw[hd,e]))⟩
    simp only[opV,hop,(show frzB E t (some d)=false from hd▸hz),Qv,if_false,hd,Option.map_some,Option.bind_some,c1,c3,qg,and_self,if_true,hi.at (aU _ hd)]
   ·cases h
  ·cases h
 ·
  rename_i t a hop
  split at h
  ·rename_i gl
   split at h
   ·rename_i k n v hv
    cases h
    obtain⟨cs,e,g1,g2,g3,g4,g5,g6⟩:=yw hv
    refine .tt (y:=.agg (v.l.map (V.int k))) ?_ ?_
    ·simp only[opV,hop,yD hR g1]
     unfold ldT;rw[g4,g5];simp only[Option.bind_some]
     unfold eU
     rw[if_pos rfl,if_pos (by rw[g2,Qy,v.h];omega),Rk,Ri (by rw[g2,Qy,v.h];exact Qt _),g2];rfl
    ·unfold Rl;show _=V.agg (v.l.map (V.int k)++[]);rw[QX]
   ·cases h
  ·split at h
   ·rename_i p off hv
    split at h
    ·rename_i ss hl
     split at h
     ·rename_i v hld
      cases h
      obtain⟨s,h1,h2⟩:=(aC (E:=E) hi hg hv).dY
      obtain⟨s',h3,h4⟩:=hi.rd hl
      rw[h1] at h3;cases h3
      obtain⟨y,hy,hr⟩:=DZ (ρ:=ρ) (top:=σ.top) hld
      exact .tt (by simp only[opV,hop,h2,h4,Option.bind_some,hy,Option.map_some]) hr
     ·cases h
    ·cases h
   ·rename_i p off k n i m hv
    split at h
    ·rename_i ss hl
     obtain⟨s,h1,hi0,hi1,h2⟩:=(aC (E:=E) hi hg hv).pJ
     obtain⟨s',h3,h4⟩:=hi.rd hl
     rw[h1] at h3;cases h3
     split at h
     ·rename_i pre k' n' v post hsp
      by_cases ek:k'=k
      ·subst ek
       rw[if_pos rfl] at h
       cases hb:Nat.beq n' n
       ·rw[hb] at h;cases h
       rw[hb,cond_true] at h
       have:=aJ hb;subst this
       cases hc:(Nat.beq m 1&& elG E t)
       ·rw[hc,cond_false] at h
        split at h
        ·rename_i y hy
         cases h
         obtain⟨x,g1,g2⟩:=NG (ρ:=ρ) (top:=σ.top) hsp hi1 hy
         exact .tt (by simp only[opV,hop,h2,h4,Option.bind_some,g1,Option.map_some]) g2
        ·cases h
       ·rw[hc,cond_true] at h
        cases h
        rw[iP] at hc
        have:=aJ hc.1;subst this
        exact .tt (y:=.int k' (v.at' i)) (by simp only[opV,hop,h2,h4,Option.bind_some,D6 (i:=i) hsp (QF (Ry _) hi1) hc.2,Option.map_some]) (by unfold Rl;rfl)
      ·rw[if_neg ek] at h;cases h
     ·cases h
    ·cases h
   ·rename_i k n v i hv
    obtain⟨he,h⟩:=aH h
    cases h
    obtain⟨h1,h2,h3⟩:=(aC (E:=E) hi hg hv).sI
    obtain⟨z1,z2⟩:=kJ he
    refine .tt (y:=.int k (v.at' i)) ?_ (by unfold Rl;rfl)
    simp only[opV,hop,h3]
    unfold ldT;rw[z1,z2];simp only[Option.bind_some]
    unfold eU;simp only[Qv,if_false]
    rw[List.getElem?_map,D5 v (by omega)];rfl
   ·cases h
 ·
  rename_i t a x hop
  split at h
  ·rename_i p off v hv hx
   split at h
   ·rename_i ss sz hl hsz
    split at h
    ·rename_i pre rest hsp
     split at h
     ·rename_i mid post hsp2
      split at h
      ·rename_i mid' hco
       cases h
       obtain⟨s,h1,h2⟩:=(aC (E:=E) hi hg hv).dY
       obtain⟨s',h3,h4⟩:=hi.ob _ _ hl
       rw[h1] at h3;cases h3
       obtain⟨c1,c2,c3⟩:=D7 hco (aC (E:=E) hi hg hx)
       obtain⟨e1,w1⟩:=je hsp
       obtain⟨e2,w2⟩:=je hsp2
       rw[tJ,w2] at c2
       refine⟨undefV,_,ρ,.bC (o:=o) ?_,(hi.le (QD _)).set p s (x:=.sg (pre++(mid'++post))) (a:=.cells (sgV (pre++(mid'++post)))) ⟨s,h1,cells_eq _ _ _ _⟩,rfl,by unfold Rl;rfl,fun q _=>au.set hl rfl⟩
       simp only[opV,hop,h2,h4,Option.bind_some,c1]
       rw[if_pos ⟨by rw[hsz,bD,c2],by rw[bD,bD,e1,e2,kK,kK,w1,w2,c2];omega,qg _⟩,e1,e2,NJ w1 w2 c2]
      ·cases h
     ·cases h
    ·cases h
   ·cases h
  ·rename_i p off k n i m k' y hv hx
   split at h
   ·rename_i ss hl
    split at h
    ·rename_i pre k2 n' v post hsp
     by_cases ek:k2=k
     ·subst ek
      rw[if_pos rfl] at h
      by_cases Eo:k'=k2
      ·subst Eo
       rw[if_pos rfl] at h
       obtain⟨hb,h⟩:=aH h
       cases h
       rw[iP,iP] at hb
       have e1:=aJ hb.1.1;subst e1
       have e2:=aJ hb.1.2;subst e2
       obtain⟨z1,z2⟩:=kJ hb.2
       obtain⟨s,h1,hi0,hi1,h2⟩:=(aC (E:=E) hi hg hv).pJ
       obtain⟨s',h3,h4⟩:=hi.ob _ _ hl
       rw[h1] at h3;cases h3
       have hy:=(aC (E:=E) hi hg hx).inv_int
       obtain⟨e1,w1⟩:=je hsp
       refine⟨undefV,_,ρ,.bC (o:=o) ?_,(hi.le (QD _)).set p s (x:=.sg (pre++(.a k' n' (v.set i y)::post))) (a:=.cells (sgV (pre++(.a k' n' (v.set i y)::post)))) ⟨s,h1,cells_eq _ _ _ _⟩,rfl,by unfold Rl;rfl,fun q _=>au.set hl rfl⟩
       simp only[opV,hop,h2,h4,Option.bind_some,hy,V.cells]
       have NY:=D8 (post:=post) (k:=k') (v:=v) (w:=v.set i y) (l:=[y]) w1 (show i.toNat+[y].length<=n' from hi1) (NM (by rw[v.h];omega))
       rw[if_pos ⟨by rw[z1];rfl,by rw[bD,e1,kK,w1,tH];show off+i.toNat+1<=off+(n'+_);omega,rfl⟩,e1]
       rw[show [V.int k' y]=[y].map (V.int k') from rfl,NY]
      ·rw[if_neg Eo] at h;cases h
     ·rw[if_neg ek] at h;cases h
    ·cases h
   ·cases h
  ·cases h
 ·
  rename_i t x i hop
  split at h
  ·rename_i n e k0 i ha hiv
   obtain⟨hel,h⟩:=aH h
   obtain⟨z1,z2⟩:=kJ hel
   have hii:=(aC (E:=E) hi hg hiv).inv_int
   split at h
   ·rename_i gl
    split at h
    ·rename_i k n' v hv
     cases h
     intro hin
     obtain⟨cs,e',g1,g2,g3,g4,g5,g6⟩:=yw hv
     rw[ha] at g3;cases g3
     obtain⟨j1,j2,j3⟩:=tK hin
     refine⟨.cref cs i.toNat,.bC ?_,by unfold Rl;exact⟨j1,j2,by rw[g2]⟩⟩
     simp only[opV,hop,yD hR g1,hii]
     unfold indexAddrV
     rw[qc ha];dsimp only
     rw[z1];simp only[Option.bind_some,yx hin,Option.map_some,Nat.mul_one,Q7]
    ·cases h
   ·split at h
    ·rename_i p off hv
     split at h
     ·rename_i ss hl
      split at h
      ·rename_i pre k n' v post hsp
       obtain⟨hb,h⟩:=aH h
       have:=aJ hb;subst this
       cases h
       intro hin
       obtain⟨s,h1,h2⟩:=(aC (E:=E) hi hg hv).dY
       obtain⟨j1,j2,j3⟩:=tK hin
       refine⟨.ref (ρ.om.lc p) s (off+i.toNat),.bC ?_,by unfold Rl;exact⟨s,h1,j1,by omega,rfl⟩⟩
       simp only[opV,hop,h2,hii]
       unfold indexAddrV
       rw[qc ha];dsimp only
       rw[z1];simp only[Option.bind_some,yx hin,Option.map_some,Nat.mul_one]
      ·cases h
     ·cases h
    ·cases h
  ·cases h
 ·
  rename_i t x i hop
  split at h
  ·rename_i n e k n' v k0 i ha hv hiv
   obtain⟨hb,h⟩:=aH h
   cases h
   rw[iP] at hb
   have:=aJ hb.2;subst this
   obtain⟨z1,z2⟩:=kJ hb.1
   have hii:=(aC (E:=E) hi hg hiv).inv_int
   have hvv:=(aC (E:=E) hi hg hv).mY
   intro hin
   obtain⟨j1,j2,j3⟩:=tK hin
   refine⟨.int k (v.at' i),.bC ?_,by unfold Rl;rfl⟩
   simp only[opV,hop,hvv,hii]
   unfold kS
   rw[qc ha];dsimp only
   rw[yx hin];simp only[Option.bind_some,z1,Nat.mul_one]
   have:=D6 (E:=E) (t:=e) (ss:=[.a k n' v]) (pre:=[]) (post:=[]) (off:=0) (i:=i) rfl j3 hb.1
   rw[Q7] at this
   rw[this];rfl
  ·cases h
 ·
  rename_i t x lo hi' hop
  split at h
  ·rename_i v hv
   have hxr:=aC (E:=E) hi hg hv
   have ho:∀vl vh,bE E fr lo=vl->bE E fr hi'=vh->∀y,dI E.P σ t (fr.ev E x) vl vh none=some y->opV E fr σ ah o=some (y,σ):=by
    rintro vl vh rfl rfl y hy
    simp only[opV,hop]
    rw[show bE E fr none=none from rfl,hy];rfl
   split at h
   ·exact .val (tO h hxr hi (vl:=none) (vh:=none) (by intro y hy;cases hy) (fun _=>rfl) (by intro y hy;cases hy) (fun _=>rfl)) (ho _ _ rfl rfl)
   ·rename_i lo
    split at h
    ·rename_i l hl
     have hlr:=aC (E:=E) hi hg hl
     exact .val (tO h hxr hi (vl:=some (fr.ev E lo)) (vh:=none) (by intro y hy;cases hy;exact⟨_,rfl,hlr⟩) (by intro hy;cases hy) (by intro y hy;cases hy) (fun _=>rfl)) (ho _ _ rfl rfl)
    ·cases h
   ·rename_i hi'
    split at h
    ·rename_i l hl
     have hlr:=aC (E:=E) hi hg hl
     exact .val (tO h hxr hi (vl:=none) (vh:=some (fr.ev E hi')) (by intro y hy;cases hy) (fun _=>rfl) (by intro y hy;cases hy;exact⟨_,rfl,hlr⟩) (by intro hy;cases hy)) (ho _ _ rfl rfl)
    ·cases h
   ·rename_i lo hi'
    split at h
    ·rename_i l m hl hm
     have hlr:=aC (E:=E) hi hg hl
     have hmr:=aC (E:=E) hi hg hm
     exact .val (tO h hxr hi (vl:=some (fr.ev E lo)) (vh:=some (fr.ev E hi')) (by intro y hy;cases hy;exact⟨_,rfl,hlr⟩) (by intro hy;cases hy) (by intro y hy;cases hy;exact⟨_,rfl,hmr⟩) (by intro hy;cases hy)) (ho _ _ rfl rfl)
    ·cases h
  ·cases h
 ·
  rename_i t x lo hi' mx hop
  split at h
  ·rename_i cp u l kh hh tT km e hv NZ N7 hu
   split at h
   ·rename_i sz hsz
    cases hb:Nat.beq sz (szD R u)
    ·rw[hb] at h;cases h
    rw[hb,cond_true] at h
    have:=aJ hb;subst this
    obtain⟨c',h2,_⟩:=(aC (E:=E) hi hg hv).bW
    have eh:=(aC (E:=E) hi hg NZ).inv_int
    have em:=(aC (E:=E) hi hg N7).inv_int
    have fin:∀(vl:Option V) (a:Nat) (L:List (Den R.T u)),bE E fr lo=vl->bO l.length l.length vl (some (.int kh hh)) (some (.int tT km))=some (a,hh.toNat,km.toNat)->(l.take hh.toNat).drop a=L->∃y,dA E fr σ ah o y σ/\Rl R ρ σ.top (.lst .any u L) y:=by
     rintro vl a L hvl hsb rfl
     refine⟨.lst (if km.toNat=hh.toNat then .full else .sh) (((l.map (encD R u)).take hh.toNat).drop a),.bC ?_,?_⟩
     ·simp only[opV,hop,h2]
      rw[hvl,show bE E fr (some hi')=some (.int kh hh) by rw[qh,eh],show bE E fr (some mx)=some (.int tT km) by rw[qh,em]]
      unfold dI
      rw[hu];dsimp only
      rw[hsz];simp only[Option.bind_some,Qy,hsb,pW hR,if_true,Option.isNone_some,Qv,and_false,if_false,Option.map_some]
     ·unfold Rl
      exact⟨_,by rw[xB],trivial⟩
    split at h
    ·cases hf:fullD E o.dst with
     |false=>
      rw[hf,cond_false] at h
      cases h
      intro hc
      rw[iP] at hc
      exact fin none 0 _ rfl (by simp[bO,iy hc.1,iy hc.2]) (by simp[subL])
     |true=>
      rw[hf,cond_true] at h
      cases h
      intro hc
      rw[iP,iP] at hc
      obtain⟨y,hy1,hy2⟩:=fin none 0 _ rfl (by simp[bO,iy hc.1,iy hc.2.1]) rfl
      have hkm:hh=km:=by simpa using hc.2.2
      subst hkm
      refine⟨.lst .full (((l.map (encD R u)).take hh.toNat).drop 0),.bC ?_,?_⟩
      ·simp only[opV,hop,h2]
       rw[show bE E fr none=none from rfl,show bE E fr (some hi')=some (.int kh hh) by rw[qh,eh],show bE E fr (some mx)=some (.int tT hh) by rw[qh,em]]
       unfold dI
       rw[hu];dsimp only
       have hsb:bO l.length l.length none (some (.int kh hh)) (some (.int tT hh))=some (0,hh.toNat,hh.toNat):=by simp[bO,iy hc.1,iy hc.2.1]
       rw[hsz];simp only[Option.bind_some,Qy,hsb,pW hR,if_true,Option.isNone_some,Qv,and_false,if_false,Option.map_some]
      ·unfold Rl
       exact⟨.full,by rw[xB];simp[subL],rfl⟩
    ·rename_i lo'
     split at h
     ·rename_i ka a hva
      cases h
      intro hc
      rw[iP,iP] at hc
      have ea:=(aC (E:=E) hi hg hva).inv_int
      exact fin (some (.int ka a)) a.toNat _ (by rw[qh,ea]) (by simp[bO,iy hc.1,iy hc.2.1,iy hc.2.2]) (by simp[subL])
     ·cases h
   ·cases h
  ·cases h
 ·
  rename_i a b' x hop
  split at h
  ·rename_i p off k n lo hi' hv
   obtain⟨s,h1,hB,h2⟩:=(aC (E:=E) hi hg hv).kC
   split at h
   ·rename_i e hu1 hu2
    split at h
    ·rename_i hu3
     split at h
     ·rename_i l hl
      cases h
      obtain⟨cs,c1,c2,c3,c4⟩:=DR hR hi hl h1 hB
      obtain⟨p1,p2,p3,_,_⟩:=lQ hB
      refine .tt (y:=.str (List.map (fun n:Int=>UInt8.ofNat n.toNat) l)) ?_ (by unfold Rl;rfl)
      simp only[opV,hop,h2]
      unfold jy
      rw[hu1,hu2];dsimp only
      rw[hu3,c1];dsimp only
      simp only[Option.bind_some]
      rw[if_pos (by omega),c3]
      have:=xA (R:=R) l
      rw[show l.map (V.int .u8)=List.map (encD R (.int .u8)) l from rfl,this];rfl
     ·cases h
    ·cases h
   ·cases h
  ·cases h
 ·
  rename_i t x hop
  split at h
  ·rename_i m e p off k n lo hi' ha hv
   cases h
   intro hc
   have hc:=of_decide_eq_true hc
   obtain⟨s,h1,hB,h2⟩:=(aC (E:=E) hi hg hv).kC
   obtain⟨p1,p2,p3,p4,p5⟩:=lQ hB
   refine⟨.ref (ρ.om.lc p) s (off+(loI lo).toNat),.bC ?_,by unfold Rl;exact⟨s,h1,p4,by omega,rfl⟩⟩
   simp only[opV,hop,ha,h2,Option.bind_some]
   rw[if_pos ⟨hc.1,by omega⟩]
  ·rename_i m e c k l ha hv
   cases h
   intro hc
   have hc:=of_decide_eq_true hc
   obtain⟨c',h2,_⟩:=(aC (E:=E) hi hg hv).bW
   have hr:RlL R ρ σ.top (arrI R k m l) ((List.map (V.int k) l).take m):=by
    rw[<-NV hc.2];exact En l _
   refine⟨.cref ((List.map (V.int k) l).take m) 0,.bC ?_,by unfold Rl;exact⟨_,rfl,hr⟩⟩
   simp only[opV,hop,ha,h2,Option.bind_some]
   rw[if_pos ⟨hc.1,by rw[Qy];exact hc.2,by unfold oneCells;rw[List.all_map];exact QK.2 fun _ _=>rfl⟩]
   rfl
  ·cases h
 ·
  rename_i c hop
  split at h
  ·rename_i p off k n lo hi' y aS hvs
   split at h
   ·rename_i t ht
    split at h
    ·rename_i e he
     obtain⟨hel,h⟩:=aH h
     obtain⟨z1,z2⟩:=kJ hel
     split at h
     ·rename_i l0 ss hsrc hl
      obtain⟨l,hl0⟩:∃l:List Int,l=l0:=⟨l0,rfl⟩
      subst hl0
      split at h
      ·rename_i pre k' n' v post hsp
       by_cases ek:k'=k
       ·subst ek
        rw[if_pos rfl] at h
        cases hb:Nat.beq n' n
        ·rw[hb] at h;cases h
        rw[hb,cond_true] at h
        have:=aJ hb;subst this
        cases h
        have hargs:=jm (E:=E) hi hg hvs
        obtain⟨a1,Qn,N8,N9,Oa⟩:=hargs.inv_cons
        obtain⟨a2,Qo,Oc,Od,Oe⟩:=Oa.inv_cons
        have Og:=Oe.inv_nil
        subst Og;subst Oc
        obtain⟨s,h1,hB,rfl⟩:=N9.kC
        obtain⟨p1,p2,p3,p4,p5⟩:=lQ hB
        obtain⟨s',h3,h4⟩:=hi.ob _ _ hl
        rw[h1] at h3;cases h3
        obtain⟨e1,w1⟩:=je hsp
        obtain⟨q1,q2⟩:=xI hR (σ:=σ) (ag:=false) (z:=undefV) hsrc Od
        have q1:dG σ false 1 undefV a2=some (List.map (V.int k') l):=q1
        have hlen:(hiI n' hi'-loI lo).toNat=(hiI n' hi').toNat-(loI lo).toNat:=by omega
        have hmin:min (List.map (V.int k') l).length ((hiI n' hi').toNat-(loI lo).toNat)=(List.take (hiI n' hi'-loI lo).toNat l).length:=by
         rw[Qy,QE,hlen,Nat.min_comm]
        have hfl:((List.map (V.int k') l).take (List.take (hiI n' hi'-loI lo).toNat l).length).flatMap V.cells=(List.take (hiI n' hi'-loI lo).toNat l).map (V.int k'):=by
         have:∀m:List Int,(m.map (V.int k')).flatMap V.cells=m.map (V.int k'):=by
          intro m
          induction m with
          |nil=>rfl
          |cons x m ih=>rw[QA,QV,ih];rfl
         rw[<-List.map_take,this,QE]
         congr 1
         by_cases hle:(hiI n' hi'-loI lo).toNat<=List.length l
         ·rw[RG hle]
         ·rw[Nat.min_eq_right (by omega),Ri (Qt _),Ri (by omega)]
        have hlt:(List.take (hiI n' hi'-loI lo).toNat l).length<=(hiI n' hi').toNat-(loI lo).toNat:=by rw[QE,hlen];exact Nat.min_le_left _ _
        have hone:(List.map (V.int k') l).all (fun v=>oneCells v.cells)=true:=by rw[List.all_map];simp[oneCells,V.cells,oneCell]
        refine⟨_,_,ρ,.of (o:=o) fun S=>?_,(hi.le (QD _)).set p s (x:=.sg (pre++(.a k' n' (v.cpy (loI lo) (List.take (hiI n' hi'-loI lo).toNat l))::post))) (a:=.cells (sgV (pre++(.a k' n' (v.cpy (loI lo) (List.take (hiI n' hi'-loI lo).toNat l))::post)))) ⟨s,h1,cells_eq _ _ _ _⟩,rfl,by unfold Rl;rfl,fun q _=>au.set hl rfl⟩
        unfold opC
        rw[hop];dsimp only
        rw[aS];dsimp only
        rw[N8]
        have hbv:eG E fr.om (o.dst.map fun t=>(fr.d,E.cn t)) σ ah .copy c.argTypes [.vw (ρ.om.lc p) s (off+(loI lo).toNat) ((hiI n' hi').toNat-(loI lo).toNat) (n'-(loI lo).toNat) 1 false,a2]=(c.argTypes[0]?).bind fun t=>copyV E.P σ t (.vw (ρ.om.lc p) s (off+(loI lo).toNat) ((hiI n' hi').toNat-(loI lo).toNat) (n'-(loI lo).toNat) 1 false) a2:=rfl
        rw[hbv,ht];simp only[Option.bind_some]
        rw[NP he z1 z2 q2 q1 hone h4 (by rw[hmin,bD,e1,kK,w1,tH];show off+(loI lo).toNat+_<=off+(n'+_);omega),hmin,hfl]
        simp only[Option.map_some]
        rw[e1,D8 (w:=v.cpy (loI lo) (List.take (hiI n' hi'-loI lo).toNat l)) w1 (by omega) (by unfold Vec.cpy;rw[yj];simp only[QI,QE,Q9,v.h] at*;omega)]
        try rfl
       ·rw[if_neg ek] at h;cases h
      ·cases h
     ·cases h
    ·cases h
   ·cases h
  ·cases h
 ·cases h
omit hR in
theorem Ep {α:Type} (l:List α):∀n,(List.replicate n l).flatten.length=n*l.length
 |0=>by simp
 |n+1=>by rw[List.replicate_succ,List.flatten_cons,QI,Ep l n,Ra];omega
omit hR in
theorem aj.set0 (h:aj ρ b st fr σ) (o:Nat) {x:Ob R.T} (hx:aK ρ σ o x):aj ρ b (st.set o x) fr σ:={h with
 fr:=h.fr
 ob:=fun p y hy=>by
  have hy':look ((o,x)::delF o st.ob) p=some y:=hy
  by_cases e:p=o
  ·subst e
   rw[bH] at hy';cases hy'
   exact hx
  ·rw[aT _ _ e,dP e] at hy'
   exact h.ob p y hy'}
omit hR in
theorem au.set0 {nr:Bool} {o q:Nat} {x y:Ob R.T} (hl:look st.ob o=some y) (hy:isRo y=false):au nr q st ρ σ (st.set o x) ρ σ:=⟨rfl,rfl,rfl,Qt _,⟨fun _ _=>rfl,fun _ _=>rfl⟩,fun _ _ _=>rfl,fun hr=>by
 have hne:q≠o:=by rintro rfl;rw[hr y hl] at hy;cases hy
 refine⟨fun z hz=>?_,fun s'=>⟨rfl,rfl⟩⟩
 have hz':look ((o,x)::delF o st.ob) q=some z:=hz
 rw[aT _ _ hne,dP hne] at hz'
 exact hr z hz'⟩
theorem Oh {t:TypeId} {x:TV R.T} {v:V} {r:Res R} (h:clrM E R t x st=some r) (hx:Rl R ρ σ.top x v) (hi:aj ρ ah st fr σ)
 (ho:∀y σ',iM E.P σ t v=some (y,σ')->dA E fr σ ah o y σ'):fB E st ρ ah fr σ o r:=by
 have hi1:=hi.le (QD ah)
 unfold clrM at h
 split at h
 ·rename_i p τ a c e τ' sz by_ hw he
  have hxs:=xO hR hw hx hi
  obtain⟨z0,e1,e2,e3,e4,e5,e6,e7,e8,e9⟩:=nD he
  split at h
  ·rename_i et
   subst et
   split at h
   ·rename_i τ2 l0 z hl hz
    split at h
    ·rename_i l zz hc hzu
     obtain⟨hzc,h⟩:=aH h
     rw[iP] at hzc
     cases h
     obtain⟨ec,Oi⟩:=iq hc;subst ec;cases Oi
     obtain⟨zv,z1,z2⟩:=lN (ρ:=ρ) (top:=σ.top) hz
     rw[e5] at z1;cases z1
     obtain⟨g0,g1,g2,hv⟩:=hxs.jI
     have hO:=hi.ob _ _ hl
     have hlen:l0.length=ρ.ln p:=hO.1
     have hnr:isRo (Ob.arr τ2 l0)=false:=rfl
     have hcl:oneCells z0.cells=true:=nA hzc.1 (gF hzc.2 z2).1
     have hll:(clrL l0 a c zz).length=l0.length:=by
      unfold clrL
      rw[QI,QI,QE,List.length_replicate,Q9];omega
     have same:a=c->clrL l0 a c zz=l0:=fun e=>by
      unfold clrL
      rw[e,Int.sub_self];simp
     have quiet:a=c->iM E.P σ t v=some (undefV,σ)->fB E st ρ ah fr σ o (.w .undef (st.set p (.arr τ2 (clrL l0 a c zz)))):=fun e hcv=>by
      rw[same e]
      exact⟨undefV,σ,ρ,ho _ _ hcv,hi1.set0 p hO,rfl,by unfold Rl;rfl,fun q hq=>au.set0 hl hnr⟩
     rcases hv with ⟨s,cp,h1,h2,rfl⟩| ⟨e,k,rfl⟩
     ·rcases hO.2 with hO2| ⟨s',cs,k3,k4,k5⟩
      ·rw[h1] at hO2;exact absurd hO2.2 (by simp)
      ·rw[h1] at k3;cases k3
       have hlc:cs.length=l0.length*szD R τ2:=by rw[k5.length,kH]
       have hle:a.toNat*szD R τ2+(c-a).toNat*szD R τ2<=cs.length:=by
        rw[hlc,<-QZ];exact QU _ (by omega)
       subst e6
       by_cases hz0:(c-a).toNat=0
       ·refine quiet (by omega) ?_
        unfold iM
        simp only[e1,e2,e3,e5,Option.bind_some,k4]
        rw[if_pos ⟨e9,hcl⟩,if_pos ⟨trivial,hle⟩,if_pos hz0]
       ·have hcv:iM E.P σ t (.vw (ρ.om.lc p) s (a.toNat*szD R τ2) (c-a).toNat cp (szD R τ2) (isSt τ2))=some (undefV,σ.setObj (ρ.om.lc p) s (.cells (spliceL cs (a.toNat*szD R τ2) ((List.replicate (c-a).toNat z0).flatMap V.cells)))):=by
         unfold iM
         simp only[e1,e2,e3,e5,Option.bind_some,k4]
         rw[if_pos ⟨e9,hcl⟩,if_pos ⟨trivial,hle⟩,if_neg hz0]
        have hvl:((List.replicate (c-a).toNat z0).flatMap V.cells).length=(c-a).toNat*szD R τ2:=by
         rw[pX,Ep,e9]
        have hrl:RlL R ρ σ.top ((clrL l0 a c zz).flatMap fun x=>(tvD R .any τ2 x).cells) (spliceL cs (a.toNat*szD R τ2) ((List.replicate (c-a).toNat z0).flatMap V.cells)):=by
         unfold clrL spliceL
         rw[hvl,List.flatMap_append,List.flatMap_append,<-xL (fun x=>kG .any τ2 x),<-xK (fun x=>kG .any τ2 x),QS]
         refine(k5.take _).append (RlL.append ?_ ?_)
         ·rw[pX,pX]
          refine xM ?_ _
          have h1:=lM hR hzu z2
          refine(gF ?_ h1).1
          cases τ2<;>rfl
         ·rw[<-QZ,show a.toNat+(c-a).toNat=c.toNat by omega]
          exact k5.drop _
        refine⟨undefV,_,ρ,ho _ _ hcv,hi1.set p s ⟨hll.trans hO.1,.inr ⟨s,_,h1,cells_eq _ _ _ _,iw _ _ hrl⟩⟩,rfl,by unfold Rl;rfl,fun q hq=>au.set hl hnr⟩
     ·refine quiet e ?_
      unfold iM
      simp only[e1,e2,e3,e5,Option.bind_some]
      rw[if_pos ⟨e9,hcl⟩]
    ·cases h
   ·cases h
  ·cases h
 ·cases h
theorem Oj {om:Bool} {F:Nat->List (FR R)} (hF:RegsOK E F) (hom:ρ.om.om=om) (aU:∀d,o.dst=some d->d<F0) {g:List (Nat×Bool)} (hg:fM fr g) (hi:aj ρ ah st fr σ) {r:Res R} (h:opO E R om F g o.dst o.op st=some r):fB E st ρ ah fr σ o r:=by
 unfold opO at h
 split at h
 ·
  rename_i x hop
  cases hz:fzM E o.dst
  ·rw[hz] at h;dsimp only[cond_false] at h
   split at h
   ·rename_i v hv;cases h;exact .tt (y:=fr.ev E x) (by simp only[opV,hop,hz,Qv,if_false]) (aC hi hg hv)
   ·cases h
  ·rw[hz] at h;dsimp only[cond_true] at h
   split at h
   ·rename_i p t hv
    split at h
    ·rename_i t' l0 hl
     split at h
     ·rename_i l hc
      cases h
      obtain⟨e1,e2⟩:=iq hc
      subst e1
      cases e2
      have hO:=hi.ob p _ hl
      have hrl:∀ρ',Rl R ρ' σ.top (.lst .any t' l0) (.lst .sh (l0.map (encD R t'))):=fun ρ'=>by unfold Rl;exact⟨.sh,rfl,trivial⟩
      rcases (aC (E:=E) hi hg hv).jl with ⟨s,h1,h2⟩| ⟨h1,h2⟩
      ·rcases hO.2 with h3| ⟨s',cs,h3,h4,h5⟩
       ·rw[h1] at h3;exact absurd h3.2 (by simp)
       ·rw[h1] at h3;cases h3
        have hlc:cs.length=l0.length*szD R t':=by rw[h5.length,kH]
        have hlen:l0.length=ρ.ln p:=hO.1
        refine⟨.lst .sh (l0.map (encD R t')),σ.aR (ρ.om.lc p),ρ,.bC ?_,(hi.del p).le (QD _),rfl,hrl ρ,fun q _=>au.del hl rfl⟩
        simp only[opV,hop,hz,if_true,h2,iO,h4,Option.bind_some,Q7,Rk]
        rw[Ri (by rw[hlc,hlen];exact Qt _),DJ hR l0 cs h5,<-hlen,xR hR l0,xS hR l0]
        rw[if_pos ⟨by rw[hlc];exact Qt _,rfl⟩]
      ·have hl0:l0=[]:=Rf (hO.1.trans h1)
       subst hl0
       refine⟨.lst .sh [],σ,ρ,.bC ?_,(hi.del' p).le (QD _),rfl,hrl ρ,fun q _=>au.del' hl rfl⟩
       simp only[opV,hop,hz,if_true]
       rcases h2 with h2|h2<;>rw[h2]<;>rfl
     ·cases h
    ·cases h
   ·rename_i k m hv
    cases h
    have hr:=aC (E:=E) hi hg hv
    refine .tt (y:=.int k m) ?_ (by unfold Rl;rfl)
    simp only[opV,hop,hz,if_true,hr.inv_int,iO]
   ·cases h
 ·rename_i x hop
  split at h
  ·rename_i v hv;cases h;exact .tt (y:=fr.ev E x) (by simp only[opV,hop]) (aC hi hg hv)
  ·cases h
 ·
  rename_i c a' b' hop
  split at h
  ·rename_i j
   split at h
   ·rename_i t hc
    have hc':=(aC (E:=E) hi hg hc).fA
    split at h
    ·rename_i x y hx hy
     split at h
     ·rename_i v hv
      cases h
      refine .tt (nJ hop hc') ?_
      rw[mU] at hc'
      cases t
      ·exact Ed hv (aC (E:=E) hi (.cons hc' hg) hy)
      ·exact Ec hv (aC (E:=E) hi (.cons hc' hg) hx)
     ·cases h
    ·cases h
   ·rename_i t hc
    have hc':=(aC (E:=E) hi hg hc).ig
    split at h
    ·rename_i v hv
     cases h
     refine .tt (nJ hop hc') ?_
     cases t
     ·exact aC (E:=E) hi hg hv
     ·exact aC (E:=E) hi hg hv
    ·cases h
   ·cases h
  ·cases h
 ·
  rename_i t hop
  split at h
  ·rename_i d z hd hz
   obtain⟨hc,h⟩:=aH h
   cases h
   simp only[iP,Q6] at hc
   obtain⟨v,hv,hr⟩:=lN (ρ:=ρ) (top:=σ.top) hz
   have Ol:notG z=true:=by
    cases z<;>first|rfl| (have:=hc.1;simp[TV.cells,oneMs,oneM] at this)
   obtain⟨hcells,_⟩:=gF Ol hr
   refine⟨.ref (ρ.om.lc d) ah 0,_,ρ.bX d ah,.bC (o:=o) ?_,El hR (hi.le (QD _)) hcells hc.2,rfl,by unfold Rl;exact⟨ah,d9,rfl⟩,fun q hq=>au.new (fun e=>hq.1 (by rw[hd,e]))⟩
   simp only[opV,hop,hd,Option.map_some,Option.bind_some,hv,nA hc.1 hcells,if_true,hi.at (aU _ hd)]
  ·cases h
 ·
  rename_i t x hop
  cases hz:frzB E t o.dst with
  |true=>
   rw[hz,cond_true] at h
   split at h
   ·rename_i v hv
    obtain⟨hc,h⟩:=aH h
    cases h
    rw[iP] at hc
    have hr:=aC (E:=E) hi hg hv
    have hnr:=(gF hc.2 hr).2
    have hr2:=NT (by rw[iP];exact hc) hr
    obtain⟨hcells,_⟩:=gF (NR hc.2) hr2
    refine .tt (y:=.cref (er (fr.ev E x)).cells 0) ?_ ?_
    ·simp only[opV,hop,hz,if_true,p8 hR _ _ hc.1 hr2,hnr,and_self]
    ·unfold Rl;exact⟨_,rfl,hcells⟩
   ·cases h
  |false=>
  rw[hz,cond_false] at h
  split at h
  ·rename_i d v hd hv
   obtain⟨hc,h⟩:=aH h
   cases h
   simp only[iP,Q6] at hc
   have hr:=aC (E:=E) hi hg hv
   obtain⟨hcells,hnr⟩:=gF hc.1.2 hr
   refine⟨.ref (ρ.om.lc d) ah 0,_,ρ.bX d ah,.bC (o:=o) ?_,El hR (hi.le (QD _)) hcells hc.2,rfl,by unfold Rl;exact⟨ah,d9,rfl⟩,fun q hq=>au.new (fun e=>hq.1 (by rw[hd,e]))⟩
   simp only[opV,hop,(show frzB E t (some d)=false from hd▸hz),Qv,if_false,hd,Option.map_some,Option.bind_some,nA hc.1.1 hcells,hnr,and_self,if_true,hi.at (aU _ hd)]
  ·cases h
 ·
  rename_i t parts hop
  split at h
  ·rename_i pl z ps hpl hz hps
   split at h
   ·rename_i cs hcs
    cases h
    obtain⟨zv,hzv,xD⟩:=lN (ρ:=ρ) (top:=σ.top) hz
    obtain⟨e1,e2⟩:=wZ (E:=E) hi hg hps
    have hzc:RlL R ρ σ.top z.cells zv.cells:=by
     refine(gF ?_ xD).1
     unfold zeroM at hz
     cases z<;>first|rfl|skip
     all_goals
      exfalso
      split at hz
      ·split at hz
       ·unfold ofValueM at hz
        split at hz
        ·split at hz<;>cases hz
        ·unfold ofScalarM at hz;split at hz<;>cases hz
       ·cases hz
      ·cases hz
    obtain⟨l',f1,f2⟩:=Dc (qs:=parts.toList.map fun p=>(p.1,fr.ev E p.2)) pl (by rw[e1];simp[Function.comp_def]) (by simpa [Function.comp_def] using e2) hzc hcs
    refine .tt (y:=.agg l') ?_ (by unfold Rl;exact⟨l',rfl,f2⟩)
    simp only[opV,hop,hpl,hzv,Option.bind_some]
    rw[f1];rfl
   ·cases h
  ·cases h
 ·
  rename_i t len parts hop
  split at h
  ·rename_i ps hps
   obtain⟨e1,e2⟩:=wZ (E:=E) hi hg hps
   cases hz:bsM E o.dst
   ·rw[hz,cond_false] at h
    refine .val (MV hR (qs:=parts.toList.map fun p=>(p.1,fr.ev E p.2)) h (by rw[e1];simp[Function.comp_def]) (by simpa [Function.comp_def] using e2)) fun y hy=>?_
    simp only[opV,hop,hz,Qv,if_false]
    rw[hy];rfl
   ·rw[hz,cond_true] at h
    refine Ng hR (qs:=parts.toList.map fun p=>(p.1,fr.ev E p.2)) h (by rw[e1];simp[Function.comp_def]) (by simpa [Function.comp_def] using e2) hi rfl fun y σ' hy=>.bC ?_
    simp only[opV,hop,hz,if_true]
    exact hy
  ·cases h
 ·
  rename_i t a hop
  split at h
  ·rename_i p off hv
   split at h
   ·rename_i cs hl
    split at h
    ·rename_i v hld
     cases h
     obtain⟨s,h1,h2⟩:=(aC (E:=E) hi hg hv).dY
     obtain⟨s',l,h3,h4,h5⟩:=hi.rd hl
     rw[h1] at h3;cases h3
     obtain⟨y,hy,hr⟩:=jM h5 hld
     exact .tt (by simp only[opV,hop,h2,h4,Option.bind_some,hy,Option.map_some]) hr
    ·cases h
   ·cases h
  ·rename_i cs off hv
   split at h
   ·rename_i v hld
    cases h
    obtain⟨l,h2,h5⟩:=(aC (E:=E) hi hg hv).gy
    obtain⟨y,hy,hr⟩:=jM h5 hld
    exact .tt (by simp only[opV,hop,h2,hy,Option.map_some]) hr
   ·cases h
  ·rename_i p τ i off hv
   split at h
   ·rename_i ob hl
    obtain⟨s,h1,_,h2⟩:=(aC (E:=E) hi hg hv).lG
    obtain⟨l,f,rfl,hf⟩:=M8 h (hi.rd hl) h1
    intro y hy
    obtain⟨cs,w,h3,h4,h5⟩:=hf y hy
    exact⟨w,.bC (by simp only[opV,hop,h2,h3,Option.bind_some,h4,Option.map_some]),h5⟩
   ·cases h
  ·cases h
 ·
  rename_i t a x hop
  split at h
  ·rename_i p off v hv hx
   split at h
   ·rename_i cs sz hl hsz
    obtain⟨hc,h⟩:=aH h
    cases h
    simp only[iP] at hc
    obtain⟨⟨⟨c1,c2⟩,c3⟩,c4⟩:=hc
    obtain⟨s,h1,h2⟩:=(aC (E:=E) hi hg hv).dY
    obtain⟨s',l,h3,h4,h5⟩:=hi.ob _ _ hl
    rw[h1] at h3;cases h3
    obtain⟨h6,h7⟩:=gF c4 (aC (E:=E) hi hg hx)
    refine⟨undefV,_,ρ,.bC (o:=o) ?_,(hi.le (QD _)).set p s ⟨s,_,h1,cells_eq _ _ _ _,xu off h5 h6⟩,rfl,by unfold Rl;rfl,fun q _=>au.set hl rfl⟩
    simp only[opV,hop,h2,h4,Option.bind_some]
    rw[if_pos ⟨by rw[hsz,h6.length,aJ c1],by rw[h6.length,h5.length];exact QJ c2,nA c3 h6⟩]
   ·cases h
  ·cases h
 ·
  rename_i x hop
  split at h
  ·rename_i p off hv;cases h
   have hr:=aC (E:=E) hi hg hv
   obtain⟨s,h1,h2⟩:=hr.dY
   exact .tt (y:=fr.ev E x) (by simp only[opV,hop,h2]) hr
  ·rename_i p off hv;cases h
   have hr:=aC (E:=E) hi hg hv
   obtain⟨s,h2,h1⟩:=hr.gy
   exact .tt (y:=fr.ev E x) (by simp only[opV,hop,h2]) hr
  ·rename_i p τ i off hv;cases h
   have hr:=aC (E:=E) hi hg hv
   obtain⟨s,h1,_,h2⟩:=hr.lG
   exact .tt (y:=fr.ev E x) (by simp only[opV,hop,h2]) hr
  ·rename_i f a' b' hv;cases h
   have hr:=aC (E:=E) hi hg hv
   obtain⟨a',b',h2,h1⟩:=hr.dn
   exact .tt (y:=fr.ev E x) (by simp only[opV,hop,h2]) hr
  ·cases h
 ·
  rename_i op t x y t' hop
  split at h
  ·rename_i x' y' hx hy
   exact .val (ML h (aC (E:=E) hi hg hx) (aC (E:=E) hi hg hy)) fun z hz=>by simp only[opV,hop,hz,Option.map_some]
  ·cases h
 ·
  rename_i op t x hop
  split at h
  ·rename_i x' hx
   exact .val (MN h (aC (E:=E) hi hg hx)) fun z hz=>by simp only[opV,hop,hz,Option.map_some]
  ·cases h
 ·
  rename_i a' b' x hop
  split at h
  ·rename_i x' hx
   exact .val (MO (σ:=σ) h (aC (E:=E) hi hg hx)) fun z hz=>by simp only[opV,hop,hz,Option.map_some]
  ·cases h
 ·
  rename_i f a' b' hop
  split at h
  ·rename_i xs ys hx hy
   cases h
   exact .tt (y:=.fn (.func f) (a'.toList.map (fr.ev E)) (b'.toList.map (fr.ev E))) (by simp only[opV,hop]) (by unfold Rl;exact⟨_,_,rfl,jm (E:=E) hi hg hx,jm (E:=E) hi hg hy⟩)
  ·cases h
 ·
  rename_i t hop
  split at h
  ·rename_i d k e hd ht
   split at h
   ·rename_i k' e' hk he
    cases h
    refine⟨.mapr (ρ.om.lc d) ah,_,ρ.bX d ah,.bC (o:=o) ?_,(hi.le (QD _)).new d ah (a:=.map [] []) ⟨ah,d9,map_eq σ (ρ.om.lc d) ah [] []⟩,rfl,by unfold Rl;exact⟨ah,d9,rfl⟩,fun q hq=>au.new (fun e=>hq.1 (by rw[hd,e]))⟩
    simp only[opV,hop,hd,Option.map_some,hi.at (aU _ hd)]
   ·cases h
    refine⟨.mapr (ρ.om.lc d) ah,_,ρ.bX d ah,.bC (o:=o) ?_,(hi.le (QD _)).new d ah (a:=.map [] []) ⟨ah,[],[],d9,map_eq σ (ρ.om.lc d) ah [] [],rfl,rfl⟩,rfl,by unfold Rl;exact⟨ah,d9,rfl⟩,fun q hq=>au.new (fun e=>hq.1 (by rw[hd,e]))⟩
    simp only[opV,hop,hd,Option.map_some,hi.at (aU _ hd)]
  ·cases h
 ·
  rename_i t l c hop
  split at h
  ·rename_i n m hn hm
   refine Ni hR h (aC (E:=E) hi hg hn) (aC (E:=E) hi hg hm) hi rfl fun y σ' hy=>.bC ?_
   have e:(o.dst.map fun t=>(fr.d,t))=o.dst.map fun t=>(ρ.om.lc t):=hi.Ej aU
   simp only[opV,hop]
   rw[e,hi.om,hom];exact hy
  ·cases h
 ·
  rename_i t x lo hi' hop
  split at h
  ·rename_i x' hx
   have hxr:=aC (E:=E) hi hg hx
   split at h
   ·exact .val (sV hR (σ:=σ) (vl:=none) (vh:=none) h hxr hi (fun y hy=>by cases hy) (fun _=>rfl) (fun y hy=>by cases hy) (fun _=>rfl)) fun z hz=>by simp only[opV,hop,bE,hz,Option.map_some]
   ·rename_i lo
    split at h
    ·rename_i l hl
     exact .val (sV hR (σ:=σ) (vl:=some (fr.ev E lo)) (vh:=none) h hxr hi (fun y hy=>by cases hy;exact⟨_,rfl,aC (E:=E) hi hg hl⟩) (fun h=>by cases h) (fun y hy=>by cases hy) (fun _=>rfl)) fun z hz=>by simp only[opV,hop,bE,hz,Option.map_some]
    ·cases h
   ·rename_i hi2
    split at h
    ·rename_i l hl
     exact .val (sV hR (σ:=σ) (vl:=none) (vh:=some (fr.ev E hi2)) h hxr hi (fun y hy=>by cases hy) (fun _=>rfl) (fun y hy=>by cases hy;exact⟨_,rfl,aC (E:=E) hi hg hl⟩) (fun h=>by cases h)) fun z hz=>by simp only[opV,hop,bE,hz,Option.map_some]
    ·cases h
   ·rename_i lo hi2
    split at h
    ·rename_i l l2 hl hl2
     exact .val (sV hR (σ:=σ) (vl:=some (fr.ev E lo)) (vh:=some (fr.ev E hi2)) h hxr hi (fun y hy=>by cases hy;exact⟨_,rfl,aC (E:=E) hi hg hl⟩) (fun h=>by cases h) (fun y hy=>by cases hy;exact⟨_,rfl,aC (E:=E) hi hg hl2⟩) (fun h=>by cases h)) fun z hz=>by simp only[opV,hop,bE,hz,Option.map_some]
    ·cases h
  ·cases h
 ·
  rename_i t x f hop
  split at h
  ·rename_i x' hx
   have hxr:=aC (E:=E) hi hg hx
   split at h
   ·rename_i v hv
    cases h
    unfold fieldsM at hv
    split at hv
    ·rename_i p u hf
     split at hv
     ·rename_i q off
      cases hv
      obtain⟨s,h1,h2⟩:=hxr.dY
      exact .tt (y:=.ref (ρ.om.lc q) s (off+p)) (by simp only[opV,hop,hf,Option.bind_some,h2]) (by unfold Rl;exact⟨s,h1,rfl⟩)
     ·rename_i q off
      cases hv
      obtain⟨l,h2,h1⟩:=hxr.gy
      exact .tt (y:=.cref l (off+p)) (by simp only[opV,hop,hf,Option.bind_some,h2]) (by unfold Rl;exact⟨l,rfl,h1⟩)
     ·rename_i q τ i off
      cases hv
      obtain⟨s,h1,h3,h2⟩:=hxr.lG
      exact .tt (y:=.ref (ρ.om.lc q) s (i.toNat*szD R τ+off+p)) (by simp only[opV,hop,hf,Option.bind_some,h2]) (by unfold Rl;exact⟨s,h1,h3,by rw[Q8]⟩)
     ·cases hv
    ·cases hv
   ·cases h
  ·cases h
 ·
  rename_i t x f hop
  split at h
  ·rename_i p u cs hf hx
   split at h
   ·rename_i v hv
    cases h
    obtain⟨l,h1,h2⟩:=(aC (E:=E) hi hg hx).bY
    obtain⟨y,hy,hr⟩:=jM h2 hv
    exact .tt (by simp only[opV,hop,hf,Option.bind_some,h1,hy,Option.map_some]) hr
   ·cases h
  ·cases h
 ·
  rename_i t x i hop
  split at h
  ·rename_i p τ y' hx hy
   exact .val (Nn hR (om:=false) h (aC (E:=E) hi hg hx) (aC (E:=E) hi hg hy) hi) fun z hz=>by simp only[opV,hop,hz,Option.map_some]
  ·rename_i p τ a c y' hx hy
   exact .val (Nl hR h (aC (E:=E) hi hg hx) (aC (E:=E) hi hg hy) hi) fun z hz=>by simp only[opV,hop,hz,Option.map_some]
  ·rename_i x' y' _ _ hx hy
   exact .val (Ny hR h (aC (E:=E) hi hg hx) (aC (E:=E) hi hg hy)) fun z hz=>by simp only[opV,hop,hz,Option.map_some]
  ·cases h
 ·
  rename_i t x i hop
  split at h
  ·rename_i x' y' hx hy
   exact .val (Nz h (aC (E:=E) hi hg hx) (aC (E:=E) hi hg hy)) fun z hz=>by simp only[opV,hop,hz,Option.map_some]
  ·cases h
 ·
  rename_i t x i ok hop
  split at h
  ·rename_i x' y' hx hy
   exact .val (NU hR h (aC (E:=E) hi hg hx) (aC (E:=E) hi hg hy) hi) fun z hz=>by simp only[opV,hop,hz,Option.map_some]
  ·cases h
 ·
  rename_i t m k v hop
  split at h
  ·rename_i m' k' v' hm hk hv
   exact Ei hR h (aC (E:=E) hi hg hm) (aC (E:=E) hi hg hk) (aC (E:=E) hi hg hv) hi fun σ' hs=>by simp only[opV,hop,hs,Option.map_some]
  ·cases h
 ·rename_i t m k v hop
  split at h
  ·rename_i m' k' v' hm hk hv
   exact Ei hR h (aC (E:=E) hi hg hm) (aC (E:=E) hi hg hk) (aC (E:=E) hi hg hv) hi fun σ' hs=>by simp only[opV,hop,hs,Option.map_some]
  ·cases h
 ·
  rename_i x i hop
  split at h
  ·rename_i vs hv
   split at h
   ·rename_i v hx
    cases h
    obtain⟨l,h1,h2⟩:=(aC (E:=E) hi hg hv).mX
    obtain⟨y,hy,hr⟩:=h2.get hx
    exact .tt (by simp only[opV,hop,h1,hy,Option.map_some]) hr
   ·cases h
  ·cases h
 ·
  rename_i c hop
  split at h
  ·rename_i bi aS
   split at h
   ·rename_i vs hvs
    have hrs:=jm (E:=E) hi hg hvs
    have step:∀y σ',eG E fr.om (o.dst.map fun t=>(fr.d,E.cn t)) σ ah bi c.argTypes (c.args.toList.map (fr.ev E))=some (y,σ')->dA E fr σ ah o y σ':=fun y σ' hb=>.of fun S=>by
     simp only[opC,hop,aS,hb,Option.map_some]
    unfold blt at h
    split at h
    ·rename_i x
     split at h
     ·rename_i t ht
      split at h
      ·rename_i n hn
       cases h
       obtain⟨v,l,e,h1,h2⟩:=hrs.inv_cons
       rw[h2.inv_nil] at e
       refine⟨_,step _ σ ?_,by unfold Rl;rfl⟩
       rw[e]
       simp only[eG,ht,Option.bind_some,MZ hn h1 hi,Option.map_some]
      ·cases h
     ·cases h
    ·rename_i x y
     split at h
     ·rename_i t u ht hu
      obtain⟨v,l,e,h1,h2⟩:=hrs.inv_cons
      obtain⟨w,l',e',h3,h4⟩:=h2.inv_cons
      subst e'
      rw[h4.inv_nil] at e
      have e0:(o.dst.map fun t=>(fr.d,t))=o.dst.map fun t=>(ρ.om.lc t):=hi.Ej aU
      have fin:isSS E u=true->∀z σ',eF E.P om false σ ah (o.dst.map fun t=>(fr.d,E.cn t)) t v w=some (z,σ')->dA E fr σ ah o z σ':=fun hss z σ' hz=>step z σ' (by
       rw[e]
       unfold isSS at hss
       simp only[eG,ht,hu,Option.bind_some,hi.om,hom]
       split at hss
       ·rename_i hu';rw[hu'];simp only[hz,Option.bind_some]
       ·rename_i hu';rw[hu'];simp only[hz,Option.bind_some]
       ·cases hss)
      cases qj:om
      ·rw[qj] at h fin
       have h':appM E R o.dst t u x y st=some r:=h
       have hss:isSS E u=true:=by
        unfold appM at h'
        split at h'
        ·split at h'
         ·exact(aH h').1
         ·cases h'
        ·cases h'
       exact MX hR (loc:=o.dst.map fun t=>(fr.d,E.cn t)) h' h1 h3 hi (fin hss)
      ·rw[qj] at h fin
       have h':appOM E R o.dst t u x y st=some r:=h
       have hss:isSS E u=true:=by
        unfold appOM at h'
        split at h'
        ·rename_i d' _
         cases hbl:Nat.ble F0 (E.cn d') with
         |true=>rw[hbl] at h';cases h'
         |false=>
          rw[hbl,cond_false] at h'
          split at h'
          ·exact(aH h').1
          ·cases h'
        ·cases h'
       exact Nh hR h' h1 h3 hi rfl (fin hss)
     ·cases h
    ·rename_i x
     split at h
     ·rename_i t ht
      obtain⟨v,l,e,h1,h2⟩:=hrs.inv_cons
      rw[h2.inv_nil] at e
      exact Oh hR h h1 hi fun y σ' hy=>step y σ' (by rw[e];simp only[eG,ht,Option.bind_some,hy])
     ·cases h
    ·rename_i x l
     split at h
     ·rename_i v hv
      cases h
      obtain⟨y,ys,e,h1,h2⟩:=hrs.inv_cons
      obtain⟨w,hw,hr⟩:=xJ false hv h1 h2
      refine⟨w,step w σ ?_,hr⟩
      rw[e]
      simp only[eG,hw,Option.map_some]
     ·cases h
    ·rename_i x l
     split at h
     ·rename_i v hv
      cases h
      obtain⟨y,ys,e,h1,h2⟩:=hrs.inv_cons
      obtain⟨w,hw,hr⟩:=xJ true hv h1 h2
      refine⟨w,step w σ ?_,hr⟩
      rw[e]
      simp only[eG,hw,Option.map_some]
     ·cases h
    ·cases h
   ·cases h
  ·rename_i f aS
   split at h
   ·rename_i f' a' b' vs hf hvs
    cases himp:E.imp f' with
    |true=>rw[himp] at h;cases h
    |false=>
     rw[himp,cond_false] at h
     obtain⟨va,vb,h1,h2,h3⟩:=(aC (E:=E) hi hg hf).dn
     exact DX hR hF hop aS h1 himp ((h2.append (jm (E:=E) hi hg hvs)).append h3) hi (fun _ hx=>hx) h
   ·cases h
  ·cases h
 ·cases h
theorem jr {om:Bool} {F:Nat->List (FR R)} (hF:RegsOK E F) (hom:ρ.om.om=om) (aU:∀d,o.dst=some d->d<F0) {g:List (Nat×Bool)} (hg:fM fr g) (hi:aj ρ ah st fr σ) {r:Res R} (h:opM E R om F g o.dst o.op st=some r):fB E st ρ ah fr σ o r:=by
 unfold opM at h
 split at h
 ·rename_i r' hx;cases h;exact NW hR aU hg hi hx
 ·exact Oj hR hF hom aU hg hi h
end
end Aq
