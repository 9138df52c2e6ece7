import Derived.Test.YtgdialomgeijcaaGreatF3710
set_option linter.all false
section
namespace Aq
open Go
section
variable {R:Reg} {E:Env}
variable {ρ:ak} {top:Nat->Nat} {b stp:Nat} {st:MS R.T} {fr:Fr} {σ:Sig} {o:Oper}
theorem gD.val {v:Option V} {r:Res R} (hv:fq ρ σ.top v r) (ho:∀y,v=some y->aF E fr σ stp o=some (y,σ)):gD E st ρ stp fr σ o r:=by
 cases r with
 |t x=>obtain⟨y,e,hr⟩:=hv;exact⟨y,.bQ (ho y e),hr⟩
 |c c x=>intro hc;obtain⟨y,e,hr⟩:=hv hc;exact⟨y,.bQ (ho y e),hr⟩
 |p α d o' f=>intro a ha;obtain⟨y,e,hr⟩:=hv a ha;exact⟨y,.bQ (ho y e),hr⟩
 |w x s=>exact hv.elim
 |wc c x s=>exact hv.elim
theorem gD.tt {x:TV R.T} {y:V} (ho:aF E fr σ stp o=some (y,σ)) (hr:Rl R ρ σ.top x y):gD E st ρ stp fr σ o (.t x):=⟨y,.bQ ho,hr⟩
theorem rz {x:Operand}:bS E fr (some x)=some (fr.ev E x):=rfl
theorem Fh {top:Nat->Nat} {x y v:TV R.T} {w:V} (h:muxM true x y=some v) (hx:Rl R ρ top x w):Rl R ρ top v w:=by
 unfold muxM at h
 split at h<;>try cases h
 ·split at h
  ·cases h;exact hx
  ·cases h
 all_goals first|exact hx| (unfold Rl at hx⊢;exact hx)
theorem Fj {top:Nat->Nat} {x y v:TV R.T} {w:V} (h:muxM false x y=some v) (hx:Rl R ρ top y w):Rl R ρ top v w:=by
 unfold muxM at h
 split at h<;>try cases h
 ·split at h
  ·rename_i e;subst e;cases h;exact hx
  ·cases h
 all_goals first|exact hx| (unfold Rl at hx⊢;exact hx)
theorem o9 {c a' b':Operand} {t:Bool} (hop:o.op= .pick c a' b') (hc:fr.ev E c= .bool t):aF E fr σ stp o=some (if t then fr.ev E a' else fr.ev E b',σ):=by
 simp only[aF,hop,hc,fA,Option.map_some]
variable (hR:RegOK R)
include hR
theorem OX {t:TypeId} {m x:TV R.T} {v w:V} {ok:Bool} {r:Res R} (h:lookupM E R t m x ok st=some r) (hm:Rl R ρ σ.top m v) (hx:Rl R ρ σ.top x w) (hi:aj ρ b st fr σ):fq ρ σ.top (jE E.P σ t v w ok) r:=by
 unfold lookupM at h
 split at h
 ·rename_i o
  split at h
  ·rename_i k e m hl
   obtain⟨s,h1,rfl⟩:=hm.kF
   obtain⟨s',h2,h3⟩:=hi.rd hl
   rw[h1] at h2;cases h2
   exact yN hR h hx h3
  ·cases h
 ·rename_i k e m
  exact yN hR h hx (by rw[hm.oK];rfl)
 ·split at h
  ·split at h
   ·unfold Rl at hm;subst hm
    exact yN hR h hx rfl
   ·cases h
  ·cases h
 ·cases h
omit hR in
theorem Fp {top:Nat->Nat} {x y:TV R.T} {v w:V} {r:Bool} (h:eqKM x y=some r) (hx:Rl R ρ top x v) (hy:Rl R ρ top y w):eT v w=some r:=by
 unfold eqKM at h
 split at h
 ·rw[hx.bE,hy.bE];exact h
 ·cases h;rw[hx.eG,hy.eG];rfl
 ·cases h
omit hR in
theorem Fq {top:Nat->Nat} {t:TypeId} {x:TV R.T} {v:V} (h:keyS E t x=true) (hx:Rl R ρ top x v):dP E.P t v=true:=by
 unfold keyS at h
 split at h
 ·rename_i hu;rw[hx.bE];unfold dP;rw[hu]
 ·rename_i hu;rw[hx.eG];unfold dP;rw[hu]
 ·cases h
omit hR in
theorem Fu {top:Nat->Nat} {x y:TV R.T} {v w:V} (hx:Rl R ρ top x v) (hy:Rl R ρ top y w):∀{ks vs:List (TV R.T)} {ks' vs':List (TV R.T)} {k l:List V},setS x y ks vs=some (ks',vs')->ah R ρ top ks k->ah R ρ top vs l->
 ∃k' l',jD v w k l=some (k',l')/\ah R ρ top ks' k'/\ah R ρ top vs' l'
 | [],[],_,_,k,l,h,h1,h2=>by
   cases h
   rw[h1.bB,h2.bB]
   exact⟨_,_,rfl,.cons' hx rfl,.cons' hy rfl⟩
 | [],_::_,_,_,_,_,h,_,_=>by cases h
 |_::_,[],_,_,_,_,h,_,_=>by cases h
 |a::ks,b::vs,ks',vs',k,l,h,h1,h2=>by
  obtain⟨k0,k,rfl,g1,g2⟩:=h1.aQ
  obtain⟨l0,l,rfl,g3,g4⟩:=h2.aQ
  unfold setS at h
  split at h
  ·rename_i c hc
   have he:=Fp hc hx g1
   cases c with
   |true=>cases h;exact⟨v::k,w::l,by simp[jD,he],.cons' hx g2,.cons' hy g4⟩
   |false=>
    rw[cond_false] at h
    split at h
    ·rename_i Ru vs1 hs
     cases h
     obtain⟨k',l',e1,e2,e3⟩:=Fu hx hy hs g2 g4
     exact⟨k0::k',l0::l',by simp[jD,he,e1],.cons' g1 e2,.cons' g3 e3⟩
    ·cases h
  ·cases h
theorem Fv {t:TypeId} {m x y:TV R.T} {v w u:V} {r:Res R} (h:updateM E R t m x y st=some r) (hm:Rl R ρ σ.top m v) (hx:Rl R ρ σ.top x w) (hy:Rl R ρ σ.top y u) (hi:aj ρ stp st fr σ)
 (ho:∀σ',gV E.P σ t v w u=some σ'->aF E fr σ stp o=some (undefV,σ')):gD E st ρ stp fr σ o r:=by
 unfold updateM at h
 split at h
 ·rename_i p
  split at h
  ·rename_i k e m hl
   split at h
   ·rename_i kt et ht
    obtain⟨hk,h⟩:=aR h
    split at h
    ·rename_i a c ha hc
     cases h
     obtain⟨s,h1,rfl⟩:=hm.kF
     obtain⟨s',h2,h3⟩:=hi.ob _ _ hl
     rw[h1] at h2;cases h2
     have hw:=Ev hR hk ha hx
     subst hw
     unfold unE at hc
     obtain⟨hs,hc⟩:=aR hc
     have hu:u=encD R e c:=by
      have h4:=yw hR hc hy
      have h5:=uI hR y u hs hy
      have h6:=h4.2.2.1 0 σ
      rw[dI h5] at h6
      exact R6 h6
     subst hu
     have hup:gV E.P σ t (.mapr (ρ.om.lc p) s) (encD R k a) (encD R e c)=some (σ.setObj (ρ.om.lc p) s (.map ((mset (beqD R k) a c m).map fun q=>encD R k q.1) ((mset (beqD R k) a c m).map fun q=>encD R e q.2))):=by
      unfold gV
      rw[ht];simp only[Option.bind_some]
      rw[if_pos (uz hR hk a a).2,h3]
      simp only[Option.bind_some]
      rw[Eu hR hk a c m];rfl
     refine⟨undefV,_,ρ,.bQ (ho _ hup),(hi.le (RV _)).set p s ⟨s,h1,map_eq _ _ _ _ _⟩,rfl,by unfold Rl;rfl,fun q _=>aA.set hl rfl⟩
    ·cases h
   ·cases h
  ·rename_i ks vs hl
   split at h
   ·rename_i kt et ht
    obtain⟨hk,h⟩:=aR h
    split at h
    ·rename_i ks' vs' hs
     cases h
     obtain⟨s,h1,rfl⟩:=hm.kF
     obtain⟨s',k0,l0,h2,h3,h4,h5⟩:=hi.ob _ _ hl
     rw[h1] at h2;cases h2
     obtain⟨k1,l1,g1,g2,g3⟩:=Fu hx hy hs h4 h5
     have hup:gV E.P σ t (.mapr (ρ.om.lc p) s) w u=some (σ.setObj (ρ.om.lc p) s (.map k1 l1)):=by
      unfold gV
      rw[ht];simp only[Option.bind_some]
      rw[if_pos (Fq hk hx),h3]
      simp only[Option.bind_some]
      rw[g1];rfl
     refine⟨undefV,_,ρ,.bQ (ho _ hup),(hi.le (RV _)).set p s ⟨s,k1,l1,h1,map_eq _ _ _ _ _,g2,g3⟩,rfl,by unfold Rl;rfl,fun q _=>aA.set hl rfl⟩
    ·cases h
   ·cases h
  ·cases h
 ·cases h
omit hR in
theorem aj.at (h:aj ρ b st fr σ) {d:Nat} (hd:d<F0):(fr.d,d)=ρ.om.lc d:=by rw[h.d,Cx.Dn _ hd]
omit hR in
theorem aj.Fw (h:aj ρ b st fr σ) {x:Option Nat} (hd:∀d,x=some d->d<F0):(x.map fun t=>(fr.d,t))=x.map fun t=>ρ.om.lc t:=by
 cases x with
 |none=>rfl
 |some d=>exact congrArg some (h.at (hd d rfl))
theorem Fx {d s:Nat} {cs:List (TV R.T)} {l:List V} (hi:aj ρ b st fr σ) (hc:ah R ρ σ.top cs l) (hm:mentL d cs=false):aj (ρ.dO d s) b (st.new d (.cells cs)) fr (σ.setObj (ρ.om.lc d) s (.cells l)):=
 hi.new d s ⟨s,l,gP,cells_eq _ _ _ _,ah.kill d oO rfl rfl cs l hm hc⟩
theorem Fy {d s:Nat} {ss:List Sg} (hi:aj ρ b st fr σ):aj (ρ.dO d s) b (st.new d (.sg ss)) fr (σ.setObj (ρ.om.lc d) s (.cells (sgV ss))):=
 hi.new d s ⟨s,gP,cells_eq _ _ _ _⟩
theorem zw {g:Nat} {cs:List V} (h:E.glob g=some cs):fr.ev E (.global g)= .cref cs 0:=by
 show (match E.glob g with|some cs=>V.cref cs 0|none=>V.raw (Value.pointer (some ⟨g,0,none⟩)))=_
 rw[h]
omit hR in
theorem Fz {top:Nat->Nat} {k:IntKind} (l:List Int):∀L:List Nat,ah R ρ top (L.map fun j=>(TV.int k (l.getD j 0):TV R.T)) (L.map fun j=>V.int k (l.getD j 0))
 | []=>ah.nil'
 |j::L=>ah.cons' (by unfold Rl;rfl) (Fz l L)
omit hR in
theorem OY {k:IntKind} {l:List Int} {m:Nat} (h:m<=l.length):((List.range m).map fun j=>V.int k (l.getD j 0))=(l.map (V.int k)).take m:=by
 apply List.ext_getElem
 ·rw[RN,Tk,R3,RN];omega
 ·intro i h1 h2
  rw[RN,Tk] at h1
  rw[Te,Tf,List.getElem_take,Te,SQ,Sc (show i<l.length by omega)]
  rfl
theorem OZ {g:List (Nat×Bool)} (bC:∀d,o.dst=some d->d<F0) (hg:gy fr g) (hi:aj ρ stp st fr σ) {r:Res R} (h:opX E R g o.dst o.op st=some r):gD E st ρ stp fr σ o r:=by
 unfold opX at h
 split at h
 ·
  rename_i t hop
  split at h
  ·rename_i d ks cs hd hks hz
   obtain⟨hc,h⟩:=aR h
   cases h
   obtain⟨v,hv,hr⟩:=mV (ρ:=ρ) (top:=σ.top) hz
   obtain⟨l,rfl,hl⟩:=hr.dJ
   have hl2:=OQ hc hl
   refine⟨.ref (ρ.om.lc d) stp 0,_,ρ.dO d stp,.bQ (o:=o) ?_,Fy hR (ss:=ks.map zeroG) (hi.le (RV _)),rfl,by unfold Rl;exact⟨stp,gP,rfl⟩,fun q hq=>aA.new (fun e=>hq.1 (by rw[hd,e]))⟩
   simp only[aF,hop,hd,Option.map_some,Option.bind_some,hv,V.cells,hl2,ru,if_true,hi.at (bC _ hd)]
  ·cases h
 ·
  rename_i t x hop
  cases hz:E.frz t
  case true=>rw[hz] at h;cases h
  rw[hz,cond_false] at h
  split at h
  ·rename_i d ks v hd hks hv
   split at h
   ·rename_i ss hss
    cases h
    obtain⟨c1,c2,c3⟩:=Fa hss (aD (E:=E) hi hg hv)
    refine⟨.ref (ρ.om.lc d) stp 0,_,ρ.dO d stp,.bQ (o:=o) ?_,Fy hR (ss:=ss) (hi.le (RV _)),rfl,by unfold Rl;exact⟨stp,gP,rfl⟩,fun q hq=>aA.new (fun e=>hq.1 (by rw[hd,e]))⟩
    simp only[aF,hop,hz,RH,if_false,hd,Option.map_some,Option.bind_some,c1,c3,ru,and_self,if_true,hi.at (bC _ hd)]
   ·cases h
  ·cases h
 ·
  rename_i t a hop
  split at h
  ·rename_i gl
   split at h
   ·rename_i k n v hv
    cases h
    obtain⟨cs,e,g1,g2,g3,g4,g5,g6⟩:=zo hv
    refine .tt (y:=.agg (v.l.map (V.int k))) ?_ ?_
    ·simp only[aF,hop,zw hR g1]
     unfold ldT;rw[g4,g5];simp only[Option.bind_some]
     unfold fH
     rw[if_pos rfl,if_pos (by rw[g2,RN,v.h];omega),Tv,R7 (by rw[g2,RN,v.h];exact mF _),g2];rfl
    ·unfold Rl;show _=V.agg (v.l.map (V.int k)++[]);rw[SB]
   ·cases h
  ·split at h
   ·rename_i p off hv
    split at h
    ·rename_i ss hl
     split at h
     ·rename_i v hld
      cases h
      obtain⟨s,h1,h2⟩:=(aD (E:=E) hi hg hv).gq
      obtain⟨s',h3,h4⟩:=hi.rd hl
      rw[h1] at h3;cases h3
      obtain⟨y,hy,hr⟩:=EZ (ρ:=ρ) (top:=σ.top) hld
      exact .tt (by simp only[aF,hop,h2,h4,Option.bind_some,hy,Option.map_some]) hr
     ·cases h
    ·cases h
   ·rename_i p off k n i m hv
    split at h
    ·rename_i ss hl
     obtain⟨s,h1,hi0,hi1,h2⟩:=(aD (E:=E) hi hg hv).qN
     obtain⟨s',h3,h4⟩:=hi.rd hl
     rw[h1] at h3;cases h3
     split at h
     ·rename_i pre k' n' v post hsp
      by_cases ek:k'=k
      ·subst ek
       rw[if_pos rfl] at h
       cases hb:Nat.beq n' n
       ·rw[hb] at h;cases h
       rw[hb,cond_true] at h
       have:=aU hb;subst this
       cases hc:(Nat.beq m 1&& elG E t)
       ·rw[hc,cond_false] at h
        split at h
        ·rename_i y hy
         cases h
         obtain⟨x,g1,g2⟩:=OO (ρ:=ρ) (top:=σ.top) hsp hi1 hy
         exact .tt (by simp only[aF,hop,h2,h4,Option.bind_some,g1,Option.map_some]) g2
        ·cases h
       ·rw[hc,cond_true] at h
        cases h
        rw[RD] at hc
        have:=aU hc.1;subst this
        exact .tt (y:=.int k' (v.at' i)) (by simp only[aF,hop,h2,h4,Option.bind_some,E9 (i:=i) hsp (RS (Ta _) hi1) hc.2,Option.map_some]) (by unfold Rl;rfl)
      ·rw[if_neg ek] at h;cases h
     ·cases h
    ·cases h
   ·rename_i k n v i hv
    obtain⟨he,h⟩:=aR h
    cases h
    obtain⟨h1,h2,h3⟩:=(aD (E:=E) hi hg hv).ug
    obtain⟨z1,z2⟩:=lT he
    refine .tt (y:=.int k (v.at' i)) ?_ (by unfold Rl;rfl)
    simp only[aF,hop,h3]
    unfold ldT;rw[z1,z2];simp only[Option.bind_some]
    unfold fH;simp only[RH,if_false]
    rw[List.getElem?_map,E8 v (by omega)];rfl
   ·cases h
 ·
  rename_i t a x hop
  split at h
  ·rename_i p off v hv hx
   split at h
   ·rename_i ss sz hl hsz
    split at h
    ·rename_i pre rest hsp
     split at h
     ·rename_i mid post hsp2
      split at h
      ·rename_i mid' hco
       cases h
       obtain⟨s,h1,h2⟩:=(aD (E:=E) hi hg hv).gq
       obtain⟨s',h3,h4⟩:=hi.ob _ _ hl
       rw[h1] at h3;cases h3
       obtain⟨c1,c2,c3⟩:=Fa hco (aD (E:=E) hi hg hx)
       obtain⟨e1,w1⟩:=jC hsp
       obtain⟨e2,w2⟩:=jC hsp2
       rw[uL,w2] at c2
       refine⟨undefV,_,ρ,.bQ (o:=o) ?_,(hi.le (RV _)).set p s (x:=.sg (pre++(mid'++post))) (a:=.cells (sgV (pre++(mid'++post)))) ⟨s,h1,cells_eq _ _ _ _⟩,rfl,by unfold Rl;rfl,fun q _=>aA.set hl rfl⟩
       simp only[aF,hop,h2,h4,Option.bind_some,c1]
       rw[if_pos ⟨by rw[hsz,bN,c2],by rw[bN,bN,e1,e2,lU,lU,w1,w2,c2];omega,ru _⟩,e1,e2,OT w1 w2 c2]
      ·cases h
     ·cases h
    ·cases h
   ·cases h
  ·rename_i p off k n i m k' y hv hx
   split at h
   ·rename_i ss hl
    split at h
    ·rename_i pre k2 n' v post hsp
     by_cases ek:k2=k
     ·subst ek
      rw[if_pos rfl] at h
      by_cases FB:k'=k2
      ·subst FB
       rw[if_pos rfl] at h
       obtain⟨hb,h⟩:=aR h
       cases h
       rw[RD,RD] at hb
       have e1:=aU hb.1.1;subst e1
       have e2:=aU hb.1.2;subst e2
       obtain⟨z1,z2⟩:=lT hb.2
       obtain⟨s,h1,hi0,hi1,h2⟩:=(aD (E:=E) hi hg hv).qN
       obtain⟨s',h3,h4⟩:=hi.ob _ _ hl
       rw[h1] at h3;cases h3
       have hy:=(aD (E:=E) hi hg hx).bE
       obtain⟨e1,w1⟩:=jC hsp
       refine⟨undefV,_,ρ,.bQ (o:=o) ?_,(hi.le (RV _)).set p s (x:=.sg (pre++(.a k' n' (v.set i y)::post))) (a:=.cells (sgV (pre++(.a k' n' (v.set i y)::post)))) ⟨s,h1,cells_eq _ _ _ _⟩,rfl,by unfold Rl;rfl,fun q _=>aA.set hl rfl⟩
       simp only[aF,hop,h2,h4,Option.bind_some,hy,V.cells]
       have O1:=Fe (post:=post) (k:=k') (v:=v) (w:=v.set i y) (l:=[y]) w1 (show i.toNat+[y].length<=n' from hi1) (OU (by rw[v.h];omega))
       rw[if_pos ⟨by rw[z1];rfl,by rw[bN,e1,lU,w1,uK];show off+i.toNat+1<=off+(n'+_);omega,rfl⟩,e1]
       rw[show [V.int k' y]=[y].map (V.int k') from rfl,O1]
      ·rw[if_neg FB] at h;cases h
     ·rw[if_neg ek] at h;cases h
    ·cases h
   ·cases h
  ·cases h
 ·
  rename_i t x i hop
  split at h
  ·rename_i n e k0 i ha hiv
   obtain⟨hel,h⟩:=aR h
   obtain⟨z1,z2⟩:=lT hel
   have hii:=(aD (E:=E) hi hg hiv).bE
   split at h
   ·rename_i gl
    split at h
    ·rename_i k n' v hv
     cases h
     intro hin
     obtain⟨cs,e',g1,g2,g3,g4,g5,g6⟩:=zo hv
     rw[ha] at g3;cases g3
     obtain⟨j1,j2,j3⟩:=uM hin
     refine⟨.cref cs i.toNat,.bQ ?_,by unfold Rl;exact⟨j1,j2,by rw[g2]⟩⟩
     simp only[aF,hop,zw hR g1,hii]
     unfold indexAddrV
     rw[qZ ha];dsimp only
     rw[z1];simp only[Option.bind_some,zq hin,Option.map_some,Nat.mul_one,Sr]
    ·cases h
   ·split at h
    ·rename_i p off hv
     split at h
     ·rename_i ss hl
      split at h
      ·rename_i pre k n' v post hsp
       obtain⟨hb,h⟩:=aR h
       have:=aU hb;subst this
       cases h
       intro hin
       obtain⟨s,h1,h2⟩:=(aD (E:=E) hi hg hv).gq
       obtain⟨j1,j2,j3⟩:=uM hin
       refine⟨.ref (ρ.om.lc p) s (off+i.toNat),.bQ ?_,by unfold Rl;exact⟨s,h1,j1,by omega,rfl⟩⟩
       simp only[aF,hop,h2,hii]
       unfold indexAddrV
       rw[qZ ha];dsimp only
       rw[z1];simp only[Option.bind_some,zq hin,Option.map_some,Nat.mul_one]
      ·cases h
     ·cases h
    ·cases h
  ·cases h
 ·
  rename_i t x i hop
  split at h
  ·rename_i n e k n' v k0 i ha hv hiv
   obtain⟨hb,h⟩:=aR h
   cases h
   rw[RD] at hb
   have:=aU hb.2;subst this
   obtain⟨z1,z2⟩:=lT hb.1
   have hii:=(aD (E:=E) hi hg hiv).bE
   have hvv:=(aD (E:=E) hi hg hv).qM
   intro hin
   obtain⟨j1,j2,j3⟩:=uM hin
   refine⟨.int k (v.at' i),.bQ ?_,by unfold Rl;rfl⟩
   simp only[aF,hop,hvv,hii]
   unfold jU
   rw[qZ ha];dsimp only
   rw[zq hin];simp only[Option.bind_some,z1,Nat.mul_one]
   have:=E9 (E:=E) (t:=e) (ss:=[.a k n' v]) (pre:=[]) (post:=[]) (off:=0) (i:=i) rfl j3 hb.1
   rw[Sr] at this
   rw[this];rfl
  ·cases h
 ·
  rename_i t x lo hi' hop
  split at h
  ·rename_i v hv
   have dW:=aD (E:=E) hi hg hv
   have ho:∀vl vh,bS E fr lo=vl->bS E fr hi'=vh->∀y,dV E.P σ t (fr.ev E x) vl vh none=some y->aF E fr σ stp o=some (y,σ):=by
    rintro vl vh rfl rfl y hy
    simp only[aF,hop]
    rw[show bS E fr none=none from rfl,hy];rfl
   split at h
   ·exact .val (uO h dW hi (vl:=none) (vh:=none) (by intro y hy;cases hy) (fun _=>rfl) (by intro y hy;cases hy) (fun _=>rfl)) (ho _ _ rfl rfl)
   ·rename_i lo
    split at h
    ·rename_i l hl
     have hlr:=aD (E:=E) hi hg hl
     exact .val (uO h dW hi (vl:=some (fr.ev E lo)) (vh:=none) (by intro y hy;cases hy;exact⟨_,rfl,hlr⟩) (by intro hy;cases hy) (by intro y hy;cases hy) (fun _=>rfl)) (ho _ _ rfl rfl)
    ·cases h
   ·rename_i hi'
    split at h
    ·rename_i l hl
     have hlr:=aD (E:=E) hi hg hl
     exact .val (uO h dW hi (vl:=none) (vh:=some (fr.ev E hi')) (by intro y hy;cases hy) (fun _=>rfl) (by intro y hy;cases hy;exact⟨_,rfl,hlr⟩) (by intro hy;cases hy)) (ho _ _ rfl rfl)
    ·cases h
   ·rename_i lo hi'
    split at h
    ·rename_i l m hl hm
     have hlr:=aD (E:=E) hi hg hl
     have hmr:=aD (E:=E) hi hg hm
     exact .val (uO h dW hi (vl:=some (fr.ev E lo)) (vh:=some (fr.ev E hi')) (by intro y hy;cases hy;exact⟨_,rfl,hlr⟩) (by intro hy;cases hy) (by intro y hy;cases hy;exact⟨_,rfl,hmr⟩) (by intro hy;cases hy)) (ho _ _ rfl rfl)
    ·cases h
  ·cases h
 ·
  rename_i t x lo hi' mx hop
  split at h
  ·rename_i cp u l kh hh uP km e hv O4 O5 hu
   split at h
   ·rename_i sz hsz
    cases hb:Nat.beq sz (szD R u)
    ·rw[hb] at h;cases h
    rw[hb,cond_true] at h
    have:=aU hb;subst this
    obtain⟨c',h2,_⟩:=(aD (E:=E) hi hg hv).dN
    have eh:=(aD (E:=E) hi hg O4).bE
    have em:=(aD (E:=E) hi hg O5).bE
    have fin:∀(vl:Option V) (a:Nat) (L:List (Den R.T u)),bS E fr lo=vl->cu l.length l.length vl (some (.int kh hh)) (some (.int uP km))=some (a,hh.toNat,km.toNat)->(l.take hh.toNat).drop a=L->∃y,dU E fr σ stp o y σ/\Rl R ρ σ.top (.lst .any u L) y:=by
     rintro vl a L hvl hsb rfl
     refine⟨.lst (if km.toNat=hh.toNat then .full else .sh) (((l.map (encD R u)).take hh.toNat).drop a),.bQ ?_,?_⟩
     ·simp only[aF,hop,h2]
      rw[hvl,show bS E fr (some hi')=some (.int kh hh) by rw[rz,eh],show bS E fr (some mx)=some (.int uP km) by rw[rz,em]]
      unfold dV
      rw[hu];dsimp only
      rw[hsz];simp only[Option.bind_some,RN,hsb,qR hR,if_true,Option.isNone_some,RH,and_false,if_false,Option.map_some]
     ·unfold Rl
      exact⟨_,by rw[yM],trivial⟩
    split at h
    ·cases hf:fullD E o.dst with
     |false=>
      rw[hf,cond_false] at h
      cases h
      intro hc
      rw[RD] at hc
      exact fin none 0 _ rfl (by simp[cu,iJ hc.1,iJ hc.2]) (by simp[subL])
     |true=>
      rw[hf,cond_true] at h
      cases h
      intro hc
      rw[RD,RD] at hc
      obtain⟨y,hy1,hy2⟩:=fin none 0 _ rfl (by simp[cu,iJ hc.1,iJ hc.2.1]) rfl
      have hkm:hh=km:=by simpa using hc.2.2
      subst hkm
      refine⟨.lst .full (((l.map (encD R u)).take hh.toNat).drop 0),.bQ ?_,?_⟩
      ·simp only[aF,hop,h2]
       rw[show bS E fr none=none from rfl,show bS E fr (some hi')=some (.int kh hh) by rw[rz,eh],show bS E fr (some mx)=some (.int uP hh) by rw[rz,em]]
       unfold dV
       rw[hu];dsimp only
       have hsb:cu l.length l.length none (some (.int kh hh)) (some (.int uP hh))=some (0,hh.toNat,hh.toNat):=by simp[cu,iJ hc.1,iJ hc.2.1]
       rw[hsz];simp only[Option.bind_some,RN,hsb,qR hR,if_true,Option.isNone_some,RH,and_false,if_false,Option.map_some]
      ·unfold Rl
       exact⟨.full,by rw[yM];simp[subL],rfl⟩
    ·rename_i lo'
     split at h
     ·rename_i ka a hva
      cases h
      intro hc
      rw[RD,RD] at hc
      have ea:=(aD (E:=E) hi hg hva).bE
      exact fin (some (.int ka a)) a.toNat _ (by rw[rz,ea]) (by simp[cu,iJ hc.1,iJ hc.2.1,iJ hc.2.2]) (by simp[subL])
     ·cases h
   ·cases h
  ·cases h
 ·
  rename_i a b' x hop
  split at h
  ·rename_i p off k n lo hi' hv
   obtain⟨s,h1,hB,h2⟩:=(aD (E:=E) hi hg hv).lF
   split at h
   ·rename_i e hu1 hu2
    split at h
    ·rename_i hu3
     split at h
     ·rename_i l hl
      cases h
      obtain⟨cs,c1,c2,c3,c4⟩:=EN hR hi hl h1 hB
      obtain⟨p1,p2,p3,_,_⟩:=mY hB
      refine .tt (y:=.str (List.map (fun n:Int=>UInt8.ofNat n.toNat) l)) ?_ (by unfold Rl;rfl)
      simp only[aF,hop,h2]
      unfold jT
      rw[hu1,hu2];dsimp only
      rw[hu3,c1];dsimp only
      simp only[Option.bind_some]
      rw[if_pos (by omega),c3]
      have:=yL (R:=R) l
      rw[show l.map (V.int .u8)=List.map (encD R (.int .u8)) l from rfl,this];rfl
     ·cases h
    ·cases h
   ·cases h
  ·cases h
 ·
  rename_i t x hop
  split at h
  ·rename_i m e p off k n lo hi' ha hv
   cases h
   intro hc
   have hc:=of_decide_eq_true hc
   obtain⟨s,h1,hB,h2⟩:=(aD (E:=E) hi hg hv).lF
   obtain⟨p1,p2,p3,p4,p5⟩:=mY hB
   refine⟨.ref (ρ.om.lc p) s (off+(loI lo).toNat),.bQ ?_,by unfold Rl;exact⟨s,h1,p4,by omega,rfl⟩⟩
   simp only[aF,hop,ha,h2,Option.bind_some]
   rw[if_pos ⟨hc.1,by omega⟩]
  ·rename_i m e c k l ha hv
   cases h
   intro hc
   have hc:=of_decide_eq_true hc
   obtain⟨c',h2,_⟩:=(aD (E:=E) hi hg hv).dN
   have hr:ah R ρ σ.top (arrI R k m l) ((List.map (V.int k) l).take m):=by
    rw[<-OY hc.2];exact Fz l _
   refine⟨.cref ((List.map (V.int k) l).take m) 0,.bQ ?_,by unfold Rl;exact⟨_,rfl,hr⟩⟩
   simp only[aF,hop,ha,h2,Option.bind_some]
   rw[if_pos ⟨hc.1,by rw[RN];exact hc.2,by unfold oneCells;rw[List.all_map];exact RZ.2 fun _ _=>rfl⟩]
   rfl
  ·cases h
 ·
  rename_i c hop
  split at h
  ·rename_i p off k n lo hi' y bf hvs
   split at h
   ·rename_i t ht
    split at h
    ·rename_i e he
     obtain⟨hel,h⟩:=aR h
     obtain⟨z1,z2⟩:=lT hel
     split at h
     ·rename_i l0 ss hsrc hl
      obtain⟨l,hl0⟩:∃l:List Int,l=l0:=⟨l0,rfl⟩
      subst hl0
      split at h
      ·rename_i pre k' n' v post hsp
       by_cases ek:k'=k
       ·subst ek
        rw[if_pos rfl] at h
        cases hb:Nat.beq n' n
        ·rw[hb] at h;cases h
        rw[hb,cond_true] at h
        have:=aU hb;subst this
        cases h
        have hargs:=jM (E:=E) hi hg hvs
        obtain⟨a1,Rv,O6,O7,O8⟩:=hargs.aQ
        obtain⟨a2,Rw,O9,Pb,Pd⟩:=O8.aQ
        have Pe:=Pd.bB
        subst Pe;subst O9
        obtain⟨s,h1,hB,rfl⟩:=O7.lF
        obtain⟨p1,p2,p3,p4,p5⟩:=mY hB
        obtain⟨s',h3,h4⟩:=hi.ob _ _ hl
        rw[h1] at h3;cases h3
        obtain⟨e1,w1⟩:=jC hsp
        obtain⟨q1,q2⟩:=yR hR (σ:=σ) (ag:=false) (z:=undefV) hsrc Pb
        have q1:dQ σ false 1 undefV a2=some (List.map (V.int k') l):=q1
        have hlen:(hiI n' hi'-loI lo).toNat=(hiI n' hi').toNat-(loI lo).toNat:=by omega
        have hmin:min (List.map (V.int k') l).length ((hiI n' hi').toNat-(loI lo).toNat)=(List.take (hiI n' hi'-loI lo).toNat l).length:=by
         rw[RN,R3,hlen,Nat.min_comm]
        have hfl:((List.map (V.int k') l).take (List.take (hiI n' hi'-loI lo).toNat l).length).flatMap V.cells=(List.take (hiI n' hi'-loI lo).toNat l).map (V.int k'):=by
         have:∀m:List Int,(m.map (V.int k')).flatMap V.cells=m.map (V.int k'):=by
          intro m
          induction m with
          |nil=>rfl
          |cons x m ih=>rw[RU,Sj,ih];rfl
         rw[<-List.map_take,this,R3]
         congr 1
         by_cases hle:(hiI n' hi'-loI lo).toNat<=List.length l
         ·rw[Tm hle]
         ·rw[Nat.min_eq_right (by omega),R7 (mF _),R7 (by omega)]
        have hlt:(List.take (hiI n' hi'-loI lo).toNat l).length<=(hiI n' hi').toNat-(loI lo).toNat:=by rw[R3,hlen];exact Nat.min_le_left _ _
        have hone:(List.map (V.int k') l).all (fun v=>oneCells v.cells)=true:=by rw[List.all_map];simp[oneCells,V.cells,oneCell]
        refine⟨_,_,ρ,.of (o:=o) fun S=>?_,(hi.le (RV _)).set p s (x:=.sg (pre++(.a k' n' (v.cpy (loI lo) (List.take (hiI n' hi'-loI lo).toNat l))::post))) (a:=.cells (sgV (pre++(.a k' n' (v.cpy (loI lo) (List.take (hiI n' hi'-loI lo).toNat l))::post)))) ⟨s,h1,cells_eq _ _ _ _⟩,rfl,by unfold Rl;rfl,fun q _=>aA.set hl rfl⟩
        unfold opC
        rw[hop];dsimp only
        rw[bf];dsimp only
        rw[O6]
        have hbv:fC E fr.om (o.dst.map fun t=>(fr.d,E.cn t)) σ stp .copy c.argTypes [.vw (ρ.om.lc p) s (off+(loI lo).toNat) ((hiI n' hi').toNat-(loI lo).toNat) (n'-(loI lo).toNat) 1 false,a2]=(c.argTypes[0]?).bind fun t=>copyV E.P σ t (.vw (ρ.om.lc p) s (off+(loI lo).toNat) ((hiI n' hi').toNat-(loI lo).toNat) (n'-(loI lo).toNat) 1 false) a2:=rfl
        rw[hbv,ht];simp only[Option.bind_some]
        rw[OV he z1 z2 q2 q1 hone h4 (by rw[hmin,bN,e1,lU,w1,uK];show off+(loI lo).toNat+_<=off+(n'+_);omega),hmin,hfl]
        simp only[Option.map_some]
        rw[e1,Fe (w:=v.cpy (loI lo) (List.take (hiI n' hi'-loI lo).toNat l)) w1 (by omega) (by unfold Vec.cpy;rw[zl];simp only[RY,R3,Sz,v.h] at*;omega)]
        try rfl
       ·rw[if_neg ek] at h;cases h
      ·cases h
     ·cases h
    ·cases h
   ·cases h
  ·cases h
 ·cases h
omit hR in
theorem FC {α:Type} (l:List α):∀n,(List.replicate n l).flatten.length=n*l.length
 |0=>by simp
 |n+1=>by rw[List.replicate_succ,List.flatten_cons,RY,FC l n,Sv];omega
omit hR in
theorem aj.set0 (h:aj ρ b st fr σ) (o:Nat) {x:Ob R.T} (hx:aY ρ σ o x):aj ρ b (st.set o x) fr σ:={h with
 fr:=h.fr
 ob:=fun p y hy=>by
  have hy':look ((o,x)::delF o st.ob) p=some y:=hy
  by_cases e:p=o
  ·subst e
   rw[bZ] at hy';cases hy'
   exact hx
  ·rw[bF _ _ e,fQ e] at hy'
   exact h.ob p y hy'}
omit hR in
theorem aA.set0 {nr:Bool} {o q:Nat} {x y:Ob R.T} (hl:look st.ob o=some y) (hy:isRo y=false):aA nr q st ρ σ (st.set o x) ρ σ:=⟨rfl,rfl,rfl,mF _,⟨fun _ _=>rfl,fun _ _=>rfl⟩,fun _ _ _=>rfl,fun hr=>by
 have hne:q≠o:=by rintro rfl;rw[hr y hl] at hy;cases hy
 refine⟨fun z hz=>?_,fun s'=>⟨rfl,rfl⟩⟩
 have hz':look ((o,x)::delF o st.ob) q=some z:=hz
 rw[bF _ _ hne,fQ hne] at hz'
 exact hr z hz'⟩
theorem Pf {t:TypeId} {x:TV R.T} {v:V} {r:Res R} (h:clrM E R t x st=some r) (hx:Rl R ρ σ.top x v) (hi:aj ρ stp st fr σ)
 (ho:∀y σ',je E.P σ t v=some (y,σ')->dU E fr σ stp o y σ'):gD E st ρ stp fr σ o r:=by
 have hi1:=hi.le (RV stp)
 unfold clrM at h
 split at h
 ·rename_i p τ a c e τ' sz by_ hw he
  have hxs:=yY hR hw hx hi
  obtain⟨z0,e1,e2,e3,e4,e5,e6,e7,e8,e9⟩:=qU he
  split at h
  ·rename_i et
   subst et
   split at h
   ·rename_i τ2 l0 z hl hz
    split at h
    ·rename_i l zz hc hzu
     obtain⟨hzc,h⟩:=aR h
     rw[RD] at hzc
     cases h
     obtain⟨ec,Ph⟩:=iI hc;subst ec;cases Ph
     obtain⟨zv,z1,z2⟩:=mV (ρ:=ρ) (top:=σ.top) hz
     rw[e5] at z1;cases z1
     obtain⟨g0,g1,g2,hv⟩:=hxs.lD
     have hO:=hi.ob _ _ hl
     have hlen:l0.length=ρ.ln p:=hO.1
     have hnr:isRo (Ob.arr τ2 l0)=false:=rfl
     have hcl:oneCells z0.cells=true:=oU hzc.1 (iY hzc.2 z2).1
     have hll:(clrL l0 a c zz).length=l0.length:=by
      unfold clrL
      rw[RY,RY,R3,List.length_replicate,Sz];omega
     have same:a=c->clrL l0 a c zz=l0:=fun e=>by
      unfold clrL
      rw[e,Int.sub_self];simp
     have quiet:a=c->je E.P σ t v=some (undefV,σ)->gD E st ρ stp fr σ o (.w .undef (st.set p (.arr τ2 (clrL l0 a c zz)))):=fun e hcv=>by
      rw[same e]
      exact⟨undefV,σ,ρ,ho _ _ hcv,hi1.set0 p hO,rfl,by unfold Rl;rfl,fun q hq=>aA.set0 hl hnr⟩
     rcases hv with ⟨s,cp,h1,h2,rfl⟩| ⟨e,k,rfl⟩
     ·rcases hO.2 with hO2| ⟨s',cs,k3,k4,k5⟩
      ·rw[h1] at hO2;exact absurd hO2.2 (by simp)
      ·rw[h1] at k3;cases k3
       have hlc:cs.length=l0.length*szD R τ2:=by rw[k5.length,lN]
       have hle:a.toNat*szD R τ2+(c-a).toNat*szD R τ2<=cs.length:=by
        rw[hlc,<-Sq];exact R8 _ (by omega)
       subst e6
       by_cases hz0:(c-a).toNat=0
       ·refine quiet (by omega) ?_
        unfold je
        simp only[e1,e2,e3,e5,Option.bind_some,k4]
        rw[if_pos ⟨e9,hcl⟩,if_pos ⟨trivial,hle⟩,if_pos hz0]
       ·have hcv:je E.P σ t (.vw (ρ.om.lc p) s (a.toNat*szD R τ2) (c-a).toNat cp (szD R τ2) (isSt τ2))=some (undefV,σ.setObj (ρ.om.lc p) s (.cells (spliceL cs (a.toNat*szD R τ2) ((List.replicate (c-a).toNat z0).flatMap V.cells)))):=by
         unfold je
         simp only[e1,e2,e3,e5,Option.bind_some,k4]
         rw[if_pos ⟨e9,hcl⟩,if_pos ⟨trivial,hle⟩,if_neg hz0]
        have hvl:((List.replicate (c-a).toNat z0).flatMap V.cells).length=(c-a).toNat*szD R τ2:=by
         rw[qV,FC,e9]
        have hrl:ah R ρ σ.top ((clrL l0 a c zz).flatMap fun x=>(tvD R .any τ2 x).cells) (spliceL cs (a.toNat*szD R τ2) ((List.replicate (c-a).toNat z0).flatMap V.cells)):=by
         unfold clrL spliceL
         rw[hvl,List.flatMap_append,List.flatMap_append,<-yU (fun x=>lM .any τ2 x),<-yT (fun x=>lM .any τ2 x),Si]
         refine(k5.take _).append (ah.append ?_ ?_)
         ·rw[qV,qV]
          refine yX ?_ _
          have h1:=oP hR hzu z2
          refine(iY ?_ h1).1
          cases τ2<;>rfl
         ·rw[<-Sq,show a.toNat+(c-a).toNat=c.toNat by omega]
          exact k5.drop _
        refine⟨undefV,_,ρ,ho _ _ hcv,hi1.set p s ⟨hll.trans hO.1,.inr ⟨s,_,h1,cells_eq _ _ _ _,jA _ _ hrl⟩⟩,rfl,by unfold Rl;rfl,fun q hq=>aA.set hl hnr⟩
     ·refine quiet e ?_
      unfold je
      simp only[e1,e2,e3,e5,Option.bind_some]
      rw[if_pos ⟨e9,hcl⟩]
    ·cases h
   ·cases h
  ·cases h
 ·cases h
theorem Pj {om:Bool} {F:Nat->List (FR R)} (hF:RegsOK E F) (aH:ρ.om.om=om) (bC:∀d,o.dst=some d->d<F0) {g:List (Nat×Bool)} (hg:gy fr g) (hi:aj ρ stp st fr σ) {r:Res R} (h:opO E R om F g o.dst o.op st=some r):gD E st ρ stp fr σ o r:=by
 unfold opO at h
 split at h
 ·
  rename_i x hop
  cases hz:fzM E o.dst
  ·rw[hz] at h;dsimp only[cond_false] at h
   split at h
   ·rename_i v hv;cases h;exact .tt (y:=fr.ev E x) (by simp only[aF,hop,hz,RH,if_false]) (aD hi hg hv)
   ·cases h
  ·rw[hz] at h;dsimp only[cond_true] at h
   split at h
   ·rename_i p t hv
    split at h
    ·rename_i t' l0 hl
     split at h
     ·rename_i l hc
      cases h
      obtain⟨e1,e2⟩:=iI hc
      subst e1
      cases e2
      have hO:=hi.ob p _ hl
      have hrl:∀ρ',Rl R ρ' σ.top (.lst .any t' l0) (.lst .sh (l0.map (encD R t'))):=fun ρ'=>by unfold Rl;exact⟨.sh,rfl,trivial⟩
      rcases (aD (E:=E) hi hg hv).kG with ⟨s,h1,h2⟩| ⟨h1,h2⟩
      ·rcases hO.2 with h3| ⟨s',cs,h3,h4,h5⟩
       ·rw[h1] at h3;exact absurd h3.2 (by simp)
       ·rw[h1] at h3;cases h3
        have hlc:cs.length=l0.length*szD R t':=by rw[h5.length,lN]
        have hlen:l0.length=ρ.ln p:=hO.1
        refine⟨.lst .sh (l0.map (encD R t')),σ.bR (ρ.om.lc p),ρ,.bQ ?_,(hi.del p).le (RV _),rfl,hrl ρ,fun q _=>aA.del hl rfl⟩
        simp only[aF,hop,hz,if_true,h2,jg,h4,Option.bind_some,Sr,Tv]
        rw[R7 (by rw[hlc,hlen];exact mF _),EI hR l0 cs h5,<-hlen,y8 hR l0,y9 hR l0]
        rw[if_pos ⟨by rw[hlc];exact mF _,rfl⟩]
      ·have hl0:l0=[]:=SA (hO.1.trans h1)
       subst hl0
       refine⟨.lst .sh [],σ,ρ,.bQ ?_,(hi.del' p).le (RV _),rfl,hrl ρ,fun q _=>aA.del' hl rfl⟩
       simp only[aF,hop,hz,if_true]
       rcases h2 with h2|h2<;>rw[h2]<;>rfl
     ·cases h
    ·cases h
   ·rename_i k m hv
    cases h
    have hr:=aD (E:=E) hi hg hv
    refine .tt (y:=.int k m) ?_ (by unfold Rl;rfl)
    simp only[aF,hop,hz,if_true,hr.bE,jg]
   ·cases h
 ·rename_i x hop
  split at h
  ·rename_i v hv;cases h;exact .tt (y:=fr.ev E x) (by simp only[aF,hop]) (aD hi hg hv)
  ·cases h
 ·
  rename_i c a' b' hop
  split at h
  ·rename_i j
   split at h
   ·rename_i t hc
    have hc':=(aD (E:=E) hi hg hc).gN
    split at h
    ·rename_i x y hx hy
     split at h
     ·rename_i v hv
      cases h
      refine .tt (o9 hop hc') ?_
      rw[oG] at hc'
      cases t
      ·exact Fj hv (aD (E:=E) hi (.cons hc' hg) hy)
      ·exact Fh hv (aD (E:=E) hi (.cons hc' hg) hx)
     ·cases h
    ·cases h
   ·rename_i t hc
    have hc':=(aD (E:=E) hi hg hc).jw
    split at h
    ·rename_i v hv
     cases h
     refine .tt (o9 hop hc') ?_
     cases t
     ·exact aD (E:=E) hi hg hv
     ·exact aD (E:=E) hi hg hv
    ·cases h
   ·cases h
  ·cases h
 ·
  rename_i t hop
  split at h
  ·rename_i d z hd hz
   obtain⟨hc,h⟩:=aR h
   cases h
   simp only[RD,SK] at hc
   obtain⟨v,hv,hr⟩:=mV (ρ:=ρ) (top:=σ.top) hz
   have Pk:notG z=true:=by
    cases z<;>first|rfl| (have:=hc.1;simp[TV.cells,oneMs,oneM] at this)
   obtain⟨hcells,_⟩:=iY Pk hr
   refine⟨.ref (ρ.om.lc d) stp 0,_,ρ.dO d stp,.bQ (o:=o) ?_,Fx hR (hi.le (RV _)) hcells hc.2,rfl,by unfold Rl;exact⟨stp,gP,rfl⟩,fun q hq=>aA.new (fun e=>hq.1 (by rw[hd,e]))⟩
   simp only[aF,hop,hd,Option.map_some,Option.bind_some,hv,oU hc.1 hcells,if_true,hi.at (bC _ hd)]
  ·cases h
 ·
  rename_i t x hop
  cases hz:E.frz t with
  |true=>
   rw[hz,cond_true] at h
   split at h
   ·rename_i v hv
    obtain⟨hc,h⟩:=aR h
    cases h
    rw[RD] at hc
    have hr:=aD (E:=E) hi hg hv
    obtain⟨hcells,hnr⟩:=iY hc.2 hr
    refine .tt (y:=.cref (fr.ev E x).cells 0) ?_ ?_
    ·simp only[aF,hop,hz,if_true,uI hR _ _ hc.1 hr,hnr,and_self]
    ·unfold Rl;exact⟨_,rfl,hcells⟩
   ·cases h
  |false=>
  rw[hz,cond_false] at h
  split at h
  ·rename_i d v hd hv
   obtain⟨hc,h⟩:=aR h
   cases h
   simp only[RD,SK] at hc
   have hr:=aD (E:=E) hi hg hv
   obtain⟨hcells,hnr⟩:=iY hc.1.2 hr
   refine⟨.ref (ρ.om.lc d) stp 0,_,ρ.dO d stp,.bQ (o:=o) ?_,Fx hR (hi.le (RV _)) hcells hc.2,rfl,by unfold Rl;exact⟨stp,gP,rfl⟩,fun q hq=>aA.new (fun e=>hq.1 (by rw[hd,e]))⟩
   simp only[aF,hop,hz,RH,if_false,hd,Option.map_some,Option.bind_some,oU hc.1.1 hcells,hnr,and_self,if_true,hi.at (bC _ hd)]
  ·cases h
 ·
  rename_i t parts hop
  split at h
  ·rename_i pl z ps hpl hz hps
   split at h
   ·rename_i cs hcs
    cases h
    obtain⟨zv,hzv,yO⟩:=mV (ρ:=ρ) (top:=σ.top) hz
    obtain⟨e1,e2⟩:=yB (E:=E) hi hg hps
    have hzc:ah R ρ σ.top z.cells zv.cells:=by
     refine(iY ?_ yO).1
     unfold zeroM at hz
     cases z<;>first|rfl|skip
     all_goals
      exfalso
      split at hz
      ·split at hz
       ·unfold ofValueM at hz
        split at hz
        ·split at hz<;>cases hz
        ·unfold ofScalarM at hz;split at hz<;>cases hz
       ·cases hz
      ·cases hz
    obtain⟨l',f1,f2⟩:=Ei (qs:=parts.toList.map fun p=>(p.1,fr.ev E p.2)) pl (by rw[e1];simp[Function.comp_def]) (by simpa [Function.comp_def] using e2) hzc hcs
    refine .tt (y:=.agg l') ?_ (by unfold Rl;exact⟨l',rfl,f2⟩)
    simp only[aF,hop,hpl,hzv,Option.bind_some]
    rw[f1];rfl
   ·cases h
  ·cases h
 ·
  rename_i t len parts hop
  split at h
  ·rename_i ps hps
   obtain⟨e1,e2⟩:=yB (E:=E) hi hg hps
   refine .val (N7 hR (qs:=parts.toList.map fun p=>(p.1,fr.ev E p.2)) h (by rw[e1];simp[Function.comp_def]) (by simpa [Function.comp_def] using e2)) fun y hy=>?_
   simp only[aF,hop]
   rw[hy];rfl
  ·cases h
 ·
  rename_i t a hop
  split at h
  ·rename_i p off hv
   split at h
   ·rename_i cs hl
    split at h
    ·rename_i v hld
     cases h
     obtain⟨s,h1,h2⟩:=(aD (E:=E) hi hg hv).gq
     obtain⟨s',l,h3,h4,h5⟩:=hi.rd hl
     rw[h1] at h3;cases h3
     obtain⟨y,hy,hr⟩:=kL h5 hld
     exact .tt (by simp only[aF,hop,h2,h4,Option.bind_some,hy,Option.map_some]) hr
    ·cases h
   ·cases h
  ·rename_i cs off hv
   split at h
   ·rename_i v hld
    cases h
    obtain⟨l,h2,h5⟩:=(aD (E:=E) hi hg hv).jy
    obtain⟨y,hy,hr⟩:=kL h5 hld
    exact .tt (by simp only[aF,hop,h2,hy,Option.map_some]) hr
   ·cases h
  ·rename_i p τ i off hv
   split at h
   ·rename_i ob hl
    obtain⟨s,h1,_,h2⟩:=(aD (E:=E) hi hg hv).mP
    obtain⟨l,f,rfl,hf⟩:=Oi h (hi.rd hl) h1
    intro y hy
    obtain⟨cs,w,h3,h4,h5⟩:=hf y hy
    exact⟨w,.bQ (by simp only[aF,hop,h2,h3,Option.bind_some,h4,Option.map_some]),h5⟩
   ·cases h
  ·cases h
 ·
  rename_i t a x hop
  split at h
  ·rename_i p off v hv hx
   split at h
   ·rename_i cs sz hl hsz
    obtain⟨hc,h⟩:=aR h
    cases h
    simp only[RD] at hc
    obtain⟨⟨⟨c1,c2⟩,c3⟩,c4⟩:=hc
    obtain⟨s,h1,h2⟩:=(aD (E:=E) hi hg hv).gq
    obtain⟨s',l,h3,h4,h5⟩:=hi.ob _ _ hl
    rw[h1] at h3;cases h3
    obtain⟨h6,h7⟩:=iY c4 (aD (E:=E) hi hg hx)
    refine⟨undefV,_,ρ,.bQ (o:=o) ?_,(hi.le (RV _)).set p s ⟨s,_,h1,cells_eq _ _ _ _,yJ off h5 h6⟩,rfl,by unfold Rl;rfl,fun q _=>aA.set hl rfl⟩
    simp only[aF,hop,h2,h4,Option.bind_some]
    rw[if_pos ⟨by rw[hsz,h6.length,aU c1],by rw[h6.length,h5.length];exact R9 c2,oU c3 h6⟩]
   ·cases h
  ·cases h
 ·
  rename_i x hop
  split at h
  ·rename_i p off hv;cases h
   have hr:=aD (E:=E) hi hg hv
   obtain⟨s,h1,h2⟩:=hr.gq
   exact .tt (y:=fr.ev E x) (by simp only[aF,hop,h2]) hr
  ·rename_i p off hv;cases h
   have hr:=aD (E:=E) hi hg hv
   obtain⟨s,h2,h1⟩:=hr.jy
   exact .tt (y:=fr.ev E x) (by simp only[aF,hop,h2]) hr
  ·rename_i p τ i off hv;cases h
   have hr:=aD (E:=E) hi hg hv
   obtain⟨s,h1,_,h2⟩:=hr.mP
   exact .tt (y:=fr.ev E x) (by simp only[aF,hop,h2]) hr
  ·rename_i f a' b' hv;cases h
   have hr:=aD (E:=E) hi hg hv
   obtain⟨a',b',h2,h1⟩:=hr.eZ
   exact .tt (y:=fr.ev E x) (by simp only[aF,hop,h2]) hr
  ·cases h
 ·
  rename_i op t x y t' hop
  split at h
  ·rename_i x' y' hx hy
   exact .val (NS h (aD (E:=E) hi hg hx) (aD (E:=E) hi hg hy)) fun z hz=>by simp only[aF,hop,hz,Option.map_some]
  ·cases h
 ·
  rename_i op t x hop
  split at h
  ·rename_i x' hx
   exact .val (NT h (aD (E:=E) hi hg hx)) fun z hz=>by simp only[aF,hop,hz,Option.map_some]
  ·cases h
 ·
  rename_i a' b' x hop
  split at h
  ·rename_i x' hx
   exact .val (NU (σ:=σ) h (aD (E:=E) hi hg hx)) fun z hz=>by simp only[aF,hop,hz,Option.map_some]
  ·cases h
 ·
  rename_i f a' b' hop
  split at h
  ·rename_i xs ys hx hy
   cases h
   exact .tt (y:=.fn (.func f) (a'.toList.map (fr.ev E)) (b'.toList.map (fr.ev E))) (by simp only[aF,hop]) (by unfold Rl;exact⟨_,_,rfl,jM (E:=E) hi hg hx,jM (E:=E) hi hg hy⟩)
  ·cases h
 ·
  rename_i t hop
  split at h
  ·rename_i d k e hd ht
   split at h
   ·rename_i k' e' hk he
    cases h
    refine⟨.mapr (ρ.om.lc d) stp,_,ρ.dO d stp,.bQ (o:=o) ?_,(hi.le (RV _)).new d stp (a:=.map [] []) ⟨stp,gP,map_eq σ (ρ.om.lc d) stp [] []⟩,rfl,by unfold Rl;exact⟨stp,gP,rfl⟩,fun q hq=>aA.new (fun e=>hq.1 (by rw[hd,e]))⟩
    simp only[aF,hop,hd,Option.map_some,hi.at (bC _ hd)]
   ·cases h
    refine⟨.mapr (ρ.om.lc d) stp,_,ρ.dO d stp,.bQ (o:=o) ?_,(hi.le (RV _)).new d stp (a:=.map [] []) ⟨stp,[],[],gP,map_eq σ (ρ.om.lc d) stp [] [],rfl,rfl⟩,rfl,by unfold Rl;exact⟨stp,gP,rfl⟩,fun q hq=>aA.new (fun e=>hq.1 (by rw[hd,e]))⟩
    simp only[aF,hop,hd,Option.map_some,hi.at (bC _ hd)]
  ·cases h
 ·
  rename_i t l c hop
  split at h
  ·rename_i n m hn hm
   refine Ou hR h (aD (E:=E) hi hg hn) (aD (E:=E) hi hg hm) hi rfl fun y σ' hy=>.bQ ?_
   have e:(o.dst.map fun t=>(fr.d,t))=o.dst.map fun t=>(ρ.om.lc t):=hi.Fw bC
   simp only[aF,hop]
   rw[e,hi.om,aH];exact hy
  ·cases h
 ·
  rename_i t x lo hi' hop
  split at h
  ·rename_i x' hx
   have dW:=aD (E:=E) hi hg hx
   split at h
   ·exact .val (uD hR (σ:=σ) (vl:=none) (vh:=none) h dW hi (fun y hy=>by cases hy) (fun _=>rfl) (fun y hy=>by cases hy) (fun _=>rfl)) fun z hz=>by simp only[aF,hop,bS,hz,Option.map_some]
   ·rename_i lo
    split at h
    ·rename_i l hl
     exact .val (uD hR (σ:=σ) (vl:=some (fr.ev E lo)) (vh:=none) h dW hi (fun y hy=>by cases hy;exact⟨_,rfl,aD (E:=E) hi hg hl⟩) (fun h=>by cases h) (fun y hy=>by cases hy) (fun _=>rfl)) fun z hz=>by simp only[aF,hop,bS,hz,Option.map_some]
    ·cases h
   ·rename_i hi2
    split at h
    ·rename_i l hl
     exact .val (uD hR (σ:=σ) (vl:=none) (vh:=some (fr.ev E hi2)) h dW hi (fun y hy=>by cases hy) (fun _=>rfl) (fun y hy=>by cases hy;exact⟨_,rfl,aD (E:=E) hi hg hl⟩) (fun h=>by cases h)) fun z hz=>by simp only[aF,hop,bS,hz,Option.map_some]
    ·cases h
   ·rename_i lo hi2
    split at h
    ·rename_i l l2 hl hl2
     exact .val (uD hR (σ:=σ) (vl:=some (fr.ev E lo)) (vh:=some (fr.ev E hi2)) h dW hi (fun y hy=>by cases hy;exact⟨_,rfl,aD (E:=E) hi hg hl⟩) (fun h=>by cases h) (fun y hy=>by cases hy;exact⟨_,rfl,aD (E:=E) hi hg hl2⟩) (fun h=>by cases h)) fun z hz=>by simp only[aF,hop,bS,hz,Option.map_some]
    ·cases h
  ·cases h
 ·
  rename_i t x f hop
  split at h
  ·rename_i x' hx
   have dW:=aD (E:=E) hi hg hx
   split at h
   ·rename_i v hv
    cases h
    unfold fieldsM at hv
    split at hv
    ·rename_i p u hf
     split at hv
     ·rename_i q off
      cases hv
      obtain⟨s,h1,h2⟩:=dW.gq
      exact .tt (y:=.ref (ρ.om.lc q) s (off+p)) (by simp only[aF,hop,hf,Option.bind_some,h2]) (by unfold Rl;exact⟨s,h1,rfl⟩)
     ·rename_i q off
      cases hv
      obtain⟨l,h2,h1⟩:=dW.jy
      exact .tt (y:=.cref l (off+p)) (by simp only[aF,hop,hf,Option.bind_some,h2]) (by unfold Rl;exact⟨l,rfl,h1⟩)
     ·rename_i q τ i off
      cases hv
      obtain⟨s,h1,h3,h2⟩:=dW.mP
      exact .tt (y:=.ref (ρ.om.lc q) s (i.toNat*szD R τ+off+p)) (by simp only[aF,hop,hf,Option.bind_some,h2]) (by unfold Rl;exact⟨s,h1,h3,by rw[Sy]⟩)
     ·cases hv
    ·cases hv
   ·cases h
  ·cases h
 ·
  rename_i t x f hop
  split at h
  ·rename_i p u cs hf hx
   split at h
   ·rename_i v hv
    cases h
    obtain⟨l,h1,h2⟩:=(aD (E:=E) hi hg hx).dJ
    obtain⟨y,hy,hr⟩:=kL h2 hv
    exact .tt (by simp only[aF,hop,hf,Option.bind_some,h1,hy,Option.map_some]) hr
   ·cases h
  ·cases h
 ·
  rename_i t x i hop
  split at h
  ·rename_i p τ y' hx hy
   exact .val (Oy hR (om:=false) h (aD (E:=E) hi hg hx) (aD (E:=E) hi hg hy) hi) fun z hz=>by simp only[aF,hop,hz,Option.map_some]
  ·rename_i p τ a c y' hx hy
   exact .val (Ox hR h (aD (E:=E) hi hg hx) (aD (E:=E) hi hg hy) hi) fun z hz=>by simp only[aF,hop,hz,Option.map_some]
  ·rename_i x' y' _ _ hx hy
   exact .val (OI hR h (aD (E:=E) hi hg hx) (aD (E:=E) hi hg hy)) fun z hz=>by simp only[aF,hop,hz,Option.map_some]
  ·cases h
 ·
  rename_i t x i hop
  split at h
  ·rename_i x' y' hx hy
   exact .val (OJ h (aD (E:=E) hi hg hx) (aD (E:=E) hi hg hy)) fun z hz=>by simp only[aF,hop,hz,Option.map_some]
  ·cases h
 ·
  rename_i t x i ok hop
  split at h
  ·rename_i x' y' hx hy
   exact .val (OX hR h (aD (E:=E) hi hg hx) (aD (E:=E) hi hg hy) hi) fun z hz=>by simp only[aF,hop,hz,Option.map_some]
  ·cases h
 ·
  rename_i t m k v hop
  split at h
  ·rename_i m' k' v' hm hk hv
   exact Fv hR h (aD (E:=E) hi hg hm) (aD (E:=E) hi hg hk) (aD (E:=E) hi hg hv) hi fun σ' hs=>by simp only[aF,hop,hs,Option.map_some]
  ·cases h
 ·rename_i t m k v hop
  split at h
  ·rename_i m' k' v' hm hk hv
   exact Fv hR h (aD (E:=E) hi hg hm) (aD (E:=E) hi hg hk) (aD (E:=E) hi hg hv) hi fun σ' hs=>by simp only[aF,hop,hs,Option.map_some]
  ·cases h
 ·
  rename_i x i hop
  split at h
  ·rename_i vs hv
   split at h
   ·rename_i v hx
    cases h
    obtain⟨l,h1,h2⟩:=(aD (E:=E) hi hg hv).uf
    obtain⟨y,hy,hr⟩:=h2.get hx
    exact .tt (by simp only[aF,hop,h1,hy,Option.map_some]) hr
   ·cases h
  ·cases h
 ·
  rename_i c hop
  split at h
  ·rename_i bi bf
   split at h
   ·rename_i vs hvs
    have hrs:=jM (E:=E) hi hg hvs
    have step:∀y σ',fC E fr.om (o.dst.map fun t=>(fr.d,E.cn t)) σ stp bi c.argTypes (c.args.toList.map (fr.ev E))=some (y,σ')->dU E fr σ stp o y σ':=fun y σ' hb=>.of fun S=>by
     simp only[opC,hop,bf,hb,Option.map_some]
    unfold blt at h
    split at h
    ·rename_i x
     split at h
     ·rename_i t ht
      split at h
      ·rename_i n hn
       cases h
       obtain⟨v,l,e,h1,h2⟩:=hrs.aQ
       rw[h2.bB] at e
       refine⟨_,step _ σ ?_,by unfold Rl;rfl⟩
       rw[e]
       simp only[fC,ht,Option.bind_some,Oa hn h1 hi,Option.map_some]
      ·cases h
     ·cases h
    ·rename_i x y
     split at h
     ·rename_i t u ht hu
      obtain⟨v,l,e,h1,h2⟩:=hrs.aQ
      obtain⟨w,l',e',h3,h4⟩:=h2.aQ
      subst e'
      rw[h4.bB] at e
      have e0:(o.dst.map fun t=>(fr.d,t))=o.dst.map fun t=>(ρ.om.lc t):=hi.Fw bC
      have fin:isSS E u=true->∀z σ',dw E.P om false σ stp (o.dst.map fun t=>(fr.d,E.cn t)) t v w=some (z,σ')->dU E fr σ stp o z σ':=fun hss z σ' hz=>step z σ' (by
       rw[e]
       unfold isSS at hss
       simp only[fC,ht,hu,Option.bind_some,hi.om,aH]
       split at hss
       ·rename_i hu';rw[hu'];simp only[hz,Option.bind_some]
       ·rename_i hu';rw[hu'];simp only[hz,Option.bind_some]
       ·cases hss)
      cases rA:om
      ·rw[rA] at h fin
       have h':appM E R o.dst t u x y st=some r:=h
       have hss:isSS E u=true:=by
        unfold appM at h'
        split at h'
        ·split at h'
         ·exact(aR h').1
         ·cases h'
        ·cases h'
       exact N9 hR (loc:=o.dst.map fun t=>(fr.d,E.cn t)) h' h1 h3 hi (fin hss)
      ·rw[rA] at h fin
       have h':appOM E R o.dst t u x y st=some r:=h
       have hss:isSS E u=true:=by
        unfold appOM at h'
        split at h'
        ·rename_i d' _
         cases hbl:Nat.ble F0 (E.cn d') with
         |true=>rw[hbl] at h';cases h'
         |false=>
          rw[hbl,cond_false] at h'
          split at h'
          ·exact(aR h').1
          ·cases h'
        ·cases h'
       exact Ot hR h' h1 h3 hi rfl (fin hss)
     ·cases h
    ·rename_i x
     split at h
     ·rename_i t ht
      obtain⟨v,l,e,h1,h2⟩:=hrs.aQ
      rw[h2.bB] at e
      exact Pf hR h h1 hi fun y σ' hy=>step y σ' (by rw[e];simp only[fC,ht,Option.bind_some,hy])
     ·cases h
    ·rename_i x l
     split at h
     ·rename_i v hv
      cases h
      obtain⟨y,ys,e,h1,h2⟩:=hrs.aQ
      obtain⟨w,hw,hr⟩:=yS false hv h1 h2
      refine⟨w,step w σ ?_,hr⟩
      rw[e]
      simp only[fC,hw,Option.map_some]
     ·cases h
    ·rename_i x l
     split at h
     ·rename_i v hv
      cases h
      obtain⟨y,ys,e,h1,h2⟩:=hrs.aQ
      obtain⟨w,hw,hr⟩:=yS true hv h1 h2
      refine⟨w,step w σ ?_,hr⟩
      rw[e]
      simp only[fC,hw,Option.map_some]
     ·cases h
    ·cases h
   ·cases h
  ·rename_i f bf
   split at h
   ·rename_i f' a' b' vs hf hvs
    cases himp:E.imp f' with
    |true=>rw[himp] at h;cases h
    |false=>
     rw[himp,cond_false] at h
     obtain⟨va,vb,h1,h2,h3⟩:=(aD (E:=E) hi hg hf).eZ
     exact EX hR hF hop bf h1 himp ((h2.append (jM (E:=E) hi hg hvs)).append h3) hi (fun _ hx=>hx) h
   ·cases h
  ·cases h
 ·cases h
theorem jN {om:Bool} {F:Nat->List (FR R)} (hF:RegsOK E F) (aH:ρ.om.om=om) (bC:∀d,o.dst=some d->d<F0) {g:List (Nat×Bool)} (hg:gy fr g) (hi:aj ρ stp st fr σ) {r:Res R} (h:opM E R om F g o.dst o.op st=some r):gD E st ρ stp fr σ o r:=by
 unfold opM at h
 split at h
 ·rename_i r' hx;cases h;exact OZ hR bC hg hi hx
 ·exact Pj hR hF aH bC hg hi h
end
section
variable {R:Reg} {E:Env} {ρ ρ':ak} {b stp:Nat} {st:MS R.T} {fr:Fr} {σ:Sig} {o:Oper} (hR:RegOK R)
include hR
def FMOK (E:Env) (g:Nat) (r:FM R):Prop:=∀p q y q',r.F p q=some (y,q')->∀(ρ:ak) (vs:List V) (σ:Sig),ρ.om.om=E.om g->(∀t,ρ.tk t=none)->ρ.om.lo<=σ.next->
 ah R ρ σ.top (upL R .any r.args p) vs->(∀o x,look (upOs R r.obs q) o=some x->aY ρ σ o x)->
 Imp E g vs ρ.om.dp σ fun v σ'=>(∃ws,v=retV ws/\ah R ρ σ'.top (upL R .any r.res y) ws)/\(∀o x,look (upOs R r.obs q') o=some x->aY ρ σ' o x)/\σ.next<=σ'.next/\(∀l,l<σ.next->σ'.loops l=σ.loops l)/\(∀s,s<ρ.om.lo->σ'.top s=σ.top s)/\
  ∀L:Loc,L.1<=ρ.om.dp->ρ.om.out L->σ'.obj L=σ.obj L
def uQ (E:Env) (M:Nat->List (FM R)):Prop:=∀g,∀r∈M g,E.imp g=true/\FMOK E g r
omit hR in
theorem FD {i:Nat}:∀{l:List Nat},memN i l=true->i∈l
 | [],h=>by cases h
 |j::l,h=>by
  have h':(Nat.beq i j||memN i l)=true:=h
  rw[SX] at h'
  rcases h' with h'|h'
  ·rw[aU h'];exact RJ ..
  ·exact RQ _ (FD h')
omit hR in
theorem zx {i:Nat}:∀{l:List Nat},i∈l->memN i l=true
 | [],h=>by cases h
 |j::l,h=>by
  show (Nat.beq i j||memN i l)=true
  rw[SX]
  rcases RL.1 h with h|h
  ·left;rw[h];exact SE _
  ·right;exact zx h
omit hR in
theorem FE:∀{l:List Nat} {n o p:Nat},look (numL l n) o=some p->n<=p/\l[p-n]? =some o
 | [],_,_,_,h=>by cases h
 |a::l,n,o,p,h=>by
  have h':look ((a,n)::numL l (n+1)) o=some p:=h
  by_cases e:o=a
  ·subst e;rw[bZ] at h';cases h';exact⟨mF _,by simp⟩
  ·rw[bF _ _ e] at h'
   obtain⟨h1,h2⟩:=FE h'
   refine⟨by omega,?_⟩
   have:p-n=(p-(n+1))+1:=by omega
   rw[this];simpa using h2
omit hR in
theorem FH:∀{l:List Nat} {n o p:Nat},look (invL (numL l n)) p=some o->n<=p/\l[p-n]? =some o
 | [],_,_,_,h=>by cases h
 |a::l,n,o,p,h=>by
  have h':look ((n,a)::invL (numL l (n+1))) p=some o:=h
  by_cases e:p=n
  ·subst e;rw[bZ] at h';cases h';exact⟨mF _,by simp⟩
  ·rw[bF _ _ e] at h'
   obtain⟨h1,h2⟩:=FH h'
   refine⟨by omega,?_⟩
   have:p-n=(p-(n+1))+1:=by omega
   rw[this];simpa using h2
omit hR in
theorem FJ:∀{l:List Nat},ndB l=true->∀{i j o:Nat},l[i]? =some o->l[j]? =some o->i=j
 | [],_,i,j,o,hi,_=>by simp at hi
 |a::l,h,i,j,o,hi,hj=>by
  have h':(!(memN a l)&& ndB l)=true:=h
  rw[RD,SK] at h'
  cases i with
  |zero=>
   cases j with
   |zero=>rfl
   |succ j=>
    have e:a=o:=by simpa using hi
    have e2:l[j]? =some o:=by simpa using hj
    rw[e,zx (Sw e2)] at h'
    exact absurd h'.1 (by simp)
  |succ i=>
   cases j with
   |zero=>
    have e:a=o:=by simpa using hj
    have e2:l[i]? =some o:=by simpa using hi
    rw[e,zx (Sw e2)] at h'
    exact absurd h'.1 (by simp)
   |succ j=>rw[FJ h'.2 (show l[i]? =some o by simpa using hi) (show l[j]? =some o by simpa using hj)]
omit hR in
theorem zy:∀{l:List Nat} {n p:Nat} {x:Ob R.T},look (mobs st (numL l n)) p=some x->∃o,n<=p/\l[p-n]? =some o/\look st.ob o=some x
 | [],_,_,_,h=>by cases h
 |a::l,n,p,x,h=>by
  have up:look (mobs st (numL l (n+1))) p=some x->∃o,n<=p/\(a::l)[p-n]? =some o/\look st.ob o=some x:=fun h=>by
   obtain⟨o,h1,h2,h3⟩:=zy h
   refine⟨o,by omega,?_,h3⟩
   have:p-n=(p-(n+1))+1:=by omega
   rw[this];simpa using h2
  have h':=h
  unfold numL mobs at h'
  split at h'
  ·rename_i y hy
   by_cases e:p=n
   ·subst e;rw[bZ] at h';cases h';exact⟨a,mF _,by simp,hy⟩
   ·rw[bF _ _ e] at h';exact up h'
  ·exact up h'
omit hR in
theorem zA {L:List (Nat×Ob R.T)}:∀{l:List Nat} {n o:Nat} {y:Ob R.T},look (bobs (numL l n) L) o=some y->∃p,n<=p/\l[p-n]? =some o/\look L p=some y
 | [],_,_,_,h=>by cases h
 |a::l,n,o,y,h=>by
  have up:look (bobs (numL l (n+1)) L) o=some y->∃p,n<=p/\(a::l)[p-n]? =some o/\look L p=some y:=fun h=>by
   obtain⟨p,h1,h2,h3⟩:=zA h
   refine⟨p,by omega,?_,h3⟩
   have:p-n=(p-(n+1))+1:=by omega
   rw[this];simpa using h2
  have h':=h
  unfold numL bobs at h'
  split at h'
  ·rename_i z hz
   by_cases e:o=a
   ·subst e;rw[bZ] at h';cases h';exact⟨n,mF _,by simp,hz⟩
   ·rw[bF _ _ e] at h';exact up h'
  ·exact up h'
omit hR in
theorem FK {L:List (Nat×Ob R.T)}:∀{l:List Nat} {n o:Nat},(∀p,n<=p->p<n+l.length->∃y,look L p=some y)->look (bobs (numL l n) L) o=none->o∉l
 | [],_,_,_,_=>by simp
 |a::l,n,o,hL,h=>by
  obtain⟨y,hy⟩:=hL n (mF _) (by simp)
  have h':=h
  unfold numL bobs at h'
  rw[hy] at h'
  by_cases e:o=a
  ·subst e;rw[bZ] at h';cases h'
  ·rw[bF _ _ e] at h'
   have:=FK (fun p h1 h2=>hL p (by omega) (by rw[List.length_cons];omega)) h'
   simp[e,this]
omit hR in
theorem uR:∀{l:List Nat} {n:Nat} {obs:List (Nat×ObSk)} {q:PayOs R.T obs},eqKs (numL l n) obs=true->∀p,n<=p->p<n+l.length->∃y,look (upOs R obs q) p=some y
 | [],n,_,_,_,p,h1,h2=>by simp at h2;omega
 |a::l,n,[],_,h,_,_,_=>by cases h
 |a::l,n,[(j,k)],q,h,p,h1,h2=>by
  have h':(Nat.beq n j&& eqKs (numL l (n+1)) [])=true:=h
  rw[RD] at h'
  have hj:=aU h'.1
  subst hj
  by_cases e:p=n
  ·subst e;exact⟨_,bZ _ _ _⟩
  ·obtain⟨y,hy⟩:=uR (q:=show PayOs R.T [] from ()) h'.2 p (by omega) (by rw[List.length_cons] at h2;omega)
   cases hy
 |a::l,n,(j,k)::x::obs,q,h,p,h1,h2=>by
  have h':(Nat.beq n j&& eqKs (numL l (n+1)) (x::obs))=true:=h
  rw[RD] at h'
  have hj:=aU h'.1
  subst hj
  show∃y,look ((n,upO R k q.1)::upOs R (x::obs) q.2) p=some y
  by_cases e:p=n
  ·subst e;exact⟨_,bZ _ _ _⟩
  ·rw[bF _ _ e]
   exact uR h'.2 p (by omega) (by rw[List.length_cons] at h2;omega)
omit hR in
theorem uS {L:List (Nat×Ob R.T)}:∀(l:List (Nat×ObSk)) (x:PayOs R.T l),pkOs R L l=some x->∀i v,look (upOs R l x) i=some v->∃k y z,look L i=some y/\pkO R k y=some z/\v=upO R k z/\(okOs l=true->okO k=true)
 | [],x,hx,i,v,hv=>by cases hv
 | [(j,k)],x,hx,i,v,hv=>by
   unfold pkOs at hx
   split at hx
   ·rename_i y hy
    by_cases e:i=j
    ·subst e
     have hv':look [(i,upO R k x)] i=some v:=hv
     rw[bZ] at hv';cases hv'
     exact⟨k,y,x,hy,hx,rfl,fun h=>by unfold okOs at h;rw[RD] at h;exact h.1⟩
    ·have hv':look [(j,upO R k x)] i=some v:=hv
     rw[bF _ _ e] at hv';cases hv'
   ·cases hx
 | (j,k)::q::l,x,hx,i,v,hv=>by
   unfold pkOs at hx
   split at hx
   ·rename_i y hy
    cases hu:pkO R k y with
    |none=>simp only[hu] at hx;cases hx
    |some z=>
     cases hs:pkOs R L (q::l) with
     |none=>simp only[hu,hs] at hx;cases hx
     |some p=>
      simp only[hu,hs] at hx
      obtain rfl:=R6 hx
      have hv':look ((j,upO R k z)::upOs R (q::l) p) i=some v:=hv
      by_cases e:i=j
      ·subst e
       rw[bZ] at hv';cases hv'
       exact⟨k,y,z,hy,hu,rfl,fun h=>by unfold okOs at h;rw[RD] at h;exact h.1⟩
      ·rw[bF _ _ e] at hv'
       obtain⟨k',y',z',h1,h2,h3,h4⟩:=uS (q::l) p hs i v hv'
       exact⟨k',y',z',h1,h2,h3,fun h=>h4 (by unfold okOs at h;rw[RD] at h;exact h.2)⟩
   ·cases hx
omit hR in
theorem FL:∀{l:List (Nat×ObSk)} {x:PayOs R.T l},okOs l=true->∀{i:Nat} {v:Ob R.T},look (upOs R l x) i=some v->∃k z,okO k=true/\v=upO R k z
 | [],x,_,i,v,hv=>by cases hv
 | [(j,k)],x,h,i,v,hv=>by
   unfold okOs at h;rw[RD] at h
   have hv':look [(j,upO R k x)] i=some v:=hv
   by_cases e:i=j
   ·subst e;rw[bZ] at hv';cases hv';exact⟨k,x,h.1,rfl⟩
   ·rw[bF _ _ e] at hv';cases hv'
 | (j,k)::q::l,x,h,i,v,hv=>by
   unfold okOs at h;rw[RD] at h
   have hv':look ((j,upO R k x.1)::upOs R (q::l) x.2) i=some v:=hv
   by_cases e:i=j
   ·subst e;rw[bZ] at hv';cases hv';exact⟨k,x.1,h.1,rfl⟩
   ·rw[bF _ _ e] at hv';exact FL h.2 hv'
omit hR in
theorem FP {top top':Nat->Nat} {t:Ty} {x:Den R.T t} {v:V} (h:Rl R ρ top (tvD R .any t x) v):Rl R ρ' top' (tvD R .any t x) v:=by
 cases t with
 |st n=>obtain⟨l,hv,hl⟩:=Rl.dJ (R:=R) h;exact⟨l,hv,lG _ _ _ hl⟩
 |int k=>exact h
 |bool=>exact h
 |str=>exact h
 |slice t=>exact h
omit hR in
theorem FQ {top top':Nat->Nat}:∀{l:List Sk} {z:PayL R.T l} {cs:List V},dSk l=true->ah R ρ top (upL R .any l z) cs->ah R ρ' top' (upL R .any l z) cs
 | [],_,_,_,h=>h
 | [k],z,cs,hd,h=>by
   cases k<;>first| (cases hd;done)|skip
   rename_i t
   obtain⟨v,ws,rfl,h1,h2⟩:=ah.aQ (ts:=[]) (show ah R ρ top [tvD R .any t z] cs from h)
   rw[h2.bB]
   exact .cons' (FP h1) rfl
 |k::q::l,z,cs,hd,h=>by
  cases k<;>first| (cases hd;done)|skip
  rename_i t
  obtain⟨v,ws,rfl,h1,h2⟩:=ah.aQ (show ah R ρ top (tvD R .any t z.1::upL R .any (q::l) z.2) cs from h)
  exact .cons' (FP h1) (FQ (l:=q::l) hd h2)
omit hR in
theorem zB {o p:Nat} {k:ObSk} {z:PayO R.T k} (hk:okO k=true) (hb:ρ'.ob p=ρ.ob o) (hn:ρ'.ln p=ρ.ln o) (hl:ρ'.om.lc p=ρ.om.lc o) (h:aY ρ σ o (upO R k z)):aY ρ' σ p (upO R k z):=by
 cases k with
 |cells l=>obtain⟨s,cs,h1,h2,h3⟩:=h;exact⟨s,cs,by rw[hb];exact h1,by rw[hl];exact h2,FQ hk h3⟩
 |st n=>obtain⟨s,cs,h1,h2,h3⟩:=h;exact⟨s,cs,by rw[hb];exact h1,by rw[hl];exact h2,lG _ _ _ h3⟩
 |map k e=>obtain⟨s,h1,h2⟩:=h;exact⟨s,by rw[hb];exact h1,by rw[hl];exact h2⟩
 |arr t=>
  refine⟨h.1.trans hn.symm,?_⟩
  rcases h.2 with h| ⟨s,cs,h1,h2,h3⟩
  ·exact .inl ⟨h.1,by rw[hb];exact h.2⟩
  ·exact .inr ⟨s,cs,by rw[hb];exact h1,by rw[hl];exact h2,jA _ cs h3⟩
 |sg l=>obtain⟨s,h1,h2⟩:=h;exact⟨s,by rw[hb];exact h1,by rw[hl];exact h2⟩
omit hR in
mutual
theorem Rl.ren {top:Nat->Nat} {m:List (Nat×Nat)} (hm:∀o p,look m o=some p->ρ'.om.lc p=ρ.om.lc o/\ρ'.ob p=ρ.ob o/\ρ'.ln p=ρ.ln o):∀(x:TV R.T) (v:V),Rl R ρ top x v->Rl R ρ' top (renV m x) v
 |.ref o off,v,h=>by
  obtain⟨s,h1,h2⟩:=h
  unfold renV
  split
  ·rename_i p hp;obtain⟨a,b,c⟩:=hm _ _ hp;exact⟨s,by rw[b];exact h1,by rw[a];exact h2⟩
  ·unfold Rl;trivial
 |.mapr o,v,h=>by
  obtain⟨s,h1,h2⟩:=h
  unfold renV
  split
  ·rename_i p hp;obtain⟨a,b,c⟩:=hm _ _ hp;exact⟨s,by rw[b];exact h1,by rw[a];exact h2⟩
  ·unfold Rl;trivial
 |.vw o t,v,h=>by
  unfold renV
  split
  ·rename_i p hp
   obtain⟨a,b,c⟩:=hm _ _ hp
   rcases h with ⟨s,h1,h2⟩| ⟨h1,h2⟩
   ·exact .inl ⟨s,by rw[b];exact h1,by rw[a,c];exact h2⟩
   ·exact .inr ⟨by rw[c];exact h1,h2⟩
  ·unfold Rl;trivial
 |.sub o t x y,v,h=>by
  unfold renV
  split
  ·rename_i p hp
   obtain⟨a,b,c⟩:=hm _ _ hp
   obtain⟨g0,g1,g2,h⟩:=h
   refine⟨g0,g1,by rw[c];exact g2,?_⟩
   rcases h with ⟨s,cp,h1,h2,h3⟩|h
   ·exact .inl ⟨s,cp,by rw[b];exact h1,h2,by rw[a];exact h3⟩
   ·exact .inr h
  ·unfold Rl;trivial
 |.eref o t i off,v,h=>by
  obtain⟨s,h1,h2⟩:=h
  unfold renV
  split
  ·rename_i p hp;obtain⟨a,b,c⟩:=hm _ _ hp;exact⟨s,by rw[b];exact h1,by rw[a];exact h2⟩
  ·unfold Rl;trivial
 |.sv o _ _ _ _ _,v,h=>by
  obtain⟨s,h1,h2⟩:=h
  unfold renV
  split
  ·rename_i p hp;obtain⟨a,b,c⟩:=hm _ _ hp;exact⟨s,by rw[b];exact h1,by rw[a];exact h2⟩
  ·unfold Rl;trivial
 |.sel o _ _ _ _ _,v,h=>by
  obtain⟨s,h1,h2⟩:=h
  unfold renV
  split
  ·rename_i p hp;obtain⟨a,b,c⟩:=hm _ _ hp;exact⟨s,by rw[b];exact h1,by rw[a];exact h2⟩
  ·unfold Rl;trivial
 |.lst c t l,v,h=>by
  obtain⟨c',hv,hc⟩:=h
  unfold renV
  cases c with
  |own u=>exact⟨c',hv,trivial⟩
  |any=>exact⟨c',hv,trivial⟩
  |sh=>exact⟨c',hv,hc⟩
  |nil=>exact⟨c',hv,hc⟩
  |full=>exact⟨c',hv,hc⟩
 |.agg cs,v,h=>by obtain⟨l,hv,hl⟩:=h;exact⟨l,hv,ah.ren hm cs l hl⟩
 |.tup cs,v,h=>by obtain⟨l,hv,hl⟩:=h;exact⟨l,hv,ah.ren hm cs l hl⟩
 |.cref cs off,v,h=>by obtain⟨l,hv,hl⟩:=h;exact⟨l,hv,ah.ren hm cs l hl⟩
 |.fn f a b,v,h=>by obtain⟨a',b',hv,ha,hb⟩:=h;exact⟨a',b',hv,ah.ren hm a a' ha,ah.ren hm b b' hb⟩
 |.opt _ _ _,_,h=>h.elim
 |.int _ _,_,h=>h
 |.bool _,_,h=>h
 |.blit _,_,h=>h
 |.str _,_,h=>h
 |.nilp,_,h=>h
 |.nilf,_,h=>h
 |.nilm,_,h=>h
 |.nili,_,h=>h
 |.nils,_,h=>h
 |.mapc _ _ _,_,h=>h
 |.undef,_,h=>h
 |.sg _,_,h=>h
 |.gel _ _ _ _,_,h=>h
 |.gone,_,h=>h
theorem ah.ren {top:Nat->Nat} {m:List (Nat×Nat)} (hm:∀o p,look m o=some p->ρ'.om.lc p=ρ.om.lc o/\ρ'.ob p=ρ.ob o/\ρ'.ln p=ρ.ln o):∀(x:List (TV R.T)) (v:List V),ah R ρ top x v->ah R ρ' top (renL m x) v
 | [],_,h=>h
 |x::xs,_,⟨v,vs,e,h1,h2⟩=>⟨v,vs,e,Rl.ren hm x v h1,ah.ren hm xs vs h2⟩
end
omit hR in
mutual
theorem Rl.top {ρ:ak} {t t':Nat->Nat} (ht:∀u s,ρ.tk u=some s->t' s=t s):∀(x:TV R.T) (v:V),Rl R ρ t x v->Rl R ρ t' x v
 |.lst c ty l,v,h=>by
  obtain⟨c',hv,hc⟩:=h
  refine⟨c',hv,?_⟩
  cases c<;>first|exact hc|skip
  rcases hc with hc|hc| ⟨s,h1,h2,h3⟩
  ·exact .inl hc
  ·exact .inr (.inl hc)
  ·exact .inr (.inr ⟨s,h1,h2,(ht _ _ h2).trans h3⟩)
 |.agg cs,v,h=>by obtain⟨l,hv,hl⟩:=h;exact⟨l,hv,ah.top ht cs l hl⟩
 |.tup cs,v,h=>by obtain⟨l,hv,hl⟩:=h;exact⟨l,hv,ah.top ht cs l hl⟩
 |.cref cs off,v,h=>by obtain⟨l,hv,hl⟩:=h;exact⟨l,hv,ah.top ht cs l hl⟩
 |.fn f a b,v,h=>by obtain⟨a',b',hv,ha,hb⟩:=h;exact⟨a',b',hv,ah.top ht a a' ha,ah.top ht b b' hb⟩
 |.ref _ _,_,h=>h
 |.mapr _,_,h=>h
 |.vw _ _,_,h=>h
 |.sub _ _ _ _,_,h=>h
 |.eref _ _ _ _,_,h=>h
 |.opt _ _ _,_,h=>h.elim
 |.int _ _,_,h=>h
 |.bool _,_,h=>h
 |.blit _,_,h=>h
 |.str _,_,h=>h
 |.nilp,_,h=>h
 |.nilf,_,h=>h
 |.nilm,_,h=>h
 |.nili,_,h=>h
 |.nils,_,h=>h
 |.mapc _ _ _,_,h=>h
 |.undef,_,h=>h
 |.sg _,_,h=>h
 |.sv _ _ _ _ _ _,_,h=>h
 |.sel _ _ _ _ _ _,_,h=>h
 |.gel _ _ _ _,_,h=>h
 |.gone,_,h=>h
theorem ah.top {ρ:ak} {t t':Nat->Nat} (ht:∀u s,ρ.tk u=some s->t' s=t s):∀(x:List (TV R.T)) (v:List V),ah R ρ t x v->ah R ρ t' x v
 | [],_,h=>h
 |x::xs,_,⟨v,vs,e,h1,h2⟩=>⟨v,vs,e,Rl.top ht x v h1,ah.top ht xs vs h2⟩
end
omit hR in
theorem bV.top {fr:Fr} {ρ:ak} {t t':Nat->Nat} (ht:∀u s,ρ.tk u=some s->t' s=t s) {x:TV R.T} {v:V} (h:bV fr ρ t x v):bV fr ρ t' x v:=by
 cases x with
 |opt j w y=>exact⟨fun hc=>Rl.top ht y v (h.1 hc),h.2⟩
 |_=>exact .of (Rl.top ht _ v h)
omit hR in
theorem zC {ρ:ak} {σ σ':Sig} {p:Nat} (hp:σ'.obj (ρ.om.lc p)=σ.obj (ρ.om.lc p)) (ht:∀u s,ρ.tk u=some s->σ'.top s=σ.top s):∀{x:Ob R.T},aY ρ σ p x->aY ρ σ' p x
 |.cells cs,h=>by
  obtain⟨s,l,h1,h2,h3⟩:=h
  exact⟨s,l,h1,by unfold Sig.cellsAt at h2⊢;rw[hp];exact h2,ah.top ht _ _ h3⟩
 |.map k e m,h=>by
  obtain⟨s,h1,h2⟩:=h
  exact⟨s,h1,by unfold Sig.bD at h2⊢;rw[hp];exact h2⟩
 |.smap ks vs,h=>by
  obtain⟨s,k,l,h1,h2,h3,h4⟩:=h
  exact⟨s,k,l,h1,by unfold Sig.bD at h2⊢;rw[hp];exact h2,ah.top ht _ _ h3,ah.top ht _ _ h4⟩
 |.arr t l,h=>by
  refine⟨h.1,?_⟩
  rcases h.2 with h| ⟨s,cs,h1,h2,h3⟩
  ·exact .inl h
  ·exact .inr ⟨s,cs,h1,by unfold Sig.cellsAt at h2⊢;rw[hp];exact h2,jA l cs h3⟩
 |.sg ss,h=>by
  obtain⟨s,h1,h2⟩:=h
  exact⟨s,h1,by unfold Sig.cellsAt at h2⊢;rw[hp];exact h2⟩
 |.gone,_=>trivial
 |.ro b,h=>zC hp ht (x:=b) h
omit hR in
theorem aj.shift {ρ:ak} {b:Nat} {st:MS R.T} {fr:Fr} {σ σ':Sig} (h:aj ρ b st fr σ) (hp:∀p,σ'.obj (ρ.om.lc p)=σ.obj (ρ.om.lc p)) (ht:∀s,s<b->σ'.top s=σ.top s):aj ρ b st fr σ':={h with
 fr:=fun i v hv=>(h.fr i v hv).top fun u s hu=>ht s (h.lt u s hu)
 ob:=fun o x hx=>zC (hp o) (fun u s hu=>ht s (h.lt u s hu)) (h.ob o x hx)}
omit hR in
theorem Pm {top:Nat->Nat} {xs:List (TV R.T)} {vs:List V} (h:ah R ρ top xs vs):Rl R ρ top (retW xs) (retV vs):=by
 match xs,vs,h with
 | [],_,h=>rw[h.bB];exact⟨[],rfl,rfl⟩
 | [x],_,h=>obtain⟨v,l,rfl,h1,h2⟩:=h.aQ;rw[h2.bB];exact h1
 |x::y::l,_,h=>
  obtain⟨v,ws,rfl,h1,h2⟩:=h.aQ
  obtain⟨w,us,rfl,h3,h4⟩:=h2.aQ
  exact⟨v::w::us,rfl,.cons' h1 (.cons' h3 h4)⟩
omit hR in
theorem FT {m:List (Nat×Nat)} {A:List (TV R.T)} {B:List (Nat×Ob R.T)}:∀{l:List (FM R)} {r:FM R} {x:Option (PayL R.T r.res×PayOs R.T r.obs)},findM R m A B l=some ⟨r,x⟩->r∈l/\∃p q,pkL R r.args A=some p/\pkOs R B r.obs=some q/\eqKs m r.obs=true/\scS r.res=true/\okOs r.obs=true/\x=r.F p q
 | [],_,_,h=>by cases h
 |s::l,r,x,h=>by
  unfold findM at h
  split at h
  ·rename_i p q hp hq
   obtain⟨hb,h⟩:=aR h
   rw[RD,RD] at hb
   cases h
   exact⟨RJ ..,p,q,hp,hq,hb.1,hb.2.1,hb.2.2,rfl⟩
  ·obtain⟨h1,h2⟩:=FT h
   exact⟨RQ _ h1,h2⟩
def Cx.call (c:Cx) (om:Bool) (lo:Nat) (ids:List Nat) (hnd:ndB ids=true):Cx where
 om:=om
 dp:=c.dp+1
 lo:=lo
 fl:=fun p=>if F0<=p then (ids[p-F0]?).map c.lc else none
 lt:=fun p L h=>by
  split at h
  ·rename_i hp
   obtain⟨o,_,rfl⟩:=RF.1 h
   exact⟨hp,Nat.lt_succ_of_le (c.oI o)⟩
  ·cases h
 inj:=fun p q L h g=>by
  split at h
  ·split at g
   ·rename_i hp hq
    obtain⟨o,h1,rfl⟩:=RF.1 h
    obtain⟨o',h2,e⟩:=RF.1 g
    have:=c.xZ e
    subst this
    have:=FJ hnd h1 h2
    omega
   ·cases g
  ·cases h
omit hR in
theorem Cx.Pn {c:Cx} {om:Bool} {lo:Nat} {ids:List Nat} {hnd:ndB ids=true} {p o:Nat} (hp:F0<=p) (h:ids[p-F0]? =some o):(c.call om lo ids hnd).lc p=c.lc o:=by
 unfold Cx.lc Cx.call
 dsimp only
 rw[if_pos hp,h]
 rfl
omit hR in
theorem Cx.FU {c:Cx} {om:Bool} {lo:Nat} {ids:List Nat} {hnd:ndB ids=true} {L:Loc} (hL:L.1<=c.dp) (h:∀o∈ids,L≠c.lc o):(c.call om lo ids hnd).out L:=by
 intro p e
 unfold Cx.lc Cx.call at e
 dsimp only at e
 split at e
 ·rename_i M hM
  split at hM
  ·obtain⟨o,h1,rfl⟩:=RF.1 hM
   exact h o (Sw h1) e
  ·cases hM
 ·rw[e] at hL;dsimp only at hL;omega
theorem zD {β:Type} {M:Nat->List (FM R)} (hM:uQ E M) (hi:aj ρ stp st fr σ) (hsn:stp<=σ.next) {k:MS R.T->Option β} {x:β} (h:impM R M o st k=some x):
 ∃c f g a vb,o.op= .call c/\c.callee= .value f/\fr.ev E f= .fn (.func g) a vb/\E.imp g=true/\Imp E g (a++c.args.toList.map (fr.ev E)++vb) (fr.d+1) σ fun v σ1=>∃st1,aj ρ (stp+1) st1 (fr.put o.dst v) σ1/\σ.next<=σ1.next/\(∀p,aA false p st ρ σ st1 ρ σ1)/\k st1=some x:=by
 unfold impM at h
 split at h
 ·rename_i c hop
  split at h
  ·rename_i f bf
   split at h
   ·rename_i g a' b' vs hf hvs
    obtain⟨hnd,h⟩:=aR h
    generalize Rx:idsL (a'++vs++b') []=ids at*
    split at h
    ·rename_i r x' hfm
     obtain⟨⟨y,q'⟩,hy,hk⟩:=iP.1 h
     obtain⟨hr,p,q,hp,hq,hks,hsc,hok,rfl⟩:=FT hfm
     obtain⟨va,vb,jJ,hva,hvb⟩:=(aD (E:=E) hi .nil hf).eZ
     have hA:=(hva.append (jM (E:=E) hi .nil hvs)).append hvb
     let ρc:ak:=⟨fun p=>if F0<=p then (ids[p-F0]?).bind ρ.ob else none,fun _=>none,fun p=>if F0<=p then (match ids[p-F0]? with|some o=>ρ.ln o|none=>0) else 0,ρ.om.call (E.om g) σ.next ids hnd⟩
     have hρ:∀{p o},F0<=p->ids[p-F0]? =some o->ρc.om.lc p=ρ.om.lc o/\ρc.ob p=ρ.ob o/\ρc.ln p=ρ.ln o:=fun {p o} h1 h2=>by
      refine⟨Cx.Pn (hnd:=hnd) h1 h2,?_,?_⟩
      ·show (if F0<=p then (ids[p-F0]?).bind ρ.ob else none)=_
       rw[if_pos h1,h2];rfl
      ·show (if F0<=p then (match ids[p-F0]? with|some o=>ρ.ln o|none=>0) else 0)=_
       rw[if_pos h1,h2]
     have hm:∀o p,look (numL ids F0) o=some p->ρc.om.lc p=ρ.om.lc o/\ρc.ob p=ρ.ob o/\ρc.ln p=ρ.ln o:=fun o p hp=>by
      obtain⟨h1,h2⟩:=FE hp
      exact hρ h1 h2
     obtain⟨himp,hF⟩:=hM g r hr
     obtain⟨n,v,σ',hcall,⟨wz,hv,hwz⟩,Po,hnx,hlp,htp,hout⟩:=hF p q y q' hy ρc (va++c.args.toList.map (fr.ev E)++vb) σ rfl (fun _=>rfl) (mF _) (lI hR r.args p _ _ hp (ah.ren hm _ _ hA)) (fun i w hw=>by
      obtain⟨kk,yy,z,h1,h2,rfl,h4⟩:=uS r.obs q hq i w hw
      obtain⟨o',h5,h6,h7⟩:=zy h1
      obtain⟨e1,e2,e3⟩:=hρ h5 h6
      exact zB (h4 hok) e2 e3 e1 (uq hR h2 (hi.ob _ _ h7)))
     have hst:∀s,s<stp->σ'.top s=σ.top s:=fun s hs=>htp s (RS hs hsn)
     have hno:∀o',o'∉ids->σ'.obj (ρ.om.lc o')=σ.obj (ρ.om.lc o'):=fun o' ho'=>
      hout _ (Nat.le_succ_of_le (ρ.om.oI o')) (Cx.FU (hnd:=hnd) (ρ.om.oI o') fun o'' h2 e=>ho' (by rw[ρ.om.xZ e];exact h2))
     have yI:aj ρ (stp+1) (⟨st.fr,bobs (numL ids F0) (upOs R r.obs q')++st.ob⟩:MS R.T) fr σ':={
      d:=hi.d
      om:=hi.om
      fr:=fun i w hw=>(hi.fr i w hw).top fun u s hu=>hst s (hi.lt u s hu)
      ob:=fun o' w hw=>by
       have hw':look (bobs (numL ids F0) (upOs R r.obs q')++st.ob) o'=some w:=hw
       rw[kJ] at hw'
       split at hw'
       ·rename_i z hz
        cases hw'
        obtain⟨p',h1,h2,h3⟩:=zA hz
        obtain⟨kk,zz,h4,rfl⟩:=FL hok h3
        obtain⟨e1,e2,e3⟩:=hρ h1 h2
        exact zB h4 e2.symm e3.symm e1.symm (Po _ _ h3)
       ·rename_i hz
        have hn:=FK (fun p' h1 h2=>uR hks p' h1 h2) hz
        exact zC (hno o' hn) (fun u s hu=>hst s (hi.lt u s hu)) (hi.ob _ _ hw')
      inj:=hi.inj
      lt:=fun t s ht=>Nat.lt_succ_of_lt (hi.lt t s ht)
      ge:=hi.ge
      nx:=Nat.le_succ_of_le hi.nx}
     refine⟨c,f,g,va,vb,hop,bf,jJ,himp,n,v,σ',?_,_,?_,hnx,?_,hk⟩
     ·rw[hi.d];exact hcall
     ·rw[hv]
      exact yI.putO o.dst (Pm (ah.ren (ρ:=ρc) (fun p' o' hpo=>by
       obtain⟨h1,h2⟩:=FH hpo
       obtain⟨e1,e2,e3⟩:=hρ h1 h2
       exact⟨e1.symm,e2.symm,e3.symm⟩) _ _ hwz))
     ·intro p'
      refine aA.congr (st':=(⟨st.fr,bobs (numL ids F0) (upOs R r.obs q')++st.ob⟩:MS R.T)) ⟨rfl,rfl,rfl,hnx,⟨hlp,fun s hs=>hst s (RS hs hi.nx)⟩,fun L hL ho=>?_,fun hro=>?_⟩ eH
      ·have hL':L.1<=ρ.om.dp:=by rcases hL with e|e;cases e;exact e
       exact hout L (Nat.le_succ_of_le hL') (Cx.FU (hnd:=hnd) hL' fun o' _=>ho o')
      ·have hn:p'∉ids:=by
        intro hmem
        obtain⟨i,hi'⟩:=List.getElem?_of_mem hmem
        have hlt:i<ids.length:=by
         rcases Nat.lt_or_ge i ids.length with h|h
         ·exact h
         ·rw[List.getElem?_eq_none h] at hi';cases hi'
        obtain⟨w,hw⟩:=uR (q:=q) hks (F0+i) (RP _ _) (by omega)
        obtain⟨kk,yy,z,h1,h2,_,_⟩:=uS r.obs q hq _ _ hw
        obtain⟨o',h5,h6,h7⟩:=zy h1
        rw[Tj,hi'] at h6
        cases h6
        exact yF h2 (hro _ h7)
       refine⟨fun w hw=>?_,fun s=>?_⟩
       ·have hw':look (bobs (numL ids F0) (upOs R r.obs q')++st.ob) p'=some w:=hw
        rw[kJ] at hw'
        split at hw'
        ·rename_i z hz
         obtain⟨p'',h1,h2,h3⟩:=zA hz
         exact absurd (Sw h2) hn
        ·exact hro _ hw'
       ·unfold Sig.cellsAt Sig.bD
        rw[hno p' hn]
        exact⟨rfl,rfl⟩
    ·cases h
   ·cases h
  ·cases h
 ·cases h
end
end Aq
end
