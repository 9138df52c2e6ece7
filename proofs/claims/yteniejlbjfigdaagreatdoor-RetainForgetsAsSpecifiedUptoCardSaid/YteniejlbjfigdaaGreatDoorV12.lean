/- Part of the proof of a law. -/
import Derived.Test.YteniejlbjfigdaaGreatDoorV11
set_option linter.all false
set_option linter.unusedSimpArgs false
set_option linter.unusedSectionVars false
section
namespace Aq
open Go
set_option linter.unusedSectionVars false
set_option linter.unusedVariables false
section
variable {R:jB} {E:Env}
variable {ρ:aS} {top:Nat→Nat} {b aC:Nat} {st:MS R.T} {fr:Fr} {σ:ah} {o:Oper}
theorem rE.val {v:Option V} {r:dX R} (hv:oC ρ σ.top v r) (ho:∀y,v=some y→bE E fr σ aC o=some (y,σ)):rE E st ρ aC fr σ o r:=by
 cases r with
 |t x=>obtain⟨y,e,hr⟩:=hv;exact⟨y,.jo (ho y e),hr⟩
 |c c x=>intro hc;obtain⟨y,e,hr⟩:=hv hc;exact⟨y,.jo (ho y e),hr⟩
 |p α d o' f=>intro a ha;obtain⟨y,e,hr⟩:=hv a ha;exact⟨y,.jo (ho y e),hr⟩
 |w x s=>exact hv.elim
 |wc c x s=>exact hv.elim
theorem rE.tt {x:TV R.T} {y:V} (ho:bE E fr σ aC o=some (y,σ)) (hr:Rl R ρ σ.top x y):rE E st ρ aC fr σ o (.t x):=⟨y,.jo ho,hr⟩
theorem V3 {x:Operand}:jk E fr (some x)=some (fr.ev E x):=rfl
theorem ac3 {top:Nat→Nat} {x y v:TV R.T} {w:V} (h:Dj true x y=some v) (hx:Rl R ρ top x w):Rl R ρ top v w:=by
 unfold Dj at h
 split at h<;>try cases h
 ·split at h
  ·cases h;exact hx
  ·cases h
 all_goals first|exact hx| (unfold Rl at hx⊢;exact hx)
theorem ac4 {top:Nat→Nat} {x y v:TV R.T} {w:V} (h:Dj false x y=some v) (hx:Rl R ρ top y w):Rl R ρ top v w:=by
 unfold Dj at h
 split at h<;>try cases h
 ·split at h
  ·rename_i e;subst e;cases h;exact hx
  ·cases h
 all_goals first|exact hx| (unfold Rl at hx⊢;exact hx)
theorem DW {c a' b':Operand} {t:Bool} (hop:o.op= .pick c a' b') (hc:fr.ev E c= .bool t):bE E fr σ aC o=some (if t then fr.ev E a' else fr.ev E b',σ):=by
 simp only[bE,hop,hc,nP,Option.map_some]
variable (hR:oh R)
include hR
theorem an6 {t:TypeId} {m x:TV R.T} {v w:V} {ok:Bool} {r:dX R} (h:MN E R t m x ok st=some r) (hm:Rl R ρ σ.top m v) (hx:Rl R ρ σ.top x w) (hi:aJ ρ b st fr σ):oC ρ σ.top (tZ E.P σ t v w ok) r:=by
 unfold MN at h
 split at h
 ·rename_i o
  split at h
  ·rename_i k e m hl
   obtain⟨s,h1,rfl⟩:=hm.vV
   obtain⟨s',h2,h3⟩:=hi.rd hl
   rw[h1] at h2;cases h2
   exact VD hR h hx h3
  ·cases h
 ·rename_i k e m
  exact VD hR h hx (by rw[hm.Dv];rfl)
 ·split at h
  ·split at h
   ·unfold Rl at hm;subst hm
    exact VD hR h hx rfl
   ·cases h
  ·cases h
 ·cases h
omit hR in
theorem ac5 {top:Nat→Nat} {x y:TV R.T} {v w:V} {r:Bool} (h:MO x y=some r) (hx:Rl R ρ top x v) (hy:Rl R ρ top y w):lV v w=some r:=by
 unfold MO at h
 split at h
 ·rw[hx.gL,hy.gL];exact h
 ·cases h;rw[hx.mo,hy.mo];rfl
 ·cases h
omit hR in
theorem ac6 {top:Nat→Nat} {t:TypeId} {x:TV R.T} {v:V} (h:MP E t x=true) (hx:Rl R ρ top x v):kJ E.P t v=true:=by
 unfold MP at h
 split at h
 ·rename_i hu;rw[hx.gL];unfold kJ;rw[hu]
 ·rename_i hu;rw[hx.mo];unfold kJ;rw[hu]
 ·cases h
omit hR in
theorem ac7 {top:Nat→Nat} {x y:TV R.T} {v w:V} (hx:Rl R ρ top x v) (hy:Rl R ρ top y w):∀{ks vs:List (TV R.T)} {ks' vs':List (TV R.T)} {k l:List V},MQ x y ks vs=some (ks',vs')→aB R ρ top ks k→aB R ρ top vs l→
 ∃k' l',tY v w k l=some (k',l')∧aB R ρ top ks' k'∧aB R ρ top vs' l'
 | [],[],_,_,k,l,h,h1,h2=>by
   cases h
   rw[h1.gK,h2.gK]
   exact⟨_,_,rfl,.cons' hx rfl,.cons' hy rfl⟩
 | [],_::_,_,_,_,_,h,_,_=>by cases h
 |_::_,[],_,_,_,_,h,_,_=>by cases h
 |a::ks,b::vs,ks',vs',k,l,h,h1,h2=>by
  obtain⟨k0,k,rfl,g1,g2⟩:=h1.eO
  obtain⟨l0,l,rfl,g3,g4⟩:=h2.eO
  unfold MQ at h
  split at h
  ·rename_i c hc
   have he:=ac5 hc hx g1
   cases c with
   |true=>cases h;exact⟨v::k,w::l,by simp[tY,he],.cons' hx g2,.cons' hy g4⟩
   |false=>
    rw[cond_false] at h
    split at h
    ·rename_i ks1 vs1 hs
     cases h
     obtain⟨k',l',e1,e2,e3⟩:=ac7 hx hy hs g2 g4
     exact⟨k0::k',l0::l',by simp[tY,he,e1],.cons' g1 e2,.cons' g3 e3⟩
    ·cases h
  ·cases h
theorem ac8 {t:TypeId} {m x y:TV R.T} {v w u:V} {r:dX R} (h:Dc E R t m x y st=some r) (hm:Rl R ρ σ.top m v) (hx:Rl R ρ σ.top x w) (hy:Rl R ρ σ.top y u) (hi:aJ ρ aC st fr σ)
 (ho:∀σ',p8 E.P σ t v w u=some σ'→bE E fr σ aC o=some (ay,σ')):rE E st ρ aC fr σ o r:=by
 unfold Dc at h
 split at h
 ·rename_i p
  split at h
  ·rename_i k e m hl
   split at h
   ·rename_i kt et ht
    obtain⟨hk,h⟩:=d9 h
    split at h
    ·rename_i a c ha hc
     cases h
     obtain⟨s,h1,rfl⟩:=hm.vV
     obtain⟨s',h2,h3⟩:=hi.ob _ _ hl
     rw[h1] at h2;cases h2
     have hw:=acA hR hk ha hx
     subst hw
     unfold unE at hc
     obtain⟨hs,hc⟩:=d9 hc
     have hu:u=aD R e c:=by
      have h4:=Vq hR hc hy
      have h5:=VQ hR y u hs hy
      have h6:=h4.2.2.1 0 σ
      rw[jQ h5] at h6
      exact Option.some.inj h6
     subst hu
     have hup:p8 E.P σ t (.cK (1,p) s) (aD R k a) (aD R e c)=some (σ.setObj (1,p) s (.map ((kP (eH R k) a c m).map fun q=>aD R k q.1) ((kP (eH R k) a c m).map fun q=>aD R e q.2))):=by
      unfold p8
      rw[ht];simp only[Option.bind_some]
      rw[if_pos (Ni hR hk a a).2,h3]
      simp only[Option.bind_some]
      rw[acz hR hk a c m];rfl
     refine⟨ay,_,ρ,.jo (ho _ hup),(hi.le (Nat.le_succ _)).set p s ⟨s,h1,map_eq _ _ _ _ _⟩,rfl,by unfold Rl;rfl,fun q _=>bI.set hl rfl⟩
    ·cases h
   ·cases h
  ·rename_i ks vs hl
   split at h
   ·rename_i kt et ht
    obtain⟨hk,h⟩:=d9 h
    split at h
    ·rename_i ks' vs' hs
     cases h
     obtain⟨s,h1,rfl⟩:=hm.vV
     obtain⟨s',k0,l0,h2,h3,h4,h5⟩:=hi.ob _ _ hl
     rw[h1] at h2;cases h2
     obtain⟨k1,l1,g1,g2,g3⟩:=ac7 hx hy hs h4 h5
     have hup:p8 E.P σ t (.cK (1,p) s) w u=some (σ.setObj (1,p) s (.map k1 l1)):=by
      unfold p8
      rw[ht];simp only[Option.bind_some]
      rw[if_pos (ac6 hk hx),h3]
      simp only[Option.bind_some]
      rw[g1];rfl
     refine⟨ay,_,ρ,.jo (ho _ hup),(hi.le (Nat.le_succ _)).set p s ⟨s,k1,l1,h1,map_eq _ _ _ _ _,g2,g3⟩,rfl,by unfold Rl;rfl,fun q _=>bI.set hl rfl⟩
    ·cases h
   ·cases h
  ·cases h
 ·cases h
theorem ac9 {d s:Nat} {cs:List (TV R.T)} {l:List V} (hi:aJ ρ b st fr σ) (hc:aB R ρ σ.top cs l) (hm:l6 d cs=false):aJ (ρ.lC d s) b (st.new d (.cells cs)) fr (σ.setObj (1,d) s (.cells l)):=
 hi.new d s ⟨s,l,rD,nU _ _ _ _,aB.kill d DF rfl cs l hm hc⟩
theorem ada {d s:Nat} {ss:List Sg} (hi:aJ ρ b st fr σ):aJ (ρ.lC d s) b (st.new d (.sg ss)) fr (σ.setObj (1,d) s (.cells (bW ss))):=
 hi.new d s ⟨s,rD,nU _ _ _ _⟩
theorem V4 {g:Nat} {cs:List V} (h:E.glob g=some cs):fr.ev E (.global g)= .aM cs 0:=by
 show (match E.glob g with|some cs=>V.aM cs 0|none=>V.raw (Value.pointer (some ⟨g,0,none⟩)))=_
 rw[h]
theorem an7 {g:List (Nat×Bool)} (hg:ow fr g) (hi:aJ ρ aC st fr σ) {r:dX R} (h:o7 E R g o.dst o.op st=some r):rE E st ρ aC fr σ o r:=by
 unfold o7 at h
 split at h
 ·
  rename_i t hop
  split at h
  ·rename_i d ks cs hd hks hz
   obtain⟨hc,h⟩:=d9 h
   cases h
   obtain⟨v,hv,hr⟩:=DN (ρ:=ρ) (top:=σ.top) hz
   obtain⟨l,rfl,hl⟩:=hr.kD
   have hl2:=an1 hc hl
   refine⟨.ref (1,d) aC 0,_,ρ.lC d aC,.jo (o:=o) ?_,ada hR (ss:=ks.map MR) (hi.le (Nat.le_succ _)),rfl,by unfold Rl;exact⟨aC,rD,rfl⟩,fun q hq=>bI.new (fun e=>hq (by rw[hd,e]))⟩
   simp only[bE,hop,hd,Option.map_some,Option.bind_some,hv,V.cells,hl2,Hw,if_true,hi.d]
  ·cases h
 ·
  rename_i t x hop
  split at h
  ·rename_i d ks v hd hks hv
   split at h
   ·rename_i ss hss
    cases h
    obtain⟨c1,c2,c3⟩:=ac1 hss (bH (E:=E) hi hg hv)
    refine⟨.ref (1,d) aC 0,_,ρ.lC d aC,.jo (o:=o) ?_,ada hR (ss:=ss) (hi.le (Nat.le_succ _)),rfl,by unfold Rl;exact⟨aC,rD,rfl⟩,fun q hq=>bI.new (fun e=>hq (by rw[hd,e]))⟩
    simp only[bE,hop,hd,Option.map_some,Option.bind_some,c1,c3,Hw,and_self,if_true,hi.d]
   ·cases h
  ·cases h
 ·
  rename_i t a hop
  split at h
  ·rename_i gl
   split at h
   ·rename_i k n v hv
    cases h
    obtain⟨cs,e,g1,g2,g3,g4,g5,g6⟩:=VY hv
    refine .tt (y:=.agg (v.l.map (V.int k))) ?_ ?_
    ·simp only[bE,hop,V4 hR g1]
     unfold gB;rw[g4,g5];simp only[Option.bind_some]
     unfold mY
     rw[if_pos rfl,if_pos (by rw[g2,List.length_map,v.h];omega),List.drop_zero,List.take_of_length_le (by rw[g2,List.length_map,v.h];exact Nat.le_refl _),g2];rfl
    ·unfold Rl;show _=V.agg (v.l.map (V.int k)++[]);rw[List.append_nil]
   ·cases h
  ·split at h
   ·rename_i p off hv
    split at h
    ·rename_i ss hl
     split at h
     ·rename_i v hld
      cases h
      obtain⟨s,h1,h2⟩:=(bH (E:=E) hi hg hv).oo
      obtain⟨s',h3,h4⟩:=hi.rd hl
      rw[h1] at h3;cases h3
      obtain⟨y,hy,hr⟩:=acY (ρ:=ρ) (top:=σ.top) hld
      exact .tt (by simp only[bE,hop,h2,h4,Option.bind_some,hy,Option.map_some]) hr
     ·cases h
    ·cases h
   ·rename_i p off k n i m hv
    split at h
    ·rename_i ss hl
     obtain⟨s,h1,hi0,hi1,h2⟩:=(bH (E:=E) hi hg hv).G9
     obtain⟨s',h3,h4⟩:=hi.rd hl
     rw[h1] at h3;cases h3
     split at h
     ·rename_i pre k' n' v post hsp
      by_cases ek:k'=k
      ·subst ek
       rw[if_pos rfl] at h
       cases hb:Nat.beq n' n
       ·rw[hb] at h;cases h
       rw[hb,cond_true] at h
       have:=eF hb;subst this
       cases hc:(Nat.beq m 1&& qo E t)
       ·rw[hc,cond_false] at h
        split at h
        ·rename_i y hy
         cases h
         obtain⟨x,g1,g2⟩:=anZ (ρ:=ρ) (top:=σ.top) hsp hi1 hy
         exact .tt (by simp only[bE,hop,h2,h4,Option.bind_some,g1,Option.map_some]) g2
        ·cases h
       ·rw[hc,cond_true] at h
        cases h
        rw[Bool.and_eq_true] at hc
        have:=eF hc.1;subst this
        exact .tt (y:=.int k' (v.at' i)) (by simp only[bE,hop,h2,h4,Option.bind_some,ac0 (i:=i) hsp (Nat.lt_of_lt_of_le (Nat.lt_succ_self _) hi1) hc.2,Option.map_some]) (by unfold Rl;rfl)
      ·rw[if_neg ek] at h;cases h
     ·cases h
    ·cases h
   ·rename_i k n v i hv
    obtain⟨he,h⟩:=d9 h
    cases h
    obtain⟨h1,h2,h3⟩:=(bH (E:=E) hi hg hv).M6
    obtain⟨z1,z2⟩:=Ah he
    refine .tt (y:=.int k (v.at' i)) ?_ (by unfold Rl;rfl)
    simp only[bE,hop,h3]
    unfold gB;rw[z1,z2];simp only[Option.bind_some]
    unfold mY;simp only[Bool.false_eq_true,if_false]
    rw[List.getElem?_map,acZ v (by omega)];rfl
   ·cases h
 ·
  rename_i t a x hop
  split at h
  ·rename_i p off v hv hx
   split at h
   ·rename_i ss sz hl hsz
    split at h
    ·rename_i pre rest hsp
     split at h
     ·rename_i mid post hsp2
      split at h
      ·rename_i mid' hco
       cases h
       obtain⟨s,h1,h2⟩:=(bH (E:=E) hi hg hv).oo
       obtain⟨s',h3,h4⟩:=hi.ob _ _ hl
       rw[h1] at h3;cases h3
       obtain⟨c1,c2,c3⟩:=ac1 hco (bH (E:=E) hi hg hx)
       obtain⟨e1,w1⟩:=sU hsp
       obtain⟨e2,w2⟩:=sU hsp2
       rw[Nu,w2] at c2
       refine⟨ay,_,ρ,.jo (o:=o) ?_,(hi.le (Nat.le_succ _)).set p s (x:=.sg (pre++(mid'++post))) (a:=.cells (bW (pre++(mid'++post)))) ⟨s,h1,nU _ _ _ _⟩,rfl,by unfold Rl;rfl,fun q _=>bI.set hl rfl⟩
       simp only[bE,hop,h2,h4,Option.bind_some,c1]
       rw[if_pos ⟨by rw[hsz,iw,c2],by rw[iw,iw,e1,e2,yj,yj,w1,w2,c2];omega,Hw _⟩,e1,e2,an2 w1 w2 c2]
      ·cases h
     ·cases h
    ·cases h
   ·cases h
  ·rename_i p off k n i m k' y hv hx
   split at h
   ·rename_i ss hl
    split at h
    ·rename_i pre k2 n' v post hsp
     by_cases ek:k2=k
     ·subst ek
      rw[if_pos rfl] at h
      by_cases ek':k'=k2
      ·subst ek'
       rw[if_pos rfl] at h
       obtain⟨hb,h⟩:=d9 h
       cases h
       rw[Bool.and_eq_true,Bool.and_eq_true] at hb
       have e1:=eF hb.1.1;subst e1
       have e2:=eF hb.1.2;subst e2
       obtain⟨z1,z2⟩:=Ah hb.2
       obtain⟨s,h1,hi0,hi1,h2⟩:=(bH (E:=E) hi hg hv).G9
       obtain⟨s',h3,h4⟩:=hi.ob _ _ hl
       rw[h1] at h3;cases h3
       have hy:=(bH (E:=E) hi hg hx).gL
       obtain⟨e1,w1⟩:=sU hsp
       refine⟨ay,_,ρ,.jo (o:=o) ?_,(hi.le (Nat.le_succ _)).set p s (x:=.sg (pre++(.a k' n' (v.set i y)::post))) (a:=.cells (bW (pre++(.a k' n' (v.set i y)::post)))) ⟨s,h1,nU _ _ _ _⟩,rfl,by unfold Rl;rfl,fun q _=>bI.set hl rfl⟩
       simp only[bE,hop,h2,h4,Option.bind_some,hy,V.cells]
       have an8:=ac2 (post:=post) (k:=k') (v:=v) (w:=v.set i y) (l:=[y]) w1 (show i.toNat+[y].length≤n' from hi1) (an3 (by rw[v.h];omega))
       rw[if_pos ⟨by rw[z1];rfl,by rw[iw,e1,yj,w1,Nt];show off+i.toNat+1≤off+(n'+_);omega,rfl⟩,e1]
       rw[show [V.int k' y]=[y].map (V.int k') from rfl,an8]
      ·rw[if_neg ek'] at h;cases h
     ·rw[if_neg ek] at h;cases h
    ·cases h
   ·cases h
  ·cases h
 ·
  rename_i t x i hop
  split at h
  ·rename_i n e k0 i ha hiv
   obtain⟨hel,h⟩:=d9 h
   obtain⟨z1,z2⟩:=Ah hel
   have hii:=(bH (E:=E) hi hg hiv).gL
   split at h
   ·rename_i gl
    split at h
    ·rename_i k n' v hv
     cases h
     intro hin
     obtain⟨cs,e',g1,g2,g3,g4,g5,g6⟩:=VY hv
     rw[ha] at g3;cases g3
     obtain⟨j1,j2,j3⟩:=Nv hin
     refine⟨.aM cs i.toNat,.jo ?_,by unfold Rl;exact⟨j1,j2,by rw[g2]⟩⟩
     simp only[bE,hop,V4 hR g1,hii]
     unfold mZ
     rw[Nr ha];dsimp only
     rw[z1];simp only[Option.bind_some,VZ hin,Option.map_some,Nat.mul_one,Nat.zero_add]
    ·cases h
   ·split at h
    ·rename_i p off hv
     split at h
     ·rename_i ss hl
      split at h
      ·rename_i pre k n' v post hsp
       obtain⟨hb,h⟩:=d9 h
       have:=eF hb;subst this
       cases h
       intro hin
       obtain⟨s,h1,h2⟩:=(bH (E:=E) hi hg hv).oo
       obtain⟨j1,j2,j3⟩:=Nv hin
       refine⟨.ref (1,p) s (off+i.toNat),.jo ?_,by unfold Rl;exact⟨s,h1,j1,by omega,rfl⟩⟩
       simp only[bE,hop,h2,hii]
       unfold mZ
       rw[Nr ha];dsimp only
       rw[z1];simp only[Option.bind_some,VZ hin,Option.map_some,Nat.mul_one]
      ·cases h
     ·cases h
    ·cases h
  ·cases h
 ·
  rename_i t x i hop
  split at h
  ·rename_i n e k n' v k0 i ha hv hiv
   obtain⟨hb,h⟩:=d9 h
   cases h
   rw[Bool.and_eq_true] at hb
   have:=eF hb.2;subst this
   obtain⟨z1,z2⟩:=Ah hb.1
   have hii:=(bH (E:=E) hi hg hiv).gL
   have hvv:=(bH (E:=E) hi hg hv).G8
   intro hin
   obtain⟨j1,j2,j3⟩:=Nv hin
   refine⟨.int k (v.at' i),.jo ?_,by unfold Rl;rfl⟩
   simp only[bE,hop,hvv,hii]
   unfold vF
   rw[Nr ha];dsimp only
   rw[VZ hin];simp only[Option.bind_some,z1,Nat.mul_one]
   have:=ac0 (E:=E) (t:=e) (ss:=[.a k n' v]) (pre:=[]) (post:=[]) (off:=0) (i:=i) rfl j3 hb.1
   rw[Nat.zero_add] at this
   rw[this];rfl
  ·cases h
 ·
  rename_i t x lo hi' hop
  split at h
  ·rename_i v hv
   have jY:=bH (E:=E) hi hg hv
   have ho:∀vl vh,jk E fr lo=vl→jk E fr hi'=vh→∀y,j6 E.P σ t (fr.ev E x) vl vh none=some y→bE E fr σ aC o=some (y,σ):=by
    rintro vl vh rfl rfl y hy
    simp only[bE,hop]
    rw[show jk E fr none=none from rfl,hy];rfl
   split at h
   ·exact .val (Ny h jY hi (vl:=none) (vh:=none) (by intro y hy;cases hy) (fun _=>rfl) (by intro y hy;cases hy) (fun _=>rfl)) (ho _ _ rfl rfl)
   ·rename_i lo
    split at h
    ·rename_i l hl
     have hlr:=bH (E:=E) hi hg hl
     exact .val (Ny h jY hi (vl:=some (fr.ev E lo)) (vh:=none) (by intro y hy;cases hy;exact⟨_,rfl,hlr⟩) (by intro hy;cases hy) (by intro y hy;cases hy) (fun _=>rfl)) (ho _ _ rfl rfl)
    ·cases h
   ·rename_i hi'
    split at h
    ·rename_i l hl
     have hlr:=bH (E:=E) hi hg hl
     exact .val (Ny h jY hi (vl:=none) (vh:=some (fr.ev E hi')) (by intro y hy;cases hy) (fun _=>rfl) (by intro y hy;cases hy;exact⟨_,rfl,hlr⟩) (by intro hy;cases hy)) (ho _ _ rfl rfl)
    ·cases h
   ·rename_i lo hi'
    split at h
    ·rename_i l m hl hm
     have hlr:=bH (E:=E) hi hg hl
     have hmr:=bH (E:=E) hi hg hm
     exact .val (Ny h jY hi (vl:=some (fr.ev E lo)) (vh:=some (fr.ev E hi')) (by intro y hy;cases hy;exact⟨_,rfl,hlr⟩) (by intro hy;cases hy) (by intro y hy;cases hy;exact⟨_,rfl,hmr⟩) (by intro hy;cases hy)) (ho _ _ rfl rfl)
    ·cases h
  ·cases h
 ·
  rename_i t x lo hi' mx hop
  split at h
  ·rename_i cp u l kh hh km m e hv hvh hvm hu
   split at h
   ·rename_i sz hsz
    cases hb:Nat.beq sz (dB R u)
    ·rw[hb] at h;cases h
    rw[hb,cond_true] at h
    have:=eF hb;subst this
    obtain⟨c',h2,_⟩:=(bH (E:=E) hi hg hv).kQ
    have eh:=(bH (E:=E) hi hg hvh).gL
    have em:=(bH (E:=E) hi hg hvm).gL
    have fin:∀(vl:Option V) (a:Nat) (L:List (Den R.T u)),jk E fr lo=vl→jI l.length l.length vl (some (.int kh hh)) (some (.int km m))=some (a,hh.toNat,m.toNat)→(l.take hh.toNat).drop a=L→∃y,lF E fr σ aC o y σ∧Rl R ρ σ.top (.aj .any u L) y:=by
     rintro vl a L hvl hsb rfl
     refine⟨.aj (if m.toNat=hh.toNat then .full else .sh) (((l.map (aD R u)).take hh.toNat).drop a),.jo ?_, ?_⟩
     ·simp only[bE,hop,h2]
      rw[hvl,show jk E fr (some hi')=some (.int kh hh) by rw[V3,eh],show jk E fr (some mx)=some (.int km m) by rw[V3,em]]
      unfold j6
      rw[hu];dsimp only
      rw[hsz];simp only[Option.bind_some,List.length_map,hsb,Ng hR,if_true,Option.isNone_some,Bool.false_eq_true,and_false,if_false,Option.map_some]
     ·unfold Rl
      exact⟨_,by rw[acw],trivial⟩
    split at h
    ·cases h
     intro hc
     rw[Bool.and_eq_true] at hc
     exact fin none 0 _ rfl (by simp[jI,wh hc.1,wh hc.2]) (by simp[qZ])
    ·rename_i lo'
     split at h
     ·rename_i ka a hva
      cases h
      intro hc
      rw[Bool.and_eq_true,Bool.and_eq_true] at hc
      have ea:=(bH (E:=E) hi hg hva).gL
      exact fin (some (.int ka a)) a.toNat _ (by rw[V3,ea]) (by simp[jI,wh hc.1,wh hc.2.1,wh hc.2.2]) (by simp[qZ])
     ·cases h
   ·cases h
  ·cases h
 ·
  rename_i a b' x hop
  split at h
  ·rename_i p off k n lo hi' hv
   obtain⟨s,h1,hB,h2⟩:=(bH (E:=E) hi hg hv).xW
   split at h
   ·rename_i e hu1 hu2
    split at h
    ·rename_i hu3
     split at h
     ·rename_i l hl
      cases h
      obtain⟨cs,c1,c2,c3,c4⟩:=acP hR hi hl h1 hB
      obtain⟨p1,p2,p3,_,_⟩:=Af hB
      refine .tt (y:=.str (List.map (fun n:Int=>UInt8.ofNat n.toNat) l)) ?_ (by unfold Rl;rfl)
      simp only[bE,hop,h2]
      unfold vE
      rw[hu1,hu2];dsimp only
      rw[hu3,c1];dsimp only
      simp only[Option.bind_some]
      rw[if_pos (by omega),c3]
      have:=VB (R:=R) l
      rw[show l.map (V.int .u8)=List.map (aD R (.int .u8)) l from rfl,this];rfl
     ·cases h
    ·cases h
   ·cases h
  ·cases h
 ·
  rename_i t x hop
  split at h
  ·rename_i m e p off k n lo hi' ha hv
   cases h
   intro hc
   have hc:=of_decide_eq_true hc
   obtain⟨s,h1,hB,h2⟩:=(bH (E:=E) hi hg hv).xW
   obtain⟨p1,p2,p3,p4,p5⟩:=Af hB
   refine⟨.ref (1,p) s (off+(dQ lo).toNat),.jo ?_,by unfold Rl;exact⟨s,h1,p4,by omega,rfl⟩⟩
   simp only[bE,hop,ha,h2,Option.bind_some]
   rw[if_pos ⟨hc.1,by omega⟩]
  ·cases h
 ·
  rename_i c hop
  split at h
  ·rename_i p off k n lo hi' y gI hvs
   split at h
   ·rename_i t ht
    split at h
    ·rename_i e he
     obtain⟨hel,h⟩:=d9 h
     obtain⟨z1,z2⟩:=Ah hel
     split at h
     ·rename_i l0 ss hsrc hl
      obtain⟨l,hl0⟩:∃l:List Int,l=l0:=⟨l0,rfl⟩
      subst hl0
      split at h
      ·rename_i pre k' n' v post hsp
       by_cases ek:k'=k
       ·subst ek
        rw[if_pos rfl] at h
        cases hb:Nat.beq n' n
        ·rw[hb] at h;cases h
        rw[hb,cond_true] at h
        have:=eF hb;subst this
        cases h
        have hargs:=xZ (E:=E) hi hg hvs
        obtain⟨a1,as1,ea1,ra1,ra2⟩:=hargs.eO
        obtain⟨a2,as2,ea2,rb1,rb2⟩:=ra2.eO
        have ea3:=rb2.gK
        subst ea3;subst ea2
        obtain⟨s,h1,hB,rfl⟩:=ra1.xW
        obtain⟨p1,p2,p3,p4,p5⟩:=Af hB
        obtain⟨s',h3,h4⟩:=hi.ob _ _ hl
        rw[h1] at h3;cases h3
        obtain⟨e1,w1⟩:=sU hsp
        obtain⟨q1,q2⟩:=VG hR (σ:=σ) (ag:=false) (z:=ay) hsrc rb1
        have q1:jU σ false 1 ay a2=some (List.map (V.int k') l):=q1
        have hlen:(gJ n' hi'-dQ lo).toNat=(gJ n' hi').toNat-(dQ lo).toNat:=by omega
        have hmin:min (List.map (V.int k') l).length ((gJ n' hi').toNat-(dQ lo).toNat)=(List.take (gJ n' hi'-dQ lo).toNat l).length:=by
         rw[List.length_map,List.length_take,hlen,Nat.min_comm]
        have hfl:((List.map (V.int k') l).take (List.take (gJ n' hi'-dQ lo).toNat l).length).flatMap V.cells=(List.take (gJ n' hi'-dQ lo).toNat l).map (V.int k'):=by
         have:∀m:List Int,(m.map (V.int k')).flatMap V.cells=m.map (V.int k'):=by
          intro m
          induction m with
          |nil=>rfl
          |cons x m ih=>rw[List.map_cons,List.flatMap_cons,ih];rfl
         rw[←List.map_take,this,List.length_take]
         congr 1
         by_cases hle:(gJ n' hi'-dQ lo).toNat≤List.length l
         ·rw[Nat.min_eq_left hle]
         ·rw[Nat.min_eq_right (by omega),List.take_of_length_le (Nat.le_refl _),List.take_of_length_le (by omega)]
        have hlt:(List.take (gJ n' hi'-dQ lo).toNat l).length≤(gJ n' hi').toNat-(dQ lo).toNat:=by rw[List.length_take,hlen];exact Nat.min_le_left _ _
        have hone:(List.map (V.int k') l).all (fun v=>bN v.cells)=true:=by rw[List.all_map];simp[bN,V.cells,oneCell]
        refine⟨_,_,ρ,.of (o:=o) fun S=> ?_,(hi.le (Nat.le_succ _)).set p s (x:=.sg (pre++(.a k' n' (v.oP (dQ lo) (List.take (gJ n' hi'-dQ lo).toNat l))::post))) (a:=.cells (bW (pre++(.a k' n' (v.oP (dQ lo) (List.take (gJ n' hi'-dQ lo).toNat l))::post)))) ⟨s,h1,nU _ _ _ _⟩,rfl,by unfold Rl;rfl,fun q _=>bI.set hl rfl⟩
        unfold opC
        rw[hop];dsimp only
        rw[gI];dsimp only
        rw[ea1]
        have hbv:ng E fr.om (o.dst.map fun t=>(fr.d,t)) σ aC .copy c.argTypes [.vw (1,p) s (off+(dQ lo).toNat) ((gJ n' hi').toNat-(dQ lo).toNat) (n'-(dQ lo).toNat) 1 false,a2]=(c.argTypes[0]?).bind fun t=>copyV E.P σ t (.vw (1,p) s (off+(dQ lo).toNat) ((gJ n' hi').toNat-(dQ lo).toNat) (n'-(dQ lo).toNat) 1 false) a2:=rfl
        rw[hbv,ht];simp only[Option.bind_some]
        rw[an5 he z1 z2 q2 q1 hone h4 (by rw[hmin,iw,e1,yj,w1,Nt];show off+(dQ lo).toNat+_≤off+(n'+_);omega),hmin,hfl]
        simp only[Option.map_some]
        rw[e1,ac2 (w:=v.oP (dQ lo) (List.take (gJ n' hi'-dQ lo).toNat l)) w1 (by omega) (by unfold Vec.oP;rw[Hu];simp only[List.length_append,List.length_take,List.length_drop,v.h] at*;omega)]
        try rfl
       ·rw[if_neg ek] at h;cases h
      ·cases h
     ·cases h
    ·cases h
   ·cases h
  ·cases h
 ·cases h
theorem aoi {om:Bool} {F:Nat→List (FR R)} (hF:aO E F) (bS:ρ.om=om) {g:List (Nat×Bool)} (hg:ow fr g) (hi:aJ ρ aC st fr σ) {r:dX R} (h:qp E R om F g o.dst o.op st=some r):rE E st ρ aC fr σ o r:=by
 unfold qp at h
 split at h
 ·
  rename_i x hop
  split at h
  ·rename_i v hv;cases h;exact .tt (y:=fr.ev E x) (by simp only[bE,hop]) (bH hi hg hv)
  ·cases h
 ·rename_i x hop
  split at h
  ·rename_i v hv;cases h;exact .tt (y:=fr.ev E x) (by simp only[bE,hop]) (bH hi hg hv)
  ·cases h
 ·
  rename_i c a' b' hop
  split at h
  ·rename_i j
   split at h
   ·rename_i t hc
    have hc':=(bH (E:=E) hi hg hc).qw
    split at h
    ·rename_i x y hx hy
     split at h
     ·rename_i v hv
      cases h
      refine .tt (DW hop hc') ?_
      rw[Cy] at hc'
      cases t
      ·exact ac4 hv (bH (E:=E) hi (.cons hc' hg) hy)
      ·exact ac3 hv (bH (E:=E) hi (.cons hc' hg) hx)
     ·cases h
    ·cases h
   ·rename_i t hc
    have hc':=(bH (E:=E) hi hg hc).sS
    split at h
    ·rename_i v hv
     cases h
     refine .tt (DW hop hc') ?_
     cases t
     ·exact bH (E:=E) hi hg hv
     ·exact bH (E:=E) hi hg hv
    ·cases h
   ·cases h
  ·cases h
 ·
  rename_i t hop
  split at h
  ·rename_i d z hd hz
   obtain⟨hc,h⟩:=d9 h
   cases h
   simp only[Bool.and_eq_true,Bool.not_eq_true'] at hc
   obtain⟨v,hv,hr⟩:=DN (ρ:=ρ) (top:=σ.top) hz
   have hng:zV z=true:=by
    cases z<;>first|rfl| (have:=hc.1;simp[TV.cells,xJ,UW] at this)
   obtain⟨hcells,_⟩:=vX hng hr
   refine⟨.ref (1,d) aC 0,_,ρ.lC d aC,.jo (o:=o) ?_,ac9 hR (hi.le (Nat.le_succ _)) hcells hc.2,rfl,by unfold Rl;exact⟨aC,rD,rfl⟩,fun q hq=>bI.new (fun e=>hq (by rw[hd,e]))⟩
   simp only[bE,hop,hd,Option.map_some,Option.bind_some,hv,Ho hc.1 hcells,if_true,hi.d]
  ·cases h
 ·
  rename_i t x hop
  split at h
  ·rename_i d v hd hv
   obtain⟨hc,h⟩:=d9 h
   cases h
   simp only[Bool.and_eq_true,Bool.not_eq_true'] at hc
   have hr:=bH (E:=E) hi hg hv
   obtain⟨hcells,hnr⟩:=vX hc.1.2 hr
   refine⟨.ref (1,d) aC 0,_,ρ.lC d aC,.jo (o:=o) ?_,ac9 hR (hi.le (Nat.le_succ _)) hcells hc.2,rfl,by unfold Rl;exact⟨aC,rD,rfl⟩,fun q hq=>bI.new (fun e=>hq (by rw[hd,e]))⟩
   simp only[bE,hop,hd,Option.map_some,Option.bind_some,Ho hc.1.1 hcells,hnr,and_self,if_true,hi.d]
  ·cases h
 ·
  rename_i t parts hop
  split at h
  ·rename_i pl z ps hpl hz hps
   split at h
   ·rename_i cs hcs
    cases h
    obtain⟨zv,hzv,nK⟩:=DN (ρ:=ρ) (top:=σ.top) hz
    obtain⟨e1,e2⟩:=Vt (E:=E) hi hg hps
    have hzc:aB R ρ σ.top z.cells zv.cells:=by
     refine(vX ?_ nK).1
     unfold vS at hz
     cases z<;>first|rfl|skip
     all_goals
      exfalso
      split at hz
      ·split at hz
       ·unfold CO at hz
        split at hz
        ·split at hz<;>cases hz
        ·unfold zS at hz;split at hz<;>cases hz
       ·cases hz
      ·cases hz
    obtain⟨l',f1,f2⟩:=aci (qs:=parts.toList.map fun p=>(p.1,fr.ev E p.2)) pl (by rw[e1];simp[Function.comp_def]) (by simpa [Function.comp_def] using e2) hzc hcs
    refine .tt (y:=.agg l') ?_ (by unfold Rl;exact⟨l',rfl,f2⟩)
    simp only[bE,hop,hpl,hzv,Option.bind_some]
    rw[f1];rfl
   ·cases h
  ·cases h
 ·
  rename_i t len parts hop
  split at h
  ·rename_i ps hps
   obtain⟨e1,e2⟩:=Vt (E:=E) hi hg hps
   refine .val (anu hR (qs:=parts.toList.map fun p=>(p.1,fr.ev E p.2)) h (by rw[e1];simp[Function.comp_def]) (by simpa [Function.comp_def] using e2)) fun y hy=> ?_
   simp only[bE,hop]
   rw[hy];rfl
  ·cases h
 ·
  rename_i t a hop
  split at h
  ·rename_i p off hv
   split at h
   ·rename_i cs hl
    split at h
    ·rename_i v hld
     cases h
     obtain⟨s,h1,h2⟩:=(bH (E:=E) hi hg hv).oo
     obtain⟨s',l,h3,h4,h5⟩:=hi.rd hl
     rw[h1] at h3;cases h3
     obtain⟨y,hy,hr⟩:=vY h5 hld
     exact .tt (by simp only[bE,hop,h2,h4,Option.bind_some,hy,Option.map_some]) hr
    ·cases h
   ·cases h
  ·rename_i cs off hv
   split at h
   ·rename_i v hld
    cases h
    obtain⟨l,h2,h5⟩:=(bH (E:=E) hi hg hv).uH
    obtain⟨y,hy,hr⟩:=vY h5 hld
    exact .tt (by simp only[bE,hop,h2,hy,Option.map_some]) hr
   ·cases h
  ·rename_i p τ i off hv
   split at h
   ·rename_i ob hl
    obtain⟨s,h1,_,h2⟩:=(bH (E:=E) hi hg hv).z8
    obtain⟨l,f,rfl,hf⟩:=anD h (hi.rd hl) h1
    intro y hy
    obtain⟨cs,w,h3,h4,h5⟩:=hf y hy
    exact⟨w,.jo (by simp only[bE,hop,h2,h3,Option.bind_some,h4,Option.map_some]),h5⟩
   ·cases h
  ·cases h
 ·
  rename_i t a x hop
  split at h
  ·rename_i p off v hv hx
   split at h
   ·rename_i cs sz hl hsz
    obtain⟨hc,h⟩:=d9 h
    cases h
    simp only[Bool.and_eq_true] at hc
    obtain⟨⟨⟨c1,c2⟩,c3⟩,c4⟩:=hc
    obtain⟨s,h1,h2⟩:=(bH (E:=E) hi hg hv).oo
    obtain⟨s',l,h3,h4,h5⟩:=hi.ob _ _ hl
    rw[h1] at h3;cases h3
    obtain⟨h6,h7⟩:=vX c4 (bH (E:=E) hi hg hx)
    refine⟨ay,_,ρ,.jo (o:=o) ?_,(hi.le (Nat.le_succ _)).set p s ⟨s,_,h1,nU _ _ _ _,Vz off h5 h6⟩,rfl,by unfold Rl;rfl,fun q _=>bI.set hl rfl⟩
    simp only[bE,hop,h2,h4,Option.bind_some]
    rw[if_pos ⟨by rw[hsz,h6.length,eF c1],by rw[h6.length,h5.length];exact Nat.le_of_ble_eq_true c2,Ho c3 h6⟩]
   ·cases h
  ·cases h
 ·
  rename_i x hop
  split at h
  ·rename_i p off hv;cases h
   have hr:=bH (E:=E) hi hg hv
   obtain⟨s,h1,h2⟩:=hr.oo
   exact .tt (y:=fr.ev E x) (by simp only[bE,hop,h2]) hr
  ·rename_i p off hv;cases h
   have hr:=bH (E:=E) hi hg hv
   obtain⟨s,h2,h1⟩:=hr.uH
   exact .tt (y:=fr.ev E x) (by simp only[bE,hop,h2]) hr
  ·rename_i p τ i off hv;cases h
   have hr:=bH (E:=E) hi hg hv
   obtain⟨s,h1,_,h2⟩:=hr.z8
   exact .tt (y:=fr.ev E x) (by simp only[bE,hop,h2]) hr
  ·rename_i f a' b' hv;cases h
   have hr:=bH (E:=E) hi hg hv
   obtain⟨a',b',h2,h1⟩:=hr.oq
   exact .tt (y:=fr.ev E x) (by simp only[bE,hop,h2]) hr
  ·cases h
 ·
  rename_i op t x y t' hop
  split at h
  ·rename_i x' y' hx hy
   exact .val (anm h (bH (E:=E) hi hg hx) (bH (E:=E) hi hg hy)) fun z hz=>by simp only[bE,hop,hz,Option.map_some]
  ·cases h
 ·
  rename_i op t x hop
  split at h
  ·rename_i x' hx
   exact .val (ano h (bH (E:=E) hi hg hx)) fun z hz=>by simp only[bE,hop,hz,Option.map_some]
  ·cases h
 ·
  rename_i a' b' x hop
  split at h
  ·rename_i x' hx
   exact .val (anp (σ:=σ) h (bH (E:=E) hi hg hx)) fun z hz=>by simp only[bE,hop,hz,Option.map_some]
  ·cases h
 ·
  rename_i f a' b' hop
  split at h
  ·rename_i xs ys hx hy
   cases h
   exact .tt (y:=.fn (.func f) (a'.toList.map (fr.ev E)) (b'.toList.map (fr.ev E))) (by simp only[bE,hop]) (by unfold Rl;exact⟨_,_,rfl,xZ (E:=E) hi hg hx,xZ (E:=E) hi hg hy⟩)
  ·cases h
 ·
  rename_i t hop
  split at h
  ·rename_i d k e hd ht
   split at h
   ·rename_i k' e' hk he
    cases h
    refine⟨.cK (1,d) aC,_,ρ.lC d aC,.jo (o:=o) ?_,(hi.le (Nat.le_succ _)).new d aC (a:=.map [] []) ⟨aC,rD,by rw[map_eq];rfl⟩,rfl,by unfold Rl;exact⟨aC,rD,rfl⟩,fun q hq=>bI.new (fun e=>hq (by rw[hd,e]))⟩
    simp only[bE,hop,hd,Option.map_some,hi.d]
   ·cases h
    refine⟨.cK (1,d) aC,_,ρ.lC d aC,.jo (o:=o) ?_,(hi.le (Nat.le_succ _)).new d aC (a:=.map [] []) ⟨aC,[],[],rD,by rw[map_eq],rfl,rfl⟩,rfl,by unfold Rl;exact⟨aC,rD,rfl⟩,fun q hq=>bI.new (fun e=>hq (by rw[hd,e]))⟩
    simp only[bE,hop,hd,Option.map_some,hi.d]
  ·cases h
 ·
  rename_i t l c hop
  split at h
  ·rename_i n m hn hm
   refine anK hR h (bH (E:=E) hi hg hn) (bH (E:=E) hi hg hm) hi rfl fun y σ' hy=>.jo ?_
   have e:(o.dst.map fun t=>(fr.d,t))=o.dst.map fun t=>(1,t):=by rw[hi.d]
   simp only[bE,hop]
   rw[e,hi.om,bS];exact hy
  ·cases h
 ·
  rename_i t x lo hi' hop
  split at h
  ·rename_i x' hx
   have jY:=bH (E:=E) hi hg hx
   split at h
   ·exact .val (Nh hR (σ:=σ) (vl:=none) (vh:=none) h jY (fun y hy=>by cases hy) (fun _=>rfl) (fun y hy=>by cases hy) (fun _=>rfl)) fun z hz=>by simp only[bE,hop,jk,hz,Option.map_some]
   ·rename_i lo
    split at h
    ·rename_i l hl
     exact .val (Nh hR (σ:=σ) (vl:=some (fr.ev E lo)) (vh:=none) h jY (fun y hy=>by cases hy;exact⟨_,rfl,bH (E:=E) hi hg hl⟩) (fun h=>by cases h) (fun y hy=>by cases hy) (fun _=>rfl)) fun z hz=>by simp only[bE,hop,jk,hz,Option.map_some]
    ·cases h
   ·rename_i hi2
    split at h
    ·rename_i l hl
     exact .val (Nh hR (σ:=σ) (vl:=none) (vh:=some (fr.ev E hi2)) h jY (fun y hy=>by cases hy) (fun _=>rfl) (fun y hy=>by cases hy;exact⟨_,rfl,bH (E:=E) hi hg hl⟩) (fun h=>by cases h)) fun z hz=>by simp only[bE,hop,jk,hz,Option.map_some]
    ·cases h
   ·rename_i lo hi2
    split at h
    ·rename_i l l2 hl hl2
     exact .val (Nh hR (σ:=σ) (vl:=some (fr.ev E lo)) (vh:=some (fr.ev E hi2)) h jY (fun y hy=>by cases hy;exact⟨_,rfl,bH (E:=E) hi hg hl⟩) (fun h=>by cases h) (fun y hy=>by cases hy;exact⟨_,rfl,bH (E:=E) hi hg hl2⟩) (fun h=>by cases h)) fun z hz=>by simp only[bE,hop,jk,hz,Option.map_some]
    ·cases h
  ·cases h
 ·
  rename_i t x f hop
  split at h
  ·rename_i x' hx
   have jY:=bH (E:=E) hi hg hx
   split at h
   ·rename_i v hv
    cases h
    unfold abx at hv
    split at hv
    ·rename_i p u hf
     split at hv
     ·rename_i q off
      cases hv
      obtain⟨s,h1,h2⟩:=jY.oo
      exact .tt (y:=.ref (1,q) s (off+p)) (by simp only[bE,hop,hf,Option.bind_some,h2]) (by unfold Rl;exact⟨s,h1,rfl⟩)
     ·rename_i q off
      cases hv
      obtain⟨l,h2,h1⟩:=jY.uH
      exact .tt (y:=.aM l (off+p)) (by simp only[bE,hop,hf,Option.bind_some,h2]) (by unfold Rl;exact⟨l,rfl,h1⟩)
     ·rename_i q τ i off
      cases hv
      obtain⟨s,h1,h3,h2⟩:=jY.z8
      exact .tt (y:=.ref (1,q) s (i.toNat*dB R τ+off+p)) (by simp only[bE,hop,hf,Option.bind_some,h2]) (by unfold Rl;exact⟨s,h1,h3,by rw[Nat.add_assoc]⟩)
     ·cases hv
    ·cases hv
   ·cases h
  ·cases h
 ·
  rename_i t x f hop
  split at h
  ·rename_i p u cs hf hx
   split at h
   ·rename_i v hv
    cases h
    obtain⟨l,h1,h2⟩:=(bH (E:=E) hi hg hx).kD
    obtain⟨y,hy,hr⟩:=vY h2 hv
    exact .tt (by simp only[bE,hop,hf,Option.bind_some,h1,hy,Option.map_some]) hr
   ·cases h
  ·cases h
 ·
  rename_i t x i hop
  split at h
  ·rename_i p τ y' hx hy
   exact .val (anL hR (om:=false) h (bH (E:=E) hi hg hx) (bH (E:=E) hi hg hy) hi) fun z hz=>by simp only[bE,hop,hz,Option.map_some]
  ·rename_i x' y' _ hx hy
   exact .val (anV hR h (bH (E:=E) hi hg hx) (bH (E:=E) hi hg hy)) fun z hz=>by simp only[bE,hop,hz,Option.map_some]
  ·cases h
 ·
  rename_i t x i hop
  split at h
  ·rename_i x' y' hx hy
   exact .val (anW h (bH (E:=E) hi hg hx) (bH (E:=E) hi hg hy)) fun z hz=>by simp only[bE,hop,hz,Option.map_some]
  ·cases h
 ·
  rename_i t x i ok hop
  split at h
  ·rename_i x' y' hx hy
   exact .val (an6 hR h (bH (E:=E) hi hg hx) (bH (E:=E) hi hg hy) hi) fun z hz=>by simp only[bE,hop,hz,Option.map_some]
  ·cases h
 ·
  rename_i t m k v hop
  split at h
  ·rename_i m' k' v' hm hk hv
   exact ac8 hR h (bH (E:=E) hi hg hm) (bH (E:=E) hi hg hk) (bH (E:=E) hi hg hv) hi fun σ' hs=>by simp only[bE,hop,hs,Option.map_some]
  ·cases h
 ·rename_i t m k v hop
  split at h
  ·rename_i m' k' v' hm hk hv
   exact ac8 hR h (bH (E:=E) hi hg hm) (bH (E:=E) hi hg hk) (bH (E:=E) hi hg hv) hi fun σ' hs=>by simp only[bE,hop,hs,Option.map_some]
  ·cases h
 ·
  rename_i x i hop
  split at h
  ·rename_i vs hv
   split at h
   ·rename_i v hx
    cases h
    obtain⟨l,h1,h2⟩:=(bH (E:=E) hi hg hv).M5
    obtain⟨y,hy,hr⟩:=h2.get hx
    exact .tt (by simp only[bE,hop,h1,hy,Option.map_some]) hr
   ·cases h
  ·cases h
 ·
  rename_i c hop
  split at h
  ·rename_i bi gI
   split at h
   ·rename_i vs hvs
    have hrs:=xZ (E:=E) hi hg hvs
    have step:∀y σ',ng E fr.om (o.dst.map fun t=>(fr.d,t)) σ aC bi c.argTypes (c.args.toList.map (fr.ev E))=some (y,σ')→lF E fr σ aC o y σ':=fun y σ' hb=>.of fun S=>by
     simp only[opC,hop,gI,hb,Option.map_some]
    unfold blt at h
    split at h
    ·rename_i x
     split at h
     ·rename_i t ht
      split at h
      ·rename_i n hn
       cases h
       obtain⟨v,l,e,h1,h2⟩:=hrs.eO
       rw[h2.gK] at e
       refine⟨_,step _ σ ?_,by unfold Rl;rfl⟩
       rw[e]
       simp only[ng,ht,Option.bind_some,anx hn h1 hi,Option.map_some]
      ·cases h
     ·cases h
    ·rename_i x y
     split at h
     ·rename_i t u ht hu
      obtain⟨v,l,e,h1,h2⟩:=hrs.eO
      obtain⟨w,l',e',h3,h4⟩:=h2.eO
      subst e'
      rw[h4.gK] at e
      have e0:(o.dst.map fun t=>(fr.d,t))=o.dst.map fun t=>(1,t):=by rw[hi.d]
      have fin:Dh E u=true→∀z σ',iW E.P om false σ aC (o.dst.map fun t=>(1,t)) t v w=some (z,σ')→lF E fr σ aC o z σ':=fun hss z σ' hz=>step z σ' (by
       rw[e,e0]
       unfold Dh at hss
       simp only[ng,ht,hu,Option.bind_some,hi.om,bS]
       split at hss
       ·rename_i hu';rw[hu'];simp only[hz,Option.bind_some]
       ·rename_i hu';rw[hu'];simp only[hz,Option.bind_some]
       ·cases hss)
      cases Hy:om
      ·rw[Hy] at h fin
       have h':GR E R o.dst t u x y st=some r:=h
       have hss:Dh E u=true:=by
        unfold GR at h'
        split at h'
        ·split at h'
         ·exact(d9 h').1
         ·cases h'
        ·cases h'
       exact anw hR (loc:=o.dst.map fun t=>(1,t)) h' h1 h3 hi (fin hss)
      ·rw[Hy] at h fin
       have h':GU E R o.dst t u x y st=some r:=h
       have hss:Dh E u=true:=by
        unfold GU at h'
        split at h'
        ·split at h'
         ·exact(d9 h').1
         ·cases h'
        ·cases h'
       exact anJ hR h' h1 h3 hi rfl (fin hss)
     ·cases h
    ·rename_i x l
     split at h
     ·rename_i v hv
      cases h
      obtain⟨y,ys,e,h1,h2⟩:=hrs.eO
      obtain⟨w,hw,hr⟩:=VH false hv h1 h2
      refine⟨w,step w σ ?_,hr⟩
      rw[e]
      simp only[ng,hw,Option.map_some]
     ·cases h
    ·rename_i x l
     split at h
     ·rename_i v hv
      cases h
      obtain⟨y,ys,e,h1,h2⟩:=hrs.eO
      obtain⟨w,hw,hr⟩:=VH true hv h1 h2
      refine⟨w,step w σ ?_,hr⟩
      rw[e]
      simp only[ng,hw,Option.map_some]
     ·cases h
    ·cases h
   ·cases h
  ·rename_i f gI
   split at h
   ·rename_i f' a' b' vs hf hvs
    cases himp:E.imp f' with
    |true=>rw[himp] at h;cases h
    |false=>
     rw[himp,cond_false] at h
     obtain⟨va,vb,h1,h2,h3⟩:=(bH (E:=E) hi hg hf).oq
     exact acW hR hF hop gI h1 himp ((h2.append (xZ (E:=E) hi hg hvs)).append h3) hi (fun _ hx=>hx) h
   ·cases h
  ·cases h
 ·cases h
theorem uI {om:Bool} {F:Nat→List (FR R)} (hF:aO E F) (bS:ρ.om=om) {g:List (Nat×Bool)} (hg:ow fr g) (hi:aJ ρ aC st fr σ) {r:dX R} (h:uE E R om F g o.dst o.op st=some r):rE E st ρ aC fr σ o r:=by
 unfold uE at h
 split at h
 ·rename_i r' hx;cases h;exact an7 hR hg hi hx
 ·exact aoi hR hF bS hg hi h
end
end Aq
end
section
namespace Aq
open Go
set_option linter.unusedSectionVars false
set_option linter.unusedVariables false
section
variable {R:jB} {E:Env}
variable {ρ:aS} {b aC:Nat} {st:MS R.T} {fr:Fr} {σ:ah} {o:Oper}
theorem aok {j:Nat} {t:Bool} (h:bO [] st (.tmp j)=some (.bool t)):look st.fr j=some (.bool t):=by
 unfold bO at h
 dsimp only at h
 split at h
 ·rename_i v hv
  cases v<;>first| (cases h;exact hv)| (simp[MB,look] at h;done)
 ·cases h
variable (hR:oh R)
include hR
omit hR in
theorem ade {β:Type} {top:Nat→Nat} {x z:TV R.T} {v zv:V} {k:TV R.T→Bool→Option β} {res:β} (hx:Rl R ρ top x v) (hz:Rl R ρ top z zv):∀{ks vs:List (TV R.T)} {kl vl:List V},M0 x ks vs z k=some res→aB R ρ top ks kl→aB R ρ top vs vl→
 ∃y b w r,Rl R ρ top y w∧nO v kl vl=some r∧((r=none→w=zv∧b=false)∧∀u,r=some u→w=u∧b=true)∧k y b=some res
 | [],[],kl,vl,h,h1,h2=>by
   rw[h1.gK,h2.gK]
   exact⟨z,false,zv,none,hz,rfl,⟨fun _=>⟨rfl,rfl⟩,fun u h=>by cases h⟩,h⟩
 | [],_::_,_,_,h,_,_=>by cases h
 |_::_,[],_,_,h,_,_=>by cases h
 |a::ks,b::vs,kl,vl,h,h1,h2=>by
  obtain⟨k0,k',rfl,g1,g2⟩:=h1.eO
  obtain⟨l0,l',rfl,g3,g4⟩:=h2.eO
  unfold M0 at h
  split at h
  ·rename_i c hc
   have he:=ac5 hc hx g1
   cases c with
   |true=>exact⟨b,true,l0,some l0,g3,by simp[nO,he],⟨fun h=>(by cases h),fun u h=>by cases h;exact⟨rfl,rfl⟩⟩,h⟩
   |false=>
    obtain⟨y,bb,w,r,e1,e2,e3,e4⟩:=ade hx hz h g2 g4
    exact⟨y,bb,w,r,e1,by simp[nO,he,e2],e3,e4⟩
  ·cases h
theorem V5 {om:Bool} {β:Type} {F:Nat→List (FR R)} (hF:aO E F) (bS:ρ.om=om) (hi:aJ ρ aC st fr σ) {k:MS R.T→Option β} {x:β} (h:runM E R om F o st k=some x) {G:Prop} {rest:Fr→ah→Prop}
 (hs:∀y σ',lF E fr σ aC o y σ'→rest (fr.put o.dst y) σ'→G) (hk:∀ρ' st' y σ',aJ ρ' (aC+1) st' (fr.put o.dst y) σ'→σ'.next=σ.next→(∀p,o.dst≠some p→bI true p st ρ σ st' ρ' σ')→k st'=some x→rest (fr.put o.dst y) σ'):G:=by
 have hi1:=hi.le (Nat.le_succ aC)
 unfold runM at h
 split at h
 ·rename_i c a' b' hop
  split at h
  ·rename_i t hc
   have hc':=(bH (E:=E) hi .nil hc).sS
   split at h
   ·rename_i v hv
    refine hs _ _ (.jo (DW hop hc')) (hk ρ _ _ σ (hi1.fG o.dst ?_) rfl (fun p _=>bI.same (by first|exact mV|rfl)) h)
    cases t
    ·exact bH (E:=E) hi .nil hv
    ·exact bH (E:=E) hi .nil hv
   ·cases h
  ·rename_i t hc
   have hc':=(bH (E:=E) hi .nil hc).qw
   split at h
   ·rename_i j
    have hj:=hc'
    rw[Cy] at hj
    split at h
    ·rename_i x' y' hx hy
     split at h
     ·rename_i v hv
      refine hs _ _ (.jo (DW hop hc')) (hk ρ _ _ σ (hi1.fG o.dst ?_) rfl (fun p _=>bI.same (by first|exact mV|rfl)) h)
      cases t
      ·exact ac4 hv (bH (E:=E) hi (.cons hj .nil) hy)
      ·exact ac3 hv (bH (E:=E) hi (.cons hj .nil) hx)
     ·cases t
      ·exact hs _ _ (.jo (DW hop hc')) (hk ρ _ _ σ ((hi1.learn hj).fG o.dst (bH (E:=E) hi (.cons hj .nil) hy)) rfl (fun p _=>bI.same (by first|exact mV|rfl)) h)
      ·exact hs _ _ (.jo (DW hop hc')) (hk ρ _ _ σ ((hi1.learn hj).fG o.dst (bH (E:=E) hi (.cons hj .nil) hx)) rfl (fun p _=>bI.same (by first|exact mV|rfl)) h)
    ·cases h
   ·cases h
  ·cases h
 ·rename_i t a y hop
  split at h
  ·rename_i τ p i off l v hst
   unfold Vg at hst
   split at hst
   ·rename_i p' τ1 i' off' v' ha hv
    split at hst
    ·rename_i τ' l0 sz hl hsz
     split at hst
     ·rename_i l1 hl1
      obtain⟨hc,hst⟩:=d9 hst
      cases hst
      obtain⟨e,e2⟩:=rz hl1;subst e;cases e2
      simp only[Bool.and_eq_true] at hc
      obtain⟨⟨⟨c1,c2⟩,c3⟩,c4⟩:=hc
      obtain⟨z,hz,h⟩:=Option.bind_eq_some_iff.1 h
      split at h
      ·rename_i y' hu
       obtain⟨s,h1,_,h2⟩:=(bH (E:=E) hi .nil ha).z8
       obtain⟨h6,h7⟩:=vX c4 (bH (E:=E) hi .nil hv)
       have hO:=hi.ob _ _ hl
       obtain⟨cs,k1,k2,k3,k4⟩:=anG hR hO h1 hz h6 (Nat.le_of_ble_eq_true c2) hu
       refine hs ay (σ.setObj (1,p) s (.cells (fK cs (i.toNat*dB R τ'+off) (fr.ev E y).cells))) (.jo (o:=o) ?_) (hk ρ _ ay _ ((hi1.set p s (x:=.arr τ' (mh l0 i y')) (a:=.cells (fK cs (i.toNat*dB R τ'+off) (fr.ev E y).cells)) ⟨k4.trans hO.1,.inr ⟨s,_,h1,nU _ _ _ _,k3⟩⟩).fG o.dst (x:=.undef) (by unfold Rl;rfl)) rfl (fun q _=>(bI.set hl rfl).congr mV) h)
       simp only[bE,hop,h2,k1,Option.bind_some]
       rw[if_pos ⟨by rw[hsz,h6.length,eF c1],k2,Ho c3 h6⟩]
      ·cases h
     ·cases hst
    ·cases hst
   ·cases hst
  ·split at h
   ·rename_i v st' hr
    rw[←hop] at hr
    obtain⟨y,σ',ρ',h1,h2,h3,h4,h5⟩:=uI hR hF bS .nil hi hr
    exact hs y σ' h1 (hk ρ' _ y σ' (h2.fG o.dst h4) h3 (fun p hp=>(h5 p hp).congr mV) h)
   ·cases h
 ·rename_i t m y ok hop
  split at h
  ·rename_i ks vs q z hsm
   unfold Vf at hsm
   split at hsm
   ·rename_i p hm
    split at hsm
    ·rename_i ks' vs' hl
     split at hsm
     ·rename_i q' kt et hq ht
      split at hsm
      ·rename_i z' hz
       obtain⟨hkey,hsm⟩:=d9 hsm
       cases hsm
       obtain⟨s,a1,a2⟩:=(bH (E:=E) hi .nil hm).vV
       obtain⟨s',k0,l0,b1,b2,b3,b4⟩:=hi.rd hl
       rw[a1] at b1;cases b1
       have hqr:=bH (E:=E) hi .nil hq
       obtain⟨zv,z1,z2⟩:=DN (ρ:=ρ) (top:=σ.top) hz
       obtain⟨v,bb,w,r,c1,c2,c3,c4⟩:=ade hqr z2 h b3 b4
       have hlk:tZ E.P σ t (fr.ev E m) (fr.ev E y) ok=some (if ok then .bJ [w,.bool bb] else w):=by
        rw[acB,ht];simp only[Option.bind_some]
        rw[if_pos (ac6 hkey hqr),a2]
        show (σ.fZ (1,p) s).bind _=_
        rw[b2];simp only[Option.bind_some,c2]
        cases r with
        |none=>simp only[z1,Option.map_some];obtain⟨e1,e2⟩:=c3.1 rfl;rw[e1,e2]
        |some u=>simp only[Option.map_some];obtain⟨e1,e2⟩:=c3.2 u rfl;rw[e1,e2]
       refine hs _ σ (.jo (o:=o) ?_) (hk ρ _ (if ok then .bJ [w,.bool bb] else w) σ (hi1.fG o.dst ?_) rfl (fun p _=>bI.same (by first|exact mV|rfl)) c4)
       ·simp only[bE,hop,hlk,Option.map_some]
       ·cases ok
        ·exact c1
        ·rw[cond_true,if_pos rfl];unfold Rl;exact⟨_,rfl,.cons' c1 (.cons' (by unfold Rl;rfl) rfl)⟩
      ·cases hsm
     ·cases hsm
    ·cases hsm
   ·cases hsm
  ·split at h
   ·rename_i v hr
    rw[←hop] at hr
    obtain⟨y,h1,h2⟩:=uI hR hF bS .nil hi hr
    exact hs y σ h1 (hk ρ _ y σ (hi1.fG o.dst h2) rfl (fun p _=>bI.same (by first|exact mV|rfl)) h)
   ·cases h
 ·split at h
  ·rename_i v hr
   obtain⟨y,h1,h2⟩:=uI hR hF bS .nil hi hr
   exact hs y σ h1 (hk ρ _ y σ (hi1.fG o.dst h2) rfl (fun p _=>bI.same (by first|exact mV|rfl)) h)
  ·rename_i c v hr
   obtain⟨hc,h⟩:=d9 h
   obtain⟨y,h1,h2⟩:=uI hR hF bS .nil hi hr hc
   exact hs y σ h1 (hk ρ _ y σ (hi1.fG o.dst h2) rfl (fun p _=>bI.same (by first|exact mV|rfl)) h)
  ·rename_i v st' hr
   obtain⟨y,σ',ρ',h1,h2,h3,h4,h5⟩:=uI hR hF bS .nil hi hr
   exact hs y σ' h1 (hk ρ' _ y σ' (h2.fG o.dst h4) h3 (fun p hp=>(h5 p hp).congr mV) h)
  ·rename_i c v st' hr
   obtain⟨hc,h⟩:=d9 h
   obtain⟨y,σ',ρ',h1,h2,h3,h4,h5⟩:=uI hR hF bS .nil hi hr hc
   exact hs y σ' h1 (hk ρ' _ y σ' (h2.fG o.dst h4) h3 (fun p hp=>(h5 p hp).congr mV) h)
  ·rename_i α z q f hr
   obtain⟨a,ha,h⟩:=Option.bind_eq_some_iff.1 h
   obtain⟨y,h1,h2⟩:=uI hR hF bS .nil hi hr a ha
   exact hs y σ h1 (hk ρ _ y σ (hi1.fG o.dst h2) rfl (fun p _=>bI.same (by first|exact mV|rfl)) h)
  ·cases h
omit hR in
theorem DX (hi:aJ ρ b st fr σ):∀(n j:Nat) (w c:Bool) (g:List (Nat×Bool)),mQ st n j w=some (c,g)→(c=true→fr.tm j= .bool w∧ow fr g)∧(c=false→fr.tm j= .bool (!w)∨fr.tm j=ay)∧(g=[(j,w)]→c=false→fr.tm j= .bool (!w))
 |0,j,w,c,g,h=>by cases h
 |n+1,j,w,c,g,h=>by
  have key:∀(i:Nat) (u a:Bool) (y:TV R.T),look st.fr j=some (.opt i u y)→(∀v,Rl R ρ σ.top y v→v= .bool a)→(match mQ st n i u with
   |some (c,g)=>some (Ve c (Dm a w),(j,w)::g)
   |none=>none)=some (c,g)→(c=true→fr.tm j= .bool w∧ow fr g)∧(c=false→fr.tm j= .bool (!w)∨fr.tm j=ay)∧(g=[(j,w)]→c=false→fr.tm j= .bool (!w)):=by
   intro i u a y hl hy h
   split at h
   ·rename_i c0 g0 he
    cases h
    obtain⟨h1,h2,h3⟩:=DX hi n i u c0 g0 he
    have hr:=hi.fr _ _ hl
    have hg0:g0≠[]:=by
     rintro rfl
     cases n with
     |zero=>cases he
     |succ n=>
      unfold mQ at he
      split at he
      ·cases he
      ·split at he<;>cases he
      ·split at he<;>cases he
      ·cases he
    refine⟨fun hc=> ?_,fun hc=> ?_,fun hg=>absurd (by simpa using hg) hg0⟩
    ·cases c0 with
     |false=>cases hc
     |true=>
      obtain⟨a1,a2⟩:=h1 rfl
      have hv:=hy _ (hr.1 a1)
      have hc':Dm a w=true:=hc
      have:a=w:=by cases a<;>cases w<;>first|rfl|cases hc'
      subst this
      exact⟨hv,.cons hv a2⟩
    ·cases c0 with
     |false=>exact .inr (hr.2 (h2 rfl))
     |true=>
      obtain⟨a1,a2⟩:=h1 rfl
      have hv:=hy _ (hr.1 a1)
      have hc':Dm a w=false:=hc
      have:a= !w:=by cases a<;>cases w<;>first|rfl|cases hc'
      subst this
      exact .inl hv
   ·cases h
  unfold mQ at h
  split at h
  ·rename_i a hl
   cases h
   have hv:=(show Rl R ρ σ.top (.bool a) (fr.tm j) from hi.fr _ _ hl).qw
   refine⟨fun hc=> ?_,fun hc=>.inl ?_,fun _ hc=> ?_⟩
   ·have:a=w:=by cases a<;>cases w<;>first|rfl|cases hc
    subst this;exact⟨hv,.cons hv .nil⟩
   ·have:a= !w:=by cases a<;>cases w<;>first|rfl|cases hc
    subst this;exact hv
   ·have:a= !w:=by cases a<;>cases w<;>first|rfl|cases hc
    subst this;exact hv
  ·rename_i i u a hl;exact key i u a _ hl (fun v hv=>hv.qw) h
  ·rename_i i u a hl;exact key i u a _ hl (fun v hv=>hv.sS) h
  ·cases h
omit hR in
theorem adf {all:List Oper} (hi:aJ ρ b st fr σ):match MZ all st o with
 |.run=>dZ all fr o=some true
 |.skip=>dZ all fr o=some false
 |.dyn j w c g=>(∃n,mQ st n j w=some (c,g))∧dZ all fr o=some c
 |.no=>True:=by
 unfold MZ dZ
 cases hg:o.guard with
 |none=>rfl
 |some p=>
  obtain⟨j,w⟩:=p
  dsimp only
  cases hj:all[j]? with
  |none=>rfl
  |some p=>
   simp only[Option.bind_some]
   cases hd:p.dst with
   |none=>rfl
   |some t=>
    dsimp only
    have dyn:∀c g,mQ st 12 t w=some (c,g)→(match fr.tm t with
     |.bool b=>some (b==w)
     |.raw _=>none
     |_=>some false)=some c:=by
     intro c g he
     obtain⟨h1,h2,_⟩:=DX hi 12 t w c g he
     cases c with
     |true=>rw[(h1 rfl).1];simp
     |false=>
      rcases h2 rfl with h2|h2
      ·rw[h2];cases w<;>rfl
      ·rw[h2];rfl
    cases hl:look st.fr t with
    |none=>
     dsimp only
     cases he:mQ st 12 t w with
     |none=>trivial
     |some q=>exact⟨⟨12,he⟩,dyn _ _ he⟩
    |some v=>
     have hr:=hi.fr _ _ hl
     cases v with
     |iM c=>
      have:=(show Rl R ρ σ.top (.iM c) (fr.tm t) from hr).sS
      rw[this]
      cases c<;>cases w<;>rfl
     |undef=>
      have:=(show Rl R ρ σ.top .undef (fr.tm t) from hr).abF
      rw[this];rfl
     |_=>
      dsimp only
      cases he:mQ st 12 t w with
      |none=>trivial
      |some q=>exact⟨⟨12,he⟩,dyn _ _ he⟩
omit hR in
theorem V6 (hi:aJ ρ b st fr σ):∀{g:List (Nat×Bool)},ow fr g→(∀j u,(j,u)∈g→fr.tm j= .bool u)→aJ ρ b (st.ru g) fr σ∧(st.ru g).ob=st.ob
 | [],_,_=>⟨hi,rfl⟩
 | (j,w)::g,hg,hm=>by
   obtain⟨h1,h2⟩:=V6 hi (g:=g) (fun i u h=>by
    exact hm i u (by
     have:∀g:List (Nat×Bool),look g i=some u→(i,u)∈g:=by
      intro g
      induction g with
      |nil=>intro h;cases h
      |cons p g ih=>
       intro h
       obtain⟨k,v⟩:=p
       by_cases e:i=k
       ·subst e;rw[mU] at h;cases h;simp
       ·rw[jR _ _ e] at h;simp[ih h]
     exact List.mem_cons_of_mem _ (this g h))) (fun i u h=>hm i u (by simp[h]))
   exact⟨h1.learn (hm j w (by simp)),h2⟩
omit hR in
theorem V7 (hi:aJ ρ b st fr σ):∀(n j:Nat) (w:Bool) (g:List (Nat×Bool)),mQ st n j w=some (true,g)→∀i u,(i,u)∈g→fr.tm i= .bool u
 |0,j,w,g,h=>by cases h
 |n+1,j,w,g,h=>by
  have hj:=((DX hi (n+1) j w true g h).1 rfl).1
  unfold mQ at h
  split at h
  ·simp only[Option.some.injEq,Prod.mk.injEq] at h
   obtain⟨_,rfl⟩:=h
   intro i u hm;simp at hm;obtain⟨rfl,rfl⟩:=hm;exact hj
  all_goals first
   | (split at h
      ·rename_i c0 g0 he
       simp only[Option.some.injEq,Prod.mk.injEq] at h
       obtain⟨hc,rfl⟩:=h
       cases c0 with
       |false=>cases hc
       |true=>
        intro i u hm
        rcases List.mem_cons.1 hm with hm|hm
        ·cases hm;exact hj
        ·exact V7 hi n _ _ g0 he i u hm
      ·cases h)
   |cases h
omit hR in
theorem adg (hi:aJ ρ b st fr σ) {n j:Nat} {w:Bool} {g:List (Nat×Bool)} (hj:mQ st n j w=some (false,g)):aJ ρ b (st.xR g) fr σ∧(st.xR g).ob=st.ob:=by
 obtain⟨_,_,e3⟩:=DX hi n j w false g hj
 rcases g with _| ⟨⟨j',w'⟩,_| ⟨p,g⟩⟩
 ·exact⟨hi,rfl⟩
 ·have hj':j'=j∧w'=w:=by
   cases n with
   |zero=>cases hj
   |succ n=>
    unfold mQ at hj
    split at hj
    ·simp only[Option.some.injEq,Prod.mk.injEq,List.cons.injEq] at hj
     exact⟨hj.2.1.1.symm,hj.2.1.2.symm⟩
    ·split at hj
     ·simp only[Option.some.injEq,Prod.mk.injEq,List.cons.injEq] at hj
      exact⟨hj.2.1.1.symm,hj.2.1.2.symm⟩
     ·exact absurd hj (by simp)
    ·split at hj
     ·simp only[Option.some.injEq,Prod.mk.injEq,List.cons.injEq] at hj
      exact⟨hj.2.1.1.symm,hj.2.1.2.symm⟩
     ·exact absurd hj (by simp)
    ·exact absurd hj (by simp)
  obtain⟨rfl,rfl⟩:=hj'
  exact⟨hi.learn (e3 rfl rfl),rfl⟩
 ·exact⟨hi,rfl⟩
theorem aol {om:Bool} {β:Type} {F:Nat→List (FR R)} (hF:aO E F) (bS:ρ.om=om) (hi:aJ ρ aC st fr σ) {j n:Nat} {w c:Bool} {g:List (Nat×Bool)} (hj:mQ st n j w=some (c,g)) {k:MS R.T→Option β} {x:β} (h:Vh E R om F o j w c g st k=some x) {G:Prop} {rest:Fr→ah→Prop}
 (hs:c=true→∀y σ',lF E fr σ aC o y σ'→rest (fr.put o.dst y) σ'→G) (hs':c=false→rest (fr.put o.dst ay) σ→G)
 (hk:∀ρ' st' y σ',aJ ρ' (aC+1) st' (fr.put o.dst y) σ'→σ'.next=σ.next→(∀p,o.dst≠some p→bI true p st ρ σ st' ρ' σ')→k st'=some x→rest (fr.put o.dst y) σ'):G:=by
 have hi1:=hi.le (Nat.le_succ aC)
 obtain⟨e1,e2,e3⟩:=DX hi n j w c g hj
 have V8:(bif c then runM E R om F o (st.ru g) k else k ((st.xR g).fG o.dst .undef))=some x→G:=by
  intro h
  cases c with
  |true=>
   obtain⟨l1,l2⟩:=V6 hi (e1 rfl).2 (V7 hi n j w g hj)
   exact V5 hR hF bS l1 h (hs rfl) (fun ρ' st' y σ' a b c d=>hk ρ' st' y σ' a b (fun p hp=>(c p hp).from l2) d)
  |false=>
   obtain⟨n1,n2⟩:=adg hi hj
   have hN:aJ ρ (aC+1) (st.xR g) fr σ∧(st.xR g).ob=st.ob:=⟨n1.le (Nat.le_succ _),n2⟩
   refine hs' rfl (hk ρ _ ay σ (hN.1.fG o.dst (by unfold Rl;rfl)) rfl (fun p _=>bI.same (mV.trans hN.2)) h)
 unfold Vh at h
 split at h
 ·rename_i d hd
  have hput:bn d (g.map (·.1))=false→∀(v:TV R.T) (y:V),(c=true→Rl R ρ σ.top v y)→(c=false→y=ay)→aJ ρ (aC+1) (st.put d (.opt j w v)) (fr.put o.dst y) σ:=by
   intro hdj v y h1 h2
   have hne:(fr.set d y).tm j=fr.tm j:=by
    refine vN _ _ ?_
    cases n with
    |zero=>cases hj
    |succ n=>
     have hmem:bn d (g.map (·.1))=false:=hdj
     have:∃g',g=(j,w)::g':=by
      unfold mQ at hj
      split at hj
      ·cases hj;exact⟨[],rfl⟩
      all_goals first
       | (split at hj
          ·simp only[Option.some.injEq,Prod.mk.injEq] at hj
           exact⟨_,hj.2.symm⟩
          ·cases hj)
       |cases hj
     obtain⟨g',rfl⟩:=this
     have h':(Nat.beq d j||bn d (g'.map (·.1)))=false:=hmem
     rw[Bool.or_eq_false_iff] at h'
     simpa using (M8 h'.1).symm
   rw[hd,xC]
   refine hi1.put d ⟨fun hc=> ?_,fun hc=> ?_⟩
   ·rw[hne] at hc
    refine h1 ?_
    cases c with
    |true=>rfl
    |false=>
     rcases e2 rfl with e|e
     ·rw[e] at hc;cases w<;>cases hc
     ·rw[e] at hc;cases hc
   ·rw[hne] at hc
    refine h2 ?_
    cases c with
    |false=>rfl
    |true=>
     rw[(e1 rfl).1] at hc
     rcases hc with hc|hc
     ·cases w<;>cases hc
     ·cases hc
  cases hdj:bn d (g.map (·.1))
  ·rw[hdj] at h
   simp only[cond_false] at h
   split at h
   ·rename_i v hr
    cases c with
    |true=>
     obtain⟨y,h1,h2⟩:=uI hR hF bS (e1 rfl).2 hi hr
     exact hs rfl y σ h1 (hk ρ _ y σ (hput hdj v y (fun _=>h2) (fun h=>by cases h)) rfl (fun p _=>bI.same rfl) h)
    |false=>exact hs' rfl (hk ρ _ ay σ (hput hdj v ay (fun h=>by cases h) (fun _=>rfl)) rfl (fun p _=>bI.same rfl) h)
   ·rename_i q v hr
    obtain⟨hq,hh⟩:=d9 h
    clear h
    cases c with
    |true=>
     obtain⟨y,h1,h2⟩:=uI hR hF bS (e1 rfl).2 hi hr hq
     exact hs rfl y σ h1 (hk ρ _ y σ (hput hdj v y (fun _=>h2) (fun h=>by cases h)) rfl (fun p _=>bI.same rfl) hh)
    |false=>exact hs' rfl (hk ρ _ ay σ (hput hdj v ay (fun h=>by cases h) (fun _=>rfl)) rfl (fun p _=>bI.same rfl) hh)
   ·rename_i α z q f hr
    obtain⟨a,ha,hh⟩:=Option.bind_eq_some_iff.1 h
    clear h
    cases c with
    |true=>
     obtain⟨y,h1,h2⟩:=uI hR hF bS (e1 rfl).2 hi hr a ha
     exact hs rfl y σ h1 (hk ρ _ y σ (hput hdj _ y (fun _=>h2) (fun h=>by cases h)) rfl (fun p _=>bI.same rfl) hh)
    |false=>exact hs' rfl (hk ρ _ ay σ (hput hdj _ ay (fun h=>by cases h) (fun _=>rfl)) rfl (fun p _=>bI.same rfl) hh)
   ·exact V8 h
  ·rw[hdj] at h
   exact V8 h
 ·exact V8 h
omit hR in
theorem Nz {ρ':aS} {st':MS R.T} {σ':ah} (h:∀p,o.dst≠some p→bI true p st ρ σ st' ρ' σ'):ρ'.om=ρ.om:=by
 cases hd:o.dst with
 |none=>exact(h 0 (by rw[hd];simp)).om
 |some d=>exact(h (d+1) (by rw[hd];simp)).om
omit hR in
theorem adh {os:List Oper} {p:Nat} (h:bn p (og (o::os))=false):o.dst≠some p∧bn p (og os)=false:=by
 unfold og at h
 split at h
 ·rename_i d hd
  have h':(Nat.beq p d||bn p (og os))=false:=h
  rw[Bool.or_eq_false_iff] at h'
  refine⟨fun e=> ?_,h'.2⟩
  rw[hd] at e;cases e;rw[Nat.beq_refl] at h';exact absurd h'.1 (by simp)
 ·rename_i hd
  refine⟨fun e=> ?_,h⟩
  rw[hd] at e;cases e
omit hR in
theorem NA (hi:aJ ρ b st fr σ) (h:sP E st o=false):Ae E fr o=false:=by
 unfold sP at h
 unfold Ae
 split at h
 ·rename_i c hc
  rw[hc]
  dsimp only
  split at h
  ·rename_i f hf
   rw[hf]
   dsimp only
   split at h
   ·rename_i g a' b' hv
    obtain⟨va,vb,h1,_,_⟩:=(bH (E:=E) hi .nil hv).oq
    unfold lX
    rw[h1]
    split at h
    ·rename_i d hd;rw[hd];exact h
    ·rename_i hd;rw[hd]
   ·cases h
  ·rename_i hne
   split
   ·rename_i f hf;exact absurd hf (hne f)
   ·rfl
 ·rename_i hne
  split
  ·rename_i c hc;exact absurd hc (hne c)
  ·rfl
theorem aom {k k':Sk} {l:List Sk} {c:TV R.T} {cs:List (TV R.T)} {p:ak R.T (k::k'::l)} (h:iq R (k::k'::l) (c::cs)=some p):
 ∃x q,pk R k c=some x∧iq R (k'::l) cs=some q∧p=(x,q):=by
 have h':(match pk R k c with
  |some x=>match iq R (k'::l) cs with
   |some p=>some (x,p)
   |none=>none
  |none=>none)=some p:=h
 cases hu:pk R k c with
 |none=>rw[hu] at h';cases h'
 |some u=>
  rw[hu] at h';dsimp only at h'
  cases hq:iq R (k'::l) cs with
  |none=>rw[hq] at h';cases h'
  |some q=>rw[hq] at h';cases h';exact⟨u,q,rfl,rfl,rfl⟩
theorem adi {F:Nat→List (FR R)} (hF:aO E F) {f:Nat} {args:List (TV R.T)} {Hz:List V} (ha:aB R ρ σ.top args Hz) (hi:aJ ρ b st fr σ):∀{l:List (FR R)} {τ:Ty} {x:Option (List (Den R.T τ))},(∀r∈l,r∈F f)→Dn R args (nE st args) l=some ⟨τ,x⟩→
 ∀y,x=some y→∃as,vH (E.vG f) σ Hz=some as∧Hz.all (fun x=>aA (er x))=true∧nC E f as (dB R τ) (y.map (aD R τ))
 | [],τ,x,_,h=>by cases h
 | ⟨as,res,G,d0,own⟩::l,τ,x,hl,h=>by
   have rest:Dn R args (nE st args) l=some ⟨τ,x⟩→∀y,x=some y→∃as,vH (E.vG f) σ Hz=some as∧Hz.all (fun x=>aA (er x))=true∧nC E f as (dB R τ) (y.map (aD R τ)):=fun h=>adi hF ha hi (fun r hr=>hl r (List.mem_cons_of_mem _ hr)) h
   unfold Dn at h
   split at h
   ·cases h
   ·rename_i as' τ' G' d' l' heq
    obtain⟨e1,e2⟩:=List.cons.inj heq
    subst e2
    cases e1
    split at h
    ·rename_i p hp
     obtain⟨hc,h⟩:=d9 h
     cases h
     simp only[Bool.and_eq_true] at hc
     obtain⟨⟨c1,c2⟩,c3⟩:=hc
     intro y hy
     have hb:=(hF f ⟨as,[.d (.slice τ)],G',d',true⟩ (hl _ (List.mem_cons_self ..)) p y hy).2 rfl τ rfl y rfl
     cases hn:jg as with
     |true=>
      obtain⟨b1,b2⟩:=hb.1 hn
      obtain⟨vs',v1,v2⟩:=Hq hR hi ha
      have Ht:=rF hR as p (nE st args) _ hn hp v1 20 σ (by have:=Nat.le_of_ble_eq_true c2;omega)
      exact⟨_,by rw[b1];unfold vH;rw[if_neg (by simp)];exact(v2 16).trans Ht,Hr hR c3 ha,b2⟩
     |false=>
      obtain⟨b1,b2⟩:=hb.2 hn
      rw[hn,Bool.false_or] at c1
      cases as with
      |nil=>cases c1
      |cons k as=>
      cases k<;>first| (cases c1;done)|skip
      cases as with
      |nil=>cases c1
      |cons k' as=>
      cases args with
      |nil=>exact absurd (show none=some p from hp) (by simp)
      |cons c args=>
      obtain⟨v,vs,rfl,h1,h2⟩:=ha.eO
      have hp0:iq R (.dK::k'::as) (zU st c::nE st args)=some p:=by simpa only[nE] using hp
      obtain⟨u,q,hu,q1,hpq⟩:=aom hR hp0
      have hc:c= .dK:=by
       have hp':(pk R .dK (zU st c)).isSome=true:=by rw[hu];rfl
       cases c<;>first|rfl|skip
       all_goals
        exfalso
        revert hp'
        unfold zU uz
        repeat' split
        all_goals (intro h;cases h)
      subst hc
      have q2:acV (bG R (.dK::k'::as) p)= .aj .nil []::bG R (k'::as) q:=by rw[hpq];rfl
      rw[h1.o8]
      obtain⟨vs',v1,v2⟩:=Hq hR hi h2
      have Ht:=rF hR (k'::as) q (nE st args) _ c1 q1 v1 20 σ (by have h9:=Nat.le_of_ble_eq_true c2;rw[nZ] at h9;omega)
      rw[q2] at b2
      refine⟨_,by rw[b1];unfold vH;rw[if_pos rfl];dsimp only;rw[v2 16,Ht];rfl, ?_,b2⟩
      have:=Hr hR c3 ha
      rw[h1.o8] at this
      exact this
    ·exact rest h
   ·rename_i heq
    obtain⟨_,e2⟩:=List.cons.inj heq
    subst e2
    exact rest h
theorem aon {β:Type} {F:Nat→List (FR R)} (hF:aO E F) (hi:aJ ρ aC st fr σ) {k:MS R.T→Option β} {x:β} (h:Vi R F o st k=some x) (hown:sP E st o=true) {all os:List Oper} {Q:Fr→ah→Prop} (hw:dZ all fr o=some true)
 (hk:∀(ρ':aS) (st':MS R.T) (y:V) (σ':ah),aJ ρ' (aC+1) st' (fr.put o.dst y) σ'→σ'.next=σ.next→(∀p,o.dst≠some p→bI true p st ρ σ st' ρ' σ')→k st'=some x→OW E all (aC+1) os (fr.put o.dst y) σ' Q):OW E all aC (o::os) fr σ Q:=by
 unfold Vi at h
 split at h
 ·rename_i c d ho hd
  split at h
  ·rename_i f gI
   split at h
   ·rename_i g a' b' vs hf hvs
    split at h
    ·rename_i τ xo hfo
     obtain⟨l,hl,h⟩:=Option.bind_eq_some_iff.1 h
     obtain⟨va,vb,h1,h2,h3⟩:=(bH (E:=E) hi .nil hf).oq
     have hrel:=(h2.append (xZ (E:=E) hi .nil hvs)).append h3
     obtain⟨as,has,hcl,hO⟩:=adi hR hF hrel hi (fun _ hr=>hr) hfo l hl
     have hg:E.own g d=true:=by
      unfold sP at hown
      rw[ho] at hown
      dsimp only at hown
      rw[gI] at hown
      dsimp only at hown
      rw[hf] at hown
      dsimp only at hown
      rw[hd] at hown
      exact hown
     have hdp:∀y:V,fr.put o.dst y=fr.set d y:=fun y=>by rw[hd];rfl
     refine OW.own hw ho gI h1 hd hg has hO hcl (fun cp hcp=> ?_) ?_
     ·refine hk (ρ.jd d aC) _ _ σ ?_ rfl ?_ h
      ·have e:σ.cO aC (σ.top aC)=σ:=by
        unfold ah.cO
        have:upd σ.top aC (σ.top aC)=σ.top:=by
         funext j;unfold upd;split
         ·rename_i e;rw[e]
         ·rfl
        rw[this]
       have:=hi.wk d aC (σ.top aC) (Nat.le_succ _) (Nat.lt_succ_self _) (fun u _ hu=>by have:=hi.lt u _ hu;omega)
       rw[e] at this
       rw[hdp]
       refine this.put d (.of ?_)
       unfold Rl
       exact⟨cp,rfl,by rcases hcp with rfl|rfl;exact .inl rfl;exact .inr (.inl rfl)⟩
      ·intro p hp
       have e:σ.cO aC (σ.top aC)=σ:=by
        unfold ah.cO
        have:upd σ.top aC (σ.top aC)=σ.top:=by
         funext j;unfold upd;split
         ·rename_i e;rw[e]
         ·rfl
        rw[this]
       have:=(bI.wk (nr:=true) (p:=p) (t:=d) (s:=aC) (n:=σ.top aC) (ρ:=ρ) (st:=st) (σ:=σ))
       rw[e] at this
       exact this.congr rfl
     ·refine hk (ρ.jd d aC) _ _ _ ?_ rfl ?_ h
      ·rw[hdp]
       have:=hi.wk d aC (l.map (aD R τ)).length (Nat.le_succ _) (Nat.lt_succ_self _) (fun u _ hu=>by have:=hi.lt u _ hu;omega)
       refine this.put d (.of ?_)
       unfold Rl
       exact⟨_,rfl,.inr (.inr ⟨aC,rfl,by simp[aS.jd,upd],by rw[Gx,List.length_map]⟩)⟩
      ·intro p hp
       exact(bI.wk (nr:=true) (p:=p)).congr rfl
    ·cases h
   ·cases h
  ·cases h
 ·cases h
theorem HV {om:Bool} {β:Type} {F:Nat→List (FR R)} (hF:aO E F) {all:List Oper} {k:MS R.T→Option β} {x:β} {Q:Fr→ah→Prop}:∀(os:List Oper) (aC:Nat) (ρ:aS) (st:MS R.T) (fr:Fr) (σ:ah),ρ.om=om→aJ ρ aC st fr σ→xS E R om F all os st k=some x→
 (∀ρ' st' fr' σ',aJ ρ' (aC+os.length) st' fr' σ'→σ'.next=σ.next→Kp true (og os) st fr σ ρ st' fr' σ' ρ'→k st'=some x→Q fr' σ')→OW E all aC os fr σ Q
 | [],aC,ρ,st,fr,σ,bS,hi,h,hq=>OW.nil (hq ρ st fr σ hi rfl .refl h)
 |o::os,aC,ρ,st,fr,σ,bS,hi,h,hq=>by
  have hg:=adf (o:=o) (all:=all) hi
  unfold xS at h
  have hW:∀p,bn p (og (o::os))=false→o.dst≠some p∧bn p (og os)=false:=fun p hp=>adh hp
  have hq':∀(ρ1:aS) (st1:MS R.T) (y:V) (σ1:ah),(∀p,o.dst≠some p→bI true p st ρ σ st1 ρ1 σ1)→σ1.next=σ.next→∀ρ' st' fr' σ',aJ ρ' (aC+1+os.length) st' fr' σ'→σ'.next=σ1.next→Kp true (og os) st1 (fr.put o.dst y) σ1 ρ1 st' fr' σ' ρ'→k st'=some x→Q fr' σ':=fun ρ1 st1 y σ1 hkp h1 ρ' st' fr' σ' hi' hn uJ hk=>
   hq ρ' st' fr' σ' (by rw[List.length_cons,Nat.add_comm os.length,←Nat.add_assoc];exact hi') (hn.trans h1) ((Kp.op (fun p hp=>(hW p hp).1) hkp).trans (uJ.mono fun p hp=>(hW p hp).2)) hk
  split at h
  ·rename_i hgm
   rw[hgm] at hg
   cases hown:sP E st o with
   |true=>
    rw[hown,cond_true] at h
    exact aon hR hF hi h hown hg (fun ρ' st' y σ' hi' hn hkp hk=>HV hF os (aC+1) ρ' st' _ σ' ((Nz hkp).trans bS) hi' hk (hq' ρ' st' y σ' hkp hn))
   |false=>
   rw[hown,cond_false] at h
   have gU:=NA hi hown
   exact V5 hR hF bS hi h (rest:=fun fr' σ'=>OW E all (aC+1) os fr' σ' Q) (fun y σ' hst hr=>hst.1 gU all os Q hg hr) (fun ρ' st' y σ' hi' hn hkp hk=>HV hF os (aC+1) ρ' st' _ σ' ((Nz hkp).trans bS) hi' hk (hq' ρ' st' y σ' hkp hn))
  ·rename_i hgm
   rw[hgm] at hg
   refine OW.skip hg (HV hF os (aC+1) ρ _ _ σ bS ?_ h (hq' ρ _ ay σ (fun p _=>bI.same (by first|exact mV|rfl)) rfl))
   exact(hi.le (Nat.le_succ _)).fG o.dst (by unfold Rl;rfl)
  ·rename_i j w c g hgm
   rw[hgm] at hg
   obtain⟨⟨n,hn⟩,hg2⟩:=hg
   cases hown:(sP E st o||sP E (st.ru g) o) with
   |true=>rw[hown] at h;cases h
   |false=>
   rw[hown,cond_false] at h
   rw[Bool.or_eq_false_iff] at hown
   have gU:=NA hi hown.1
   exact aol hR hF bS hi hn h (rest:=fun fr' σ'=>OW E all (aC+1) os fr' σ' Q) (fun e y σ' hst hr=>hst.1 gU all os Q (by rw[hg2,e]) hr) (fun e hr=>OW.skip (by rw[hg2,e]) hr)
    (fun ρ' st' y σ' hi' hn hkp hk=>HV hF os (aC+1) ρ' st' _ σ' ((Nz hkp).trans bS) hi' hk (hq' ρ' st' y σ' hkp hn))
  ·cases h
omit hR in
theorem aoo {top:Nat→Nat} {x:TV R.T} {v:V} (hg:x≠ .gone) (hv:∀o t,x≠ .vw o t) (h:Rl R ρ top x v):dM v=abE x:=by
 cases x with
 |gone=>exact absurd rfl hg
 |opt j w y=>exact h.abG.elim
 |agg cs=>obtain⟨l,rfl,_⟩:=h.kD;rfl
 |bJ cs=>obtain⟨l,rfl,_⟩:=h.M5;rfl
 |aj c t l=>obtain⟨l,rfl,_⟩:=h.kQ;rfl
 |ref p off=>obtain⟨s,_,rfl⟩:=h.oo;rfl
 |cK p=>obtain⟨s,_,rfl⟩:=h.vV;rfl
 |aM l p=>obtain⟨s,rfl,_⟩:=h.uH;rfl
 |fn f a b=>obtain⟨a',b',rfl,_⟩:=h.oq;rfl
 |vw o t=>exact absurd rfl (hv o t)
 |kZ p t i off=>obtain⟨s,_,_,rfl⟩:=h.z8;rfl
 |sv p off k n lo hi=>obtain⟨s,_,_,rfl⟩:=h.xW;rfl
 |sel p off k n i m=>obtain⟨s,_,_,_,rfl⟩:=h.G9;rfl
 |qW k n y i=>obtain⟨_,_,rfl⟩:=h.M6;rfl
 |_=>unfold Rl at h;subst h;rfl
omit hR in
theorem adj {x:TV R.T} (h:Dr x=true):x≠ .gone∧∀o t,x≠ .vw o t:=⟨(by rintro rfl;cases h),(by rintro o t rfl;cases h)⟩
omit hR in
theorem lG (hi:aJ ρ b st fr σ) {x:Operand} {v:TV R.T} (h:bO [] st x=some v) (hg:Dr v=true):vU st x=dM (fr.ev E x):=by
 unfold vU
 rw[h]
 exact(aoo (adj hg).1 (adj hg).2 (bH hi .nil h)).symm
omit hR in
theorem adk (hi:aJ ρ b st fr σ):∀{l:List Operand} {vs:List (TV R.T)},nD [] st l=some vs→vs.all Dr=true→l.flatMap (fun x=>vU st x)=l.flatMap fun x=>dM (fr.ev E x)
 | [],vs,h,_=>rfl
 |x::l,vs,h,hg=>by
  unfold nD at h
  cases h1:bO [] st x with
  |none=>simp only[h1] at h;cases h
  |some a=>
   cases h2:nD [] st l with
   |none=>simp only[h1,h2] at h;cases h
   |some as=>
    simp only[h1,h2] at h;cases h
    rw[List.all_cons,Bool.and_eq_true] at hg
    rw[List.flatMap_cons,List.flatMap_cons,lG (E:=E) hi h1 hg.1,adk hi h2 hg.2]
omit hR in
theorem aop {om:Bool} {β:Type} {F:Nat→List (FR R)} {k:MS R.T→Option β} {x:β} (h:runM E R om F o st k=some x) (hp:∀c a b,o.op≠ .pick c a b) (hl:∀t m y ok,o.op≠ .lookup t m y ok) (hst:∀t a y,o.op≠ .store t a y):∃r,uE E R om F [] o.dst o.op st=some r:=by
 unfold runM at h
 split at h
 ·rename_i c a b hop;exact absurd hop (hp _ _ _)
 ·rename_i t a y hop;exact absurd hop (hst _ _ _)
 ·rename_i t m y ok hop;exact absurd hop (hl _ _ _ _)
 ·cases hr:uE E R om F [] o.dst o.op st with
  |some r=>exact⟨r,rfl⟩
  |none=>rw[hr] at h;cases h
omit hR in
theorem wo {om:Bool} {F:Nat→List (FR R)} {g:List (Nat×Bool)} {d:Option Nat} {op:Op} {r:dX R} (h:uE E R om F g d op st=some r):o7 E R g d op st=some r∨qp E R om F g d op st=some r:=by
 unfold uE at h
 split at h
 ·rename_i r' hx;cases h;exact .inl hx
 ·exact .inr h
omit hR in
theorem adl {top:Nat→Nat}:∀{x:List (TV R.T)} {v:List V},M4 x=true→aB R ρ top x v→v.all (fun a=>aA (er a))=false
 | [],_,h,_=>by cases h
 |x::l,v,h,hr=>by
  obtain⟨y,ys,rfl,h1,h2⟩:=hr.eO
  rw[List.all_cons]
  by_cases e:∃o off k n lo hi,x= .sv o off k n lo hi
  ·obtain⟨o,off,k,n,lo,hi,rfl⟩:=e
   obtain⟨s,_,_,rfl⟩:=h1.xW
   simp[er,aA]
  ·have h':M4 l=true:=by
    cases x<;>first|exact h|exact absurd ⟨_,_,_,_,_,_,rfl⟩ e
   rw[adl h' h2,Bool.and_false]
theorem aoq {om:Bool} {β:Type} {F:Nat→List (FR R)} (bS:ρ.om=om) (hi:aJ ρ b st fr σ) {k:MS R.T→Option β} {x:β} (h:runM E R om F o st k=some x) (hd:xV E st o=true):Vj E om st o=dG E fr o:=by
 unfold Vj dG
 have hop:=aop h
 cases ho:o.op<;>rw[ho] at hop<;>dsimp only
 case load t a=>
  obtain⟨r,hr⟩:=hop (by simp) (by simp) (by simp)
  rcases wo hr with hr|hr
  ·unfold o7 at hr;dsimp only at hr
   split at hr
   ·rename_i gl _
    split at hr
    ·rename_i k n v hg
     obtain⟨cs,_,g1,_⟩:=VY hg
     have e1:vU st (Operand.global gl)=[]:=rfl
     have e2:dM (fr.ev E (.global gl))=[]:=by rw[V4 hR g1];rfl
     rw[e1,e2]
    ·cases hr
   ·split at hr
    ·rename_i hv;rw[lG (E:=E) hi hv rfl]
    ·rename_i hv;rw[lG (E:=E) hi hv rfl]
    ·rename_i hv;rw[lG (E:=E) hi hv rfl]
    ·cases hr
  unfold qp at hr;dsimp only at hr
  split at hr
  ·rename_i hv;rw[lG (E:=E) hi hv rfl]
  ·rename_i hv;rw[lG (E:=E) hi hv rfl]
  ·rename_i hv;rw[lG (E:=E) hi hv rfl]
  ·cases hr
 case store t a y=>
  have h':=h
  unfold runM at h'
  rw[ho] at h'
  dsimp only at h'
  split at h'
  ·rename_i hst
   unfold Vg at hst
   split at hst
   ·rename_i hv _;rw[lG (E:=E) hi hv rfl]
   ·cases hst
  ·split at h'
   ·rename_i hr
    rcases wo hr with hr|hr
    ·unfold o7 at hr;dsimp only at hr
     split at hr
     ·rename_i hv _;rw[lG (E:=E) hi hv rfl]
     ·rename_i hv _;rw[lG (E:=E) hi hv rfl]
     ·cases hr
    unfold qp at hr;dsimp only at hr
    split at hr
    ·rename_i hv _;rw[lG (E:=E) hi hv rfl]
    ·cases hr
   ·cases h'
 case convert a b' y=>
  obtain⟨r,hr⟩:=hop (by simp) (by simp) (by simp)
  rcases wo hr with hr|hr
  ·unfold o7 at hr;dsimp only at hr
   split at hr
   ·rename_i hv;rw[lG (E:=E) hi hv rfl]
   ·cases hr
  unfold qp at hr;dsimp only at hr
  split at hr
  ·rename_i v hv
   rw[lG (E:=E) hi hv (by
    unfold ML at hr
    split at hr<;>first|rfl|cases hr)]
  ·cases hr
 case slice t y lo hi' mx=>
  obtain⟨r,hr⟩:=hop (by simp) (by simp) (by simp)
  cases mx with
  |some m=>
   rcases wo hr with hr|hr
   ·cases hi' with
    |none=>unfold o7 at hr;cases hr
    |some h1=>
     unfold o7 at hr
     dsimp only at hr
     split at hr
     ·rename_i hv _ _ _;rw[lG (E:=E) hi hv rfl]
     ·cases hr
   ·unfold qp at hr;cases hr
  |none=>
   rcases wo hr with hr|hr
   ·unfold o7 at hr;dsimp only at hr
    split at hr
    ·rename_i v hv
     have key:∀lo hi,xQ E R t v lo hi st=some r→Dr v=true:=by
      intro lo hi hs
      unfold xQ at hs
      split at hs<;>first|rfl|cases hs
     rw[lG (E:=E) hi hv (by
      split at hr
      ·exact key _ _ hr
      ·split at hr
       ·exact key _ _ hr
       ·cases hr
      ·split at hr
       ·exact key _ _ hr
       ·cases hr
      ·split at hr
       ·exact key _ _ hr
       ·cases hr)]
    ·cases hr
   unfold qp at hr;dsimp only at hr
   split at hr
   ·rename_i v hv
    have key:∀lo hi,xM E R t v lo hi=some r→Dr v=true:=by
     intro lo hi hs
     unfold xM at hs
     split at hs
     ·split at hs<;>first|rfl|cases hs
     ·cases hs
    rw[lG (E:=E) hi hv (by
     split at hr
     ·exact key _ _ hr
     ·split at hr
      ·exact key _ _ hr
      ·cases hr
     ·split at hr
      ·exact key _ _ hr
      ·cases hr
     ·split at hr
      ·exact key _ _ hr
      ·cases hr)]
   ·cases hr
 case lookup t m y ok=>
  have h':=h
  unfold runM at h'
  rw[ho] at h'
  dsimp only at h'
  split at h'
  ·rename_i hsm
   unfold Vf at hsm
   split at hsm
   ·rename_i hv;rw[lG (E:=E) hi hv rfl]
   ·cases hsm
  ·split at h'
   ·rename_i hr
    rcases wo hr with hr|hr
    ·unfold o7 at hr;cases hr
    unfold qp at hr;dsimp only at hr
    split at hr
    ·rename_i hv _
     rw[lG (E:=E) hi hv (by
      unfold MN at hr
      split at hr<;>first|rfl|cases hr)]
    ·cases hr
   ·cases h'
 case mapUpdate t m k' v=>
  obtain⟨r,hr⟩:=hop (by simp) (by simp) (by simp)
  rcases wo hr with hr|hr
  ·unfold o7 at hr;cases hr
  unfold qp at hr;dsimp only at hr
  split at hr
  ·rename_i hv _ _
   rw[lG (E:=E) hi hv (by
    unfold Dc at hr
    split at hr<;>first|rfl|cases hr)]
  ·cases hr
 case insert t m k' v=>
  obtain⟨r,hr⟩:=hop (by simp) (by simp) (by simp)
  rcases wo hr with hr|hr
  ·unfold o7 at hr;cases hr
  unfold qp at hr;dsimp only at hr
  split at hr
  ·rename_i hv _ _
   rw[lG (E:=E) hi hv (by
    unfold Dc at hr
    split at hr<;>first|rfl|cases hr)]
  ·cases hr
 case alloc t=>unfold Dp fu;rw[hi.d];rfl
 case box t y=>unfold Dp fu;rw[hi.d];rfl
 case makeMap t y=>unfold Dp fu;rw[hi.d];rfl
 case makeSlice t y z=>unfold Dp fu;rw[hi.d];rfl
 case call c=>
  obtain⟨r,hr⟩:=hop (by simp) (by simp) (by simp)
  unfold xV at hd;rw[Bool.and_eq_true,Bool.not_eq_true'] at hd
  obtain⟨hown,hd⟩:=hd
  rw[ho] at hd;dsimp only at hd
  cases hc:c.callee with
  |invoke y m=>rfl
  |builtin bi=>
   rw[hc] at hd;dsimp only at hd
   split at hd
   ·rename_i vs hvs
    have:=adk (E:=E) hi hvs hd
    cases bi<;>dsimp only<;>(try rw[this])<;>(try rfl)
    rw[hi.om,bS];cases om<;>rfl
   ·cases hd
  |value f=>
   rcases wo hr with hr|hr
   ·unfold o7 at hr;dsimp only at hr;rw[hc] at hr;cases hr
   unfold qp at hr;dsimp only at hr
   rw[hc] at hd hr;dsimp only at hd hr
   split at hd
   ·rename_i f' a' b' vs hf hvs
    simp only[hf,hvs] at hr
    cases himp:E.imp f' with
    |true=>rw[himp] at hr;cases hr
    |false=>
     obtain⟨va,vb,h1,h2,h3⟩:=(bH (E:=E) hi .nil hf).oq
     dsimp only;rw[hf,h1];dsimp only
     have gU:lX E fr o f=false:=by
      have:=NA hi hown
      unfold Ae at this
      rw[ho] at this;dsimp only at this
      rw[hc] at this;exact this
     simp only[himp,gU,Bool.false_eq_true,if_false]
     rw[hvs];dsimp only
     have hrel:=(h2.append (xZ (E:=E) hi .nil hvs)).append h3
     cases hcl:xK (a'++vs++b') with
     |true=>rw[Hr hR hcl hrel]
     |false=>
      rw[hcl,Bool.false_or] at hd
      rw[adl hd hrel]
   ·cases hd
theorem aor {om:Bool} {β:Type} {F:Nat→List (FR R)} (bS:ρ.om=om) (hi:aJ ρ b st fr σ) {k:MS R.T→Option β} {x:β} {all:List Oper} (h:runM E R om F o st k=some x) (hd:xV E st o=true):xU E om all st o true=dA E all fr o true:=by
 unfold xU dA
 rw[aoq hR bS hi h hd]
theorem NC {om:Bool} {β:Type} {F:Nat→List (FR R)} (hF:aO E F) {ms:List Nat} {all:List Oper} {k:MS R.T→Option β} {x:β} {Q:Fr→ah→Prop}:∀(os:List Oper) (aC:Nat) (ρ:aS) (st:MS R.T) (fr:Fr) (σ:ah) (fs:List eG),ρ.om=om→aJ ρ aC st fr σ→sQ E R om F ms all os st fs k=some x→
 (∀ρ' st' fr' σ',aJ ρ' (aC+os.length) st' fr' σ'→σ'.next=σ.next→Kp true (og os) st fr σ ρ st' fr' σ' ρ'→k st'=some x→Q fr' σ')→bL E ms all aC os fr σ fs Q
 | [],aC,ρ,st,fr,σ,fs,bS,hi,h,hq=>by
   unfold sQ at h
   obtain⟨h1,h⟩:=d9 h
   exact bL.nil h1 (hq ρ st fr σ hi rfl .refl h)
 |o::os,aC,ρ,st,fr,σ,fs,bS,hi,h,hq=>by
  have hg:=adf (o:=o) (all:=all) hi
  unfold sQ at h
  have hW:∀p,bn p (og (o::os))=false→o.dst≠some p∧bn p (og os)=false:=fun p hp=>adh hp
  have hq':∀(ρ1:aS) (st1:MS R.T) (y:V) (σ1:ah),(∀p,o.dst≠some p→bI true p st ρ σ st1 ρ1 σ1)→σ1.next=σ.next→∀ρ' st' fr' σ',aJ ρ' (aC+1+os.length) st' fr' σ'→σ'.next=σ1.next→Kp true (og os) st1 (fr.put o.dst y) σ1 ρ1 st' fr' σ' ρ'→k st'=some x→Q fr' σ':=fun ρ1 st1 y σ1 hkp h1 ρ' st' fr' σ' hi' hn uJ hk=>
   hq ρ' st' fr' σ' (by rw[List.length_cons,Nat.add_comm os.length,←Nat.add_assoc];exact hi') (hn.trans h1) ((Kp.op (fun p hp=>(hW p hp).1) hkp).trans (uJ.mono fun p hp=>(hW p hp).2)) hk
  have run:∀(st1:MS R.T),st1.ob=st.ob→aJ ρ aC st1 fr σ→dZ all fr o=some true→(bif !(xV E st1 o) then none else runM E R om F o st1 (fun st'=>sQ E R om F ms all os st' (fs++[xU E om all st1 o true]) k))=some x→bL E ms all aC (o::os) fr σ fs Q:=by
   intro st1 zG hi hg h
   have hkq:∀(st':MS R.T) (ρ':aS) (σ':ah),(∀p,o.dst≠some p→bI true p st1 ρ σ st' ρ' σ')→∀p,o.dst≠some p→bI true p st ρ σ st' ρ' σ':=fun st' ρ' σ' h p hp=>(h p hp).from zG
   cases hd:xV E st1 o
   ·rw[hd] at h;cases h
   ·rw[hd] at h
    have h':runM E R om F o st1 (fun st'=>sQ E R om F ms all os st' (fs++[xU E om all st1 o true]) k)=some x:=h
    have hf:=aor hR (all:=all) bS hi h' hd
    rw[hf] at h'
    exact V5 hR hF bS hi h' (rest:=fun fr' σ'=>bL E ms all (aC+1) os fr' σ' (fs++[dA E all fr o true]) Q) (fun y σ' hst hr=>hst.2 (NA hi (by unfold xV at hd;rw[Bool.and_eq_true,Bool.not_eq_true'] at hd;exact hd.1)) ms all os fs Q hg hr) (fun ρ' st' y σ' hi' hn hkp hk=>NC hF os (aC+1) ρ' st' _ σ' _ ((Nz hkp).trans bS) hi' hk (hq' ρ' st' y σ' (hkq st' ρ' σ' hkp) hn))
  split at h
  ·rename_i hgm
   rw[hgm] at hg
   exact run st rfl hi hg h
  ·rename_i hgm
   rw[hgm] at hg
   refine bL.skip hg (NC hF os (aC+1) ρ _ _ σ _ bS ?_ h (hq' ρ _ ay σ (fun p _=>bI.same (by first|exact mV|rfl)) rfl))
   exact(hi.le (Nat.le_succ _)).fG o.dst (by unfold Rl;rfl)
  ·rename_i j w c g hgm
   rw[hgm] at hg
   obtain⟨⟨n,hn⟩,hg2⟩:=hg
   obtain⟨e1,e2,e3⟩:=DX hi n j w c g hn
   cases c with
   |true=>
    obtain⟨l1,l2⟩:=V6 hi (e1 rfl).2 (V7 hi n j w g hn)
    exact run (st.ru g) l2 l1 hg2 h
   |false=>
    obtain⟨l1,l2⟩:=adg hi hn
    exact bL.skip hg2 (NC hF os (aC+1) ρ _ _ σ _ bS ((l1.le (Nat.le_succ _)).fG o.dst (by unfold Rl;rfl)) h (hq' ρ _ ay σ (fun p _=>bI.same (mV.trans l2)) rfl))
  ·cases h
end
end Aq
end
section
namespace Aq
open Go
section
variable {E:Env} {fr:Fr} {σ:ah}
def ah.enter (σ:ah) (fr:Fr) (ps:Array Tmp) (dV body:Code):ah:=({σ with next:=σ.next+1}:ah).fJ σ.next {st:=0,pend:=none,fr:=fr,ps:=ps.toList,dV:=dV,body:=body}
def wu (E:Env) (l:Nat) (args:List V) (σ:ah) (b:Bool) (σ':ah):Prop:=∃n,sj (bZ E n) l args σ=some (.bool b,σ')
theorem CW.range {f:Operand} {ps:Array Tmp} {dV body:Code} {g:FuncId} {a b:List V} {Q:Ex→Fr→ah→Prop} (hf:fr.ev E f= .fn (.func g) a b) (hi:E.imp g=true)
 (h:jK E g (a++[.fn (.yield σ.next) [] []]++b) (fr.d+1) (σ.enter fr ps dV body) (fun _ σ2=> ∃r,σ2.loops σ.next=some r∧r.st≠1∧Q (match r.pend with|none=>.normal|some e=>e) fr (σ2.lU σ.next))):CW E (.rangeFunc f ps dV body) fr σ Q:=by
 obtain⟨n,v,σ2,h1,r,h2,h3,h4⟩:=h
 refine⟨n,_,fr,_, ?_,h4⟩
 have h1':jC E (bZ E n) fr.d (σ.enter fr ps dV body) (.fn (.func g) a b) [.fn (.yield σ.next) [] []]=some (v,σ2):=by
  unfold jC;simp only[hi,if_true];exact h1
 unfold dU
 rw[hf]
 simp only[Tc,if_true]
 unfold ah.enter at h1'
 rw[h1']
 simp only[Option.bind_some,h2,if_neg h3]
 cases r.pend<;>rfl
theorem wu.of {l:Nat} {args:List V} {r:nN} {b:Bool} {σ':ah} (hl:σ.loops l=some r) (hst:r.st=0) (hlen:r.ps.length=args.length)
 (h:CW E r.dV {r.fr with tm:=(r.ps.zip args).foldl (fun tm (p,a)=>upd tm p a) r.fr.tm} σ (fun e bR σ1=>e= .normal∧∃r1,σ1.loops l=some r1∧r1.st=0∧
   CW E r.body bR (σ1.fJ l {r1 with st:=1}) (fun e _ σ2=> ∃r2,σ2.loops l=some r2∧r2.st=1∧match e with
    |.normal=>b=true∧σ'=σ2.fJ l {r2 with st:=0,pend:=none}
    |e=>b=false∧σ'=σ2.fJ l {r2 with st:=2,pend:=some e}))):wu E l args σ b σ':=by
 obtain⟨n,e,bR,σ1,h1,rfl,r1,hl1,hs1,m,e2,fO,σ2,h2,r2,hl2,hs2,h3⟩:=h
 have h1':(bZ E (max n m+1)).code r.dV {r.fr with tm:=(r.ps.zip args).foldl (fun tm (p,a)=>upd tm p a) r.fr.tm} σ=some (.normal,bR,σ1):=zJ (lZ (Nat.le_max_left n m)) _ _ _ _ h1
 have h2':(bZ E (max n m+1)).code r.body bR (σ1.fJ l {r1 with st:=1})=some (e2,fO,σ2):=zJ (lZ (Nat.le_max_right n m)) _ _ _ _ h2
 refine⟨max n m+1, ?_⟩
 unfold sj
 simp only[hl,Option.bind_some,hst,hlen,and_self,if_true,h1',hl1,hs1,h2',hl2,hs2]
 cases e2 with
 |normal=>obtain⟨rfl,rfl⟩:=h3;rfl
 |exit i=>obtain⟨rfl,rfl⟩:=h3;rfl
 |ret=>obtain⟨rfl,rfl⟩:=h3;rfl
theorem OW.yield {all:List Oper} {st:Nat} {o:Oper} {os:List Oper} {Q:Fr→ah→Prop} {c:Call} {f:Operand} {l:Nat} {b:Bool} {σ1:ah} (hw:dZ all fr o=some true) (ho:o.op= .call c) (gI:c.callee= .value f)
 (hf:fr.ev E f= .fn (.yield l) [] []) (hr:wu E l (c.args.toList.map (fr.ev E)) σ b σ1) (h:OW E all (st+1) os (fr.put o.dst (.bool b)) σ1 Q):OW E all st (o::os) fr σ Q:=by
 obtain⟨n,fr',σ',h1,h2⟩:=h
 obtain⟨m,hm⟩:=hr
 have hm':=aa4 (lZ (Nat.le_max_right n m)) hm
 have h1':=Gv (lZ (Nat.le_max_left n m)) _ _ _ _ _ _ h1
 refine⟨max n m,fr',σ', ?_,h2⟩
 have:jC E (bZ E (max n m)) fr.d σ (.fn (.yield l) [] []) (c.args.toList.map (fr.ev E))=some (.bool b,σ1):=by
  unfold jC;exact hm'
 have gU:lX E fr o f=false:=by unfold lX;rw[hf]
 simp only[opsE,hw,Option.bind_some,if_true,opC,ho,gI,gU,Bool.false_eq_true,if_false,hf,this,Option.map_some,h1']
structure Shift (d:Nat) (σ σ':ah):Prop where
 next:σ.next≤σ'.next
 top:∀s,s<σ.next→σ'.top s=σ.top s
 loops:∀l,l<σ.next→σ'.loops l=σ.loops l
 obj:∀a o,a≤d→σ'.obj (a,o)=σ.obj (a,o)
theorem Shift.refl {d:Nat} {σ:ah}:Shift d σ σ:=⟨Nat.le_refl _,fun _ _=>rfl,fun _ _=>rfl,fun _ _ _=>rfl⟩
theorem Shift.trans {d:Nat} {σ σ' lD:ah} (h:Shift d σ σ') (g:Shift d σ' lD):Shift d σ lD:=
 ⟨Nat.le_trans h.next g.next,fun s hs=>(g.top s (Nat.lt_of_lt_of_le hs h.next)).trans (h.top s hs),fun s hs=>(g.loops s (Nat.lt_of_lt_of_le hs h.next)).trans (h.loops s hs),fun a o ha=>(g.obj a o ha).trans (h.obj a o ha)⟩
def HY (E:Env) (f:FuncId) (a b:List V) (L:List (List V)):Prop:=∀(d l:Nat) (σ:ah) (J:List (List V)→ah→Prop) (D:ah→Prop),
 (∀xs σ σ',l<σ.next→J xs σ→Shift d σ σ'→J xs σ')→(∀σ σ',l<σ.next→D σ→Shift d σ σ'→D σ')→
 (∀x xs σ,l<σ.next→J (x::xs) σ→∃c σ',wu E l x σ c σ'∧σ.next≤σ'.next∧(∀a o,d<a→σ'.obj (a,o)=σ.obj (a,o))∧(∀s,s<σ.next→σ'.loops s=σ.loops s∨s=l)∧(c=true→J xs σ')∧(c=false→D σ'))→
 l<σ.next→J L σ→jK E f (a++[.fn (.yield l) [] []]++b) (d+1) σ fun _ σ'=>σ.next≤σ'.next∧(J [] σ'∨D σ')
end
end Aq
end
