/- Part of the proof of a law. -/
import Derived.Test.YteniejlbjfigdaaGreatDoorX11
set_option linter.all false
set_option linter.unusedSimpArgs false
set_option linter.unusedSectionVars false
section
namespace Aq
open Go
set_option linter.unusedSectionVars false
set_option linter.unusedVariables false
section
variable {R:iM} {E:Env}
variable {ρ:aO} {top:Nat→Nat} {b aB:Nat} {st:MS R.T} {fr:Fr} {σ:ah} {o:Oper}
theorem pX.val {v:Option V} {r:dO R} (hv:nu ρ σ.top v r) (ho:∀y,v=some y→bq E fr σ aB o=some (y,σ)):pX E st ρ aB fr σ o r:=by
 cases r with
 |t x=>obtain⟨y,e,hr⟩:=hv;exact⟨y,.iO (ho y e),hr⟩
 |c c x=>intro hc;obtain⟨y,e,hr⟩:=hv hc;exact⟨y,.iO (ho y e),hr⟩
 |p α d o' f=>intro a ha;obtain⟨y,e,hr⟩:=hv a ha;exact⟨y,.iO (ho y e),hr⟩
 |w x s=>exact hv.elim
 |wc c x s=>exact hv.elim
theorem pX.tt {x:TV R.T} {y:V} (ho:bq E fr σ aB o=some (y,σ)) (hr:Rl R ρ σ.top x y):pX E st ρ aB fr σ o (.t x):=⟨y,.iO ho,hr⟩
theorem Rt {x:Operand}:iI E fr (some x)=some (fr.ev E x):=rfl
theorem Yh {top:Nat→Nat} {x y v:TV R.T} {w:V} (h:Ai true x y=some v) (hx:Rl R ρ top x w):Rl R ρ top v w:=by
 unfold Ai at h
 split at h<;>try cases h
 ·split at h
  ·cases h;exact hx
  ·cases h
 all_goals first|exact hx| (unfold Rl at hx⊢;exact hx)
theorem Yi {top:Nat→Nat} {x y v:TV R.T} {w:V} (h:Ai false x y=some v) (hx:Rl R ρ top y w):Rl R ρ top v w:=by
 unfold Ai at h
 split at h<;>try cases h
 ·split at h
  ·rename_i e;subst e;cases h;exact hx
  ·cases h
 all_goals first|exact hx| (unfold Rl at hx⊢;exact hx)
theorem A8 {c a' b':Operand} {t:Bool} (hop:o.op= .pick c a' b') (hc:fr.ev E c= .bool t):bq E fr σ aB o=some (if t then fr.ev E a' else fr.ev E b',σ):=by
 simp only[bq,hop,hc,mJ,Option.map_some]
variable (hR:mX R)
include hR
theorem ah8 {t:TypeId} {m x:TV R.T} {v w:V} {ok:Bool} {r:dO R} (h:K9 E R t m x ok st=some r) (hm:Rl R ρ σ.top m v) (hx:Rl R ρ σ.top x w) (hi:aG ρ b st fr σ):nu ρ σ.top (rE E.P σ t v w ok) r:=by
 unfold K9 at h
 split at h
 ·rename_i o
  split at h
  ·rename_i k e m hl
   obtain⟨s,h1,rfl⟩:=hm.um
   obtain⟨s',h2,h3⟩:=hi.rd hl
   rw[h1] at h2;cases h2
   exact QY hR h hx h3
  ·cases h
 ·rename_i k e m
  exact QY hR h hx (by rw[hm.Av];rfl)
 ·split at h
  ·split at h
   ·unfold Rl at hm;subst hm
    exact QY hR h hx rfl
   ·cases h
  ·cases h
 ·cases h
omit hR in
theorem Yj {top:Nat→Nat} {x y:TV R.T} {v w:V} {r:Bool} (h:La x y=some r) (hx:Rl R ρ top x v) (hy:Rl R ρ top y w):kQ v w=some r:=by
 unfold La at h
 split at h
 ·rw[hx.fQ,hy.fQ];exact h
 ·cases h;rw[hx.lg,hy.lg];rfl
 ·cases h
omit hR in
theorem Yk {top:Nat→Nat} {t:TypeId} {x:TV R.T} {v:V} (h:Lb E t x=true) (hx:Rl R ρ top x v):jS E.P t v=true:=by
 unfold Lb at h
 split at h
 ·rename_i hu;rw[hx.fQ];unfold jS;rw[hu]
 ·rename_i hu;rw[hx.lg];unfold jS;rw[hu]
 ·cases h
omit hR in
theorem Yl {top:Nat→Nat} {x y:TV R.T} {v w:V} (hx:Rl R ρ top x v) (hy:Rl R ρ top y w):∀{ks vs:List (TV R.T)} {ks' vs':List (TV R.T)} {k l:List V},Lc x y ks vs=some (ks',vs')→aA R ρ top ks k→aA R ρ top vs l→
 ∃k' l',rD v w k l=some (k',l')∧aA R ρ top ks' k'∧aA R ρ top vs' l'
 | [],[],_,_,k,l,h,h1,h2=>by
   cases h
   rw[h1.fP,h2.fP]
   exact⟨_,_,rfl,.cons' hx rfl,.cons' hy rfl⟩
 | [],_::_,_,_,_,_,h,_,_=>by cases h
 |_::_,[],_,_,_,_,h,_,_=>by cases h
 |a::ks,b::vs,ks',vs',k,l,h,h1,h2=>by
  obtain⟨k0,k,rfl,g1,g2⟩:=h1.eD
  obtain⟨l0,l,rfl,g3,g4⟩:=h2.eD
  unfold Lc at h
  split at h
  ·rename_i c hc
   have he:=Yj hc hx g1
   cases c with
   |true=>cases h;exact⟨v::k,w::l,by simp[rD,he],.cons' hx g2,.cons' hy g4⟩
   |false=>
    rw[cond_false] at h
    split at h
    ·rename_i ks1 vs1 hs
     cases h
     obtain⟨k',l',e1,e2,e3⟩:=Yl hx hy hs g2 g4
     exact⟨k0::k',l0::l',by simp[rD,he,e1],.cons' g1 e2,.cons' g3 e3⟩
    ·cases h
  ·cases h
theorem Ym {t:TypeId} {m x y:TV R.T} {v w u:V} {r:dO R} (h:Ad E R t m x y st=some r) (hm:Rl R ρ σ.top m v) (hx:Rl R ρ σ.top x w) (hy:Rl R ρ σ.top y u) (hi:aG ρ aB st fr σ)
 (ho:∀σ',oo E.P σ t v w u=some σ'→bq E fr σ aB o=some (ay,σ')):pX E st ρ aB fr σ o r:=by
 unfold Ad at h
 split at h
 ·rename_i p
  split at h
  ·rename_i k e m hl
   split at h
   ·rename_i kt et ht
    obtain⟨hk,h⟩:=dQ h
    split at h
    ·rename_i a c ha hc
     cases h
     obtain⟨s,h1,rfl⟩:=hm.um
     obtain⟨s',h2,h3⟩:=hi.ob _ _ hl
     rw[h1] at h2;cases h2
     have hw:=XJ hR hk ha hx
     subst hw
     unfold WC at hc
     obtain⟨hs,hc⟩:=dQ hc
     have hu:u=aF R e c:=by
      have h4:=QJ hR hc hy
      have h5:=Ri hR y u hs hy
      have h6:=h4.2.2.1 0 σ
      rw[jE h5] at h6
      exact Option.some.inj h6
     subst hu
     have hup:oo E.P σ t (.cK (1,p) s) (aF R k a) (aF R e c)=some (σ.setObj (1,p) s (.map ((jX (eB R k) a c m).map fun q=>aF R k q.1) ((jX (eB R k) a c m).map fun q=>aF R e q.2))):=by
      unfold oo
      rw[ht];simp only[Option.bind_some]
      rw[if_pos (LG hR hk a a).2,h3]
      simp only[Option.bind_some]
      rw[XI hR hk a c m];rfl
     refine⟨ay,_,ρ,.iO (ho _ hup),(hi.le (Nat.le_succ _)).set p s ⟨s,h1,map_eq _ _ _ _ _⟩,rfl,by unfold Rl;rfl,fun q _=>bB.set hl rfl⟩
    ·cases h
   ·cases h
  ·rename_i ks vs hl
   split at h
   ·rename_i kt et ht
    obtain⟨hk,h⟩:=dQ h
    split at h
    ·rename_i ks' vs' hs
     cases h
     obtain⟨s,h1,rfl⟩:=hm.um
     obtain⟨s',k0,l0,h2,h3,h4,h5⟩:=hi.ob _ _ hl
     rw[h1] at h2;cases h2
     obtain⟨k1,l1,g1,g2,g3⟩:=Yl hx hy hs h4 h5
     have hup:oo E.P σ t (.cK (1,p) s) w u=some (σ.setObj (1,p) s (.map k1 l1)):=by
      unfold oo
      rw[ht];simp only[Option.bind_some]
      rw[if_pos (Yk hk hx),h3]
      simp only[Option.bind_some]
      rw[g1];rfl
     refine⟨ay,_,ρ,.iO (ho _ hup),(hi.le (Nat.le_succ _)).set p s ⟨s,k1,l1,h1,map_eq _ _ _ _ _,g2,g3⟩,rfl,by unfold Rl;rfl,fun q _=>bB.set hl rfl⟩
    ·cases h
   ·cases h
  ·cases h
 ·cases h
theorem Yn {d s:Nat} {cs:List (TV R.T)} {l:List V} (hi:aG ρ b st fr σ) (hc:aA R ρ σ.top cs l) (hm:kV d cs=false):aG (ρ.kC d s) b (st.new d (.cells cs)) fr (σ.setObj (1,d) s (.cells l)):=
 hi.new d s ⟨s,l,pW,qC _ _ _ _,aA.kill d AJ rfl cs l hm hc⟩
theorem Yo {d s:Nat} {ss:List Sg} (hi:aG ρ b st fr σ):aG (ρ.kC d s) b (st.new d (.sg ss)) fr (σ.setObj (1,d) s (.cells (bU ss))):=
 hi.new d s ⟨s,pW,qC _ _ _ _⟩
theorem Ru {g:Nat} {cs:List V} (h:E.glob g=some cs):fr.ev E (.global g)= .aK cs 0:=by
 show (match E.glob g with|some cs=>V.aK cs 0|none=>V.raw (Value.pointer (some ⟨g,0,none⟩)))=_
 rw[h]
theorem ah9 {g:List (Nat×Bool)} (hg:ni fr g) (hi:aG ρ aB st fr σ) {r:dO R} (h:nS E R g o.dst o.op st=some r):pX E st ρ aB fr σ o r:=by
 unfold nS at h
 split at h
 ·
  rename_i t hop
  split at h
  ·rename_i d ks cs hd hks hz
   obtain⟨hc,h⟩:=dQ h
   cases h
   obtain⟨v,hv,hr⟩:=AU (ρ:=ρ) (top:=σ.top) hz
   obtain⟨l,rfl,hl⟩:=hr.jM
   have hl2:=ah3 hc hl
   refine⟨.ref (1,d) aB 0,_,ρ.kC d aB,.iO (o:=o) ?_,Yo hR (ss:=ks.map Ld) (hi.le (Nat.le_succ _)),rfl,by unfold Rl;exact⟨aB,pW,rfl⟩,fun q hq=>bB.new (fun e=>hq (by rw[hd,e]))⟩
   simp only[bq,hop,hd,Option.map_some,Option.bind_some,hv,V.cells,hl2,Gc,if_true,hi.d]
  ·cases h
 ·
  rename_i t x hop
  split at h
  ·rename_i d ks v hd hks hv
   split at h
   ·rename_i ss hss
    cases h
    obtain⟨c1,c2,c3⟩:=Yf hss (bA (E:=E) hi hg hv)
    refine⟨.ref (1,d) aB 0,_,ρ.kC d aB,.iO (o:=o) ?_,Yo hR (ss:=ss) (hi.le (Nat.le_succ _)),rfl,by unfold Rl;exact⟨aB,pW,rfl⟩,fun q hq=>bB.new (fun e=>hq (by rw[hd,e]))⟩
    simp only[bq,hop,hd,Option.map_some,Option.bind_some,c1,c3,Gc,and_self,if_true,hi.d]
   ·cases h
  ·cases h
 ·
  rename_i t a hop
  split at h
  ·rename_i gl
   split at h
   ·rename_i k n v hv
    cases h
    obtain⟨cs,e,g1,g2,g3,g4,g5,g6⟩:=Rq hv
    refine .tt (y:=.agg (v.l.map (V.int k))) ?_ ?_
    ·simp only[bq,hop,Ru hR g1]
     unfold fJ;rw[g4,g5];simp only[Option.bind_some]
     unfold lT
     rw[if_pos rfl,if_pos (by rw[g2,List.length_map,v.h];omega),List.drop_zero,List.take_of_length_le (by rw[g2,List.length_map,v.h];exact Nat.le_refl _),g2];rfl
    ·unfold Rl;show _=V.agg (v.l.map (V.int k)++[]);rw[List.append_nil]
   ·cases h
  ·split at h
   ·rename_i p off hv
    split at h
    ·rename_i ss hl
     split at h
     ·rename_i v hld
      cases h
      obtain⟨s,h1,h2⟩:=(bA (E:=E) hi hg hv).mY
      obtain⟨s',h3,h4⟩:=hi.rd hl
      rw[h1] at h3;cases h3
      obtain⟨y,hy,hr⟩:=Yc (ρ:=ρ) (top:=σ.top) hld
      exact .tt (by simp only[bq,hop,h2,h4,Option.bind_some,hy,Option.map_some]) hr
     ·cases h
    ·cases h
   ·rename_i p off k n i m hv
    split at h
    ·rename_i ss hl
     obtain⟨s,h1,hi0,hi1,h2⟩:=(bA (E:=E) hi hg hv).FZ
     obtain⟨s',h3,h4⟩:=hi.rd hl
     rw[h1] at h3;cases h3
     split at h
     ·rename_i pre k' n' v post hsp
      by_cases ek:k'=k
      ·subst ek
       rw[if_pos rfl] at h
       cases hb:Nat.beq n' n
       ·rw[hb] at h;cases h
       rw[hb,cond_true] at h
       have:=dY hb;subst this
       cases hc:(Nat.beq m 1&& oK E t)
       ·rw[hc,cond_false] at h
        split at h
        ·rename_i y hy
         cases h
         obtain⟨x,g1,g2⟩:=ah1 (ρ:=ρ) (top:=σ.top) hsp hi1 hy
         exact .tt (by simp only[bq,hop,h2,h4,Option.bind_some,g1,Option.map_some]) g2
        ·cases h
       ·rw[hc,cond_true] at h
        cases h
        rw[Bool.and_eq_true] at hc
        have:=dY hc.1;subst this
        exact .tt (y:=.int k' (v.at' i)) (by simp only[bq,hop,h2,h4,Option.bind_some,Ye (i:=i) hsp (Nat.lt_of_lt_of_le (Nat.lt_succ_self _) hi1) hc.2,Option.map_some]) (by unfold Rl;rfl)
      ·rw[if_neg ek] at h;cases h
     ·cases h
    ·cases h
   ·rename_i k n v i hv
    obtain⟨he,h⟩:=dQ h
    cases h
    obtain⟨h1,h2,h3⟩:=(bA (E:=E) hi hg hv).Lp
    obtain⟨z1,z2⟩:=xS he
    refine .tt (y:=.int k (v.at' i)) ?_ (by unfold Rl;rfl)
    simp only[bq,hop,h3]
    unfold fJ;rw[z1,z2];simp only[Option.bind_some]
    unfold lT;simp only[Bool.false_eq_true,if_false]
    rw[List.getElem?_map,Yd v (by omega)];rfl
   ·cases h
 ·
  rename_i t a x hop
  split at h
  ·rename_i p off v hv hx
   split at h
   ·rename_i ss sz hl hsz
    split at h
    ·rename_i pre rest hsp
     split at h
     ·rename_i mid post hsp2
      split at h
      ·rename_i mid' hco
       cases h
       obtain⟨s,h1,h2⟩:=(bA (E:=E) hi hg hv).mY
       obtain⟨s',h3,h4⟩:=hi.ob _ _ hl
       rw[h1] at h3;cases h3
       obtain⟨c1,c2,c3⟩:=Yf hco (bA (E:=E) hi hg hx)
       obtain⟨e1,w1⟩:=qI hsp
       obtain⟨e2,w2⟩:=qI hsp2
       rw[LX,w2] at c2
       refine⟨ay,_,ρ,.iO (o:=o) ?_,(hi.le (Nat.le_succ _)).set p s (x:=.sg (pre++(mid'++post))) (a:=.cells (bU (pre++(mid'++post)))) ⟨s,h1,qC _ _ _ _⟩,rfl,by unfold Rl;rfl,fun q _=>bB.set hl rfl⟩
       simp only[bq,hop,h2,h4,Option.bind_some,c1]
       rw[if_pos ⟨by rw[hsz,gF,c2],by rw[gF,gF,e1,e2,vO,vO,w1,w2,c2];omega,Gc _⟩,e1,e2,ah4 w1 w2 c2]
      ·cases h
     ·cases h
    ·cases h
   ·cases h
  ·rename_i p off k n i m k' y hv hx
   split at h
   ·rename_i ss hl
    split at h
    ·rename_i pre k2 n' v post hsp
     by_cases ek:k2=k
     ·subst ek
      rw[if_pos rfl] at h
      by_cases Yp:k'=k2
      ·subst Yp
       rw[if_pos rfl] at h
       obtain⟨hb,h⟩:=dQ h
       cases h
       rw[Bool.and_eq_true,Bool.and_eq_true] at hb
       have e1:=dY hb.1.1;subst e1
       have e2:=dY hb.1.2;subst e2
       obtain⟨z1,z2⟩:=xS hb.2
       obtain⟨s,h1,hi0,hi1,h2⟩:=(bA (E:=E) hi hg hv).FZ
       obtain⟨s',h3,h4⟩:=hi.ob _ _ hl
       rw[h1] at h3;cases h3
       have hy:=(bA (E:=E) hi hg hx).fQ
       obtain⟨e1,w1⟩:=qI hsp
       refine⟨ay,_,ρ,.iO (o:=o) ?_,(hi.le (Nat.le_succ _)).set p s (x:=.sg (pre++(.a k' n' (v.set i y)::post))) (a:=.cells (bU (pre++(.a k' n' (v.set i y)::post)))) ⟨s,h1,qC _ _ _ _⟩,rfl,by unfold Rl;rfl,fun q _=>bB.set hl rfl⟩
       simp only[bq,hop,h2,h4,Option.bind_some,hy,V.cells]
       have aia:=Yg (post:=post) (k:=k') (v:=v) (w:=v.set i y) (l:=[y]) w1 (show i.toNat+[y].length≤n' from hi1) (ah5 (by rw[v.h];omega))
       rw[if_pos ⟨by rw[z1];rfl,by rw[gF,e1,vO,w1,LW];show off+i.toNat+1≤off+(n'+_);omega,rfl⟩,e1]
       rw[show [V.int k' y]=[y].map (V.int k') from rfl,aia]
      ·rw[if_neg Yp] at h;cases h
     ·rw[if_neg ek] at h;cases h
    ·cases h
   ·cases h
  ·cases h
 ·
  rename_i t x i hop
  split at h
  ·rename_i n e k0 i ha hiv
   obtain⟨hel,h⟩:=dQ h
   obtain⟨z1,z2⟩:=xS hel
   have hii:=(bA (E:=E) hi hg hiv).fQ
   split at h
   ·rename_i gl
    split at h
    ·rename_i k n' v hv
     cases h
     intro hin
     obtain⟨cs,e',g1,g2,g3,g4,g5,g6⟩:=Rq hv
     rw[ha] at g3;cases g3
     obtain⟨j1,j2,j3⟩:=LY hin
     refine⟨.aK cs i.toNat,.iO ?_,by unfold Rl;exact⟨j1,j2,by rw[g2]⟩⟩
     simp only[bq,hop,Ru hR g1,hii]
     unfold lU
     rw[LU ha];dsimp only
     rw[z1];simp only[Option.bind_some,Rs hin,Option.map_some,Nat.mul_one,Nat.zero_add]
    ·cases h
   ·split at h
    ·rename_i p off hv
     split at h
     ·rename_i ss hl
      split at h
      ·rename_i pre k n' v post hsp
       obtain⟨hb,h⟩:=dQ h
       have:=dY hb;subst this
       cases h
       intro hin
       obtain⟨s,h1,h2⟩:=(bA (E:=E) hi hg hv).mY
       obtain⟨j1,j2,j3⟩:=LY hin
       refine⟨.ref (1,p) s (off+i.toNat),.iO ?_,by unfold Rl;exact⟨s,h1,j1,by omega,rfl⟩⟩
       simp only[bq,hop,h2,hii]
       unfold lU
       rw[LU ha];dsimp only
       rw[z1];simp only[Option.bind_some,Rs hin,Option.map_some,Nat.mul_one]
      ·cases h
     ·cases h
    ·cases h
  ·cases h
 ·
  rename_i t x i hop
  split at h
  ·rename_i n e k n' v k0 i ha hv hiv
   obtain⟨hb,h⟩:=dQ h
   cases h
   rw[Bool.and_eq_true] at hb
   have:=dY hb.2;subst this
   obtain⟨z1,z2⟩:=xS hb.1
   have hii:=(bA (E:=E) hi hg hiv).fQ
   have hvv:=(bA (E:=E) hi hg hv).FY
   intro hin
   obtain⟨j1,j2,j3⟩:=LY hin
   refine⟨.int k (v.at' i),.iO ?_,by unfold Rl;rfl⟩
   simp only[bq,hop,hvv,hii]
   unfold tF
   rw[LU ha];dsimp only
   rw[Rs hin];simp only[Option.bind_some,z1,Nat.mul_one]
   have:=Ye (E:=E) (t:=e) (ss:=[.a k n' v]) (pre:=[]) (post:=[]) (off:=0) (i:=i) rfl j3 hb.1
   rw[Nat.zero_add] at this
   rw[this];rfl
  ·cases h
 ·
  rename_i t x lo hi' hop
  split at h
  ·rename_i v hv
   have j6:=bA (E:=E) hi hg hv
   have ho:∀vl vh,iI E fr lo=vl→iI E fr hi'=vh→∀y,kS E.P σ t (fr.ev E x) vl vh none=some y→bq E fr σ aB o=some (y,σ):=by
    rintro vl vh rfl rfl y hy
    simp only[bq,hop]
    rw[show iI E fr none=none from rfl,hy];rfl
   split at h
   ·exact .val (L6 h j6 hi (vl:=none) (vh:=none) (by intro y hy;cases hy) (fun _=>rfl) (by intro y hy;cases hy) (fun _=>rfl)) (ho _ _ rfl rfl)
   ·rename_i lo
    split at h
    ·rename_i l hl
     have hlr:=bA (E:=E) hi hg hl
     exact .val (L6 h j6 hi (vl:=some (fr.ev E lo)) (vh:=none) (by intro y hy;cases hy;exact⟨_,rfl,hlr⟩) (by intro hy;cases hy) (by intro y hy;cases hy) (fun _=>rfl)) (ho _ _ rfl rfl)
    ·cases h
   ·rename_i hi'
    split at h
    ·rename_i l hl
     have hlr:=bA (E:=E) hi hg hl
     exact .val (L6 h j6 hi (vl:=none) (vh:=some (fr.ev E hi')) (by intro y hy;cases hy) (fun _=>rfl) (by intro y hy;cases hy;exact⟨_,rfl,hlr⟩) (by intro hy;cases hy)) (ho _ _ rfl rfl)
    ·cases h
   ·rename_i lo hi'
    split at h
    ·rename_i l m hl hm
     have hlr:=bA (E:=E) hi hg hl
     have hmr:=bA (E:=E) hi hg hm
     exact .val (L6 h j6 hi (vl:=some (fr.ev E lo)) (vh:=some (fr.ev E hi')) (by intro y hy;cases hy;exact⟨_,rfl,hlr⟩) (by intro hy;cases hy) (by intro y hy;cases hy;exact⟨_,rfl,hmr⟩) (by intro hy;cases hy)) (ho _ _ rfl rfl)
    ·cases h
  ·cases h
 ·
  rename_i t x lo hi' mx hop
  split at h
  ·rename_i cp u l kh hh km m e hv hvh hvm hu
   split at h
   ·rename_i sz hsz
    cases hb:Nat.beq sz (cZ R u)
    ·rw[hb] at h;cases h
    rw[hb,cond_true] at h
    have:=dY hb;subst this
    obtain⟨c',h2,_⟩:=(bA (E:=E) hi hg hv).jY
    have eh:=(bA (E:=E) hi hg hvh).fQ
    have em:=(bA (E:=E) hi hg hvm).fQ
    have fin:∀(vl:Option V) (a:Nat) (L:List (Den R.T u)),iI E fr lo=vl→jR l.length l.length vl (some (.int kh hh)) (some (.int km m))=some (a,hh.toNat,m.toNat)→(l.take hh.toNat).drop a=L→∃y,kE E fr σ aB o y σ∧Rl R ρ σ.top (.ak .any u L) y:=by
     rintro vl a L hvl hsb rfl
     refine⟨.ak (if m.toNat=hh.toNat then .full else .sh) (((l.map (aF R u)).take hh.toNat).drop a),.iO ?_, ?_⟩
     ·simp only[bq,hop,h2]
      rw[hvl,show iI E fr (some hi')=some (.int kh hh) by rw[Rt,eh],show iI E fr (some mx)=some (.int km m) by rw[Rt,em]]
      unfold kS
      rw[hu];dsimp only
      rw[hsz];simp only[Option.bind_some,List.length_map,hsb,LC hR,if_true,Option.isNone_some,Bool.false_eq_true,and_false,if_false,Option.map_some]
     ·unfold Rl
      exact⟨_,by rw[XG],trivial⟩
    split at h
    ·cases h
     intro hc
     rw[Bool.and_eq_true] at hc
     exact fin none 0 _ rfl (by simp[jR,uz hc.1,uz hc.2]) (by simp[pQ])
    ·rename_i lo'
     split at h
     ·rename_i ka a hva
      cases h
      intro hc
      rw[Bool.and_eq_true,Bool.and_eq_true] at hc
      have ea:=(bA (E:=E) hi hg hva).fQ
      exact fin (some (.int ka a)) a.toNat _ (by rw[Rt,ea]) (by simp[jR,uz hc.1,uz hc.2.1,uz hc.2.2]) (by simp[pQ])
     ·cases h
   ·cases h
  ·cases h
 ·
  rename_i a b' x hop
  split at h
  ·rename_i p off k n lo hi' hv
   obtain⟨s,h1,hB,h2⟩:=(bA (E:=E) hi hg hv).vI
   split at h
   ·rename_i e hu1 hu2
    split at h
    ·rename_i hu3
     split at h
     ·rename_i l hl
      cases h
      obtain⟨cs,c1,c2,c3,c4⟩:=X3 hR hi hl h1 hB
      obtain⟨p1,p2,p3,_,_⟩:=xR hB
      refine .tt (y:=.str (List.map (fun n:Int=>UInt8.ofNat n.toNat) l)) ?_ (by unfold Rl;rfl)
      simp only[bq,hop,h2]
      unfold tC
      rw[hu1,hu2];dsimp only
      rw[hu3,c1];dsimp only
      simp only[Option.bind_some]
      rw[if_pos (by omega),c3]
      have:=QX (R:=R) l
      rw[show l.map (V.int .u8)=List.map (aF R (.int .u8)) l from rfl,this];rfl
     ·cases h
    ·cases h
   ·cases h
  ·cases h
 ·
  rename_i t x hop
  split at h
  ·rename_i m e p off k n lo hi' ha hv
   cases h
   intro hc
   have hc:=of_decide_eq_true hc
   obtain⟨s,h1,hB,h2⟩:=(bA (E:=E) hi hg hv).vI
   obtain⟨p1,p2,p3,p4,p5⟩:=xR hB
   refine⟨.ref (1,p) s (off+(dH lo).toNat),.iO ?_,by unfold Rl;exact⟨s,h1,p4,by omega,rfl⟩⟩
   simp only[bq,hop,ha,h2,Option.bind_some]
   rw[if_pos ⟨hc.1,by omega⟩]
  ·cases h
 ·
  rename_i c hop
  split at h
  ·rename_i p off k n lo hi' y fK hvs
   split at h
   ·rename_i t ht
    split at h
    ·rename_i e he
     obtain⟨hel,h⟩:=dQ h
     obtain⟨z1,z2⟩:=xS hel
     split at h
     ·rename_i l0 ss hsrc hl
      obtain⟨l,hl0⟩:∃l:List Int,l=l0:=⟨l0,rfl⟩
      subst hl0
      split at h
      ·rename_i pre k' n' v post hsp
       by_cases ek:k'=k
       ·subst ek
        rw[if_pos rfl] at h
        cases hb:Nat.beq n' n
        ·rw[hb] at h;cases h
        rw[hb,cond_true] at h
        have:=dY hb;subst this
        cases h
        have hargs:=vL (E:=E) hi hg hvs
        obtain⟨a1,as1,ea1,ra1,ra2⟩:=hargs.eD
        obtain⟨a2,as2,ea2,rb1,rb2⟩:=ra2.eD
        have ea3:=rb2.fP
        subst ea3;subst ea2
        obtain⟨s,h1,hB,rfl⟩:=ra1.vI
        obtain⟨p1,p2,p3,p4,p5⟩:=xR hB
        obtain⟨s',h3,h4⟩:=hi.ob _ _ hl
        rw[h1] at h3;cases h3
        obtain⟨e1,w1⟩:=qI hsp
        obtain⟨q1,q2⟩:=Q6 hR (σ:=σ) (ag:=false) (z:=ay) hsrc rb1
        have q1:jG σ false 1 ay a2=some (List.map (V.int k') l):=q1
        have hlen:(fO n' hi'-dH lo).toNat=(fO n' hi').toNat-(dH lo).toNat:=by omega
        have hmin:min (List.map (V.int k') l).length ((fO n' hi').toNat-(dH lo).toNat)=(List.take (fO n' hi'-dH lo).toNat l).length:=by
         rw[List.length_map,List.length_take,hlen,Nat.min_comm]
        have hfl:((List.map (V.int k') l).take (List.take (fO n' hi'-dH lo).toNat l).length).flatMap V.cells=(List.take (fO n' hi'-dH lo).toNat l).map (V.int k'):=by
         have:∀m:List Int,(m.map (V.int k')).flatMap V.cells=m.map (V.int k'):=by
          intro m
          induction m with
          |nil=>rfl
          |cons x m ih=>rw[List.map_cons,List.flatMap_cons,ih];rfl
         rw[←List.map_take,this,List.length_take]
         congr 1
         by_cases hle:(fO n' hi'-dH lo).toNat≤List.length l
         ·rw[Nat.min_eq_left hle]
         ·rw[Nat.min_eq_right (by omega),List.take_of_length_le (Nat.le_refl _),List.take_of_length_le (by omega)]
        have hlt:(List.take (fO n' hi'-dH lo).toNat l).length≤(fO n' hi').toNat-(dH lo).toNat:=by rw[List.length_take,hlen];exact Nat.min_le_left _ _
        have hone:(List.map (V.int k') l).all (fun v=>bL v.cells)=true:=by rw[List.all_map];simp[bL,V.cells,oneCell]
        refine⟨_,_,ρ,.of (o:=o) fun S=> ?_,(hi.le (Nat.le_succ _)).set p s (x:=.sg (pre++(.a k' n' (v.rR (dH lo) (List.take (fO n' hi'-dH lo).toNat l))::post))) (a:=.cells (bU (pre++(.a k' n' (v.rR (dH lo) (List.take (fO n' hi'-dH lo).toNat l))::post)))) ⟨s,h1,qC _ _ _ _⟩,rfl,by unfold Rl;rfl,fun q _=>bB.set hl rfl⟩
        unfold opC
        rw[hop];dsimp only
        rw[fK];dsimp only
        rw[ea1]
        have hbv:lV E fr.om (o.dst.map fun t=>(fr.d,t)) σ aB .copy c.argTypes [.vw (1,p) s (off+(dH lo).toNat) ((fO n' hi').toNat-(dH lo).toNat) (n'-(dH lo).toNat) 1 false,a2]=(c.argTypes[0]?).bind fun t=>copyV E.P σ t (.vw (1,p) s (off+(dH lo).toNat) ((fO n' hi').toNat-(dH lo).toNat) (n'-(dH lo).toNat) 1 false) a2:=rfl
        rw[hbv,ht];simp only[Option.bind_some]
        rw[ah7 he z1 z2 q2 q1 hone h4 (by rw[hmin,gF,e1,vO,w1,LW];show off+(dH lo).toNat+_≤off+(n'+_);omega),hmin,hfl]
        simp only[Option.map_some]
        rw[e1,Yg (w:=v.rR (dH lo) (List.take (fO n' hi'-dH lo).toNat l)) w1 (by omega) (by unfold Vec.rR;rw[Rn];simp only[List.length_append,List.length_take,List.length_drop,v.h] at*;omega)]
        try rfl
       ·rw[if_neg ek] at h;cases h
      ·cases h
     ·cases h
    ·cases h
   ·cases h
  ·cases h
 ·cases h
theorem aio {om:Bool} {F:Nat→List (FR R)} (hF:aS E F) (bQ:ρ.om=om) {g:List (Nat×Bool)} (hg:ni fr g) (hi:aG ρ aB st fr σ) {r:dO R} (h:oL E R om F g o.dst o.op st=some r):pX E st ρ aB fr σ o r:=by
 unfold oL at h
 split at h
 ·
  rename_i x hop
  split at h
  ·rename_i v hv;cases h;exact .tt (y:=fr.ev E x) (by simp only[bq,hop]) (bA hi hg hv)
  ·cases h
 ·rename_i x hop
  split at h
  ·rename_i v hv;cases h;exact .tt (y:=fr.ev E x) (by simp only[bq,hop]) (bA hi hg hv)
  ·cases h
 ·
  rename_i c a' b' hop
  split at h
  ·rename_i j
   split at h
   ·rename_i t hc
    have hc':=(bA (E:=E) hi hg hc).oM
    split at h
    ·rename_i x y hx hy
     split at h
     ·rename_i v hv
      cases h
      refine .tt (A8 hop hc') ?_
      rw[zL] at hc'
      cases t
      ·exact Yi hv (bA (E:=E) hi (.cons hc' hg) hy)
      ·exact Yh hv (bA (E:=E) hi (.cons hc' hg) hx)
     ·cases h
    ·cases h
   ·rename_i t hc
    have hc':=(bA (E:=E) hi hg hc).qH
    split at h
    ·rename_i v hv
     cases h
     refine .tt (A8 hop hc') ?_
     cases t
     ·exact bA (E:=E) hi hg hv
     ·exact bA (E:=E) hi hg hv
    ·cases h
   ·cases h
  ·cases h
 ·
  rename_i t hop
  split at h
  ·rename_i d z hd hz
   obtain⟨hc,h⟩:=dQ h
   cases h
   simp only[Bool.and_eq_true,Bool.not_eq_true'] at hc
   obtain⟨v,hv,hr⟩:=AU (ρ:=ρ) (top:=σ.top) hz
   have hng:xE z=true:=by
    cases z<;>first|rfl| (have:=hc.1;simp[TV.cells,vg,Qh] at this)
   obtain⟨hcells,_⟩:=uq hng hr
   refine⟨.ref (1,d) aB 0,_,ρ.kC d aB,.iO (o:=o) ?_,Yn hR (hi.le (Nat.le_succ _)) hcells hc.2,rfl,by unfold Rl;exact⟨aB,pW,rfl⟩,fun q hq=>bB.new (fun e=>hq (by rw[hd,e]))⟩
   simp only[bq,hop,hd,Option.map_some,Option.bind_some,hv,F8 hc.1 hcells,if_true,hi.d]
  ·cases h
 ·
  rename_i t x hop
  split at h
  ·rename_i d v hd hv
   obtain⟨hc,h⟩:=dQ h
   cases h
   simp only[Bool.and_eq_true,Bool.not_eq_true'] at hc
   have hr:=bA (E:=E) hi hg hv
   obtain⟨hcells,hnr⟩:=uq hc.1.2 hr
   refine⟨.ref (1,d) aB 0,_,ρ.kC d aB,.iO (o:=o) ?_,Yn hR (hi.le (Nat.le_succ _)) hcells hc.2,rfl,by unfold Rl;exact⟨aB,pW,rfl⟩,fun q hq=>bB.new (fun e=>hq (by rw[hd,e]))⟩
   simp only[bq,hop,hd,Option.map_some,Option.bind_some,F8 hc.1.1 hcells,hnr,and_self,if_true,hi.d]
  ·cases h
 ·
  rename_i t parts hop
  split at h
  ·rename_i pl z ps hpl hz hps
   split at h
   ·rename_i cs hcs
    cases h
    obtain⟨zv,hzv,QZ⟩:=AU (ρ:=ρ) (top:=σ.top) hz
    obtain⟨e1,e2⟩:=QM (E:=E) hi hg hps
    have hzc:aA R ρ σ.top z.cells zv.cells:=by
     refine(uq ?_ QZ).1
     unfold ug at hz
     cases z<;>first|rfl|skip
     all_goals
      exfalso
      split at hz
      ·split at hz
       ·unfold zR at hz
        split at hz
        ·split at hz<;>cases hz
        ·unfold xB at hz;split at hz<;>cases hz
       ·cases hz
      ·cases hz
    obtain⟨l',f1,f2⟩:=Xx (qs:=parts.toList.map fun p=>(p.1,fr.ev E p.2)) pl (by rw[e1];simp[Function.comp_def]) (by simpa [Function.comp_def] using e2) hzc hcs
    refine .tt (y:=.agg l') ?_ (by unfold Rl;exact⟨l',rfl,f2⟩)
    simp only[bq,hop,hpl,hzv,Option.bind_some]
    rw[f1];rfl
   ·cases h
  ·cases h
 ·
  rename_i t len parts hop
  split at h
  ·rename_i ps hps
   obtain⟨e1,e2⟩:=QM (E:=E) hi hg hps
   refine .val (ahx hR (qs:=parts.toList.map fun p=>(p.1,fr.ev E p.2)) h (by rw[e1];simp[Function.comp_def]) (by simpa [Function.comp_def] using e2)) fun y hy=> ?_
   simp only[bq,hop]
   rw[hy];rfl
  ·cases h
 ·
  rename_i t a hop
  split at h
  ·rename_i p off hv
   split at h
   ·rename_i cs hl
    split at h
    ·rename_i v hld
     cases h
     obtain⟨s,h1,h2⟩:=(bA (E:=E) hi hg hv).mY
     obtain⟨s',l,h3,h4,h5⟩:=hi.rd hl
     rw[h1] at h3;cases h3
     obtain⟨y,hy,hr⟩:=uw h5 hld
     exact .tt (by simp only[bq,hop,h2,h4,Option.bind_some,hy,Option.map_some]) hr
    ·cases h
   ·cases h
  ·rename_i cs off hv
   split at h
   ·rename_i v hld
    cases h
    obtain⟨l,h2,h5⟩:=(bA (E:=E) hi hg hv).rZ
    obtain⟨y,hy,hr⟩:=uw h5 hld
    exact .tt (by simp only[bq,hop,h2,hy,Option.map_some]) hr
   ·cases h
  ·rename_i p τ i off hv
   split at h
   ·rename_i ob hl
    obtain⟨s,h1,_,h2⟩:=(bA (E:=E) hi hg hv).xK
    obtain⟨l,f,rfl,hf⟩:=ahF h (hi.rd hl) h1
    intro y hy
    obtain⟨cs,w,h3,h4,h5⟩:=hf y hy
    exact⟨w,.iO (by simp only[bq,hop,h2,h3,Option.bind_some,h4,Option.map_some]),h5⟩
   ·cases h
  ·cases h
 ·
  rename_i t a x hop
  split at h
  ·rename_i p off v hv hx
   split at h
   ·rename_i cs sz hl hsz
    obtain⟨hc,h⟩:=dQ h
    cases h
    simp only[Bool.and_eq_true] at hc
    obtain⟨⟨⟨c1,c2⟩,c3⟩,c4⟩:=hc
    obtain⟨s,h1,h2⟩:=(bA (E:=E) hi hg hv).mY
    obtain⟨s',l,h3,h4,h5⟩:=hi.ob _ _ hl
    rw[h1] at h3;cases h3
    obtain⟨h6,h7⟩:=uq c4 (bA (E:=E) hi hg hx)
    refine⟨ay,_,ρ,.iO (o:=o) ?_,(hi.le (Nat.le_succ _)).set p s ⟨s,_,h1,qC _ _ _ _,QV off h5 h6⟩,rfl,by unfold Rl;rfl,fun q _=>bB.set hl rfl⟩
    simp only[bq,hop,h2,h4,Option.bind_some]
    rw[if_pos ⟨by rw[hsz,h6.length,dY c1],by rw[h6.length,h5.length];exact Nat.le_of_ble_eq_true c2,F8 c3 h6⟩]
   ·cases h
  ·cases h
 ·
  rename_i x hop
  split at h
  ·rename_i p off hv;cases h
   have hr:=bA (E:=E) hi hg hv
   obtain⟨s,h1,h2⟩:=hr.mY
   exact .tt (y:=fr.ev E x) (by simp only[bq,hop,h2]) hr
  ·rename_i p off hv;cases h
   have hr:=bA (E:=E) hi hg hv
   obtain⟨s,h2,h1⟩:=hr.rZ
   exact .tt (y:=fr.ev E x) (by simp only[bq,hop,h2]) hr
  ·rename_i p τ i off hv;cases h
   have hr:=bA (E:=E) hi hg hv
   obtain⟨s,h1,_,h2⟩:=hr.xK
   exact .tt (y:=fr.ev E x) (by simp only[bq,hop,h2]) hr
  ·rename_i f a' b' hv;cases h
   have hr:=bA (E:=E) hi hg hv
   obtain⟨a',b',h2,h1⟩:=hr.mZ
   exact .tt (y:=fr.ev E x) (by simp only[bq,hop,h2]) hr
  ·cases h
 ·
  rename_i op t x y t' hop
  split at h
  ·rename_i x' y' hx hy
   exact .val (ahr h (bA (E:=E) hi hg hx) (bA (E:=E) hi hg hy)) fun z hz=>by simp only[bq,hop,hz,Option.map_some]
  ·cases h
 ·
  rename_i op t x hop
  split at h
  ·rename_i x' hx
   exact .val (ahs h (bA (E:=E) hi hg hx)) fun z hz=>by simp only[bq,hop,hz,Option.map_some]
  ·cases h
 ·
  rename_i a' b' x hop
  split at h
  ·rename_i x' hx
   exact .val (aht (σ:=σ) h (bA (E:=E) hi hg hx)) fun z hz=>by simp only[bq,hop,hz,Option.map_some]
  ·cases h
 ·
  rename_i f a' b' hop
  split at h
  ·rename_i xs ys hx hy
   cases h
   exact .tt (y:=.fn (.func f) (a'.toList.map (fr.ev E)) (b'.toList.map (fr.ev E))) (by simp only[bq,hop]) (by unfold Rl;exact⟨_,_,rfl,vL (E:=E) hi hg hx,vL (E:=E) hi hg hy⟩)
  ·cases h
 ·
  rename_i t hop
  split at h
  ·rename_i d k e hd ht
   split at h
   ·rename_i k' e' hk he
    cases h
    refine⟨.cK (1,d) aB,_,ρ.kC d aB,.iO (o:=o) ?_,(hi.le (Nat.le_succ _)).new d aB (a:=.map [] []) ⟨aB,pW,by rw[map_eq];rfl⟩,rfl,by unfold Rl;exact⟨aB,pW,rfl⟩,fun q hq=>bB.new (fun e=>hq (by rw[hd,e]))⟩
    simp only[bq,hop,hd,Option.map_some,hi.d]
   ·cases h
    refine⟨.cK (1,d) aB,_,ρ.kC d aB,.iO (o:=o) ?_,(hi.le (Nat.le_succ _)).new d aB (a:=.map [] []) ⟨aB,[],[],pW,by rw[map_eq],rfl,rfl⟩,rfl,by unfold Rl;exact⟨aB,pW,rfl⟩,fun q hq=>bB.new (fun e=>hq (by rw[hd,e]))⟩
    simp only[bq,hop,hd,Option.map_some,hi.d]
  ·cases h
 ·
  rename_i t l c hop
  split at h
  ·rename_i n m hn hm
   refine ahM hR h (bA (E:=E) hi hg hn) (bA (E:=E) hi hg hm) hi rfl fun y σ' hy=>.iO ?_
   have e:(o.dst.map fun t=>(fr.d,t))=o.dst.map fun t=>(1,t):=by rw[hi.d]
   simp only[bq,hop]
   rw[e,hi.om,bQ];exact hy
  ·cases h
 ·
  rename_i t x lo hi' hop
  split at h
  ·rename_i x' hx
   have j6:=bA (E:=E) hi hg hx
   split at h
   ·exact .val (LD hR (σ:=σ) (vl:=none) (vh:=none) h j6 (fun y hy=>by cases hy) (fun _=>rfl) (fun y hy=>by cases hy) (fun _=>rfl)) fun z hz=>by simp only[bq,hop,iI,hz,Option.map_some]
   ·rename_i lo
    split at h
    ·rename_i l hl
     exact .val (LD hR (σ:=σ) (vl:=some (fr.ev E lo)) (vh:=none) h j6 (fun y hy=>by cases hy;exact⟨_,rfl,bA (E:=E) hi hg hl⟩) (fun h=>by cases h) (fun y hy=>by cases hy) (fun _=>rfl)) fun z hz=>by simp only[bq,hop,iI,hz,Option.map_some]
    ·cases h
   ·rename_i hi2
    split at h
    ·rename_i l hl
     exact .val (LD hR (σ:=σ) (vl:=none) (vh:=some (fr.ev E hi2)) h j6 (fun y hy=>by cases hy) (fun _=>rfl) (fun y hy=>by cases hy;exact⟨_,rfl,bA (E:=E) hi hg hl⟩) (fun h=>by cases h)) fun z hz=>by simp only[bq,hop,iI,hz,Option.map_some]
    ·cases h
   ·rename_i lo hi2
    split at h
    ·rename_i l l2 hl hl2
     exact .val (LD hR (σ:=σ) (vl:=some (fr.ev E lo)) (vh:=some (fr.ev E hi2)) h j6 (fun y hy=>by cases hy;exact⟨_,rfl,bA (E:=E) hi hg hl⟩) (fun h=>by cases h) (fun y hy=>by cases hy;exact⟨_,rfl,bA (E:=E) hi hg hl2⟩) (fun h=>by cases h)) fun z hz=>by simp only[bq,hop,iI,hz,Option.map_some]
    ·cases h
  ·cases h
 ·
  rename_i t x f hop
  split at h
  ·rename_i x' hx
   have j6:=bA (E:=E) hi hg hx
   split at h
   ·rename_i v hv
    cases h
    unfold WB at hv
    split at hv
    ·rename_i p u hf
     split at hv
     ·rename_i q off
      cases hv
      obtain⟨s,h1,h2⟩:=j6.mY
      exact .tt (y:=.ref (1,q) s (off+p)) (by simp only[bq,hop,hf,Option.bind_some,h2]) (by unfold Rl;exact⟨s,h1,rfl⟩)
     ·rename_i q off
      cases hv
      obtain⟨l,h2,h1⟩:=j6.rZ
      exact .tt (y:=.aK l (off+p)) (by simp only[bq,hop,hf,Option.bind_some,h2]) (by unfold Rl;exact⟨l,rfl,h1⟩)
     ·rename_i q τ i off
      cases hv
      obtain⟨s,h1,h3,h2⟩:=j6.xK
      exact .tt (y:=.ref (1,q) s (i.toNat*cZ R τ+off+p)) (by simp only[bq,hop,hf,Option.bind_some,h2]) (by unfold Rl;exact⟨s,h1,h3,by rw[Nat.add_assoc]⟩)
     ·cases hv
    ·cases hv
   ·cases h
  ·cases h
 ·
  rename_i t x f hop
  split at h
  ·rename_i p u cs hf hx
   split at h
   ·rename_i v hv
    cases h
    obtain⟨l,h1,h2⟩:=(bA (E:=E) hi hg hx).jM
    obtain⟨y,hy,hr⟩:=uw h2 hv
    exact .tt (by simp only[bq,hop,hf,Option.bind_some,h1,hy,Option.map_some]) hr
   ·cases h
  ·cases h
 ·
  rename_i t x i hop
  split at h
  ·rename_i p τ y' hx hy
   exact .val (ahN hR (om:=false) h (bA (E:=E) hi hg hx) (bA (E:=E) hi hg hy) hi) fun z hz=>by simp only[bq,hop,hz,Option.map_some]
  ·rename_i x' y' _ hx hy
   exact .val (ahX hR h (bA (E:=E) hi hg hx) (bA (E:=E) hi hg hy)) fun z hz=>by simp only[bq,hop,hz,Option.map_some]
  ·cases h
 ·
  rename_i t x i hop
  split at h
  ·rename_i x' y' hx hy
   exact .val (ahY h (bA (E:=E) hi hg hx) (bA (E:=E) hi hg hy)) fun z hz=>by simp only[bq,hop,hz,Option.map_some]
  ·cases h
 ·
  rename_i t x i ok hop
  split at h
  ·rename_i x' y' hx hy
   exact .val (ah8 hR h (bA (E:=E) hi hg hx) (bA (E:=E) hi hg hy) hi) fun z hz=>by simp only[bq,hop,hz,Option.map_some]
  ·cases h
 ·
  rename_i t m k v hop
  split at h
  ·rename_i m' k' v' hm hk hv
   exact Ym hR h (bA (E:=E) hi hg hm) (bA (E:=E) hi hg hk) (bA (E:=E) hi hg hv) hi fun σ' hs=>by simp only[bq,hop,hs,Option.map_some]
  ·cases h
 ·rename_i t m k v hop
  split at h
  ·rename_i m' k' v' hm hk hv
   exact Ym hR h (bA (E:=E) hi hg hm) (bA (E:=E) hi hg hk) (bA (E:=E) hi hg hv) hi fun σ' hs=>by simp only[bq,hop,hs,Option.map_some]
  ·cases h
 ·
  rename_i x i hop
  split at h
  ·rename_i vs hv
   split at h
   ·rename_i v hx
    cases h
    obtain⟨l,h1,h2⟩:=(bA (E:=E) hi hg hv).Lm
    obtain⟨y,hy,hr⟩:=h2.get hx
    exact .tt (by simp only[bq,hop,h1,hy,Option.map_some]) hr
   ·cases h
  ·cases h
 ·
  rename_i c hop
  split at h
  ·rename_i bi fK
   split at h
   ·rename_i vs hvs
    have hrs:=vL (E:=E) hi hg hvs
    have step:∀y σ',lV E fr.om (o.dst.map fun t=>(fr.d,t)) σ aB bi c.argTypes (c.args.toList.map (fr.ev E))=some (y,σ')→kE E fr σ aB o y σ':=fun y σ' hb=>.of fun S=>by
     simp only[opC,hop,fK,hb,Option.map_some]
    unfold blt at h
    split at h
    ·rename_i x
     split at h
     ·rename_i t ht
      split at h
      ·rename_i n hn
       cases h
       obtain⟨v,l,e,h1,h2⟩:=hrs.eD
       rw[h2.fP] at e
       refine⟨_,step _ σ ?_,by unfold Rl;rfl⟩
       rw[e]
       simp only[lV,ht,Option.bind_some,ahA hn h1 hi,Option.map_some]
      ·cases h
     ·cases h
    ·rename_i x y
     split at h
     ·rename_i t u ht hu
      obtain⟨v,l,e,h1,h2⟩:=hrs.eD
      obtain⟨w,l',e',h3,h4⟩:=h2.eD
      subst e'
      rw[h4.fP] at e
      have e0:(o.dst.map fun t=>(fr.d,t))=o.dst.map fun t=>(1,t):=by rw[hi.d]
      have fin:Af E u=true→∀z σ',iB E.P om false σ aB (o.dst.map fun t=>(1,t)) t v w=some (z,σ')→kE E fr σ aB o z σ':=fun hss z σ' hz=>step z σ' (by
       rw[e,e0]
       unfold Af at hss
       simp only[lV,ht,hu,Option.bind_some,hi.om,bQ]
       split at hss
       ·rename_i hu';rw[hu'];simp only[hz,Option.bind_some]
       ·rename_i hu';rw[hu'];simp only[hz,Option.bind_some]
       ·cases hss)
      cases Gf:om
      ·rw[Gf] at h fin
       have h':FL E R o.dst t u x y st=some r:=h
       have hss:Af E u=true:=by
        unfold FL at h'
        split at h'
        ·split at h'
         ·exact(dQ h').1
         ·cases h'
        ·cases h'
       exact ahz hR (loc:=o.dst.map fun t=>(1,t)) h' h1 h3 hi (fin hss)
      ·rw[Gf] at h fin
       have h':FM E R o.dst t u x y st=some r:=h
       have hss:Af E u=true:=by
        unfold FM at h'
        split at h'
        ·split at h'
         ·exact(dQ h').1
         ·cases h'
        ·cases h'
       exact ahL hR h' h1 h3 hi rfl (fin hss)
     ·cases h
    ·rename_i x l
     split at h
     ·rename_i v hv
      cases h
      obtain⟨y,ys,e,h1,h2⟩:=hrs.eD
      obtain⟨w,hw,hr⟩:=Q7 false hv h1 h2
      refine⟨w,step w σ ?_,hr⟩
      rw[e]
      simp only[lV,hw,Option.map_some]
     ·cases h
    ·rename_i x l
     split at h
     ·rename_i v hv
      cases h
      obtain⟨y,ys,e,h1,h2⟩:=hrs.eD
      obtain⟨w,hw,hr⟩:=Q7 true hv h1 h2
      refine⟨w,step w σ ?_,hr⟩
      rw[e]
      simp only[lV,hw,Option.map_some]
     ·cases h
    ·cases h
   ·cases h
  ·rename_i f fK
   split at h
   ·rename_i f' a' b' vs hf hvs
    cases himp:E.imp f' with
    |true=>rw[himp] at h;cases h
    |false=>
     rw[himp,cond_false] at h
     obtain⟨va,vb,h1,h2,h3⟩:=(bA (E:=E) hi hg hf).mZ
     exact Ya hR hF hop fK h1 himp ((h2.append (vL (E:=E) hi hg hvs)).append h3) hi (fun _ hx=>hx) h
   ·cases h
  ·cases h
 ·cases h
theorem sj {om:Bool} {F:Nat→List (FR R)} (hF:aS E F) (bQ:ρ.om=om) {g:List (Nat×Bool)} (hg:ni fr g) (hi:aG ρ aB st fr σ) {r:dO R} (h:rX E R om F g o.dst o.op st=some r):pX E st ρ aB fr σ o r:=by
 unfold rX at h
 split at h
 ·rename_i r' hx;cases h;exact ah9 hR hg hi hx
 ·exact aio hR hF bQ hg hi h
end
end Aq
end
section
namespace Aq
open Go
set_option linter.unusedSectionVars false
set_option linter.unusedVariables false
section
variable {R:iM} {E:Env}
variable {ρ:aO} {b aB:Nat} {st:MS R.T} {fr:Fr} {σ:ah} {o:Oper}
theorem aiq {j:Nat} {t:Bool} (h:bI [] st (.tmp j)=some (.bool t)):look st.fr j=some (.bool t):=by
 unfold bI at h
 dsimp only at h
 split at h
 ·rename_i v hv
  cases v<;>first| (cases h;exact hv)| (simp[KV,look] at h;done)
 ·cases h
variable (hR:mX R)
include hR
omit hR in
theorem Yq {β:Type} {top:Nat→Nat} {x z:TV R.T} {v zv:V} {k:TV R.T→Bool→Option β} {res:β} (hx:Rl R ρ top x v) (hz:Rl R ρ top z zv):∀{ks vs:List (TV R.T)} {kl vl:List V},Lj x ks vs z k=some res→aA R ρ top ks kl→aA R ρ top vs vl→
 ∃y b w r,Rl R ρ top y w∧mI v kl vl=some r∧((r=none→w=zv∧b=false)∧∀u,r=some u→w=u∧b=true)∧k y b=some res
 | [],[],kl,vl,h,h1,h2=>by
   rw[h1.fP,h2.fP]
   exact⟨z,false,zv,none,hz,rfl,⟨fun _=>⟨rfl,rfl⟩,fun u h=>by cases h⟩,h⟩
 | [],_::_,_,_,h,_,_=>by cases h
 |_::_,[],_,_,h,_,_=>by cases h
 |a::ks,b::vs,kl,vl,h,h1,h2=>by
  obtain⟨k0,k',rfl,g1,g2⟩:=h1.eD
  obtain⟨l0,l',rfl,g3,g4⟩:=h2.eD
  unfold Lj at h
  split at h
  ·rename_i c hc
   have he:=Yj hc hx g1
   cases c with
   |true=>exact⟨b,true,l0,some l0,g3,by simp[mI,he],⟨fun h=>(by cases h),fun u h=>by cases h;exact⟨rfl,rfl⟩⟩,h⟩
   |false=>
    obtain⟨y,bb,w,r,e1,e2,e3,e4⟩:=Yq hx hz h g2 g4
    exact⟨y,bb,w,r,e1,by simp[mI,he,e2],e3,e4⟩
  ·cases h
theorem Rv {om:Bool} {β:Type} {F:Nat→List (FR R)} (hF:aS E F) (bQ:ρ.om=om) (hi:aG ρ aB st fr σ) {k:MS R.T→Option β} {x:β} (h:runM E R om F o st k=some x) {G:Prop} {rest:Fr→ah→Prop}
 (hs:∀y σ',kE E fr σ aB o y σ'→rest (fr.put o.dst y) σ'→G) (hk:∀ρ' st' y σ',aG ρ' (aB+1) st' (fr.put o.dst y) σ'→σ'.next=σ.next→(∀p,o.dst≠some p→bB true p st ρ σ st' ρ' σ')→k st'=some x→rest (fr.put o.dst y) σ'):G:=by
 have hi1:=hi.le (Nat.le_succ aB)
 unfold runM at h
 split at h
 ·rename_i c a' b' hop
  split at h
  ·rename_i t hc
   have hc':=(bA (E:=E) hi .nil hc).qH
   split at h
   ·rename_i v hv
    refine hs _ _ (.iO (A8 hop hc')) (hk ρ _ _ σ (hi1.eZ o.dst ?_) rfl (fun p _=>bB.same (by first|exact lN|rfl)) h)
    cases t
    ·exact bA (E:=E) hi .nil hv
    ·exact bA (E:=E) hi .nil hv
   ·cases h
  ·rename_i t hc
   have hc':=(bA (E:=E) hi .nil hc).oM
   split at h
   ·rename_i j
    have hj:=hc'
    rw[zL] at hj
    split at h
    ·rename_i x' y' hx hy
     split at h
     ·rename_i v hv
      refine hs _ _ (.iO (A8 hop hc')) (hk ρ _ _ σ (hi1.eZ o.dst ?_) rfl (fun p _=>bB.same (by first|exact lN|rfl)) h)
      cases t
      ·exact Yi hv (bA (E:=E) hi (.cons hj .nil) hy)
      ·exact Yh hv (bA (E:=E) hi (.cons hj .nil) hx)
     ·cases t
      ·exact hs _ _ (.iO (A8 hop hc')) (hk ρ _ _ σ ((hi1.learn hj).eZ o.dst (bA (E:=E) hi (.cons hj .nil) hy)) rfl (fun p _=>bB.same (by first|exact lN|rfl)) h)
      ·exact hs _ _ (.iO (A8 hop hc')) (hk ρ _ _ σ ((hi1.learn hj).eZ o.dst (bA (E:=E) hi (.cons hj .nil) hx)) rfl (fun p _=>bB.same (by first|exact lN|rfl)) h)
    ·cases h
   ·cases h
  ·cases h
 ·rename_i t a y hop
  split at h
  ·rename_i τ p i off l v hst
   unfold Qz at hst
   split at hst
   ·rename_i p' τ1 i' off' v' ha hv
    split at hst
    ·rename_i τ' l0 sz hl hsz
     split at hst
     ·rename_i l1 hl1
      obtain⟨hc,hst⟩:=dQ hst
      cases hst
      obtain⟨e,e2⟩:=pU hl1;subst e;cases e2
      simp only[Bool.and_eq_true] at hc
      obtain⟨⟨⟨c1,c2⟩,c3⟩,c4⟩:=hc
      obtain⟨z,hz,h⟩:=Option.bind_eq_some_iff.1 h
      split at h
      ·rename_i y' hu
       obtain⟨s,h1,_,h2⟩:=(bA (E:=E) hi .nil ha).xK
       obtain⟨h6,h7⟩:=uq c4 (bA (E:=E) hi .nil hv)
       have hO:=hi.ob _ _ hl
       obtain⟨cs,k1,k2,k3,k4⟩:=ahI hR hO h1 hz h6 (Nat.le_of_ble_eq_true c2) hu
       refine hs ay (σ.setObj (1,p) s (.cells (fB cs (i.toNat*cZ R τ'+off) (fr.ev E y).cells))) (.iO (o:=o) ?_) (hk ρ _ ay _ ((hi1.set p s (x:=.arr τ' (kZ l0 i y')) (a:=.cells (fB cs (i.toNat*cZ R τ'+off) (fr.ev E y).cells)) ⟨k4.trans hO.1,.inr ⟨s,_,h1,qC _ _ _ _,k3⟩⟩).eZ o.dst (x:=.undef) (by unfold Rl;rfl)) rfl (fun q _=>(bB.set hl rfl).congr lN) h)
       simp only[bq,hop,h2,k1,Option.bind_some]
       rw[if_pos ⟨by rw[hsz,h6.length,dY c1],k2,F8 c3 h6⟩]
      ·cases h
     ·cases hst
    ·cases hst
   ·cases hst
  ·split at h
   ·rename_i v st' hr
    rw[←hop] at hr
    obtain⟨y,σ',ρ',h1,h2,h3,h4,h5⟩:=sj hR hF bQ .nil hi hr
    exact hs y σ' h1 (hk ρ' _ y σ' (h2.eZ o.dst h4) h3 (fun p hp=>(h5 p hp).congr lN) h)
   ·cases h
 ·rename_i t m y ok hop
  split at h
  ·rename_i ks vs q z hsm
   unfold Qy at hsm
   split at hsm
   ·rename_i p hm
    split at hsm
    ·rename_i ks' vs' hl
     split at hsm
     ·rename_i q' kt et hq ht
      split at hsm
      ·rename_i z' hz
       obtain⟨hkey,hsm⟩:=dQ hsm
       cases hsm
       obtain⟨s,a1,a2⟩:=(bA (E:=E) hi .nil hm).um
       obtain⟨s',k0,l0,b1,b2,b3,b4⟩:=hi.rd hl
       rw[a1] at b1;cases b1
       have hqr:=bA (E:=E) hi .nil hq
       obtain⟨zv,z1,z2⟩:=AU (ρ:=ρ) (top:=σ.top) hz
       obtain⟨v,bb,w,r,c1,c2,c3,c4⟩:=Yq hqr z2 h b3 b4
       have hlk:rE E.P σ t (fr.ev E m) (fr.ev E y) ok=some (if ok then .bP [w,.bool bb] else w):=by
        rw[XK,ht];simp only[Option.bind_some]
        rw[if_pos (Yk hkey hqr),a2]
        show (σ.fH (1,p) s).bind _=_
        rw[b2];simp only[Option.bind_some,c2]
        cases r with
        |none=>simp only[z1,Option.map_some];obtain⟨e1,e2⟩:=c3.1 rfl;rw[e1,e2]
        |some u=>simp only[Option.map_some];obtain⟨e1,e2⟩:=c3.2 u rfl;rw[e1,e2]
       refine hs _ σ (.iO (o:=o) ?_) (hk ρ _ (if ok then .bP [w,.bool bb] else w) σ (hi1.eZ o.dst ?_) rfl (fun p _=>bB.same (by first|exact lN|rfl)) c4)
       ·simp only[bq,hop,hlk,Option.map_some]
       ·cases ok
        ·exact c1
        ·rw[cond_true,if_pos rfl];unfold Rl;exact⟨_,rfl,.cons' c1 (.cons' (by unfold Rl;rfl) rfl)⟩
      ·cases hsm
     ·cases hsm
    ·cases hsm
   ·cases hsm
  ·split at h
   ·rename_i v hr
    rw[←hop] at hr
    obtain⟨y,h1,h2⟩:=sj hR hF bQ .nil hi hr
    exact hs y σ h1 (hk ρ _ y σ (hi1.eZ o.dst h2) rfl (fun p _=>bB.same (by first|exact lN|rfl)) h)
   ·cases h
 ·split at h
  ·rename_i v hr
   obtain⟨y,h1,h2⟩:=sj hR hF bQ .nil hi hr
   exact hs y σ h1 (hk ρ _ y σ (hi1.eZ o.dst h2) rfl (fun p _=>bB.same (by first|exact lN|rfl)) h)
  ·rename_i c v hr
   obtain⟨hc,h⟩:=dQ h
   obtain⟨y,h1,h2⟩:=sj hR hF bQ .nil hi hr hc
   exact hs y σ h1 (hk ρ _ y σ (hi1.eZ o.dst h2) rfl (fun p _=>bB.same (by first|exact lN|rfl)) h)
  ·rename_i v st' hr
   obtain⟨y,σ',ρ',h1,h2,h3,h4,h5⟩:=sj hR hF bQ .nil hi hr
   exact hs y σ' h1 (hk ρ' _ y σ' (h2.eZ o.dst h4) h3 (fun p hp=>(h5 p hp).congr lN) h)
  ·rename_i c v st' hr
   obtain⟨hc,h⟩:=dQ h
   obtain⟨y,σ',ρ',h1,h2,h3,h4,h5⟩:=sj hR hF bQ .nil hi hr hc
   exact hs y σ' h1 (hk ρ' _ y σ' (h2.eZ o.dst h4) h3 (fun p hp=>(h5 p hp).congr lN) h)
  ·rename_i α z q f hr
   obtain⟨a,ha,h⟩:=Option.bind_eq_some_iff.1 h
   obtain⟨y,h1,h2⟩:=sj hR hF bQ .nil hi hr a ha
   exact hs y σ h1 (hk ρ _ y σ (hi1.eZ o.dst h2) rfl (fun p _=>bB.same (by first|exact lN|rfl)) h)
  ·cases h
omit hR in
theorem A9 (hi:aG ρ b st fr σ):∀(n j:Nat) (w c:Bool) (g:List (Nat×Bool)),lJ st n j w=some (c,g)→(c=true→fr.tm j= .bool w∧ni fr g)∧(c=false→fr.tm j= .bool (!w)∨fr.tm j=ay)∧(g=[(j,w)]→c=false→fr.tm j= .bool (!w))
 |0,j,w,c,g,h=>by cases h
 |n+1,j,w,c,g,h=>by
  have key:∀(i:Nat) (u a:Bool) (y:TV R.T),look st.fr j=some (.opt i u y)→(∀v,Rl R ρ σ.top y v→v= .bool a)→(match lJ st n i u with
   |some (c,g)=>some (Qx c (Al a w),(j,w)::g)
   |none=>none)=some (c,g)→(c=true→fr.tm j= .bool w∧ni fr g)∧(c=false→fr.tm j= .bool (!w)∨fr.tm j=ay)∧(g=[(j,w)]→c=false→fr.tm j= .bool (!w)):=by
   intro i u a y hl hy h
   split at h
   ·rename_i c0 g0 he
    cases h
    obtain⟨h1,h2,h3⟩:=A9 hi n i u c0 g0 he
    have hr:=hi.fr _ _ hl
    have hg0:g0≠[]:=by
     rintro rfl
     cases n with
     |zero=>cases he
     |succ n=>
      unfold lJ at he
      split at he
      ·cases he
      ·split at he<;>cases he
      ·split at he<;>cases he
      ·cases he
    refine⟨fun hc=> ?_,fun hc=> ?_,fun hg=>absurd (by simpa using hg) hg0⟩
    ·cases c0 with
     |false=>cases hc
     |true=>
      obtain⟨a1,a2⟩:=h1 rfl
      have hv:=hy _ (hr.1 a1)
      have hc':Al a w=true:=hc
      have:a=w:=by cases a<;>cases w<;>first|rfl|cases hc'
      subst this
      exact⟨hv,.cons hv a2⟩
    ·cases c0 with
     |false=>exact .inr (hr.2 (h2 rfl))
     |true=>
      obtain⟨a1,a2⟩:=h1 rfl
      have hv:=hy _ (hr.1 a1)
      have hc':Al a w=false:=hc
      have:a= !w:=by cases a<;>cases w<;>first|rfl|cases hc'
      subst this
      exact .inl hv
   ·cases h
  unfold lJ at h
  split at h
  ·rename_i a hl
   cases h
   have hv:=(show Rl R ρ σ.top (.bool a) (fr.tm j) from hi.fr _ _ hl).oM
   refine⟨fun hc=> ?_,fun hc=>.inl ?_,fun _ hc=> ?_⟩
   ·have:a=w:=by cases a<;>cases w<;>first|rfl|cases hc
    subst this;exact⟨hv,.cons hv .nil⟩
   ·have:a= !w:=by cases a<;>cases w<;>first|rfl|cases hc
    subst this;exact hv
   ·have:a= !w:=by cases a<;>cases w<;>first|rfl|cases hc
    subst this;exact hv
  ·rename_i i u a hl;exact key i u a _ hl (fun v hv=>hv.oM) h
  ·rename_i i u a hl;exact key i u a _ hl (fun v hv=>hv.qH) h
  ·cases h
omit hR in
theorem Yr {all:List Oper} (hi:aG ρ b st fr σ):match Li all st o with
 |.run=>dU all fr o=some true
 |.skip=>dU all fr o=some false
 |.dyn j w c g=>(∃n,lJ st n j w=some (c,g))∧dU all fr o=some c
 |.no=>True:=by
 unfold Li dU
 cases hg:o.guard with
 |none=>rfl
 |some p=>
  obtain⟨j,w⟩:=p
  dsimp only
  cases hj:all[j]? with
  |none=>rfl
  |some p=>
   simp only[Option.bind_some]
   cases hd:p.dst with
   |none=>rfl
   |some t=>
    dsimp only
    have dyn:∀c g,lJ st 12 t w=some (c,g)→(match fr.tm t with
     |.bool b=>some (b==w)
     |.raw _=>none
     |_=>some false)=some c:=by
     intro c g he
     obtain⟨h1,h2,_⟩:=A9 hi 12 t w c g he
     cases c with
     |true=>rw[(h1 rfl).1];simp
     |false=>
      rcases h2 rfl with h2|h2
      ·rw[h2];cases w<;>rfl
      ·rw[h2];rfl
    cases hl:look st.fr t with
    |none=>
     dsimp only
     cases he:lJ st 12 t w with
     |none=>trivial
     |some q=>exact⟨⟨12,he⟩,dyn _ _ he⟩
    |some v=>
     have hr:=hi.fr _ _ hl
     cases v with
     |gU c=>
      have:=(show Rl R ρ σ.top (.gU c) (fr.tm t) from hr).qH
      rw[this]
      cases c<;>cases w<;>rfl
     |undef=>
      have:=(show Rl R ρ σ.top .undef (fr.tm t) from hr).WL
      rw[this];rfl
     |_=>
      dsimp only
      cases he:lJ st 12 t w with
      |none=>trivial
      |some q=>exact⟨⟨12,he⟩,dyn _ _ he⟩
omit hR in
theorem Rw (hi:aG ρ b st fr σ):∀{g:List (Nat×Bool)},ni fr g→(∀j u,(j,u)∈g→fr.tm j= .bool u)→aG ρ b (st.pR g) fr σ∧(st.pR g).ob=st.ob
 | [],_,_=>⟨hi,rfl⟩
 | (j,w)::g,hg,hm=>by
   obtain⟨h1,h2⟩:=Rw hi (g:=g) (fun i u h=>by
    exact hm i u (by
     have:∀g:List (Nat×Bool),look g i=some u→(i,u)∈g:=by
      intro g
      induction g with
      |nil=>intro h;cases h
      |cons p g ih=>
       intro h
       obtain⟨k,v⟩:=p
       by_cases e:i=k
       ·subst e;rw[lM] at h;cases h;simp
       ·rw[jq _ _ e] at h;simp[ih h]
     exact List.mem_cons_of_mem _ (this g h))) (fun i u h=>hm i u (by simp[h]))
   exact⟨h1.learn (hm j w (by simp)),h2⟩
omit hR in
theorem Rx (hi:aG ρ b st fr σ):∀(n j:Nat) (w:Bool) (g:List (Nat×Bool)),lJ st n j w=some (true,g)→∀i u,(i,u)∈g→fr.tm i= .bool u
 |0,j,w,g,h=>by cases h
 |n+1,j,w,g,h=>by
  have hj:=((A9 hi (n+1) j w true g h).1 rfl).1
  unfold lJ at h
  split at h
  ·simp only[Option.some.injEq,Prod.mk.injEq] at h
   obtain⟨_,rfl⟩:=h
   intro i u hm;simp at hm;obtain⟨rfl,rfl⟩:=hm;exact hj
  all_goals first
   | (split at h
      ·rename_i c0 g0 he
       simp only[Option.some.injEq,Prod.mk.injEq] at h
       obtain⟨hc,rfl⟩:=h
       cases c0 with
       |false=>cases hc
       |true=>
        intro i u hm
        rcases List.mem_cons.1 hm with hm|hm
        ·cases hm;exact hj
        ·exact Rx hi n _ _ g0 he i u hm
      ·cases h)
   |cases h
omit hR in
theorem Yt (hi:aG ρ b st fr σ) {n j:Nat} {w:Bool} {g:List (Nat×Bool)} (hj:lJ st n j w=some (false,g)):aG ρ b (st.vE g) fr σ∧(st.vE g).ob=st.ob:=by
 obtain⟨_,_,e3⟩:=A9 hi n j w false g hj
 rcases g with _| ⟨⟨j',w'⟩,_| ⟨p,g⟩⟩
 ·exact⟨hi,rfl⟩
 ·have hj':j'=j∧w'=w:=by
   cases n with
   |zero=>cases hj
   |succ n=>
    unfold lJ at hj
    split at hj
    ·simp only[Option.some.injEq,Prod.mk.injEq,List.cons.injEq] at hj
     exact⟨hj.2.1.1.symm,hj.2.1.2.symm⟩
    ·split at hj
     ·simp only[Option.some.injEq,Prod.mk.injEq,List.cons.injEq] at hj
      exact⟨hj.2.1.1.symm,hj.2.1.2.symm⟩
     ·exact absurd hj (by simp)
    ·split at hj
     ·simp only[Option.some.injEq,Prod.mk.injEq,List.cons.injEq] at hj
      exact⟨hj.2.1.1.symm,hj.2.1.2.symm⟩
     ·exact absurd hj (by simp)
    ·exact absurd hj (by simp)
  obtain⟨rfl,rfl⟩:=hj'
  exact⟨hi.learn (e3 rfl rfl),rfl⟩
 ·exact⟨hi,rfl⟩
theorem air {om:Bool} {β:Type} {F:Nat→List (FR R)} (hF:aS E F) (bQ:ρ.om=om) (hi:aG ρ aB st fr σ) {j n:Nat} {w c:Bool} {g:List (Nat×Bool)} (hj:lJ st n j w=some (c,g)) {k:MS R.T→Option β} {x:β} (h:QA E R om F o j w c g st k=some x) {G:Prop} {rest:Fr→ah→Prop}
 (hs:c=true→∀y σ',kE E fr σ aB o y σ'→rest (fr.put o.dst y) σ'→G) (hs':c=false→rest (fr.put o.dst ay) σ→G)
 (hk:∀ρ' st' y σ',aG ρ' (aB+1) st' (fr.put o.dst y) σ'→σ'.next=σ.next→(∀p,o.dst≠some p→bB true p st ρ σ st' ρ' σ')→k st'=some x→rest (fr.put o.dst y) σ'):G:=by
 have hi1:=hi.le (Nat.le_succ aB)
 obtain⟨e1,e2,e3⟩:=A9 hi n j w c g hj
 have Ry:(bif c then runM E R om F o (st.pR g) k else k ((st.vE g).eZ o.dst .undef))=some x→G:=by
  intro h
  cases c with
  |true=>
   obtain⟨l1,l2⟩:=Rw hi (e1 rfl).2 (Rx hi n j w g hj)
   exact Rv hR hF bQ l1 h (hs rfl) (fun ρ' st' y σ' a b c d=>hk ρ' st' y σ' a b (fun p hp=>(c p hp).from l2) d)
  |false=>
   obtain⟨n1,n2⟩:=Yt hi hj
   have hN:aG ρ (aB+1) (st.vE g) fr σ∧(st.vE g).ob=st.ob:=⟨n1.le (Nat.le_succ _),n2⟩
   refine hs' rfl (hk ρ _ ay σ (hN.1.eZ o.dst (by unfold Rl;rfl)) rfl (fun p _=>bB.same (lN.trans hN.2)) h)
 unfold QA at h
 split at h
 ·rename_i d hd
  have hput:aZ d (g.map (·.1))=false→∀(v:TV R.T) (y:V),(c=true→Rl R ρ σ.top v y)→(c=false→y=ay)→aG ρ (aB+1) (st.put d (.opt j w v)) (fr.put o.dst y) σ:=by
   intro hdj v y h1 h2
   have hne:(fr.set d y).tm j=fr.tm j:=by
    refine tV _ _ ?_
    cases n with
    |zero=>cases hj
    |succ n=>
     have hmem:aZ d (g.map (·.1))=false:=hdj
     have:∃g',g=(j,w)::g':=by
      unfold lJ at hj
      split at hj
      ·cases hj;exact⟨[],rfl⟩
      all_goals first
       | (split at hj
          ·simp only[Option.some.injEq,Prod.mk.injEq] at hj
           exact⟨_,hj.2.symm⟩
          ·cases hj)
       |cases hj
     obtain⟨g',rfl⟩:=this
     have h':(Nat.beq d j||aZ d (g'.map (·.1)))=false:=hmem
     rw[Bool.or_eq_false_iff] at h'
     simpa using (Ls h'.1).symm
   rw[hd,Fu]
   refine hi1.put d ⟨fun hc=> ?_,fun hc=> ?_⟩
   ·rw[hne] at hc
    refine h1 ?_
    cases c with
    |true=>rfl
    |false=>
     rcases e2 rfl with e|e
     ·rw[e] at hc;cases w<;>cases hc
     ·rw[e] at hc;cases hc
   ·rw[hne] at hc
    refine h2 ?_
    cases c with
    |false=>rfl
    |true=>
     rw[(e1 rfl).1] at hc
     rcases hc with hc|hc
     ·cases w<;>cases hc
     ·cases hc
  cases hdj:aZ d (g.map (·.1))
  ·rw[hdj] at h
   simp only[cond_false] at h
   split at h
   ·rename_i v hr
    cases c with
    |true=>
     obtain⟨y,h1,h2⟩:=sj hR hF bQ (e1 rfl).2 hi hr
     exact hs rfl y σ h1 (hk ρ _ y σ (hput hdj v y (fun _=>h2) (fun h=>by cases h)) rfl (fun p _=>bB.same rfl) h)
    |false=>exact hs' rfl (hk ρ _ ay σ (hput hdj v ay (fun h=>by cases h) (fun _=>rfl)) rfl (fun p _=>bB.same rfl) h)
   ·rename_i q v hr
    obtain⟨hq,hh⟩:=dQ h
    clear h
    cases c with
    |true=>
     obtain⟨y,h1,h2⟩:=sj hR hF bQ (e1 rfl).2 hi hr hq
     exact hs rfl y σ h1 (hk ρ _ y σ (hput hdj v y (fun _=>h2) (fun h=>by cases h)) rfl (fun p _=>bB.same rfl) hh)
    |false=>exact hs' rfl (hk ρ _ ay σ (hput hdj v ay (fun h=>by cases h) (fun _=>rfl)) rfl (fun p _=>bB.same rfl) hh)
   ·rename_i α z q f hr
    obtain⟨a,ha,hh⟩:=Option.bind_eq_some_iff.1 h
    clear h
    cases c with
    |true=>
     obtain⟨y,h1,h2⟩:=sj hR hF bQ (e1 rfl).2 hi hr a ha
     exact hs rfl y σ h1 (hk ρ _ y σ (hput hdj _ y (fun _=>h2) (fun h=>by cases h)) rfl (fun p _=>bB.same rfl) hh)
    |false=>exact hs' rfl (hk ρ _ ay σ (hput hdj _ ay (fun h=>by cases h) (fun _=>rfl)) rfl (fun p _=>bB.same rfl) hh)
   ·exact Ry h
  ·rw[hdj] at h
   exact Ry h
 ·exact Ry h
omit hR in
theorem L8 {ρ':aO} {st':MS R.T} {σ':ah} (h:∀p,o.dst≠some p→bB true p st ρ σ st' ρ' σ'):ρ'.om=ρ.om:=by
 cases hd:o.dst with
 |none=>exact(h 0 (by rw[hd];simp)).om
 |some d=>exact(h (d+1) (by rw[hd];simp)).om
omit hR in
theorem Yu {os:List Oper} {p:Nat} (h:aZ p (mW (o::os))=false):o.dst≠some p∧aZ p (mW os)=false:=by
 unfold mW at h
 split at h
 ·rename_i d hd
  have h':(Nat.beq p d||aZ p (mW os))=false:=h
  rw[Bool.or_eq_false_iff] at h'
  refine⟨fun e=> ?_,h'.2⟩
  rw[hd] at e;cases e;rw[Nat.beq_refl] at h';exact absurd h'.1 (by simp)
 ·rename_i hd
  refine⟨fun e=> ?_,h⟩
  rw[hd] at e;cases e
omit hR in
theorem L9 (hi:aG ρ b st fr σ) (h:qF E st o=false):xQ E fr o=false:=by
 unfold qF at h
 unfold xQ
 split at h
 ·rename_i c hc
  rw[hc]
  dsimp only
  split at h
  ·rename_i f hf
   rw[hf]
   dsimp only
   split at h
   ·rename_i g a' b' hv
    obtain⟨va,vb,h1,_,_⟩:=(bA (E:=E) hi .nil hv).mZ
    unfold lu
    rw[h1]
    split at h
    ·rename_i d hd;rw[hd];exact h
    ·rename_i hd;rw[hd]
   ·cases h
  ·rename_i hne
   split
   ·rename_i f hf;exact absurd hf (hne f)
   ·rfl
 ·rename_i hne
  split
  ·rename_i c hc;exact absurd hc (hne c)
  ·rfl
theorem ais {k k':Sk} {l:List Sk} {c:TV R.T} {cs:List (TV R.T)} {p:aj R.T (k::k'::l)} (h:gD R (k::k'::l) (c::cs)=some p):
 ∃x q,pk R k c=some x∧gD R (k'::l) cs=some q∧p=(x,q):=by
 have h':(match pk R k c with
  |some x=>match gD R (k'::l) cs with
   |some p=>some (x,p)
   |none=>none
  |none=>none)=some p:=h
 cases hu:pk R k c with
 |none=>rw[hu] at h';cases h'
 |some u=>
  rw[hu] at h';dsimp only at h'
  cases hq:gD R (k'::l) cs with
  |none=>rw[hq] at h';cases h'
  |some q=>rw[hq] at h';cases h';exact⟨u,q,rfl,rfl,rfl⟩
theorem Yv {F:Nat→List (FR R)} (hF:aS E F) {f:Nat} {args:List (TV R.T)} {Gg:List V} (ha:aA R ρ σ.top args Gg) (hi:aG ρ b st fr σ):∀{l:List (FR R)} {τ:Ty} {x:Option (List (Den R.T τ))},(∀r∈l,r∈F f)→Am R args (l7 st args) l=some ⟨τ,x⟩→
 ∀y,x=some y→∃as,tK (E.tJ f) σ Gg=some as∧Gg.all (fun x=>aC (er x))=true∧lZ E f as (cZ R τ) (y.map (aF R τ))
 | [],τ,x,_,h=>by cases h
 | ⟨as,res,G,d0,own⟩::l,τ,x,hl,h=>by
   have rest:Am R args (l7 st args) l=some ⟨τ,x⟩→∀y,x=some y→∃as,tK (E.tJ f) σ Gg=some as∧Gg.all (fun x=>aC (er x))=true∧lZ E f as (cZ R τ) (y.map (aF R τ)):=fun h=>Yv hF ha hi (fun r hr=>hl r (List.mem_cons_of_mem _ hr)) h
   unfold Am at h
   split at h
   ·cases h
   ·rename_i as' τ' G' d' l' heq
    obtain⟨e1,e2⟩:=List.cons.inj heq
    subst e2
    cases e1
    split at h
    ·rename_i p hp
     obtain⟨hc,h⟩:=dQ h
     cases h
     simp only[Bool.and_eq_true] at hc
     obtain⟨⟨c1,c2⟩,c3⟩:=hc
     intro y hy
     have hb:=(hF f ⟨as,[.d (.slice τ)],G',d',true⟩ (hl _ (List.mem_cons_self ..)) p y hy).2 rfl τ rfl y rfl
     cases hn:iN as with
     |true=>
      obtain⟨b1,b2⟩:=hb.1 hn
      obtain⟨vs',v1,v2⟩:=F9 hR hi ha
      have Gb:=pY hR as p (l7 st args) _ hn hp v1 20 σ (by have:=Nat.le_of_ble_eq_true c2;omega)
      exact⟨_,by rw[b1];unfold tK;rw[if_neg (by simp)];exact(v2 16).trans Gb,Ga hR c3 ha,b2⟩
     |false=>
      obtain⟨b1,b2⟩:=hb.2 hn
      rw[hn,Bool.false_or] at c1
      cases as with
      |nil=>cases c1
      |cons k as=>
      cases k<;>first| (cases c1;done)|skip
      cases as with
      |nil=>cases c1
      |cons k' as=>
      cases args with
      |nil=>exact absurd (show none=some p from hp) (by simp)
      |cons c args=>
      obtain⟨v,vs,rfl,h1,h2⟩:=ha.eD
      have hp0:gD R (.dG::k'::as) (xD st c::l7 st args)=some p:=by simpa only[l7] using hp
      obtain⟨u,q,hu,q1,hpq⟩:=ais hR hp0
      have hc:c= .dG:=by
       have hp':(pk R .dG (xD st c)).isSome=true:=by rw[hu];rfl
       cases c<;>first|rfl|skip
       all_goals
        exfalso
        revert hp'
        unfold xD rV
        repeat' split
        all_goals (intro h;cases h)
      subst hc
      have q2:X9 (au R (.dG::k'::as) p)= .ak .nil []::au R (k'::as) q:=by rw[hpq];rfl
      rw[h1.nT]
      obtain⟨vs',v1,v2⟩:=F9 hR hi h2
      have Gb:=pY hR (k'::as) q (l7 st args) _ c1 q1 v1 20 σ (by have h9:=Nat.le_of_ble_eq_true c2;rw[mU] at h9;omega)
      rw[q2] at b2
      refine⟨_,by rw[b1];unfold tK;rw[if_pos rfl];dsimp only;rw[v2 16,Gb];rfl, ?_,b2⟩
      have:=Ga hR c3 ha
      rw[h1.nT] at this
      exact this
    ·exact rest h
   ·rename_i heq
    obtain⟨_,e2⟩:=List.cons.inj heq
    subst e2
    exact rest h
theorem ait {β:Type} {F:Nat→List (FR R)} (hF:aS E F) (hi:aG ρ aB st fr σ) {k:MS R.T→Option β} {x:β} (h:QB R F o st k=some x) (hown:qF E st o=true) {all os:List Oper} {Q:Fr→ah→Prop} (hw:dU all fr o=some true)
 (hk:∀(ρ':aO) (st':MS R.T) (y:V) (σ':ah),aG ρ' (aB+1) st' (fr.put o.dst y) σ'→σ'.next=σ.next→(∀p,o.dst≠some p→bB true p st ρ σ st' ρ' σ')→k st'=some x→OW E all (aB+1) os (fr.put o.dst y) σ' Q):OW E all aB (o::os) fr σ Q:=by
 unfold QB at h
 split at h
 ·rename_i c d ho hd
  split at h
  ·rename_i f fK
   split at h
   ·rename_i g a' b' vs hf hvs
    split at h
    ·rename_i τ xo hfo
     obtain⟨l,hl,h⟩:=Option.bind_eq_some_iff.1 h
     obtain⟨va,vb,h1,h2,h3⟩:=(bA (E:=E) hi .nil hf).mZ
     have hrel:=(h2.append (vL (E:=E) hi .nil hvs)).append h3
     obtain⟨as,has,hcl,hO⟩:=Yv hR hF hrel hi (fun _ hr=>hr) hfo l hl
     have hg:E.own g d=true:=by
      unfold qF at hown
      rw[ho] at hown
      dsimp only at hown
      rw[fK] at hown
      dsimp only at hown
      rw[hf] at hown
      dsimp only at hown
      rw[hd] at hown
      exact hown
     have hdp:∀y:V,fr.put o.dst y=fr.set d y:=fun y=>by rw[hd];rfl
     refine OW.own hw ho fK h1 hd hg has hO hcl (fun cp hcp=> ?_) ?_
     ·refine hk (ρ.iA d aB) _ _ σ ?_ rfl ?_ h
      ·have e:σ.dn aB (σ.top aB)=σ:=by
        unfold ah.dn
        have:upd σ.top aB (σ.top aB)=σ.top:=by
         funext j;unfold upd;split
         ·rename_i e;rw[e]
         ·rfl
        rw[this]
       have:=hi.wk d aB (σ.top aB) (Nat.le_succ _) (Nat.lt_succ_self _) (fun u _ hu=>by have:=hi.lt u _ hu;omega)
       rw[e] at this
       rw[hdp]
       refine this.put d (.of ?_)
       unfold Rl
       exact⟨cp,rfl,by rcases hcp with rfl|rfl;exact .inl rfl;exact .inr (.inl rfl)⟩
      ·intro p hp
       have e:σ.dn aB (σ.top aB)=σ:=by
        unfold ah.dn
        have:upd σ.top aB (σ.top aB)=σ.top:=by
         funext j;unfold upd;split
         ·rename_i e;rw[e]
         ·rfl
        rw[this]
       have:=(bB.wk (nr:=true) (p:=p) (t:=d) (s:=aB) (n:=σ.top aB) (ρ:=ρ) (st:=st) (σ:=σ))
       rw[e] at this
       exact this.congr rfl
     ·refine hk (ρ.iA d aB) _ _ _ ?_ rfl ?_ h
      ·rw[hdp]
       have:=hi.wk d aB (l.map (aF R τ)).length (Nat.le_succ _) (Nat.lt_succ_self _) (fun u _ hu=>by have:=hi.lt u _ hu;omega)
       refine this.put d (.of ?_)
       unfold Rl
       exact⟨_,rfl,.inr (.inr ⟨aB,rfl,by simp[aO.iA,upd],by rw[Fv,List.length_map]⟩)⟩
      ·intro p hp
       exact(bB.wk (nr:=true) (p:=p)).congr rfl
    ·cases h
   ·cases h
  ·cases h
 ·cases h
theorem Gh {om:Bool} {β:Type} {F:Nat→List (FR R)} (hF:aS E F) {all:List Oper} {k:MS R.T→Option β} {x:β} {Q:Fr→ah→Prop}:∀(os:List Oper) (aB:Nat) (ρ:aO) (st:MS R.T) (fr:Fr) (σ:ah),ρ.om=om→aG ρ aB st fr σ→vF E R om F all os st k=some x→
 (∀ρ' st' fr' σ',aG ρ' (aB+os.length) st' fr' σ'→σ'.next=σ.next→Kp true (mW os) st fr σ ρ st' fr' σ' ρ'→k st'=some x→Q fr' σ')→OW E all aB os fr σ Q
 | [],aB,ρ,st,fr,σ,bQ,hi,h,hq=>OW.nil (hq ρ st fr σ hi rfl .refl h)
 |o::os,aB,ρ,st,fr,σ,bQ,hi,h,hq=>by
  have hg:=Yr (o:=o) (all:=all) hi
  unfold vF at h
  have hW:∀p,aZ p (mW (o::os))=false→o.dst≠some p∧aZ p (mW os)=false:=fun p hp=>Yu hp
  have hq':∀(ρ1:aO) (st1:MS R.T) (y:V) (σ1:ah),(∀p,o.dst≠some p→bB true p st ρ σ st1 ρ1 σ1)→σ1.next=σ.next→∀ρ' st' fr' σ',aG ρ' (aB+1+os.length) st' fr' σ'→σ'.next=σ1.next→Kp true (mW os) st1 (fr.put o.dst y) σ1 ρ1 st' fr' σ' ρ'→k st'=some x→Q fr' σ':=fun ρ1 st1 y σ1 hkp h1 ρ' st' fr' σ' hi' hn su hk=>
   hq ρ' st' fr' σ' (by rw[List.length_cons,Nat.add_comm os.length,←Nat.add_assoc];exact hi') (hn.trans h1) ((Kp.op (fun p hp=>(hW p hp).1) hkp).trans (su.mono fun p hp=>(hW p hp).2)) hk
  split at h
  ·rename_i hgm
   rw[hgm] at hg
   cases hown:qF E st o with
   |true=>
    rw[hown,cond_true] at h
    exact ait hR hF hi h hown hg (fun ρ' st' y σ' hi' hn hkp hk=>Gh hF os (aB+1) ρ' st' _ σ' ((L8 hkp).trans bQ) hi' hk (hq' ρ' st' y σ' hkp hn))
   |false=>
   rw[hown,cond_false] at h
   have iw:=L9 hi hown
   exact Rv hR hF bQ hi h (rest:=fun fr' σ'=>OW E all (aB+1) os fr' σ' Q) (fun y σ' hst hr=>hst.1 iw all os Q hg hr) (fun ρ' st' y σ' hi' hn hkp hk=>Gh hF os (aB+1) ρ' st' _ σ' ((L8 hkp).trans bQ) hi' hk (hq' ρ' st' y σ' hkp hn))
  ·rename_i hgm
   rw[hgm] at hg
   refine OW.skip hg (Gh hF os (aB+1) ρ _ _ σ bQ ?_ h (hq' ρ _ ay σ (fun p _=>bB.same (by first|exact lN|rfl)) rfl))
   exact(hi.le (Nat.le_succ _)).eZ o.dst (by unfold Rl;rfl)
  ·rename_i j w c g hgm
   rw[hgm] at hg
   obtain⟨⟨n,hn⟩,hg2⟩:=hg
   cases hown:(qF E st o||qF E (st.pR g) o) with
   |true=>rw[hown] at h;cases h
   |false=>
   rw[hown,cond_false] at h
   rw[Bool.or_eq_false_iff] at hown
   have iw:=L9 hi hown.1
   exact air hR hF bQ hi hn h (rest:=fun fr' σ'=>OW E all (aB+1) os fr' σ' Q) (fun e y σ' hst hr=>hst.1 iw all os Q (by rw[hg2,e]) hr) (fun e hr=>OW.skip (by rw[hg2,e]) hr)
    (fun ρ' st' y σ' hi' hn hkp hk=>Gh hF os (aB+1) ρ' st' _ σ' ((L8 hkp).trans bQ) hi' hk (hq' ρ' st' y σ' hkp hn))
  ·cases h
omit hR in
theorem aiu {top:Nat→Nat} {x:TV R.T} {v:V} (hg:x≠ .gone) (hv:∀o t,x≠ .vw o t) (h:Rl R ρ top x v):iC v=WK x:=by
 cases x with
 |gone=>exact absurd rfl hg
 |opt j w y=>exact h.WM.elim
 |agg cs=>obtain⟨l,rfl,_⟩:=h.jM;rfl
 |bP cs=>obtain⟨l,rfl,_⟩:=h.Lm;rfl
 |ak c t l=>obtain⟨l,rfl,_⟩:=h.jY;rfl
 |ref p off=>obtain⟨s,_,rfl⟩:=h.mY;rfl
 |cK p=>obtain⟨s,_,rfl⟩:=h.um;rfl
 |aK l p=>obtain⟨s,rfl,_⟩:=h.rZ;rfl
 |fn f a b=>obtain⟨a',b',rfl,_⟩:=h.mZ;rfl
 |vw o t=>exact absurd rfl (hv o t)
 |kg p t i off=>obtain⟨s,_,_,rfl⟩:=h.xK;rfl
 |sv p off k n lo hi=>obtain⟨s,_,_,rfl⟩:=h.vI;rfl
 |sel p off k n i m=>obtain⟨s,_,_,_,rfl⟩:=h.FZ;rfl
 |pJ k n y i=>obtain⟨_,_,rfl⟩:=h.Lp;rfl
 |_=>unfold Rl at h;subst h;rfl
omit hR in
theorem Yw {x:TV R.T} (h:Ap x=true):x≠ .gone∧∀o t,x≠ .vw o t:=⟨(by rintro rfl;cases h),(by rintro o t rfl;cases h)⟩
omit hR in
theorem kF (hi:aG ρ b st fr σ) {x:Operand} {v:TV R.T} (h:bI [] st x=some v) (hg:Ap v=true):uj st x=iC (fr.ev E x):=by
 unfold uj
 rw[h]
 exact(aiu (Yw hg).1 (Yw hg).2 (bA hi .nil h)).symm
omit hR in
theorem Yx (hi:aG ρ b st fr σ):∀{l:List Operand} {vs:List (TV R.T)},l6 [] st l=some vs→vs.all Ap=true→l.flatMap (fun x=>uj st x)=l.flatMap fun x=>iC (fr.ev E x)
 | [],vs,h,_=>rfl
 |x::l,vs,h,hg=>by
  unfold l6 at h
  cases h1:bI [] st x with
  |none=>simp only[h1] at h;cases h
  |some a=>
   cases h2:l6 [] st l with
   |none=>simp only[h1,h2] at h;cases h
   |some as=>
    simp only[h1,h2] at h;cases h
    rw[List.all_cons,Bool.and_eq_true] at hg
    rw[List.flatMap_cons,List.flatMap_cons,kF (E:=E) hi h1 hg.1,Yx hi h2 hg.2]
omit hR in
theorem aiv {om:Bool} {β:Type} {F:Nat→List (FR R)} {k:MS R.T→Option β} {x:β} (h:runM E R om F o st k=some x) (hp:∀c a b,o.op≠ .pick c a b) (hl:∀t m y ok,o.op≠ .lookup t m y ok) (hst:∀t a y,o.op≠ .store t a y):∃r,rX E R om F [] o.dst o.op st=some r:=by
 unfold runM at h
 split at h
 ·rename_i c a b hop;exact absurd hop (hp _ _ _)
 ·rename_i t a y hop;exact absurd hop (hst _ _ _)
 ·rename_i t m y ok hop;exact absurd hop (hl _ _ _ _)
 ·cases hr:rX E R om F [] o.dst o.op st with
  |some r=>exact⟨r,rfl⟩
  |none=>rw[hr] at h;cases h
omit hR in
theorem uE {om:Bool} {F:Nat→List (FR R)} {g:List (Nat×Bool)} {d:Option Nat} {op:Op} {r:dO R} (h:rX E R om F g d op st=some r):nS E R g d op st=some r∨oL E R om F g d op st=some r:=by
 unfold rX at h
 split at h
 ·rename_i r' hx;cases h;exact .inl hx
 ·exact .inr h
omit hR in
theorem Yy {top:Nat→Nat}:∀{x:List (TV R.T)} {v:List V},Ll x=true→aA R ρ top x v→v.all (fun a=>aC (er a))=false
 | [],_,h,_=>by cases h
 |x::l,v,h,hr=>by
  obtain⟨y,ys,rfl,h1,h2⟩:=hr.eD
  rw[List.all_cons]
  by_cases e:∃o off k n lo hi,x= .sv o off k n lo hi
  ·obtain⟨o,off,k,n,lo,hi,rfl⟩:=e
   obtain⟨s,_,_,rfl⟩:=h1.vI
   simp[er,aC]
  ·have h':Ll l=true:=by
    cases x<;>first|exact h|exact absurd ⟨_,_,_,_,_,_,rfl⟩ e
   rw[Yy h' h2,Bool.and_false]
theorem aiw {om:Bool} {β:Type} {F:Nat→List (FR R)} (bQ:ρ.om=om) (hi:aG ρ b st fr σ) {k:MS R.T→Option β} {x:β} (h:runM E R om F o st k=some x) (hd:vH E st o=true):QC E om st o=jh E fr o:=by
 unfold QC jh
 have hop:=aiv h
 cases ho:o.op<;>rw[ho] at hop<;>dsimp only
 case load t a=>
  obtain⟨r,hr⟩:=hop (by simp) (by simp) (by simp)
  rcases uE hr with hr|hr
  ·unfold nS at hr;dsimp only at hr
   split at hr
   ·rename_i gl _
    split at hr
    ·rename_i k n v hg
     obtain⟨cs,_,g1,_⟩:=Rq hg
     have e1:uj st (Operand.global gl)=[]:=rfl
     have e2:iC (fr.ev E (.global gl))=[]:=by rw[Ru hR g1];rfl
     rw[e1,e2]
    ·cases hr
   ·split at hr
    ·rename_i hv;rw[kF (E:=E) hi hv rfl]
    ·rename_i hv;rw[kF (E:=E) hi hv rfl]
    ·rename_i hv;rw[kF (E:=E) hi hv rfl]
    ·cases hr
  unfold oL at hr;dsimp only at hr
  split at hr
  ·rename_i hv;rw[kF (E:=E) hi hv rfl]
  ·rename_i hv;rw[kF (E:=E) hi hv rfl]
  ·rename_i hv;rw[kF (E:=E) hi hv rfl]
  ·cases hr
 case store t a y=>
  have h':=h
  unfold runM at h'
  rw[ho] at h'
  dsimp only at h'
  split at h'
  ·rename_i hst
   unfold Qz at hst
   split at hst
   ·rename_i hv _;rw[kF (E:=E) hi hv rfl]
   ·cases hst
  ·split at h'
   ·rename_i hr
    rcases uE hr with hr|hr
    ·unfold nS at hr;dsimp only at hr
     split at hr
     ·rename_i hv _;rw[kF (E:=E) hi hv rfl]
     ·rename_i hv _;rw[kF (E:=E) hi hv rfl]
     ·cases hr
    unfold oL at hr;dsimp only at hr
    split at hr
    ·rename_i hv _;rw[kF (E:=E) hi hv rfl]
    ·cases hr
   ·cases h'
 case convert a b' y=>
  obtain⟨r,hr⟩:=hop (by simp) (by simp) (by simp)
  rcases uE hr with hr|hr
  ·unfold nS at hr;dsimp only at hr
   split at hr
   ·rename_i hv;rw[kF (E:=E) hi hv rfl]
   ·cases hr
  unfold oL at hr;dsimp only at hr
  split at hr
  ·rename_i v hv
   rw[kF (E:=E) hi hv (by
    unfold K8 at hr
    split at hr<;>first|rfl|cases hr)]
  ·cases hr
 case slice t y lo hi' mx=>
  obtain⟨r,hr⟩:=hop (by simp) (by simp) (by simp)
  cases mx with
  |some m=>
   rcases uE hr with hr|hr
   ·cases hi' with
    |none=>unfold nS at hr;cases hr
    |some h1=>
     unfold nS at hr
     dsimp only at hr
     split at hr
     ·rename_i hv _ _ _;rw[kF (E:=E) hi hv rfl]
     ·cases hr
   ·unfold oL at hr;cases hr
  |none=>
   rcases uE hr with hr|hr
   ·unfold nS at hr;dsimp only at hr
    split at hr
    ·rename_i v hv
     have key:∀lo hi,vD E R t v lo hi st=some r→Ap v=true:=by
      intro lo hi hs
      unfold vD at hs
      split at hs<;>first|rfl|cases hs
     rw[kF (E:=E) hi hv (by
      split at hr
      ·exact key _ _ hr
      ·split at hr
       ·exact key _ _ hr
       ·cases hr
      ·split at hr
       ·exact key _ _ hr
       ·cases hr
      ·split at hr
       ·exact key _ _ hr
       ·cases hr)]
    ·cases hr
   unfold oL at hr;dsimp only at hr
   split at hr
   ·rename_i v hv
    have key:∀lo hi,vv E R t v lo hi=some r→Ap v=true:=by
     intro lo hi hs
     unfold vv at hs
     split at hs
     ·split at hs<;>first|rfl|cases hs
     ·cases hs
    rw[kF (E:=E) hi hv (by
     split at hr
     ·exact key _ _ hr
     ·split at hr
      ·exact key _ _ hr
      ·cases hr
     ·split at hr
      ·exact key _ _ hr
      ·cases hr
     ·split at hr
      ·exact key _ _ hr
      ·cases hr)]
   ·cases hr
 case lookup t m y ok=>
  have h':=h
  unfold runM at h'
  rw[ho] at h'
  dsimp only at h'
  split at h'
  ·rename_i hsm
   unfold Qy at hsm
   split at hsm
   ·rename_i hv;rw[kF (E:=E) hi hv rfl]
   ·cases hsm
  ·split at h'
   ·rename_i hr
    rcases uE hr with hr|hr
    ·unfold nS at hr;cases hr
    unfold oL at hr;dsimp only at hr
    split at hr
    ·rename_i hv _
     rw[kF (E:=E) hi hv (by
      unfold K9 at hr
      split at hr<;>first|rfl|cases hr)]
    ·cases hr
   ·cases h'
 case mapUpdate t m k' v=>
  obtain⟨r,hr⟩:=hop (by simp) (by simp) (by simp)
  rcases uE hr with hr|hr
  ·unfold nS at hr;cases hr
  unfold oL at hr;dsimp only at hr
  split at hr
  ·rename_i hv _ _
   rw[kF (E:=E) hi hv (by
    unfold Ad at hr
    split at hr<;>first|rfl|cases hr)]
  ·cases hr
 case insert t m k' v=>
  obtain⟨r,hr⟩:=hop (by simp) (by simp) (by simp)
  rcases uE hr with hr|hr
  ·unfold nS at hr;cases hr
  unfold oL at hr;dsimp only at hr
  split at hr
  ·rename_i hv _ _
   rw[kF (E:=E) hi hv (by
    unfold Ad at hr
    split at hr<;>first|rfl|cases hr)]
  ·cases hr
 case alloc t=>unfold Ao oq;rw[hi.d];rfl
 case box t y=>unfold Ao oq;rw[hi.d];rfl
 case makeMap t y=>unfold Ao oq;rw[hi.d];rfl
 case makeSlice t y z=>unfold Ao oq;rw[hi.d];rfl
 case call c=>
  obtain⟨r,hr⟩:=hop (by simp) (by simp) (by simp)
  unfold vH at hd;rw[Bool.and_eq_true,Bool.not_eq_true'] at hd
  obtain⟨hown,hd⟩:=hd
  rw[ho] at hd;dsimp only at hd
  cases hc:c.callee with
  |invoke y m=>rfl
  |builtin bi=>
   rw[hc] at hd;dsimp only at hd
   split at hd
   ·rename_i vs hvs
    have:=Yx (E:=E) hi hvs hd
    cases bi<;>dsimp only<;>(try rw[this])<;>(try rfl)
    rw[hi.om,bQ];cases om<;>rfl
   ·cases hd
  |value f=>
   rcases uE hr with hr|hr
   ·unfold nS at hr;dsimp only at hr;rw[hc] at hr;cases hr
   unfold oL at hr;dsimp only at hr
   rw[hc] at hd hr;dsimp only at hd hr
   split at hd
   ·rename_i f' a' b' vs hf hvs
    simp only[hf,hvs] at hr
    cases himp:E.imp f' with
    |true=>rw[himp] at hr;cases hr
    |false=>
     obtain⟨va,vb,h1,h2,h3⟩:=(bA (E:=E) hi .nil hf).mZ
     dsimp only;rw[hf,h1];dsimp only
     have iw:lu E fr o f=false:=by
      have:=L9 hi hown
      unfold xQ at this
      rw[ho] at this;dsimp only at this
      rw[hc] at this;exact this
     simp only[himp,iw,Bool.false_eq_true,if_false]
     rw[hvs];dsimp only
     have hrel:=(h2.append (vL (E:=E) hi .nil hvs)).append h3
     cases hcl:vk (a'++vs++b') with
     |true=>rw[Ga hR hcl hrel]
     |false=>
      rw[hcl,Bool.false_or] at hd
      rw[Yy hd hrel]
   ·cases hd
theorem aix {om:Bool} {β:Type} {F:Nat→List (FR R)} (bQ:ρ.om=om) (hi:aG ρ b st fr σ) {k:MS R.T→Option β} {x:β} {all:List Oper} (h:runM E R om F o st k=some x) (hd:vH E st o=true):vG E om all st o true=gy E all fr o true:=by
 unfold vG gy
 rw[aiw hR bQ hi h hd]
theorem Ma {om:Bool} {β:Type} {F:Nat→List (FR R)} (hF:aS E F) {ms:List Nat} {all:List Oper} {k:MS R.T→Option β} {x:β} {Q:Fr→ah→Prop}:∀(os:List Oper) (aB:Nat) (ρ:aO) (st:MS R.T) (fr:Fr) (σ:ah) (fs:List eT),ρ.om=om→aG ρ aB st fr σ→qG E R om F ms all os st fs k=some x→
 (∀ρ' st' fr' σ',aG ρ' (aB+os.length) st' fr' σ'→σ'.next=σ.next→Kp true (mW os) st fr σ ρ st' fr' σ' ρ'→k st'=some x→Q fr' σ')→eu E ms all aB os fr σ fs Q
 | [],aB,ρ,st,fr,σ,fs,bQ,hi,h,hq=>by
   unfold qG at h
   obtain⟨h1,h⟩:=dQ h
   exact eu.nil h1 (hq ρ st fr σ hi rfl .refl h)
 |o::os,aB,ρ,st,fr,σ,fs,bQ,hi,h,hq=>by
  have hg:=Yr (o:=o) (all:=all) hi
  unfold qG at h
  have hW:∀p,aZ p (mW (o::os))=false→o.dst≠some p∧aZ p (mW os)=false:=fun p hp=>Yu hp
  have hq':∀(ρ1:aO) (st1:MS R.T) (y:V) (σ1:ah),(∀p,o.dst≠some p→bB true p st ρ σ st1 ρ1 σ1)→σ1.next=σ.next→∀ρ' st' fr' σ',aG ρ' (aB+1+os.length) st' fr' σ'→σ'.next=σ1.next→Kp true (mW os) st1 (fr.put o.dst y) σ1 ρ1 st' fr' σ' ρ'→k st'=some x→Q fr' σ':=fun ρ1 st1 y σ1 hkp h1 ρ' st' fr' σ' hi' hn su hk=>
   hq ρ' st' fr' σ' (by rw[List.length_cons,Nat.add_comm os.length,←Nat.add_assoc];exact hi') (hn.trans h1) ((Kp.op (fun p hp=>(hW p hp).1) hkp).trans (su.mono fun p hp=>(hW p hp).2)) hk
  have run:∀(st1:MS R.T),st1.ob=st.ob→aG ρ aB st1 fr σ→dU all fr o=some true→(bif !(vH E st1 o) then none else runM E R om F o st1 (fun st'=>qG E R om F ms all os st' (fs++[vG E om all st1 o true]) k))=some x→eu E ms all aB (o::os) fr σ fs Q:=by
   intro st1 wW hi hg h
   have hkq:∀(st':MS R.T) (ρ':aO) (σ':ah),(∀p,o.dst≠some p→bB true p st1 ρ σ st' ρ' σ')→∀p,o.dst≠some p→bB true p st ρ σ st' ρ' σ':=fun st' ρ' σ' h p hp=>(h p hp).from wW
   cases hd:vH E st1 o
   ·rw[hd] at h;cases h
   ·rw[hd] at h
    have h':runM E R om F o st1 (fun st'=>qG E R om F ms all os st' (fs++[vG E om all st1 o true]) k)=some x:=h
    have hf:=aix hR (all:=all) bQ hi h' hd
    rw[hf] at h'
    exact Rv hR hF bQ hi h' (rest:=fun fr' σ'=>eu E ms all (aB+1) os fr' σ' (fs++[gy E all fr o true]) Q) (fun y σ' hst hr=>hst.2 (L9 hi (by unfold vH at hd;rw[Bool.and_eq_true,Bool.not_eq_true'] at hd;exact hd.1)) ms all os fs Q hg hr) (fun ρ' st' y σ' hi' hn hkp hk=>Ma hF os (aB+1) ρ' st' _ σ' _ ((L8 hkp).trans bQ) hi' hk (hq' ρ' st' y σ' (hkq st' ρ' σ' hkp) hn))
  split at h
  ·rename_i hgm
   rw[hgm] at hg
   exact run st rfl hi hg h
  ·rename_i hgm
   rw[hgm] at hg
   refine eu.skip hg (Ma hF os (aB+1) ρ _ _ σ _ bQ ?_ h (hq' ρ _ ay σ (fun p _=>bB.same (by first|exact lN|rfl)) rfl))
   exact(hi.le (Nat.le_succ _)).eZ o.dst (by unfold Rl;rfl)
  ·rename_i j w c g hgm
   rw[hgm] at hg
   obtain⟨⟨n,hn⟩,hg2⟩:=hg
   obtain⟨e1,e2,e3⟩:=A9 hi n j w c g hn
   cases c with
   |true=>
    obtain⟨l1,l2⟩:=Rw hi (e1 rfl).2 (Rx hi n j w g hn)
    exact run (st.pR g) l2 l1 hg2 h
   |false=>
    obtain⟨l1,l2⟩:=Yt hi hn
    exact eu.skip hg2 (Ma hF os (aB+1) ρ _ _ σ _ bQ ((l1.le (Nat.le_succ _)).eZ o.dst (by unfold Rl;rfl)) h (hq' ρ _ ay σ (fun p _=>bB.same (lN.trans l2)) rfl))
  ·cases h
end
end Aq
end
section
namespace Aq
open Go
section
variable {E:Env} {fr:Fr} {σ:ah}
def ah.enter (σ:ah) (fr:Fr) (ps:Array Tmp) (dM body:Code):ah:=({σ with next:=σ.next+1}:ah).fA σ.next {st:=0,pend:=none,fr:=fr,ps:=ps.toList,dM:=dM,body:=body}
def uF (E:Env) (l:Nat) (args:List V) (σ:ah) (b:Bool) (σ':ah):Prop:=∃n,ql (bY E n) l args σ=some (.bool b,σ')
theorem CW.range {f:Operand} {ps:Array Tmp} {dM body:Code} {g:FuncId} {a b:List V} {Q:Ex→Fr→ah→Prop} (hf:fr.ev E f= .fn (.func g) a b) (hi:E.imp g=true)
 (h:kM E g (a++[.fn (.yield σ.next) [] []]++b) (fr.d+1) (σ.enter fr ps dM body) (fun _ σ2=> ∃r,σ2.loops σ.next=some r∧r.st≠1∧Q (match r.pend with|none=>.normal|some e=>e) fr (σ2.kP σ.next))):CW E (.rangeFunc f ps dM body) fr σ Q:=by
 obtain⟨n,v,σ2,h1,r,h2,h3,h4⟩:=h
 refine⟨n,_,fr,_, ?_,h4⟩
 have h1':je E (bY E n) fr.d (σ.enter fr ps dM body) (.fn (.func g) a b) [.fn (.yield σ.next) [] []]=some (v,σ2):=by
  unfold je;simp only[hi,if_true];exact h1
 unfold dJ
 rw[hf]
 simp only[Oq,if_true]
 unfold ah.enter at h1'
 rw[h1']
 simp only[Option.bind_some,h2,if_neg h3]
 cases r.pend<;>rfl
theorem uF.of {l:Nat} {args:List V} {r:mG} {b:Bool} {σ':ah} (hl:σ.loops l=some r) (hst:r.st=0) (hlen:r.ps.length=args.length)
 (h:CW E r.dM {r.fr with tm:=(r.ps.zip args).foldl (fun tm (p,a)=>upd tm p a) r.fr.tm} σ (fun e bK σ1=>e= .normal∧∃r1,σ1.loops l=some r1∧r1.st=0∧
   CW E r.body bK (σ1.fA l {r1 with st:=1}) (fun e _ σ2=> ∃r2,σ2.loops l=some r2∧r2.st=1∧match e with
    |.normal=>b=true∧σ'=σ2.fA l {r2 with st:=0,pend:=none}
    |e=>b=false∧σ'=σ2.fA l {r2 with st:=2,pend:=some e}))):uF E l args σ b σ':=by
 obtain⟨n,e,bK,σ1,h1,rfl,r1,hl1,hs1,m,e2,fD,σ2,h2,r2,hl2,hs2,h3⟩:=h
 have h1':(bY E (max n m+1)).code r.dM {r.fr with tm:=(r.ps.zip args).foldl (fun tm (p,a)=>upd tm p a) r.fr.tm} σ=some (.normal,bK,σ1):=wZ (kU (Nat.le_max_left n m)) _ _ _ _ h1
 have h2':(bY E (max n m+1)).code r.body bK (σ1.fA l {r1 with st:=1})=some (e2,fD,σ2):=wZ (kU (Nat.le_max_right n m)) _ _ _ _ h2
 refine⟨max n m+1, ?_⟩
 unfold ql
 simp only[hl,Option.bind_some,hst,hlen,and_self,if_true,h1',hl1,hs1,h2',hl2,hs2]
 cases e2 with
 |normal=>obtain⟨rfl,rfl⟩:=h3;rfl
 |exit i=>obtain⟨rfl,rfl⟩:=h3;rfl
 |ret=>obtain⟨rfl,rfl⟩:=h3;rfl
theorem OW.yield {all:List Oper} {st:Nat} {o:Oper} {os:List Oper} {Q:Fr→ah→Prop} {c:Call} {f:Operand} {l:Nat} {b:Bool} {σ1:ah} (hw:dU all fr o=some true) (ho:o.op= .call c) (fK:c.callee= .value f)
 (hf:fr.ev E f= .fn (.yield l) [] []) (hr:uF E l (c.args.toList.map (fr.ev E)) σ b σ1) (h:OW E all (st+1) os (fr.put o.dst (.bool b)) σ1 Q):OW E all st (o::os) fr σ Q:=by
 obtain⟨n,fr',σ',h1,h2⟩:=h
 obtain⟨m,hm⟩:=hr
 have hm':=V5 (kU (Nat.le_max_right n m)) hm
 have h1':=Fq (kU (Nat.le_max_left n m)) _ _ _ _ _ _ h1
 refine⟨max n m,fr',σ', ?_,h2⟩
 have:je E (bY E (max n m)) fr.d σ (.fn (.yield l) [] []) (c.args.toList.map (fr.ev E))=some (.bool b,σ1):=by
  unfold je;exact hm'
 have iw:lu E fr o f=false:=by unfold lu;rw[hf]
 simp only[opsE,hw,Option.bind_some,if_true,opC,ho,fK,iw,Bool.false_eq_true,if_false,hf,this,Option.map_some,h1']
structure Shift (d:Nat) (σ σ':ah):Prop where
 next:σ.next≤σ'.next
 top:∀s,s<σ.next→σ'.top s=σ.top s
 loops:∀l,l<σ.next→σ'.loops l=σ.loops l
 obj:∀a o,a≤d→σ'.obj (a,o)=σ.obj (a,o)
theorem Shift.refl {d:Nat} {σ:ah}:Shift d σ σ:=⟨Nat.le_refl _,fun _ _=>rfl,fun _ _=>rfl,fun _ _ _=>rfl⟩
theorem Shift.trans {d:Nat} {σ σ' kD:ah} (h:Shift d σ σ') (g:Shift d σ' kD):Shift d σ kD:=
 ⟨Nat.le_trans h.next g.next,fun s hs=>(g.top s (Nat.lt_of_lt_of_le hs h.next)).trans (h.top s hs),fun s hs=>(g.loops s (Nat.lt_of_lt_of_le hs h.next)).trans (h.loops s hs),fun a o ha=>(g.obj a o ha).trans (h.obj a o ha)⟩
def Gi (E:Env) (f:FuncId) (a b:List V) (L:List (List V)):Prop:=∀(d l:Nat) (σ:ah) (J:List (List V)→ah→Prop) (D:ah→Prop),
 (∀xs σ σ',l<σ.next→J xs σ→Shift d σ σ'→J xs σ')→(∀σ σ',l<σ.next→D σ→Shift d σ σ'→D σ')→
 (∀x xs σ,l<σ.next→J (x::xs) σ→∃c σ',uF E l x σ c σ'∧σ.next≤σ'.next∧(∀a o,d<a→σ'.obj (a,o)=σ.obj (a,o))∧(∀s,s<σ.next→σ'.loops s=σ.loops s∨s=l)∧(c=true→J xs σ')∧(c=false→D σ'))→
 l<σ.next→J L σ→kM E f (a++[.fn (.yield l) [] []]++b) (d+1) σ fun _ σ'=>σ.next≤σ'.next∧(J [] σ'∨D σ')
end
end Aq
end
