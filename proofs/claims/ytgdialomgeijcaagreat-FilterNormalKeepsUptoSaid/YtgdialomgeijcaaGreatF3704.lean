import Derived.Test.YtgdialomgeijcaaGreatF3703
set_option linter.all false
section
namespace Aq
open Go Go.RowKit
section
variable {E:Env} {S:bG} {K K':Con} {T T':Nat->Nat} {w w':World} {σ σ':Sig} {B0:Nat}
theorem wW {n:Nat} {x y:V} (hp:pclean x=true) (h:closeV n σ x=some y):y=x:=by
 cases n with
 |zero=>simp[closeV] at h
 |succ n=>
  unfold closeV at h
  simp only[hp,if_true,iE] at h
  exact h.symm
theorem BS {f:V->Option V} {l r:List V} (h:l.mapM f=some r) (g:V->V) (hf:∀i (hi:i<l.length) y,f l[i]=some y->y=g l[i]):r=l.map g:=by
 obtain⟨h1,h2⟩:=mapM_some h
 refine List.ext_getElem (by simp[h1]) (fun i hi hi'=>?_)
 obtain⟨h3,h4⟩:=h2 i (by omega)
 simp only[Te]
 exact hf i (by omega) _ h4
theorem qo {l:List V} (h:pcleanL l=true) {i:Nat} (hi:i<l.length):pclean l[i]=true:=by
 have:=iC h i hi
 rwa[bX hi] at this
theorem BU {n:Nat} {c:Cap} {l:List V} {y:V} (hp:pcleanL l=true) (h:closeV n σ (.lst c l)=some y):y= .lst .sh l:=by
 cases n with
 |zero=>simp[closeV] at h
 |succ n=>
  unfold closeV at h
  split at h
  ·rename_i hc
   simp only[iE] at h
   subst h
   cases c<;>simp only[pclean,RH] at hc
   rfl
  ·simp only[RF] at h
   obtain⟨r,hr,rfl⟩:=h
   have:=BS hr id (fun i hi y hy=>wW (qo hp hi) hy)
   rw[this,List.map_id]
theorem JN {x:V} (hp:pclean x=true):bn x=x:=by
 cases x with
 |lst c l=>cases c<;>simp only[pclean,RH] at hp;rfl
 |_=>rfl
theorem JO {n:Nat} {x y:V} (hp:pclean (bn x)=true) (h:closeV n σ x=some y):y=bn x:=by
 cases x with
 |lst c l=>exact BU (by simpa [bn,pclean] using hp) h
 |_=>exact wW hp h
theorem BX {n:Nat} {x y:V} (hp:pclean (er x)=true) (h:closeV n σ x=some y):y=er x:=by
 cases x with
 |lst c l=>exact BU (by simpa [er,pclean] using hp) h
 |agg cs=>
  have hp':pcleanL (cs.map bn)=true:=by simpa [er,pclean] using hp
  have hpi:∀i (hi:i<cs.length),pclean (bn cs[i])=true:=fun i hi=>by
   have:=qo hp' (i:=i) (by simpa using hi)
   simpa using this
  cases n with
  |zero=>simp[closeV] at h
  |succ n=>
   unfold closeV at h
   split at h
   ·rename_i hc
    simp only[iE] at h
    subst h
    have hc':pcleanL cs=true:=by simpa [pclean] using hc
    show V.agg cs=V.agg (cs.map bn)
    congr 1
    refine List.ext_getElem (by simp) (fun i hi hi'=>?_)
    simp only[Te]
    exact(JN (qo hc' hi)).symm
   ·simp only[RF] at h
    obtain⟨r,hr,rfl⟩:=h
    show V.agg r=V.agg (cs.map bn)
    rw[BS hr bn (fun i hi y hy=>JO (hpi i hi) hy)]
 |_=>exact wW hp h
theorem jI {a b:List V} {ca cb:Array Value} (h:RelA K T w a ca) (g:RelA K T w b cb):RelA K T w (a++b) (ca++cb):=by
 obtain⟨h1,h2⟩:=h
 obtain⟨g1,g2⟩:=g
 refine⟨by simp[h1,g1],fun i hi=>?_⟩
 have hi':i<a.length+b.length:=by simpa using hi
 by_cases hlt:i<a.length
 ·have e1:(a++b).getD i undefV=a.getD i undefV:=by simp[List.getD,TG hlt]
  have e2:(ca++cb).getD i undef=ca.getD i undef:=by
   simp only[SN]
   rw[Array.getElem?_append_left (by omega)]
  rw[e1,e2];exact h2 i hlt
 ·have e1:(a++b).getD i undefV=b.getD (i-a.length) undefV:=by simp[List.getD,List.getElem?_append_right (Nat.le_of_not_lt hlt)]
  have e2:(ca++cb).getD i undef=cb.getD (i-a.length) undef:=by
   simp only[SN]
   rw[Array.getElem?_append_right (by omega),<-h1]
  rw[e1,e2];exact g2 _ (by omega)
theorem BZ {l r:List V} {cl:Array Value} {n:Nat} {K2:Con} {T2:Nat->Nat} (h:RelA K T w l cl) (hm:l.mapM (closeV n σ)=some r)
 (hx:∀x y c,x∈l->Rel K T w x c->closeV n σ x=some y->Rel K2 T2 w y c):RelA K2 T2 w r cl:=by
 obtain⟨h1,h2⟩:=h
 obtain⟨m1,m2⟩:=mapM_some hm
 refine⟨by omega,fun i hi=>?_⟩
 obtain⟨h3,h4⟩:=m2 i (by omega)
 have:=h2 i (by omega)
 rw[bX (show i<l.length by omega)] at this
 rw[bX h3]
 exact hx _ _ _ (SI _) this h4
theorem JQ {b:Bool} {l r:List V} (h:gW b σ l=some r):l.length=r.length/\∀i (hi:i<l.length),∃(h':i<r.length),(l[i]= .lst .nil []/\r[i]= .lst .nil [])\/closeV 20 σ l[i]=some r[i]:=by
 unfold gW at h
 split at h
 ·split at h
  ·rename_i l
   obtain⟨l',hm,rfl⟩:=RF.1 h
   obtain⟨m1,m2⟩:=mapM_some hm
   refine⟨by simp[m1],fun i hi=>?_⟩
   cases i with
   |zero=>exact⟨by simp,.inl ⟨rfl,rfl⟩⟩
   |succ i=>
    obtain⟨h1,h2⟩:=m2 i (by simpa using hi)
    exact⟨by simpa using h1,.inr (by simpa using h2)⟩
  ·cases h
 ·obtain⟨m1,m2⟩:=mapM_some h
  exact⟨m1,fun i hi=>by obtain⟨h1,h2⟩:=m2 i hi;exact⟨h1,.inr h2⟩⟩
theorem JR {b:Bool} {l r:List V} {cl:Array Value} {K2:Con} {T2:Nat->Nat} (h:RelA K T w l cl) (hm:gW b σ l=some r)
 (hx:∀x y c,x∈l->Rel K T w x c->(x= .lst .nil []/\y= .lst .nil [])\/closeV 20 σ x=some y->Rel K2 T2 w y c):RelA K2 T2 w r cl:=by
 obtain⟨h1,h2⟩:=h
 obtain⟨m1,m2⟩:=JQ hm
 refine⟨by omega,fun i hi=>?_⟩
 obtain⟨h3,h4⟩:=m2 i (by omega)
 have:=h2 i (by omega)
 rw[bX (show i<l.length by omega)] at this
 rw[bX h3]
 exact hx _ _ _ (SI _) this h4
theorem Ca (hE:EnvOK E) (h:ay E B0 σ K w):sV E K.I K.IM w:=
 ⟨fun b o hi=>(h.I b o hi).1,fun b hi=>(h.IM b hi).1,fun g cs hg=>(h.glob g cs hg).pure (by simpa [pclean] using hE.flat g cs hg) (fun _ _ h=>⟨h,rfl⟩) (fun _ h=>⟨h,rfl⟩)⟩
theorem JU (hE:EnvOK E) (h:ay E B0 σ K w):sV E (fun b o=>∃v,w.cell? (at_ b o)=some v) (fun b=>∃es aI,w.heap[b]? =some (.map es aI)) w:=
 ⟨fun _ _ hi=>hi,fun _ hi=>hi,fun g cs hg=>(h.glob g cs hg).pure (by simpa [pclean] using hE.flat g cs hg) (fun b o hi=>⟨(h.I b o hi).1,rfl⟩) (fun b hi=>⟨(h.IM b hi).1,rfl⟩)⟩
theorem Cb (hE:EnvOK E) (hS:nZ E S.call) (h:ay E B0 σ K w) (hB:B0<=w.heap.size) (hA:∀s,K.A s->s<σ.next) {d:Nat} {fv:V} {cf:Value} {args:List V} {cargs:Array Value} {v:V}
 (hfn:∃f a b,fv= .fn (.func f) a b) (hv:dh E S d σ fv args=some (v,σ')) (rf:Rel K σ.top w fv cf) (ra:RelA K σ.top w args cargs):
 σ.next<=σ'.next/\∃f first cap,cf= .func (.func f) first cap/\HasBody E f/\CallsIn Fence.wide 0 E.P f (first++cargs++cap) w (iA E B0 σ K w v σ'):=by
 obtain⟨f,a,b,rfl⟩:=hfn
 unfold dh at hv
 ·dsimp only at hv
  cases rf with
  |fn _ _ _ av bv ha hb ko kr=>
  have ku:RelA K σ.top w (a++args++b) (av++cargs++bv):=jI (jI ⟨ha,ko⟩ ra) ⟨hb,kr⟩
  split at hv
  ·obtain⟨h1,h2,h3⟩:=hS _ _ _ _ _ _ hv
   exact⟨h1,f,av,bv,rfl,h2,h3 none B0 K w _ h hB hA ku⟩
  ·simp only[iP] at hv
   obtain⟨as,has,r,hr,hv⟩:=hv
   split at hv
   ·rename_i hcl
    simp only[iE,iR] at hv
    obtain⟨rfl,rfl⟩:=hv
    obtain⟨p1,p2⟩:=callPure_sound hE hS hr
    refine⟨mF _,f,av,bv,rfl,p1,?_⟩
    simp only[SX,RZ] at hcl
    rcases hcl with hcl|hcl
    ·have qp:RelA (Con.lend K.I K.IM) (fun _=>0) w as (av++cargs++bv):=by
      refine BZ ku has (fun x y c hx dW hxy=>?_)
      have hp:=hcl x hx
      rw[BX hp hxy]
      exact(Bg dW).pure hp (fun _ _ h=>⟨h,rfl⟩) (fun _ h=>⟨h,rfl⟩)
     refine(p2 _ _ w _ (Ca hE h) qp).mono ?_
     intro e w' hp
     cases e with
     |returned c=>
      obtain⟨hb',hr'⟩:=hp
      have st:=Step.grow (new:=newer σ σ) h hB hb'
      exact⟨_,hr'.qh (fun _ _ h=>⟨h,rfl⟩) (fun _ h=>⟨h,rfl⟩),st.ok,hA,st⟩
     |panicked ch=>exact hp.elim
     |outgrown=>exact hp.elim
    ·have qp:RelA (Con.lend (fun b o=>∃v,w.cell? (at_ b o)=some v) (fun b=>∃es aI,w.heap[b]? =some (.map es aI))) (fun _=>0) w as (av++cargs++bv):=by
      refine BZ ku has (fun x y c hx dW hxy=>?_)
      exact(wN (T':=fun _=>0) h 20 x y c dW hxy).qh (fun _ _ h=>⟨h.2,rfl⟩) (fun _ h=>⟨h.2,rfl⟩)
     refine(p2 _ _ w _ (JU hE h) qp).mono ?_
     intro e w' hp
     cases e with
     |returned c=>
      obtain⟨hb',hr'⟩:=hp
      have st:=Step.grow (new:=newer σ σ) h hB hb'
      exact⟨_,hr'.flat hcl,st.ok,hA,st⟩
     |panicked ch=>exact hp.elim
     |outgrown=>exact hp.elim
   ·simp at hv
theorem JV (h:ay E B0 σ K w) (hB:B0<=w.heap.size) {st:Nat} (hst:¬K.A st) {σ1:Sig} {K1:Con} {v0 v:V} {c:Value} (hv:fV σ st σ1 v0=some (v,σ')) (r1:Rel K1 σ1.top w' v0 c) (s1:ay E w.heap.size σ1 K1 w') (hb:Below w.heap.size w w')
 (hI:∀b o,K1.I b o->K.I b o\/w.heap.size<=b) (vH:∀b,K1.IM b->K.IM b\/w.heap.size<=b):∃K',Rel K' σ'.top w' v c/\Step E B0 (· =st) σ K w σ' K' w':=by
 have tq:∀b o,K1.I b o->Aq.grow K.I w.heap.size w' b o:=fun b o hi=>⟨hI b o hi,(s1.I b o hi).1⟩
 have Cc:∀b,K1.IM b->jm K.IM w.heap.size w' b:=fun b hi=>⟨vH b hi,(s1.IM b hi).1⟩
 unfold fV at hv
 split at hv
 ·rename_i cp l
  split at hv
  ·rename_i hp
   cases cp with
   |nil=>
    cases hv
    refine⟨_,?_,Step.grow h hB hb⟩
    cases r1 with
    |aV _ a ha hc=>exact .aV .nil a ha trivial
    |lst _ _ b o n cap val hle hn hcell hrel hc=>exact hc.elim
   |full=>
    cases hv
    refine⟨_,?_,Step.grow h hB hb⟩
    cases r1 with
    |aV _ a ha hc=>exact .aV .full a (fun h=>by cases h) trivial
    |lst _ _ b o n cap val hle hn hcell hrel hc=>
     exact .lst .full l b o n cap val hle hn (fun i j hi hj=>⟨(hcell i j hi hj).1,tq _ _ (hcell i j hi hj).2⟩)
      (fun i j hi hj=>(hrel i j hi hj).pure (wM (iC hp i hi) (by rw[hn i hi];exact hj)) (fun b o hi=>⟨tq b o hi,rfl⟩) (fun b hi=>⟨Cc b hi,rfl⟩)) hc
   |own n s=>
    dsimp only at hv
    split at hv
    ·rename_i htop
     cases hv
     have hown:K1.A s->K1.lo s<K1.hi s->w.heap.size<=K1.ob s/\∀o,K1.lo s<=o->o<K1.hi s->(∃v,w'.cell? (at_ (K1.ob s) o)=some v)/\w'.frozen? (at_ (K1.ob s) o)=false:=fun ha hl=>by
      obtain⟨a1,a2,a3⟩:=s1.own s ha hl
      exact⟨a1,fun o h1 h2=>(a3 o h1 h2).2⟩
     have hnot:K1.A s->∀b o,K1.I b o->¬(b=K1.ob s/\K1.lo s<=o/\o<K1.hi s):=by
      rintro ha b o hi ⟨rfl,h2,h3⟩
      exact((s1.own s ha (by omega)).2.2 o h2 h3).1 hi
     have hA:K1.A s:=by
      cases r1 with
      |aV _ a ha hc=>exact hc.1
      |lst _ _ b o n' cap val hle hn hcell hrel hc=>exact hc.2.1
     refine⟨_,?_,Step.eB h hB hst hb (hown hA)⟩
     have t1:(σ.aL st l.length).top st=l.length:=upd_same _ _ _
     have q1:(K.eB w.heap.size w' st (K1.ob s) (K1.lo s) (K1.hi s)).ob st=K1.ob s:=upd_same _ _ _
     have q2:(K.eB w.heap.size w' st (K1.ob s) (K1.lo s) (K1.hi s)).lo st=K1.lo s:=upd_same _ _ _
     have q3:(K.eB w.heap.size w' st (K1.ob s) (K1.lo s) (K1.hi s)).hi st=K1.hi s:=upd_same _ _ _
     cases r1 with
     |aV _ a ha hc=>
      refine .aV _ a (fun h=>by cases h) ⟨.inr rfl,fun _=>?_⟩
      rw[q2,q3]
      exact hc.2 htop
     |lst _ _ b o n' cap val hle hn hcell hrel hc=>
      refine .lst _ l b o n' cap val hle hn (fun i j hi hj=>⟨(hcell i j hi hj).1,tq _ _ (hcell i j hi hj).2,hnot hA _ _ (hcell i j hi hj).2⟩)
       (fun i j hi hj=>(hrel i j hi hj).pure (wM (iC hp i hi) (by rw[hn i hi];exact hj)) (fun b o hi=>⟨⟨tq b o hi,hnot hA b o hi⟩,rfl⟩) (fun b hi=>⟨Cc b hi,rfl⟩)) ?_
      refine⟨hc.1,.inr rfl,by rw[t1];exact mF _,fun _=>?_⟩
      rw[q1,q2,q3]
      exact hc.2.2.2 htop.symm
    ·cases hv
   |sh=>cases hv
  ·cases hv
 ·rename_i loc s off len cap au ag
  split at hv
  ·rename_i h0
   obtain⟨rfl,rfl⟩:=h0
   obtain⟨cs,hcs,hv⟩:=iP.1 hv
   cases hv
   have fin:∀aM:Nat,K1.A s->aM*au<=K1.sz s->∃K',Rel K' (σ.aL st 0).top w' (.lst (.own au st) []) (.slice (some (at_ (K1.blk s) 0)) 0 aM)/\Step E B0 (· =st) σ K w (σ.aL st 0) K' w':=by
    intro aM hA hsz
    obtain⟨g1,_,_⟩:=s1.iQ hcs
    obtain⟨a1,a2,a3⟩:=s1.obj _ _ _ g1
    refine⟨K.eB w.heap.size w' st (K1.blk s) 0 (aM*au),?_,Step.eB h hB hst hb (fun hlt=>?_)⟩
    ·have t1:(σ.aL st 0).top st=0:=upd_same _ _ _
     refine .lst _ [] (K1.blk s) 0 au aM (fun _ _=>undef) (Sb _) (fun i hi=>absurd hi (RI i)) (fun i j hi=>absurd hi (RI i)) (fun i j hi=>absurd hi (RI i)) ?_
     refine⟨rfl,.inr rfl,Sb _,fun _=>⟨upd_same _ _ _,?_,?_⟩⟩
     ·show upd K.lo st 0 st=_;rw[upd_same];simp
     ·show upd K.hi st (aM*au) st=_;rw[upd_same];simp
    ·have hne:cs≠[]:=by
      rintro rfl
      have:=a2.1 rfl
      omega
     obtain⟨b1,vals,t,b2,b3,b4,b5⟩:=a2.2 hne
     refine⟨b1,fun o h1 h2=>⟨⟨vals[o]'(by omega),?_⟩,?_⟩⟩
     ·simp[World.cell?,b2]
     ·unfold World.frozen?
      simp only[b2]
      simp
   cases r1 with
   |vw _ _ _ _ _ _ _ aM hA hc hle hsz=>
    exact fin aM hA (by simpa using hsz)
   |dM _ _ _ _ hA=>
    refine⟨K.eB w.heap.size w' st 0 0 0,?_,Step.eB h hB hst hb (fun hlt=>absurd hlt (Nat.lt_irrefl _))⟩
    refine .aV _ none (fun h=>by cases h) ⟨.inr rfl,fun _=>?_⟩
    show upd K.hi st 0 st=upd K.lo st 0 st
    rw[upd_same,upd_same]
  ·cases hv
 ·cases hv
theorem Ce {st:Nat} {σ1:Sig} {v0 v:V} (hv:fV σ st σ1 v0=some (v,σ')):σ'.next=σ.next:=by
 by_cases hvw:∃loc s off len cap au ag,v0= .vw loc s off len cap au ag
 ·obtain⟨loc,s,off,len,cap,au,ag,rfl⟩:=hvw
  unfold fV at hv
  dsimp only at hv
  split at hv
  ·obtain⟨_,_,hv⟩:=iP.1 hv
   cases hv;rfl
  ·cases hv
 cases v0<;>first| (cases hv;done)|exact absurd ⟨_,_,_,_,_,_,_,rfl⟩ hvw|skip
 rename_i cp l
 have hv':(if pcleanL l=true then (match cp with
  |.nil=>some (V.lst .nil l,σ)
  |.full=>some (.lst .full l,σ)
  |.own n s=>if σ1.top s=l.length then some (.lst (.own n st) l,σ.aL st l.length) else none
  |.sh=>none) else none)=some (v,σ'):=hv
 split at hv'
 ·cases cp with
  |nil=>cases hv';rfl
  |full=>cases hv';rfl
  |own n s=>dsimp only at hv';split at hv'<;>cases hv';rfl
  |sh=>cases hv'
 ·cases hv'
theorem JW (hE:EnvOK E) (hS:nZ E S.call) (h:ay E B0 σ K w) (hB:B0<=w.heap.size) {st:Nat} (hst:¬K.A st) {fv:V} {cf:Value} {args:List V} {cargs:Array Value} {v:V}
 (hv:fZ E S σ st fv args=some (v,σ')) (rf:Rel K σ.top w fv cf) (ra:RelA K σ.top w args cargs):
 σ'.next=σ.next/\∃f first cap,cf= .func (.func f) first cap/\HasBody E f/\CallsIn Fence.wide 0 E.P f (first++cargs++cap) w (fun e w'=>∃c K',e= .returned c/\Rel K' σ'.top w' v c/\Step E B0 (· =st) σ K w σ' K' w'):=by
 unfold fZ at hv
 split at hv
 ·rename_i f a b
  split at hv
  ·rename_i hcl
   simp only[iP] at hv
   obtain⟨as,has,⟨v0,σ1⟩,hr,hv⟩:=hv
   cases rf with
   |fn _ _ _ av bv ha hb ko kr=>
   have ku:RelA K σ.top w (a++args++b) (av++cargs++bv):=jI (jI ⟨ha,ko⟩ ra) ⟨hb,kr⟩
   obtain⟨_,p1,p2⟩:=hS _ _ _ _ _ _ hr
   have hnext:=Ce hv
   refine⟨hnext,f,av,bv,rfl,p1,?_⟩
   simp only[RZ] at hcl
   have qp:RelA (Con.lend K.I K.IM) Sig.init.top w as (av++cargs++bv):=by
    refine JR ku has (fun x y c hx dW hxy=>?_)
    rcases hxy with ⟨rfl,rfl⟩|hxy
    ·cases dW with
     |aV _ a ha hc=>exact .aV .nil a ha trivial
     |lst _ _ b o n cap val hle hn hcell hrel hc=>exact hc.elim
    have hp:=hcl x hx
    rw[BX hp hxy]
    exact(Bg dW).pure hp (fun _ _ h=>⟨h,rfl⟩) (fun _ h=>⟨h,rfl⟩)
   refine(p2 none w.heap.size (Con.lend K.I K.IM) w _ (wO (Ca hE h)) (mF _) (fun s hs=>hs.elim) qp).mono ?_
   intro e w' hp
   cases e with
   |returned c=>
    obtain⟨K1,r1,s1,_,st1⟩:=hp
    obtain⟨K',g1,g2⟩:=JV h hB hst hv r1 s1 st1.below st1.nI st1.gZ
    exact⟨c,K',rfl,g1,g2⟩
   |panicked ch=>exact hp.elim
   |outgrown=>exact hp.elim
  ·cases hv
 ·cases hv
theorem og (hE:EnvOK E) {f:FuncId} (hb:HasBody E f) (args:Array Value) (w:World):(callFunc f args).run E.P w= .ok (.enter f args) w:=by
 obtain⟨fn,c,hf,hc⟩:=hb
 have hn:=hE.name f fn hf
 simp[callFunc,hf,hc,hn]
theorem wX (hE:EnvOK E) (hS:Sound E S) {fr fr':Fr} {a:Act} {n:Nat} {ds:jl} (hs:St E B0 σ K w fr a n ds) {st:Nat} (hst:¬K.A st) {o:Oper} {v:V}
 (hop:opC E S fr σ st o=some (v,fr',σ')):fr'=fr/\σ.next<=σ'.next/\(∀next Q ro,(∀c w' K',Rel K' σ'.top w' v c->Step E B0 (fun s=>s=st\/newer σ σ' s) σ K w σ' K' w'->next (a.put o.dst c) w')->
   o.wpIn (FW ro) 0 E.P a w next Q):=by
 have hdone:∀{v σ'},iw E B0 (· =st) σ K w (execOp a.eval o) v σ'->(∀c,o.op≠ .defer c)->∀next Q ro,(∀c w' K',Rel K' σ'.top w' v c->Step E B0 (fun s=>s=st\/newer σ σ' s) σ K w σ' K' w'->next (a.put o.dst c) w')->
  o.wpIn (FW ro) 0 E.P a w next Q:=fun hd ho next Q ro hn=>Jw ho hd (fun c w' K' hr hst=>hn c w' K' hr (hst.mono (fun _ h=>.inl h)))
 unfold opC at hop
 split at hop
 ·rename_i c hc
  have hnd:∀d,o.op≠ .defer d:=fun d hd=>by rw[hc] at hd;cases hd
  split at hop
  ·rename_i b hb
   simp only[RF,iR] at hop
   obtain⟨⟨v1,σ1⟩,hv,rfl,rfl,rfl⟩:=hop
   have hsame:=BM hv
   refine⟨rfl,by rw[hsame.1];exact mF _,hdone ?_ hnd⟩
   have hargs:=kX hs.ok hs.fr c.args
   have hex:execOp a.eval o=builtin b c.argTypes o.type (c.args.map fun|.const _=>true|_=>false) (c.args.map a.eval):=by
    unfold execOp
    simp only[hc]
    unfold resolve
    simp only[hb]
    rfl
   rw[hex]
   exact Jj hs.ok hs.hB hst hargs hv
  ·rename_i f hf
   split at hop
   ·simp only[RF,iR] at hop
    obtain⟨⟨v1,σ1⟩,hv,rfl,rfl,rfl⟩:=hop
    obtain⟨hn1,g,first,cap,hcf,hbody,hcall⟩:=JW hE hS.call hs.ok hs.hB hst hv (ig hs.ok hs.fr f) (kX hs.ok hs.fr c.args)
    refine⟨rfl,by rw[hn1];exact mF _,fun next Q ro hn=>⟨fun _ _=>trivial,?_⟩⟩
    rw[qg _ _ hnd]
    have hex:(execOp a.eval o).run E.P w= .ok (.enter g (first++c.args.map a.eval++cap)) w:=by
     unfold execOp
     simp only[hc]
     unfold resolve
     simp only[hf,hcf,Deferred.ofValue,Sem.run_bind,Sem.run_pure,Result.andThen_ok,invoke]
     exact og hE hbody _ _
    rw[hex,Oper.uponIn_enter]
    refine⟨fun hd=>by simp[FW,Fence.wide] at hd,?_⟩
    have h2:CallsIn (FW ro) (0-1) E.P g (first++c.args.map a.eval++cap) w (fun e w'=>∃c K',e= .returned c/\Rel K' σ1.top w' v1 c/\Step E B0 (· =st) σ K w σ1 K' w'):=hcall
    refine h2.mono ?_
    intro e w' hp
    obtain⟨cv,K',rfl,r1,st1⟩:=hp
    exact hn cv w' K' r1 (st1.mono (fun _ h=>.inl h))
   simp only[RF,iR] at hop
   obtain⟨⟨v1,σ1⟩,hv,rfl,rfl,rfl⟩:=hop
   have hcases:(∃g a b,fr.ev E f= .fn (.func g) a b)\/∃l,fr.ev E f= .fn (.yield l) [] []:=by
    unfold dh at hv
    split at hv
    ·rename_i g a b he;exact .inl ⟨g,a,b,he⟩
    ·rename_i l he;exact .inr ⟨l,he⟩
    ·simp at hv
   rcases hcases with hfn| ⟨l,hy⟩
   rotate_left
   ·have hv':jh S l (c.args.toList.map (fr.ev E)) σ=some (v1,σ1):=by rw[hy] at hv;exact hv
    obtain⟨hn1,fn,tmps,aK,body,mo,wY⟩:=JG hS.code hs.ok hs.hB hs.st hv' (kX hs.ok hs.fr c.args)
    have hcf:a.eval f= .func (.yield (K.lp l)) #[] #[]:=by
     have:=ig hs.ok hs.fr f
     rw[hy] at this
     generalize a.eval f=cf at this
     cases this;rfl
    refine⟨rfl,hn1,fun next Q ro hn=>⟨fun _ _=>trivial,?_⟩⟩
    rw[qg _ _ hnd]
    have hex:(execOp a.eval o).run E.P w= .ok (.round (K.lp l) fn tmps aK body) w:=by
     unfold execOp
     simp only[hc]
     unfold resolve
     simp only[hf,hcf,Deferred.ofValue,Sem.run_bind,Sem.run_pure,Result.andThen_ok,invoke]
     simpa using mo
    rw[hex,Oper.uponIn_round]
    refine⟨fun hd=>by simp[FW,Fence.wide] at hd,?_⟩
    have h2:RoundIn (FW ro) (0-1) E.P (K.lp l) fn tmps aK body w (iA E B0 σ K w v1 σ1):=wY
    refine h2.mono ?_
    intro e w' hp
    cases e with
    |returned cv=>
     obtain⟨K',r1,_,_,st1⟩:=hp
     exact hn cv w' K' r1 (st1.mono (fun _ h=>.inr h))
    |panicked ch=>exact hp.elim
    |outgrown=>exact hp.elim
   obtain⟨hn1,g,first,cap,hcf,hbody,hcall⟩:=Cb hE hS.call hs.ok hs.hB hs.st hfn hv (ig hs.ok hs.fr f) (kX hs.ok hs.fr c.args)
   refine⟨rfl,hn1,fun next Q ro hn=>⟨fun _ _=>trivial,?_⟩⟩
   rw[qg _ _ hnd]
   have hex:(execOp a.eval o).run E.P w= .ok (.enter g (first++c.args.map a.eval++cap)) w:=by
    unfold execOp
    simp only[hc]
    unfold resolve
    simp only[hf,hcf,Deferred.ofValue,Sem.run_bind,Sem.run_pure,Result.andThen_ok,invoke]
    exact og hE hbody _ _
   rw[hex,Oper.uponIn_enter]
   refine⟨fun hd=>by simp[FW,Fence.wide] at hd,?_⟩
   have h2:CallsIn (FW ro) (0-1) E.P g (first++c.args.map a.eval++cap) w (iA E B0 σ K w v1 σ1):=hcall
   refine h2.mono ?_
   intro e w' hp
   cases e with
   |returned cv=>
    obtain⟨K',r1,_,_,st1⟩:=hp
    exact hn cv w' K' r1 (st1.mono (fun _ h=>.inr h))
   |panicked ch=>exact hp.elim
   |outgrown=>exact hp.elim
  ·simp at hop
 ·simp at hop
 ·rename_i hnc hnd
  simp only[RF,iR] at hop
  obtain⟨⟨v1,σ1⟩,hv,rfl,rfl,rfl⟩:=hop
  have hsame:=BN hv
  exact⟨rfl,by rw[hsame.1];exact mF _,hdone (Ji hs.ok hs.hB hs.fr hst hv) hnd⟩
end
section
variable (E:Env) (S:bG)
def opsL (ops:List Oper) (base:Nat):List Nat->Fr->Sig->Option (Fr×Sig)
 | [],fr,σ=>some (fr,σ)
 |i::l,fr,σ=>(dn E S ops base i fr σ).bind fun (fr,σ)=>opsL ops base l fr σ
theorem JX (all:List Oper) (base:Nat):∀(os:List Oper) (k:Nat) (fr:Fr) (σ:Sig),(∀j,os[j]? =all[k+j]?)->
 opsE E S all (base+k) os fr σ=opsL E S all base (List.range' k os.length) fr σ:=by
 intro os
 induction os with
 |nil=>intro k fr σ _;rfl
 |cons o os ih=>
  intro k fr σ h
  have h0:all[k]? =some o:=by simpa using (h 0).symm
  have ih':=fun fr σ=>ih (k+1) fr σ (fun j=>by have:=h (j+1);simpa [Sy,Nat.add_comm 1 j] using this)
  simp only[List.length_cons,List.range'_succ,opsL,dn,h0,opsE]
  cases hwt:aT all fr o with
  |none=>rfl
  |some t=>
  simp only[Option.bind_some]
  split
  ·cases hop:opC E S fr σ (base+k) o with
   |none=>rfl
   |some r=>
    obtain⟨v,aB,σ1⟩:=r
    exact ih' _ _
  ·exact ih' _ _
theorem JY (ops:Array Oper) (base:Nat) (fr:Fr) (σ:Sig):opsE E S ops.toList base ops.toList fr σ=opsL E S ops.toList base (List.range ops.size) fr σ:=by
 have:=JX E S ops.toList base ops.toList 0 fr σ (fun j=>by simp)
 rw[Nat.add_zero] at this
 rw[this,List.range_eq_range',Array.length_toList]
end
section
variable {E:Env} {S:bG} {K K':Con} {w w':World} {σ σ':Sig} {B0:Nat} {fr fr':Fr} {a:Act} {n:Nat} {ds:jl}
theorem oh (hf:bT K σ.top w fr a.tmps) (ops:Array Oper) (o:Oper) (hsz:iO a.tmps.size ops.toList=true) {t:Bool} (hv:aT ops.toList fr o=some t):
 Region.wanted o (yielded ops a.tmps)=t:=by
 unfold Region.wanted
 unfold aT at hv
 cases hg:o.guard with
 |none=>rw[hg] at hv;exact R6 hv
 |some g=>
  obtain⟨j,want⟩:=g
  rw[hg] at hv
  simp only at hv⊢
  cases hd:(ops.toList[j]?).bind (·.dst) with
  |none=>
   have hd':(ops[j]?).bind (·.dst)=none:=by simpa using hd
   simp only[hd,iE] at hv
   simp only[yielded,hd',<-hv]
   rfl
  |some t=>
   have hd':(ops[j]?).bind (·.dst)=some t:=by simpa using hd
   have ht:t<a.tmps.size:=by
    cases ho:ops[j]? with
    |none=>simp[ho] at hd'
    |some o'=>
     have hm:o'∈ops.toList:=by simpa using Array.mem_of_getElem? ho
     simp only[iO,RZ] at hsz
     have h1:=hsz o' hm
     have h2:o'.dst=some t:=by simpa [ho] using hd'
     rw[h2] at h1
     simpa using h1
   have hr:=hf t
   have hget:a.tmps[t]? =some (a.tmps.getD t undef):=by simp[Array.getD,ht]
   simp only[hd] at hv
   simp only[yielded,hd',Option.bind_some,hget]
   generalize a.tmps.getD t undef=c at hr
   generalize fr.tm t=x at hr hv
   cases hr<;>simp only[iE,reduceCtorEq] at hv<;>first|exact hv| (rw[<-hv];rfl)
theorem mD (h:ay E B0 σ K w) (k:Nat):ay E B0 {σ with next:=k} K w:=⟨h.obj,h.own,h.I,h.IM,h.loop,h.glob,h.rb,h.D⟩
theorem JZ (hS:Sound E S) {st:Nat} {o:Oper} {v:V} (hop:opC E S fr σ st o=some (v,fr',σ')):fr'=fr/\σ.next<=σ'.next:=by
 unfold opC at hop
 split at hop
 ·split at hop
  ·simp only[RF,iR] at hop
   obtain⟨⟨v1,σ1⟩,hv,rfl,rfl,rfl⟩:=hop
   exact⟨rfl,by rw[(BM hv).1];exact mF _⟩
  ·split at hop
   ·simp only[RF,iR] at hop
    obtain⟨⟨v1,σ1⟩,hv,rfl,rfl,rfl⟩:=hop
    refine⟨rfl,?_⟩
    unfold fZ at hv
    split at hv
    ·split at hv
     ·simp only[iP] at hv
      obtain⟨_,_,_,_,hv⟩:=hv
      rw[Ce hv];exact mF _
     ·cases hv
    ·cases hv
   simp only[RF,iR] at hop
   obtain⟨⟨v1,σ1⟩,hv,rfl,rfl,rfl⟩:=hop
   refine⟨rfl,?_⟩
   unfold dh at hv
   split at hv
   ·split at hv
    ·exact(hS.call _ _ _ _ _ _ hv).1
    ·simp only[iP] at hv
     obtain⟨_,_,_,_,hv⟩:=hv
     split at hv
     ·simp only[iE,iR] at hv
      rw[hv.2];exact mF _
     ·simp at hv
   ·exact JM hS.code hv
   ·simp at hv
  ·simp at hop
 ·simp at hop
 ·simp only[RF,iR] at hop
  obtain⟨⟨v1,σ1⟩,hv,rfl,rfl,rfl⟩:=hop
  exact⟨rfl,by rw[(BN hv).1];exact mF _⟩
theorem lg (hS:Sound E S) (ops:List Oper) (base:Nat):∀(l:List Nat) (fr:Fr) (σ:Sig),opsL E S ops base l fr σ=some (fr',σ')->σ.next<=σ'.next:=by
 intro l
 induction l with
 |nil=>
  intro fr σ h
  simp only[opsL,iE,iR] at h
  rw[h.2];exact mF _
 |cons i l ih=>
  intro fr σ h
  simp only[opsL,iP] at h
  obtain⟨⟨aB,σ1⟩,hs,h⟩:=h
  refine RG ?_ (ih _ _ h)
  unfold dn at hs
  split at hs
  ·simp only[iE,iR] at hs;rw[hs.2];exact mF _
  ·simp only[iP] at hs
   obtain⟨t,_,hs⟩:=hs
   split at hs
   ·simp only[RF,iR] at hs
    obtain⟨⟨v,aW,σ2⟩,hop,rfl,rfl⟩:=hs
    exact(JZ hS hop).2
   ·simp only[iE,iR] at hs;rw[hs.2];exact mF _
theorem wZ (hE:EnvOK E) (hS:Sound E S) (ops:Array Oper) (base:Nat) (hops:iO n ops.toList=true) (ro:Option Nat) (Q:Exit->Act->World->Prop):
 ∀(l:List Nat) (fr:Fr) (σ:Sig) (K:Con) (w:World) (a:Act),opsL E S ops.toList base l fr σ=some (fr',σ')->l.Nodup->(∀i∈l,i<ops.size)->St E B0 σ K w fr a n ds->base+ops.size<=σ.next->(∀i∈l,¬K.A (base+i))->
  (∀a' K' w',St E B0 σ' K' w' fr' a' n ds->Step E B0 (fun s=>(base<=s/\s<base+ops.size)\/newer σ σ' s) σ K w σ' K' w'->Q .normal a' w')->wpOpsIn (FW ro) 0 E.P ops Q l a w:=by
 intro l
 induction l with
 |nil=>
  intro fr σ K w a hl _ _ hs _ _ hq
  simp only[opsL,iE,iR] at hl
  obtain⟨rfl,rfl⟩:=hl
  exact hq a K w hs (.refl hs.ok)
 |cons i l ih=>
  intro fr σ K w a hl hnd hlt hs hbase jo hq
  simp only[opsL,iP] at hl
  obtain⟨⟨aB,σ1⟩,hstep,hl⟩:=hl
  have hil:i∉l:=(Sl.1 hnd).1
  have hi:i<ops.size:=hlt i (by simp)
  have hoi:ops[i]? =some ops[i]:=by simp[hi]
  have mE:ops.toList[i]? =some ops[i]:=by simpa using hoi
  simp only[dn,mE,iP] at hstep
  obtain⟨t,hwv,hstep⟩:=hstep
  have hw:=oh hs.fr ops ops[i] (by rw[hs.sz];exact hops) hwv
  have hdst:∀t,ops[i].dst=some t->t<n:=by
   intro t ht
   simp only[iO,RZ] at hops
   have:=hops ops[i] (by simp)
   rw[ht] at this
   simpa using this
  unfold wpOpsIn
  simp only[hoi,hw]
  split at hstep
  ·rename_i hwt
   simp only[RF,iR] at hstep
   obtain⟨⟨v,aW,σ2⟩,hop,rfl,rfl⟩:=hstep
   obtain⟨rfl,hnx,hwp⟩:=wX hE hS hs (jo i (by simp)) hop
   dsimp only at hl
   simp only[hwt,if_true]
   have hA1:∀{K1:Con} {w1:World},Step E B0 (fun s=>s=base+i\/newer σ σ2 s) σ K w σ2 K1 w1->(∀s,K1.A s->s<σ2.next)/\∀j∈l,¬K1.A (base+j):=by
    intro K1 w1 st
    refine⟨fun s hsA=>?_,fun j hj qw=>?_⟩
    ·rcases st.A s hsA with h1|h1|h1
     ·have:=hs.st s h1;omega
     ·omega
     ·exact h1.2
    ·have hji:j≠i:=fun e=>hil (e▸hj)
     rcases st.A _ qw with h1|h1|h1
     ·exact jo j (by simp[hj]) h1
     ·omega
     ·have:=hlt j (by simp[hj])
      have:=h1.1
      omega
   refine hwp _ _ ro (fun c w1 K1 hr st=>?_)
   ·obtain⟨hA2,hA3⟩:=hA1 st
    have hs1:St E B0 σ2 K1 w1 (aW.put ops[i].dst v) (a.put ops[i].dst c) n ds:=hs.put st hr hdst hA2
    refine(ih _ _ K1 w1 _ hl (Sl.1 hnd).2 (fun j hj=>hlt j (by simp[hj])) hs1 (by omega) hA3) (fun a' K' w' hs' st'=>hq a' K' w' hs' ?_)
    refine(st.mono ?_).trans (st'.mono ?_)
    ·intro s h1
     rcases h1 with h1|h1
     ·exact .inl ⟨by omega,by omega⟩
     ·exact .inr ⟨h1.1,RS h1.2 (lg hS _ _ _ _ _ hl)⟩
    ·intro s h1
     rcases h1 with h1|h1
     ·exact .inl h1
     ·exact .inr ⟨RG hnx h1.1,h1.2⟩
  ·rename_i hwt
   simp only[iE,iR] at hstep
   obtain⟨rfl,rfl⟩:=hstep
   have hs1:St E B0 σ K w (fr.put ops[i].dst undefV) (a.put ops[i].dst undef) n ds:=hs.put (new:=fun _=>False) (.refl hs.ok) (.undef _ _ _) hdst hs.st
   have:=ih _ _ K w _ hl (Sl.1 hnd).2 (fun j hj=>hlt j (by simp[hj])) hs1 hbase (fun j hj=>jo j (by simp[hj]))
   simp only[hwt]
   exact⟨fun _ _=>trivial,this hq⟩
end
end Aq
end
section
namespace Aq
open Go
section
variable {X Key:Type}
def qx (step:Nat->X->Option X):List Nat->X->Option X
 | [],x=>some x
 |i::l,x=>(step i x).bind (qx step l)
theorem Cg (n:Nat) (step:Nat->X->Option X) (Ag:Key->X->X->Prop) (hrefl:∀k x,Ag k x x) (w9:∀k x y z,Ag k x y->Ag k y z->Ag k x z)
 (s:Nat->X) (T W:Nat->Key->Prop) (qy:∀i k,W i k->T i k)
 (hloc:∀i,i<n->∀x,(∀k,T i k->Ag k (s i) x)->∃y,step i x=some y/\(∀k,W i k->Ag k (s (i+1)) y)/\(∀k,¬W i k->Ag k x y))
 (hself:∀i,i<n->∀k,¬W i k->Ag k (s i) (s (i+1)))
 (pre:Nat->Nat->Prop) (hap:∀i j,i<n->j<i->pre j i\/((∀k,¬(W i k/\T j k))/\∀k,¬(W j k/\T i k)))
 (J2:∀k x y,Ag k x y->Ag k y x):
 ∀(l done:List Nat) (x:X),l.Nodup->(∀i∈l,i<n/\i∉done)->(∀i,i<n->i∈done\/i∈l)->
  (∀l1 i l2,l=l1++i::l2->∀j,pre j i->j∈done\/j∈l1)->(∀i∈done,∀j,pre j i->j∈done)->
  (∀k m,m<=n->(∀j,j<n->W j k->(j∈done↔j<m))->Ag k (s m) x)->∃y,qx step l x=some y/\∀k,Ag k (s n) y:=by
 have J3:∀k a b,a<=b->b<=n->(∀j,a<=j->j<b->¬W j k)->Ag k (s a) (s b):=by
  intro k a b hab hbn hw
  induction b with
  |zero=>obtain rfl:a=0:=by omega
         exact hrefl _ _
  |succ b ih=>
   by_cases e:a=b+1
   ·subst e;exact hrefl _ _
   ·exact w9 _ _ _ _ (ih (by omega) (by omega) (fun j h1 h2=>hw j h1 (by omega))) (hself b (by omega) k (hw b (by omega) (by omega)))
 intro l
 induction l with
 |nil=>
  intro done x _ _ hall _ _ hinv
  exact⟨x,rfl,fun k=>hinv k n (mF _) (fun j hj _=>⟨fun _=>hj,fun _=>by rcases hall j hj with h|h;exact h;cases h⟩)⟩
 |cons i l ih=>
  intro done x hnd hmem hall tu hclosed hinv
  obtain⟨hin,xg⟩:=hmem i (by simp)
  have hil:i∉l:=(Sl.1 hnd).1
  have hpre:∀j,pre j i->j∈done:=fun j hj=>by
   rcases tu [] i l rfl j hj with h|h
   ·exact h
   ·cases h
  have J4:∀k,T i k->Ag k (s i) x:=by
   intro k hk
   refine hinv k i (by omega) (fun j hj hw=>⟨fun hjd=>?_,fun hji=>?_⟩)
   ·rcases Nat.lt_trichotomy j i with h|h|h
    ·exact h
    ·subst h;exact absurd hjd xg
    ·rcases hap j i hj h with hp| ⟨h1,_⟩
     ·exact absurd (hclosed j hjd i hp) xg
     ·exact absurd ⟨hw,hk⟩ (h1 k)
   ·rcases hap i j hin hji with hp| ⟨_,h2⟩
    ·exact hpre j hp
    ·exact absurd ⟨hw,hk⟩ (h2 k)
  obtain⟨y,hy,J5,hyn⟩:=hloc i hin x J4
  have J6:∀k m,m<=n->(∀j,j<n->W j k->(j∈i::done↔j<m))->Ag k (s m) y:=by
   intro k m hm hj
   by_cases hw:W i k
   ·have him:i<m:=(hj i hin hw).1 (by simp)
    have h1:Ag k (s (i+1)) (s m):=by
     refine J3 k (i+1) m him hm (fun j h1 h2 qz=>?_)
     have hjd:j∈done:=by
      have:=(hj j (by omega) qz).2 h2
      rcases RL.1 this with e|e
      ·omega
      ·exact e
     rcases hap j i (by omega) (by omega) with hp| ⟨h3,_⟩
     ·exact absurd (hclosed j hjd i hp) xg
     ·exact h3 k ⟨qz,qy i k hw⟩
    exact w9 _ _ _ _ (J2 _ _ _ h1) (J5 k hw)
   ·refine w9 _ _ _ _ (hinv k m hm (fun j hjn qz=>?_)) (hyn k hw)
    have hji:j≠i:=fun e=>hw (e▸qz)
    rw[<-hj j hjn qz]
    simp[hji]
  obtain⟨z,hz,hzn⟩:=ih (i::done) y (Sl.1 hnd).2
   (fun j hj=>⟨(hmem j (by simp[hj])).1,fun h=>by
     rcases RL.1 h with e|e
     ·exact hil (e▸hj)
     ·exact(hmem j (by simp[hj])).2 e⟩)
   (fun j hj=>by
     rcases hall j hj with h|h
     ·exact .inl (by simp[h])
     ·rcases RL.1 h with e|e
      ·exact .inl (by simp[e])
      ·exact .inr e)
   (fun l1 j l2 hl k hk=>by
     rcases tu (i::l1) j l2 (by rw[hl];rfl) k hk with h|h
     ·exact .inl (by simp[h])
     ·rcases RL.1 h with e|e
      ·exact .inl (by simp[e])
      ·exact .inr e)
   (fun j hj k hk=>by
     rcases RL.1 hj with e|e
     ·subst e;simp[hpre k hk]
     ·simp[hclosed j e k hk])
   J6
  exact⟨z,by simp[qx,hy,hz],hzn⟩
end
section
variable {E:Env} {S:bG} {fr fr':Fr} {σ σ':Sig}
theorem J7 {st:Nat} {o:Oper} (h:∀x∈o.op.operands.toList,fr'.ev E x=fr.ev E x) (hd:fr'.d=fr.d) (aH:fr'.om=fr.om):aF E fr' σ st o=aF E fr σ st o:=by
 cases ho:o.op
 all_goals
  rw[ho] at h
  unfold aF
  simp only[ho]
 all_goals try (simp only[hd];done)
 case move x=>simp only[h x (show x∈[x] from R4.2 rfl),hd]
 case assign x=>simp only[h x (show x∈[x] from R4.2 rfl),hd]
 case pick c x y=>simp only[h c (show c∈[c,x,y] from RJ),h x (show x∈[c,x,y] from RQ _ RJ),h y (show y∈[c,x,y] from RQ _ (RQ _ RJ)),hd]
 case box t x=>simp only[h x (show x∈[x] from R4.2 rfl),hd]
 case load t x=>simp only[h x (show x∈[x] from R4.2 rfl),hd]
 case nilCheck x=>simp only[h x (show x∈[x] from R4.2 rfl),hd]
 case unOp u t x=>simp only[h x (show x∈[x] from R4.2 rfl),hd]
 case convert t u x=>simp only[h x (show x∈[x] from R4.2 rfl),hd]
 case sliceToArrayPointer t x=>simp only[h x (show x∈[x] from R4.2 rfl),hd]
 case typeAssert x t u ok=>simp only[h x (show x∈[x] from R4.2 rfl),hd]
 case makeInterface t x=>simp only[h x (show x∈[x] from R4.2 rfl),hd]
 case fieldAddr t x f=>simp only[h x (show x∈[x] from R4.2 rfl),hd]
 case field t x f=>simp only[h x (show x∈[x] from R4.2 rfl),hd]
 case extract x f=>simp only[h x (show x∈[x] from R4.2 rfl),hd]
 case store t x y=>simp only[h x (show x∈[x,y] from RJ),h y (show y∈[x,y] from RQ _ RJ),hd,aH]
 case binOp b t x y u=>simp only[h x (show x∈[x,y] from RJ),h y (show y∈[x,y] from RQ _ RJ),hd,aH]
 case makeSlice t x y=>simp only[h x (show x∈[x,y] from RJ),h y (show y∈[x,y] from RQ _ RJ),hd,aH]
 case indexAddr t x y=>simp only[h x (show x∈[x,y] from RJ),h y (show y∈[x,y] from RQ _ RJ),hd,aH]
 case index t x y=>simp only[h x (show x∈[x,y] from RJ),h y (show y∈[x,y] from RQ _ RJ),hd,aH]
 case lookup t x y ok=>simp only[h x (show x∈[x,y] from RJ),h y (show y∈[x,y] from RQ _ RJ),hd,aH]
 case mapUpdate t x y z=>simp only[h x (show x∈[x,y,z] from RJ),h y (show y∈[x,y,z] from RQ _ RJ),h z (show z∈[x,y,z] from RQ _ (RQ _ RJ)),hd]
 case insert t x y z=>simp only[h x (show x∈[x,y,z] from RJ),h y (show y∈[x,y,z] from RQ _ RJ),h z (show z∈[x,y,z] from RQ _ (RQ _ RJ)),hd]
 case build t parts=>
  have:(parts.toList.map fun (i,x)=>(i,fr'.ev E x))=parts.toList.map fun (i,x)=>(i,fr.ev E x):=by
   refine Tn (fun p hp=>?_)
   show (p.1,fr'.ev E p.2)=(p.1,fr.ev E p.2)
   rw[h p.2 (show p.2∈parts.toList.map (·.2) from Sm.2 ⟨p,hp,rfl⟩)]
  simp only[this]
 case buildSlice t len parts=>
  have:(parts.toList.map fun (i,x)=>(i,fr'.ev E x))=parts.toList.map fun (i,x)=>(i,fr.ev E x):=by
   refine Tn (fun p hp=>?_)
   show (p.1,fr'.ev E p.2)=(p.1,fr.ev E p.2)
   rw[h p.2 (show p.2∈parts.toList.map (·.2) from Sm.2 ⟨p,hp,rfl⟩)]
  simp only[this]
 case makeFunc fn a b=>
  have h1:a.toList.map (fr'.ev E)=a.toList.map (fr.ev E):=Tn (fun x hx=>h x (show x∈(a++b).toList by simp at hx⊢;exact .inl hx))
  have h2:b.toList.map (fr'.ev E)=b.toList.map (fr.ev E):=Tn (fun x hx=>h x (show x∈(a++b).toList by simp at hx⊢;exact .inr hx))
  cases fn<;>first|rfl|simp only[h1,h2]
 case makeMap t r=>cases r<;>simp only[hd]
 case slice t x lo hi mx=>
  have h0:∀y,y=x\/lo=some y\/hi=some y\/mx=some y->fr'.ev E y=fr.ev E y:=fun y hy=>h y (show y∈(#[x]++lo.toArray++hi.toArray++mx.toArray).toList by
   rcases hy with rfl|rfl|rfl|rfl<;>simp)
  have hx:fr'.ev E x=fr.ev E x:=h0 x (.inl rfl)
  have h1:bS E fr' lo=bS E fr lo:=by
   cases lo with
   |none=>rfl
   |some y=>simp only[bS];rw[h0 y (by simp)]
  have h2:bS E fr' hi=bS E fr hi:=by
   cases hi with
   |none=>rfl
   |some y=>simp only[bS];rw[h0 y (by simp)]
  have h3:bS E fr' mx=bS E fr mx:=by
   cases mx with
   |none=>rfl
   |some y=>simp only[bS];rw[h0 y (by simp)]
  simp only[hx,h1,h2,h3]
theorem J8 {st:Nat} {o:Oper} (h:∀x∈o.op.operands.toList,fr'.ev E x=fr.ev E x) (hd:fr'.d=fr.d) (aH:fr'.om=fr.om):
 opC E S fr' σ st o=(opC E S fr σ st o).map fun (v,_,σ1)=>(v,fr',σ1):=by
 cases ho:o.op
 case call c=>
  have h:∀x∈c.operands.toList,fr'.ev E x=fr.ev E x:=by rw[ho] at h;exact h
  unfold opC
  simp only[ho]
  have hargs:c.args.toList.map (fr'.ev E)=c.args.toList.map (fr.ev E):=Tn (fun x hx=>h x (by simp[Call.operands] at hx⊢;exact .inr hx))
  split
  ·simp only[hargs,hd,aH]
   cases fC E fr.om (o.dst.map fun t=>(fr.d,E.cn t)) σ st _ c.argTypes (c.args.toList.map (fr.ev E))<;>rfl
  ·rename_i f hc
   have hf:fr'.ev E f=fr.ev E f:=h f (by simp[Call.operands,hc])
   have aX:dL E fr' o f=dL E fr o f:=by unfold dL;rw[hf]
   simp only[hargs,hd,hf,aX]
   cases dL E fr o f
   ·cases dh E S fr.d σ (fr.ev E f) (c.args.toList.map (fr.ev E))<;>rfl
   ·cases fZ E S σ st (fr.ev E f) (c.args.toList.map (fr.ev E))<;>rfl
  ·rfl
 case defer=>unfold opC;simp only[ho];rfl
 all_goals
  have:=J7 (σ:=σ) (st:=st) h hd aH
  unfold opC
  simp only[ho]
  rw[this]
  cases aF E fr σ st o<;>rfl
theorem oo {loc:Loc} {s:Nat} (h:σ'.obj loc=σ.obj loc):σ'.cellsAt loc s=σ.cellsAt loc s:=by simp only[Sig.cellsAt,h]
theorem xk {loc:Loc} {s:Nat} (h:σ'.obj loc=σ.obj loc):σ'.bD loc s=σ.bD loc s:=by simp only[Sig.bD,h]
def bL (σ σ':Sig) (k:Key):Prop:=match k with
 |.obj l=>σ'.obj l=σ.obj l
 |.top=>σ'.top=σ.top
 |_=>True
def Reads (σ σ':Sig) (r r':Option (V×Sig)):Prop:=∀v σ1,r=some (v,σ1)->σ1=σ/\r'=some (v,σ')
theorem fE {v:V}:Reads σ σ' (some (v,σ)) (some (v,σ')):=fun v σ1 h=>by
 simp only[iE,iR] at h
 exact⟨h.2.symm,by rw[h.1]⟩
theorem eY {α:Type} {r:Option α} (f:α->V):Reads σ σ' (r.map fun v=>(f v,σ)) (r.map fun v=>(f v,σ')):=by
 cases r with
 |none=>intro v σ1 h;cases h
 |some x=>exact fE
theorem iD {r:Option (V×Sig)}:Reads σ σ' none r:=fun _ _ h=>by cases h
theorem lq {α:Type} {r:Option α} {f g:α->Option (V×Sig)} (h:∀x,Reads σ σ' (f x) (g x)):Reads σ σ' (r.bind f) (r.bind g):=by
 cases r with
 |none=>exact iD
 |some x=>exact h x
theorem tF {c:Prop} [Decidable c] {r r' s s':Option (V×Sig)} (h1:Reads σ σ' r r') (h2:Reads σ σ' s s'):Reads σ σ' (if c then r else s) (if c then r' else s'):=by
 split<;>assumption
theorem J9 {src dst:TypeId} {x:V} (h:∀k∈bI x,bL σ σ' k):jT E.P σ' src dst x=jT E.P σ src dst x:=by
 unfold jT
 generalize E.P.underlying src=u1
 generalize E.P.underlying dst=u2
 cases u1 with
 |none=>cases x<;>cases u2<;>rfl
 |some d1=>
  cases u2 with
  |none=>cases x<;>cases d1<;>rfl
  |some d2=>
   cases x with
   |vw loc s off len cap au ag=>
    have h1:σ'.obj loc=σ.obj loc:=h (.obj loc) (by simp[bI])
    cases d2<;>cases d1<;>first|rfl|simp only[oo h1]
   |_=>cases d2<;>first|rfl| (cases d1<;>rfl)
theorem Ka {t:TypeId} {x:V} {lo hi mx:Option V} (h:∀k∈bI x,bL σ σ' k):dV E.P σ' t x lo hi mx=dV E.P σ t x lo hi mx:=by
 unfold dV
 generalize E.P.underlying t=u1
 cases u1 with
 |none=>cases x<;>rfl
 |some d1=>
  cases x with
  |ref loc s off=>
   have h1:σ'.obj loc=σ.obj loc:=h (.obj loc) (by simp[bI])
   cases d1<;>first|rfl|simp only[oo h1]
  |_=>cases d1<;>rfl
theorem Kc {t:TypeId} {x k:V} {ok:Bool} (h:∀k∈bI x,bL σ σ' k):jE E.P σ' t x k ok=jE E.P σ t x k ok:=by
 unfold jE
 cases x with
 |mapr loc s=>
  have h1:σ'.obj loc=σ.obj loc:=h (.obj loc) (by simp[bI])
  simp only[xk h1]
 |_=>rfl
theorem Ke {t:TypeId} {x:V} (h:∀k∈bI x,bL σ σ' k):fB E σ' t x=fB E σ t x:=by
 unfold fB
 generalize E.P.underlying t=u1
 cases u1 with
 |none=>cases x<;>rfl
 |some d1=>
  cases x with
  |mapr loc s=>
   have h1:σ'.obj loc=σ.obj loc:=h (.obj loc) (by simp[bI])
   cases d1<;>first|rfl|simp only[xk h1]
  |_=>cases d1<;>rfl
theorem Kg {ag:Bool} {sz:Nat} {z x:V} (h:∀k∈bI x,bL σ σ' k):dQ σ' ag sz z x=dQ σ ag sz z x:=by
 unfold dQ
 cases x with
 |vw loc s off len cap au ag=>
  have h1:σ'.obj loc=σ.obj loc:=h (.obj loc) (by simp[bI])
  simp only[oo h1]
 |_=>rfl
def Local (W:Key->Prop) (σ σ':Sig) (r r':Option (V×Sig)):Prop:=
 ∀v σ1,r=some (v,σ1)->∃jq,r'=some (v,jq)/\iB σ σ1/\iB σ' jq/\(∀k,W k->bL σ1 jq k)/\(∀k,¬W k->bL σ σ1 k)/\∀k,¬W k->bL σ' jq k
theorem bL.refl (σ:Sig) (k:Key):bL σ σ k:=by cases k<;>simp[bL]
theorem bL.chain {σ1 jq:Sig} {k:Key} (h:bL σ σ' k) (h1:bL σ σ1 k) (h2:bL σ' jq k):bL σ1 jq k:=by
 cases k with
 |obj l=>exact Eq.trans (show jq.obj l=σ'.obj l from h2) (Eq.trans (show σ'.obj l=σ.obj l from h) (show σ1.obj l=σ.obj l from h1).symm)
 |top=>exact Eq.trans (show jq.top=σ'.top from h2) (Eq.trans (show σ'.top=σ.top from h) (show σ1.top=σ.top from h1).symm)
 |slot t=>trivial
 |rest=>trivial
 |nx=>trivial
theorem Reads.local {r r':Option (V×Sig)} (h:Reads σ σ' r r'):Local (fun k=>k∈([]:List Key)) σ σ' r r':=fun v σ1 hr=>by
 obtain⟨h1,h2⟩:=h v σ1 hr
 subst h1
 exact⟨σ',h2,.refl _,.refl _,fun k hk=>absurd hk (List.not_mem_nil),fun k _=>.refl _ _,fun k _=>.refl _ _⟩
theorem Local.mono {W W':Key->Prop} {r r':Option (V×Sig)} (h:Local W σ σ' r r') (hW:∀k,W k->W' k) (hT:∀k,W' k->bL σ σ' k):Local W' σ σ' r r':=fun v σ1 hr=>by
 obtain⟨jq,h1,h2,h3,h4,h5,h6⟩:=h v σ1 hr
 refine⟨jq,h1,h2,h3,fun k hk=>?_,fun k hk=>h5 k (fun hw=>hk (hW k hw)),fun k hk=>h6 k (fun hw=>hk (hW k hw))⟩
 by_cases hw:W k
 ·exact h4 k hw
 ·exact(hT k hk).chain (h5 k hw) (h6 k hw)
theorem Ch {loc:Loc} {st:Nat} {ob:AObj} {k:Key} (hk:k∉[Key.obj loc]):bL σ (σ.setObj loc st ob) k:=by
 cases k with
 |obj l=>
  have:l≠loc:=fun e=>hk (by simp[e])
  show upd σ.obj loc _ l=σ.obj l
  simp[upd,this]
 |top=>rfl
 |slot t=>trivial
 |rest=>trivial
 |nx=>trivial
theorem Ci {s n:Nat} {k:Key} (hk:k∉[Key.top]):bL σ (σ.aL s n) k:=by
 cases k with
 |obj l=>rfl
 |top=>exact absurd (by simp) hk
 |slot t=>trivial
 |rest=>trivial
 |nx=>trivial
theorem oq {loc:Loc} {st:Nat} {ob:AObj} {v:V}:Local (fun k=>k∈[Key.obj loc]) σ σ' (some (v,σ.setObj loc st ob)) (some (v,σ'.setObj loc st ob)):=fun v1 σ1 h=>by
 simp only[iE,iR] at h
 obtain⟨rfl,rfl⟩:=h
 refine⟨_,rfl,⟨rfl,rfl⟩,⟨rfl,rfl⟩,fun k hk=>?_,fun k hk=>Ch hk,fun k hk=>Ch hk⟩
 obtain rfl:k= .obj loc:=by simpa using hk
 show upd σ'.obj loc _ loc=upd σ.obj loc _ loc
 simp[upd]
theorem aZ {W:Key->Prop} {r:Option (V×Sig)}:Local W σ σ' none r:=fun _ _ h=>by cases h
theorem dH {W:Key->Prop} {α:Type} {r:Option α} {f g:α->Option (V×Sig)} (h:∀x,Local W σ σ' (f x) (g x)):Local W σ σ' (r.bind f) (r.bind g):=by
 cases r with
 |none=>exact aZ
 |some x=>exact h x
theorem iF {W:Key->Prop} {c:Prop} [Decidable c] {r r' s s':Option (V×Sig)} (h1:Local W σ σ' r r') (h2:Local W σ σ' s s'):Local W σ σ' (if c then r else s) (if c then r' else s'):=by
 split<;>assumption
theorem ou (ht:σ'.top=σ.top) {s n:Nat} {v:V}:Local (fun k=>k∈[Key.top]) σ σ' (some (v,σ.aL s n)) (some (v,σ'.aL s n)):=fun v1 σ1 h=>by
 simp only[iE,iR] at h
 obtain⟨rfl,rfl⟩:=h
 refine⟨_,rfl,⟨rfl,rfl⟩,⟨rfl,rfl⟩,fun k hk=>?_,fun k hk=>Ci hk,fun k hk=>Ci hk⟩
 obtain rfl:k= .top:=by simpa using hk
 show upd σ'.top s n=upd σ.top s n
 rw[ht]
theorem Cj {W:Key->Prop} {α:Type} {r:Option α} {f g:α->V×Sig} (h:∀x,Local W σ σ' (some (f x)) (some (g x))):Local W σ σ' (r.map f) (r.map g):=by
 cases r with
 |none=>exact aZ
 |some x=>exact h x
theorem Ck {t:TypeId} {m k v:V} (h:∀q∈bI m,bL σ σ' q):
 Local (fun q=>q∈bI m) σ σ' ((gV E.P σ t m k v).map fun σ=>(undefV,σ)) ((gV E.P σ' t m k v).map fun σ=>(undefV,σ)):=by
 unfold gV
 cases mapT E.P t with
 |none=>exact aZ
 |some p=>
  simp only[Option.bind_some]
  split
  ·cases m with
   |mapr loc s=>
    have h1:σ'.obj loc=σ.obj loc:=h (.obj loc) (by simp[bI])
    simp only[xk h1]
    cases σ.bD loc s with
    |none=>exact aZ
    |some q=>
     simp only[Option.bind_some,Option.map_map]
     exact Cj (fun x=>oq)
   |_=>exact aZ
  ·exact aZ
theorem Kh {fr:Fr} {st:Nat} {o:Oper} {t:TypeId} {l c:V} (h:∀q∈Key.top::gY fr o,bL σ σ' q):
 Local (fun q=>q∈Key.top::gY fr o) σ σ' (jf E.P fr.om σ st (o.dst.map fun t=>(fr.d,t)) t l c) (jf E.P fr.om σ' st (o.dst.map fun t=>(fr.d,t)) t l c):=by
 unfold jf
 refine dH (fun e=>dH (fun sz=>dH (fun by_=>dH (fun z=>dH (fun n=>dH (fun m=>iF (iF ?_ ?_) aZ))))))
 ·exact(ou (h .top (by simp))).mono (fun k hk=>by simp at hk;simp[hk]) h
 ·cases hd:o.dst with
  |none=>exact aZ
  |some d=>
   simp only[Option.map_some,Option.bind_some]
   exact Cj (fun ag=>oq.mono (fun k hk=>by simp at hk;simp[hk,gY,hd]) (by simpa [gY,hd] using h))
theorem xq {zeros:Bool} {st:Nat} {loc:Option Loc} {t:TypeId} {x y:V} (hy:∀q∈bI y,bL σ σ' q) (ht:σ'.top=σ.top):
 Local (fun q=>q∈[Key.top]) σ σ' (dw E.P false zeros σ st loc t x y) (dw E.P false zeros σ' st loc t x y):=by
 unfold dw
 refine dH (fun e=>dH (fun sz=>dH (fun by_=>dH (fun ag=>dH (fun z=>iF ?_ aZ)))))
 rw[Kg hy]
 refine dH (fun ys=>iF ?_ aZ)
 cases x with
 |lst c l=>
  simp only
  refine iF ?_ aZ
  cases c with
  |own n s=>simp only[ht];exact iF (ou ht) aZ
  |nil=>exact ou ht
  |full=>exact ou ht
  |sh=>exact aZ
 |vw bW s off len cap au jX=>simp only[RH,false_and,and_false,if_false];exact aZ
 |_=>exact aZ
theorem tH {om:Bool} {loc:Option Loc} {st:Nat} {b:Builtin} {tys:Array TypeId} {args:List V} (hb:b= .len\/b= .cap\/b= .min\/b= .max) (h:∀x∈args,∀q∈bI x,bL σ σ' q):
 Reads σ σ' (fC E om loc σ st b tys args) (fC E om loc σ' st b tys args):=by
 rcases hb with rfl|rfl|rfl|rfl
 ·rcases args with _| ⟨x,_| ⟨y,l⟩⟩
  ·exact iD
  ·refine lq (fun t=>?_)
   rw[Ke (h x (by simp))]
   exact eY _
  ·exact iD
 ·rcases args with _| ⟨x,_| ⟨y,l⟩⟩
  ·exact iD
  ·refine lq (fun t=>lq (fun e=>?_))
   cases x with
   |lst c l=>cases c<;>first|exact fE|exact iD
   |_=>exact iD
  ·exact iD
 ·rcases args with _| ⟨x,l⟩
  ·exact iD
  ·exact eY _
 ·rcases args with _| ⟨x,l⟩
  ·exact iD
  ·exact eY _
theorem Ki {loc:Option Loc} {st:Nat} {tys:Array TypeId} {args:List V} (h:∀x∈args,∀q∈bI x,bL σ σ' q) (ht:σ'.top=σ.top):
 Local (fun q=>q∈[Key.top]) σ σ' (fC E false loc σ st .append tys args) (fC E false loc σ' st .append tys args):=by
 rcases args with _| ⟨x,_| ⟨y,_| ⟨z,l⟩⟩⟩
 ·exact aZ
 ·exact aZ
 ·refine dH (fun t=>dH (fun u=>?_))
  split
  ·exact xq (h y (by simp)) ht
  ·exact xq (h y (by simp)) ht
  ·exact xq (h y (by simp)) ht
  ·exact aZ
 ·exact aZ
end
section
variable {E:Env} {S:bG} {fr fr':Fr} {σ σ':Sig}
theorem Cm {loc:Loc} {k:Key} (hk:k∉[Key.obj loc]):bL σ (σ.bR loc) k:=by
 cases k with
 |obj l=>
  have:l≠loc:=fun e=>hk (by simp[e])
  show upd σ.obj loc none l=σ.obj l
  simp[upd,this]
 |top=>rfl
 |slot t=>trivial
 |rest=>trivial
 |nx=>trivial
theorem Kj {loc:Loc} {v:V}:Local (fun k=>k∈[Key.obj loc]) σ σ' (some (v,σ.bR loc)) (some (v,σ'.bR loc)):=fun v1 σ1 h=>by
 simp only[iE,iR] at h
 obtain⟨rfl,rfl⟩:=h
 refine⟨_,rfl,⟨rfl,rfl⟩,⟨rfl,rfl⟩,fun k hk=>?_,fun k hk=>Cm hk,fun k hk=>Cm hk⟩
 obtain rfl:k= .obj loc:=by simpa using hk
 show upd σ'.obj loc none loc=upd σ.obj loc none loc
 simp[upd]
theorem Kk {x:V} (h:∀k,k∈bI x->bL σ σ' k):Local (fun k=>k∈bI x) σ σ' (jg σ x) (jg σ' x):=by
 cases x with
 |vw loc s off len cap au ag=>
  have h1:σ'.obj loc=σ.obj loc:=h (.obj loc) (by simp[bI])
  simp only[jg,oo h1]
  exact dH (fun cs=>iF Kj aZ)
 |_=>exact fE.local.mono (fun k hk=>by cases hk) h
theorem Kl {st:Nat} {o:Oper} (hc:∀c,o.op≠ .call c) (hw:(bP E fr o).wAll=false) (h:∀k,k∈(bP E fr o).t\/k∈(bP E fr o).w->bL σ σ' k):
 Local (fun k=>k∈(bP E fr o).w) σ σ' (aF E fr σ st o) (aF E fr σ' st o):=by
 cases ho:o.op<;>simp only[bP,ho,allF,reduceCtorEq,Bool.true_eq_false] at hw
 case call c=>exact absurd ho (hc c)
 all_goals
  simp only[bP,ho,rdF,wrF] at h
  simp only[bP,ho,rdF,wrF]
  unfold aF
  simp only[ho]
 case move x=>
  by_cases hz:fzM E o.dst=true
  ·simp only[hz,if_true] at h⊢
   exact Kk (fun k hk=>h k (.inr hk))
  ·simp only[hz,RH,if_false]
   exact fE.local
 case assign=>exact fE.local
 case pick=>exact(eY _).local
 case alloc t=>
  cases hd:o.dst with
  |none=>exact aZ
  |some d=>simp only[Option.map_some,Option.bind_some,gY,hd];exact dH (fun z=>iF oq aZ)
 case box t x=>
  by_cases hz:E.frz t=true
  ·simp only[hz,if_true]
   exact(tF fE iD).local.mono (fun k hk=>by cases hk) (fun k hk=>h k (.inr hk))
  ·simp only[hz,RH,if_false]
   cases hd:o.dst with
   |none=>exact aZ
   |some d=>simp only[Option.map_some,Option.bind_some,gY,hd];exact iF oq aZ
 case build t parts=>exact(lq (fun _=>lq (fun _=>eY _))).local
 case buildSlice t len parts=>exact(eY _).local
 case load t a=>
  cases hx:fr.ev E a with
  |ref loc s off=>
   have h1:σ'.obj loc=σ.obj loc:=h (.obj loc) (by simp[hx,bI])
   simp only[oo h1]
   exact(lq (fun _=>eY _)).local
  |cref cs off=>exact(eY _).local
  |_=>exact aZ
 case store t a x=>
  cases hx:fr.ev E a with
  |ref loc s off=>
   have h1:σ'.obj loc=σ.obj loc:=h (.obj loc) (by simp[hx,bI])
   simp only[oo h1]
   exact dH (fun _=>iF oq aZ)
  |_=>exact aZ
 case nilCheck x=>
  cases hx:fr.ev E x with
  |ref loc s off=>exact fE.local
  |cref cs off=>exact fE.local
  |fn f a b=>cases f<;>first|exact fE.local|exact aZ
  |_=>exact aZ
 case binOp=>exact(eY _).local
 case unOp=>exact(eY _).local
 case convert a b x=>rw[J9 (fun k hk=>h k (.inl hk))];exact(eY _).local
 case sliceToArrayPointer t x=>
  refine dH (fun p=>?_)
  cases hx:fr.ev E x with
  |vw loc s off len cap au ag=>exact(tF fE iD).local
  |lst c l=>exact(tF fE iD).local
  |_=>exact aZ
 case typeAssert=>exact(eY _).local
 case makeInterface t x=>
  split
  ·exact aZ
  ·exact fE.local
  ·exact aZ
 case makeFunc f a b=>cases f<;>first|exact fE.local|exact aZ
 case makeMap t r=>
  cases r with
  |some _=>exact aZ
  |none=>
   cases hd:o.dst with
   |none=>exact aZ
   |some d=>simp only[Option.map_some,gY,hd];exact oq
 case makeSlice t l c=>exact Kh (fun q hq=>h q (.inr hq))
 case slice t x lo hi mx=>rw[Ka (fun k hk=>h k (.inl hk))];exact(eY _).local
 case fieldAddr t x f=>
  refine dH (fun p=>?_)
  cases hx:fr.ev E x with
  |ref loc s off=>exact fE.local
  |cref cs off=>exact fE.local
  |_=>exact aZ
 case field t x f=>
  refine dH (fun p=>?_)
  cases hx:fr.ev E x with
  |agg cs=>exact(eY _).local
  |_=>exact aZ
 case indexAddr=>exact(eY _).local
 case index=>exact(eY _).local
 case lookup t x i ok=>rw[Kc (fun k hk=>h k (.inl hk))];exact(eY _).local
 case mapUpdate t m k v=>exact Ck (fun q hq=>h q (.inr hq))
 case insert t m k v=>exact Ck (fun q hq=>h q (.inr hq))
 case extract x i=>
  cases hx:fr.ev E x with
  |tup vs=>exact(eY _).local
  |_=>exact aZ
theorem qA {α β:Type} {f g:α->Option β}:∀{l:List α},(∀x∈l,f x=g x)->l.mapM f=l.mapM g
 | [],_=>rfl
 |a::l,h=>by
  simp only[RX]
  rw[h a (by simp),qA (fun x hx=>h x (by simp[hx]))]
theorem xu {n:Nat} {x:V} (hp:pclean x=true):closeV n σ' x=closeV n σ x:=by
 cases n with
 |zero=>rfl
 |succ n=>unfold closeV;simp only[hp,if_true]
theorem Cn {l:List V} {x:V} (h:x∈l):∃i,∃hi:i<l.length,x=l[i]:=by
 obtain⟨i,hi,e⟩:=TB.1 h
 exact⟨i,hi,e.symm⟩
theorem Co {n:Nat} {c:Cap} {l:List V} (hp:pcleanL l=true):closeV n σ' (.lst c l)=closeV n σ (.lst c l):=by
 cases n with
 |zero=>rfl
 |succ n=>
  unfold closeV
  split
  ·rfl
  ·simp only
   rw[qA (fun x hx=>?_)]
   obtain⟨i,hi,rfl⟩:=Cn hx
   exact xu (qo hp hi)
theorem Km {n:Nat} {x:V} (hp:pclean (bn x)=true):closeV n σ' x=closeV n σ x:=by
 cases x with
 |lst c l=>exact Co (by simpa [bn,pclean] using hp)
 |_=>exact xu hp
theorem Cq {n:Nat} {x:V} (hp:pclean (er x)=true):closeV n σ' x=closeV n σ x:=by
 cases x with
 |lst c l=>exact Co (by simpa [er,pclean] using hp)
 |agg cs=>
  have hp':pcleanL (cs.map bn)=true:=by simpa [er,pclean] using hp
  cases n with
  |zero=>rfl
  |succ n=>
   unfold closeV
   split
   ·rfl
   ·simp only
    rw[qA (fun x hx=>?_)]
    obtain⟨i,hi,rfl⟩:=Cn hx
    refine Km ?_
    have:=qo hp' (i:=i) (by simpa using hi)
    simpa using this
 |_=>exact xu hp
theorem Kn {d:Nat} {g:FuncId} {a b args:List V} (hi:E.imp g=false) (hp:(a++args++b).all (fun v=>pclean (er v))=true):
 Reads σ σ' (dh E S d σ (.fn (.func g) a b) args) (dh E S d σ' (.fn (.func g) a b) args):=by
 unfold dh
 simp only[hi,RH,if_false]
 rw[qA (f:=closeV 20 σ') (g:=closeV 20 σ) (fun x hx=>Cq (by simp only[RZ] at hp;exact hp x hx))]
 exact lq (fun as=>lq (fun v=>tF fE iD))
theorem Ko {d:Nat} {g:FuncId} {a b args:List V} (hi:E.imp g=false) {v:V} {σ1:Sig} (h:dh E S d σ (.fn (.func g) a b) args=some (v,σ1)):σ1=σ:=by
 unfold dh at h
 simp only[hi,RH,if_false,iP] at h
 obtain⟨_,_,_,_,h⟩:=h
 split at h
 ·simp only[iE,iR] at h;exact h.2.symm
 ·simp at h
theorem Ag.refl (k:Key) (x:Fr×Sig):Ag k x x:=by cases k<;>simp[Ag]
theorem Ag.symm {k:Key} {x y:Fr×Sig} (h:Ag k x y):Ag k y x:=by
 cases k with
 |slot t=>exact Eq.symm h
 |obj l=>exact Eq.symm h
 |top=>exact Eq.symm h
 |rest=>exact⟨h.1.symm,h.2.symm⟩
 |nx=>exact⟨h.1.symm,h.2.symm⟩
theorem Ag.trans {k:Key} {x y z:Fr×Sig} (h:Ag k x y) (g:Ag k y z):Ag k x z:=by
 cases k with
 |slot t=>exact Eq.trans h g
 |obj l=>exact Eq.trans h g
 |top=>exact Eq.trans h g
 |rest=>exact⟨h.1.trans g.1,h.2.trans g.2⟩
 |nx=>exact⟨h.1.trans g.1,h.2.trans g.2⟩
theorem Ag.all {x y:Fr×Sig} (h:∀k,Ag k x y):x=y:=by
 obtain⟨⟨d,om,tm⟩,⟨nx,top,obj,lp⟩⟩:=x
 obtain⟨⟨d',Rq,tm'⟩,⟨nx',top',qB,Cr⟩⟩:=y
 obtain⟨h1,h2⟩:=h .rest
 obtain⟨h3,h4⟩:=h .nx
 have h5:top=top':=h .top
 have h6:obj=qB:=funext fun l=>h (.obj l)
 have h7:tm=tm':=funext fun t=>h (.slot t)
 simp only at h1 h2 h3 h4
 subst h1 h2 h3 h4 h5 h6 h7
 rfl
def Foot.T (f:Foot) (k:Key):Prop:=k= .rest\/k∈f.t\/k∈f.w\/((f.tAll=true\/f.wAll=true)/\k.state=true)
def Foot.W (f:Foot) (k:Key):Prop:=k∈f.w\/(f.wAll=true/\k.state=true)
theorem Foot.Ct {f:Foot} {k:Key} (h:f.W k):f.T k:=by
 rcases h with h| ⟨h,h1⟩
 ·exact .inr (.inr (.inl h))
 ·exact .inr (.inr (.inr ⟨.inr h,h1⟩))
end
theorem Cu {α:Type} {p q:α->Bool} {a:α}:∀{l:List α},(∀x,q x=true->p x=true)->a∈l->p a=true->q a=false->l.countP q<l.countP p
 | [],_,h,_,_=>by cases h
 |x::l,xw,hm,hp,hq=>by
  rw[List.countP_cons,List.countP_cons]
  have hle:l.countP q<=l.countP p:=List.countP_mono_left (fun x _ h=>xw x h)
  rcases RL.1 hm with e|e
  ·subst e
   simp only[hp,hq,if_true]
   have:(if false=true then 1 else 0)=0:=rfl
   omega
  ·have:=Cu xw e hp hq
   by_cases hx:q x=true
   ·have:=xw x hx
    simp only[hx,this,if_true];omega
   ·have hx':q x=false:=by simpa using hx
    rw[hx']
    have h0:(if false=true then 1 else 0:Nat)=0:=rfl
    rw[h0]
    omega
structure kC (md:Region.Mode) (ops:Array Oper) (done l:List Nat):Prop where
 nodup:l.Nodup
 mem:∀i∈l,i<ops.size/\i∉done
 all:∀i,i<ops.size->i∈done\/i∈l
 ord:∀l1 i l2,l=l1++i::l2->∀o,ops[i]? =some o->∀e∈o.after.toList,Region.binds md e=true->e.on∈done\/e.on∈l1
theorem go_acc (md:Region.Mode) (ops:Array Oper):∀(fuel t:Nat) (listed:Array Bool) (acc:List Nat),
 Region.linearise.go md ops fuel t listed acc=acc.reverse++Region.linearise.go md ops fuel t listed []:=by
 intro fuel
 induction fuel with
 |zero=>intro t listed acc;simp[Region.linearise.go]
 |succ fuel ih=>
  intro t listed acc
  simp only[Region.linearise.go]
  split
  ·rename_i i _
   rw[ih _ _ (i::acc),ih _ _ [i]]
   simp
  ·simp
theorem go_ok (ops:Array Oper) (dX:edgesOK ops.toList=true):∀(fuel t:Nat) (listed:Array Bool) (done:List Nat),
 listed.size=ops.size->(∀i,i<ops.size->(listed.getD i true=true↔i∈done))->(List.range ops.size).countP (fun i=>decide (i∉done))<=fuel->
 kC .any ops done (Region.linearise.go .any ops fuel t listed []):=by
 have xA:∀(i:Nat) (o:Oper),ops[i]? =some o->∀e∈o.after.toList,Region.binds .any e=true->e.on<i:=by
  intro i o ho e he hb
  have hi:i<ops.size:=by
   rcases Nat.lt_or_ge i ops.size with h|h
   ·exact h
   ·rw[Array.getElem?_eq_none h] at ho;cases ho
  simp only[edgesOK,RZ] at dX
  have:=dX i (by simpa using hi)
  have ho':ops.toList[i]? =some o:=by simpa using ho
  rw[ho'] at this
  simp only[RZ] at this
  simpa [hb] using this e he
 intro fuel
 induction fuel with
 |zero=>
  intro t listed done hsz hl hf
  refine⟨by simp[Region.linearise.go],by simp[Region.linearise.go],fun i hi=>?_,fun l1 i l2 h=>by simp[Region.linearise.go] at h⟩
  by_cases hd:i∈done
  ·exact .inl hd
  ·have:0< (List.range ops.size).countP (fun i=>decide (i∉done)):=List.countP_pos_iff.2 ⟨i,by simpa using hi,by simpa using hd⟩
   omega
 |succ fuel ih=>
  intro t listed done hsz hl hf
  simp only[Region.linearise.go]
  generalize hrs:(List.range ops.size).filter (fun i=>!listed.getD i true&& ((ops[i]?).map (·.after.all fun e=>!Region.binds .any e||listed.getD e.on false)).getD false)=rs
  have hmem:∀i,i∈rs↔i<ops.size/\i∉done/\∃o,ops[i]? =some o/\∀e∈o.after.toList,Region.binds .any e=true->e.on∈done:=by
   intro i
   rw[<-hrs,List.mem_filter]
   constructor
   ·rintro⟨h1,h2⟩
    have hi:i<ops.size:=by simpa using h1
    simp only[RD,SK] at h2
    have hd:i∉done:=fun h=>by have:=(hl i hi).2 h;rw[this] at h2;exact absurd h2.1 (by simp)
    have hoi:ops[i]? =some ops[i]:=by simp[hi]
    refine⟨hi,hd,ops[i],hoi,fun e he hb=>?_⟩
    have h3:=h2.2
    rw[hoi] at h3
    simp only[Option.map_some,Option.getD_some,Array.all_eq_true'] at h3
    have h4:=h3 e (by simpa using he)
    rw[hb] at h4
    have hon:e.on<ops.size:=Nat.lt_trans (xA i _ hoi e he hb) hi
    have h5:listed.getD e.on false=true:=by simpa using h4
    refine(hl e.on hon).1 ?_
    simp only[Array.getD,hsz,hon,dif_pos] at h5⊢
    exact h5
   ·rintro⟨hi,hd,o,ho,he⟩
    refine⟨by simpa using hi,?_⟩
    have h1:listed.getD i true=false:=by
     have:=mt (hl i hi).1 hd
     simpa using this
    simp only[h1,Bool.not_false,Bool.true_and,ho,Option.map_some,Option.getD_some,Array.all_eq_true']
    intro e tJ
    have Cv:e∈o.after.toList:=by simpa using tJ
    cases hb:Region.binds .any e with
    |false=>rfl
    |true=>
     have hon:e.on<ops.size:=Nat.lt_trans (xA i _ ho e Cv hb) hi
     have:=(hl e.on hon).2 (he e Cv hb)
     simp only[Array.getD,hsz,hon,dif_pos] at this⊢
     show (!true||listed.getInternal e.on _)=true
     rw[this];rfl
  cases hpick:rs[t% rs.length]? with
  |none=>
   have hnil:rs=[]:=by
    cases rs with
    |nil=>rfl
    |cons x xs=>
     have hlt:t% (x::xs).length< (x::xs).length:=Nat.mod_lt _ (by simp)
     rw[List.getElem?_eq_none_iff] at hpick
     omega
   simp only[List.reverse_nil]
   refine⟨by simp,by simp,fun i hi=>?_,fun l1 i l2 h=>by simp at h⟩
   refine Classical.byContradiction fun hno=>?_
   have hex:∃i,i<ops.size/\i∉done:=⟨i,hi,fun h=>hno (.inl h)⟩
   have hmin:∀k,(∃i,i<=k/\i<ops.size/\i∉done)->∃i,i<ops.size/\i∉done/\∀j,j<i->j∈done:=by
    intro k
    induction k with
    |zero=>
     rintro⟨i,h0,h1,h2⟩
     obtain rfl:i=0:=by omega
     exact⟨0,h1,h2,fun j hj=>absurd hj (RI j)⟩
    |succ k ihk=>
     rintro⟨i,h0,h1,h2⟩
     by_cases hsm:∃i,i<=k/\i<ops.size/\i∉done
     ·exact ihk hsm
     ·refine⟨i,h1,h2,fun j hj=>Classical.byContradiction fun hjd=>hsm ⟨j,by omega,by omega,hjd⟩⟩
   obtain⟨i0,h1,h2,h3⟩:=hmin i ⟨i,mF _,hi,fun h=>hno (.inl h)⟩
   have:i0∈rs:=(hmem i0).2 ⟨h1,h2,ops[i0],by simp[h1],fun e he hb=>h3 _ (xA i0 _ (by simp[h1]) e he hb)⟩
   rw[hnil] at this
   cases this
  |some i=>
   simp only
   rw[go_acc,List.reverse_singleton]
   have hi:i∈rs:=Sw hpick
   obtain⟨hilt,hid,o,ho,he⟩:=(hmem i).1 hi
   have hrec:=ih (t/rs.length) (listed.setIfInBounds i true) (i::done) (by simpa using hsz) (fun j hj=>by
    by_cases hji:j=i
    ·subst hji
     simp[Array.getD,hsz,hj]
    ·have h1:(listed.setIfInBounds i true).getD j true=listed.getD j true:=by
      simp only[Array.getD,Array.size_setIfInBounds,hsz,hj,dif_pos]
      exact Array.getElem_setIfInBounds_ne (by omega) (Ne.symm hji)
     rw[h1,hl j hj]
     simp[hji]) (by
    have:=Cu (l:=List.range ops.size) (p:=fun j=>decide (j∉done)) (q:=fun j=>decide (j∉i::done)) (a:=i)
     (fun x hx=>by simp at hx⊢;exact hx.2) (by simpa using hilt) (by simpa using hid) (by simp)
    omega)
   refine⟨?_,?_,?_,?_⟩
   ·simp only[List.singleton_append,Sl]
    exact⟨fun h=>(hrec.mem i h).2 (by simp),hrec.nodup⟩
   ·intro j hj
    rcases RL.1 hj with e|e
    ·subst e;exact⟨hilt,hid⟩
    ·have:=hrec.mem j e
     exact⟨this.1,fun h=>this.2 (by simp[h])⟩
   ·intro j hj
    rcases hrec.all j hj with h|h
    ·rcases RL.1 h with e|e
     ·exact .inr (by simp[e])
     ·exact .inl e
    ·exact .inr (by simp[h])
   ·intro l1 j l2 hjl o' ho' e tJ hb
    cases l1 with
    |nil=>
     simp only[List.singleton_append,List.nil_append,SG] at hjl
     obtain⟨rfl,_⟩:=hjl
     rw[ho] at ho'
     cases ho'
     exact .inl (he e tJ hb)
    |cons a l1=>
     simp only[List.singleton_append,List.cons_append,SG] at hjl
     obtain⟨rfl,hjl⟩:=hjl
     rcases hrec.ord l1 j l2 hjl o' ho' e tJ hb with h|h
     ·rcases RL.1 h with e'|e'
      ·exact .inr (by simp[e'])
      ·exact .inl e'
     ·exact .inr (by simp[h])
theorem Kq (ops:Array Oper) (dX:edgesOK ops.toList=true) (t:Nat):kC .any ops [] (Region.linearise .any ops t):=by
 refine go_ok ops dX ops.size t _ [] (by simp) (fun i hi=>?_) ?_
 ·simp[hi]
 ·have:=List.countP_le_length (p:=fun i=>decide (i∉([]:List Nat))) (l:=List.range ops.size)
  simpa using this
theorem Cw {mixed:Bool} (hm:mixed=true) (ops:Array Oper) (dX:edgesOK ops.toList=true) (t:Nat):∃md,kC md ops [] (Region.schedule mixed ops t):=by
 unfold Region.schedule
 rw[hm,Bool.true_or,if_pos rfl]
 exact⟨_,Kq _ dX _⟩
theorem Kr {e:Edge} (md:Region.Mode) (h:Region.binds .any e=true):Region.binds md e=true:=by
 unfold Region.binds at h⊢
 split at h
 ·simp at h
 ·simp at h
 ·rfl
section
variable {E:Env} {S:bG} {fr fr':Fr} {σ σ':Sig}
theorem Key.eq_iff {a b:Key}:a.eq b=true↔a=b:=by
 cases a<;>cases b<;>simp[Key.eq,gX]
 rename_i x y
 obtain⟨x1,x2⟩:=x
 obtain⟨y1,y2⟩:=y
 simp
 exact⟨fun h=>⟨h.2,h.1⟩,fun h=>⟨h.2,h.1⟩⟩
theorem Cy {f g:Foot} (h:clash f g=false) (k:Key):¬(f.W k/\g.T k):=by
 rintro⟨hw,ht⟩
 simp only[clash,SC,List.any_eq_false] at h
 obtain⟨h1,h2⟩:=h
 have Kt:k∈f.w:=by
  rcases hw with h| ⟨h,hs⟩
  ·exact h
  ·rw[h,Bool.true_and] at h1
   simp only[SC,List.any_eq_false] at h1
   obtain⟨⟨⟨a1,a2⟩,a3⟩,a4⟩:=h1
   rcases ht with e|e|e| ⟨e,_⟩
   ·subst e;cases hs
   ·exact absurd hs (a3 k e)
   ·exact absurd hs (a4 k e)
   ·rcases e with e|e
    ·rw[a1] at e;cases e
    ·rw[a2] at e;cases e
 have h3:=h2 k Kt
 simp only[SX,List.any_eq_true,RD,not_or,not_exists,not_and] at h3
 obtain⟨⟨⟨h4,h5⟩,h6⟩,h7⟩:=h3
 rcases ht with h|h|h| ⟨h,hs⟩
 ·exact h4 (Key.eq_iff.2 h)
 ·exact h5 k h (Key.eq_iff.2 rfl)
 ·exact h6 k h (Key.eq_iff.2 rfl)
 ·rcases h with h|h
  ·exact h7 (.inl h) hs
  ·exact h7 (.inr h) hs
theorem Ku {st:Nat} {o:Oper} {v:V} (hop:opC E S fr σ st o=some (v,fr',σ')):fr'=fr:=by
 unfold opC at hop
 split at hop
 ·split at hop
  ·simp only[RF,iR] at hop
   obtain⟨_,_,_,rfl,_⟩:=hop;rfl
  ·split at hop
   ·simp only[RF,iR] at hop
    obtain⟨_,_,_,rfl,_⟩:=hop;rfl
   ·simp only[RF,iR] at hop
    obtain⟨_,_,_,rfl,_⟩:=hop;rfl
  ·simp at hop
 ·simp at hop
 ·simp only[RF,iR] at hop
  obtain⟨_,_,_,rfl,_⟩:=hop;rfl
def drop2 (r:Option (V×Fr×Sig)):Option (V×Sig):=r.map fun (v,_,σ)=>(v,σ)
theorem Kv {r:Option (V×Fr×Sig)} {v:V} (h:drop2 r=some (v,σ)):∃fr,r=some (v,fr,σ):=by
 simp only[drop2,RF,iR] at h
 obtain⟨⟨v',fr',σ'⟩,h1,rfl,rfl⟩:=h
 exact⟨fr',h1⟩
theorem tK (r:Option (V×Sig)) (fr:Fr):drop2 (r.map fun (v,σ)=>(v,fr,σ))=r:=by
 cases r<;>rfl
theorem Kw (ht:σ'.top=σ.top) {st:Nat} {σ1:Sig} {v:V}:Local (fun k=>k∈[Key.top]) σ σ' (fV σ st σ1 v) (fV σ' st σ1 v):=by
 have hs:∀v:V,Local (fun k=>k∈[Key.top]) σ σ' (some (v,σ)) (some (v,σ')):=fun v=>
  (fE (σ:=σ) (σ':=σ')).local.mono (fun k hk=>by cases hk) (fun k hk=>by rw[R4.1 hk];exact ht)
 unfold fV
 cases v with
 |lst c l=>
  dsimp only
  refine iF ?_ aZ
  cases c with
  |nil=>exact hs _
  |full=>exact hs _
  |own n s=>exact iF (ou ht) aZ
  |sh=>exact aZ
 |vw loc s off len cap au ag=>
  dsimp only
  exact iF (dH fun _=>ou ht) aZ
 |_=>exact aZ
theorem Ky {b:Bool} {l:List V} (hp:l.all (fun a=>pclean (er a))=true):gW b σ' l=gW b σ l:=by
 have hm:∀l:List V,l.all (fun a=>pclean (er a))=true->l.mapM (closeV 20 σ')=l.mapM (closeV 20 σ):=fun l hp=>qA fun x hx=>Cq (RZ.1 hp x hx)
 unfold gW
 cases b with
 |false=>simp only[RH,if_false];exact hm l hp
 |true=>
  simp only[if_true]
  match l,hp with
  | [],_=>rfl
  |.lst .nil []::l,hp=>
   rw[List.all_cons,RD] at hp
   dsimp only
   rw[hm l hp.2]
  |.lst .nil (_::_)::_,_=>rfl
  |.lst .sh _::_,_=>rfl
  |.lst .full _::_,_=>rfl
  |.lst (.own _ _) _::_,_=>rfl
  |.int _ _::_,_=>rfl
  |.bool _::_,_=>rfl
  |.str _::_,_=>rfl
  |.nilp::_,_=>rfl
  |.nilf::_,_=>rfl
  |.nilm::_,_=>rfl
  |.nili::_,_=>rfl
  |.agg _::_,_=>rfl
  |.tup _::_,_=>rfl
  |.vw _ _ _ _ _ _ _::_,_=>rfl
  |.cref _ _::_,_=>rfl
  |.ref _ _ _::_,_=>rfl
  |.fn _ _ _::_,_=>rfl
  |.mapr _ _::_,_=>rfl
  |.mapc _ _::_,_=>rfl
  |.iface _ _::_,_=>rfl
  |.raw _::_,_=>rfl
theorem Kz (ht:σ'.top=σ.top) {st:Nat} {fv:V} {args:List V}:Local (fun k=>k∈[Key.top]) σ σ' (fZ E S σ st fv args) (fZ E S σ' st fv args):=by
 unfold fZ
 cases fv with
 |fn f a b=>
  cases f with
  |func f=>
   dsimp only
   by_cases hp:(a++args++b).all (fun a=>pclean (er a))=true
   ·rw[if_pos hp,if_pos hp,Ky hp]
    exact dH fun as=>dH fun r=>Kw ht
   ·rw[if_neg hp];exact aZ
  |_=>exact aZ
 |_=>exact aZ
theorem KC {st:Nat} {o:Oper} (hw:(bP E fr o).wAll=false) (iV:(bP E fr o).tAll=true->σ'=σ) (h:∀k,k∈(bP E fr o).t\/k∈(bP E fr o).w->bL σ σ' k):
 Local (fun k=>k∈(bP E fr o).w) σ σ' (drop2 (opC E S fr σ st o)) (drop2 (opC E S fr σ' st o)):=by
 by_cases hc:∃c,o.op= .call c
 ·obtain⟨c,ho⟩:=hc
  unfold opC
  simp only[ho]
  cases bf:c.callee with
  |builtin b=>
   simp only[tK]
   simp only[bP,ho,bf] at h hw iV
   simp only[bP,ho,bf]
   have hargs:∀(t:List Key),(∀k,k∈(c.args.toList.flatMap fun x=>bI (fr.ev E x))\/k∈t->bL σ σ' k)->∀x∈c.args.toList.map (fr.ev E),∀q∈bI x,bL σ σ' q:=by
    intro t ht x hx q hq
    obtain⟨y,hy,rfl⟩:=Sm.1 hx
    exact ht q (.inl (List.mem_flatMap.2 ⟨y,hy,hq⟩))
   cases b<;>simp only[allF,reduceCtorEq,Bool.true_eq_false] at hw
   case len=>exact(tH (.inl rfl) (hargs [] h)).local
   case cap=>exact(tH (.inr (.inl rfl)) (hargs [] h)).local
   case min=>exact(tH (.inr (.inr (.inl rfl))) (hargs [] h)).local
   case max=>exact(tH (.inr (.inr (.inr rfl))) (hargs [] h)).local
   case append=>
    cases aH:fr.om with
    |true=>rw[aH] at hw;simp at hw
    |false=>
     rw[aH] at h
     simp only[RH,if_false] at h⊢
     exact Ki (hargs _ h) (h .top (.inr (by simp)))
  |value f=>
   simp only[bP,ho,bf] at h hw iV
   simp only[bP,ho,bf]
   cases aX:dL E fr o f with
   |true=>
    rw[aX] at h
    simp only[if_true] at h⊢
    simp only[tK]
    have ht:σ'.top=σ.top:=h .top (.inr (by simp[wrF]))
    exact Kz ht
   |false=>
   rw[aX] at h hw iV
   simp only[RH,if_false] at h hw iV⊢
   simp only[tK]
   generalize jJ:fr.ev E f=fv at h hw iV⊢
   cases fv with
   |fn g a b=>
    cases g with
    |func g=>
     simp only at h hw iV⊢
     cases hi:E.imp g with
     |true=>rw[hi] at hw;simp[allF] at hw
     |false=>
      rw[hi] at h iV
      simp only[RH,if_false] at h iV⊢
      split
      ·rename_i hp
       exact(Kn hi hp).local
      ·rename_i hp
       rw[if_neg hp] at iV
       have:=iV rfl
       subst this
       intro v σ1 hr
       have:=Ko hi hr
       subst this
       exact⟨σ1,hr,.refl _,.refl _,fun k hk=>.refl _ _,fun k hk=>.refl _ _,fun k hk=>.refl _ _⟩
    |_=>simp[allF] at hw
   |_=>simp[allF] at hw
  |invoke r m=>exact aZ
 ·have hc':∀c,o.op≠ .call c:=fun c h=>hc ⟨c,h⟩
  have hd:∀(σ:Sig),(∀d,o.op≠ .defer d)->drop2 (opC E S fr σ st o)=aF E fr σ st o:=by
   intro σ hd
   unfold opC
   split
   ·rename_i c hh;exact absurd hh (hc' c)
   ·rename_i c hh;exact absurd hh (hd c)
   ·exact tK _ _
  by_cases hdf:∃d,o.op= .defer d
  ·obtain⟨d,ho⟩:=hdf
   simp only[bP,ho,allF,Bool.true_eq_false] at hw
  ·have Cz:∀d,o.op≠ .defer d:=fun d h=>hdf ⟨d,h⟩
   rw[hd σ Cz,hd σ' Cz]
   exact Kl hc' hw h
theorem xB {x:V}:Key.nx∉bI x:=by cases x<;>simp[bI]
theorem KE {o:Oper}:Key.nx∉(bP E fr o).w:=by
 have hd:Key.nx∉gY fr o:=by unfold gY;cases o.dst<;>simp
 unfold bP
 split<;>try simp[rdF,wrF,allF,hd,xB]
 split<;>try simp[rdF,wrF,allF,xB]
 all_goals (repeat' split)<;>simp[rdF,wrF,allF,xB]
theorem KF {ops:List Oper} {o:Oper} {t:Nat} (h:Operand.tmp t∈o.op.operands.toList):Key.slot t∈slotsT ops o:=by
 refine Tg _ (List.mem_filterMap.2 ⟨_,h,rfl⟩)
theorem KG {ops:List Oper} {o:Oper} (h:∀t,Key.slot t∈slotsT ops o->fr'.tm t=fr.tm t):∀x∈o.op.operands.toList,fr'.ev E x=fr.ev E x:=by
 intro x hx
 cases x with
 |tmp t=>exact h t (KF hx)
 |_=>rfl
theorem KH {ops:List Oper} {o:Oper} (h:∀t,Key.slot t∈slotsT ops o->fr'.tm t=fr.tm t):aT ops fr' o=aT ops fr o:=by
 unfold aT
 cases hg:o.guard with
 |none=>rfl
 |some g=>
  obtain⟨j,want⟩:=g
  simp only
  cases hd:(ops[j]?).bind (·.dst) with
  |none=>rfl
  |some t=>
   have:fr'.tm t=fr.tm t:=h t (Tq _ (by simp[hg,hd]))
   simp only[this]
theorem mG (fr:Fr) (d:Option Nat) (v:V) (t:Nat):(fr.put d v).tm t=if d=some t then v else fr.tm t:=by
 cases d with
 |none=>simp[Fr.put]
 |some i=>
  show upd fr.tm i v t=_
  by_cases h:t=i
  ·subst h;simp[upd]
  ·have:¬(some i=some t):=fun e=>h (by cases e;rfl)
   simp[upd,h,this]
theorem qC (fr:Fr) (d:Option Nat) (v:V):(fr.put d v).d=fr.d:=by cases d<;>rfl
theorem qD (fr:Fr) (d:Option Nat) (v:V):(fr.put d v).om=fr.om:=by cases d<;>rfl
theorem qE {o:Oper} {t:Nat}:Key.slot t∈slotsW o↔o.dst=some t:=by
 unfold slotsW
 cases o.dst with
 |none=>simp
 |some d=>simp only[R4,Key.slot.injEq,iE];exact⟨fun h=>h.symm,fun h=>h.symm⟩
theorem CB {ops:List Oper} {base i:Nat} {o:Oper} (ho:ops[i]? =some o) {wt:Bool} (hwt:aT ops fr o=some wt) {aB:Fr} {σ1:Sig} (hs:dn E S ops base i fr σ=some (aB,σ1))
 (x:Fr×Sig) (hx:∀k,(bq E ops fr o wt).T k->Ag k (fr,σ) x):
 ∃y:Fr×Sig,dn E S ops base i x.1 x.2=some y/\(∀k,(bq E ops fr o wt).W k->Ag k (aB,σ1) y)/\(∀k,¬(bq E ops fr o wt).W k->Ag k x y)/\
  ∀k,¬(bq E ops fr o wt).W k->Ag k (fr,σ) (aB,σ1):=by
 obtain⟨fr',σ'⟩:=x
 obtain⟨r1,r2⟩:fr.d=fr'.d/\fr.om=fr'.om:=hx .rest (.inl rfl)
 have hsl:∀t,Key.slot t∈slotsT ops o->fr'.tm t=fr.tm t:=by
  intro t ht
  refine Eq.symm (hx (.slot t) (.inr (.inl ?_)))
  cases wt
  ·exact ht
  ·exact Tg _ ht
 have KI:aT ops fr' o=some wt:=(KH hsl).trans hwt
 simp only[dn,ho,hwt,Option.bind_some] at hs
 simp only[dn,ho,KI,Option.bind_some]
 cases wt with
 |false=>
  simp only[RH,if_false,iE,iR] at hs⊢
  obtain⟨rfl,rfl⟩:=hs
  have hW:∀k,(bq E ops fr o false).W k↔k∈slotsW o:=fun k=>by
   refine⟨fun h=>?_,fun h=>.inl h⟩
   rcases h with h| ⟨h,_⟩
   ·exact h
   ·cases h
  have CF:∀(f:Fr) (s:Sig) k,¬(bq E ops fr o false).W k->Ag k (f,s) (f.put o.dst undefV,s):=by
   intro f s k hk
   rw[hW] at hk
   cases k with
   |slot t=>
    show f.tm t=(f.put o.dst undefV).tm t
    rw[mG,if_neg (fun e=>hk (qE.2 e))]
   |obj l=>rfl
   |top=>rfl
   |rest=>exact⟨(qC _ _ _).symm,(qD _ _ _).symm⟩
   |nx=>exact⟨rfl,rfl⟩
  refine⟨_,rfl,fun k hk=>?_,CF fr' σ',CF fr σ⟩
  rw[hW] at hk
  cases k with
  |slot t=>
   show (fr.put o.dst undefV).tm t=(fr'.put o.dst undefV).tm t
   rw[mG,mG,if_pos (qE.1 hk),if_pos (qE.1 hk)]
  |obj l=>exfalso;unfold slotsW at hk;cases hd:o.dst<;>simp[hd] at hk
  |top=>exfalso;unfold slotsW at hk;cases hd:o.dst<;>simp[hd] at hk
  |rest=>exfalso;unfold slotsW at hk;cases hd:o.dst<;>simp[hd] at hk
  |nx=>exfalso;unfold slotsW at hk;cases hd:o.dst<;>simp[hd] at hk
 |true=>
  simp only[if_true,RF,iR] at hs⊢
  obtain⟨⟨v,aW,σ2⟩,hop,rfl,rfl⟩:=hs
  obtain rfl:=Ku hop
  have key:∃mH,opC E S fr' σ' (base+i) o=some (v,fr',mH)/\(∀k,(bq E ops aW o true).W k->Ag k (aW,σ2) (aW,mH))/\
   (∀k,¬(bq E ops aW o true).W k->Ag k (aW,σ) (aW,σ2)/\Ag k (aW,σ') (aW,mH)):=by
   rw[J8 (KG hsl) r1.symm r2.symm]
   have xC:∀k,(bq E ops aW o true).T k->bL σ σ' k:=by
    intro k hk
    have:=hx k hk
    cases k with
    |obj l=>exact Eq.symm this
    |top=>exact Eq.symm this
    |slot t=>trivial
    |rest=>trivial
    |nx=>trivial
   cases mI:(bP E aW o).wAll with
   |true=>
    have hst:∀k:Key,k.state=true->bL σ σ' k:=fun k hk=>xC k (.inr (.inr (.inr ⟨.inr mI,hk⟩)))
    have hσ:σ'=σ:=by
     obtain⟨r3,r4⟩:σ.next=σ'.next/\σ.loops=σ'.loops:=hx .nx (.inr (.inr (.inr ⟨.inr mI,rfl⟩)))
     obtain⟨nx,top,obj,lp⟩:=σ
     obtain⟨nx',top',qB,Cr⟩:=σ'
     have h1:top'=top:=hst .top rfl
     have h2:qB=obj:=funext fun l=>hst (.obj l) rfl
     simp only at r3 r4
     subst h1 h2 r3 r4;rfl
    subst hσ
    refine⟨σ2,by rw[hop];rfl,fun k _=>.refl _ _,fun k hk=>?_⟩
    cases k with
    |slot t=>exact⟨rfl,rfl⟩
    |obj l=>exact absurd (.inr ⟨mI,rfl⟩) hk
    |top=>exact absurd (.inr ⟨mI,rfl⟩) hk
    |rest=>exact⟨⟨rfl,rfl⟩,⟨rfl,rfl⟩⟩
    |nx=>exact absurd (.inr ⟨mI,rfl⟩) hk
   |false=>
    have iV:(bP E aW o).tAll=true->σ'=σ:=by
     intro ht
     have hst:∀k:Key,k.state=true->bL σ σ' k:=fun k hk=>xC k (.inr (.inr (.inr ⟨.inl ht,hk⟩)))
     obtain⟨r3,r4⟩:σ.next=σ'.next/\σ.loops=σ'.loops:=hx .nx (.inr (.inr (.inr ⟨.inl ht,rfl⟩)))
     obtain⟨nx,top,obj,lp⟩:=σ
     obtain⟨nx',top',qB,Cr⟩:=σ'
     have h1:top'=top:=hst .top rfl
     have h2:qB=obj:=funext fun l=>hst (.obj l) rfl
     simp only at r3 r4
     subst h1 h2 r3 r4;rfl
    have hl:=KC (S:=S) (st:=base+i) mI iV (fun k hk=>xC k (by
     rcases hk with hk|hk
     ·exact .inr (.inl (Tq _ hk))
     ·exact .inr (.inr (.inl (Tq _ hk)))))
    obtain⟨mH,h1,h2,h3,h4,h5,h6⟩:=hl v σ2 (by rw[hop];rfl)
    obtain⟨Rs,h1'⟩:=Kv h1
    have hWw:∀k,(bq E ops aW o true).W k->k∈slotsW o\/k∈(bP E aW o).w:=fun k hk=>by
     rcases hk with h| ⟨h,_⟩
     ·exact List.mem_append.1 h
     ·have:(bP E aW o).wAll=true:=h
      rw[mI] at this;cases this
    have hto:∀{σa σb:Sig} {k:Key},bL σa σb k->iB σa σb\/k≠ .nx->Ag k (aW,σa) (aW,σb):=by
     intro σa σb k ha hn
     cases k with
     |slot t=>rfl
     |obj l=>exact Eq.symm ha
     |top=>exact Eq.symm ha
     |rest=>exact⟨rfl,rfl⟩
     |nx=>
      rcases hn with hn|hn
      ·exact⟨hn.1.symm,hn.2.symm⟩
      ·exact absurd rfl hn
    have KJ:Key.nx∉(bP E aW o).w:=KE
    refine⟨mH,by rw[h1'];rfl,fun k hk=>?_,fun k hk=>?_⟩
    ·rcases hWw k hk with h|h
     ·cases k with
      |slot t=>rfl
      |obj l=>exfalso;unfold slotsW at h;cases hd:o.dst<;>simp[hd] at h
      |top=>exfalso;unfold slotsW at h;cases hd:o.dst<;>simp[hd] at h
      |rest=>exfalso;unfold slotsW at h;cases hd:o.dst<;>simp[hd] at h
      |nx=>exfalso;unfold slotsW at h;cases hd:o.dst<;>simp[hd] at h
     ·exact hto (h4 k h) (.inr (fun e=>KJ (e▸h)))
    ·have hk':k∉(bP E aW o).w:=fun h=>hk (.inl (Tq _ h))
     exact⟨hto (h5 k hk') (.inl h2),hto (h6 k hk') (.inl h3)⟩
  obtain⟨mH,h1,h2,h3⟩:=key
  refine⟨(fr'.put o.dst v,mH),⟨_,h1,rfl⟩,fun k hk=>?_,fun k hk=>?_,fun k hk=>?_⟩
  ·have hk0:=h2 k hk
   cases k with
   |slot t=>
    show (aW.put o.dst v).tm t=(fr'.put o.dst v).tm t
    rw[mG,mG]
    split
    ·rfl
    ·exact hx (.slot t) (Foot.Ct hk)
   |obj l=>exact hk0
   |top=>exact hk0
   |rest=>
    refine⟨?_,?_⟩
    ·show (aW.put o.dst v).d=(fr'.put o.dst v).d;rw[qC,qC];exact r1
    ·show (aW.put o.dst v).om=(fr'.put o.dst v).om;rw[qD,qD];exact r2
   |nx=>exact hk0
  ·have hk0:=(h3 k hk).2
   cases k with
   |slot t=>
    show fr'.tm t=(fr'.put o.dst v).tm t
    rw[mG,if_neg (fun e=>hk (.inl (Tg _ (qE.2 e))))]
   |obj l=>exact hk0
   |top=>exact hk0
   |rest=>exact⟨(qC _ _ _).symm,(qD _ _ _).symm⟩
   |nx=>exact hk0
  ·have hk0:=(h3 k hk).1
   cases k with
   |slot t=>
    show aW.tm t=(aW.put o.dst v).tm t
    rw[mG,if_neg (fun e=>hk (.inl (Tg _ (qE.2 e))))]
   |obj l=>exact hk0
   |top=>exact hk0
   |rest=>exact⟨(qC _ _ _).symm,(qD _ _ _).symm⟩
   |nx=>exact hk0
end
end Aq
end
