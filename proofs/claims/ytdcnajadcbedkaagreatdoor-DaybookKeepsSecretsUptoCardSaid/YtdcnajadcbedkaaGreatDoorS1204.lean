/- Part of the proof of a law. -/
import Derived.Test.YtdcnajadcbedkaaGreatDoorS1203
set_option linter.all false
section
namespace Aq
open Go Go.RowKit
section
variable {E:Env} {S:jI} {K K':aP} {T T':Nat->Nat} {w w':World} {σ σ':ah} {B0:Nat}
theorem QN {n:Nat} {x y:V} (hp:aF x=true) (h:aQ n σ x=some y):y=x:=by
 cases n with
 |zero=>simp[aQ] at h
 |succ n=>
  unfold aQ at h
  simp only[hp,if_true,iE] at h
  exact h.symm
theorem WX {f:V->Option V} {l r:List V} (h:l.mapM f=some r) (g:V->V) (hf:∀i (hi:i<l.length) y,f l[i]=some y->y=g l[i]):r=l.map g:=by
 obtain⟨h1,h2⟩:=mapM_some h
 refine List.ext_getElem (by simp[h1]) (fun i hi hi'=> ?_)
 obtain⟨h3,h4⟩:=h2 i (by omega)
 simp only[al3]
 exact hf i (by omega) _ h4
theorem FC {l:List V} (h:aX l=true) {i:Nat} (hi:i<l.length):aF l[i]=true:=by
 have:=qG h i hi
 rwa[iD hi] at this
theorem WY {n:Nat} {c:Cap} {l:List V} {y:V} (hp:aX l=true) (h:aQ n σ (.aj c l)=some y):y= .aj .sh l:=by
 cases n with
 |zero=>simp[aQ] at h
 |succ n=>
  unfold aQ at h
  split at h
  ·rename_i hc
   simp only[iE] at h
   subst h
   cases c<;>simp only[aF,aap] at hc
   rfl
  ·simp only[aao] at h
   obtain⟨r,hr,rfl⟩:=h
   have:=WX hr id (fun i hi y hy=>QN (FC hp hi) hy)
   rw[this,List.map_id]
theorem ae7 {x:V} (hp:aF x=true):eP x=x:=by
 cases x with
 |aj c l=>cases c<;>simp only[aF,aap] at hp;rfl
 |_=>rfl
theorem ae8 {n:Nat} {x y:V} (hp:aF (eP x)=true) (h:aQ n σ x=some y):y=eP x:=by
 cases x with
 |aj c l=>exact WY (by simpa [eP,aF] using hp) h
 |_=>exact QN hp h
theorem WZ {n:Nat} {x y:V} (hp:aF (er x)=true) (h:aQ n σ x=some y):y=er x:=by
 cases x with
 |aj c l=>exact WY (by simpa [er,aF] using hp) h
 |agg cs=>
  have hp':aX (cs.map eP)=true:=by simpa [er,aF] using hp
  have hpi:∀i (hi:i<cs.length),aF (eP cs[i])=true:=fun i hi=>by
   have:=FC hp' (i:=i) (by simpa using hi)
   simpa using this
  cases n with
  |zero=>simp[aQ] at h
  |succ n=>
   unfold aQ at h
   split at h
   ·rename_i hc
    simp only[iE] at h
    subst h
    have hc':aX cs=true:=by simpa [aF] using hc
    show V.agg cs=V.agg (cs.map eP)
    congr 1
    refine List.ext_getElem (by simp) (fun i hi hi'=> ?_)
    simp only[al3]
    exact(ae7 (FC hc' hi)).symm
   ·simp only[aao] at h
    obtain⟨r,hr,rfl⟩:=h
    show V.agg r=V.agg (cs.map eP)
    rw[WX hr eP (fun i hi y hy=>ae8 (hpi i hi) hy)]
 |_=>exact QN hp h
theorem KE {a b:List V} {ca cb:Array Value} (h:RelA K T w a ca) (g:RelA K T w b cb):RelA K T w (a++b) (ca++cb):=by
 obtain⟨h1,h2⟩:=h
 obtain⟨g1,g2⟩:=g
 refine⟨by simp[h1,g1],fun i hi=> ?_⟩
 have hi':i<a.length+b.length:=by simpa using hi
 by_cases hlt:i<a.length
 ·have e1:(a++b).getD i aC=a.getD i aC:=by simp[List.getD,amk hlt]
  have e2:(ca++cb).getD i undef=ca.getD i undef:=by
   simp only[amc]
   rw[Array.getElem?_append_left (by omega)]
  rw[e1,e2];exact h2 i hlt
 ·have e1:(a++b).getD i aC=b.getD (i-a.length) aC:=by simp[List.getD,List.getElem?_append_right (Nat.le_of_not_lt hlt)]
  have e2:(ca++cb).getD i undef=cb.getD (i-a.length) undef:=by
   simp only[amc]
   rw[Array.getElem?_append_right (by omega),<-h1]
  rw[e1,e2];exact g2 _ (by omega)
theorem W9 {l r:List V} {cl:Array Value} {n:Nat} {K2:aP} {T2:Nat->Nat} (h:RelA K T w l cl) (hm:l.mapM (aQ n σ)=some r)
 (hx:∀x y c,x∈l->Rel K T w x c->aQ n σ x=some y->Rel K2 T2 w y c):RelA K2 T2 w r cl:=by
 obtain⟨h1,h2⟩:=h
 obtain⟨m1,m2⟩:=mapM_some hm
 refine⟨by omega,fun i hi=> ?_⟩
 obtain⟨h3,h4⟩:=m2 i (by omega)
 have:=h2 i (by omega)
 rw[iD (show i<l.length by omega)] at this
 rw[iD h3]
 exact hx _ _ _ (aed _) this h4
theorem ae9 {b:Bool} {l r:List V} (h:qB b σ l=some r):l.length=r.length/\∀i (hi:i<l.length),∃(h':i<r.length),(l[i]= .aj .nil []/\r[i]= .aj .nil [])\/aQ 20 σ l[i]=some r[i]:=by
 unfold qB at h
 split at h
 ·split at h
  ·rename_i l
   obtain⟨l',hm,rfl⟩:=aao.1 h
   obtain⟨m1,m2⟩:=mapM_some hm
   refine⟨by simp[m1],fun i hi=> ?_⟩
   cases i with
   |zero=>exact⟨by simp,.inl ⟨rfl,rfl⟩⟩
   |succ i=>
    obtain⟨h1,h2⟩:=m2 i (by simpa using hi)
    exact⟨by simpa using h1,.inr (by simpa using h2)⟩
  ·cases h
 ·obtain⟨m1,m2⟩:=mapM_some h
  exact⟨m1,fun i hi=>by obtain⟨h1,h2⟩:=m2 i hi;exact⟨h1,.inr h2⟩⟩
theorem afa {b:Bool} {l r:List V} {cl:Array Value} {K2:aP} {T2:Nat->Nat} (h:RelA K T w l cl) (hm:qB b σ l=some r)
 (hx:∀x y c,x∈l->Rel K T w x c->(x= .aj .nil []/\y= .aj .nil [])\/aQ 20 σ x=some y->Rel K2 T2 w y c):RelA K2 T2 w r cl:=by
 obtain⟨h1,h2⟩:=h
 obtain⟨m1,m2⟩:=ae9 hm
 refine⟨by omega,fun i hi=> ?_⟩
 obtain⟨h3,h4⟩:=m2 i (by omega)
 have:=h2 i (by omega)
 rw[iD (show i<l.length by omega)] at this
 rw[iD h3]
 exact hx _ _ _ (aed _) this h4
theorem Xa (hE:mH E) (h:aV E B0 σ K w):Ku E K.I K.IM w:=
 ⟨fun b o hi=>(h.I b o hi).1,fun b hi=>(h.IM b hi).1,fun g cs hg=>(h.glob g cs hg).pure (by simpa [aF] using hE.flat g cs hg) (fun _ _ h=>⟨h,rfl⟩) (fun _ h=>⟨h,rfl⟩)⟩
theorem afb (hE:mH E) (h:aV E B0 σ K w):Ku E (fun b o=> ∃v,w.cell? (at_ b o)=some v) (fun b=> ∃es bL,w.heap[b]? =some (.map es bL)) w:=
 ⟨fun _ _ hi=>hi,fun _ hi=>hi,fun g cs hg=>(h.glob g cs hg).pure (by simpa [aF] using hE.flat g cs hg) (fun b o hi=>⟨(h.I b o hi).1,rfl⟩) (fun b hi=>⟨(h.IM b hi).1,rfl⟩)⟩
theorem Xb (hE:mH E) (hS:Fz E S.call) (h:aV E B0 σ K w) (hB:B0<=w.heap.size) (hA:∀s,K.A s->s<σ.next) {d:Nat} {fv:V} {cf:Value} {args:List V} {dB:Array Value} {v:V}
 (hfn:∃f a b,fv= .fn (.func f) a b) (hv:iL E S d σ fv args=some (v,σ')) (rf:Rel K σ.top w fv cf) (ra:RelA K σ.top w args dB):
 σ.next<=σ'.next/\∃f first cap,cf= .func (.func f) first cap/\xk E f/\CallsIn Fence.wide 0 E.P f (first++dB++cap) w (xg E B0 σ K w v σ'):=by
 obtain⟨f,a,b,rfl⟩:=hfn
 unfold iL at hv
 ·dsimp only at hv
  cases rf with
  |fn _ _ _ av bv ha hb QO QS=>
  have FD:RelA K σ.top w (a++args++b) (av++dB++bv):=KE (KE ⟨ha,QO⟩ ra) ⟨hb,QS⟩
  split at hv
  ·obtain⟨h1,h2,h3⟩:=hS _ _ _ _ _ _ hv
   exact⟨h1,f,av,bv,rfl,h2,h3 none B0 K w _ h hB hA FD⟩
  ·simp only[iR] at hv
   obtain⟨as,has,r,hr,hv⟩:=hv
   split at hv
   ·rename_i hcl
    simp only[iE,mF] at hv
    obtain⟨rfl,rfl⟩:=hv
    obtain⟨p1,p2⟩:=WS hE hS hr
    refine⟨RS _,f,av,bv,rfl,p1, ?_⟩
    simp only[al5,adI] at hcl
    rcases hcl with hcl|hcl
    ·have FE:RelA (aP.lend K.I K.IM) (fun _=>0) w as (av++dB++bv):=by
      refine W9 FD has (fun x y c hx lF hxy=> ?_)
      have hp:=hcl x hx
      rw[WZ hp hxy]
      exact(Wd lF).pure hp (fun _ _ h=>⟨h,rfl⟩) (fun _ h=>⟨h,rfl⟩)
     refine(p2 _ _ w _ (Xa hE h) FE).mono ?_
     intro e w' hp
     cases e with
     |returned c=>
      obtain⟨hb',hr'⟩:=hp
      have st:=Step.grow (new:=newer σ σ) h hB hb'
      exact⟨_,hr'.Kv (fun _ _ h=>⟨h,rfl⟩) (fun _ h=>⟨h,rfl⟩),st.ok,hA,st⟩
     |panicked ch=>exact hp.elim
     |outgrown=>exact hp.elim
    ·have FE:RelA (aP.lend (fun b o=> ∃v,w.cell? (at_ b o)=some v) (fun b=> ∃es bL,w.heap[b]? =some (.map es bL))) (fun _=>0) w as (av++dB++bv):=by
      refine W9 FD has (fun x y c hx lF hxy=> ?_)
      exact(WO (T':=fun _=>0) h 20 x y c lF hxy).Kv (fun _ _ h=>⟨h.2,rfl⟩) (fun _ h=>⟨h.2,rfl⟩)
     refine(p2 _ _ w _ (afb hE h) FE).mono ?_
     intro e w' hp
     cases e with
     |returned c=>
      obtain⟨hb',hr'⟩:=hp
      have st:=Step.grow (new:=newer σ σ) h hB hb'
      exact⟨_,hr'.flat hcl,st.ok,hA,st⟩
     |panicked ch=>exact hp.elim
     |outgrown=>exact hp.elim
   ·simp at hv
theorem afc (h:aV E B0 σ K w) (hB:B0<=w.heap.size) {st:Nat} (hst:¬K.A st) {σ1:ah} {K1:aP} {v0 v:V} {c:Value} (hv:oo σ st σ1 v0=some (v,σ')) (r1:Rel K1 σ1.top w' v0 c) (s1:aV E w.heap.size σ1 K1 w') (hb:Below w.heap.size w w')
 (hI:∀b o,K1.I b o->K.I b o\/w.heap.size<=b) (P9:∀b,K1.IM b->K.IM b\/w.heap.size<=b):∃K',Rel K' σ'.top w' v c/\Step E B0 (· =st) σ K w σ' K' w':=by
 have KF:∀b o,K1.I b o->Aq.grow K.I w.heap.size w' b o:=fun b o hi=>⟨hI b o hi,(s1.I b o hi).1⟩
 have Xc:∀b,K1.IM b->sS K.IM w.heap.size w' b:=fun b hi=>⟨P9 b hi,(s1.IM b hi).1⟩
 unfold oo at hv
 split at hv
 ·rename_i cp l
  split at hv
  ·rename_i hp
   cases cp with
   |nil=>
    cases hv
    refine⟨_, ?_,Step.grow h hB hb⟩
    cases r1 with
    |dP _ a ha hc=>exact .dP .nil a ha trivial
    |aj _ _ b o n cap val hle hn hcell hrel hc=>exact hc.elim
   |full=>
    cases hv
    refine⟨_, ?_,Step.grow h hB hb⟩
    cases r1 with
    |dP _ a ha hc=>exact .dP .full a (fun h=>by cases h) trivial
    |aj _ _ b o n cap val hle hn hcell hrel hc=>
     exact .aj .full l b o n cap val hle hn (fun i j hi hj=>⟨(hcell i j hi hj).1,KF _ _ (hcell i j hi hj).2⟩)
      (fun i j hi hj=>(hrel i j hi hj).pure (QI (qG hp i hi) (by rw[hn i hi];exact hj)) (fun b o hi=>⟨KF b o hi,rfl⟩) (fun b hi=>⟨Xc b hi,rfl⟩)) hc
   |own n s=>
    dsimp only at hv
    split at hv
    ·rename_i htop
     cases hv
     have hown:K1.A s->K1.lo s<K1.hi s->w.heap.size<=K1.ob s/\∀o,K1.lo s<=o->o<K1.hi s->(∃v,w'.cell? (at_ (K1.ob s) o)=some v)/\w'.frozen? (at_ (K1.ob s) o)=false:=fun ha hl=>by
      obtain⟨a1,a2,a3⟩:=s1.own s ha hl
      exact⟨a1,fun o h1 h2=>(a3 o h1 h2).2⟩
     have hnot:K1.A s->∀b o,K1.I b o->¬(b=K1.ob s/\K1.lo s<=o/\o<K1.hi s):=by
      rintro ha b o hi ⟨rfl,h2,h3⟩
      exact((s1.own s ha (by omega)).2.2 o h2 h3).1 hi
     have hA:K1.A s:=by
      cases r1 with
      |dP _ a ha hc=>exact hc.1
      |aj _ _ b o n' cap val hle hn hcell hrel hc=>exact hc.2.1
     refine⟨_, ?_,Step.lY h hB hst hb (hown hA)⟩
     have t1:(σ.bU st l.length).top st=l.length:=upd_same _ _ _
     have q1:(K.lY w.heap.size w' st (K1.ob s) (K1.lo s) (K1.hi s)).ob st=K1.ob s:=upd_same _ _ _
     have q2:(K.lY w.heap.size w' st (K1.ob s) (K1.lo s) (K1.hi s)).lo st=K1.lo s:=upd_same _ _ _
     have q3:(K.lY w.heap.size w' st (K1.ob s) (K1.lo s) (K1.hi s)).hi st=K1.hi s:=upd_same _ _ _
     cases r1 with
     |dP _ a ha hc=>
      refine .dP _ a (fun h=>by cases h) ⟨.inr rfl,fun _=> ?_⟩
      rw[q2,q3]
      exact hc.2 htop
     |aj _ _ b o n' cap val hle hn hcell hrel hc=>
      refine .aj _ l b o n' cap val hle hn (fun i j hi hj=>⟨(hcell i j hi hj).1,KF _ _ (hcell i j hi hj).2,hnot hA _ _ (hcell i j hi hj).2⟩)
       (fun i j hi hj=>(hrel i j hi hj).pure (QI (qG hp i hi) (by rw[hn i hi];exact hj)) (fun b o hi=>⟨⟨KF b o hi,hnot hA b o hi⟩,rfl⟩) (fun b hi=>⟨Xc b hi,rfl⟩)) ?_
      refine⟨hc.1,.inr rfl,by rw[t1];exact RS _,fun _=> ?_⟩
      rw[q1,q2,q3]
      exact hc.2.2.2 htop.symm
    ·cases hv
   |sh=>cases hv
  ·cases hv
 ·rename_i loc s off len cap aS ag
  split at hv
  ·rename_i h0
   obtain⟨rfl,rfl⟩:=h0
   obtain⟨cs,hcs,hv⟩:=iR.1 hv
   cases hv
   have fin:∀dD:Nat,K1.A s->dD*aS<=K1.sz s->∃K',Rel K' (σ.bU st 0).top w' (.aj (.own aS st) []) (.slice (some (at_ (K1.blk s) 0)) 0 dD)/\Step E B0 (· =st) σ K w (σ.bU st 0) K' w':=by
    intro dD hA hsz
    obtain⟨g1,_,_⟩:=s1.rz hcs
    obtain⟨a1,a2,a3⟩:=s1.obj _ _ _ g1
    refine⟨K.lY w.heap.size w' st (K1.blk s) 0 (dD*aS), ?_,Step.lY h hB hst hb (fun hlt=> ?_)⟩
    ·have t1:(σ.bU st 0).top st=0:=upd_same _ _ _
     refine .aj _ [] (K1.blk s) 0 aS dD (fun _ _=>undef) (ael _) (fun i hi=>absurd hi (aat i)) (fun i j hi=>absurd hi (aat i)) (fun i j hi=>absurd hi (aat i)) ?_
     refine⟨rfl,.inr rfl,ael _,fun _=>⟨upd_same _ _ _, ?_, ?_⟩⟩
     ·show upd K.lo st 0 st=_;rw[upd_same];simp
     ·show upd K.hi st (dD*aS) st=_;rw[upd_same];simp
    ·have hne:cs≠[]:=by
      rintro rfl
      have:=a2.1 rfl
      omega
     obtain⟨b1,vals,t,b2,b3,b4,b5⟩:=a2.2 hne
     refine⟨b1,fun o h1 h2=>⟨⟨vals[o]'(by omega), ?_⟩, ?_⟩⟩
     ·simp[World.cell?,b2]
     ·unfold World.frozen?
      simp only[b2]
      simp
   cases r1 with
   |vw _ _ _ _ _ _ _ dD hA hc hle hsz=>
    exact fin dD hA (by simpa using hsz)
   |kZ _ _ _ _ hA=>
    refine⟨K.lY w.heap.size w' st 0 0 0, ?_,Step.lY h hB hst hb (fun hlt=>absurd hlt (Nat.lt_irrefl _))⟩
    refine .dP _ none (fun h=>by cases h) ⟨.inr rfl,fun _=> ?_⟩
    show upd K.hi st 0 st=upd K.lo st 0 st
    rw[upd_same,upd_same]
  ·cases hv
 ·cases hv
theorem Xd {st:Nat} {σ1:ah} {v0 v:V} (hv:oo σ st σ1 v0=some (v,σ')):σ'.next=σ.next:=by
 by_cases hvw:∃loc s off len cap aS ag,v0= .vw loc s off len cap aS ag
 ·obtain⟨loc,s,off,len,cap,aS,ag,rfl⟩:=hvw
  unfold oo at hv
  dsimp only at hv
  split at hv
  ·obtain⟨_,_,hv⟩:=iR.1 hv
   cases hv;rfl
  ·cases hv
 cases v0<;>first| (cases hv;done)|exact absurd ⟨_,_,_,_,_,_,_,rfl⟩ hvw|skip
 rename_i cp l
 have hv':(if aX l=true then (match cp with
  |.nil=>some (V.aj .nil l,σ)
  |.full=>some (.aj .full l,σ)
  |.own n s=>if σ1.top s=l.length then some (.aj (.own n st) l,σ.bU st l.length) else none
  |.sh=>none) else none)=some (v,σ'):=hv
 split at hv'
 ·cases cp with
  |nil=>cases hv';rfl
  |full=>cases hv';rfl
  |own n s=>dsimp only at hv';split at hv'<;>cases hv';rfl
  |sh=>cases hv'
 ·cases hv'
theorem afd (hE:mH E) (hS:Fz E S.call) (h:aV E B0 σ K w) (hB:B0<=w.heap.size) {st:Nat} (hst:¬K.A st) {fv:V} {cf:Value} {args:List V} {dB:Array Value} {v:V}
 (hv:mW E S σ st fv args=some (v,σ')) (rf:Rel K σ.top w fv cf) (ra:RelA K σ.top w args dB):
 σ'.next=σ.next/\∃f first cap,cf= .func (.func f) first cap/\xk E f/\CallsIn Fence.wide 0 E.P f (first++dB++cap) w (fun e w'=> ∃c K',e= .returned c/\Rel K' σ'.top w' v c/\Step E B0 (· =st) σ K w σ' K' w'):=by
 unfold mW at hv
 split at hv
 ·rename_i f a b
  split at hv
  ·rename_i hcl
   simp only[iR] at hv
   obtain⟨as,has,⟨v0,σ1⟩,hr,hv⟩:=hv
   cases rf with
   |fn _ _ _ av bv ha hb QO QS=>
   have FD:RelA K σ.top w (a++args++b) (av++dB++bv):=KE (KE ⟨ha,QO⟩ ra) ⟨hb,QS⟩
   obtain⟨_,p1,p2⟩:=hS _ _ _ _ _ _ hr
   have hnext:=Xd hv
   refine⟨hnext,f,av,bv,rfl,p1, ?_⟩
   simp only[adI] at hcl
   have FE:RelA (aP.lend K.I K.IM) ah.init.top w as (av++dB++bv):=by
    refine afa FD has (fun x y c hx lF hxy=> ?_)
    rcases hxy with ⟨rfl,rfl⟩|hxy
    ·cases lF with
     |dP _ a ha hc=>exact .dP .nil a ha trivial
     |aj _ _ b o n cap val hle hn hcell hrel hc=>exact hc.elim
    have hp:=hcl x hx
    rw[WZ hp hxy]
    exact(Wd lF).pure hp (fun _ _ h=>⟨h,rfl⟩) (fun _ h=>⟨h,rfl⟩)
   refine(p2 none w.heap.size (aP.lend K.I K.IM) w _ (WR (Xa hE h)) (RS _) (fun s hs=>hs.elim) FE).mono ?_
   intro e w' hp
   cases e with
   |returned c=>
    obtain⟨K1,r1,s1,_,st1⟩:=hp
    obtain⟨K',g1,g2⟩:=afc h hB hst hv r1 s1 st1.below st1.nI st1.wU
    exact⟨c,K',rfl,g1,g2⟩
   |panicked ch=>exact hp.elim
   |outgrown=>exact hp.elim
  ·cases hv
 ·cases hv
theorem QT (hE:mH E) {f:FuncId} (hb:xk E f) (args:Array Value) (w:World):(callFunc f args).run E.P w= .ok (.enter f args) w:=by
 obtain⟨fn,c,hf,hc⟩:=hb
 have hn:=hE.name f fn hf
 simp[callFunc,hf,hc,hn]
theorem afe (hE:mH E) (hS:Sound E S) {fr fr':Fr} {a:Act} {n:Nat} {ds:BF} (hs:St E B0 σ K w fr a n ds) {st:Nat} (hst:¬K.A st) {o:Oper} {v:V}
 (hop:opC E S fr σ st o=some (v,fr',σ')):fr'=fr/\σ.next<=σ'.next/\(∀next Q ro,(∀c w' K',Rel K' σ'.top w' v c->Step E B0 (fun s=>s=st\/newer σ σ' s) σ K w σ' K' w'->next (a.put o.dst c) w')->
   o.wpIn (FW ro) 0 E.P a w next Q):=by
 have hdone:∀{v σ'},rD E B0 (· =st) σ K w (execOp a.eval o) v σ'->(∀c,o.op≠ .defer c)->∀next Q ro,(∀c w' K',Rel K' σ'.top w' v c->Step E B0 (fun s=>s=st\/newer σ σ' s) σ K w σ' K' w'->next (a.put o.dst c) w')->
  o.wpIn (FW ro) 0 E.P a w next Q:=fun hd ho next Q ro hn=>aeN ho hd (fun c w' K' hr hst=>hn c w' K' hr (hst.mono (fun _ h=>.inl h)))
 unfold opC at hop
 split at hop
 ·rename_i c hc
  have hnd:∀d,o.op≠ .defer d:=fun d hd=>by rw[hc] at hd;cases hd
  split at hop
  ·rename_i b hb
   simp only[aao,mF] at hop
   obtain⟨⟨v1,σ1⟩,hv,rfl,rfl,rfl⟩:=hop
   have hsame:=WL hv
   refine⟨rfl,by rw[hsame.1];exact RS _,hdone ?_ hnd⟩
   have hargs:=BD hs.ok hs.fr c.args
   have hex:execOp a.eval o=builtin b c.argTypes o.type (c.args.map fun|.const _=>true|_=>false) (c.args.map a.eval):=by
    unfold execOp
    simp only[hc]
    unfold resolve
    simp only[hb]
    rfl
   rw[hex]
   exact aeB hs.ok hs.hB hst hargs hv
  ·rename_i f hf
   split at hop
   ·simp only[aao,mF] at hop
    obtain⟨⟨v1,σ1⟩,hv,rfl,rfl,rfl⟩:=hop
    obtain⟨hn1,g,first,cap,hcf,hbody,hcall⟩:=afd hE hS.call hs.ok hs.hB hst hv (wW hs.ok hs.fr f) (BD hs.ok hs.fr c.args)
    refine⟨rfl,by rw[hn1];exact RS _,fun next Q ro hn=>⟨fun _ _=>trivial, ?_⟩⟩
    rw[Kt _ _ hnd]
    have hex:(execOp a.eval o).run E.P w= .ok (.enter g (first++c.args.map a.eval++cap)) w:=by
     unfold execOp
     simp only[hc]
     unfold resolve
     simp only[hf,hcf,Deferred.ofValue,Sem.run_bind,Sem.run_pure,Result.andThen_ok,invoke]
     exact QT hE hbody _ _
    rw[hex,Oper.uponIn_enter]
    refine⟨fun hd=>by simp[FW,Fence.wide] at hd, ?_⟩
    have h2:CallsIn (FW ro) (0-1) E.P g (first++c.args.map a.eval++cap) w (fun e w'=> ∃c K',e= .returned c/\Rel K' σ1.top w' v1 c/\Step E B0 (· =st) σ K w σ1 K' w'):=hcall
    refine h2.mono ?_
    intro e w' hp
    obtain⟨cv,K',rfl,r1,st1⟩:=hp
    exact hn cv w' K' r1 (st1.mono (fun _ h=>.inl h))
   simp only[aao,mF] at hop
   obtain⟨⟨v1,σ1⟩,hv,rfl,rfl,rfl⟩:=hop
   have hcases:(∃g a b,fr.ev E f= .fn (.func g) a b)\/∃l,fr.ev E f= .fn (.yield l) [] []:=by
    unfold iL at hv
    split at hv
    ·rename_i g a b he;exact .inl ⟨g,a,b,he⟩
    ·rename_i l he;exact .inr ⟨l,he⟩
    ·simp at hv
   rcases hcases with hfn| ⟨l,hy⟩
   rotate_left
   ·have hv':sN S l (c.args.toList.map (fr.ev E)) σ=some (v1,σ1):=by rw[hy] at hv;exact hv
    obtain⟨hn1,fn,tmps,dS,body,QL,aff⟩:=aeW hS.code hs.ok hs.hB hs.st hv' (BD hs.ok hs.fr c.args)
    have hcf:a.eval f= .func (.yield (K.lp l)) #[] #[]:=by
     have:=wW hs.ok hs.fr f
     rw[hy] at this
     generalize a.eval f=cf at this
     cases this;rfl
    refine⟨rfl,hn1,fun next Q ro hn=>⟨fun _ _=>trivial, ?_⟩⟩
    rw[Kt _ _ hnd]
    have hex:(execOp a.eval o).run E.P w= .ok (.round (K.lp l) fn tmps dS body) w:=by
     unfold execOp
     simp only[hc]
     unfold resolve
     simp only[hf,hcf,Deferred.ofValue,Sem.run_bind,Sem.run_pure,Result.andThen_ok,invoke]
     simpa using QL
    rw[hex,Oper.uponIn_round]
    refine⟨fun hd=>by simp[FW,Fence.wide] at hd, ?_⟩
    have h2:RoundIn (FW ro) (0-1) E.P (K.lp l) fn tmps dS body w (xg E B0 σ K w v1 σ1):=aff
    refine h2.mono ?_
    intro e w' hp
    cases e with
    |returned cv=>
     obtain⟨K',r1,_,_,st1⟩:=hp
     exact hn cv w' K' r1 (st1.mono (fun _ h=>.inr h))
    |panicked ch=>exact hp.elim
    |outgrown=>exact hp.elim
   obtain⟨hn1,g,first,cap,hcf,hbody,hcall⟩:=Xb hE hS.call hs.ok hs.hB hs.st hfn hv (wW hs.ok hs.fr f) (BD hs.ok hs.fr c.args)
   refine⟨rfl,hn1,fun next Q ro hn=>⟨fun _ _=>trivial, ?_⟩⟩
   rw[Kt _ _ hnd]
   have hex:(execOp a.eval o).run E.P w= .ok (.enter g (first++c.args.map a.eval++cap)) w:=by
    unfold execOp
    simp only[hc]
    unfold resolve
    simp only[hf,hcf,Deferred.ofValue,Sem.run_bind,Sem.run_pure,Result.andThen_ok,invoke]
    exact QT hE hbody _ _
   rw[hex,Oper.uponIn_enter]
   refine⟨fun hd=>by simp[FW,Fence.wide] at hd, ?_⟩
   have h2:CallsIn (FW ro) (0-1) E.P g (first++c.args.map a.eval++cap) w (xg E B0 σ K w v1 σ1):=hcall
   refine h2.mono ?_
   intro e w' hp
   cases e with
   |returned cv=>
    obtain⟨K',r1,_,_,st1⟩:=hp
    exact hn cv w' K' r1 (st1.mono (fun _ h=>.inr h))
   |panicked ch=>exact hp.elim
   |outgrown=>exact hp.elim
  ·simp at hop
 ·simp at hop
 ·rename_i hnc hnd
  simp only[aao,mF] at hop
  obtain⟨⟨v1,σ1⟩,hv,rfl,rfl,rfl⟩:=hop
  have hsame:=WM hv
  exact⟨rfl,by rw[hsame.1];exact RS _,hdone (aeA hs.ok hs.hB hs.fr hst hv) hnd⟩
end
end Aq
end
section
namespace Aq
open Go Go.RowKit
section
variable (E:Env) (S:jI)
def opsL (ops:List Oper) (base:Nat):List Nat->Fr->ah->Option (Fr×ah)
 | [],fr,σ=>some (fr,σ)
 |i::l,fr,σ=>(jK E S ops base i fr σ).bind fun (fr,σ)=>opsL ops base l fr σ
theorem afg (all:List Oper) (base:Nat):∀(os:List Oper) (k:Nat) (fr:Fr) (σ:ah),(∀j,os[j]? =all[k+j]?)->
 opsE E S all (base+k) os fr σ=opsL E S all base (List.range' k os.length) fr σ:=by
 intro os
 induction os with
 |nil=>intro k fr σ _;rfl
 |cons o os ih=>
  intro k fr σ h
  have h0:all[k]? =some o:=by simpa using (h 0).symm
  have ih':=fun fr σ=>ih (k+1) fr σ (fun j=>by have:=h (j+1);simpa [agh,Nat.add_comm 1 j] using this)
  simp only[List.length_cons,List.range'_succ,opsL,jK,h0,opsE]
  cases hwt:eT all fr o with
  |none=>rfl
  |some t=>
  simp only[Option.bind_some]
  split
  ·cases hop:opC E S fr σ (base+k) o with
   |none=>rfl
   |some r=>
    obtain⟨v,bQ,σ1⟩:=r
    exact ih' _ _
  ·exact ih' _ _
theorem afh (ops:Array Oper) (base:Nat) (fr:Fr) (σ:ah):opsE E S ops.toList base ops.toList fr σ=opsL E S ops.toList base (List.range ops.size) fr σ:=by
 have:=afg E S ops.toList base ops.toList 0 fr σ (fun j=>by simp)
 rw[Nat.add_zero] at this
 rw[this,List.range_eq_range',Array.length_toList]
end
section
variable {E:Env} {S:jI} {K K':aP} {w w':World} {σ σ':ah} {B0:Nat} {fr fr':Fr} {a:Act} {n:Nat} {ds:BF}
theorem afi (hf:kg K σ.top w fr a.tmps) (ops:Array Oper) (o:Oper) (hsz:EY a.tmps.size ops.toList=true) {t:Bool} (hv:eT ops.toList fr o=some t):
 Region.wanted o (yielded ops a.tmps)=t:=by
 unfold Region.wanted
 unfold eT at hv
 cases hg:o.guard with
 |none=>rw[hg] at hv;exact adG hv
 |some g=>
  obtain⟨j,want⟩:=g
  rw[hg] at hv
  simp only at hv⊢
  cases hd:(ops.toList[j]?).bind (·.dst) with
  |none=>
   have hd':(ops[j]?).bind (·.dst)=none:=by simpa using hd
   simp only[hd,iE] at hv
   simp only[yielded,hd',<-hv]
   rfl
  |some t=>
   have hd':(ops[j]?).bind (·.dst)=some t:=by simpa using hd
   have ht:t<a.tmps.size:=by
    cases ho:ops[j]? with
    |none=>simp[ho] at hd'
    |some o'=>
     have hm:o'∈ops.toList:=by simpa using Array.mem_of_getElem? ho
     simp only[EY,adI] at hsz
     have h1:=hsz o' hm
     have h2:o'.dst=some t:=by simpa [ho] using hd'
     rw[h2] at h1
     simpa using h1
   have hr:=hf t
   have hget:a.tmps[t]? =some (a.tmps.getD t undef):=by simp[Array.getD,ht]
   simp only[hd] at hv
   simp only[yielded,hd',Option.bind_some,hget]
   generalize a.tmps.getD t undef=c at hr
   generalize fr.tm t=x at hr hv
   cases hr<;>simp only[iE,reduceCtorEq] at hv<;>first|exact hv| (rw[<-hv];rfl)
theorem afj (h:aV E B0 σ K w) (k:Nat):aV E B0 {σ with next:=k} K w:=⟨h.obj,h.own,h.I,h.IM,h.loop,h.glob,h.rb,h.D⟩
theorem afk (hS:Sound E S) {st:Nat} {o:Oper} {v:V} (hop:opC E S fr σ st o=some (v,fr',σ')):fr'=fr/\σ.next<=σ'.next:=by
 unfold opC at hop
 split at hop
 ·split at hop
  ·simp only[aao,mF] at hop
   obtain⟨⟨v1,σ1⟩,hv,rfl,rfl,rfl⟩:=hop
   exact⟨rfl,by rw[(WL hv).1];exact RS _⟩
  ·split at hop
   ·simp only[aao,mF] at hop
    obtain⟨⟨v1,σ1⟩,hv,rfl,rfl,rfl⟩:=hop
    refine⟨rfl, ?_⟩
    unfold mW at hv
    split at hv
    ·split at hv
     ·simp only[iR] at hv
      obtain⟨_,_,_,_,hv⟩:=hv
      rw[Xd hv];exact RS _
     ·cases hv
    ·cases hv
   simp only[aao,mF] at hop
   obtain⟨⟨v1,σ1⟩,hv,rfl,rfl,rfl⟩:=hop
   refine⟨rfl, ?_⟩
   unfold iL at hv
   split at hv
   ·split at hv
    ·exact(hS.call _ _ _ _ _ _ hv).1
    ·simp only[iR] at hv
     obtain⟨_,_,_,_,hv⟩:=hv
     split at hv
     ·simp only[iE,mF] at hv
      rw[hv.2];exact RS _
     ·simp at hv
   ·exact ae6 hS.code hv
   ·simp at hv
  ·simp at hop
 ·simp at hop
 ·simp only[aao,mF] at hop
  obtain⟨⟨v1,σ1⟩,hv,rfl,rfl,rfl⟩:=hop
  exact⟨rfl,by rw[(WM hv).1];exact RS _⟩
theorem KG (hS:Sound E S) (ops:List Oper) (base:Nat):∀(l:List Nat) (fr:Fr) (σ:ah),opsL E S ops base l fr σ=some (fr',σ')->σ.next<=σ'.next:=by
 intro l
 induction l with
 |nil=>
  intro fr σ h
  simp only[opsL,iE,mF] at h
  rw[h.2];exact RS _
 |cons i l ih=>
  intro fr σ h
  simp only[opsL,iR] at h
  obtain⟨⟨bQ,σ1⟩,hs,h⟩:=h
  refine aav ?_ (ih _ _ h)
  unfold jK at hs
  split at hs
  ·simp only[iE,mF] at hs;rw[hs.2];exact RS _
  ·simp only[iR] at hs
   obtain⟨t,_,hs⟩:=hs
   split at hs
   ·simp only[aao,mF] at hs
    obtain⟨⟨v,fK,σ2⟩,hop,rfl,rfl⟩:=hs
    exact(afk hS hop).2
   ·simp only[iE,mF] at hs;rw[hs.2];exact RS _
theorem afl (hE:mH E) (hS:Sound E S) (ops:Array Oper) (base:Nat) (hops:EY n ops.toList=true) (ro:Option Nat) (Q:Exit->Act->World->Prop):
 ∀(l:List Nat) (fr:Fr) (σ:ah) (K:aP) (w:World) (a:Act),opsL E S ops.toList base l fr σ=some (fr',σ')->l.Nodup->(∀i∈l,i<ops.size)->St E B0 σ K w fr a n ds->base+ops.size<=σ.next->(∀i∈l,¬K.A (base+i))->
  (∀a' K' w',St E B0 σ' K' w' fr' a' n ds->Step E B0 (fun s=>(base<=s/\s<base+ops.size)\/newer σ σ' s) σ K w σ' K' w'->Q .normal a' w')->wpOpsIn (FW ro) 0 E.P ops Q l a w:=by
 intro l
 induction l with
 |nil=>
  intro fr σ K w a hl _ _ hs _ _ hq
  simp only[opsL,iE,mF] at hl
  obtain⟨rfl,rfl⟩:=hl
  exact hq a K w hs (.refl hs.ok)
 |cons i l ih=>
  intro fr σ K w a hl hnd hlt hs hbase QU hq
  simp only[opsL,iR] at hl
  obtain⟨⟨bQ,σ1⟩,hstep,hl⟩:=hl
  have hil:i∉l:=(ajP.1 hnd).1
  have hi:i<ops.size:=hlt i (by simp)
  have hoi:ops[i]? =some ops[i]:=by simp[hi]
  have afm:ops.toList[i]? =some ops[i]:=by simpa using hoi
  simp only[jK,afm,iR] at hstep
  obtain⟨t,hwv,hstep⟩:=hstep
  have hw:=afi hs.fr ops ops[i] (by rw[hs.sz];exact hops) hwv
  have hdst:∀t,ops[i].dst=some t->t<n:=by
   intro t ht
   simp only[EY,adI] at hops
   have:=hops ops[i] (by simp)
   rw[ht] at this
   simpa using this
  unfold wpOpsIn
  simp only[hoi,hw]
  split at hstep
  ·rename_i hwt
   simp only[aao,mF] at hstep
   obtain⟨⟨v,fK,σ2⟩,hop,rfl,rfl⟩:=hstep
   obtain⟨rfl,hnx,hwp⟩:=afe hE hS hs (QU i (by simp)) hop
   dsimp only at hl
   simp only[hwt,if_true]
   have hA1:∀{K1:aP} {w1:World},Step E B0 (fun s=>s=base+i\/newer σ σ2 s) σ K w σ2 K1 w1->(∀s,K1.A s->s<σ2.next)/\∀j∈l,¬K1.A (base+j):=by
    intro K1 w1 st
    refine⟨fun s hsA=> ?_,fun j hj hAj=> ?_⟩
    ·rcases st.A s hsA with h1|h1|h1
     ·have:=hs.st s h1;omega
     ·omega
     ·exact h1.2
    ·have hji:j≠i:=fun e=>hil (e▸hj)
     rcases st.A _ hAj with h1|h1|h1
     ·exact QU j (by simp[hj]) h1
     ·omega
     ·have:=hlt j (by simp[hj])
      have:=h1.1
      omega
   refine hwp _ _ ro (fun c w1 K1 hr st=> ?_)
   ·obtain⟨hA2,hA3⟩:=hA1 st
    have hs1:St E B0 σ2 K1 w1 (fK.put ops[i].dst v) (a.put ops[i].dst c) n ds:=hs.put st hr hdst hA2
    refine(ih _ _ K1 w1 _ hl (ajP.1 hnd).2 (fun j hj=>hlt j (by simp[hj])) hs1 (by omega) hA3) (fun a' K' w' hs' st'=>hq a' K' w' hs' ?_)
    refine(st.mono ?_).trans (st'.mono ?_)
    ·intro s h1
     rcases h1 with h1|h1
     ·exact .inl ⟨by omega,by omega⟩
     ·exact .inr ⟨h1.1,adV h1.2 (KG hS _ _ _ _ _ hl)⟩
    ·intro s h1
     rcases h1 with h1|h1
     ·exact .inl h1
     ·exact .inr ⟨aav hnx h1.1,h1.2⟩
  ·rename_i hwt
   simp only[iE,mF] at hstep
   obtain⟨rfl,rfl⟩:=hstep
   have hs1:St E B0 σ K w (fr.put ops[i].dst aC) (a.put ops[i].dst undef) n ds:=hs.put (new:=fun _=>False) (.refl hs.ok) (.undef _ _ _) hdst hs.st
   have:=ih _ _ K w _ hl (ajP.1 hnd).2 (fun j hj=>hlt j (by simp[hj])) hs1 hbase (fun j hj=>QU j (by simp[hj]))
   simp only[hwt]
   exact⟨fun _ _=>trivial,this hq⟩
end
end Aq
end
section
namespace Aq
open Go
section
variable {X Key:Type}
def FH (step:Nat->X->Option X):List Nat->X->Option X
 | [],x=>some x
 |i::l,x=>(step i x).bind (FH step l)
theorem Xe (n:Nat) (step:Nat->X->Option X) (Ag:Key->X->X->Prop) (hrefl:∀k x,Ag k x x) (QV:∀k x y z,Ag k x y->Ag k y z->Ag k x z)
 (s:Nat->X) (T W:Nat->Key->Prop) (zm:∀i k,W i k->T i k)
 (hloc:∀i,i<n->∀x,(∀k,T i k->Ag k (s i) x)->∃y,step i x=some y/\(∀k,W i k->Ag k (s (i+1)) y)/\(∀k,¬W i k->Ag k x y))
 (hself:∀i,i<n->∀k,¬W i k->Ag k (s i) (s (i+1)))
 (pre:Nat->Nat->Prop) (hap:∀i j,i<n->j<i->pre j i\/((∀k,¬(W i k/\T j k))/\∀k,¬(W j k/\T i k)))
 (afo:∀k x y,Ag k x y->Ag k y x):
 ∀(l done:List Nat) (x:X),l.Nodup->(∀i∈l,i<n/\i∉done)->(∀i,i<n->i∈done\/i∈l)->
  (∀l1 i l2,l=l1++i::l2->∀j,pre j i->j∈done\/j∈l1)->(∀i∈done,∀j,pre j i->j∈done)->
  (∀k m,m<=n->(∀j,j<n->W j k->(j∈done↔j<m))->Ag k (s m) x)->∃y,FH step l x=some y/\∀k,Ag k (s n) y:=by
 have afp:∀k a b,a<=b->b<=n->(∀j,a<=j->j<b->¬W j k)->Ag k (s a) (s b):=by
  intro k a b hab hbn hw
  induction b with
  |zero=>obtain rfl:a=0:=by omega
         exact hrefl _ _
  |succ b ih=>
   by_cases e:a=b+1
   ·subst e;exact hrefl _ _
   ·exact QV _ _ _ _ (ih (by omega) (by omega) (fun j h1 h2=>hw j h1 (by omega))) (hself b (by omega) k (hw b (by omega) (by omega)))
 intro l
 induction l with
 |nil=>
  intro done x _ _ hall _ _ hinv
  exact⟨x,rfl,fun k=>hinv k n (RS _) (fun j hj _=>⟨fun _=>hj,fun _=>by rcases hall j hj with h|h;exact h;cases h⟩)⟩
 |cons i l ih=>
  intro done x hnd hmem hall KH hclosed hinv
  obtain⟨hin,QW⟩:=hmem i (by simp)
  have hil:i∉l:=(ajP.1 hnd).1
  have hpre:∀j,pre j i->j∈done:=fun j hj=>by
   rcases KH [] i l rfl j hj with h|h
   ·exact h
   ·cases h
  have afq:∀k,T i k->Ag k (s i) x:=by
   intro k hk
   refine hinv k i (by omega) (fun j hj hw=>⟨fun hjd=> ?_,fun hji=> ?_⟩)
   ·rcases Nat.lt_trichotomy j i with h|h|h
    ·exact h
    ·subst h;exact absurd hjd QW
    ·rcases hap j i hj h with hp| ⟨h1,_⟩
     ·exact absurd (hclosed j hjd i hp) QW
     ·exact absurd ⟨hw,hk⟩ (h1 k)
   ·rcases hap i j hin hji with hp| ⟨_,h2⟩
    ·exact hpre j hp
    ·exact absurd ⟨hw,hk⟩ (h2 k)
  obtain⟨y,hy,hyw,hyn⟩:=hloc i hin x afq
  have afs:∀k m,m<=n->(∀j,j<n->W j k->(j∈i::done↔j<m))->Ag k (s m) y:=by
   intro k m hm hj
   by_cases hw:W i k
   ·have him:i<m:=(hj i hin hw).1 (by simp)
    have h1:Ag k (s (i+1)) (s m):=by
     refine afp k (i+1) m him hm (fun j h1 h2 FJ=> ?_)
     have hjd:j∈done:=by
      have:=(hj j (by omega) FJ).2 h2
      rcases adf.1 this with e|e
      ·omega
      ·exact e
     rcases hap j i (by omega) (by omega) with hp| ⟨h3,_⟩
     ·exact absurd (hclosed j hjd i hp) QW
     ·exact h3 k ⟨FJ,zm i k hw⟩
    exact QV _ _ _ _ (afo _ _ _ h1) (hyw k hw)
   ·refine QV _ _ _ _ (hinv k m hm (fun j hjn FJ=> ?_)) (hyn k hw)
    have hji:j≠i:=fun e=>hw (e▸FJ)
    rw[<-hj j hjn FJ]
    simp[hji]
  obtain⟨z,hz,hzn⟩:=ih (i::done) y (ajP.1 hnd).2
   (fun j hj=>⟨(hmem j (by simp[hj])).1,fun h=>by
     rcases adf.1 h with e|e
     ·exact hil (e▸hj)
     ·exact(hmem j (by simp[hj])).2 e⟩)
   (fun j hj=>by
     rcases hall j hj with h|h
     ·exact .inl (by simp[h])
     ·rcases adf.1 h with e|e
      ·exact .inl (by simp[e])
      ·exact .inr e)
   (fun l1 j l2 hl k hk=>by
     rcases KH (i::l1) j l2 (by rw[hl];rfl) k hk with h|h
     ·exact .inl (by simp[h])
     ·rcases adf.1 h with e|e
      ·exact .inl (by simp[e])
      ·exact .inr e)
   (fun j hj k hk=>by
     rcases adf.1 hj with e|e
     ·subst e;simp[hpre k hk]
     ·simp[hclosed j e k hk])
   afs
  exact⟨z,by simp[FH,hy,hz],hzn⟩
end
end Aq
end
section
namespace Aq
open Go
section
variable {E:Env} {S:jI} {fr fr':Fr} {σ σ':ah}
theorem afu {st:Nat} {o:Oper} (h:∀x∈o.op.operands.toList,fr'.ev E x=fr.ev E x) (hd:fr'.d=fr.d) (bq:fr'.om=fr.om):bg E fr' σ st o=bg E fr σ st o:=by
 cases ho:o.op
 all_goals
  rw[ho] at h
  unfold bg
  simp only[ho]
 all_goals try (simp only[hd];done)
 case move x=>simp only[h x (show x∈[x] from adu.2 rfl),hd]
 case assign x=>simp only[h x (show x∈[x] from adu.2 rfl),hd]
 case pick c x y=>simp only[h c (show c∈[c,x,y] from adg),h x (show x∈[c,x,y] from adF _ adg),h y (show y∈[c,x,y] from adF _ (adF _ adg)),hd]
 case box t x=>simp only[h x (show x∈[x] from adu.2 rfl),hd]
 case load t x=>simp only[h x (show x∈[x] from adu.2 rfl),hd]
 case nilCheck x=>simp only[h x (show x∈[x] from adu.2 rfl),hd]
 case unOp u t x=>simp only[h x (show x∈[x] from adu.2 rfl),hd]
 case convert t u x=>simp only[h x (show x∈[x] from adu.2 rfl),hd]
 case sliceToArrayPointer t x=>simp only[h x (show x∈[x] from adu.2 rfl),hd]
 case makeInterface t x=>simp only[h x (show x∈[x] from adu.2 rfl),hd]
 case fieldAddr t x f=>simp only[h x (show x∈[x] from adu.2 rfl),hd]
 case field t x f=>simp only[h x (show x∈[x] from adu.2 rfl),hd]
 case extract x f=>simp only[h x (show x∈[x] from adu.2 rfl),hd]
 case store t x y=>simp only[h x (show x∈[x,y] from adg),h y (show y∈[x,y] from adF _ adg),hd,bq]
 case binOp b t x y u=>simp only[h x (show x∈[x,y] from adg),h y (show y∈[x,y] from adF _ adg),hd,bq]
 case makeSlice t x y=>simp only[h x (show x∈[x,y] from adg),h y (show y∈[x,y] from adF _ adg),hd,bq]
 case indexAddr t x y=>simp only[h x (show x∈[x,y] from adg),h y (show y∈[x,y] from adF _ adg),hd,bq]
 case index t x y=>simp only[h x (show x∈[x,y] from adg),h y (show y∈[x,y] from adF _ adg),hd,bq]
 case lookup t x y ok=>simp only[h x (show x∈[x,y] from adg),h y (show y∈[x,y] from adF _ adg),hd,bq]
 case mapUpdate t x y z=>simp only[h x (show x∈[x,y,z] from adg),h y (show y∈[x,y,z] from adF _ adg),h z (show z∈[x,y,z] from adF _ (adF _ adg)),hd]
 case insert t x y z=>simp only[h x (show x∈[x,y,z] from adg),h y (show y∈[x,y,z] from adF _ adg),h z (show z∈[x,y,z] from adF _ (adF _ adg)),hd]
 case build t parts=>
  have:(parts.toList.map fun (i,x)=>(i,fr'.ev E x))=parts.toList.map fun (i,x)=>(i,fr.ev E x):=by
   refine al6 (fun p hp=> ?_)
   show (p.1,fr'.ev E p.2)=(p.1,fr.ev E p.2)
   rw[h p.2 (show p.2∈parts.toList.map (·.2) from ajQ.2 ⟨p,hp,rfl⟩)]
  simp only[this]
 case buildSlice t len parts=>
  have:(parts.toList.map fun (i,x)=>(i,fr'.ev E x))=parts.toList.map fun (i,x)=>(i,fr.ev E x):=by
   refine al6 (fun p hp=> ?_)
   show (p.1,fr'.ev E p.2)=(p.1,fr.ev E p.2)
   rw[h p.2 (show p.2∈parts.toList.map (·.2) from ajQ.2 ⟨p,hp,rfl⟩)]
  simp only[this]
 case makeFunc fn a b=>
  have h1:a.toList.map (fr'.ev E)=a.toList.map (fr.ev E):=al6 (fun x hx=>h x (show x∈(a++b).toList by simp at hx⊢;exact .inl hx))
  have h2:b.toList.map (fr'.ev E)=b.toList.map (fr.ev E):=al6 (fun x hx=>h x (show x∈(a++b).toList by simp at hx⊢;exact .inr hx))
  cases fn<;>first|rfl|simp only[h1,h2]
 case makeMap t r=>cases r<;>simp only[hd]
 case slice t x lo hi mx=>
  have h0:∀y,y=x\/lo=some y\/hi=some y\/mx=some y->fr'.ev E y=fr.ev E y:=fun y hy=>h y (show y∈(#[x]++lo.toArray++hi.toArray++mx.toArray).toList by
   rcases hy with rfl|rfl|rfl|rfl<;>simp)
  have hx:fr'.ev E x=fr.ev E x:=h0 x (.inl rfl)
  have h1:iw E fr' lo=iw E fr lo:=by
   cases lo with
   |none=>rfl
   |some y=>simp only[iw];rw[h0 y (by simp)]
  have h2:iw E fr' hi=iw E fr hi:=by
   cases hi with
   |none=>rfl
   |some y=>simp only[iw];rw[h0 y (by simp)]
  have h3:iw E fr' mx=iw E fr mx:=by
   cases mx with
   |none=>rfl
   |some y=>simp only[iw];rw[h0 y (by simp)]
  simp only[hx,h1,h2,h3]
theorem afv {st:Nat} {o:Oper} (h:∀x∈o.op.operands.toList,fr'.ev E x=fr.ev E x) (hd:fr'.d=fr.d) (bq:fr'.om=fr.om):
 opC E S fr' σ st o=(opC E S fr σ st o).map fun (v,_,σ1)=>(v,fr',σ1):=by
 cases ho:o.op
 case call c=>
  have h:∀x∈c.operands.toList,fr'.ev E x=fr.ev E x:=by rw[ho] at h;exact h
  unfold opC
  simp only[ho]
  have hargs:c.args.toList.map (fr'.ev E)=c.args.toList.map (fr.ev E):=al6 (fun x hx=>h x (by simp[Call.operands] at hx⊢;exact .inr hx))
  split
  ·simp only[hargs,hd,bq]
   cases nM E fr.om (o.dst.map fun t=>(fr.d,t)) σ st _ c.argTypes (c.args.toList.map (fr.ev E))<;>rfl
  ·rename_i f hc
   have hf:fr'.ev E f=fr.ev E f:=h f (by simp[Call.operands,hc])
   have dW:jP E fr' o f=jP E fr o f:=by unfold jP;rw[hf]
   simp only[hargs,hd,hf,dW]
   cases jP E fr o f
   ·cases iL E S fr.d σ (fr.ev E f) (c.args.toList.map (fr.ev E))<;>rfl
   ·cases mW E S σ st (fr.ev E f) (c.args.toList.map (fr.ev E))<;>rfl
  ·rfl
 case defer=>unfold opC;simp only[ho];rfl
 all_goals
  have:=afu (σ:=σ) (st:=st) h hd bq
  unfold opC
  simp only[ho]
  rw[this]
  cases bg E fr σ st o<;>rfl
theorem BJ {loc:Loc} {s:Nat} (h:σ'.obj loc=σ.obj loc):σ'.cB loc s=σ.cB loc s:=by simp only[ah.cB,h]
theorem QX {loc:Loc} {s:Nat} (h:σ'.obj loc=σ.obj loc):σ'.fP loc s=σ.fP loc s:=by simp only[ah.fP,h]
def gI (σ σ':ah) (k:Key):Prop:=match k with
 |.obj l=>σ'.obj l=σ.obj l
 |.top=>σ'.top=σ.top
 |_=>True
def Reads (σ σ':ah) (r r':Option (V×ah)):Prop:=∀v σ1,r=some (v,σ1)->σ1=σ/\r'=some (v,σ')
theorem mX {v:V}:Reads σ σ' (some (v,σ)) (some (v,σ')):=fun v σ1 h=>by
 simp only[iE,mF] at h
 exact⟨h.2.symm,by rw[h.1]⟩
theorem mY {α:Type} {r:Option α} (f:α->V):Reads σ σ' (r.map fun v=>(f v,σ)) (r.map fun v=>(f v,σ')):=by
 cases r with
 |none=>intro v σ1 h;cases h
 |some x=>exact mX
theorem qH {r:Option (V×ah)}:Reads σ σ' none r:=fun _ _ h=>by cases h
theorem xw {α:Type} {r:Option α} {f g:α->Option (V×ah)} (h:∀x,Reads σ σ' (f x) (g x)):Reads σ σ' (r.bind f) (r.bind g):=by
 cases r with
 |none=>exact qH
 |some x=>exact h x
theorem KI {c:Prop} [Decidable c] {r r' s s':Option (V×ah)} (h1:Reads σ σ' r r') (h2:Reads σ σ' s s'):Reads σ σ' (if c then r else s) (if c then r' else s'):=by
 split<;>assumption
theorem afw {src dst:TypeId} {x:V} (h:∀k∈gB x,gI σ σ' k):vk E.P σ' src dst x=vk E.P σ src dst x:=by
 unfold vk
 generalize E.P.underlying src=u1
 generalize E.P.underlying dst=u2
 cases u1 with
 |none=>cases x<;>cases u2<;>rfl
 |some d1=>
  cases u2 with
  |none=>cases x<;>cases d1<;>rfl
  |some d2=>
   cases x with
   |vw loc s off len cap aS ag=>
    have h1:σ'.obj loc=σ.obj loc:=h (.obj loc) (by simp[gB])
    cases d2<;>cases d1<;>first|rfl|simp only[BJ h1]
   |_=>cases d2<;>first|rfl| (cases d1<;>rfl)
theorem afx {t:TypeId} {x:V} {lo hi mx:Option V} (h:∀k∈gB x,gI σ σ' k):nL E.P σ' t x lo hi mx=nL E.P σ t x lo hi mx:=by
 unfold nL
 generalize E.P.underlying t=u1
 cases u1 with
 |none=>cases x<;>rfl
 |some d1=>
  cases x with
  |ref loc s off=>
   have h1:σ'.obj loc=σ.obj loc:=h (.obj loc) (by simp[gB])
   cases d1<;>first|rfl|simp only[BJ h1]
  |_=>cases d1<;>rfl
theorem afy {t:TypeId} {x k:V} {ok:Bool} (h:∀k∈gB x,gI σ σ' k):ug E.P σ' t x k ok=ug E.P σ t x k ok:=by
 unfold ug
 cases x with
 |bP loc s=>
  have h1:σ'.obj loc=σ.obj loc:=h (.obj loc) (by simp[gB])
  simp only[QX h1]
 |_=>rfl
theorem afz {t:TypeId} {x:V} (h:∀k∈gB x,gI σ σ' k):mV E σ' t x=mV E σ t x:=by
 unfold mV
 generalize E.P.underlying t=u1
 cases u1 with
 |none=>cases x<;>rfl
 |some d1=>
  cases x with
  |bP loc s=>
   have h1:σ'.obj loc=σ.obj loc:=h (.obj loc) (by simp[gB])
   cases d1<;>first|rfl|simp only[QX h1]
  |_=>cases d1<;>rfl
theorem afA {ag:Bool} {sz:Nat} {z x:V} (h:∀k∈gB x,gI σ σ' k):kP σ' ag sz z x=kP σ ag sz z x:=by
 unfold kP
 cases x with
 |vw loc s off len cap aS ag=>
  have h1:σ'.obj loc=σ.obj loc:=h (.obj loc) (by simp[gB])
  simp only[BJ h1]
 |_=>rfl
def Local (W:Key->Prop) (σ σ':ah) (r r':Option (V×ah)):Prop:=
 ∀v σ1,r=some (v,σ1)->∃sV,r'=some (v,sV)/\rF σ σ1/\rF σ' sV/\(∀k,W k->gI σ1 sV k)/\(∀k,¬W k->gI σ σ1 k)/\∀k,¬W k->gI σ' sV k
theorem gI.refl (σ:ah) (k:Key):gI σ σ k:=by cases k<;>simp[gI]
theorem gI.chain {σ1 sV:ah} {k:Key} (h:gI σ σ' k) (h1:gI σ σ1 k) (h2:gI σ' sV k):gI σ1 sV k:=by
 cases k with
 |obj l=>exact Eq.trans (show sV.obj l=σ'.obj l from h2) (Eq.trans (show σ'.obj l=σ.obj l from h) (show σ1.obj l=σ.obj l from h1).symm)
 |top=>exact Eq.trans (show sV.top=σ'.top from h2) (Eq.trans (show σ'.top=σ.top from h) (show σ1.top=σ.top from h1).symm)
 |slot t=>trivial
 |rest=>trivial
 |nx=>trivial
theorem Reads.local {r r':Option (V×ah)} (h:Reads σ σ' r r'):Local (fun k=>k∈([]:List Key)) σ σ' r r':=fun v σ1 hr=>by
 obtain⟨h1,h2⟩:=h v σ1 hr
 subst h1
 exact⟨σ',h2,.refl _,.refl _,fun k hk=>absurd hk (List.not_mem_nil),fun k _=>.refl _ _,fun k _=>.refl _ _⟩
theorem Local.mono {W W':Key->Prop} {r r':Option (V×ah)} (h:Local W σ σ' r r') (hW:∀k,W k->W' k) (hT:∀k,W' k->gI σ σ' k):Local W' σ σ' r r':=fun v σ1 hr=>by
 obtain⟨sV,h1,h2,h3,h4,h5,h6⟩:=h v σ1 hr
 refine⟨sV,h1,h2,h3,fun k hk=> ?_,fun k hk=>h5 k (fun hw=>hk (hW k hw)),fun k hk=>h6 k (fun hw=>hk (hW k hw))⟩
 by_cases hw:W k
 ·exact h4 k hw
 ·exact(hT k hk).chain (h5 k hw) (h6 k hw)
theorem Xf {loc:Loc} {st:Nat} {ob:ig} {k:Key} (hk:k∉[Key.obj loc]):gI σ (σ.setObj loc st ob) k:=by
 cases k with
 |obj l=>
  have:l≠loc:=fun e=>hk (by simp[e])
  show upd σ.obj loc _ l=σ.obj l
  simp[upd,this]
 |top=>rfl
 |slot t=>trivial
 |rest=>trivial
 |nx=>trivial
theorem Xg {s n:Nat} {k:Key} (hk:k∉[Key.top]):gI σ (σ.bU s n) k:=by
 cases k with
 |obj l=>rfl
 |top=>exact absurd (by simp) hk
 |slot t=>trivial
 |rest=>trivial
 |nx=>trivial
theorem BK {loc:Loc} {st:Nat} {ob:ig} {v:V}:Local (fun k=>k∈[Key.obj loc]) σ σ' (some (v,σ.setObj loc st ob)) (some (v,σ'.setObj loc st ob)):=fun v1 σ1 h=>by
 simp only[iE,mF] at h
 obtain⟨rfl,rfl⟩:=h
 refine⟨_,rfl,⟨rfl,rfl⟩,⟨rfl,rfl⟩,fun k hk=> ?_,fun k hk=>Xf hk,fun k hk=>Xf hk⟩
 obtain rfl:k= .obj loc:=by simpa using hk
 show upd σ'.obj loc _ loc=upd σ.obj loc _ loc
 simp[upd]
theorem eB {W:Key->Prop} {r:Option (V×ah)}:Local W σ σ' none r:=fun _ _ h=>by cases h
theorem ku {W:Key->Prop} {α:Type} {r:Option α} {f g:α->Option (V×ah)} (h:∀x,Local W σ σ' (f x) (g x)):Local W σ σ' (r.bind f) (r.bind g):=by
 cases r with
 |none=>exact eB
 |some x=>exact h x
theorem qI {W:Key->Prop} {c:Prop} [Decidable c] {r r' s s':Option (V×ah)} (h1:Local W σ σ' r r') (h2:Local W σ σ' s s'):Local W σ σ' (if c then r else s) (if c then r' else s'):=by
 split<;>assumption
theorem BL (ht:σ'.top=σ.top) {s n:Nat} {v:V}:Local (fun k=>k∈[Key.top]) σ σ' (some (v,σ.bU s n)) (some (v,σ'.bU s n)):=fun v1 σ1 h=>by
 simp only[iE,mF] at h
 obtain⟨rfl,rfl⟩:=h
 refine⟨_,rfl,⟨rfl,rfl⟩,⟨rfl,rfl⟩,fun k hk=> ?_,fun k hk=>Xg hk,fun k hk=>Xg hk⟩
 obtain rfl:k= .top:=by simpa using hk
 show upd σ'.top s n=upd σ.top s n
 rw[ht]
theorem Xh {W:Key->Prop} {α:Type} {r:Option α} {f g:α->V×ah} (h:∀x,Local W σ σ' (some (f x)) (some (g x))):Local W σ σ' (r.map f) (r.map g):=by
 cases r with
 |none=>exact eB
 |some x=>exact h x
theorem Xi {t:TypeId} {m k v:V} (h:∀q∈gB m,gI σ σ' q):
 Local (fun q=>q∈gB m) σ σ' ((qz E.P σ t m k v).map fun σ=>(aC,σ)) ((qz E.P σ' t m k v).map fun σ=>(aC,σ)):=by
 unfold qz
 cases qZ E.P t with
 |none=>exact eB
 |some p=>
  simp only[Option.bind_some]
  split
  ·cases m with
   |bP loc s=>
    have h1:σ'.obj loc=σ.obj loc:=h (.obj loc) (by simp[gB])
    simp only[QX h1]
    cases σ.fP loc s with
    |none=>exact eB
    |some q=>
     simp only[Option.bind_some,Option.map_map]
     exact Xh (fun x=>BK)
   |_=>exact eB
  ·exact eB
theorem afB {fr:Fr} {st:Nat} {o:Oper} {t:TypeId} {l c:V} (h:∀q∈Key.top::qD fr o,gI σ σ' q):
 Local (fun q=>q∈Key.top::qD fr o) σ σ' (sK E.P fr.om σ st (o.dst.map fun t=>(fr.d,t)) t l c) (sK E.P fr.om σ' st (o.dst.map fun t=>(fr.d,t)) t l c):=by
 unfold sK
 refine ku (fun e=>ku (fun sz=>ku (fun dZ=>ku (fun z=>ku (fun n=>ku (fun m=>qI (qI ?_ ?_) eB))))))
 ·exact(BL (h .top (by simp))).mono (fun k hk=>by simp at hk;simp[hk]) h
 ·cases hd:o.dst with
  |none=>exact eB
  |some d=>
   simp only[Option.map_some,Option.bind_some]
   exact Xh (fun ag=>BK.mono (fun k hk=>by simp at hk;simp[hk,qD,hd]) (by simpa [qD,hd] using h))
theorem QY {zeros:Bool} {st:Nat} {loc:Option Loc} {t:TypeId} {x y:V} (hy:∀q∈gB y,gI σ σ' q) (ht:σ'.top=σ.top):
 Local (fun q=>q∈[Key.top]) σ σ' (jB E.P false zeros σ st loc t x y) (jB E.P false zeros σ' st loc t x y):=by
 unfold jB
 refine ku (fun e=>ku (fun sz=>ku (fun dZ=>ku (fun ag=>ku (fun z=>qI ?_ eB)))))
 rw[afA hy]
 refine ku (fun ys=>qI ?_ eB)
 cases x with
 |aj c l=>
  simp only
  refine qI ?_ eB
  cases c with
  |own n s=>simp only[ht];exact qI (BL ht) eB
  |nil=>exact BL ht
  |full=>exact BL ht
  |sh=>exact eB
 |vw iC s off len cap aS wZ=>simp only[aap,false_and,and_false,if_false];exact eB
 |_=>exact eB
theorem KJ {om:Bool} {loc:Option Loc} {st:Nat} {b:Builtin} {tys:Array TypeId} {args:List V} (hb:b= .len\/b= .cap\/b= .min\/b= .max) (h:∀x∈args,∀q∈gB x,gI σ σ' q):
 Reads σ σ' (nM E om loc σ st b tys args) (nM E om loc σ' st b tys args):=by
 rcases hb with rfl|rfl|rfl|rfl
 ·rcases args with _| ⟨x,_| ⟨y,l⟩⟩
  ·exact qH
  ·refine xw (fun t=> ?_)
   rw[afz (h x (by simp))]
   exact mY _
  ·exact qH
 ·rcases args with _| ⟨x,_| ⟨y,l⟩⟩
  ·exact qH
  ·refine xw (fun t=>xw (fun e=> ?_))
   cases x with
   |aj c l=>cases c<;>first|exact mX|exact qH
   |_=>exact qH
  ·exact qH
 ·rcases args with _| ⟨x,l⟩
  ·exact qH
  ·exact mY _
 ·rcases args with _| ⟨x,l⟩
  ·exact qH
  ·exact mY _
theorem afC {loc:Option Loc} {st:Nat} {tys:Array TypeId} {args:List V} (h:∀x∈args,∀q∈gB x,gI σ σ' q) (ht:σ'.top=σ.top):
 Local (fun q=>q∈[Key.top]) σ σ' (nM E false loc σ st .append tys args) (nM E false loc σ' st .append tys args):=by
 rcases args with _| ⟨x,_| ⟨y,_| ⟨z,l⟩⟩⟩
 ·exact eB
 ·exact eB
 ·refine ku (fun t=>ku (fun u=> ?_))
  split
  ·exact QY (h y (by simp)) ht
  ·exact QY (h y (by simp)) ht
  ·exact QY (h y (by simp)) ht
  ·exact eB
 ·exact eB
end
end Aq
end
section
namespace Aq
open Go
section
variable {E:Env} {S:jI} {fr fr':Fr} {σ σ':ah}
theorem Xj {loc:Loc} {k:Key} (hk:k∉[Key.obj loc]):gI σ (σ.iq loc) k:=by
 cases k with
 |obj l=>
  have:l≠loc:=fun e=>hk (by simp[e])
  show upd σ.obj loc none l=σ.obj l
  simp[upd,this]
 |top=>rfl
 |slot t=>trivial
 |rest=>trivial
 |nx=>trivial
theorem afD {loc:Loc} {v:V}:Local (fun k=>k∈[Key.obj loc]) σ σ' (some (v,σ.iq loc)) (some (v,σ'.iq loc)):=fun v1 σ1 h=>by
 simp only[iE,mF] at h
 obtain⟨rfl,rfl⟩:=h
 refine⟨_,rfl,⟨rfl,rfl⟩,⟨rfl,rfl⟩,fun k hk=> ?_,fun k hk=>Xj hk,fun k hk=>Xj hk⟩
 obtain rfl:k= .obj loc:=by simpa using hk
 show upd σ'.obj loc none loc=upd σ.obj loc none loc
 simp[upd]
theorem afE {x:V} (h:∀k,k∈gB x->gI σ σ' k):Local (fun k=>k∈gB x) σ σ' (sM σ x) (sM σ' x):=by
 cases x with
 |vw loc s off len cap aS ag=>
  have h1:σ'.obj loc=σ.obj loc:=h (.obj loc) (by simp[gB])
  simp only[sM,BJ h1]
  exact ku (fun cs=>qI afD eB)
 |_=>exact mX.local.mono (fun k hk=>by cases hk) h
theorem afF {st:Nat} {o:Oper} (hc:∀c,o.op≠ .call c) (hw:(gP E fr o).oq=false) (h:∀k,k∈(gP E fr o).t\/k∈(gP E fr o).w->gI σ σ' k):
 Local (fun k=>k∈(gP E fr o).w) σ σ' (bg E fr σ st o) (bg E fr σ' st o):=by
 cases ho:o.op<;>simp only[gP,ho,fQ,reduceCtorEq,Bool.true_eq_false] at hw
 case call c=>exact absurd ho (hc c)
 all_goals
  simp only[gP,ho,mE,j6] at h
  simp only[gP,ho,mE,j6]
  unfold bg
  simp only[ho]
 case move x=>
  by_cases hz:qA E o.dst=true
  ·simp only[hz,if_true] at h⊢
   exact afE (fun k hk=>h k (.inr hk))
  ·simp only[hz,aap,if_false]
   exact mX.local
 case assign=>exact mX.local
 case pick=>exact(mY _).local
 case alloc t=>
  cases hd:o.dst with
  |none=>exact eB
  |some d=>simp only[Option.map_some,Option.bind_some,qD,hd];exact ku (fun z=>qI BK eB)
 case box t x=>
  by_cases hz:E.uj t=true
  ·simp only[hz,if_true]
   exact(KI mX qH).local.mono (fun k hk=>by cases hk) (fun k hk=>h k (.inr hk))
  ·simp only[hz,aap,if_false]
   cases hd:o.dst with
   |none=>exact eB
   |some d=>simp only[Option.map_some,Option.bind_some,qD,hd];exact qI BK eB
 case build t parts=>exact(xw (fun _=>xw (fun _=>mY _))).local
 case buildSlice t len parts=>exact(mY _).local
 case load t a=>
  cases hx:fr.ev E a with
  |ref loc s off=>
   have h1:σ'.obj loc=σ.obj loc:=h (.obj loc) (by simp[hx,gB])
   simp only[BJ h1]
   exact(xw (fun _=>mY _)).local
  |aK cs off=>exact(mY _).local
  |_=>exact eB
 case store t a x=>
  cases hx:fr.ev E a with
  |ref loc s off=>
   have h1:σ'.obj loc=σ.obj loc:=h (.obj loc) (by simp[hx,gB])
   simp only[BJ h1]
   exact ku (fun _=>qI BK eB)
  |_=>exact eB
 case nilCheck x=>
  cases hx:fr.ev E x with
  |ref loc s off=>exact mX.local
  |aK cs off=>exact mX.local
  |fn f a b=>cases f<;>first|exact mX.local|exact eB
  |_=>exact eB
 case binOp=>exact(mY _).local
 case unOp=>exact(mY _).local
 case convert a b x=>rw[afw (fun k hk=>h k (.inl hk))];exact(mY _).local
 case sliceToArrayPointer t x=>
  refine ku (fun p=> ?_)
  cases hx:fr.ev E x with
  |vw loc s off len cap aS ag=>exact(KI mX qH).local
  |aj c l=>exact(KI mX qH).local
  |_=>exact eB
 case makeInterface t x=>
  split
  ·exact eB
  ·exact mX.local
  ·exact eB
 case makeFunc f a b=>cases f<;>first|exact mX.local|exact eB
 case makeMap t r=>
  cases r with
  |some _=>exact eB
  |none=>
   cases hd:o.dst with
   |none=>exact eB
   |some d=>simp only[Option.map_some,qD,hd];exact BK
 case makeSlice t l c=>exact afB (fun q hq=>h q (.inr hq))
 case slice t x lo hi mx=>rw[afx (fun k hk=>h k (.inl hk))];exact(mY _).local
 case fieldAddr t x f=>
  refine ku (fun p=> ?_)
  cases hx:fr.ev E x with
  |ref loc s off=>exact mX.local
  |aK cs off=>exact mX.local
  |_=>exact eB
 case field t x f=>
  refine ku (fun p=> ?_)
  cases hx:fr.ev E x with
  |agg cs=>exact(mY _).local
  |_=>exact eB
 case indexAddr=>exact(mY _).local
 case index=>exact(mY _).local
 case lookup t x i ok=>rw[afy (fun k hk=>h k (.inl hk))];exact(mY _).local
 case mapUpdate t m k v=>exact Xi (fun q hq=>h q (.inr hq))
 case insert t m k v=>exact Xi (fun q hq=>h q (.inr hq))
 case extract x i=>
  cases hx:fr.ev E x with
  |bE vs=>exact(mY _).local
  |_=>exact eB
theorem FK {α β:Type} {f g:α->Option β}:∀{l:List α},(∀x∈l,f x=g x)->l.mapM f=l.mapM g
 | [],_=>rfl
 |a::l,h=>by
  simp only[adi]
  rw[h a (by simp),FK (fun x hx=>h x (by simp[hx]))]
theorem QZ {n:Nat} {x:V} (hp:aF x=true):aQ n σ' x=aQ n σ x:=by
 cases n with
 |zero=>rfl
 |succ n=>unfold aQ;simp only[hp,if_true]
theorem Xk {l:List V} {x:V} (h:x∈l):∃i,∃hi:i<l.length,x=l[i]:=by
 obtain⟨i,hi,e⟩:=ami.1 h
 exact⟨i,hi,e.symm⟩
theorem Xl {n:Nat} {c:Cap} {l:List V} (hp:aX l=true):aQ n σ' (.aj c l)=aQ n σ (.aj c l):=by
 cases n with
 |zero=>rfl
 |succ n=>
  unfold aQ
  split
  ·rfl
  ·simp only
   rw[FK (fun x hx=> ?_)]
   obtain⟨i,hi,rfl⟩:=Xk hx
   exact QZ (FC hp hi)
theorem afG {n:Nat} {x:V} (hp:aF (eP x)=true):aQ n σ' x=aQ n σ x:=by
 cases x with
 |aj c l=>exact Xl (by simpa [eP,aF] using hp)
 |_=>exact QZ hp
theorem Xm {n:Nat} {x:V} (hp:aF (er x)=true):aQ n σ' x=aQ n σ x:=by
 cases x with
 |aj c l=>exact Xl (by simpa [er,aF] using hp)
 |agg cs=>
  have hp':aX (cs.map eP)=true:=by simpa [er,aF] using hp
  cases n with
  |zero=>rfl
  |succ n=>
   unfold aQ
   split
   ·rfl
   ·simp only
    rw[FK (fun x hx=> ?_)]
    obtain⟨i,hi,rfl⟩:=Xk hx
    refine afG ?_
    have:=FC hp' (i:=i) (by simpa using hi)
    simpa using this
 |_=>exact QZ hp
theorem afH {d:Nat} {g:FuncId} {a b args:List V} (hi:E.imp g=false) (hp:(a++args++b).all (fun v=>aF (er v))=true):
 Reads σ σ' (iL E S d σ (.fn (.func g) a b) args) (iL E S d σ' (.fn (.func g) a b) args):=by
 unfold iL
 simp only[hi,aap,if_false]
 rw[FK (f:=aQ 20 σ') (g:=aQ 20 σ) (fun x hx=>Xm (by simp only[adI] at hp;exact hp x hx))]
 exact xw (fun as=>xw (fun v=>KI mX qH))
theorem afI {d:Nat} {g:FuncId} {a b args:List V} (hi:E.imp g=false) {v:V} {σ1:ah} (h:iL E S d σ (.fn (.func g) a b) args=some (v,σ1)):σ1=σ:=by
 unfold iL at h
 simp only[hi,aap,if_false,iR] at h
 obtain⟨_,_,_,_,h⟩:=h
 split at h
 ·simp only[iE,mF] at h;exact h.2.symm
 ·simp at h
theorem Ag.refl (k:Key) (x:Fr×ah):Ag k x x:=by cases k<;>simp[Ag]
theorem Ag.symm {k:Key} {x y:Fr×ah} (h:Ag k x y):Ag k y x:=by
 cases k with
 |slot t=>exact Eq.symm h
 |obj l=>exact Eq.symm h
 |top=>exact Eq.symm h
 |rest=>exact⟨h.1.symm,h.2.symm⟩
 |nx=>exact⟨h.1.symm,h.2.symm⟩
theorem Ag.trans {k:Key} {x y z:Fr×ah} (h:Ag k x y) (g:Ag k y z):Ag k x z:=by
 cases k with
 |slot t=>exact Eq.trans h g
 |obj l=>exact Eq.trans h g
 |top=>exact Eq.trans h g
 |rest=>exact⟨h.1.trans g.1,h.2.trans g.2⟩
 |nx=>exact⟨h.1.trans g.1,h.2.trans g.2⟩
theorem Ag.all {x y:Fr×ah} (h:∀k,Ag k x y):x=y:=by
 obtain⟨⟨d,om,tm⟩,⟨nx,top,obj,lp⟩⟩:=x
 obtain⟨⟨d',om',tm'⟩,⟨nx',top',FL,Xn⟩⟩:=y
 obtain⟨h1,h2⟩:=h .rest
 obtain⟨h3,h4⟩:=h .nx
 have h5:top=top':=h .top
 have h6:obj=FL:=funext fun l=>h (.obj l)
 have h7:tm=tm':=funext fun t=>h (.slot t)
 simp only at h1 h2 h3 h4
 subst h1 h2 h3 h4 h5 h6 h7
 rfl
def bV.T (f:bV) (k:Key):Prop:=k= .rest\/k∈f.t\/k∈f.w\/((f.sO=true\/f.oq=true)/\k.state=true)
def bV.W (f:bV) (k:Key):Prop:=k∈f.w\/(f.oq=true/\k.state=true)
theorem bV.Xo {f:bV} {k:Key} (h:f.W k):f.T k:=by
 rcases h with h| ⟨h,h1⟩
 ·exact .inr (.inr (.inl h))
 ·exact .inr (.inr (.inr ⟨.inr h,h1⟩))
end
end Aq
end
section
namespace Aq
open Go
theorem Xp {α:Type} {p q:α->Bool} {a:α}:∀{l:List α},(∀x,q x=true->p x=true)->a∈l->p a=true->q a=false->l.countP q<l.countP p
 | [],_,h,_,_=>by cases h
 |x::l,Q0,hm,hp,hq=>by
  rw[List.countP_cons,List.countP_cons]
  have hle:l.countP q<=l.countP p:=List.countP_mono_left (fun x _ h=>Q0 x h)
  rcases adf.1 hm with e|e
  ·subst e
   simp only[hp,hq,if_true]
   have:(if false=true then 1 else 0)=0:=rfl
   omega
  ·have:=Xp Q0 e hp hq
   by_cases hx:q x=true
   ·have:=Q0 x hx
    simp only[hx,this,if_true];omega
   ·have hx':q x=false:=by simpa using hx
    rw[hx']
    have h0:(if false=true then 1 else 0:Nat)=0:=rfl
    rw[h0]
    omega
structure xA (md:Region.Mode) (ops:Array Oper) (done l:List Nat):Prop where
 nodup:l.Nodup
 mem:∀i∈l,i<ops.size/\i∉done
 all:∀i,i<ops.size->i∈done\/i∈l
 ord:∀l1 i l2,l=l1++i::l2->∀o,ops[i]? =some o->∀e∈o.after.toList,Region.binds md e=true->e.on∈done\/e.on∈l1
theorem go_acc (md:Region.Mode) (ops:Array Oper):∀(fuel t:Nat) (listed:Array Bool) (acc:List Nat),
 Region.linearise.go md ops fuel t listed acc=acc.reverse++Region.linearise.go md ops fuel t listed []:=by
 intro fuel
 induction fuel with
 |zero=>intro t listed acc;simp[Region.linearise.go]
 |succ fuel ih=>
  intro t listed acc
  simp only[Region.linearise.go]
  split
  ·rename_i i _
   rw[ih _ _ (i::acc),ih _ _ [i]]
   simp
  ·simp
theorem go_ok (ops:Array Oper) (oz:ou ops.toList=true):∀(fuel t:Nat) (listed:Array Bool) (done:List Nat),
 listed.size=ops.size->(∀i,i<ops.size->(listed.getD i true=true↔i∈done))->(List.range ops.size).countP (fun i=>decide (i∉done))<=fuel->
 xA .any ops done (Region.linearise.go .any ops fuel t listed []):=by
 have Q5:∀(i:Nat) (o:Oper),ops[i]? =some o->∀e∈o.after.toList,Region.binds .any e=true->e.on<i:=by
  intro i o ho e he hb
  have hi:i<ops.size:=by
   rcases Nat.lt_or_ge i ops.size with h|h
   ·exact h
   ·rw[Array.getElem?_eq_none h] at ho;cases ho
  simp only[ou,adI] at oz
  have:=oz i (by simpa using hi)
  have ho':ops.toList[i]? =some o:=by simpa using ho
  rw[ho'] at this
  simp only[adI] at this
  simpa [hb] using this e he
 intro fuel
 induction fuel with
 |zero=>
  intro t listed done hsz hl hf
  refine⟨by simp[Region.linearise.go],by simp[Region.linearise.go],fun i hi=> ?_,fun l1 i l2 h=>by simp[Region.linearise.go] at h⟩
  by_cases hd:i∈done
  ·exact .inl hd
  ·have:0< (List.range ops.size).countP (fun i=>decide (i∉done)):=List.countP_pos_iff.2 ⟨i,by simpa using hi,by simpa using hd⟩
   omega
 |succ fuel ih=>
  intro t listed done hsz hl hf
  simp only[Region.linearise.go]
  generalize hrs:(List.range ops.size).filter (fun i=> !listed.getD i true&& ((ops[i]?).map (·.after.all fun e=> !Region.binds .any e||listed.getD e.on false)).getD false)=rs
  have hmem:∀i,i∈rs↔i<ops.size/\i∉done/\∃o,ops[i]? =some o/\∀e∈o.after.toList,Region.binds .any e=true->e.on∈done:=by
   intro i
   rw[<-hrs,aji]
   constructor
   ·rintro⟨h1,h2⟩
    have hi:i<ops.size:=by simpa using h1
    simp only[aan,ajp] at h2
    have hd:i∉done:=fun h=>by have:=(hl i hi).2 h;rw[this] at h2;exact absurd h2.1 (by simp)
    have hoi:ops[i]? =some ops[i]:=by simp[hi]
    refine⟨hi,hd,ops[i],hoi,fun e he hb=> ?_⟩
    have h3:=h2.2
    rw[hoi] at h3
    simp only[Option.map_some,Option.getD_some,Array.all_eq_true'] at h3
    have h4:=h3 e (by simpa using he)
    rw[hb] at h4
    have hon:e.on<ops.size:=Nat.lt_trans (Q5 i _ hoi e he hb) hi
    have h5:listed.getD e.on false=true:=by simpa using h4
    refine(hl e.on hon).1 ?_
    simp only[Array.getD,hsz,hon,dif_pos] at h5⊢
    exact h5
   ·rintro⟨hi,hd,o,ho,he⟩
    refine⟨by simpa using hi, ?_⟩
    have h1:listed.getD i true=false:=by
     have:=mt (hl i hi).1 hd
     simpa using this
    simp only[h1,Bool.not_false,Bool.true_and,ho,Option.map_some,Option.getD_some,Array.all_eq_true']
    intro e KL
    have Xq:e∈o.after.toList:=by simpa using KL
    cases hb:Region.binds .any e with
    |false=>rfl
    |true=>
     have hon:e.on<ops.size:=Nat.lt_trans (Q5 i _ ho e Xq hb) hi
     have:=(hl e.on hon).2 (he e Xq hb)
     simp only[Array.getD,hsz,hon,dif_pos] at this⊢
     show (!true||listed.getInternal e.on _)=true
     rw[this];rfl
  cases hpick:rs[t% rs.length]? with
  |none=>
   have hnil:rs=[]:=by
    cases rs with
    |nil=>rfl
    |cons x xs=>
     have hlt:t% (x::xs).length< (x::xs).length:=Nat.mod_lt _ (by simp)
     rw[List.getElem?_eq_none_iff] at hpick
     omega
   simp only[List.reverse_nil]
   refine⟨by simp,by simp,fun i hi=> ?_,fun l1 i l2 h=>by simp at h⟩
   refine Classical.byContradiction fun hno=> ?_
   have hex:∃i,i<ops.size/\i∉done:=⟨i,hi,fun h=>hno (.inl h)⟩
   have hmin:∀k,(∃i,i<=k/\i<ops.size/\i∉done)->∃i,i<ops.size/\i∉done/\∀j,j<i->j∈done:=by
    intro k
    induction k with
    |zero=>
     rintro⟨i,h0,h1,h2⟩
     obtain rfl:i=0:=by omega
     exact⟨0,h1,h2,fun j hj=>absurd hj (aat j)⟩
    |succ k ihk=>
     rintro⟨i,h0,h1,h2⟩
     by_cases hsm:∃i,i<=k/\i<ops.size/\i∉done
     ·exact ihk hsm
     ·refine⟨i,h1,h2,fun j hj=>Classical.byContradiction fun hjd=>hsm ⟨j,by omega,by omega,hjd⟩⟩
   obtain⟨i0,h1,h2,h3⟩:=hmin i ⟨i,RS _,hi,fun h=>hno (.inl h)⟩
   have:i0∈rs:=(hmem i0).2 ⟨h1,h2,ops[i0],by simp[h1],fun e he hb=>h3 _ (Q5 i0 _ (by simp[h1]) e he hb)⟩
   rw[hnil] at this
   cases this
  |some i=>
   simp only
   rw[go_acc,List.reverse_singleton]
   have hi:i∈rs:=ajn hpick
   obtain⟨hilt,hid,o,ho,he⟩:=(hmem i).1 hi
   have hrec:=ih (t/rs.length) (listed.setIfInBounds i true) (i::done) (by simpa using hsz) (fun j hj=>by
    by_cases hji:j=i
    ·subst hji
     simp[Array.getD,hsz,hj]
    ·have h1:(listed.setIfInBounds i true).getD j true=listed.getD j true:=by
      simp only[Array.getD,Array.size_setIfInBounds,hsz,hj,dif_pos]
      exact Array.getElem_setIfInBounds_ne (by omega) (Ne.symm hji)
     rw[h1,hl j hj]
     simp[hji]) (by
    have:=Xp (l:=List.range ops.size) (p:=fun j=>decide (j∉done)) (q:=fun j=>decide (j∉i::done)) (a:=i)
     (fun x hx=>by simp at hx⊢;exact hx.2) (by simpa using hilt) (by simpa using hid) (by simp)
    omega)
   refine⟨?_, ?_, ?_, ?_⟩
   ·simp only[List.singleton_append,ajP]
    exact⟨fun h=>(hrec.mem i h).2 (by simp),hrec.nodup⟩
   ·intro j hj
    rcases adf.1 hj with e|e
    ·subst e;exact⟨hilt,hid⟩
    ·have:=hrec.mem j e
     exact⟨this.1,fun h=>this.2 (by simp[h])⟩
   ·intro j hj
    rcases hrec.all j hj with h|h
    ·rcases adf.1 h with e|e
     ·exact .inr (by simp[e])
     ·exact .inl e
    ·exact .inr (by simp[h])
   ·intro l1 j l2 hjl o' ho' e KL hb
    cases l1 with
    |nil=>
     simp only[List.singleton_append,List.nil_append,ajj] at hjl
     obtain⟨rfl,_⟩:=hjl
     rw[ho] at ho'
     cases ho'
     exact .inl (he e KL hb)
    |cons a l1=>
     simp only[List.singleton_append,List.cons_append,ajj] at hjl
     obtain⟨rfl,hjl⟩:=hjl
     rcases hrec.ord l1 j l2 hjl o' ho' e KL hb with h|h
     ·rcases adf.1 h with e'|e'
      ·exact .inr (by simp[e'])
      ·exact .inl e'
     ·exact .inr (by simp[h])
theorem afJ (ops:Array Oper) (oz:ou ops.toList=true) (t:Nat):xA .any ops [] (Region.linearise .any ops t):=by
 refine go_ok ops oz ops.size t _ [] (by simp) (fun i hi=> ?_) ?_
 ·simp[hi]
 ·have:=List.countP_le_length (p:=fun i=>decide (i∉([]:List Nat))) (l:=List.range ops.size)
  simpa using this
theorem afK {mixed:Bool} (hm:mixed=true) (ops:Array Oper) (oz:ou ops.toList=true) (t:Nat):∃md,xA md ops [] (Region.schedule mixed ops t):=by
 unfold Region.schedule
 rw[hm,Bool.true_or,if_pos rfl]
 exact⟨_,afJ _ oz _⟩
theorem afL {e:Edge} (md:Region.Mode) (h:Region.binds .any e=true):Region.binds md e=true:=by
 unfold Region.binds at h⊢
 split at h
 ·simp at h
 ·simp at h
 ·rfl
end Aq
end
section
namespace Aq
open Go
section
variable {E:Env} {S:jI} {fr fr':Fr} {σ σ':ah}
theorem Key.eq_iff {a b:Key}:a.eq b=true↔a=b:=by
 cases a<;>cases b<;>simp[Key.eq,qC]
 rename_i x y
 obtain⟨x1,x2⟩:=x
 obtain⟨y1,y2⟩:=y
 simp
 exact⟨fun h=>⟨h.2,h.1⟩,fun h=>⟨h.2,h.1⟩⟩
theorem Xr {f g:bV} (h:clash f g=false) (k:Key):¬(f.W k/\g.T k):=by
 rintro⟨hw,ht⟩
 simp only[clash,ajk,List.any_eq_false] at h
 obtain⟨h1,h2⟩:=h
 have hkw:k∈f.w:=by
  rcases hw with h| ⟨h,hs⟩
  ·exact h
  ·rw[h,Bool.true_and] at h1
   simp only[ajk,List.any_eq_false] at h1
   obtain⟨⟨⟨a1,a2⟩,a3⟩,a4⟩:=h1
   rcases ht with e|e|e| ⟨e,_⟩
   ·subst e;cases hs
   ·exact absurd hs (a3 k e)
   ·exact absurd hs (a4 k e)
   ·rcases e with e|e
    ·rw[a1] at e;cases e
    ·rw[a2] at e;cases e
 have h3:=h2 k hkw
 simp only[al5,List.any_eq_true,aan,not_or,not_exists,not_and] at h3
 obtain⟨⟨⟨h4,h5⟩,h6⟩,h7⟩:=h3
 rcases ht with h|h|h| ⟨h,hs⟩
 ·exact h4 (Key.eq_iff.2 h)
 ·exact h5 k h (Key.eq_iff.2 rfl)
 ·exact h6 k h (Key.eq_iff.2 rfl)
 ·rcases h with h|h
  ·exact h7 (.inl h) hs
  ·exact h7 (.inr h) hs
theorem afN {st:Nat} {o:Oper} {v:V} (hop:opC E S fr σ st o=some (v,fr',σ')):fr'=fr:=by
 unfold opC at hop
 split at hop
 ·split at hop
  ·simp only[aao,mF] at hop
   obtain⟨_,_,_,rfl,_⟩:=hop;rfl
  ·split at hop
   ·simp only[aao,mF] at hop
    obtain⟨_,_,_,rfl,_⟩:=hop;rfl
   ·simp only[aao,mF] at hop
    obtain⟨_,_,_,rfl,_⟩:=hop;rfl
  ·simp at hop
 ·simp at hop
 ·simp only[aao,mF] at hop
  obtain⟨_,_,_,rfl,_⟩:=hop;rfl
def drop2 (r:Option (V×Fr×ah)):Option (V×ah):=r.map fun (v,_,σ)=>(v,σ)
theorem afO {r:Option (V×Fr×ah)} {v:V} (h:drop2 r=some (v,σ)):∃fr,r=some (v,fr,σ):=by
 simp only[drop2,aao,mF] at h
 obtain⟨⟨v',fr',σ'⟩,h1,rfl,rfl⟩:=h
 exact⟨fr',h1⟩
theorem KM (r:Option (V×ah)) (fr:Fr):drop2 (r.map fun (v,σ)=>(v,fr,σ))=r:=by
 cases r<;>rfl
theorem afP (ht:σ'.top=σ.top) {st:Nat} {σ1:ah} {v:V}:Local (fun k=>k∈[Key.top]) σ σ' (oo σ st σ1 v) (oo σ' st σ1 v):=by
 have hs:∀v:V,Local (fun k=>k∈[Key.top]) σ σ' (some (v,σ)) (some (v,σ')):=fun v=>
  (mX (σ:=σ) (σ':=σ')).local.mono (fun k hk=>by cases hk) (fun k hk=>by rw[adu.1 hk];exact ht)
 unfold oo
 cases v with
 |aj c l=>
  dsimp only
  refine qI ?_ eB
  cases c with
  |nil=>exact hs _
  |full=>exact hs _
  |own n s=>exact qI (BL ht) eB
  |sh=>exact eB
 |vw loc s off len cap aS ag=>
  dsimp only
  exact qI (ku fun _=>BL ht) eB
 |_=>exact eB
theorem afQ {b:Bool} {l:List V} (hp:l.all (fun a=>aF (er a))=true):qB b σ' l=qB b σ l:=by
 have hm:∀l:List V,l.all (fun a=>aF (er a))=true->l.mapM (aQ 20 σ')=l.mapM (aQ 20 σ):=fun l hp=>FK fun x hx=>Xm (adI.1 hp x hx)
 unfold qB
 cases b with
 |false=>simp only[aap,if_false];exact hm l hp
 |true=>
  simp only[if_true]
  match l,hp with
  | [],_=>rfl
  |.aj .nil []::l,hp=>
   rw[List.all_cons,aan] at hp
   dsimp only
   rw[hm l hp.2]
  |.aj .nil (_::_)::_,_=>rfl
  |.aj .sh _::_,_=>rfl
  |.aj .full _::_,_=>rfl
  |.aj (.own _ _) _::_,_=>rfl
  |.int _ _::_,_=>rfl
  |.bool _::_,_=>rfl
  |.str _::_,_=>rfl
  |.fJ::_,_=>rfl
  |.fF::_,_=>rfl
  |.eZ::_,_=>rfl
  |.gH::_,_=>rfl
  |.agg _::_,_=>rfl
  |.bE _::_,_=>rfl
  |.vw _ _ _ _ _ _ _::_,_=>rfl
  |.aK _ _::_,_=>rfl
  |.ref _ _ _::_,_=>rfl
  |.fn _ _ _::_,_=>rfl
  |.bP _ _::_,_=>rfl
  |.dG _ _::_,_=>rfl
  |.iface _ _::_,_=>rfl
  |.raw _::_,_=>rfl
theorem afR (ht:σ'.top=σ.top) {st:Nat} {fv:V} {args:List V}:Local (fun k=>k∈[Key.top]) σ σ' (mW E S σ st fv args) (mW E S σ' st fv args):=by
 unfold mW
 cases fv with
 |fn f a b=>
  cases f with
  |func f=>
   dsimp only
   by_cases hp:(a++args++b).all (fun a=>aF (er a))=true
   ·rw[if_pos hp,if_pos hp,afQ hp]
    exact ku fun as=>ku fun r=>afP ht
   ·rw[if_neg hp];exact eB
  |_=>exact eB
 |_=>exact eB
theorem afS {st:Nat} {o:Oper} (hw:(gP E fr o).oq=false) (rG:(gP E fr o).sO=true->σ'=σ) (h:∀k,k∈(gP E fr o).t\/k∈(gP E fr o).w->gI σ σ' k):
 Local (fun k=>k∈(gP E fr o).w) σ σ' (drop2 (opC E S fr σ st o)) (drop2 (opC E S fr σ' st o)):=by
 by_cases hc:∃c,o.op= .call c
 ·obtain⟨c,ho⟩:=hc
  unfold opC
  simp only[ho]
  cases fu:c.callee with
  |builtin b=>
   simp only[KM]
   simp only[gP,ho,fu] at h hw rG
   simp only[gP,ho,fu]
   have hargs:∀(t:List Key),(∀k,k∈(c.args.toList.flatMap fun x=>gB (fr.ev E x))\/k∈t->gI σ σ' k)->∀x∈c.args.toList.map (fr.ev E),∀q∈gB x,gI σ σ' q:=by
    intro t ht x hx q hq
    obtain⟨y,hy,rfl⟩:=ajQ.1 hx
    exact ht q (.inl (List.mem_flatMap.2 ⟨y,hy,hq⟩))
   cases b<;>simp only[fQ,reduceCtorEq,Bool.true_eq_false] at hw
   case len=>exact(KJ (.inl rfl) (hargs [] h)).local
   case cap=>exact(KJ (.inr (.inl rfl)) (hargs [] h)).local
   case min=>exact(KJ (.inr (.inr (.inl rfl))) (hargs [] h)).local
   case max=>exact(KJ (.inr (.inr (.inr rfl))) (hargs [] h)).local
   case append=>
    cases bq:fr.om with
    |true=>rw[bq] at hw;simp at hw
    |false=>
     rw[bq] at h
     simp only[aap,if_false] at h⊢
     exact afC (hargs _ h) (h .top (.inr (by simp)))
  |value f=>
   simp only[gP,ho,fu] at h hw rG
   simp only[gP,ho,fu]
   cases dW:jP E fr o f with
   |true=>
    rw[dW] at h
    simp only[if_true] at h⊢
    simp only[KM]
    have ht:σ'.top=σ.top:=h .top (.inr (by simp[j6]))
    exact afR ht
   |false=>
   rw[dW] at h hw rG
   simp only[aap,if_false] at h hw rG⊢
   simp only[KM]
   generalize KN:fr.ev E f=fv at h hw rG⊢
   cases fv with
   |fn g a b=>
    cases g with
    |func g=>
     simp only at h hw rG⊢
     cases hi:E.imp g with
     |true=>rw[hi] at hw;simp[fQ] at hw
     |false=>
      rw[hi] at h rG
      simp only[aap,if_false] at h rG⊢
      split
      ·rename_i hp
       exact(afH hi hp).local
      ·rename_i hp
       rw[if_neg hp] at rG
       have:=rG rfl
       subst this
       intro v σ1 hr
       have:=afI hi hr
       subst this
       exact⟨σ1,hr,.refl _,.refl _,fun k hk=>.refl _ _,fun k hk=>.refl _ _,fun k hk=>.refl _ _⟩
    |_=>simp[fQ] at hw
   |_=>simp[fQ] at hw
  |invoke r m=>exact eB
 ·have hc':∀c,o.op≠ .call c:=fun c h=>hc ⟨c,h⟩
  have hd:∀(σ:ah),(∀d,o.op≠ .defer d)->drop2 (opC E S fr σ st o)=bg E fr σ st o:=by
   intro σ hd
   unfold opC
   split
   ·rename_i c hh;exact absurd hh (hc' c)
   ·rename_i c hh;exact absurd hh (hd c)
   ·exact KM _ _
  by_cases hdf:∃d,o.op= .defer d
  ·obtain⟨d,ho⟩:=hdf
   simp only[gP,ho,fQ,Bool.true_eq_false] at hw
  ·have Xt:∀d,o.op≠ .defer d:=fun d h=>hdf ⟨d,h⟩
   rw[hd σ Xt,hd σ' Xt]
   exact afF hc' hw h
theorem Q6 {x:V}:Key.nx∉gB x:=by cases x<;>simp[gB]
theorem afT {o:Oper}:Key.nx∉(gP E fr o).w:=by
 have hd:Key.nx∉qD fr o:=by unfold qD;cases o.dst<;>simp
 unfold gP
 split<;>try simp[mE,j6,fQ,hd,Q6]
 split<;>try simp[mE,j6,fQ,Q6]
 all_goals (repeat' split)<;>simp[mE,j6,fQ,Q6]
theorem afU {ops:List Oper} {o:Oper} {t:Nat} (h:Operand.tmp t∈o.op.operands.toList):Key.slot t∈ru ops o:=by
 refine ajr _ (List.mem_filterMap.2 ⟨_,h,rfl⟩)
theorem afV {ops:List Oper} {o:Oper} (h:∀t,Key.slot t∈ru ops o->fr'.tm t=fr.tm t):∀x∈o.op.operands.toList,fr'.ev E x=fr.ev E x:=by
 intro x hx
 cases x with
 |tmp t=>exact h t (afU hx)
 |_=>rfl
theorem afW {ops:List Oper} {o:Oper} (h:∀t,Key.slot t∈ru ops o->fr'.tm t=fr.tm t):eT ops fr' o=eT ops fr o:=by
 unfold eT
 cases hg:o.guard with
 |none=>rfl
 |some g=>
  obtain⟨j,want⟩:=g
  simp only
  cases hd:(ops[j]?).bind (·.dst) with
  |none=>rfl
  |some t=>
   have:fr'.tm t=fr.tm t:=h t (akd _ (by simp[hg,hd]))
   simp only[this]
theorem zn (fr:Fr) (d:Option Nat) (v:V) (t:Nat):(fr.put d v).tm t=if d=some t then v else fr.tm t:=by
 cases d with
 |none=>simp[Fr.put]
 |some i=>
  show upd fr.tm i v t=_
  by_cases h:t=i
  ·subst h;simp[upd]
  ·have:¬(some i=some t):=fun e=>h (by cases e;rfl)
   simp[upd,h,this]
theorem FN (fr:Fr) (d:Option Nat) (v:V):(fr.put d v).d=fr.d:=by cases d<;>rfl
theorem FP (fr:Fr) (d:Option Nat) (v:V):(fr.put d v).om=fr.om:=by cases d<;>rfl
theorem FQ {o:Oper} {t:Nat}:Key.slot t∈lD o↔o.dst=some t:=by
 unfold lD
 cases o.dst with
 |none=>simp
 |some d=>simp only[adu,Key.slot.injEq,iE];exact⟨fun h=>h.symm,fun h=>h.symm⟩
theorem Xu {ops:List Oper} {base i:Nat} {o:Oper} (ho:ops[i]? =some o) {wt:Bool} (hwt:eT ops fr o=some wt) {bQ:Fr} {σ1:ah} (hs:jK E S ops base i fr σ=some (bQ,σ1))
 (x:Fr×ah) (hx:∀k,(fq E ops fr o wt).T k->Ag k (fr,σ) x):
 ∃y:Fr×ah,jK E S ops base i x.1 x.2=some y/\(∀k,(fq E ops fr o wt).W k->Ag k (bQ,σ1) y)/\(∀k,¬(fq E ops fr o wt).W k->Ag k x y)/\
  ∀k,¬(fq E ops fr o wt).W k->Ag k (fr,σ) (bQ,σ1):=by
 obtain⟨fr',σ'⟩:=x
 obtain⟨r1,r2⟩:fr.d=fr'.d/\fr.om=fr'.om:=hx .rest (.inl rfl)
 have hsl:∀t,Key.slot t∈ru ops o->fr'.tm t=fr.tm t:=by
  intro t ht
  refine Eq.symm (hx (.slot t) (.inr (.inl ?_)))
  cases wt
  ·exact ht
  ·exact ajr _ ht
 have afX:eT ops fr' o=some wt:=(afW hsl).trans hwt
 simp only[jK,ho,hwt,Option.bind_some] at hs
 simp only[jK,ho,afX,Option.bind_some]
 cases wt with
 |false=>
  simp only[aap,if_false,iE,mF] at hs⊢
  obtain⟨rfl,rfl⟩:=hs
  have hW:∀k,(fq E ops fr o false).W k↔k∈lD o:=fun k=>by
   refine⟨fun h=> ?_,fun h=>.inl h⟩
   rcases h with h| ⟨h,_⟩
   ·exact h
   ·cases h
  have Xv:∀(f:Fr) (s:ah) k,¬(fq E ops fr o false).W k->Ag k (f,s) (f.put o.dst aC,s):=by
   intro f s k hk
   rw[hW] at hk
   cases k with
   |slot t=>
    show f.tm t=(f.put o.dst aC).tm t
    rw[zn,if_neg (fun e=>hk (FQ.2 e))]
   |obj l=>rfl
   |top=>rfl
   |rest=>exact⟨(FN _ _ _).symm,(FP _ _ _).symm⟩
   |nx=>exact⟨rfl,rfl⟩
  refine⟨_,rfl,fun k hk=> ?_,Xv fr' σ',Xv fr σ⟩
  rw[hW] at hk
  cases k with
  |slot t=>
   show (fr.put o.dst aC).tm t=(fr'.put o.dst aC).tm t
   rw[zn,zn,if_pos (FQ.1 hk),if_pos (FQ.1 hk)]
  |obj l=>exfalso;unfold lD at hk;cases hd:o.dst<;>simp[hd] at hk
  |top=>exfalso;unfold lD at hk;cases hd:o.dst<;>simp[hd] at hk
  |rest=>exfalso;unfold lD at hk;cases hd:o.dst<;>simp[hd] at hk
  |nx=>exfalso;unfold lD at hk;cases hd:o.dst<;>simp[hd] at hk
 |true=>
  simp only[if_true,aao,mF] at hs⊢
  obtain⟨⟨v,fK,σ2⟩,hop,rfl,rfl⟩:=hs
  obtain rfl:=afN hop
  have key:∃zo,opC E S fr' σ' (base+i) o=some (v,fr',zo)/\(∀k,(fq E ops fK o true).W k->Ag k (fK,σ2) (fK,zo))/\
   (∀k,¬(fq E ops fK o true).W k->Ag k (fK,σ) (fK,σ2)/\Ag k (fK,σ') (fK,zo)):=by
   rw[afv (afV hsl) r1.symm r2.symm]
   have Q7:∀k,(fq E ops fK o true).T k->gI σ σ' k:=by
    intro k hk
    have:=hx k hk
    cases k with
    |obj l=>exact Eq.symm this
    |top=>exact Eq.symm this
    |slot t=>trivial
    |rest=>trivial
    |nx=>trivial
   cases zq:(gP E fK o).oq with
   |true=>
    have hst:∀k:Key,k.state=true->gI σ σ' k:=fun k hk=>Q7 k (.inr (.inr (.inr ⟨.inr zq,hk⟩)))
    have hσ:σ'=σ:=by
     obtain⟨r3,r4⟩:σ.next=σ'.next/\σ.loops=σ'.loops:=hx .nx (.inr (.inr (.inr ⟨.inr zq,rfl⟩)))
     obtain⟨nx,top,obj,lp⟩:=σ
     obtain⟨nx',top',FL,Xn⟩:=σ'
     have h1:top'=top:=hst .top rfl
     have h2:FL=obj:=funext fun l=>hst (.obj l) rfl
     simp only at r3 r4
     subst h1 h2 r3 r4;rfl
    subst hσ
    refine⟨σ2,by rw[hop];rfl,fun k _=>.refl _ _,fun k hk=> ?_⟩
    cases k with
    |slot t=>exact⟨rfl,rfl⟩
    |obj l=>exact absurd (.inr ⟨zq,rfl⟩) hk
    |top=>exact absurd (.inr ⟨zq,rfl⟩) hk
    |rest=>exact⟨⟨rfl,rfl⟩,⟨rfl,rfl⟩⟩
    |nx=>exact absurd (.inr ⟨zq,rfl⟩) hk
   |false=>
    have rG:(gP E fK o).sO=true->σ'=σ:=by
     intro ht
     have hst:∀k:Key,k.state=true->gI σ σ' k:=fun k hk=>Q7 k (.inr (.inr (.inr ⟨.inl ht,hk⟩)))
     obtain⟨r3,r4⟩:σ.next=σ'.next/\σ.loops=σ'.loops:=hx .nx (.inr (.inr (.inr ⟨.inl ht,rfl⟩)))
     obtain⟨nx,top,obj,lp⟩:=σ
     obtain⟨nx',top',FL,Xn⟩:=σ'
     have h1:top'=top:=hst .top rfl
     have h2:FL=obj:=funext fun l=>hst (.obj l) rfl
     simp only at r3 r4
     subst h1 h2 r3 r4;rfl
    have hl:=afS (S:=S) (st:=base+i) zq rG (fun k hk=>Q7 k (by
     rcases hk with hk|hk
     ·exact .inr (.inl (akd _ hk))
     ·exact .inr (.inr (.inl (akd _ hk)))))
    obtain⟨zo,h1,h2,h3,h4,h5,h6⟩:=hl v σ2 (by rw[hop];rfl)
    obtain⟨fr3,h1'⟩:=afO h1
    have hWw:∀k,(fq E ops fK o true).W k->k∈lD o\/k∈(gP E fK o).w:=fun k hk=>by
     rcases hk with h| ⟨h,_⟩
     ·exact agj.1 h
     ·have:(gP E fK o).oq=true:=h
      rw[zq] at this;cases this
    have hto:∀{σa σb:ah} {k:Key},gI σa σb k->rF σa σb\/k≠ .nx->Ag k (fK,σa) (fK,σb):=by
     intro σa σb k ha hn
     cases k with
     |slot t=>rfl
     |obj l=>exact Eq.symm ha
     |top=>exact Eq.symm ha
     |rest=>exact⟨rfl,rfl⟩
     |nx=>
      rcases hn with hn|hn
      ·exact⟨hn.1.symm,hn.2.symm⟩
      ·exact absurd rfl hn
    have afY:Key.nx∉(gP E fK o).w:=afT
    refine⟨zo,by rw[h1'];rfl,fun k hk=> ?_,fun k hk=> ?_⟩
    ·rcases hWw k hk with h|h
     ·cases k with
      |slot t=>rfl
      |obj l=>exfalso;unfold lD at h;cases hd:o.dst<;>simp[hd] at h
      |top=>exfalso;unfold lD at h;cases hd:o.dst<;>simp[hd] at h
      |rest=>exfalso;unfold lD at h;cases hd:o.dst<;>simp[hd] at h
      |nx=>exfalso;unfold lD at h;cases hd:o.dst<;>simp[hd] at h
     ·exact hto (h4 k h) (.inr (fun e=>afY (e▸h)))
    ·have hk':k∉(gP E fK o).w:=fun h=>hk (.inl (akd _ h))
     exact⟨hto (h5 k hk') (.inl h2),hto (h6 k hk') (.inl h3)⟩
  obtain⟨zo,h1,h2,h3⟩:=key
  refine⟨(fr'.put o.dst v,zo),⟨_,h1,rfl⟩,fun k hk=> ?_,fun k hk=> ?_,fun k hk=> ?_⟩
  ·have hk0:=h2 k hk
   cases k with
   |slot t=>
    show (fK.put o.dst v).tm t=(fr'.put o.dst v).tm t
    rw[zn,zn]
    split
    ·rfl
    ·exact hx (.slot t) (bV.Xo hk)
   |obj l=>exact hk0
   |top=>exact hk0
   |rest=>
    refine⟨?_, ?_⟩
    ·show (fK.put o.dst v).d=(fr'.put o.dst v).d;rw[FN,FN];exact r1
    ·show (fK.put o.dst v).om=(fr'.put o.dst v).om;rw[FP,FP];exact r2
   |nx=>exact hk0
  ·have hk0:=(h3 k hk).2
   cases k with
   |slot t=>
    show fr'.tm t=(fr'.put o.dst v).tm t
    rw[zn,if_neg (fun e=>hk (.inl (ajr _ (FQ.2 e))))]
   |obj l=>exact hk0
   |top=>exact hk0
   |rest=>exact⟨(FN _ _ _).symm,(FP _ _ _).symm⟩
   |nx=>exact hk0
  ·have hk0:=(h3 k hk).1
   cases k with
   |slot t=>
    show fK.tm t=(fK.put o.dst v).tm t
    rw[zn,if_neg (fun e=>hk (.inl (ajr _ (FQ.2 e))))]
   |obj l=>exact hk0
   |top=>exact hk0
   |rest=>exact⟨(FN _ _ _).symm,(FP _ _ _).symm⟩
   |nx=>exact hk0
end
end Aq
end
