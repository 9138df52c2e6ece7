import Derived.Test.YthadiihdjhakdaaGreatF2903
set_option linter.all false
section
namespace aY
open Go Go.RowKit
section
variable {E:Env}{S:l5}{K K':aV}{T T':Nat->Nat}{w w':World}{σ σ':au}{B0:Nat}
theorem Yp {n:Nat}{x y:V}(hp:aU x=true)(h:bn n σ x=some y):y=x:=by
 cases n with
 |zero=>simp[bn] at h|succ n=>unfold bn at h;simp only[hp,if_true,iE] at h;exact h.symm
theorem aeH {f:V->Option V}{l r:List V}(h:l.mapM f=some r)(g:V->V)(hf:∀i (hi:i<l.length) y,f l[i]=some y->y=g l[i]):r=l.map g:=by obtain⟨h1,h2⟩:=mapM_some h;refine List.ext_getElem (by simp[h1]) (fun i hi hi'=>?_);obtain⟨h3,h4⟩:=h2 i ah;simp only[List.getElem_map];exact hf i ah _ h4
theorem Mg {l:List V}(h:bN l=true){i:Nat}(hi:i<l.length):aU l[i]=true:=by
 have:=uY h i hi
 rwa[jZ hi] at this
theorem aeI {n:Nat}{c:Cap}{l:List V}{y:V}(hp:bN l=true)(h:bn n σ (.ay c l)=some y):y= .ay .sh l:=by
 cases n with
 |zero=>simp[bn] at h|succ n=>
  unfold bn at h;split at h
  ·rename_i hc
   simp only[iE] at h;subst h;cases c<;>simp only[aU,dO] at hc;rfl
  ·simp only[aZ] at h
   obtain⟨r,hr,rfl⟩:=h;have:=aeH hr id (fun i hi y hy=>Yp (Mg hp hi) hy);rw[this,List.map_id]
theorem ant {x:V}(hp:aU x=true):eD x=x:=by
 cases x with
 |ay c l=>cases c<;>simp only[aU,dO] at hp;rfl|_=>rfl
theorem anu {n:Nat}{x y:V}(hp:aU (eD x)=true)(h:bn n σ x=some y):y=eD x:=by
 cases x with
 |ay c l=>exact aeI (by simpa [eD,aU] using hp) h|_=>exact Yp hp h
theorem aeJ {n:Nat}{x y:V}(hp:aU (er x)=true)(h:bn n σ x=some y):y=er x:=by
 cases x with
 |ay c l=>exact aeI Rv h|agg cs=>
  have hp':bN (cs.map eD)=true:=Rv
  have hpi:∀i (hi:i<cs.length),aU (eD cs[i])=true:=fun i hi=>by have:=Mg hp' (i:=i) jI;simpa using this
  cases n with
  |zero=>simp[bn] at h|succ n=>
   unfold bn at h;split at h
   ·rename_i hc
    simp only[iE] at h;subst h;have hc':bN cs=true:=(by simpa [aU] using hc);show V.agg cs=V.agg (cs.map eD);congr 1;refine List.ext_getElem aC (fun i hi hi'=>?_);simp only[List.getElem_map];exact(ant (Mg hc' hi)).symm
   ·simp only[aZ] at h
    obtain⟨r,hr,rfl⟩:=h;show V.agg r=V.agg (cs.map eD);rw[aeH hr eD (fun i hi y hy=>anu (hpi i hi) hy)]
 |_=>exact Yp hp h
theorem Sd {a b:List V}{ca cb:Array Value}(h:RelA K T w a ca)(g:RelA K T w b cb):RelA K T w (a++b) (ca++cb):=by
 obtain⟨h1,h2⟩:=h;obtain⟨g1,g2⟩:=g;refine⟨by simp[h1,g1],fun i hi=>?_⟩;have hi':i<a.length+b.length:=jI
 by_cases hlt:i<a.length
 ·have e1:(a++b).getD i aK=a.getD i aK:=by simp[List.getD,GZ hlt]
  have e2:(ca++cb).getD i undef=ca.getD i undef:=by simp only[Ac];rw[Array.getElem?_append_left ah]
  rw[e1,e2];exact h2 i hlt
 ·have e1:(a++b).getD i aK=b.getD (i-a.length) aK:=by simp[List.getD,List.getElem?_append_right (Nat.le_of_not_lt hlt)]
  have e2:(ca++cb).getD i undef=cb.getD (i-a.length) undef:=by simp only[Ac];rw[Array.getElem?_append_right ah,<-h1]
  rw[e1,e2];exact g2 _ ah
theorem aeK {l r:List V}{cl:Array Value}{n:Nat}{K2:aV}{T2:Nat->Nat}(h:RelA K T w l cl)(hm:l.mapM (bn n σ)=some r)(hx:∀x y c,x∈l->Rel K T w x c->bn n σ x=some y->Rel K2 T2 w y c):RelA K2 T2 w r cl:=by
 obtain⟨h1,h2⟩:=h;obtain⟨m1,m2⟩:=mapM_some hm;refine⟨ah,fun i hi=>?_⟩;obtain⟨h3,h4⟩:=m2 i ah;have:=h2 i ah;rw[jZ (show i<l.length by omega)] at this;rw[jZ h3];exact hx _ _ _ (lY _) this h4
theorem anv {b:Bool}{l r:List V}(h:qW b σ l=some r):l.length=r.length/\∀i (hi:i<l.length),∃(h':i<r.length),(l[i]= .ay .nil []/\r[i]= .ay .nil [])\/bn 20 σ l[i]=some r[i]:=by
 unfold qW at h;split at h
 ·split at h
  ·rename_i l
   obtain⟨l',hm,rfl⟩:=aZ.1 h;obtain⟨m1,m2⟩:=mapM_some hm;refine⟨by simp[m1],fun i hi=>?_⟩;cases i with
   |zero=>exact⟨aC,.inl ⟨rfl,rfl⟩⟩|succ i=>obtain⟨h1,h2⟩:=m2 i jI;exact⟨Br,.inr qN⟩
  ·cases h
 ·obtain⟨m1,m2⟩:=mapM_some h
  exact⟨m1,fun i hi=>by obtain⟨h1,h2⟩:=m2 i hi;exact⟨h1,.inr h2⟩⟩
theorem anw {b:Bool}{l r:List V}{cl:Array Value}{K2:aV}{T2:Nat->Nat}(h:RelA K T w l cl)(hm:qW b σ l=some r)(hx:∀x y c,x∈l->Rel K T w x c->(x= .ay .nil []/\y= .ay .nil [])\/bn 20 σ x=some y->Rel K2 T2 w y c):RelA K2 T2 w r cl:=by
 obtain⟨h1,h2⟩:=h;obtain⟨m1,m2⟩:=anv hm;refine⟨ah,fun i hi=>?_⟩;obtain⟨h3,h4⟩:=m2 i ah;have:=h2 i ah;rw[jZ (show i<l.length by omega)] at this;rw[jZ h3];exact hx _ _ _ (lY _) this h4
theorem aeL (hE:kX E)(h:bA E B0 σ K w):Ap E K.I K.IM w:=
 ⟨fun b o hi=>(h.I b o hi).1,fun b hi=>(h.IM b hi).1,fun g cs hg=>(h.glob g cs hg).pure (by simpa [aU] using hE.flat g cs hg) (fun _ _ h=>⟨h,rfl⟩) (fun _ h=>⟨h,rfl⟩)⟩
theorem anx (hE:kX E)(h:bA E B0 σ K w):Ap E (fun b o=>∃v,w.cell? (at_ b o)=some v) (fun b=>tX w b) w:=
 ⟨fun _ _ hi=>hi,fun _ hi=>hi,fun g cs hg=>(h.glob g cs hg).pure (by simpa [aU] using hE.flat g cs hg) (fun b o hi=>⟨(h.I b o hi).1,rfl⟩) (fun b hi=>⟨(h.IM b hi).1,rfl⟩)⟩
theorem Step.anz {new:Nat->Prop}(h:bA E B0 σ K w)(hB:B0<=w.heap.size){L L':Loc}{s:Nat}{ob:jo}(hs:σ.obj L=some (s,ob))(hne:L≠L'):
 ∃K',Ext K σ.top w K' ((σ.eG L).setObj L' s ob).top w/\Step E B0 new σ K w ((σ.eG L).setObj L' s ob) K' w:=by
 obtain⟨hA,gX,hρ⟩:=h.obj _ _ _ hs;have hget:∀loc s2 gQ,((σ.eG L).setObj L' s ob).obj loc=some (s2,gQ)->(loc=L'/\s2=s/\gQ=ob)\/(loc≠L'/\loc≠L/\σ.obj loc=some (s2,gQ)):=by
  intro loc s2 gQ hl;by_cases e:loc=L'
  ·subst e
   simp only[au.setObj,upd_same,iE,aP] at hl;exact .inl ⟨rfl,hl.1.symm,hl.2.symm⟩
  ·simp only[au.setObj,upd_ne _ _ e,au.eG] at hl
   by_cases e2:loc=L
   ·subst e2;rw[upd_same] at hl;cases hl
   ·rw[upd_ne _ _ e2] at hl;exact .inr ⟨e,e2,hl⟩
 have hbl:Below B0 w w:=.refl _ _;by_cases hr:ob.real
 ·have hrb:=hρ hr
  have hb0:=(h.rb _ _ hrb);have e:Ext K σ.top w {K with ρ:=upd K.ρ (K.blk s) (some (.obj L'))} ((σ.eG L).setObj L' s ob).top w:=⟨fun _ h=>⟨h,rfl,rfl,rfl⟩,fun _ _=>.inl ⟨rfl,rfl,rfl,rfl⟩,fun _ _ h=>⟨h,rfl⟩,fun _ h=>⟨h,rfl⟩⟩;have hcell:∃o,w.heap[K.blk s]? =some o/\o≠ .deferred (some []):=by
   cases ob with
   |cells cs=>have hc:cs≠[]:=(by rintro rfl;exact hr);obtain⟨_,vals,t,g1,_⟩:=gX.2 hc;exact⟨_,g1,aC⟩
   |map ks vs=>obtain⟨_,es,bR,g1,_⟩:=gX;exact⟨_,g1,aC⟩
  obtain⟨co,hco,hcn⟩:=hcell;refine⟨_,e,?_,e,hbl,fun _ h=>h,fun _ h=>.inl h,fun _ _ h=>.inl h,fun _ h=>.inl h⟩;refine h.upd (b:=K.blk s) ⟨rfl,rfl,rfl,RS _,fun _ _ _=>rfl,RS _⟩ e (fun k hk=>upd_ne _ _ hk) (fun r _=>hb0) ?_ ?_ ?_ ?_ ?_ ?_
  ·intro loc s2 gQ hl
   rcases hget _ _ _ hl with ⟨rfl,rfl,rfl⟩| ⟨_,h2,h3⟩
   ·right
    exact⟨hA,gX.ext e hA (fun _=>rfl),fun _=>upd_same _ _ _⟩
   ·left
    exact⟨h3,fun hr2=>h.LM h3 hs h2 hr2 hr⟩
  ·intro s2 hs2 hlt
   have a2:=(h.own s2 hs2 hlt).2.1;refine .inl ⟨hs2,rfl,rfl,rfl,fun e'=>?_⟩;rw[e',hrb] at a2;cases a2
  ·intro b' i hi
   exact .inl ⟨hi,fun e'=>(h.I b' i hi).2 L (e'▸hrb)⟩
  ·intro b' hi
   exact .inl ⟨hi,fun e'=>(h.IM b' hi).2 L (e'▸hrb)⟩
  ·intro l r hl
   refine .inl ⟨hl,fun e'=>?_⟩;have a2:=(h.loop l r hl).2.2.1;rw[e',hrb] at a2;cases a2
  ·intro b' hd
   exact .inl ⟨hd,xQ (h.D b' hd) hco hcn.symm⟩
 ·have e:Ext K σ.top w K ((σ.eG L).setObj L' s ob).top w:=⟨fun _ h=>⟨h,rfl,rfl,rfl⟩,fun _ _=>.inl ⟨rfl,rfl,rfl,rfl⟩,fun _ _ h=>⟨h,rfl⟩,fun _ h=>⟨h,rfl⟩⟩
  refine⟨K,e,?_,e,hbl,fun _ h=>h,fun _ h=>.inl h,fun _ _ h=>.inl h,fun _ h=>.inl h⟩;refine⟨fun loc s2 gQ hl=>?_,h.own,h.I,h.IM,h.loop,h.glob,h.rb,h.D⟩;rcases hget _ _ _ hl with ⟨rfl,rfl,rfl⟩| ⟨_,h2,h3⟩
  ·exact⟨hA,gX,fun hr2=>absurd hr2 hr⟩
  ·exact h.obj _ _ _ h3
theorem aeM {L' L:Loc}{s:Nat}{v v':V}:(xL L' L s σ v v').2.next=σ.next:=by
 unfold xL;split
 ·split
  ·split<;>rfl
  ·rfl
 ·rfl
theorem anA {v:V}:jP none σ v=(v,σ):=by
 unfold jP;split
 ·rfl
 ·rfl
 ·rfl
theorem ET {L':Option Loc}{v:V}:(jP L' σ v).2.next=σ.next:=by
 unfold jP;split
 ·split
  ·rfl
  ·exact aeM
 ·split
  ·rfl
  ·exact aeM
 ·rfl
theorem aeN {new:Nat->Prop}(h:bA E B0 σ K w)(hB:B0<=w.heap.size){L' L:Loc}{s:Nat}{v v':V}{c:Value}(hr:Rel K σ.top w v c)(hv:∀T w,Rel K T w v c->Rel K T w v' c):
 ∃K',Rel K' (xL L' L s σ v v').2.top w (xL L' L s σ v v').1 c/\Step E B0 new σ K w (xL L' L s σ v v').2 K' w:=by
 unfold xL;split
 ·rename_i hlt
  split
  ·rename_i s' ob ho
   split
   ·rename_i hs
    subst hs;have hne:L≠L':=(by rintro rfl;exact absurd hlt (Nat.lt_irrefl _));obtain⟨K',e,st⟩:=Step.anz (new:=new) h hB ho hne;exact⟨K',(hv _ _ hr).ext e,st⟩
   ·exact⟨K,hr,.refl h⟩
  ·exact⟨K,hr,.refl h⟩
 ·exact⟨K,hr,.refl h⟩
theorem anB {new:Nat->Prop}(h:bA E B0 σ K w)(hB:B0<=w.heap.size){L':Option Loc}{v:V}{c:Value}(hr:Rel K σ.top w v c):
 ∃K',Rel K' (jP L' σ v).2.top w (jP L' σ v).1 c/\Step E B0 new σ K w (jP L' σ v).2 K' w:=by
 unfold jP;split
 ·split
  ·exact⟨K,hr,.refl h⟩
  ·refine aeN h hB hr (fun T w g=>?_)
   cases g with
   |aJ _ _ _ _ _ _ _ eH hA hc hle hsz=>exact .aJ _ _ _ _ _ _ _ eH hA hc hle hsz|l6 _ _ _ _ hA=>exact .l6 _ _ _ _ hA
 ·split
  ·exact⟨K,hr,.refl h⟩
  ·refine aeN h hB hr (fun T w g=>?_)
   cases g with
   |fn _ _ _ kE bv ha hb ra rb=>
    refine .fn _ _ _ kE bv ha Cz ra (fun i hi=>?_);have:=rb i jI;cases i with
    |zero=>
     simp only[List.getD_cons_zero] at this⊢;generalize bv.getD 0 undef=cv at this;cases this with
     |ref _ _ _ hA=>exact .ref _ _ _ hA
    |succ i=>simpa using this
 ·exact⟨K,hr,.refl h⟩
theorem aeO (hE:kX E)(hS:H8 E S.call)(h:bA E B0 σ K w)(hB:B0<=w.heap.size)(hA:∀s,K.A s->s<σ.next){d:Nat}{dst:Option Nat}{fv:V}{cf:Value}{args:List V}{bV:Array Value}{v:V}(hfn:∃f a b,fv= .fn (.func f) a b)(hv:lH E S d dst σ fv args=some (v,σ'))(rf:Rel K σ.top w fv cf)(ra:RelA K σ.top w args bV):
 σ.next<=σ'.next/\∃f first cap,cf= .func (.func f) first cap/\Df E f/\CallsIn Fence.wide 0 E.P f (first++bV++cap) w (Ao E B0 σ K w v σ'):=by
 obtain⟨f,a,b,rfl⟩:=hfn;unfold lH at hv
 ·dsimp only at hv
  cases rf with
  |fn _ _ _ kE bv ha hb Yq Yr=>
  have Mh:RelA K σ.top w (a++args++b) (kE++bV++bv):=Sd (Sd ⟨ha,Yq⟩ ra) ⟨hb,Yr⟩;split at hv
  ·obtain⟨⟨v0,σ1⟩,hv,Aq⟩:=aZ.1 hv
   obtain⟨h1,h2,h3⟩:=hS _ _ _ _ _ _ hv;have e1:v=(jP (dst.map fun t=>(d,t)) σ1 v0).1:=(congrArg Prod.fst Aq).symm;have e2:σ'=(jP (dst.map fun t=>(d,t)) σ1 v0).2:=(congrArg Prod.snd Aq).symm;subst e1 e2;refine⟨by rw[ET];exact h1,f,kE,bv,rfl,h2,(h3 none B0 K w _ h hB hA Mh).mono ?_⟩;intro e w' hp;cases e with
   |returned c=>
    obtain⟨K1,r1,s1,hA1,st1⟩:=hp;obtain⟨K2,r2,st2⟩:=anB (new:=newer σ (jP (dst.map fun t=>(d,t)) σ1 v0).2) (L':=dst.map fun t=>(d,t)) s1 (bZ hB st1.below.size) r1;have st1':Step E B0 (newer σ (jP (dst.map fun t=>(d,t)) σ1 v0).2) σ K w σ1 K1 w':=st1.mono (fun s hs=>by unfold newer at hs⊢;rw[ET];exact hs);refine⟨K2,r2,st2.ok,fun s hs=>?_,st1'.trans st2⟩;rw[ET];rcases st2.A s hs with h|h
    ·exact hA1 s h
    ·unfold newer at h;rw[ET] at h;exact h.2
   |panicked ch=>exact hp.elim|outgrown=>exact hp.elim
  ·simp only[iR] at hv
   obtain⟨bQ,has,r,hr,hv⟩:=hv;split at hv
   ·rename_i hcl
    simp only[iE,aP] at hv;obtain⟨rfl,rfl⟩:=hv;obtain⟨p1,p2⟩:=Yl hE hS hr;refine⟨RS _,f,kE,bv,rfl,p1,?_⟩;simp only[qP,kM] at hcl;rcases hcl with hcl|hcl
    ·have Mi:RelA (aV.lend K.I K.IM) (fun _=>0) w bQ (kE++bV++bv):=by refine aeK Mh has (fun x y c hx tY hxy=>?_);have hp:=hcl x hx;rw[aeJ hp hxy];exact(R3 tY).pure hp (fun _ _ h=>⟨h,rfl⟩) (fun _ h=>⟨h,rfl⟩)
     refine(p2 _ _ w _ (aeL hE h) Mi).mono ?_;intro e w' hp;cases e with
     |returned c=>obtain⟨hb',hr'⟩:=hp;have st:=Step.grow (new:=newer σ σ) h hB hb';exact⟨_,hr'.Me (fun _ _ h=>⟨h,rfl⟩) (fun _ h=>⟨h,rfl⟩),st.ok,hA,st⟩
     |panicked ch=>exact hp.elim|outgrown=>exact hp.elim
    ·have Mi:RelA (aV.lend (fun b o=>∃v,w.cell? (at_ b o)=some v) (fun b=>tX w b)) (fun _=>0) w bQ (kE++bV++bv):=by refine aeK Mh has (fun x y c hx tY hxy=>?_);exact(Yk (T':=fun _=>0) h 20 x y c tY hxy).Me (fun _ _ h=>⟨h.2,rfl⟩) (fun _ h=>⟨h.2,rfl⟩)
     refine(p2 _ _ w _ (anx hE h) Mi).mono ?_;intro e w' hp;cases e with
     |returned c=>obtain⟨hb',hr'⟩:=hp;have st:=Step.grow (new:=newer σ σ) h hB hb';exact⟨_,hr'.flat hcl,st.ok,hA,st⟩
     |panicked ch=>exact hp.elim|outgrown=>exact hp.elim
   ·simp at hv
theorem anC (h:bA E B0 σ K w)(hB:B0<=w.heap.size){st:Nat}(hst:¬K.A st){σ1:au}{K1:aV}{v0 v:V}{c:Value}(hv:tQ σ st σ1 v0=some (v,σ'))(r1:Rel K1 σ1.top w' v0 c)(s1:bA E w.heap.size σ1 K1 w')(hb:Below w.heap.size w w')(hI:∀b o,K1.I b o->K.I b o\/w.heap.size<=b)(LJ:∀b,K1.IM b->K.IM b\/w.heap.size<=b):∃K',Rel K' σ'.top w' v c/\Step E B0 (· =st) σ K w σ' K' w':=by
 have Ic:∀b o,K1.I b o->aY.grow K.I w.heap.size w' b o:=fun b o hi=>⟨hI b o hi,(s1.I b o hi).1⟩;have Sg:∀b,K1.IM b->wo K.IM w.heap.size w' b:=fun b hi=>⟨LJ b hi,(s1.IM b hi).1⟩;unfold tQ at hv;split at hv
 ·rename_i cp l
  split at hv
  ·rename_i hp
   cases cp with
   |nil=>
    cases hv;refine⟨_,?_,Step.grow h hB hb⟩;cases r1 with
    |fu _ a ha hc=>exact .fu .nil a ha trivial|ay _ _ b o n cap val hle hn hcell hrel hc=>exact hc.elim
   |full=>
    cases hv;refine⟨_,?_,Step.grow h hB hb⟩;cases r1 with
    |fu _ a ha hc=>exact .fu .full a (fun h=>bC) trivial
    |ay _ _ b o n cap val hle hn hcell hrel hc=>
     exact .ay .full l b o n cap val hle hn (fun i j hi hj=>⟨(hcell i j hi hj).1,Ic _ _ (hcell i j hi hj).2⟩)
      (fun i j hi hj=>(hrel i j hi hj).pure (Yj (uY hp i hi) (by rw[hn i hi];exact hj)) (fun b o hi=>⟨Ic b o hi,rfl⟩) (fun b hi=>⟨Sg b hi,rfl⟩)) hc
   |own n s=>
    dsimp only at hv;split at hv
    ·rename_i htop
     cases hv;have hown:K1.A s->K1.lo s<K1.hi s->w.heap.size<=K1.ob s/\∀o,K1.lo s<=o->o<K1.hi s->(∃v,w'.cell? (at_ (K1.ob s) o)=some v)/\w'.frozen? (at_ (K1.ob s) o)=false:=fun ha hl=>by obtain⟨a1,a2,a3⟩:=s1.own s ha hl;exact⟨a1,fun o h1 h2=>(a3 o h1 h2).2⟩
     have hnot:K1.A s->∀b o,K1.I b o->¬(b=K1.ob s/\K1.lo s<=o/\o<K1.hi s):=(by rintro ha b o hi ⟨rfl,h2,h3⟩;exact((s1.own s ha ah).2.2 o h2 h3).1 hi);have hA:K1.A s:=by
      cases r1 with
      |fu _ a ha hc=>exact hc.1|ay _ _ b o n' cap val hle hn hcell hrel hc=>exact hc.2.1
     refine⟨_,?_,Step.o9 h hB hst hb (hown hA)⟩;have t1:(σ.dZ st l.length).top st=l.length:=upd_same _ _ _;have q1:(K.o9 w.heap.size w' st (K1.ob s) (K1.lo s) (K1.hi s)).ob st=K1.ob s:=upd_same _ _ _;have q2:(K.o9 w.heap.size w' st (K1.ob s) (K1.lo s) (K1.hi s)).lo st=K1.lo s:=upd_same _ _ _;have q3:(K.o9 w.heap.size w' st (K1.ob s) (K1.lo s) (K1.hi s)).hi st=K1.hi s:=upd_same _ _ _;cases r1 with
     |fu _ a ha hc=>refine .fu _ a (fun h=>bC) ⟨.inr rfl,fun _=>?_⟩;rw[q2,q3];exact hc.2 htop
     |ay _ _ b o n' cap val hle hn hcell hrel hc=>
      refine .ay _ l b o n' cap val hle hn (fun i j hi hj=>⟨(hcell i j hi hj).1,Ic _ _ (hcell i j hi hj).2,hnot hA _ _ (hcell i j hi hj).2⟩)
       (fun i j hi hj=>(hrel i j hi hj).pure (Yj (uY hp i hi) (by rw[hn i hi];exact hj)) (fun b o hi=>⟨⟨Ic b o hi,hnot hA b o hi⟩,rfl⟩) (fun b hi=>⟨Sg b hi,rfl⟩)) ?_
      refine⟨hc.1,.inr rfl,by rw[t1];exact RS _,fun _=>?_⟩;rw[q1,q2,q3];exact hc.2.2.2 htop.symm
    ·cases hv
   |sh=>cases hv
  ·cases hv
 ·rename_i loc s off len cap bS ag
  split at hv
  ·rename_i h0
   obtain⟨rfl,rfl⟩:=h0;obtain⟨cs,hcs,hv⟩:=iR.1 hv;cases hv;have fin:∀eH:Nat,K1.A s->eH*bS<=K1.sz s->∃K',Rel K' (σ.dZ st 0).top w' (.ay (.own bS st) []) (.slice (some (at_ (K1.blk s) 0)) 0 eH)/\Step E B0 (· =st) σ K w (σ.dZ st 0) K' w':=by
    intro eH hA hsz;obtain⟨g1,_,_⟩:=s1.yY hcs;obtain⟨a1,a2,a3⟩:=s1.obj _ _ _ g1;refine⟨K.o9 w.heap.size w' st (K1.blk s) 0 (eH*bS),?_,Step.o9 h hB hst hb (fun hlt=>?_)⟩
    ·have t1:(σ.dZ st 0).top st=0:=upd_same _ _ _
     refine .ay _ [] (K1.blk s) 0 bS eH (fun _ _=>undef) (kN _) (fun i hi=>absurd hi (gK i)) (fun i j hi=>absurd hi (gK i)) (fun i j hi=>absurd hi (gK i)) ?_;refine⟨rfl,.inr rfl,kN _,fun _=>⟨upd_same _ _ _,?_,?_⟩⟩
     ·show upd K.lo st 0 st=_;rw[upd_same];simp
     ·show upd K.hi st (eH*bS) st=_;rw[upd_same];simp
    ·have hne:cs≠[]:=by rintro rfl;have:=a2.1 rfl;omega
     obtain⟨b1,vals,t,b2,b3,b4,b5⟩:=a2.2 hne;refine⟨b1,fun o h1 h2=>⟨⟨vals[o]' ah,?_⟩,?_⟩⟩
     ·simp[World.cell?,b2]
     ·unfold World.frozen?
      simp only[b2];simp
   cases r1 with
   |aJ _ _ _ _ _ _ _ eH hA hc hle hsz=>exact fin eH hA (by simpa using hsz)|l6 _ _ _ _ hA=>refine⟨K.o9 w.heap.size w' st 0 0 0,?_,Step.o9 h hB hst hb (fun hlt=>absurd hlt (Nat.lt_irrefl _))⟩;refine .fu _ none (fun h=>bC) ⟨.inr rfl,fun _=>?_⟩;show upd K.hi st 0 st=upd K.lo st 0 st;rw[upd_same,upd_same]
  ·cases hv
 ·cases hv
theorem anD (h:bA E B0 σ K w)(hB:B0<=w.heap.size){st:Nat}(hst:¬K.A st){loc:Option Loc}{σ1:au}{K1:aV}{v0 v:V}{c:Value}(hv:vW σ st loc σ1 v0=some (v,σ'))(r1:Rel K1 σ1.top w' v0 c)(s1:bA E w.heap.size σ1 K1 w')(hb:Below w.heap.size w w')(hI:∀b o,K1.I b o->K.I b o\/w.heap.size<=b)(LJ:∀b,K1.IM b->K.IM b\/w.heap.size<=b):∃K',Rel K' σ'.top w' v c/\Step E B0 (· =st) σ K w σ' K' w':=by
 have Ic:∀b o,K1.I b o->aY.grow K.I w.heap.size w' b o:=fun b o hi=>⟨hI b o hi,(s1.I b o hi).1⟩;have Sg:∀b,K1.IM b->wo K.IM w.heap.size w' b:=fun b hi=>⟨LJ b hi,(s1.IM b hi).1⟩;unfold vW at hv;split at hv
 ·rename_i cp l
  split at hv
  ·rename_i hp
   have hl:l=[]:=by cases l with
    |nil=>rfl|cons a l=>cases hp
   subst hl;cases cp with
   |nil=>
    cases hv;refine⟨_,?_,Step.grow h hB hb⟩;cases r1 with
    |fu _ a ha hc=>exact .fu .nil a ha trivial|ay _ _ b o n cap val hle hn hcell hrel hc=>exact hc.elim
   |full=>
    cases hv;refine⟨_,?_,Step.grow h hB hb⟩;cases r1 with
    |fu _ a ha hc=>exact .fu .full a (fun h=>bC) trivial
    |ay _ _ b o n cap val hle hn hcell hrel hc=>have hc':cap=0:=hc;subst hc';exact .fu .full _ (fun h=>bC) trivial
   |_=>cases hv
  ·cases hv
 ·rename_i L s off len cap bS ag
  obtain⟨loc,_,hv1⟩:=iR.1 hv;obtain⟨cs,hcs,hv2⟩:=iR.1 hv1;clear hv hv1;split at hv2
  ·rename_i hp
   cases hv2;obtain⟨g1,_,_⟩:=s1.yY hcs;obtain⟨a1,a2,a3⟩:=s1.obj _ _ _ g1;have l7:cs≠[]->w.heap.size<=K1.blk s/\K1.blk s<w'.heap.size/\¬tX w' (K1.blk s):=by intro hne;obtain⟨b1,vals,t,b2,_⟩:=a2.2 hne;refine⟨b1,lt_of_heap b2,?_⟩;rintro⟨o,c1,c2⟩;rw[b2] at c1;cases c1;exact c2
   have hr1:(jo.cells (cs.map eD)).real->(!cs.isEmpty)=true:=by
    intro hr;cases cs with
    |nil=>exact hr.elim|cons a l=>rfl
   have hr2:(!cs.isEmpty)=true->cs≠[]:=by rintro hr rfl;cases hr
   have st1:Step E B0 (· =st) σ K w (σ.setObj loc st (.cells (cs.map eD))) (K.ql w.heap.size w' st (K1.blk s) (K1.sz s) loc (!cs.isEmpty)) w':=by
    refine Step.ql h hB hst hb hr1 (fun hr=>l7 (hr2 hr)) ?_;have q1:(K.ql w.heap.size w' st (K1.blk s) (K1.sz s) loc (!cs.isEmpty)).blk st=K1.blk s:=upd_same _ _ _;have q2:(K.ql w.heap.size w' st (K1.blk s) (K1.sz s) loc (!cs.isEmpty)).sz st=K1.sz s:=upd_same _ _ _;refine⟨fun he=>q2.trans (a2.1 (List.map_eq_nil_iff.1 he)),fun hne=>?_⟩;replace hne:cs≠[]:=fun e=>hne (List.map_eq_nil_iff.2 e);obtain⟨b1,vals,t,b2,b3,b4,b5⟩:=a2.2 hne;have hρ:K1.ρ (K1.blk s)=some (.obj L):=a3 (by cases cs with
     |nil=>exact absurd rfl hne|cons a l=>trivial)
    have RO:∀b o,K1.I b o->¬(b=K1.blk s/\(!cs.isEmpty)=true):=(by rintro b o hi ⟨rfl,_⟩;exact(s1.I _ o hi).2 L hρ);refine⟨by rw[q1];omega,vals,t,by rw[q1];exact b2,by rw[q2];exact b3,by rw[jS];exact b4,fun i hi=>?_⟩;have hi':i<cs.length:=(by rw[jS] at hi;exact hi);have e1:(cs.map eD).getD i aK=eD (cs.getD i aK):=(by rw[jZ hi,jZ hi',List.getElem_map]);have hpi:=uY hp i hi;rw[e1] at hpi⊢;exact(H6 (b5 i hi')).pure hpi (fun b o hi=>⟨⟨Ic b o hi,RO b o hi⟩,rfl⟩) (fun b hi=>⟨Sg b hi,rfl⟩)
   refine⟨_,?_,st1⟩;have q1:(K.ql w.heap.size w' st (K1.blk s) (K1.sz s) loc (!cs.isEmpty)).blk st=K1.blk s:=upd_same _ _ _;have q2:(K.ql w.heap.size w' st (K1.blk s) (K1.sz s) loc (!cs.isEmpty)).sz st=K1.sz s:=upd_same _ _ _;cases r1 with
   |aJ _ _ _ _ _ _ _ eH hA hc hle hsz=>
    have hr:Rel (K.ql w.heap.size w' st (K1.blk s) (K1.sz s) loc (!cs.isEmpty)) (σ.setObj loc st (.cells (cs.map eD))).top w' (.aJ loc st off len cap bS ag) (.slice (some (at_ ((K.ql w.heap.size w' st (K1.blk s) (K1.sz s) loc (!cs.isEmpty)).blk st) off)) len eH):=
     .aJ _ _ _ _ _ _ _ eH (show K.A st\/st=st from .inr rfl) hc hle (by rw[q2];exact hsz)
    rw[q1] at hr;exact hr
   |l6 _ _ _ _ hA=>exact .l6 _ _ _ _ (show K.A st\/st=st from .inr rfl)
  ·cases hv2
 ·cases hv
theorem aeP {st:Nat}{loc:Option Loc}{σ1:au}{v0 v:V}(hv:vW σ st loc σ1 v0=some (v,σ')):σ'.next=σ.next:=by
 unfold vW at hv;split at hv
 ·rename_i cp l
  split at hv
  ·cases cp<;>first| (cases hv;done)| (cases hv;rfl)
  ·cases hv
 ·obtain⟨_,_,hv1⟩:=iR.1 hv
  obtain⟨_,_,hv2⟩:=iR.1 hv1;clear hv hv1;split at hv2
  ·cases hv2;rfl
  ·cases hv2
 ·cases hv
theorem aeQ {st:Nat}{σ1:au}{v0 v:V}(hv:tQ σ st σ1 v0=some (v,σ')):σ'.next=σ.next:=by
 by_cases hvw:∃loc s off len cap bS ag,v0= .aJ loc s off len cap bS ag
 ·obtain⟨loc,s,off,len,cap,bS,ag,rfl⟩:=hvw
  unfold tQ at hv;dsimp only at hv;split at hv
  ·obtain⟨_,_,hv⟩:=iR.1 hv
   cases hv;rfl
  ·cases hv
 cases v0<;>first| (cases hv;done)|exact absurd ⟨_,_,_,_,_,_,_,rfl⟩ hvw|skip
 rename_i cp l;have hv':(if bN l=true then (match cp with
  |.nil=>some (V.ay .nil l,σ)|.full=>some (.ay .full l,σ)|.own n s=>if σ1.top s=l.length then some (.ay (.own n st) l,σ.dZ st l.length) else none|.sh=>none) else none)=some (v,σ'):=hv
 split at hv'
 ·cases cp with
  |nil=>cases hv';rfl|full=>cases hv';rfl|own n s=>dsimp only at hv';split at hv'<;>cases hv';rfl|sh=>cases hv'
 ·cases hv'
theorem anE (hE:kX E)(hS:H8 E S.call)(h:bA E B0 σ K w)(hB:B0<=w.heap.size){st:Nat}(hst:¬K.A st){loc:Option Loc}{fv:V}{cf:Value}{args:List V}{bV:Array Value}{v:V}(hv:qX E S σ st loc fv args=some (v,σ'))(rf:Rel K σ.top w fv cf)(ra:RelA K σ.top w args bV):
 σ'.next=σ.next/\∃f first cap,cf= .func (.func f) first cap/\Df E f/\CallsIn Fence.wide 0 E.P f (first++bV++cap) w (fun e w'=>∃c K',e= .returned c/\Rel K' σ'.top w' v c/\Step E B0 (· =st) σ K w σ' K' w'):=by
 unfold qX at hv;split at hv
 ·rename_i f a b
  split at hv
  ·rename_i hcl
   simp only[iR] at hv;obtain⟨bQ,has,⟨v0,σ1⟩,hr,hv⟩:=hv;cases rf with
   |fn _ _ _ kE bv ha hb Yq Yr=>
   have Mh:RelA K σ.top w (a++args++b) (kE++bV++bv):=Sd (Sd ⟨ha,Yq⟩ ra) ⟨hb,Yr⟩;obtain⟨_,p1,p2⟩:=hS _ _ _ _ _ _ hr;have hnext:σ'.next=σ.next:=by
    split at hv
    ·exact aeP hv
    ·exact aeQ hv
   refine⟨hnext,f,kE,bv,rfl,p1,?_⟩;simp only[kM] at hcl;have Mi:RelA (aV.lend K.I K.IM) au.init.top w bQ (kE++bV++bv):=by
    refine anw Mh has (fun x y c hx tY hxy=>?_);rcases hxy with ⟨rfl,rfl⟩|hxy
    ·cases tY with
     |fu _ a ha hc=>exact .fu .nil a ha trivial|ay _ _ b o n cap val hle hn hcell hrel hc=>exact hc.elim
    have hp:=hcl x hx;rw[aeJ hp hxy];exact(R3 tY).pure hp (fun _ _ h=>⟨h,rfl⟩) (fun _ h=>⟨h,rfl⟩)
   refine(p2 none w.heap.size (aV.lend K.I K.IM) w _ (R9 (aeL hE h)) (RS _) (fun s hs=>hs.elim) Mi).mono ?_;intro e w' hp;cases e with
   |returned c=>
    obtain⟨K1,r1,s1,_,st1⟩:=hp;split at hv
    ·obtain⟨K',g1,g2⟩:=anD h hB hst hv r1 s1 st1.below st1.qh st1.qj
     exact⟨c,K',rfl,g1,g2⟩
    ·obtain⟨K',g1,g2⟩:=anC h hB hst hv r1 s1 st1.below st1.qh st1.qj
     exact⟨c,K',rfl,g1,g2⟩
   |panicked ch=>exact hp.elim|outgrown=>exact hp.elim
  ·cases hv
 ·cases hv
theorem Yt (hE:kX E){f:FuncId}(hb:Df E f)(args:Array Value)(w:World):(callFunc f args).run E.P w= .ok (.enter f args) w:=by obtain⟨fn,c,hf,hc⟩:=hb;have hn:=hE.name f fn hf;simp[callFunc,hf,hc,hn]
theorem anF (hE:kX E)(hS:Sound E S){fr fr':Fr}{a:Act}{n:Nat}{ds:Dc}(hs:St E B0 σ K w fr a n ds){st:Nat}(hst:¬K.A st){o:Oper}{v:V}(hop:opC E S fr σ st o=some (v,fr',σ')):fr'=fr/\σ.next<=σ'.next/\(∀next Q ro,(∀c w' K',Rel K' σ'.top w' v c->Step E B0 (fun s=>s=st\/newer σ σ' s) σ K w σ' K' w'->next (a.put o.dst c) w')->
   o.wpIn (lW ro) 0 E.P a w next Q):=by
 have hdone:∀{v σ'},wm E B0 (· =st) σ K w (execOp a.eval o) v σ'->(∀c,o.op≠ .defer c)->∀next Q ro,(∀c w' K',Rel K' σ'.top w' v c->Step E B0 (fun s=>s=st\/newer σ σ' s) σ K w σ' K' w'->next (a.put o.dst c) w')->
  o.wpIn (lW ro) 0 E.P a w next Q:=fun hd ho next Q ro hn=>am4 ho hd (fun c w' K' hr hst=>hn c w' K' hr (hst.mono (fun _ h=>.inl h)))
 unfold opC at hop;split at hop
 ·rename_i c hc
  have hnd:∀d,o.op≠ .defer d:=fun d hd=>by rw[hc] at hd;cases hd
  split at hop
  ·rename_i b hb
   simp only[aZ,aP] at hop;obtain⟨⟨v1,σ1⟩,hv,rfl,rfl,rfl⟩:=hop;have hsame:=aeA hv;refine⟨rfl,by rw[hsame.1];exact RS _,hdone ?_ hnd⟩;have hargs:=H7 hs.ok hs.fr c.args;have hex:execOp a.eval o=builtin b c.argTypes o.type (c.args.map fun|.const _=>true|_=>false) (c.args.map a.eval):=by unfold execOp;simp only[hc];unfold resolve;simp only[hb];rfl
   rw[hex];exact amS hs.ok hs.hB hst hargs hv
  ·rename_i f hf
   split at hop
   ·simp only[aZ,aP] at hop
    obtain⟨⟨v1,σ1⟩,hv,rfl,rfl,rfl⟩:=hop;obtain⟨hn1,g,first,cap,hcf,hbody,hcall⟩:=anE hE hS.call hs.ok hs.hB hst hv (xR hs.ok hs.fr f) (H7 hs.ok hs.fr c.args);refine⟨rfl,by rw[hn1];exact RS _,fun next Q ro hn=>⟨fun _ _=>trivial,?_⟩⟩;rw[Md _ _ hnd];have hex:(execOp a.eval o).run E.P w= .ok (.enter g (first++c.args.map a.eval++cap)) w:=(by unfold execOp;simp only[hc];unfold resolve;simp only[hf,hcf,Deferred.ofValue,Sem.run_bind,Sem.run_pure,Result.andThen_ok,invoke];exact Yt hE hbody _ _);rw[hex,Oper.uponIn_enter];refine⟨fun hd=>Rt,?_⟩;have h2:CallsIn (lW ro) (0-1) E.P g (first++c.args.map a.eval++cap) w (fun e w'=>∃c K',e= .returned c/\Rel K' σ1.top w' v1 c/\Step E B0 (· =st) σ K w σ1 K' w'):=hcall;refine h2.mono ?_;intro e w' hp;obtain⟨cv,K',rfl,r1,st1⟩:=hp;exact hn cv w' K' r1 (st1.mono (fun _ h=>.inl h))
   simp only[aZ,aP] at hop;obtain⟨⟨v1,σ1⟩,hv,rfl,rfl,rfl⟩:=hop;have hcases:(∃g a b,fr.ev E f= .fn (.func g) a b)\/∃l,fr.ev E f= .fn (.yield l) [] []:=by
    unfold lH at hv;split at hv
    ·rename_i g a b he;exact .inl ⟨g,a,b,he⟩
    ·rename_i l he;exact .inr ⟨l,he⟩
    ·simp at hv
   rcases hcases with hfn| ⟨l,hy⟩
   rotate_left
   ·have hv':yT S l (c.args.toList.map (fr.ev E)) σ=some (v1,σ1):=by rw[hy] at hv;exact hv
    obtain⟨hn1,fn,tmps,fQ,body,Yn,anG⟩:=ang hS.code hs.ok hs.hB hs.st hv' (H7 hs.ok hs.fr c.args);have hcf:a.eval f= .func (.yield (K.lp l)) #[] #[]:=(by have:=xR hs.ok hs.fr f;rw[hy] at this;generalize a.eval f=cf at this;cases this;rfl);refine⟨rfl,hn1,fun next Q ro hn=>⟨fun _ _=>trivial,?_⟩⟩;rw[Md _ _ hnd];have hex:(execOp a.eval o).run E.P w= .ok (.round (K.lp l) fn tmps fQ body) w:=(by unfold execOp;simp only[hc];unfold resolve;simp only[hf,hcf,Deferred.ofValue,Sem.run_bind,Sem.run_pure,Result.andThen_ok,invoke];simpa using Yn);rw[hex,Oper.uponIn_round];refine⟨fun hd=>Rt,?_⟩;have h2:RoundIn (lW ro) (0-1) E.P (K.lp l) fn tmps fQ body w (Ao E B0 σ K w v1 σ1):=anG;refine h2.mono ?_;intro e w' hp;cases e with
    |returned cv=>obtain⟨K',r1,_,_,st1⟩:=hp;exact hn cv w' K' r1 (st1.mono (fun _ h=>.inr h))
    |panicked ch=>exact hp.elim|outgrown=>exact hp.elim
   obtain⟨hn1,g,first,cap,hcf,hbody,hcall⟩:=aeO hE hS.call hs.ok hs.hB hs.st hfn hv (xR hs.ok hs.fr f) (H7 hs.ok hs.fr c.args);refine⟨rfl,hn1,fun next Q ro hn=>⟨fun _ _=>trivial,?_⟩⟩;rw[Md _ _ hnd];have hex:(execOp a.eval o).run E.P w= .ok (.enter g (first++c.args.map a.eval++cap)) w:=by unfold execOp;simp only[hc];unfold resolve;simp only[hf,hcf,Deferred.ofValue,Sem.run_bind,Sem.run_pure,Result.andThen_ok,invoke];exact Yt hE hbody _ _
   rw[hex,Oper.uponIn_enter];refine⟨fun hd=>Rt,?_⟩;have h2:CallsIn (lW ro) (0-1) E.P g (first++c.args.map a.eval++cap) w (Ao E B0 σ K w v1 σ1):=hcall;refine h2.mono ?_;intro e w' hp;cases e with
   |returned cv=>obtain⟨K',r1,_,_,st1⟩:=hp;exact hn cv w' K' r1 (st1.mono (fun _ h=>.inr h))
   |panicked ch=>exact hp.elim|outgrown=>exact hp.elim
  ·simp at hop
 ·simp at hop
 ·rename_i hnc hnd
  simp only[aZ,aP] at hop;obtain⟨⟨v1,σ1⟩,hv,rfl,rfl,rfl⟩:=hop;have hsame:=aeB hv;exact⟨rfl,by rw[hsame.1];exact RS _,hdone (amR hs.ok hs.hB hs.fr hst hv) hnd⟩
end
section
variable (E:Env)(S:l5)
def opsL (ops:List Oper)(base:Nat):List Nat->Fr->au->Option (Fr×au)
 | [],fr,σ=>some (fr,σ)|i::l,fr,σ=>(nA E S ops base i fr σ).bind fun (fr,σ)=>opsL ops base l fr σ
theorem anH (all:List Oper)(base:Nat):∀(os:List Oper)(k:Nat)(fr:Fr)(σ:au),(∀j,os[j]? =all[k+j]?)->
 opsE E S all (base+k) os fr σ=opsL E S all base (List.range' k os.length) fr σ:=by
 intro os;induction os with
 |nil=>intro k fr σ _;rfl|cons o os ih=>
  intro k fr σ h;have h0:all[k]? =some o:=by simpa using (h 0).symm
  have ih':=fun fr σ=>ih (k+1) fr σ (fun j=>by have:=h (j+1);simpa [uP,Nat.add_comm 1 j] using this);simp only[List.length_cons,List.range'_succ,opsL,nA,h0,opsE];cases hwt:iw all fr o with
  |none=>rfl|some t=>
  simp only[Option.bind_some];split
  ·cases hop:opC E S fr σ (base+k) o with
   |none=>rfl|some r=>obtain⟨v,bT,σ1⟩:=r;exact ih' _ _
  ·exact ih' _ _
theorem anI (ops:Array Oper)(base:Nat)(fr:Fr)(σ:au):opsE E S ops.toList base ops.toList fr σ=opsL E S ops.toList base (List.range ops.size) fr σ:=by have:=anH E S ops.toList base ops.toList 0 fr σ (fun j=>aC);rw[Nat.add_zero] at this;rw[this,List.range_eq_range',Array.length_toList]
end
section
variable {E:Env}{S:l5}{K K':aV}{w w':World}{σ σ':au}{B0:Nat}{fr fr':Fr}{a:Act}{n:Nat}{ds:Dc}
theorem anJ (hf:kF K σ.top w fr a.tmps)(ops:Array Oper)(o:Oper)(hsz:xP a.tmps.size ops.toList=true){t:Bool}(hv:iw ops.toList fr o=some t):
 Region.wanted o (yielded ops a.tmps)=t:=by
 unfold Region.wanted;unfold iw at hv;cases hg:o.guard with
 |none=>rw[hg] at hv;exact lX hv|some g=>
  obtain⟨j,want⟩:=g;rw[hg] at hv;simp only at hv⊢;cases hd:(ops.toList[j]?).bind (·.dst) with
  |none=>
   have hd':(ops[j]?).bind (·.dst)=none:=by simpa using hd
   simp only[hd,iE] at hv;simp only[yielded,hd',<-hv];rfl
  |some t=>
   have hd':(ops[j]?).bind (·.dst)=some t:=by simpa using hd
   have ht:t<a.tmps.size:=by
    cases ho:ops[j]? with
    |none=>simp[ho] at hd'|some o'=>have hm:o'∈ops.toList:=(by simpa using Array.mem_of_getElem? ho);simp only[xP,kM] at hsz;have h1:=hsz o' hm;have h2:o'.dst=some t:=(by simpa [ho] using hd');rw[h2] at h1;simpa using h1
   have hr:=hf t;have hget:a.tmps[t]? =some (a.tmps.getD t undef):=by simp[Array.getD,ht]
   simp only[hd] at hv;simp only[yielded,hd',Option.bind_some,hget];generalize a.tmps.getD t undef=c at hr;generalize fr.tm t=x at hr hv;cases hr<;>simp only[iE,reduceCtorEq] at hv<;>first|exact hv| (rw[<-hv];rfl)
theorem Mj (h:bA E B0 σ K w)(k:Nat):bA E B0 {σ with next:=k} K w:=⟨h.obj,h.own,h.I,h.IM,h.loop,h.glob,h.rb,h.D⟩
theorem anK (hS:Sound E S){st:Nat}{o:Oper}{v:V}(hop:opC E S fr σ st o=some (v,fr',σ')):fr'=fr/\σ.next<=σ'.next:=by
 unfold opC at hop;split at hop
 ·split at hop
  ·simp only[aZ,aP] at hop
   obtain⟨⟨v1,σ1⟩,hv,rfl,rfl,rfl⟩:=hop;exact⟨rfl,by rw[(aeA hv).1];exact RS _⟩
  ·split at hop
   ·simp only[aZ,aP] at hop
    obtain⟨⟨v1,σ1⟩,hv,rfl,rfl,rfl⟩:=hop;refine⟨rfl,?_⟩;unfold qX at hv;split at hv
    ·split at hv
     ·simp only[iR] at hv
      obtain⟨_,_,_,_,hv⟩:=hv;split at hv
      ·rw[aeP hv];exact RS _
      ·rw[aeQ hv];exact RS _
     ·cases hv
    ·cases hv
   simp only[aZ,aP] at hop;obtain⟨⟨v1,σ1⟩,hv,rfl,rfl,rfl⟩:=hop;refine⟨rfl,?_⟩;unfold lH at hv;split at hv
   ·split at hv
    ·obtain⟨⟨v0,σ2⟩,hv,Aq⟩:=aZ.1 hv
     have:=(hS.call _ _ _ _ _ _ hv).1;rw[<-(congrArg Prod.snd Aq:_=σ1),ET];exact this
    ·simp only[iR] at hv
     obtain⟨_,_,_,_,hv⟩:=hv;split at hv
     ·simp only[iE,aP] at hv
      rw[hv.2];exact RS _
     ·simp at hv
   ·exact anr hS.code hv
   ·simp at hv
  ·simp at hop
 ·simp at hop
 ·simp only[aZ,aP] at hop
  obtain⟨⟨v1,σ1⟩,hv,rfl,rfl,rfl⟩:=hop;exact⟨rfl,by rw[(aeB hv).1];exact RS _⟩
theorem BJ (hS:Sound E S)(ops:List Oper)(base:Nat):∀(l:List Nat)(fr:Fr)(σ:au),opsL E S ops base l fr σ=some (fr',σ')->σ.next<=σ'.next:=by
 intro l;induction l with
 |nil=>intro fr σ h;simp only[opsL,iE,aP] at h;rw[h.2];exact RS _|cons i l ih=>
  intro fr σ h;simp only[opsL,iR] at h;obtain⟨⟨bT,σ1⟩,hs,h⟩:=h;refine bZ ?_ (ih _ _ h);unfold nA at hs;split at hs
  ·simp only[iE,aP] at hs;rw[hs.2];exact RS _
  ·simp only[iR] at hs
   obtain⟨t,_,hs⟩:=hs;split at hs
   ·simp only[aZ,aP] at hs
    obtain⟨⟨v,fT,σ2⟩,hop,rfl,rfl⟩:=hs;exact(anK hS hop).2
   ·simp only[iE,aP] at hs;rw[hs.2];exact RS _
theorem Yu (hE:kX E)(hS:Sound E S)(ops:Array Oper)(base:Nat)(hops:xP n ops.toList=true)(ro:Option Nat)(Q:Exit->Act->World->Prop):
 ∀(l:List Nat)(fr:Fr)(σ:au)(K:aV)(w:World)(a:Act),opsL E S ops.toList base l fr σ=some (fr',σ')->l.Nodup->(∀i∈l,i<ops.size)->St E B0 σ K w fr a n ds->base+ops.size<=σ.next->(∀i∈l,¬K.A (base+i))->
  (∀a' K' w',St E B0 σ' K' w' fr' a' n ds->Step E B0 (fun s=>(base<=s/\s<base+ops.size)\/newer σ σ' s) σ K w σ' K' w'->Q .normal a' w')->wpOpsIn (lW ro) 0 E.P ops Q l a w:=by
 intro l;induction l with
 |nil=>intro fr σ K w a hl _ _ hs _ _ hq;simp only[opsL,iE,aP] at hl;obtain⟨rfl,rfl⟩:=hl;exact hq a K w hs (.refl hs.ok)
 |cons i l ih=>
  intro fr σ K w a hl hnd hlt hs hbase Yv hq;simp only[opsL,iR] at hl;obtain⟨⟨bT,σ1⟩,hstep,hl⟩:=hl;have hil:i∉l:=(Ad.1 hnd).1;have hi:i<ops.size:=hlt i aC;have hoi:ops[i]? =some ops[i]:=by simp[hi]
  have anL:ops.toList[i]? =some ops[i]:=by simpa using hoi
  simp only[nA,anL,iR] at hstep;obtain⟨t,hwv,hstep⟩:=hstep;have hw:=anJ hs.fr ops ops[i] (by rw[hs.sz];exact hops) hwv;have hdst:∀t,ops[i].dst=some t->t<n:=by intro t ht;simp only[xP,kM] at hops;have:=hops ops[i] aC;rw[ht] at this;simpa using this
  unfold wpOpsIn;simp only[hoi,hw];split at hstep
  ·rename_i hwt
   simp only[aZ,aP] at hstep;obtain⟨⟨v,fT,σ2⟩,hop,rfl,rfl⟩:=hstep;obtain⟨rfl,hnx,hwp⟩:=anF hE hS hs (Yv i aC) hop;dsimp only at hl;simp only[hwt,if_true];have hA1:∀{K1:aV}{w1:World},Step E B0 (fun s=>s=base+i\/newer σ σ2 s) σ K w σ2 K1 w1->(∀s,K1.A s->s<σ2.next)/\∀j∈l,¬K1.A (base+j):=by
    intro K1 w1 st;refine⟨fun s hsA=>?_,fun j hj anM=>?_⟩
    ·rcases st.A s hsA with h1|h1|h1
     ·have:=hs.st s h1;omega
     ·omega
     ·exact h1.2
    ·have hji:j≠i:=fun e=>hil (e▸hj)
     rcases st.A _ anM with h1|h1|h1
     ·exact Yv j Ez h1
     ·omega
     ·have:=hlt j Ez
      have:=h1.1;omega
   refine hwp _ _ ro (fun c w1 K1 hr st=>?_)
   ·obtain⟨hA2,hA3⟩:=hA1 st
    have hs1:St E B0 σ2 K1 w1 (fT.put ops[i].dst v) (a.put ops[i].dst c) n ds:=hs.put st hr hdst hA2;refine(ih _ _ K1 w1 _ hl (Ad.1 hnd).2 (fun j hj=>hlt j Ez) hs1 ah hA3) (fun a' K' w' hs' st'=>hq a' K' w' hs' ?_);refine(st.mono ?_).trans (st'.mono ?_)
    ·intro s h1
     rcases h1 with h1|h1
     ·exact .inl ⟨ah,ah⟩
     ·exact .inr ⟨h1.1,iq h1.2 (BJ hS _ _ _ _ _ hl)⟩
    ·intro s h1
     rcases h1 with h1|h1
     ·exact .inl h1
     ·exact .inr ⟨bZ hnx h1.1,h1.2⟩
  ·rename_i hwt
   simp only[iE,aP] at hstep;obtain⟨rfl,rfl⟩:=hstep;have hs1:St E B0 σ K w (fr.put ops[i].dst aK) (a.put ops[i].dst undef) n ds:=hs.put (new:=fun _=>False) (.refl hs.ok) (.undef _ _ _) hdst hs.st;have:=ih _ _ K w _ hl (Ad.1 hnd).2 (fun j hj=>hlt j Ez) hs1 hbase (fun j hj=>Yv j Ez);simp only[hwt];exact⟨fun _ _=>trivial,this hq⟩
end
end aY
end
section
namespace aY
open Go
section
variable {X Key:Type}
def Mk (step:Nat->X->Option X):List Nat->X->Option X
 | [],x=>some x|i::l,x=>(step i x).bind (Mk step l)
theorem aeR (n:Nat)(step:Nat->X->Option X)(fF:Key->X->X->Prop)(hrefl:∀k x,fF k x x)(Yw:∀k x y z,fF k x y->fF k y z->fF k x z)(s:Nat->X)(T W:Nat->Key->Prop)(Ml:∀i k,W i k->T i k)(hloc:∀i,i<n->∀x,(∀k,T i k->fF k (s i) x)->∃y,step i x=some y/\(∀k,W i k->fF k (s (i+1)) y)/\(∀k,¬W i k->fF k x y))(hself:∀i,i<n->∀k,¬W i k->fF k (s i) (s (i+1)))(pre:Nat->Nat->Prop)(hap:∀i j,i<n->j<i->pre j i\/((∀k,¬(W i k/\T j k))/\∀k,¬(W j k/\T i k)))(anN:∀k x y,fF k x y->fF k y x):
 ∀(l done:List Nat)(x:X),l.Nodup->(∀i∈l,i<n/\i∉done)->(∀i,i<n->i∈done\/i∈l)->
  (∀l1 i l2,l=l1++i::l2->∀j,pre j i->j∈done\/j∈l1)->(∀i∈done,∀j,pre j i->j∈done)->
  (∀k m,m<=n->(∀j,j<n->W j k->(j∈done↔j<m))->fF k (s m) x)->∃y,Mk step l x=some y/\∀k,fF k (s n) y:=by
 have anO:∀k a b,a<=b->b<=n->(∀j,a<=j->j<b->¬W j k)->fF k (s a) (s b):=by
  intro k a b hab hbn hw;induction b with
  |zero=>obtain rfl:a=0:=ah
         exact hrefl _ _
  |succ b ih=>
   by_cases e:a=b+1
   ·subst e;exact hrefl _ _
   ·exact Yw _ _ _ _ (ih ah ah (fun j h1 h2=>hw j h1 ah)) (hself b ah k (hw b ah ah))
 intro l;induction l with
 |nil=>intro done x _ _ hall _ _ hinv;exact⟨x,rfl,fun k=>hinv k n (RS _) (fun j hj _=>⟨fun _=>hj,fun _=>by rcases hall j hj with h|h;exact h;cases h⟩)⟩
 |cons i l ih=>
  intro done x hnd hmem hall Si hclosed hinv;obtain⟨hin,Yx⟩:=hmem i aC;have hil:i∉l:=(Ad.1 hnd).1;have hpre:∀j,pre j i->j∈done:=fun j hj=>by
   rcases Si [] i l rfl j hj with h|h
   ·exact h
   ·cases h
  have anP:∀k,T i k->fF k (s i) x:=by
   intro k hk;refine hinv k i ah (fun j hj hw=>⟨fun hjd=>?_,fun hji=>?_⟩)
   ·rcases Nat.lt_trichotomy j i with h|h|h
    ·exact h
    ·subst h;exact absurd hjd Yx
    ·rcases hap j i hj h with hp| ⟨h1,_⟩
     ·exact absurd (hclosed j hjd i hp) Yx
     ·exact absurd ⟨hw,hk⟩ (h1 k)
   ·rcases hap i j hin hji with hp| ⟨_,h2⟩
    ·exact hpre j hp
    ·exact absurd ⟨hw,hk⟩ (h2 k)
  obtain⟨y,hy,anQ,hyn⟩:=hloc i hin x anP;have anR:∀k m,m<=n->(∀j,j<n->W j k->(j∈i::done↔j<m))->fF k (s m) y:=by
   intro k m hm hj;by_cases hw:W i k
   ·have him:i<m:=(hj i hin hw).1 aC
    have h1:fF k (s (i+1)) (s m):=by
     refine anO k (i+1) m him hm (fun j h1 h2 Mq=>?_);have hjd:j∈done:=by
      have:=(hj j ah Mq).2 h2;rcases iC.1 this with e|e
      ·omega
      ·exact e
     rcases hap j i ah ah with hp| ⟨h3,_⟩
     ·exact absurd (hclosed j hjd i hp) Yx
     ·exact h3 k ⟨Mq,Ml i k hw⟩
    exact Yw _ _ _ _ (anN _ _ _ h1) (anQ k hw)
   ·refine Yw _ _ _ _ (hinv k m hm (fun j hjn Mq=>?_)) (hyn k hw)
    have hji:j≠i:=fun e=>hw (e▸Mq);rw[<-hj j hjn Mq];simp[hji]
  obtain⟨z,hz,hzn⟩:=ih (i::done) y (Ad.1 hnd).2
   (fun j hj=>⟨(hmem j Ez).1,fun h=>by
     rcases iC.1 h with e|e
     ·exact hil (e▸hj)
     ·exact(hmem j Ez).2 e⟩)
   (fun j hj=>by
     rcases hall j hj with h|h
     ·exact .inl EA
     ·rcases iC.1 h with e|e
      ·exact .inl z8
      ·exact .inr e)
   (fun l1 j l2 hl k hk=>by
     rcases Si (i::l1) j l2 (by rw[hl];rfl) k hk with h|h
     ·exact .inl EA
     ·rcases iC.1 h with e|e
      ·exact .inl z8
      ·exact .inr e)
   (fun j hj k hk=>by
     rcases iC.1 hj with e|e
     ·subst e;simp[hpre k hk]
     ·simp[hclosed j e k hk])
   anR
  exact⟨z,by simp[Mk,hy,hz],hzn⟩
end
section
variable {E:Env}{S:l5}{fr fr':Fr}{σ σ':au}
theorem anS {st:Nat}{o:Oper}(h:∀x∈o.op.operands.toList,fr'.ev E x=fr.ev E x)(hd:fr'.d=fr.d)(bK:fr'.aj=fr.aj):eP E fr' σ st o=eP E fr σ st o:=by
 cases ho:o.op;all_goals
  rw[ho] at h;unfold eP;simp only[ho]
 all_goals try (simp only[hd];done)
 case move x=>simp only[h x (show x∈[x] from iX.2 rfl),hd]
 case assign x=>simp only[h x (show x∈[x] from iX.2 rfl),hd]
 case pick c x y=>simp only[h c (show c∈[c,x,y] from fE),h x (show x∈[c,x,y] from iK _ fE),h y (show y∈[c,x,y] from iK _ (iK _ fE)),hd]
 case box t x=>simp only[h x (show x∈[x] from iX.2 rfl),hd]
 case load t x=>simp only[h x (show x∈[x] from iX.2 rfl),hd]
 case nilCheck x=>simp only[h x (show x∈[x] from iX.2 rfl),hd]
 case unOp u t x=>simp only[h x (show x∈[x] from iX.2 rfl),hd]
 case convert t u x=>simp only[h x (show x∈[x] from iX.2 rfl),hd]
 case sliceToArrayPointer t x=>simp only[h x (show x∈[x] from iX.2 rfl),hd]
 case typeAssert x t u ok=>simp only[h x (show x∈[x] from iX.2 rfl),hd]
 case makeInterface t x=>simp only[h x (show x∈[x] from iX.2 rfl),hd]
 case fieldAddr t x f=>simp only[h x (show x∈[x] from iX.2 rfl),hd]
 case field t x f=>simp only[h x (show x∈[x] from iX.2 rfl),hd]
 case extract x f=>simp only[h x (show x∈[x] from iX.2 rfl),hd]
 case store t x y=>simp only[h x (show x∈[x,y] from fE),h y (show y∈[x,y] from iK _ fE),hd,bK]
 case binOp b t x y u=>simp only[h x (show x∈[x,y] from fE),h y (show y∈[x,y] from iK _ fE),hd,bK]
 case makeSlice t x y=>simp only[h x (show x∈[x,y] from fE),h y (show y∈[x,y] from iK _ fE),hd,bK]
 case indexAddr t x y=>simp only[h x (show x∈[x,y] from fE),h y (show y∈[x,y] from iK _ fE),hd,bK]
 case index t x y=>simp only[h x (show x∈[x,y] from fE),h y (show y∈[x,y] from iK _ fE),hd,bK]
 case lookup t x y ok=>simp only[h x (show x∈[x,y] from fE),h y (show y∈[x,y] from iK _ fE),hd,bK]
 case mapUpdate t x y z=>simp only[h x (show x∈[x,y,z] from fE),h y (show y∈[x,y,z] from iK _ fE),h z (show z∈[x,y,z] from iK _ (iK _ fE)),hd]
 case insert t x y z=>simp only[h x (show x∈[x,y,z] from fE),h y (show y∈[x,y,z] from iK _ fE),h z (show z∈[x,y,z] from iK _ (iK _ fE)),hd]
 case build t parts=>
  have:(parts.toList.map fun (i,x)=>(i,fr'.ev E x))=parts.toList.map fun (i,x)=>(i,fr.ev E x):=by refine ED (fun p hp=>?_);show (p.1,fr'.ev E p.2)=(p.1,fr.ev E p.2);rw[h p.2 (show p.2∈parts.toList.map (·.2) from EF.2 ⟨p,hp,rfl⟩)]
  simp only[this]
 case buildSlice t len parts=>
  have:(parts.toList.map fun (i,x)=>(i,fr'.ev E x))=parts.toList.map fun (i,x)=>(i,fr.ev E x):=by refine ED (fun p hp=>?_);show (p.1,fr'.ev E p.2)=(p.1,fr.ev E p.2);rw[h p.2 (show p.2∈parts.toList.map (·.2) from EF.2 ⟨p,hp,rfl⟩)]
  simp only[this,hd]
 case makeFunc fn a b=>
  have h1:a.toList.map (fr'.ev E)=a.toList.map (fr.ev E):=ED (fun x hx=>h x (show x∈(a++b).toList by simp at hx⊢;exact .inl hx));have h2:b.toList.map (fr'.ev E)=b.toList.map (fr.ev E):=ED (fun x hx=>h x (show x∈(a++b).toList by simp at hx⊢;exact .inr hx));cases fn<;>first|rfl|simp only[h1,h2]
 case makeMap t r=>cases r<;>simp only[hd]
 case slice t x lo hi mx=>
  have h0:∀y,y=x\/lo=some y\/hi=some y\/mx=some y->fr'.ev E y=fr.ev E y:=fun y hy=>h y (show y∈(#[x]++lo.toArray++hi.toArray++mx.toArray).toList by rcases hy with rfl|rfl|rfl|rfl<;>simp);have hx:fr'.ev E x=fr.ev E x:=h0 x (.inl rfl);have h1:p9 E fr' lo=p9 E fr lo:=by
   cases lo with
   |none=>rfl|some y=>simp only[p9];rw[h0 y aC]
  have h2:p9 E fr' hi=p9 E fr hi:=by
   cases hi with
   |none=>rfl|some y=>simp only[p9];rw[h0 y aC]
  have h3:p9 E fr' mx=p9 E fr mx:=by
   cases mx with
   |none=>rfl|some y=>simp only[p9];rw[h0 y aC]
  simp only[hx,h1,h2,h3]
theorem anT {st:Nat}{o:Oper}(h:∀x∈o.op.operands.toList,fr'.ev E x=fr.ev E x)(hd:fr'.d=fr.d)(bK:fr'.aj=fr.aj):
 opC E S fr' σ st o=(opC E S fr σ st o).map fun (v,_,σ1)=>(v,fr',σ1):=by
 cases ho:o.op;case call c=>
  have h:∀x∈c.operands.toList,fr'.ev E x=fr.ev E x:=by rw[ho] at h;exact h
  unfold opC;simp only[ho];have hargs:c.args.toList.map (fr'.ev E)=c.args.toList.map (fr.ev E):=ED (fun x hx=>h x (by simp[Call.operands] at hx⊢;exact .inr hx));split
  ·simp only[hargs,hd,bK]
   cases qg E fr.aj (o.dst.map fun t=>(fr.d,E.cn t)) σ st _ c.argTypes (c.args.toList.map (fr.ev E))<;>rfl
  ·rename_i f hc
   have hf:fr'.ev E f=fr.ev E f:=h f (by simp[Call.operands,hc]);have fZ:lI E fr' o f=lI E fr o f:=by unfold lI;rw[hf]
   simp only[hargs,hd,hf,fZ];cases lI E fr o f
   ·cases lH E S fr.d (o.dst.map E.cn) σ (fr.ev E f) (c.args.toList.map (fr.ev E))<;>rfl
   ·cases qX E S σ st (o.dst.map fun t=>(fr.d,E.cn t)) (fr.ev E f) (c.args.toList.map (fr.ev E))<;>rfl
  ·rfl
 case defer=>unfold opC;simp only[ho];rfl
 all_goals
  have:=anS (σ:=σ) (st:=st) h hd bK;unfold opC;simp only[ho];rw[this];cases eP E fr σ st o<;>rfl
theorem EU {loc:Loc}{s:Nat}(h:σ'.obj loc=σ.obj loc):σ'.dB loc s=σ.dB loc s:=by simp only[au.dB,h]
theorem Yy {loc:Loc}{s:Nat}(h:σ'.obj loc=σ.obj loc):σ'.jw loc s=σ.jw loc s:=by simp only[au.jw,h]
def iL (σ σ':au)(k:Key):Prop:=match k with
 |.obj l=>σ'.obj l=σ.obj l|.top=>σ'.top=σ.top|_=>True
def Reads (σ σ':au)(r r':Option (V×au)):Prop:=∀v σ1,r=some (v,σ1)->σ1=σ/\r'=some (v,σ')
theorem pq {v:V}:Reads σ σ' (some (v,σ)) (some (v,σ')):=fun v σ1 h=>by
 simp only[iE,aP] at h;exact⟨h.2.symm,by rw[h.1]⟩
theorem qm {α:Type}{r:Option α}(f:α->V):Reads σ σ' (r.map fun v=>(f v,σ)) (r.map fun v=>(f v,σ')):=by
 cases r with
 |none=>intro v σ1 h;cases h|some x=>exact pq
theorem wu {r:Option (V×au)}:Reads σ σ' none r:=fun _ _ h=>bC
theorem Dj {α:Type}{r:Option α}{f g:α->Option (V×au)}(h:∀x,Reads σ σ' (f x) (g x)):Reads σ σ' (r.bind f) (r.bind g):=by
 cases r with
 |none=>exact wu|some x=>exact h x
theorem Sj {c:Prop}[Decidable c]{r r' s s':Option (V×au)}(h1:Reads σ σ' r r')(h2:Reads σ σ' s s'):Reads σ σ' (if c then r else s) (if c then r' else s'):=by split<;>assumption
theorem anU {src dst:TypeId}{x:V}(h:∀k∈jf x,iL σ σ' k):CV E.P σ' src dst x=CV E.P σ src dst x:=by
 unfold CV;generalize E.P.underlying src=u1;generalize E.P.underlying dst=u2;cases u1 with
 |none=>cases x<;>cases u2<;>rfl|some d1=>
  cases u2 with
  |none=>cases x<;>cases d1<;>rfl|some d2=>
   cases x with
   |aJ loc s off len cap bS ag=>have h1:σ'.obj loc=σ.obj loc:=h (.obj loc) CF;cases d2<;>cases d1<;>first|rfl|simp only[EU h1]
   |_=>cases d2<;>first|rfl| (cases d1<;>rfl)
theorem anV {t:TypeId}{x:V}{lo hi mx:Option V}(h:∀k∈jf x,iL σ σ' k):xI E.P σ' t x lo hi mx=xI E.P σ t x lo hi mx:=by
 unfold xI;generalize E.P.underlying t=u1;cases u1 with
 |none=>cases x<;>rfl|some d1=>
  cases x with
  |ref loc s off=>have h1:σ'.obj loc=σ.obj loc:=h (.obj loc) CF;cases d1<;>first|rfl|simp only[EU h1]
  |_=>cases d1<;>rfl
theorem anW {t:TypeId}{x k:V}{ok:Bool}(h:∀k∈jf x,iL σ σ' k):EJ E.P σ' t x k ok=EJ E.P σ t x k ok:=by
 unfold EJ;cases x with
 |dJ loc s=>have h1:σ'.obj loc=σ.obj loc:=h (.obj loc) CF;simp only[Yy h1]|_=>rfl
theorem anX {t:TypeId}{x:V}(h:∀k∈jf x,iL σ σ' k):vV E σ' t x=vV E σ t x:=by
 unfold vV;generalize E.P.underlying t=u1;cases u1 with
 |none=>cases x<;>rfl|some d1=>
  cases x with
  |dJ loc s=>have h1:σ'.obj loc=σ.obj loc:=h (.obj loc) CF;cases d1<;>first|rfl|simp only[Yy h1]
  |_=>cases d1<;>rfl
theorem aeS {ag:Bool}{sz:Nat}{z x:V}(h:∀k∈jf x,iL σ σ' k):tO σ' ag sz z x=tO σ ag sz z x:=by
 unfold tO;cases x with
 |aJ loc s off len cap bS ag=>have h1:σ'.obj loc=σ.obj loc:=h (.obj loc) CF;simp only[EU h1]|_=>rfl
def Local (W:Key->Prop)(σ σ':au)(r r':Option (V×au)):Prop:=
 ∀v σ1,r=some (v,σ1)->∃y8,r'=some (v,y8)/\uX σ σ1/\uX σ' y8/\(∀k,W k->iL σ1 y8 k)/\(∀k,¬W k->iL σ σ1 k)/\∀k,¬W k->iL σ' y8 k
theorem iL.refl (σ:au)(k:Key):iL σ σ k:=by cases k<;>simp[iL]
theorem iL.chain {σ1 y8:au}{k:Key}(h:iL σ σ' k)(h1:iL σ σ1 k)(h2:iL σ' y8 k):iL σ1 y8 k:=by
 cases k with
 |obj l=>exact Eq.trans (show y8.obj l=σ'.obj l from h2) (Eq.trans (show σ'.obj l=σ.obj l from h) (show σ1.obj l=σ.obj l from h1).symm)|top=>exact Eq.trans (show y8.top=σ'.top from h2) (Eq.trans (show σ'.top=σ.top from h) (show σ1.top=σ.top from h1).symm)|slot t=>trivial|rest=>trivial|nx=>trivial
theorem Reads.local {r r':Option (V×au)}(h:Reads σ σ' r r'):Local (fun k=>k∈([]:List Key)) σ σ' r r':=fun v σ1 hr=>by
 obtain⟨h1,h2⟩:=h v σ1 hr;subst h1;exact⟨σ',h2,.refl _,.refl _,fun k hk=>absurd hk (List.not_mem_nil),fun k _=>.refl _ _,fun k _=>.refl _ _⟩
theorem Local.mono {W W':Key->Prop}{r r':Option (V×au)}(h:Local W σ σ' r r')(hW:∀k,W k->W' k)(hT:∀k,W' k->iL σ σ' k):Local W' σ σ' r r':=fun v σ1 hr=>by
 obtain⟨y8,h1,h2,h3,h4,h5,h6⟩:=h v σ1 hr;refine⟨y8,h1,h2,h3,fun k hk=>?_,fun k hk=>h5 k (fun hw=>hk (hW k hw)),fun k hk=>h6 k (fun hw=>hk (hW k hw))⟩;by_cases hw:W k
 ·exact h4 k hw
 ·exact(hT k hk).chain (h5 k hw) (h6 k hw)
theorem aeT {loc:Loc}{st:Nat}{ob:jo}{k:Key}(hk:k∉[Key.obj loc]):iL σ (σ.setObj loc st ob) k:=by
 cases k with
 |obj l=>have:l≠loc:=fun e=>hk z8;show upd σ.obj loc _ l=σ.obj l;simp[upd,this]
 |top=>rfl|slot t=>trivial|rest=>trivial|nx=>trivial
theorem aeU {s n:Nat}{k:Key}(hk:k∉[Key.top]):iL σ (σ.dZ s n) k:=by
 cases k with
 |obj l=>rfl|top=>exact absurd aC hk|slot t=>trivial|rest=>trivial|nx=>trivial
theorem Ar {loc:Loc}{st:Nat}{ob:jo}{v:V}:Local (fun k=>k∈[Key.obj loc]) σ σ' (some (v,σ.setObj loc st ob)) (some (v,σ'.setObj loc st ob)):=fun v1 σ1 h=>by
 simp only[iE,aP] at h;obtain⟨rfl,rfl⟩:=h;refine⟨_,rfl,⟨rfl,rfl⟩,⟨rfl,rfl⟩,fun k hk=>?_,fun k hk=>aeT hk,fun k hk=>aeT hk⟩;obtain rfl:k= .obj loc:=vP
 show upd σ'.obj loc _ loc=upd σ.obj loc _ loc;simp[upd]
theorem dQ {W:Key->Prop}{r:Option (V×au)}:Local W σ σ' none r:=fun _ _ h=>bC
theorem jT {W:Key->Prop}{α:Type}{r:Option α}{f g:α->Option (V×au)}(h:∀x,Local W σ σ' (f x) (g x)):Local W σ σ' (r.bind f) (r.bind g):=by
 cases r with
 |none=>exact dQ|some x=>exact h x
theorem mJ {W:Key->Prop}{c:Prop}[Decidable c]{r r' s s':Option (V×au)}(h1:Local W σ σ' r r')(h2:Local W σ σ' s s'):Local W σ σ' (if c then r else s) (if c then r' else s'):=by split<;>assumption
theorem Ie (ht:σ'.top=σ.top){s n:Nat}{v:V}:Local (fun k=>k∈[Key.top]) σ σ' (some (v,σ.dZ s n)) (some (v,σ'.dZ s n)):=fun v1 σ1 h=>by
 simp only[iE,aP] at h;obtain⟨rfl,rfl⟩:=h;refine⟨_,rfl,⟨rfl,rfl⟩,⟨rfl,rfl⟩,fun k hk=>?_,fun k hk=>aeU hk,fun k hk=>aeU hk⟩;obtain rfl:k= .top:=vP
 show upd σ'.top s n=upd σ.top s n;rw[ht]
theorem aeV {W:Key->Prop}{α:Type}{r:Option α}{f g:α->V×au}(h:∀x,Local W σ σ' (some (f x)) (some (g x))):Local W σ σ' (r.map f) (r.map g):=by
 cases r with
 |none=>exact dQ|some x=>exact h x
theorem aeW {t:TypeId}{m k v:V}(h:∀q∈jf m,iL σ σ' q):
 Local (fun q=>q∈jf m) σ σ' ((Bz E.P σ t m k v).map fun σ=>(aK,σ)) ((Bz E.P σ' t m k v).map fun σ=>(aK,σ)):=by
 unfold Bz;cases G8 E.P t with
 |none=>exact dQ|some p=>
  simp only[Option.bind_some];split
  ·cases m with
   |dJ loc s=>
    have h1:σ'.obj loc=σ.obj loc:=h (.obj loc) CF;simp only[Yy h1];cases σ.jw loc s with
    |none=>exact dQ|some q=>simp only[Option.bind_some,Option.map_map];exact aeV (fun x=>Ar)
   |_=>exact dQ
  ·exact dQ
theorem anY {fr:Fr}{st:Nat}{o:Oper}{t:TypeId}{l c:V}(h:∀q∈Key.top::vY fr o,iL σ σ' q):
 Local (fun q=>q∈Key.top::vY fr o) σ σ' (BA E.P fr.aj σ st (o.dst.map fun t=>(fr.d,t)) t l c) (BA E.P fr.aj σ' st (o.dst.map fun t=>(fr.d,t)) t l c):=by
 unfold BA;refine jT (fun e=>jT (fun sz=>jT (fun iF=>jT (fun z=>jT (fun n=>jT (fun m=>mJ (mJ ?_ ?_) dQ))))))
 ·exact(Ie (h .top aC)).mono (fun k hk=>by simp at hk;simp[hk]) h
 ·cases hd:o.dst with
  |none=>exact dQ|some d=>simp only[Option.map_some,Option.bind_some];exact aeV (fun ag=>Ar.mono (fun k hk=>by simp at hk;simp[hk,vY,hd]) (by simpa [vY,hd] using h))
theorem Yz {zeros:Bool}{st:Nat}{loc:Option Loc}{t:TypeId}{x y:V}(hy:∀q∈jf y,iL σ σ' q)(ht:σ'.top=σ.top):
 Local (fun q=>q∈[Key.top]) σ σ' (mI E.P false zeros σ st loc t x y) (mI E.P false zeros σ' st loc t x y):=by
 unfold mI;refine jT (fun e=>jT (fun sz=>jT (fun iF=>jT (fun ag=>jT (fun z=>mJ ?_ dQ)))));rw[aeS hy];refine jT (fun ys=>mJ ?_ dQ);cases x with
 |ay c l=>
  simp only;refine mJ ?_ dQ;cases c with
  |own n s=>simp only[ht];exact mJ (Ie ht) dQ|nil=>exact Ie ht|full=>exact Ie ht|sh=>exact dQ
 |aJ jO s off len cap bS ER=>simp only[dO,false_and,and_false,if_false];exact dQ|_=>exact dQ
theorem anZ {loc loc':Loc}{st:Nat}{ob:jo}{v:V}:Local (fun k=>k∈[Key.obj loc,Key.obj loc']) σ σ' (some (v,(σ.eG loc').setObj loc st ob)) (some (v,(σ'.eG loc').setObj loc st ob)):=fun v1 σ1 h=>by
 simp only[iE,aP] at h;obtain⟨rfl,rfl⟩:=h;have key:∀(σ:au)(k:Key),k∉[Key.obj loc,Key.obj loc']->iL σ ((σ.eG loc').setObj loc st ob) k:=by
  intro σ k hk;cases k with
  |obj l=>have h1:l≠loc:=fun e=>hk z8;have h2:l≠loc':=fun e=>hk z8;show upd (upd σ.obj loc' none) loc _ l=σ.obj l;simp[upd,h1,h2]
  |top=>rfl|slot t=>trivial|rest=>trivial|nx=>trivial
 refine⟨_,rfl,⟨rfl,rfl⟩,⟨rfl,rfl⟩,fun k hk=>?_,fun k hk=>key _ k hk,fun k hk=>key _ k hk⟩;rcases iC.1 hk with rfl|hk
 ·show upd (upd σ'.obj loc' none) loc _ loc=upd (upd σ.obj loc' none) loc _ loc
  simp[upd]
 ·obtain rfl:k= .obj loc':=vP
  show upd (upd σ'.obj loc' none) loc _ loc'=upd (upd σ.obj loc' none) loc _ loc';by_cases h:loc'=loc
  ·simp[upd,h]
  ·simp[upd,h]
theorem YA {zeros:Bool}{st:Nat}{loc:Option Loc}{t:TypeId}{x y:V}{W:List Key}(hx:∀q∈jf x,q∈W)(hl:∀l,loc=some l->Key.obj l∈W)(hy:∀q∈jf y,iL σ σ' q)(hW:∀q∈W,iL σ σ' q):
 Local (fun q=>q∈W) σ σ' (mI E.P true zeros σ st loc t x y) (mI E.P true zeros σ' st loc t x y):=by
 have hs:∀v:V,Local (fun q=>q∈W) σ σ' (some (v,σ)) (some (v,σ')):=fun v=>(pq (σ:=σ) (σ':=σ')).local.mono (fun k hk=>EB) hW;unfold mI;refine jT (fun e=>jT (fun sz=>jT (fun iF=>jT (fun ag=>jT (fun z=>mJ ?_ dQ)))));rw[aeS hy];refine jT (fun ys=>mJ ?_ dQ);cases x with
 |ay c l=>
  simp only;refine mJ ?_ dQ;cases c with
  |own n s=>exact dQ|nil=>cases loc with
   |none=>exact dQ|some loc=>exact Ar.mono (fun k hk=>by rw[iX.1 hk];exact hl _ rfl) hW
  |full=>
   refine mJ (hs _) ?_;cases loc with
   |none=>exact dQ|some loc=>exact Ar.mono (fun k hk=>by rw[iX.1 hk];exact hl _ rfl) hW
  |sh=>exact dQ
 |aJ jO s off len cap bS ER=>
  have h0:Key.obj jO∈W:=hx _ CF;simp only;refine mJ ?_ dQ;cases loc with
  |none=>exact dQ|some loc=>
   simp only[Option.bind_some];rw[EU (show σ'.obj jO=σ.obj jO from hW _ h0)];refine jT (fun cs=>mJ (mJ ?_ dQ) (mJ ?_ dQ))
   ·exact Ar.mono (fun k hk=>by rw[iX.1 hk];exact h0) hW
   ·refine anZ.mono (fun k hk=>?_) hW
    rcases iC.1 hk with rfl|hk
    ·exact hl _ rfl
    ·rw[iX.1 hk];exact h0
 |_=>exact dQ
theorem Sk {aj:Bool}{loc:Option Loc}{st:Nat}{b:Builtin}{tys:Array TypeId}{args:List V}(hb:b= .len\/b= .cap\/b= .min\/b= .max)(h:∀x∈args,∀q∈jf x,iL σ σ' q):
 Reads σ σ' (qg E aj loc σ st b tys args) (qg E aj loc σ' st b tys args):=by
 rcases hb with rfl|rfl|rfl|rfl
 ·rcases args with _| ⟨x,_| ⟨y,l⟩⟩
  ·exact wu
  ·refine Dj (fun t=>?_)
   rw[anX (h x aC)];exact qm _
  ·exact wu
 ·rcases args with _| ⟨x,_| ⟨y,l⟩⟩
  ·exact wu
  ·refine Dj (fun t=>Dj (fun e=>?_))
   cases x with
   |ay c l=>cases c<;>first|exact pq|exact wu
   |_=>exact wu
  ·exact wu
 ·rcases args with _| ⟨x,l⟩
  ·exact wu
  ·exact qm _
 ·rcases args with _| ⟨x,l⟩
  ·exact wu
  ·exact qm _
theorem an0 {loc:Option Loc}{st:Nat}{tys:Array TypeId}{args:List V}(h:∀x∈args,∀q∈jf x,iL σ σ' q)(ht:σ'.top=σ.top):
 Local (fun q=>q∈[Key.top]) σ σ' (qg E false loc σ st .append tys args) (qg E false loc σ' st .append tys args):=by
 rcases args with _| ⟨x,_| ⟨y,_| ⟨z,l⟩⟩⟩
 ·exact dQ
 ·exact dQ
 ·refine jT (fun t=>jT (fun u=>?_))
  split
  ·exact Yz (h y aC) ht
  ·exact Yz (h y aC) ht
  ·exact Yz (h y aC) ht
  ·exact dQ
 ·exact dQ
theorem an1 {loc:Option Loc}{st:Nat}{tys:Array TypeId}{args:List V}{W:List Key}(hx:∀x∈args,∀q∈jf x,q∈W)(hl:∀l,loc=some l->Key.obj l∈W)(hW:∀q∈W,iL σ σ' q):
 Local (fun q=>q∈W) σ σ' (qg E true loc σ st .append tys args) (qg E true loc σ' st .append tys args):=by
 rcases args with _| ⟨x,_| ⟨y,_| ⟨z,l⟩⟩⟩
 ·exact dQ
 ·exact dQ
 ·have h1:∀q∈jf x,q∈W:=hx x aC
  have h2:∀q∈jf y,iL σ σ' q:=fun q hq=>hW q (hx y aC q hq);refine jT (fun t=>jT (fun u=>?_));split
  ·exact YA h1 hl h2 hW
  ·exact YA h1 hl h2 hW
  ·exact YA h1 hl h2 hW
  ·exact dQ
 ·exact dQ
end
section
variable {E:Env}{S:l5}{fr fr':Fr}{σ σ':au}
theorem aeX {loc:Loc}{k:Key}(hk:k∉[Key.obj loc]):iL σ (σ.eG loc) k:=by
 cases k with
 |obj l=>have:l≠loc:=fun e=>hk z8;show upd σ.obj loc none l=σ.obj l;simp[upd,this]
 |top=>rfl|slot t=>trivial|rest=>trivial|nx=>trivial
theorem an2 {loc:Loc}{v:V}:Local (fun k=>k∈[Key.obj loc]) σ σ' (some (v,σ.eG loc)) (some (v,σ'.eG loc)):=fun v1 σ1 h=>by
 simp only[iE,aP] at h;obtain⟨rfl,rfl⟩:=h;refine⟨_,rfl,⟨rfl,rfl⟩,⟨rfl,rfl⟩,fun k hk=>?_,fun k hk=>aeX hk,fun k hk=>aeX hk⟩;obtain rfl:k= .obj loc:=vP
 show upd σ'.obj loc none loc=upd σ.obj loc none loc;simp[upd]
theorem an3 {x:V}(h:∀k,k∈jf x->iL σ σ' k):Local (fun k=>k∈jf x) σ σ' (yS σ x) (yS σ' x):=by
 cases x with
 |aJ loc s off len cap bS ag=>have h1:σ'.obj loc=σ.obj loc:=h (.obj loc) CF;simp only[yS,EU h1];exact jT (fun cs=>mJ an2 dQ)
 |_=>exact pq.local.mono (fun k hk=>EB) h
theorem an4 {st:Nat}{o:Oper}(hc:∀c,o.op≠ .call c)(hw:(jq E fr o).oZ=false)(h:∀k,k∈(jq E fr o).t\/k∈(jq E fr o).w->iL σ σ' k):
 Local (fun k=>k∈(jq E fr o).w) σ σ' (eP E fr σ st o) (eP E fr σ' st o):=by
 cases ho:o.op<;>simp only[jq,ho,gP,reduceCtorEq,Bool.true_eq_false] at hw;case call c=>exact absurd ho (hc c)
 all_goals
  simp only[jq,ho,nV,mX] at h;simp only[jq,ho,nV,mX];unfold eP;simp only[ho]
 case move x=>
  by_cases hz:Ak E o.dst=true
  ·simp only[hz,if_true] at h⊢
   exact an3 (fun k hk=>h k (.inr hk))
  ·simp only[hz,dO,if_false]
   exact pq.local
 case assign=>exact pq.local
 case pick=>exact(qm _).local
 case alloc t=>
  cases hd:o.dst with
  |none=>exact dQ|some d=>simp only[Option.map_some,Option.bind_some,vY,hd];exact jT (fun z=>mJ Ar dQ)
 case box t x=>
  by_cases hz:LD E t o.dst=true
  ·simp only[hz,if_true]
   exact(Sj pq wu).local.mono (fun k hk=>EB) (fun k hk=>h k (.inr hk))
  ·simp only[hz,dO,if_false]
   cases hd:o.dst with
   |none=>exact dQ|some d=>simp only[Option.map_some,Option.bind_some,vY,hd];exact mJ Ar dQ
 case build t parts=>exact(Dj (fun _=>Dj (fun _=>qm _))).local
 case buildSlice t len parts=>
  by_cases hz:EL E o.dst=true
  ·simp[hz,gP] at hw
  ·simp only[hz,dO,if_false]
   exact(qm _).local.mono (fun k hk=>EB) (fun k hk=>EB)
 case load t a=>
  cases hx:fr.ev E a with
  |ref loc s off=>have h1:σ'.obj loc=σ.obj loc:=h (.obj loc) (by simp[hx,jf]);simp only[EU h1];exact(Dj (fun _=>qm _)).local
  |aI cs off=>exact(qm _).local|_=>exact dQ
 case store t a x=>
  cases hx:fr.ev E a with
  |ref loc s off=>have h1:σ'.obj loc=σ.obj loc:=h (.obj loc) (by simp[hx,jf]);simp only[EU h1];exact jT (fun _=>mJ Ar dQ)
  |_=>exact dQ
 case nilCheck x=>
  cases hx:fr.ev E x with
  |ref loc s off=>exact pq.local|aI cs off=>exact pq.local|fn f a b=>cases f<;>first|exact pq.local|exact dQ
  |_=>exact dQ
 case binOp=>exact(qm _).local
 case unOp=>exact(qm _).local
 case convert a b x=>rw[anU (fun k hk=>h k (.inl hk))];exact(qm _).local
 case sliceToArrayPointer t x=>
  refine jT (fun p=>?_);cases hx:fr.ev E x with
  |aJ loc s off len cap bS ag=>exact(Sj pq wu).local|ay c l=>exact(Sj pq wu).local|_=>exact dQ
 case typeAssert=>exact(qm _).local
 case makeInterface t x=>
  split
  ·exact dQ
  ·exact pq.local
  ·exact dQ
 case makeFunc f a b=>cases f<;>first|exact pq.local|exact dQ
 case makeMap t r=>
  cases r with
  |some _=>exact dQ|none=>
   cases hd:o.dst with
   |none=>exact dQ|some d=>simp only[Option.map_some,vY,hd];exact Ar
 case makeSlice t l c=>exact anY (fun q hq=>h q (.inr hq))
 case slice t x lo hi mx=>rw[anV (fun k hk=>h k (.inl hk))];exact(qm _).local
 case fieldAddr t x f=>
  refine jT (fun p=>?_);cases hx:fr.ev E x with
  |ref loc s off=>exact pq.local|aI cs off=>exact pq.local|_=>exact dQ
 case field t x f=>
  refine jT (fun p=>?_);cases hx:fr.ev E x with
  |agg cs=>exact(qm _).local|_=>exact dQ
 case indexAddr=>exact(qm _).local
 case index=>exact(qm _).local
 case lookup t x i ok=>rw[anW (fun k hk=>h k (.inl hk))];exact(qm _).local
 case mapUpdate t m k v=>exact aeW (fun q hq=>h q (.inr hq))
 case insert t m k v=>exact aeW (fun q hq=>h q (.inr hq))
 case extract x i=>
  cases hx:fr.ev E x with
  |bq vs=>exact(qm _).local|_=>exact dQ
theorem Mr {α β:Type}{f g:α->Option β}:∀{l:List α},(∀x∈l,f x=g x)->l.mapM f=l.mapM g
 | [],_=>rfl|a::l,h=>by simp only[jL];rw[h a aC,Mr (fun x hx=>h x zZ)]
theorem YB {n:Nat}{x:V}(hp:aU x=true):bn n σ' x=bn n σ x:=by
 cases n with
 |zero=>rfl|succ n=>unfold bn;simp only[hp,if_true]
theorem aeY {l:List V}{x:V}(h:x∈l):∃i,∃hi:i<l.length,x=l[i]:=by obtain⟨i,hi,e⟩:=GY.1 h;exact⟨i,hi,e.symm⟩
theorem aeZ {n:Nat}{c:Cap}{l:List V}(hp:bN l=true):bn n σ' (.ay c l)=bn n σ (.ay c l):=by
 cases n with
 |zero=>rfl|succ n=>
  unfold bn;split
  ·rfl
  ·simp only
   rw[Mr (fun x hx=>?_)];obtain⟨i,hi,rfl⟩:=aeY hx;exact YB (Mg hp hi)
theorem an5 {n:Nat}{x:V}(hp:aU (eD x)=true):bn n σ' x=bn n σ x:=by
 cases x with
 |ay c l=>exact aeZ (by simpa [eD,aU] using hp)|_=>exact YB hp
theorem ae0 {n:Nat}{x:V}(hp:aU (er x)=true):bn n σ' x=bn n σ x:=by
 cases x with
 |ay c l=>exact aeZ Rv|agg cs=>
  have hp':bN (cs.map eD)=true:=Rv
  cases n with
  |zero=>rfl|succ n=>
   unfold bn;split
   ·rfl
   ·simp only
    rw[Mr (fun x hx=>?_)];obtain⟨i,hi,rfl⟩:=aeY hx;refine an5 ?_;have:=Mg hp' (i:=i) jI;simpa using this
 |_=>exact YB hp
theorem an6 {d:Nat}{dst:Option Nat}{g:FuncId}{a b args:List V}(hi:E.imp g=false)(hp:(a++args++b).all (fun v=>aU (er v))=true):
 Reads σ σ' (lH E S d dst σ (.fn (.func g) a b) args) (lH E S d dst σ' (.fn (.func g) a b) args):=by
 unfold lH;simp only[hi,dO,if_false];rw[Mr (f:=bn 20 σ') (g:=bn 20 σ) (fun x hx=>ae0 (by simp only[kM] at hp;exact hp x hx))];exact Dj (fun bQ=>Dj (fun v=>Sj pq wu))
theorem an7 {d:Nat}{dst:Option Nat}{g:FuncId}{a b args:List V}(hi:E.imp g=false){v:V}{σ1:au}(h:lH E S d dst σ (.fn (.func g) a b) args=some (v,σ1)):σ1=σ:=by
 unfold lH at h;simp only[hi,dO,if_false,iR] at h;obtain⟨_,_,_,_,h⟩:=h;split at h
 ·simp only[iE,aP] at h;exact h.2.symm
 ·simp at h
theorem fF.refl (k:Key)(x:Fr×au):fF k x x:=by cases k<;>simp[fF]
theorem fF.symm {k:Key}{x y:Fr×au}(h:fF k x y):fF k y x:=by
 cases k with
 |slot t=>exact Eq.symm h|obj l=>exact Eq.symm h|top=>exact Eq.symm h|rest=>exact⟨h.1.symm,h.2.symm⟩|nx=>exact⟨h.1.symm,h.2.symm⟩
theorem fF.trans {k:Key}{x y z:Fr×au}(h:fF k x y)(g:fF k y z):fF k x z:=by
 cases k with
 |slot t=>exact Eq.trans h g|obj l=>exact Eq.trans h g|top=>exact Eq.trans h g|rest=>exact⟨h.1.trans g.1,h.2.trans g.2⟩|nx=>exact⟨h.1.trans g.1,h.2.trans g.2⟩
theorem fF.all {x y:Fr×au}(h:∀k,fF k x y):x=y:=by obtain⟨⟨d,aj,tm⟩,⟨nx,top,obj,lp⟩⟩:=x;obtain⟨⟨d',aBo,tm'⟩,⟨nx',top',Ms,ae1⟩⟩:=y;obtain⟨h1,h2⟩:=h .rest;obtain⟨h3,h4⟩:=h .nx;have h5:top=top':=h .top;have h6:obj=Ms:=funext fun l=>h (.obj l);have h7:tm=tm':=funext fun t=>h (.slot t);simp only at h1 h2 h3 h4;subst h1 h2 h3 h4 h5 h6 h7;rfl
def dS.T (f:dS)(k:Key):Prop:=k= .rest\/k∈f.t\/k∈f.w\/((f.tT=true\/f.oZ=true)/\k.state=true)
def dS.W (f:dS)(k:Key):Prop:=k∈f.w\/(f.oZ=true/\k.state=true)
theorem dS.ae2 {f:dS}{k:Key}(h:f.W k):f.T k:=by
 rcases h with h| ⟨h,h1⟩
 ·exact .inr (.inr (.inl h))
 ·exact .inr (.inr (.inr ⟨.inr h,h1⟩))
end
theorem ae3 {α:Type}{p q:α->Bool}{a:α}:∀{l:List α},(∀x,q x=true->p x=true)->a∈l->p a=true->q a=false->l.countP q<l.countP p
 | [],_,h,_,_=>bC|x::l,YC,hm,hp,hq=>by
  rw[List.countP_cons,List.countP_cons];have hle:l.countP q<=l.countP p:=List.countP_mono_left (fun x _ h=>YC x h);rcases iC.1 hm with e|e
  ·subst e
   simp only[hp,hq,if_true];have:(if false=true then 1 else 0)=0:=rfl;omega
  ·have:=ae3 YC e hp hq
   by_cases hx:q x=true
   ·have:=YC x hx
    simp only[hx,this,if_true];omega
   ·have hx':q x=false:=by simpa using hx
    rw[hx'];have h0:(if false=true then 1 else 0:Nat)=0:=rfl;rw[h0];omega
structure Dk (md:Region.Mode)(ops:Array Oper)(done l:List Nat):Prop where
 nodup:l.Nodup
 mem:∀i∈l,i<ops.size/\i∉done
 all:∀i,i<ops.size->i∈done\/i∈l
 ord:∀l1 i l2,l=l1++i::l2->∀o,ops[i]? =some o->∀e∈o.after.toList,Region.binds md e=true->e.on∈done\/e.on∈l1
theorem go_acc (md:Region.Mode)(ops:Array Oper):∀(fuel t:Nat)(listed:Array Bool)(acc:List Nat),
 Region.linearise.go md ops fuel t listed acc=acc.reverse++Region.linearise.go md ops fuel t listed []:=by
 intro fuel;induction fuel with
 |zero=>intro t listed acc;simp[Region.linearise.go]|succ fuel ih=>
  intro t listed acc;simp only[Region.linearise.go];split
  ·rename_i i _
   rw[ih _ _ (i::acc),ih _ _ [i]];simp
  ·simp
theorem go_ok (ops:Array Oper)(tZ:tV ops.toList=true):∀(fuel t:Nat)(listed:Array Bool)(done:List Nat),
 listed.size=ops.size->(∀i,i<ops.size->(listed.getD i true=true↔i∈done))->(List.range ops.size).countP (fun i=>decide (i∉done))<=fuel->
 Dk .any ops done (Region.linearise.go .any ops fuel t listed []):=by
 have YD:∀(i:Nat)(o:Oper),ops[i]? =some o->∀e∈o.after.toList,Region.binds .any e=true->e.on<i:=by
  intro i o ho e he hb;have hi:i<ops.size:=by
   rcases Nat.lt_or_ge i ops.size with h|h
   ·exact h
   ·rw[Array.getElem?_eq_none h] at ho;cases ho
  simp only[tV,kM] at tZ;have:=tZ i jI;have ho':ops.toList[i]? =some o:=by simpa using ho
  rw[ho'] at this;simp only[kM] at this;simpa [hb] using this e he
 intro fuel;induction fuel with
 |zero=>
  intro t listed done hsz hl hf;refine⟨by simp[Region.linearise.go],by simp[Region.linearise.go],fun i hi=>?_,fun l1 i l2 h=>by simp[Region.linearise.go] at h⟩;by_cases hd:i∈done
  ·exact .inl hd
  ·have:0< (List.range ops.size).countP (fun i=>decide (i∉done)):=List.countP_pos_iff.2 ⟨i,jI,by simpa using hd⟩
   omega
 |succ fuel ih=>
  intro t listed done hsz hl hf;simp only[Region.linearise.go];generalize hrs:(List.range ops.size).filter (fun i=>!listed.getD i true&& ((ops[i]?).map (·.after.all fun e=>!Region.binds .any e||listed.getD e.on false)).getD false)=rs;have hmem:∀i,i∈rs↔i<ops.size/\i∉done/\∃o,ops[i]? =some o/\∀e∈o.after.toList,Region.binds .any e=true->e.on∈done:=by
   intro i;rw[<-hrs,tN];constructor
   ·rintro⟨h1,h2⟩
    have hi:i<ops.size:=Br;simp only[iP,rU] at h2;have hd:i∉done:=fun h=>by have:=(hl i hi).2 h;rw[this] at h2;exact absurd h2.1 aC
    have hoi:ops[i]? =some ops[i]:=(by simp[hi]);refine⟨hi,hd,ops[i],hoi,fun e he hb=>?_⟩;have h3:=h2.2;rw[hoi] at h3;simp only[Option.map_some,Option.getD_some,Array.all_eq_true'] at h3;have h4:=h3 e (by simpa using he);rw[hb] at h4;have hon:e.on<ops.size:=Nat.lt_trans (YD i _ hoi e he hb) hi;have h5:listed.getD e.on false=true:=(by simpa using h4);refine(hl e.on hon).1 ?_;simp only[Array.getD,hsz,hon,dif_pos] at h5⊢;exact h5
   ·rintro⟨hi,hd,o,ho,he⟩
    refine⟨jI,?_⟩;have h1:listed.getD i true=false:=(by have:=mt (hl i hi).1 hd;simpa using this);simp only[h1,Bool.not_false,Bool.true_and,ho,Option.map_some,Option.getD_some,Array.all_eq_true'];intro e Sl;have ae4:e∈o.after.toList:=(by simpa using Sl);cases hb:Region.binds .any e with
    |false=>rfl|true=>have hon:e.on<ops.size:=Nat.lt_trans (YD i _ ho e ae4 hb) hi;have:=(hl e.on hon).2 (he e ae4 hb);simp only[Array.getD,hsz,hon,dif_pos] at this⊢;show (!true||listed.getInternal e.on _)=true;rw[this];rfl
  cases hpick:rs[t% rs.length]? with
  |none=>
   have hnil:rs=[]:=by
    cases rs with
    |nil=>rfl|cons x xs=>have hlt:t% (x::xs).length< (x::xs).length:=Nat.mod_lt _ aC;rw[List.getElem?_eq_none_iff] at hpick;omega
   simp only[List.reverse_nil];refine⟨aC,aC,fun i hi=>?_,fun l1 i l2 h=>xD⟩;refine Classical.byContradiction fun hno=>?_;have hex:∃i,i<ops.size/\i∉done:=⟨i,hi,fun h=>hno (.inl h)⟩;have hmin:∀k,(∃i,i<=k/\i<ops.size/\i∉done)->∃i,i<ops.size/\i∉done/\∀j,j<i->j∈done:=by
    intro k;induction k with
    |zero=>rintro⟨i,h0,h1,h2⟩;obtain rfl:i=0:=ah;exact⟨0,h1,h2,fun j hj=>absurd hj (gK j)⟩
    |succ k ihk=>
     rintro⟨i,h0,h1,h2⟩;by_cases hsm:∃i,i<=k/\i<ops.size/\i∉done
     ·exact ihk hsm
     ·refine⟨i,h1,h2,fun j hj=>Classical.byContradiction fun hjd=>hsm ⟨j,ah,ah,hjd⟩⟩
   obtain⟨i0,h1,h2,h3⟩:=hmin i ⟨i,RS _,hi,fun h=>hno (.inl h)⟩;have:i0∈rs:=(hmem i0).2 ⟨h1,h2,ops[i0],by simp[h1],fun e he hb=>h3 _ (YD i0 _ (by simp[h1]) e he hb)⟩;rw[hnil] at this;cases this
  |some i=>
   simp only;rw[go_acc,List.reverse_singleton];have hi:i∈rs:=Bv hpick;obtain⟨hilt,hid,o,ho,he⟩:=(hmem i).1 hi;have hrec:=ih (t/rs.length) (listed.setIfInBounds i true) (i::done) (by simpa using hsz) (fun j hj=>by
    by_cases hji:j=i
    ·subst hji
     simp[Array.getD,hsz,hj]
    ·have h1:(listed.setIfInBounds i true).getD j true=listed.getD j true:=by simp only[Array.getD,Array.size_setIfInBounds,hsz,hj,dif_pos];exact Array.getElem_setIfInBounds_ne ah (Ne.symm hji)
     rw[h1,hl j hj];simp[hji]) (by
    have:=ae3 (l:=List.range ops.size) (p:=fun j=>decide (j∉done)) (q:=fun j=>decide (j∉i::done)) (a:=i)
     (fun x hx=>by simp at hx⊢;exact hx.2) (by simpa using hilt) (by simpa using hid) aC
    omega)
   refine⟨?_,?_,?_,?_⟩
   ·simp only[List.singleton_append,Ad]
    exact⟨fun h=>(hrec.mem i h).2 aC,hrec.nodup⟩
   ·intro j hj
    rcases iC.1 hj with e|e
    ·subst e;exact⟨hilt,hid⟩
    ·have:=hrec.mem j e
     exact⟨this.1,fun h=>this.2 EA⟩
   ·intro j hj
    rcases hrec.all j hj with h|h
    ·rcases iC.1 h with e|e
     ·exact .inr z8
     ·exact .inl e
    ·exact .inr EA
   ·intro l1 j l2 hjl o' ho' e Sl hb
    cases l1 with
    |nil=>simp only[List.singleton_append,List.nil_append,qb] at hjl;obtain⟨rfl,_⟩:=hjl;rw[ho] at ho';cases ho';exact .inl (he e Sl hb)
    |cons a l1=>
     simp only[List.singleton_append,List.cons_append,qb] at hjl;obtain⟨rfl,hjl⟩:=hjl;rcases hrec.ord l1 j l2 hjl o' ho' e Sl hb with h|h
     ·rcases iC.1 h with e'|e'
      ·exact .inr (by simp[e'])
      ·exact .inl e'
     ·exact .inr EA
theorem an8 (ops:Array Oper)(tZ:tV ops.toList=true)(t:Nat):Dk .any ops [] (Region.linearise .any ops t):=by
 refine go_ok ops tZ ops.size t _ [] aC (fun i hi=>?_) ?_
 ·simp[hi]
 ·have:=List.countP_le_length (p:=fun i=>decide (i∉([]:List Nat))) (l:=List.range ops.size)
  simpa using this
theorem an9 {mixed:Bool}(hm:mixed=true)(ops:Array Oper)(tZ:tV ops.toList=true)(t:Nat):∃md,Dk md ops [] (Region.schedule mixed ops t):=by unfold Region.schedule;rw[hm,Bool.true_or,if_pos rfl];exact⟨_,an8 _ tZ _⟩
theorem aoa {e:Edge}(md:Region.Mode)(h:Region.binds .any e=true):Region.binds md e=true:=by
 unfold Region.binds at h⊢;split at h
 ·simp at h
 ·simp at h
 ·rfl
end aY
end
