import Derived.Test.YthadiihdjhakdaaGreatF2203
set_option linter.all false
section
namespace aR
open Go Go.RowKit
section
variable {E:Env}{S:kH}{K K':aU}{T T':Nat->Nat}{w w':World}{σ σ':ak}{B0:Nat}
theorem Y3 {n:Nat}{x y:V}(hp:aW x=true)(h:bG n σ x=some y):y=x:=by
 cases n with
 |zero=>simp[bG] at h|succ n=>unfold bG at h;simp only[hp,if_true,iE] at h;exact h.symm
theorem ae5 {f:V->Option V}{l r:List V}(h:l.mapM f=some r)(g:V->V)(hf:∀i (hi:i<l.length) y,f l[i]=some y->y=g l[i]):r=l.map g:=by obtain⟨h1,h2⟩:=mapM_some h;refine List.ext_getElem (by simp[h1]) (fun i hi hi'=>?_);obtain⟨h3,h4⟩:=h2 i ah;simp only[CB];exact hf i ah _ h4
theorem NJ {l:List V}(h:cB l=true){i:Nat}(hi:i<l.length):aW l[i]=true:=by
 have:=tN h i hi
 rwa[jU hi] at this
theorem ae6 {n:Nat}{c:Cap}{l:List V}{y:V}(hp:cB l=true)(h:bG n σ (.ay c l)=some y):y= .ay .sh l:=by
 cases n with
 |zero=>simp[bG] at h|succ n=>
  unfold bG at h;split at h
  ·rename_i hc
   simp only[iE] at h;subst h;cases c<;>simp only[aW,dL] at hc;rfl
  ·simp only[bf] at h
   obtain⟨r,hr,rfl⟩:=h;have:=ae5 hr id (fun i hi y hy=>Y3 (NJ hp hi) hy);rw[this,List.map_id]
theorem aqm {x:V}(hp:aW x=true):fB x=x:=by
 cases x with
 |ay c l=>cases c<;>simp only[aW,dL] at hp;rfl|_=>rfl
theorem aqn {n:Nat}{x y:V}(hp:aW (fB x)=true)(h:bG n σ x=some y):y=fB x:=by
 cases x with
 |ay c l=>exact ae6 (by simpa [fB,aW] using hp) h|_=>exact Y3 hp h
theorem ae7 {n:Nat}{x y:V}(hp:aW (er x)=true)(h:bG n σ x=some y):y=er x:=by
 cases x with
 |ay c l=>exact ae6 Uk h|agg cs=>
  have hp':cB (cs.map fB)=true:=Uk
  have hpi:∀i (hi:i<cs.length),aW (fB cs[i])=true:=fun i hi=>by have:=NJ hp' (i:=i) jm;simpa using this
  cases n with
  |zero=>simp[bG] at h|succ n=>
   unfold bG at h;split at h
   ·rename_i hc
    simp only[iE] at h;subst h;have hc':cB cs=true:=(by simpa [aW] using hc);show V.agg cs=V.agg (cs.map fB);congr 1;refine List.ext_getElem aD (fun i hi hi'=>?_);simp only[CB];exact(aqm (NJ hc' hi)).symm
   ·simp only[bf] at h
    obtain⟨r,hr,rfl⟩:=h;show V.agg r=V.agg (cs.map fB);rw[ae5 hr fB (fun i hi y hy=>aqn (hpi i hi) hy)]
 |_=>exact Y3 hp h
theorem UR {a b:List V}{ca cb:Array Value}(h:RelA K T w a ca)(g:RelA K T w b cb):RelA K T w (a++b) (ca++cb):=by
 obtain⟨h1,h2⟩:=h;obtain⟨g1,g2⟩:=g;refine⟨by simp[h1,g1],fun i hi=>?_⟩;have hi':i<a.length+b.length:=jm
 by_cases hlt:i<a.length
 ·have e1:(a++b).getD i aL=a.getD i aL:=by simp[List.getD,Eu hlt]
  have e2:(ca++cb).getD i undef=ca.getD i undef:=by simp only[zu];rw[Array.getElem?_append_left ah]
  rw[e1,e2];exact h2 i hlt
 ·have e1:(a++b).getD i aL=b.getD (i-a.length) aL:=by simp[List.getD,List.getElem?_append_right (Nat.le_of_not_lt hlt)]
  have e2:(ca++cb).getD i undef=cb.getD (i-a.length) undef:=by simp only[zu];rw[Array.getElem?_append_right ah,<-h1]
  rw[e1,e2];exact g2 _ ah
theorem ae8 {l r:List V}{cl:Array Value}{n:Nat}{K2:aU}{T2:Nat->Nat}(h:RelA K T w l cl)(hm:l.mapM (bG n σ)=some r)(hx:∀x y c,x∈l->Rel K T w x c->bG n σ x=some y->Rel K2 T2 w y c):RelA K2 T2 w r cl:=by
 obtain⟨h1,h2⟩:=h;obtain⟨m1,m2⟩:=mapM_some hm;refine⟨ah,fun i hi=>?_⟩;obtain⟨h3,h4⟩:=m2 i ah;have:=h2 i ah;rw[jU (show i<l.length by omega)] at this;rw[jU h3];exact hx _ _ _ (jQ _) this h4
theorem aqo {b:Bool}{l r:List V}(h:rX b σ l=some r):l.length=r.length/\∀i (hi:i<l.length),∃(h':i<r.length),(l[i]= .ay .nil []/\r[i]= .ay .nil [])\/bG 20 σ l[i]=some r[i]:=by
 unfold rX at h;split at h
 ·split at h
  ·rename_i l
   obtain⟨l',hm,rfl⟩:=bf.1 h;obtain⟨m1,m2⟩:=mapM_some hm;refine⟨by simp[m1],fun i hi=>?_⟩;cases i with
   |zero=>exact⟨aD,.inl ⟨rfl,rfl⟩⟩|succ i=>obtain⟨h1,h2⟩:=m2 i jm;exact⟨Cr,.inr pq⟩
  ·cases h
 ·obtain⟨m1,m2⟩:=mapM_some h
  exact⟨m1,fun i hi=>by obtain⟨h1,h2⟩:=m2 i hi;exact⟨h1,.inr h2⟩⟩
theorem aqp {b:Bool}{l r:List V}{cl:Array Value}{K2:aU}{T2:Nat->Nat}(h:RelA K T w l cl)(hm:rX b σ l=some r)(hx:∀x y c,x∈l->Rel K T w x c->(x= .ay .nil []/\y= .ay .nil [])\/bG 20 σ x=some y->Rel K2 T2 w y c):RelA K2 T2 w r cl:=by
 obtain⟨h1,h2⟩:=h;obtain⟨m1,m2⟩:=aqo hm;refine⟨ah,fun i hi=>?_⟩;obtain⟨h3,h4⟩:=m2 i ah;have:=h2 i ah;rw[jU (show i<l.length by omega)] at this;rw[jU h3];exact hx _ _ _ (jQ _) this h4
theorem ae9 (hE:kQ E)(h:bE E B0 σ K w):zK E K.I K.IM w:=
 ⟨fun b o hi=>(h.I b o hi).1,fun b hi=>(h.IM b hi).1,fun g cs hg=>(h.glob g cs hg).pure (by simpa [aW] using hE.flat g cs hg) (fun _ _ h=>⟨h,rfl⟩) (fun _ h=>⟨h,rfl⟩)⟩
theorem aqr (hE:kQ E)(h:bE E B0 σ K w):zK E (fun b o=>∃v,w.cell? (at_ b o)=some v) (fun b=>r9 w b) w:=
 ⟨fun _ _ hi=>hi,fun _ hi=>hi,fun g cs hg=>(h.glob g cs hg).pure (by simpa [aW] using hE.flat g cs hg) (fun b o hi=>⟨(h.I b o hi).1,rfl⟩) (fun b hi=>⟨(h.IM b hi).1,rfl⟩)⟩
theorem Step.aqs {new:Nat->Prop}(h:bE E B0 σ K w)(hB:B0<=w.heap.size){L L':Loc}{s:Nat}{ob:iN}(hs:σ.obj L=some (s,ob))(hne:L≠L'):
 ∃K',Ext K σ.top w K' ((σ.eu L).setObj L' s ob).top w/\Step E B0 new σ K w ((σ.eu L).setObj L' s ob) K' w:=by
 obtain⟨hA,gU,hρ⟩:=h.obj _ _ _ hs;have hget:∀loc s2 gV,((σ.eu L).setObj L' s ob).obj loc=some (s2,gV)->(loc=L'/\s2=s/\gV=ob)\/(loc≠L'/\loc≠L/\σ.obj loc=some (s2,gV)):=by
  intro loc s2 gV hl;by_cases e:loc=L'
  ·subst e
   simp only[ak.setObj,upd_same,iE,mF] at hl;exact .inl ⟨rfl,hl.1.symm,hl.2.symm⟩
  ·simp only[ak.setObj,upd_ne _ _ e,ak.eu] at hl
   by_cases e2:loc=L
   ·subst e2;rw[upd_same] at hl;cases hl
   ·rw[upd_ne _ _ e2] at hl;exact .inr ⟨e,e2,hl⟩
 have hbl:Below B0 w w:=.refl _ _;by_cases hr:ob.real
 ·have hrb:=hρ hr
  have hb0:=(h.rb _ _ hrb);have e:Ext K σ.top w {K with ρ:=upd K.ρ (K.blk s) (some (.obj L'))} ((σ.eu L).setObj L' s ob).top w:=⟨fun _ h=>⟨h,rfl,rfl,rfl⟩,fun _ _=>.inl ⟨rfl,rfl,rfl,rfl⟩,fun _ _ h=>⟨h,rfl⟩,fun _ h=>⟨h,rfl⟩⟩;have hcell:∃o,w.heap[K.blk s]? =some o/\o≠ .deferred (some []):=by
   cases ob with
   |cells cs=>have hc:cs≠[]:=(by rintro rfl;exact hr);obtain⟨_,vals,t,g1,_⟩:=gU.2 hc;exact⟨_,g1,aD⟩
   |map ks vs=>obtain⟨_,es,bX,g1,_⟩:=gU;exact⟨_,g1,aD⟩
  obtain⟨co,hco,hcn⟩:=hcell;refine⟨_,e,?_,e,hbl,fun _ h=>h,fun _ h=>.inl h,fun _ _ h=>.inl h,fun _ h=>.inl h⟩;refine h.upd (b:=K.blk s) ⟨rfl,rfl,rfl,iP _,fun _ _ _=>rfl,iP _⟩ e (fun k hk=>upd_ne _ _ hk) (fun r _=>hb0) ?_ ?_ ?_ ?_ ?_ ?_
  ·intro loc s2 gV hl
   rcases hget _ _ _ hl with ⟨rfl,rfl,rfl⟩| ⟨_,h2,h3⟩
   ·right
    exact⟨hA,gU.ext e hA (fun _=>rfl),fun _=>upd_same _ _ _⟩
   ·left
    exact⟨h3,fun hr2=>h.Np h3 hs h2 hr2 hr⟩
  ·intro s2 hs2 hlt
   have a2:=(h.own s2 hs2 hlt).2.1;refine .inl ⟨hs2,rfl,rfl,rfl,fun e'=>?_⟩;rw[e',hrb] at a2;cases a2
  ·intro b' i hi
   exact .inl ⟨hi,fun e'=>(h.I b' i hi).2 L (e'▸hrb)⟩
  ·intro b' hi
   exact .inl ⟨hi,fun e'=>(h.IM b' hi).2 L (e'▸hrb)⟩
  ·intro l r hl
   refine .inl ⟨hl,fun e'=>?_⟩;have a2:=(h.loop l r hl).2.2.1;rw[e',hrb] at a2;cases a2
  ·intro b' hd
   exact .inl ⟨hd,wI (h.D b' hd) hco hcn.symm⟩
 ·have e:Ext K σ.top w K ((σ.eu L).setObj L' s ob).top w:=⟨fun _ h=>⟨h,rfl,rfl,rfl⟩,fun _ _=>.inl ⟨rfl,rfl,rfl,rfl⟩,fun _ _ h=>⟨h,rfl⟩,fun _ h=>⟨h,rfl⟩⟩
  refine⟨K,e,?_,e,hbl,fun _ h=>h,fun _ h=>.inl h,fun _ _ h=>.inl h,fun _ h=>.inl h⟩;refine⟨fun loc s2 gV hl=>?_,h.own,h.I,h.IM,h.loop,h.glob,h.rb,h.D⟩;rcases hget _ _ _ hl with ⟨rfl,rfl,rfl⟩| ⟨_,h2,h3⟩
  ·exact⟨hA,gU,fun hr2=>absurd hr2 hr⟩
  ·exact h.obj _ _ _ h3
theorem afa {L' L:Loc}{s:Nat}{v v':V}:(wE L' L s σ v v').2.next=σ.next:=by
 unfold wE;split
 ·split
  ·split<;>rfl
  ·rfl
 ·rfl
theorem aqt {v:V}:jD none σ v=(v,σ):=by
 unfold jD;split
 ·rfl
 ·rfl
 ·rfl
theorem EH {L':Option Loc}{v:V}:(jD L' σ v).2.next=σ.next:=by
 unfold jD;split
 ·split
  ·rfl
  ·exact afa
 ·split
  ·rfl
  ·exact afa
 ·rfl
theorem afb {new:Nat->Prop}(h:bE E B0 σ K w)(hB:B0<=w.heap.size){L' L:Loc}{s:Nat}{v v':V}{c:Value}(hr:Rel K σ.top w v c)(hv:∀T w,Rel K T w v c->Rel K T w v' c):
 ∃K',Rel K' (wE L' L s σ v v').2.top w (wE L' L s σ v v').1 c/\Step E B0 new σ K w (wE L' L s σ v v').2 K' w:=by
 unfold wE;split
 ·rename_i hlt
  split
  ·rename_i s' ob ho
   split
   ·rename_i hs
    subst hs;have hne:L≠L':=(by rintro rfl;exact absurd hlt (Nat.lt_irrefl _));obtain⟨K',e,st⟩:=Step.aqs (new:=new) h hB ho hne;exact⟨K',(hv _ _ hr).ext e,st⟩
   ·exact⟨K,hr,.refl h⟩
  ·exact⟨K,hr,.refl h⟩
 ·exact⟨K,hr,.refl h⟩
theorem aqu {new:Nat->Prop}(h:bE E B0 σ K w)(hB:B0<=w.heap.size){L':Option Loc}{v:V}{c:Value}(hr:Rel K σ.top w v c):
 ∃K',Rel K' (jD L' σ v).2.top w (jD L' σ v).1 c/\Step E B0 new σ K w (jD L' σ v).2 K' w:=by
 unfold jD;split
 ·split
  ·exact⟨K,hr,.refl h⟩
  ·refine afb h hB hr (fun T w g=>?_)
   cases g with
   |aM _ _ _ _ _ _ _ dP hA hc hle hsz=>exact .aM _ _ _ _ _ _ _ dP hA hc hle hsz|kP _ _ _ _ hA=>exact .kP _ _ _ _ hA
 ·split
  ·exact⟨K,hr,.refl h⟩
  ·refine afb h hB hr (fun T w g=>?_)
   cases g with
   |fn _ _ _ j6 bv ha hb ra rb=>
    refine .fn _ _ _ j6 bv ha GD ra (fun i hi=>?_);have:=rb i jm;cases i with
    |zero=>
     simp only[List.getD_cons_zero] at this⊢;generalize bv.getD 0 undef=cv at this;cases this with
     |ref _ _ _ hA=>exact .ref _ _ _ hA
    |succ i=>simpa using this
 ·exact⟨K,hr,.refl h⟩
theorem afc (hE:kQ E)(hS:Hq E S.call)(h:bE E B0 σ K w)(hB:B0<=w.heap.size)(hA:∀s,K.A s->s<σ.next){d:Nat}{dst:Option Nat}{fv:V}{cf:Value}{args:List V}{cO:Array Value}{v:V}(hfn:∃f a b,fv= .fn (.func f) a b)(hv:lg E S d dst σ fv args=some (v,σ'))(rf:Rel K σ.top w fv cf)(ra:RelA K σ.top w args cO):
 σ.next<=σ'.next/\∃f first cap,cf= .func (.func f) first cap/\Bf E f/\CallsIn Fence.wide 0 E.P f (first++cO++cap) w (zJ E B0 σ K w v σ'):=by
 obtain⟨f,a,b,rfl⟩:=hfn;unfold lg at hv
 ·dsimp only at hv
  cases rf with
  |fn _ _ _ j6 bv ha hb UU UW=>
  have NK:RelA K σ.top w (a++args++b) (j6++cO++bv):=UR (UR ⟨ha,UU⟩ ra) ⟨hb,UW⟩;split at hv
  ·obtain⟨⟨v0,σ1⟩,hv,zL⟩:=bf.1 hv
   obtain⟨h1,h2,h3⟩:=hS _ _ _ _ _ _ hv;have e1:v=(jD (dst.map fun t=>(d,t)) σ1 v0).1:=(congrArg Prod.fst zL).symm;have e2:σ'=(jD (dst.map fun t=>(d,t)) σ1 v0).2:=(congrArg Prod.snd zL).symm;subst e1 e2;refine⟨by rw[EH];exact h1,f,j6,bv,rfl,h2,(h3 none B0 K w _ h hB hA NK).mono ?_⟩;intro e w' hp;cases e with
   |returned c=>
    obtain⟨K1,r1,s1,hA1,st1⟩:=hp;obtain⟨K2,r2,st2⟩:=aqu (new:=newer σ (jD (dst.map fun t=>(d,t)) σ1 v0).2) (L':=dst.map fun t=>(d,t)) s1 (dJ hB st1.below.size) r1;have st1':Step E B0 (newer σ (jD (dst.map fun t=>(d,t)) σ1 v0).2) σ K w σ1 K1 w':=st1.mono (fun s hs=>by unfold newer at hs⊢;rw[EH];exact hs);refine⟨K2,r2,st2.ok,fun s hs=>?_,st1'.trans st2⟩;rw[EH];rcases st2.A s hs with h|h
    ·exact hA1 s h
    ·unfold newer at h;rw[EH] at h;exact h.2
   |panicked ch=>exact hp.elim|outgrown=>exact hp.elim
  ·simp only[iR] at hv
   obtain⟨dz,has,r,hr,hv⟩:=hv;split at hv
   ·rename_i hcl
    simp only[iE,mF] at hv;obtain⟨rfl,rfl⟩:=hv;obtain⟨p1,p2⟩:=YZ hE hS hr;refine⟨iP _,f,j6,bv,rfl,p1,?_⟩;simp only[oF,kG] at hcl;rcases hcl with hcl|hcl
    ·have NM:RelA (aU.lend K.I K.IM) (fun _=>0) w dz (j6++cO++bv):=by refine ae8 NK has (fun x y c hx sj hxy=>?_);have hp:=hcl x hx;rw[ae7 hp hxy];exact(UG sj).pure hp (fun _ _ h=>⟨h,rfl⟩) (fun _ h=>⟨h,rfl⟩)
     refine(p2 _ _ w _ (ae9 hE h) NM).mono ?_;intro e w' hp;cases e with
     |returned c=>obtain⟨hb',hr'⟩:=hp;have st:=Step.grow (new:=newer σ σ) h hB hb';exact⟨_,hr'.NH (fun _ _ h=>⟨h,rfl⟩) (fun _ h=>⟨h,rfl⟩),st.ok,hA,st⟩
     |panicked ch=>exact hp.elim|outgrown=>exact hp.elim
    ·have NM:RelA (aU.lend (fun b o=>∃v,w.cell? (at_ b o)=some v) (fun b=>r9 w b)) (fun _=>0) w dz (j6++cO++bv):=by refine ae8 NK has (fun x y c hx sj hxy=>?_);exact(YX (T':=fun _=>0) h 20 x y c sj hxy).NH (fun _ _ h=>⟨h.2,rfl⟩) (fun _ h=>⟨h.2,rfl⟩)
     refine(p2 _ _ w _ (aqr hE h) NM).mono ?_;intro e w' hp;cases e with
     |returned c=>obtain⟨hb',hr'⟩:=hp;have st:=Step.grow (new:=newer σ σ) h hB hb';exact⟨_,hr'.flat hcl,st.ok,hA,st⟩
     |panicked ch=>exact hp.elim|outgrown=>exact hp.elim
   ·simp at hv
theorem aqv (h:bE E B0 σ K w)(hB:B0<=w.heap.size){st:Nat}(hst:¬K.A st){σ1:ak}{K1:aU}{v0 v:V}{c:Value}(hv:rW σ st σ1 v0=some (v,σ'))(r1:Rel K1 σ1.top w' v0 c)(s1:bE E w.heap.size σ1 K1 w')(hb:Below w.heap.size w w')(hI:∀b o,K1.I b o->K.I b o\/w.heap.size<=b)(Nk:∀b,K1.IM b->K.IM b\/w.heap.size<=b):∃K',Rel K' σ'.top w' v c/\Step E B0 (· =st) σ K w σ' K' w':=by
 have Hy:∀b o,K1.I b o->aR.grow K.I w.heap.size w' b o:=fun b o hi=>⟨hI b o hi,(s1.I b o hi).1⟩;have UY:∀b,K1.IM b->uV K.IM w.heap.size w' b:=fun b hi=>⟨Nk b hi,(s1.IM b hi).1⟩;unfold rW at hv;split at hv
 ·rename_i cp l
  split at hv
  ·rename_i hp
   cases cp with
   |nil=>
    cases hv;refine⟨_,?_,Step.grow h hB hb⟩;cases r1 with
    |eP _ a ha hc=>exact .eP .nil a ha trivial|ay _ _ b o n cap val hle hn hcell hrel hc=>exact hc.elim
   |full=>
    cases hv;refine⟨_,?_,Step.grow h hB hb⟩;cases r1 with
    |eP _ a ha hc=>exact .eP .full a (fun h=>bL) trivial
    |ay _ _ b o n cap val hle hn hcell hrel hc=>
     exact .ay .full l b o n cap val hle hn (fun i j hi hj=>⟨(hcell i j hi hj).1,Hy _ _ (hcell i j hi hj).2⟩)
      (fun i j hi hj=>(hrel i j hi hj).pure (YW (tN hp i hi) (by rw[hn i hi];exact hj)) (fun b o hi=>⟨Hy b o hi,rfl⟩) (fun b hi=>⟨UY b hi,rfl⟩)) hc
   |own n s=>
    dsimp only at hv;split at hv
    ·rename_i htop
     cases hv;have hown:K1.A s->K1.lo s<K1.hi s->w.heap.size<=K1.ob s/\∀o,K1.lo s<=o->o<K1.hi s->(∃v,w'.cell? (at_ (K1.ob s) o)=some v)/\w'.frozen? (at_ (K1.ob s) o)=false:=fun ha hl=>by obtain⟨a1,a2,a3⟩:=s1.own s ha hl;exact⟨a1,fun o h1 h2=>(a3 o h1 h2).2⟩
     have hnot:K1.A s->∀b o,K1.I b o->¬(b=K1.ob s/\K1.lo s<=o/\o<K1.hi s):=(by rintro ha b o hi ⟨rfl,h2,h3⟩;exact((s1.own s ha ah).2.2 o h2 h3).1 hi);have hA:K1.A s:=by
      cases r1 with
      |eP _ a ha hc=>exact hc.1|ay _ _ b o n' cap val hle hn hcell hrel hc=>exact hc.2.1
     refine⟨_,?_,Step.oL h hB hst hb (hown hA)⟩;have t1:(σ.dR st l.length).top st=l.length:=upd_same _ _ _;have q1:(K.oL w.heap.size w' st (K1.ob s) (K1.lo s) (K1.hi s)).ob st=K1.ob s:=upd_same _ _ _;have q2:(K.oL w.heap.size w' st (K1.ob s) (K1.lo s) (K1.hi s)).lo st=K1.lo s:=upd_same _ _ _;have q3:(K.oL w.heap.size w' st (K1.ob s) (K1.lo s) (K1.hi s)).hi st=K1.hi s:=upd_same _ _ _;cases r1 with
     |eP _ a ha hc=>refine .eP _ a (fun h=>bL) ⟨.inr rfl,fun _=>?_⟩;rw[q2,q3];exact hc.2 htop
     |ay _ _ b o n' cap val hle hn hcell hrel hc=>
      refine .ay _ l b o n' cap val hle hn (fun i j hi hj=>⟨(hcell i j hi hj).1,Hy _ _ (hcell i j hi hj).2,hnot hA _ _ (hcell i j hi hj).2⟩)
       (fun i j hi hj=>(hrel i j hi hj).pure (YW (tN hp i hi) (by rw[hn i hi];exact hj)) (fun b o hi=>⟨⟨Hy b o hi,hnot hA b o hi⟩,rfl⟩) (fun b hi=>⟨UY b hi,rfl⟩)) ?_
      refine⟨hc.1,.inr rfl,by rw[t1];exact iP _,fun _=>?_⟩;rw[q1,q2,q3];exact hc.2.2.2 htop.symm
    ·cases hv
   |sh=>cases hv
  ·cases hv
 ·rename_i loc s off len cap bZ ag
  split at hv
  ·rename_i h0
   obtain⟨rfl,rfl⟩:=h0;obtain⟨cs,hcs,hv⟩:=iR.1 hv;cases hv;have fin:∀dP:Nat,K1.A s->dP*bZ<=K1.sz s->∃K',Rel K' (σ.dR st 0).top w' (.ay (.own bZ st) []) (.slice (some (at_ (K1.blk s) 0)) 0 dP)/\Step E B0 (· =st) σ K w (σ.dR st 0) K' w':=by
    intro dP hA hsz;obtain⟨g1,_,_⟩:=s1.xY hcs;obtain⟨a1,a2,a3⟩:=s1.obj _ _ _ g1;refine⟨K.oL w.heap.size w' st (K1.blk s) 0 (dP*bZ),?_,Step.oL h hB hst hb (fun hlt=>?_)⟩
    ·have t1:(σ.dR st 0).top st=0:=upd_same _ _ _
     refine .ay _ [] (K1.blk s) 0 bZ dP (fun _ _=>undef) (nI _) (fun i hi=>absurd hi (gL i)) (fun i j hi=>absurd hi (gL i)) (fun i j hi=>absurd hi (gL i)) ?_;refine⟨rfl,.inr rfl,nI _,fun _=>⟨upd_same _ _ _,?_,?_⟩⟩
     ·show upd K.lo st 0 st=_;rw[upd_same];simp
     ·show upd K.hi st (dP*bZ) st=_;rw[upd_same];simp
    ·have hne:cs≠[]:=by rintro rfl;have:=a2.1 rfl;omega
     obtain⟨b1,vals,t,b2,b3,b4,b5⟩:=a2.2 hne;refine⟨b1,fun o h1 h2=>⟨⟨vals[o]' ah,?_⟩,?_⟩⟩
     ·simp[World.cell?,b2]
     ·unfold World.frozen?
      simp only[b2];simp
   cases r1 with
   |aM _ _ _ _ _ _ _ dP hA hc hle hsz=>exact fin dP hA (by simpa using hsz)|kP _ _ _ _ hA=>refine⟨K.oL w.heap.size w' st 0 0 0,?_,Step.oL h hB hst hb (fun hlt=>absurd hlt (Nat.lt_irrefl _))⟩;refine .eP _ none (fun h=>bL) ⟨.inr rfl,fun _=>?_⟩;show upd K.hi st 0 st=upd K.lo st 0 st;rw[upd_same,upd_same]
  ·cases hv
 ·cases hv
theorem aqw (h:bE E B0 σ K w)(hB:B0<=w.heap.size){st:Nat}(hst:¬K.A st){loc:Option Loc}{σ1:ak}{K1:aU}{v0 v:V}{c:Value}(hv:zH σ st loc σ1 v0=some (v,σ'))(r1:Rel K1 σ1.top w' v0 c)(s1:bE E w.heap.size σ1 K1 w')(hb:Below w.heap.size w w')(hI:∀b o,K1.I b o->K.I b o\/w.heap.size<=b)(Nk:∀b,K1.IM b->K.IM b\/w.heap.size<=b):∃K',Rel K' σ'.top w' v c/\Step E B0 (· =st) σ K w σ' K' w':=by
 have Hy:∀b o,K1.I b o->aR.grow K.I w.heap.size w' b o:=fun b o hi=>⟨hI b o hi,(s1.I b o hi).1⟩;have UY:∀b,K1.IM b->uV K.IM w.heap.size w' b:=fun b hi=>⟨Nk b hi,(s1.IM b hi).1⟩;unfold zH at hv;split at hv
 ·rename_i cp l
  split at hv
  ·rename_i hp
   have hl:l=[]:=by cases l with
    |nil=>rfl|cons a l=>cases hp
   subst hl;cases cp with
   |nil=>
    cases hv;refine⟨_,?_,Step.grow h hB hb⟩;cases r1 with
    |eP _ a ha hc=>exact .eP .nil a ha trivial|ay _ _ b o n cap val hle hn hcell hrel hc=>exact hc.elim
   |full=>
    cases hv;refine⟨_,?_,Step.grow h hB hb⟩;cases r1 with
    |eP _ a ha hc=>exact .eP .full a (fun h=>bL) trivial
    |ay _ _ b o n cap val hle hn hcell hrel hc=>have hc':cap=0:=hc;subst hc';exact .eP .full _ (fun h=>bL) trivial
   |_=>cases hv
  ·cases hv
 ·rename_i L s off len cap bZ ag
  obtain⟨loc,_,hv1⟩:=iR.1 hv;obtain⟨cs,hcs,hv2⟩:=iR.1 hv1;clear hv hv1;split at hv2
  ·rename_i hp
   cases hv2;obtain⟨g1,_,_⟩:=s1.xY hcs;obtain⟨a1,a2,a3⟩:=s1.obj _ _ _ g1;have lS:cs≠[]->w.heap.size<=K1.blk s/\K1.blk s<w'.heap.size/\¬r9 w' (K1.blk s):=by intro hne;obtain⟨b1,vals,t,b2,_⟩:=a2.2 hne;refine⟨b1,lt_of_heap b2,?_⟩;rintro⟨o,c1,c2⟩;rw[b2] at c1;cases c1;exact c2
   have hr1:(iN.cells (cs.map fB)).real->(!cs.isEmpty)=true:=by
    intro hr;cases cs with
    |nil=>exact hr.elim|cons a l=>rfl
   have hr2:(!cs.isEmpty)=true->cs≠[]:=by rintro hr rfl;cases hr
   have st1:Step E B0 (· =st) σ K w (σ.setObj loc st (.cells (cs.map fB))) (K.pK w.heap.size w' st (K1.blk s) (K1.sz s) loc (!cs.isEmpty)) w':=by
    refine Step.pK h hB hst hb hr1 (fun hr=>lS (hr2 hr)) ?_;have q1:(K.pK w.heap.size w' st (K1.blk s) (K1.sz s) loc (!cs.isEmpty)).blk st=K1.blk s:=upd_same _ _ _;have q2:(K.pK w.heap.size w' st (K1.blk s) (K1.sz s) loc (!cs.isEmpty)).sz st=K1.sz s:=upd_same _ _ _;refine⟨fun he=>q2.trans (a2.1 (List.map_eq_nil_iff.1 he)),fun hne=>?_⟩;replace hne:cs≠[]:=fun e=>hne (List.map_eq_nil_iff.2 e);obtain⟨b1,vals,t,b2,b3,b4,b5⟩:=a2.2 hne;have hρ:K1.ρ (K1.blk s)=some (.obj L):=a3 (by cases cs with
     |nil=>exact absurd rfl hne|cons a l=>trivial)
    have Uy:∀b o,K1.I b o->¬(b=K1.blk s/\(!cs.isEmpty)=true):=(by rintro b o hi ⟨rfl,_⟩;exact(s1.I _ o hi).2 L hρ);refine⟨by rw[q1];omega,vals,t,by rw[q1];exact b2,by rw[q2];exact b3,by rw[iG];exact b4,fun i hi=>?_⟩;have hi':i<cs.length:=(by rw[iG] at hi;exact hi);have e1:(cs.map fB).getD i aL=fB (cs.getD i aL):=(by rw[jU hi,jU hi',CB]);have hpi:=tN hp i hi;rw[e1] at hpi⊢;exact(Hl (b5 i hi')).pure hpi (fun b o hi=>⟨⟨Hy b o hi,Uy b o hi⟩,rfl⟩) (fun b hi=>⟨UY b hi,rfl⟩)
   refine⟨_,?_,st1⟩;have q1:(K.pK w.heap.size w' st (K1.blk s) (K1.sz s) loc (!cs.isEmpty)).blk st=K1.blk s:=upd_same _ _ _;have q2:(K.pK w.heap.size w' st (K1.blk s) (K1.sz s) loc (!cs.isEmpty)).sz st=K1.sz s:=upd_same _ _ _;cases r1 with
   |aM _ _ _ _ _ _ _ dP hA hc hle hsz=>
    have hr:Rel (K.pK w.heap.size w' st (K1.blk s) (K1.sz s) loc (!cs.isEmpty)) (σ.setObj loc st (.cells (cs.map fB))).top w' (.aM loc st off len cap bZ ag) (.slice (some (at_ ((K.pK w.heap.size w' st (K1.blk s) (K1.sz s) loc (!cs.isEmpty)).blk st) off)) len dP):=
     .aM _ _ _ _ _ _ _ dP (show K.A st\/st=st from .inr rfl) hc hle (by rw[q2];exact hsz)
    rw[q1] at hr;exact hr
   |kP _ _ _ _ hA=>exact .kP _ _ _ _ (show K.A st\/st=st from .inr rfl)
  ·cases hv2
 ·cases hv
theorem afd {st:Nat}{loc:Option Loc}{σ1:ak}{v0 v:V}(hv:zH σ st loc σ1 v0=some (v,σ')):σ'.next=σ.next:=by
 unfold zH at hv;split at hv
 ·rename_i cp l
  split at hv
  ·cases cp<;>first| (cases hv;done)| (cases hv;rfl)
  ·cases hv
 ·obtain⟨_,_,hv1⟩:=iR.1 hv
  obtain⟨_,_,hv2⟩:=iR.1 hv1;clear hv hv1;split at hv2
  ·cases hv2;rfl
  ·cases hv2
 ·cases hv
theorem afe {st:Nat}{σ1:ak}{v0 v:V}(hv:rW σ st σ1 v0=some (v,σ')):σ'.next=σ.next:=by
 by_cases hvw:∃loc s off len cap bZ ag,v0= .aM loc s off len cap bZ ag
 ·obtain⟨loc,s,off,len,cap,bZ,ag,rfl⟩:=hvw
  unfold rW at hv;dsimp only at hv;split at hv
  ·obtain⟨_,_,hv⟩:=iR.1 hv
   cases hv;rfl
  ·cases hv
 cases v0<;>first| (cases hv;done)|exact absurd ⟨_,_,_,_,_,_,_,rfl⟩ hvw|skip
 rename_i cp l;have hv':(if cB l=true then (match cp with
  |.nil=>some (V.ay .nil l,σ)|.full=>some (.ay .full l,σ)|.own n s=>if σ1.top s=l.length then some (.ay (.own n st) l,σ.dR st l.length) else none|.sh=>none) else none)=some (v,σ'):=hv
 split at hv'
 ·cases cp with
  |nil=>cases hv';rfl|full=>cases hv';rfl|own n s=>dsimp only at hv';split at hv'<;>cases hv';rfl|sh=>cases hv'
 ·cases hv'
theorem aqx (hE:kQ E)(hS:Hq E S.call)(h:bE E B0 σ K w)(hB:B0<=w.heap.size){st:Nat}(hst:¬K.A st){loc:Option Loc}{fv:V}{cf:Value}{args:List V}{cO:Array Value}{v:V}(hv:qo E S σ st loc fv args=some (v,σ'))(rf:Rel K σ.top w fv cf)(ra:RelA K σ.top w args cO):
 σ'.next=σ.next/\∃f first cap,cf= .func (.func f) first cap/\Bf E f/\CallsIn Fence.wide 0 E.P f (first++cO++cap) w (fun e w'=>∃c K',e= .returned c/\Rel K' σ'.top w' v c/\Step E B0 (· =st) σ K w σ' K' w'):=by
 unfold qo at hv;split at hv
 ·rename_i f a b
  split at hv
  ·rename_i hcl
   simp only[iR] at hv;obtain⟨dz,has,⟨v0,σ1⟩,hr,hv⟩:=hv;cases rf with
   |fn _ _ _ j6 bv ha hb UU UW=>
   have NK:RelA K σ.top w (a++args++b) (j6++cO++bv):=UR (UR ⟨ha,UU⟩ ra) ⟨hb,UW⟩;obtain⟨_,p1,p2⟩:=hS _ _ _ _ _ _ hr;have hnext:σ'.next=σ.next:=by
    split at hv
    ·exact afd hv
    ·exact afe hv
   refine⟨hnext,f,j6,bv,rfl,p1,?_⟩;simp only[kG] at hcl;have NM:RelA (aU.lend K.I K.IM) ak.init.top w dz (j6++cO++bv):=by
    refine aqp NK has (fun x y c hx sj hxy=>?_);rcases hxy with ⟨rfl,rfl⟩|hxy
    ·cases sj with
     |eP _ a ha hc=>exact .eP .nil a ha trivial|ay _ _ b o n cap val hle hn hcell hrel hc=>exact hc.elim
    have hp:=hcl x hx;rw[ae7 hp hxy];exact(UG sj).pure hp (fun _ _ h=>⟨h,rfl⟩) (fun _ h=>⟨h,rfl⟩)
   refine(p2 none w.heap.size (aU.lend K.I K.IM) w _ (UN (ae9 hE h)) (iP _) (fun s hs=>hs.elim) NM).mono ?_;intro e w' hp;cases e with
   |returned c=>
    obtain⟨K1,r1,s1,_,st1⟩:=hp;split at hv
    ·obtain⟨K',g1,g2⟩:=aqw h hB hst hv r1 s1 st1.below st1.qp st1.qw
     exact⟨c,K',rfl,g1,g2⟩
    ·obtain⟨K',g1,g2⟩:=aqv h hB hst hv r1 s1 st1.below st1.qp st1.qw
     exact⟨c,K',rfl,g1,g2⟩
   |panicked ch=>exact hp.elim|outgrown=>exact hp.elim
  ·cases hv
 ·cases hv
theorem UZ (hE:kQ E){f:FuncId}(hb:Bf E f)(args:Array Value)(w:World):(callFunc f args).run E.P w= .ok (.enter f args) w:=by obtain⟨fn,c,hf,hc⟩:=hb;have hn:=hE.name f fn hf;simp[callFunc,hf,hc,hn]
theorem aqy (hE:kQ E)(hS:Sound E S){fr fr':Fr}{a:Act}{n:Nat}{ds:Bc}(hs:St E B0 σ K w fr a n ds){st:Nat}(hst:¬K.A st){o:Oper}{v:V}(hop:opC E S fr σ st o=some (v,fr',σ')):fr'=fr/\σ.next<=σ'.next/\(∀next Q ro,(∀c w' K',Rel K' σ'.top w' v c->Step E B0 (fun s=>s=st\/newer σ σ' s) σ K w σ' K' w'->next (a.put o.dst c) w')->
   o.wpIn (kE ro) 0 E.P a w next Q):=by
 have hdone:∀{v σ'},uU E B0 (· =st) σ K w (execOp a.eval o) v σ'->(∀c,o.op≠ .defer c)->∀next Q ro,(∀c w' K',Rel K' σ'.top w' v c->Step E B0 (fun s=>s=st\/newer σ σ' s) σ K w σ' K' w'->next (a.put o.dst c) w')->
  o.wpIn (kE ro) 0 E.P a w next Q:=fun hd ho next Q ro hn=>ap0 ho hd (fun c w' K' hr hst=>hn c w' K' hr (hst.mono (fun _ h=>.inl h)))
 unfold opC at hop;split at hop
 ·rename_i c hc
  have hnd:∀d,o.op≠ .defer d:=fun d hd=>by rw[hc] at hd;cases hd
  split at hop
  ·rename_i b hb
   simp only[bf,mF] at hop;obtain⟨⟨v1,σ1⟩,hv,rfl,rfl,rfl⟩:=hop;have hsame:=aeY hv;refine⟨rfl,by rw[hsame.1];exact iP _,hdone ?_ hnd⟩;have hargs:=Ho hs.ok hs.fr c.args;have hex:execOp a.eval o=builtin b c.argTypes o.type (c.args.map fun|.const _=>true|_=>false) (c.args.map a.eval):=by unfold execOp;simp only[hc];unfold resolve;simp only[hb];rfl
   rw[hex];exact apO hs.ok hs.hB hst hargs hv
  ·rename_i f hf
   split at hop
   ·simp only[bf,mF] at hop
    obtain⟨⟨v1,σ1⟩,hv,rfl,rfl,rfl⟩:=hop;obtain⟨hn1,g,first,cap,hcf,hbody,hcall⟩:=aqx hE hS.call hs.ok hs.hB hst hv (xZ hs.ok hs.fr f) (Ho hs.ok hs.fr c.args);refine⟨rfl,by rw[hn1];exact iP _,fun next Q ro hn=>⟨fun _ _=>trivial,?_⟩⟩;rw[Ht _ _ hnd];have hex:(execOp a.eval o).run E.P w= .ok (.enter g (first++c.args.map a.eval++cap)) w:=(by unfold execOp;simp only[hc];unfold resolve;simp only[hf,hcf,Deferred.ofValue,Sem.run_bind,Sem.run_pure,Result.andThen_ok,invoke];exact UZ hE hbody _ _);rw[hex,Oper.uponIn_enter];refine⟨fun hd=>MU,?_⟩;have h2:CallsIn (kE ro) (0-1) E.P g (first++c.args.map a.eval++cap) w (fun e w'=>∃c K',e= .returned c/\Rel K' σ1.top w' v1 c/\Step E B0 (· =st) σ K w σ1 K' w'):=hcall;refine h2.mono ?_;intro e w' hp;obtain⟨cv,K',rfl,r1,st1⟩:=hp;exact hn cv w' K' r1 (st1.mono (fun _ h=>.inl h))
   simp only[bf,mF] at hop;obtain⟨⟨v1,σ1⟩,hv,rfl,rfl,rfl⟩:=hop;have hcases:(∃g a b,fr.ev E f= .fn (.func g) a b)\/∃l,fr.ev E f= .fn (.yield l) [] []:=by
    unfold lg at hv;split at hv
    ·rename_i g a b he;exact .inl ⟨g,a,b,he⟩
    ·rename_i l he;exact .inr ⟨l,he⟩
    ·simp at hv
   rcases hcases with hfn| ⟨l,hy⟩
   rotate_left
   ·have hv':xV S l (c.args.toList.map (fr.ev E)) σ=some (v1,σ1):=by rw[hy] at hv;exact hv
    obtain⟨hn1,fn,tmps,fO,body,Y1,aqz⟩:=aqb hS.code hs.ok hs.hB hs.st hv' (Ho hs.ok hs.fr c.args);have hcf:a.eval f= .func (.yield (K.lp l)) #[] #[]:=(by have:=xZ hs.ok hs.fr f;rw[hy] at this;generalize a.eval f=cf at this;cases this;rfl);refine⟨rfl,hn1,fun next Q ro hn=>⟨fun _ _=>trivial,?_⟩⟩;rw[Ht _ _ hnd];have hex:(execOp a.eval o).run E.P w= .ok (.round (K.lp l) fn tmps fO body) w:=(by unfold execOp;simp only[hc];unfold resolve;simp only[hf,hcf,Deferred.ofValue,Sem.run_bind,Sem.run_pure,Result.andThen_ok,invoke];simpa using Y1);rw[hex,Oper.uponIn_round];refine⟨fun hd=>MU,?_⟩;have h2:RoundIn (kE ro) (0-1) E.P (K.lp l) fn tmps fO body w (zJ E B0 σ K w v1 σ1):=aqz;refine h2.mono ?_;intro e w' hp;cases e with
    |returned cv=>obtain⟨K',r1,_,_,st1⟩:=hp;exact hn cv w' K' r1 (st1.mono (fun _ h=>.inr h))
    |panicked ch=>exact hp.elim|outgrown=>exact hp.elim
   obtain⟨hn1,g,first,cap,hcf,hbody,hcall⟩:=afc hE hS.call hs.ok hs.hB hs.st hfn hv (xZ hs.ok hs.fr f) (Ho hs.ok hs.fr c.args);refine⟨rfl,hn1,fun next Q ro hn=>⟨fun _ _=>trivial,?_⟩⟩;rw[Ht _ _ hnd];have hex:(execOp a.eval o).run E.P w= .ok (.enter g (first++c.args.map a.eval++cap)) w:=by unfold execOp;simp only[hc];unfold resolve;simp only[hf,hcf,Deferred.ofValue,Sem.run_bind,Sem.run_pure,Result.andThen_ok,invoke];exact UZ hE hbody _ _
   rw[hex,Oper.uponIn_enter];refine⟨fun hd=>MU,?_⟩;have h2:CallsIn (kE ro) (0-1) E.P g (first++c.args.map a.eval++cap) w (zJ E B0 σ K w v1 σ1):=hcall;refine h2.mono ?_;intro e w' hp;cases e with
   |returned cv=>obtain⟨K',r1,_,_,st1⟩:=hp;exact hn cv w' K' r1 (st1.mono (fun _ h=>.inr h))
   |panicked ch=>exact hp.elim|outgrown=>exact hp.elim
  ·simp at hop
 ·simp at hop
 ·rename_i hnc hnd
  simp only[bf,mF] at hop;obtain⟨⟨v1,σ1⟩,hv,rfl,rfl,rfl⟩:=hop;have hsame:=aeZ hv;exact⟨rfl,by rw[hsame.1];exact iP _,hdone (apN hs.ok hs.hB hs.fr hst hv) hnd⟩
end
section
variable (E:Env)(S:kH)
def opsL (ops:List Oper)(base:Nat):List Nat->Fr->ak->Option (Fr×ak)
 | [],fr,σ=>some (fr,σ)|i::l,fr,σ=>(lQ E S ops base i fr σ).bind fun (fr,σ)=>opsL ops base l fr σ
theorem aff (all:List Oper)(base:Nat):∀(os:List Oper)(k:Nat)(fr:Fr)(σ:ak),(∀j,os[j]? =all[k+j]?)->
 opsE E S all (base+k) os fr σ=opsL E S all base (List.range' k os.length) fr σ:=by
 intro os;induction os with
 |nil=>intro k fr σ _;rfl|cons o os ih=>
  intro k fr σ h;have h0:all[k]? =some o:=by simpa using (h 0).symm
  have ih':=fun fr σ=>ih (k+1) fr σ (fun j=>by have:=h (j+1);simpa [sZ,Nat.add_comm 1 j] using this);simp only[List.length_cons,List.range'_succ,opsL,lQ,h0,opsE];cases hwt:iU all fr o with
  |none=>rfl|some t=>
  simp only[Option.bind_some];split
  ·cases hop:opC E S fr σ (base+k) o with
   |none=>rfl|some r=>obtain⟨v,bM,σ1⟩:=r;exact ih' _ _
  ·exact ih' _ _
theorem aqA (ops:Array Oper)(base:Nat)(fr:Fr)(σ:ak):opsE E S ops.toList base ops.toList fr σ=opsL E S ops.toList base (List.range ops.size) fr σ:=by have:=aff E S ops.toList base ops.toList 0 fr σ (fun j=>aD);rw[Nat.add_zero] at this;rw[this,List.range_eq_range',Array.length_toList]
end
section
variable {E:Env}{S:kH}{K K':aU}{w w':World}{σ σ':ak}{B0:Nat}{fr fr':Fr}{a:Act}{n:Nat}{ds:Bc}
theorem aqB (hf:kD K σ.top w fr a.tmps)(ops:Array Oper)(o:Oper)(hsz:wH a.tmps.size ops.toList=true){t:Bool}(hv:iU ops.toList fr o=some t):
 Region.wanted o (yielded ops a.tmps)=t:=by
 unfold Region.wanted;unfold iU at hv;cases hg:o.guard with
 |none=>rw[hg] at hv;exact jP hv|some g=>
  obtain⟨j,want⟩:=g;rw[hg] at hv;simp only at hv⊢;cases hd:(ops.toList[j]?).bind (·.dst) with
  |none=>
   have hd':(ops[j]?).bind (·.dst)=none:=M6
   simp only[hd,iE] at hv;simp only[yielded,hd',<-hv];rfl
  |some t=>
   have hd':(ops[j]?).bind (·.dst)=some t:=M6
   have ht:t<a.tmps.size:=by
    cases ho:ops[j]? with
    |none=>simp[ho] at hd'|some o'=>have hm:o'∈ops.toList:=(by simpa using Array.mem_of_getElem? ho);simp only[wH,kG] at hsz;have h1:=hsz o' hm;have h2:o'.dst=some t:=(by simpa [ho] using hd');rw[h2] at h1;simpa using h1
   have hr:=hf t;have hget:a.tmps[t]? =some (a.tmps.getD t undef):=by simp[Array.getD,ht]
   simp only[hd] at hv;simp only[yielded,hd',Option.bind_some,hget];generalize a.tmps.getD t undef=c at hr;generalize fr.tm t=x at hr hv;cases hr<;>simp only[iE,reduceCtorEq] at hv<;>first|exact hv| (rw[<-hv];rfl)
theorem NP (h:bE E B0 σ K w)(k:Nat):bE E B0 {σ with next:=k} K w:=⟨h.obj,h.own,h.I,h.IM,h.loop,h.glob,h.rb,h.D⟩
theorem aqC (hS:Sound E S){st:Nat}{o:Oper}{v:V}(hop:opC E S fr σ st o=some (v,fr',σ')):fr'=fr/\σ.next<=σ'.next:=by
 unfold opC at hop;split at hop
 ·split at hop
  ·simp only[bf,mF] at hop
   obtain⟨⟨v1,σ1⟩,hv,rfl,rfl,rfl⟩:=hop;exact⟨rfl,by rw[(aeY hv).1];exact iP _⟩
  ·split at hop
   ·simp only[bf,mF] at hop
    obtain⟨⟨v1,σ1⟩,hv,rfl,rfl,rfl⟩:=hop;refine⟨rfl,?_⟩;unfold qo at hv;split at hv
    ·split at hv
     ·simp only[iR] at hv
      obtain⟨_,_,_,_,hv⟩:=hv;split at hv
      ·rw[afd hv];exact iP _
      ·rw[afe hv];exact iP _
     ·cases hv
    ·cases hv
   simp only[bf,mF] at hop;obtain⟨⟨v1,σ1⟩,hv,rfl,rfl,rfl⟩:=hop;refine⟨rfl,?_⟩;unfold lg at hv;split at hv
   ·split at hv
    ·obtain⟨⟨v0,σ2⟩,hv,zL⟩:=bf.1 hv
     have:=(hS.call _ _ _ _ _ _ hv).1;rw[<-(congrArg Prod.snd zL:_=σ1),EH];exact this
    ·simp only[iR] at hv
     obtain⟨_,_,_,_,hv⟩:=hv;split at hv
     ·simp only[iE,mF] at hv
      rw[hv.2];exact iP _
     ·simp at hv
   ·exact aql hS.code hv
   ·simp at hv
  ·simp at hop
 ·simp at hop
 ·simp only[bf,mF] at hop
  obtain⟨⟨v1,σ1⟩,hv,rfl,rfl,rfl⟩:=hop;exact⟨rfl,by rw[(aeZ hv).1];exact iP _⟩
theorem Bg (hS:Sound E S)(ops:List Oper)(base:Nat):∀(l:List Nat)(fr:Fr)(σ:ak),opsL E S ops base l fr σ=some (fr',σ')->σ.next<=σ'.next:=by
 intro l;induction l with
 |nil=>intro fr σ h;simp only[opsL,iE,mF] at h;rw[h.2];exact iP _|cons i l ih=>
  intro fr σ h;simp only[opsL,iR] at h;obtain⟨⟨bM,σ1⟩,hs,h⟩:=h;refine dJ ?_ (ih _ _ h);unfold lQ at hs;split at hs
  ·simp only[iE,mF] at hs;rw[hs.2];exact iP _
  ·simp only[iR] at hs
   obtain⟨t,_,hs⟩:=hs;split at hs
   ·simp only[bf,mF] at hs
    obtain⟨⟨v,fI,σ2⟩,hop,rfl,rfl⟩:=hs;exact(aqC hS hop).2
   ·simp only[iE,mF] at hs;rw[hs.2];exact iP _
theorem U0 (hE:kQ E)(hS:Sound E S)(ops:Array Oper)(base:Nat)(hops:wH n ops.toList=true)(ro:Option Nat)(Q:Exit->Act->World->Prop):
 ∀(l:List Nat)(fr:Fr)(σ:ak)(K:aU)(w:World)(a:Act),opsL E S ops.toList base l fr σ=some (fr',σ')->l.Nodup->(∀i∈l,i<ops.size)->St E B0 σ K w fr a n ds->base+ops.size<=σ.next->(∀i∈l,¬K.A (base+i))->
  (∀a' K' w',St E B0 σ' K' w' fr' a' n ds->Step E B0 (fun s=>(base<=s/\s<base+ops.size)\/newer σ σ' s) σ K w σ' K' w'->Q .normal a' w')->wpOpsIn (kE ro) 0 E.P ops Q l a w:=by
 intro l;induction l with
 |nil=>intro fr σ K w a hl _ _ hs _ _ hq;simp only[opsL,iE,mF] at hl;obtain⟨rfl,rfl⟩:=hl;exact hq a K w hs (.refl hs.ok)
 |cons i l ih=>
  intro fr σ K w a hl hnd hlt hs hbase NQ hq;simp only[opsL,iR] at hl;obtain⟨⟨bM,σ1⟩,hstep,hl⟩:=hl;have hil:i∉l:=(uK.1 hnd).1;have hi:i<ops.size:=hlt i aD;have hoi:ops[i]? =some ops[i]:=by simp[hi]
  have aqD:ops.toList[i]? =some ops[i]:=by simpa using hoi
  simp only[lQ,aqD,iR] at hstep;obtain⟨t,hwv,hstep⟩:=hstep;have hw:=aqB hs.fr ops ops[i] (by rw[hs.sz];exact hops) hwv;have hdst:∀t,ops[i].dst=some t->t<n:=by intro t ht;simp only[wH,kG] at hops;have:=hops ops[i] aD;rw[ht] at this;simpa using this
  unfold wpOpsIn;simp only[hoi,hw];split at hstep
  ·rename_i hwt
   simp only[bf,mF] at hstep;obtain⟨⟨v,fI,σ2⟩,hop,rfl,rfl⟩:=hstep;obtain⟨rfl,hnx,hwp⟩:=aqy hE hS hs (NQ i aD) hop;dsimp only at hl;simp only[hwt,if_true];have hA1:∀{K1:aU}{w1:World},Step E B0 (fun s=>s=base+i\/newer σ σ2 s) σ K w σ2 K1 w1->(∀s,K1.A s->s<σ2.next)/\∀j∈l,¬K1.A (base+j):=by
    intro K1 w1 st;refine⟨fun s hsA=>?_,fun j hj aqE=>?_⟩
    ·rcases st.A s hsA with h1|h1|h1
     ·have:=hs.st s h1;omega
     ·omega
     ·exact h1.2
    ·have hji:j≠i:=fun e=>hil (e▸hj)
     rcases st.A _ aqE with h1|h1|h1
     ·exact NQ j Er h1
     ·omega
     ·have:=hlt j Er
      have:=h1.1;omega
   refine hwp _ _ ro (fun c w1 K1 hr st=>?_)
   ·obtain⟨hA2,hA3⟩:=hA1 st
    have hs1:St E B0 σ2 K1 w1 (fI.put ops[i].dst v) (a.put ops[i].dst c) n ds:=hs.put st hr hdst hA2;refine(ih _ _ K1 w1 _ hl (uK.1 hnd).2 (fun j hj=>hlt j Er) hs1 ah hA3) (fun a' K' w' hs' st'=>hq a' K' w' hs' ?_);refine(st.mono ?_).trans (st'.mono ?_)
    ·intro s h1
     rcases h1 with h1|h1
     ·exact .inl ⟨ah,ah⟩
     ·exact .inr ⟨h1.1,gM h1.2 (Bg hS _ _ _ _ _ hl)⟩
    ·intro s h1
     rcases h1 with h1|h1
     ·exact .inl h1
     ·exact .inr ⟨dJ hnx h1.1,h1.2⟩
  ·rename_i hwt
   simp only[iE,mF] at hstep;obtain⟨rfl,rfl⟩:=hstep;have hs1:St E B0 σ K w (fr.put ops[i].dst aL) (a.put ops[i].dst undef) n ds:=hs.put (new:=fun _=>False) (.refl hs.ok) (.undef _ _ _) hdst hs.st;have:=ih _ _ K w _ hl (uK.1 hnd).2 (fun j hj=>hlt j Er) hs1 hbase (fun j hj=>NQ j Er);simp only[hwt];exact⟨fun _ _=>trivial,this hq⟩
end
end aR
end
section
namespace aR
open Go
section
variable {X Key:Type}
def NR (step:Nat->X->Option X):List Nat->X->Option X
 | [],x=>some x|i::l,x=>(step i x).bind (NR step l)
theorem afg (n:Nat)(step:Nat->X->Option X)(fu:Key->X->X->Prop)(hrefl:∀k x,fu k x x)(Y4:∀k x y z,fu k x y->fu k y z->fu k x z)(s:Nat->X)(T W:Nat->Key->Prop)(NS:∀i k,W i k->T i k)(hloc:∀i,i<n->∀x,(∀k,T i k->fu k (s i) x)->∃y,step i x=some y/\(∀k,W i k->fu k (s (i+1)) y)/\(∀k,¬W i k->fu k x y))(hself:∀i,i<n->∀k,¬W i k->fu k (s i) (s (i+1)))(pre:Nat->Nat->Prop)(hap:∀i j,i<n->j<i->pre j i\/((∀k,¬(W i k/\T j k))/\∀k,¬(W j k/\T i k)))(aqF:∀k x y,fu k x y->fu k y x):
 ∀(l done:List Nat)(x:X),l.Nodup->(∀i∈l,i<n/\i∉done)->(∀i,i<n->i∈done\/i∈l)->
  (∀l1 i l2,l=l1++i::l2->∀j,pre j i->j∈done\/j∈l1)->(∀i∈done,∀j,pre j i->j∈done)->
  (∀k m,m<=n->(∀j,j<n->W j k->(j∈done↔j<m))->fu k (s m) x)->∃y,NR step l x=some y/\∀k,fu k (s n) y:=by
 have aqG:∀k a b,a<=b->b<=n->(∀j,a<=j->j<b->¬W j k)->fu k (s a) (s b):=by
  intro k a b hab hbn hw;induction b with
  |zero=>obtain rfl:a=0:=ah
         exact hrefl _ _
  |succ b ih=>
   by_cases e:a=b+1
   ·subst e;exact hrefl _ _
   ·exact Y4 _ _ _ _ (ih ah ah (fun j h1 h2=>hw j h1 ah)) (hself b ah k (hw b ah ah))
 intro l;induction l with
 |nil=>intro done x _ _ hall _ _ hinv;exact⟨x,rfl,fun k=>hinv k n (iP _) (fun j hj _=>⟨fun _=>hj,fun _=>by rcases hall j hj with h|h;exact h;cases h⟩)⟩
 |cons i l ih=>
  intro done x hnd hmem hall U1 hclosed hinv;obtain⟨hin,Y5⟩:=hmem i aD;have hil:i∉l:=(uK.1 hnd).1;have hpre:∀j,pre j i->j∈done:=fun j hj=>by
   rcases U1 [] i l rfl j hj with h|h
   ·exact h
   ·cases h
  have aqH:∀k,T i k->fu k (s i) x:=by
   intro k hk;refine hinv k i ah (fun j hj hw=>⟨fun hjd=>?_,fun hji=>?_⟩)
   ·rcases Nat.lt_trichotomy j i with h|h|h
    ·exact h
    ·subst h;exact absurd hjd Y5
    ·rcases hap j i hj h with hp| ⟨h1,_⟩
     ·exact absurd (hclosed j hjd i hp) Y5
     ·exact absurd ⟨hw,hk⟩ (h1 k)
   ·rcases hap i j hin hji with hp| ⟨_,h2⟩
    ·exact hpre j hp
    ·exact absurd ⟨hw,hk⟩ (h2 k)
  obtain⟨y,hy,aqI,hyn⟩:=hloc i hin x aqH;have aqJ:∀k m,m<=n->(∀j,j<n->W j k->(j∈i::done↔j<m))->fu k (s m) y:=by
   intro k m hm hj;by_cases hw:W i k
   ·have him:i<m:=(hj i hin hw).1 aD
    have h1:fu k (s (i+1)) (s m):=by
     refine aqG k (i+1) m him hm (fun j h1 h2 NT=>?_);have hjd:j∈done:=by
      have:=(hj j ah NT).2 h2;rcases fV.1 this with e|e
      ·omega
      ·exact e
     rcases hap j i ah ah with hp| ⟨h3,_⟩
     ·exact absurd (hclosed j hjd i hp) Y5
     ·exact h3 k ⟨NT,NS i k hw⟩
    exact Y4 _ _ _ _ (aqF _ _ _ h1) (aqI k hw)
   ·refine Y4 _ _ _ _ (hinv k m hm (fun j hjn NT=>?_)) (hyn k hw)
    have hji:j≠i:=fun e=>hw (e▸NT);rw[<-hj j hjn NT];simp[hji]
  obtain⟨z,hz,hzn⟩:=ih (i::done) y (uK.1 hnd).2
   (fun j hj=>⟨(hmem j Er).1,fun h=>by
     rcases fV.1 h with e|e
     ·exact hil (e▸hj)
     ·exact(hmem j Er).2 e⟩)
   (fun j hj=>by
     rcases hall j hj with h|h
     ·exact .inl Cx
     ·rcases fV.1 h with e|e
      ·exact .inl zn
      ·exact .inr e)
   (fun l1 j l2 hl k hk=>by
     rcases U1 (i::l1) j l2 (by rw[hl];rfl) k hk with h|h
     ·exact .inl Cx
     ·rcases fV.1 h with e|e
      ·exact .inl zn
      ·exact .inr e)
   (fun j hj k hk=>by
     rcases fV.1 hj with e|e
     ·subst e;simp[hpre k hk]
     ·simp[hclosed j e k hk])
   aqJ
  exact⟨z,by simp[NR,hy,hz],hzn⟩
end
section
variable {E:Env}{S:kH}{fr fr':Fr}{σ σ':ak}
theorem aqK {st:Nat}{o:Oper}(h:∀x∈o.op.operands.toList,fr'.ev E x=fr.ev E x)(hd:fr'.d=fr.d)(bO:fr'.aj=fr.aj):d9 E fr' σ st o=d9 E fr σ st o:=by
 cases ho:o.op;all_goals
  rw[ho] at h;unfold d9;simp only[ho]
 all_goals try (simp only[hd];done)
 case move x=>simp only[h x (show x∈[x] from jk.2 rfl),hd]
 case assign x=>simp only[h x (show x∈[x] from jk.2 rfl),hd]
 case pick c x y=>simp only[h c (show c∈[c,x,y] from iw),h x (show x∈[c,x,y] from iZ _ iw),h y (show y∈[c,x,y] from iZ _ (iZ _ iw)),hd]
 case box t x=>simp only[h x (show x∈[x] from jk.2 rfl),hd]
 case load t x=>simp only[h x (show x∈[x] from jk.2 rfl),hd]
 case nilCheck x=>simp only[h x (show x∈[x] from jk.2 rfl),hd]
 case unOp u t x=>simp only[h x (show x∈[x] from jk.2 rfl),hd]
 case convert t u x=>simp only[h x (show x∈[x] from jk.2 rfl),hd]
 case sliceToArrayPointer t x=>simp only[h x (show x∈[x] from jk.2 rfl),hd]
 case typeAssert x t u ok=>simp only[h x (show x∈[x] from jk.2 rfl),hd]
 case makeInterface t x=>simp only[h x (show x∈[x] from jk.2 rfl),hd]
 case fieldAddr t x f=>simp only[h x (show x∈[x] from jk.2 rfl),hd]
 case field t x f=>simp only[h x (show x∈[x] from jk.2 rfl),hd]
 case extract x f=>simp only[h x (show x∈[x] from jk.2 rfl),hd]
 case store t x y=>simp only[h x (show x∈[x,y] from iw),h y (show y∈[x,y] from iZ _ iw),hd,bO]
 case binOp b t x y u=>simp only[h x (show x∈[x,y] from iw),h y (show y∈[x,y] from iZ _ iw),hd,bO]
 case makeSlice t x y=>simp only[h x (show x∈[x,y] from iw),h y (show y∈[x,y] from iZ _ iw),hd,bO]
 case indexAddr t x y=>simp only[h x (show x∈[x,y] from iw),h y (show y∈[x,y] from iZ _ iw),hd,bO]
 case index t x y=>simp only[h x (show x∈[x,y] from iw),h y (show y∈[x,y] from iZ _ iw),hd,bO]
 case lookup t x y ok=>simp only[h x (show x∈[x,y] from iw),h y (show y∈[x,y] from iZ _ iw),hd,bO]
 case mapUpdate t x y z=>simp only[h x (show x∈[x,y,z] from iw),h y (show y∈[x,y,z] from iZ _ iw),h z (show z∈[x,y,z] from iZ _ (iZ _ iw)),hd]
 case insert t x y z=>simp only[h x (show x∈[x,y,z] from iw),h y (show y∈[x,y,z] from iZ _ iw),h z (show z∈[x,y,z] from iZ _ (iZ _ iw)),hd]
 case build t parts=>
  have:(parts.toList.map fun (i,x)=>(i,fr'.ev E x))=parts.toList.map fun (i,x)=>(i,fr.ev E x):=by refine GK (fun p hp=>?_);show (p.1,fr'.ev E p.2)=(p.1,fr.ev E p.2);rw[h p.2 (show p.2∈parts.toList.map (·.2) from xL.2 ⟨p,hp,rfl⟩)]
  simp only[this]
 case buildSlice t len parts=>
  have:(parts.toList.map fun (i,x)=>(i,fr'.ev E x))=parts.toList.map fun (i,x)=>(i,fr.ev E x):=by refine GK (fun p hp=>?_);show (p.1,fr'.ev E p.2)=(p.1,fr.ev E p.2);rw[h p.2 (show p.2∈parts.toList.map (·.2) from xL.2 ⟨p,hp,rfl⟩)]
  simp only[this,hd]
 case makeFunc fn a b=>
  have h1:a.toList.map (fr'.ev E)=a.toList.map (fr.ev E):=GK (fun x hx=>h x (show x∈(a++b).toList by simp at hx⊢;exact .inl hx));have h2:b.toList.map (fr'.ev E)=b.toList.map (fr.ev E):=GK (fun x hx=>h x (show x∈(a++b).toList by simp at hx⊢;exact .inr hx));cases fn<;>first|rfl|simp only[h1,h2]
 case makeMap t r=>cases r<;>simp only[hd]
 case slice t x lo hi mx=>
  have h0:∀y,y=x\/lo=some y\/hi=some y\/mx=some y->fr'.ev E y=fr.ev E y:=fun y hy=>h y (show y∈(#[x]++lo.toArray++hi.toArray++mx.toArray).toList by rcases hy with rfl|rfl|rfl|rfl<;>simp);have hx:fr'.ev E x=fr.ev E x:=h0 x (.inl rfl);have h1:pz E fr' lo=pz E fr lo:=by
   cases lo with
   |none=>rfl|some y=>simp only[pz];rw[h0 y aD]
  have h2:pz E fr' hi=pz E fr hi:=by
   cases hi with
   |none=>rfl|some y=>simp only[pz];rw[h0 y aD]
  have h3:pz E fr' mx=pz E fr mx:=by
   cases mx with
   |none=>rfl|some y=>simp only[pz];rw[h0 y aD]
  simp only[hx,h1,h2,h3]
theorem aqL {st:Nat}{o:Oper}(h:∀x∈o.op.operands.toList,fr'.ev E x=fr.ev E x)(hd:fr'.d=fr.d)(bO:fr'.aj=fr.aj):
 opC E S fr' σ st o=(opC E S fr σ st o).map fun (v,_,σ1)=>(v,fr',σ1):=by
 cases ho:o.op;case call c=>
  have h:∀x∈c.operands.toList,fr'.ev E x=fr.ev E x:=by rw[ho] at h;exact h
  unfold opC;simp only[ho];have hargs:c.args.toList.map (fr'.ev E)=c.args.toList.map (fr.ev E):=GK (fun x hx=>h x (by simp[Call.operands] at hx⊢;exact .inr hx));split
  ·simp only[hargs,hd,bO]
   cases nK E fr.aj (o.dst.map fun t=>(fr.d,E.cn t)) σ st _ c.argTypes (c.args.toList.map (fr.ev E))<;>rfl
  ·rename_i f hc
   have hf:fr'.ev E f=fr.ev E f:=h f (by simp[Call.operands,hc]);have fT:lq E fr' o f=lq E fr o f:=by unfold lq;rw[hf]
   simp only[hargs,hd,hf,fT];cases lq E fr o f
   ·cases lg E S fr.d (o.dst.map E.cn) σ (fr.ev E f) (c.args.toList.map (fr.ev E))<;>rfl
   ·cases qo E S σ st (o.dst.map fun t=>(fr.d,E.cn t)) (fr.ev E f) (c.args.toList.map (fr.ev E))<;>rfl
  ·rfl
 case defer=>unfold opC;simp only[ho];rfl
 all_goals
  have:=aqK (σ:=σ) (st:=st) h hd bO;unfold opC;simp only[ho];rw[this];cases d9 E fr σ st o<;>rfl
theorem EI {loc:Loc}{s:Nat}(h:σ'.obj loc=σ.obj loc):σ'.bQ loc s=σ.bQ loc s:=by simp only[ak.bQ,h]
theorem Y6 {loc:Loc}{s:Nat}(h:σ'.obj loc=σ.obj loc):σ'.gB loc s=σ.gB loc s:=by simp only[ak.gB,h]
def iQ (σ σ':ak)(k:Key):Prop:=match k with
 |.obj l=>σ'.obj l=σ.obj l|.top=>σ'.top=σ.top|_=>True
def Reads (σ σ':ak)(r r':Option (V×ak)):Prop:=∀v σ1,r=some (v,σ1)->σ1=σ/\r'=some (v,σ')
theorem oM {v:V}:Reads σ σ' (some (v,σ)) (some (v,σ')):=fun v σ1 h=>by
 simp only[iE,mF] at h;exact⟨h.2.symm,by rw[h.1]⟩
theorem pO {α:Type}{r:Option α}(f:α->V):Reads σ σ' (r.map fun v=>(f v,σ)) (r.map fun v=>(f v,σ')):=by
 cases r with
 |none=>intro v σ1 h;cases h|some x=>exact oM
theorem uW {r:Option (V×ak)}:Reads σ σ' none r:=fun _ _ h=>bL
theorem Df {α:Type}{r:Option α}{f g:α->Option (V×ak)}(h:∀x,Reads σ σ' (f x) (g x)):Reads σ σ' (r.bind f) (r.bind g):=by
 cases r with
 |none=>exact uW|some x=>exact h x
theorem U2 {c:Prop}[Decidable c]{r r' s s':Option (V×ak)}(h1:Reads σ σ' r r')(h2:Reads σ σ' s s'):Reads σ σ' (if c then r else s) (if c then r' else s'):=by split<;>assumption
theorem aqM {src dst:TypeId}{x:V}(h:∀k∈ji x,iQ σ σ' k):CP E.P σ' src dst x=CP E.P σ src dst x:=by
 unfold CP;generalize E.P.underlying src=u1;generalize E.P.underlying dst=u2;cases u1 with
 |none=>cases x<;>cases u2<;>rfl|some d1=>
  cases u2 with
  |none=>cases x<;>cases d1<;>rfl|some d2=>
   cases x with
   |aM loc s off len cap bZ ag=>have h1:σ'.obj loc=σ.obj loc:=h (.obj loc) Cv;cases d2<;>cases d1<;>first|rfl|simp only[EI h1]
   |_=>cases d2<;>first|rfl| (cases d1<;>rfl)
theorem aqN {t:TypeId}{x:V}{lo hi mx:Option V}(h:∀k∈ji x,iQ σ σ' k):wB E.P σ' t x lo hi mx=wB E.P σ t x lo hi mx:=by
 unfold wB;generalize E.P.underlying t=u1;cases u1 with
 |none=>cases x<;>rfl|some d1=>
  cases x with
  |ref loc s off=>have h1:σ'.obj loc=σ.obj loc:=h (.obj loc) Cv;cases d1<;>first|rfl|simp only[EI h1]
  |_=>cases d1<;>rfl
theorem aqO {t:TypeId}{x k:V}{ok:Bool}(h:∀k∈ji x,iQ σ σ' k):zB E.P σ' t x k ok=zB E.P σ t x k ok:=by
 unfold zB;cases x with
 |cu loc s=>have h1:σ'.obj loc=σ.obj loc:=h (.obj loc) Cv;simp only[Y6 h1]|_=>rfl
theorem aqP {t:TypeId}{x:V}(h:∀k∈ji x,iQ σ σ' k):rV E σ' t x=rV E σ t x:=by
 unfold rV;generalize E.P.underlying t=u1;cases u1 with
 |none=>cases x<;>rfl|some d1=>
  cases x with
  |cu loc s=>have h1:σ'.obj loc=σ.obj loc:=h (.obj loc) Cv;cases d1<;>first|rfl|simp only[Y6 h1]
  |_=>cases d1<;>rfl
theorem afh {ag:Bool}{sz:Nat}{z x:V}(h:∀k∈ji x,iQ σ σ' k):tF σ' ag sz z x=tF σ ag sz z x:=by
 unfold tF;cases x with
 |aM loc s off len cap bZ ag=>have h1:σ'.obj loc=σ.obj loc:=h (.obj loc) Cv;simp only[EI h1]|_=>rfl
def Local (W:Key->Prop)(σ σ':ak)(r r':Option (V×ak)):Prop:=
 ∀v σ1,r=some (v,σ1)->∃yh,r'=some (v,yh)/\tL σ σ1/\tL σ' yh/\(∀k,W k->iQ σ1 yh k)/\(∀k,¬W k->iQ σ σ1 k)/\∀k,¬W k->iQ σ' yh k
theorem iQ.refl (σ:ak)(k:Key):iQ σ σ k:=by cases k<;>simp[iQ]
theorem iQ.chain {σ1 yh:ak}{k:Key}(h:iQ σ σ' k)(h1:iQ σ σ1 k)(h2:iQ σ' yh k):iQ σ1 yh k:=by
 cases k with
 |obj l=>exact Eq.trans (show yh.obj l=σ'.obj l from h2) (Eq.trans (show σ'.obj l=σ.obj l from h) (show σ1.obj l=σ.obj l from h1).symm)|top=>exact Eq.trans (show yh.top=σ'.top from h2) (Eq.trans (show σ'.top=σ.top from h) (show σ1.top=σ.top from h1).symm)|slot t=>trivial|rest=>trivial|nx=>trivial
theorem Reads.local {r r':Option (V×ak)}(h:Reads σ σ' r r'):Local (fun k=>k∈([]:List Key)) σ σ' r r':=fun v σ1 hr=>by
 obtain⟨h1,h2⟩:=h v σ1 hr;subst h1;exact⟨σ',h2,.refl _,.refl _,fun k hk=>absurd hk (List.not_mem_nil),fun k _=>.refl _ _,fun k _=>.refl _ _⟩
theorem Local.mono {W W':Key->Prop}{r r':Option (V×ak)}(h:Local W σ σ' r r')(hW:∀k,W k->W' k)(hT:∀k,W' k->iQ σ σ' k):Local W' σ σ' r r':=fun v σ1 hr=>by
 obtain⟨yh,h1,h2,h3,h4,h5,h6⟩:=h v σ1 hr;refine⟨yh,h1,h2,h3,fun k hk=>?_,fun k hk=>h5 k (fun hw=>hk (hW k hw)),fun k hk=>h6 k (fun hw=>hk (hW k hw))⟩;by_cases hw:W k
 ·exact h4 k hw
 ·exact(hT k hk).chain (h5 k hw) (h6 k hw)
theorem afi {loc:Loc}{st:Nat}{ob:iN}{k:Key}(hk:k∉[Key.obj loc]):iQ σ (σ.setObj loc st ob) k:=by
 cases k with
 |obj l=>have:l≠loc:=fun e=>hk zn;show upd σ.obj loc _ l=σ.obj l;simp[upd,this]
 |top=>rfl|slot t=>trivial|rest=>trivial|nx=>trivial
theorem afj {s n:Nat}{k:Key}(hk:k∉[Key.top]):iQ σ (σ.dR s n) k:=by
 cases k with
 |obj l=>rfl|top=>exact absurd aD hk|slot t=>trivial|rest=>trivial|nx=>trivial
theorem zM {loc:Loc}{st:Nat}{ob:iN}{v:V}:Local (fun k=>k∈[Key.obj loc]) σ σ' (some (v,σ.setObj loc st ob)) (some (v,σ'.setObj loc st ob)):=fun v1 σ1 h=>by
 simp only[iE,mF] at h;obtain⟨rfl,rfl⟩:=h;refine⟨_,rfl,⟨rfl,rfl⟩,⟨rfl,rfl⟩,fun k hk=>?_,fun k hk=>afi hk,fun k hk=>afi hk⟩;obtain rfl:k= .obj loc:=M7
 show upd σ'.obj loc _ loc=upd σ.obj loc _ loc;simp[upd]
theorem dM {W:Key->Prop}{r:Option (V×ak)}:Local W σ σ' none r:=fun _ _ h=>bL
theorem jL {W:Key->Prop}{α:Type}{r:Option α}{f g:α->Option (V×ak)}(h:∀x,Local W σ σ' (f x) (g x)):Local W σ σ' (r.bind f) (r.bind g):=by
 cases r with
 |none=>exact dM|some x=>exact h x
theorem l5 {W:Key->Prop}{c:Prop}[Decidable c]{r r' s s':Option (V×ak)}(h1:Local W σ σ' r r')(h2:Local W σ σ' s s'):Local W σ σ' (if c then r else s) (if c then r' else s'):=by split<;>assumption
theorem Hz (ht:σ'.top=σ.top){s n:Nat}{v:V}:Local (fun k=>k∈[Key.top]) σ σ' (some (v,σ.dR s n)) (some (v,σ'.dR s n)):=fun v1 σ1 h=>by
 simp only[iE,mF] at h;obtain⟨rfl,rfl⟩:=h;refine⟨_,rfl,⟨rfl,rfl⟩,⟨rfl,rfl⟩,fun k hk=>?_,fun k hk=>afj hk,fun k hk=>afj hk⟩;obtain rfl:k= .top:=M7
 show upd σ'.top s n=upd σ.top s n;rw[ht]
theorem afk {W:Key->Prop}{α:Type}{r:Option α}{f g:α->V×ak}(h:∀x,Local W σ σ' (some (f x)) (some (g x))):Local W σ σ' (r.map f) (r.map g):=by
 cases r with
 |none=>exact dM|some x=>exact h x
theorem afl {t:TypeId}{m k v:V}(h:∀q∈ji m,iQ σ σ' q):
 Local (fun q=>q∈ji m) σ σ' ((uO E.P σ t m k v).map fun σ=>(aL,σ)) ((uO E.P σ' t m k v).map fun σ=>(aL,σ)):=by
 unfold uO;cases wz E.P t with
 |none=>exact dM|some p=>
  simp only[Option.bind_some];split
  ·cases m with
   |cu loc s=>
    have h1:σ'.obj loc=σ.obj loc:=h (.obj loc) Cv;simp only[Y6 h1];cases σ.gB loc s with
    |none=>exact dM|some q=>simp only[Option.bind_some,Option.map_map];exact afk (fun x=>zM)
   |_=>exact dM
  ·exact dM
theorem aqQ {fr:Fr}{st:Nat}{o:Oper}{t:TypeId}{l c:V}(h:∀q∈Key.top::uR fr o,iQ σ σ' q):
 Local (fun q=>q∈Key.top::uR fr o) σ σ' (wC E.P fr.aj σ st (o.dst.map fun t=>(fr.d,t)) t l c) (wC E.P fr.aj σ' st (o.dst.map fun t=>(fr.d,t)) t l c):=by
 unfold wC;refine jL (fun e=>jL (fun sz=>jL (fun iO=>jL (fun z=>jL (fun n=>jL (fun m=>l5 (l5 ?_ ?_) dM))))))
 ·exact(Hz (h .top aD)).mono (fun k hk=>by simp at hk;simp[hk]) h
 ·cases hd:o.dst with
  |none=>exact dM|some d=>simp only[Option.map_some,Option.bind_some];exact afk (fun ag=>zM.mono (fun k hk=>by simp at hk;simp[hk,uR,hd]) (by simpa [uR,hd] using h))
theorem Y7 {zeros:Bool}{st:Nat}{loc:Option Loc}{t:TypeId}{x y:V}(hy:∀q∈ji y,iQ σ σ' q)(ht:σ'.top=σ.top):
 Local (fun q=>q∈[Key.top]) σ σ' (mR E.P false zeros σ st loc t x y) (mR E.P false zeros σ' st loc t x y):=by
 unfold mR;refine jL (fun e=>jL (fun sz=>jL (fun iO=>jL (fun ag=>jL (fun z=>l5 ?_ dM)))));rw[afh hy];refine jL (fun ys=>l5 ?_ dM);cases x with
 |ay c l=>
  simp only;refine l5 ?_ dM;cases c with
  |own n s=>simp only[ht];exact l5 (Hz ht) dM|nil=>exact Hz ht|full=>exact Hz ht|sh=>exact dM
 |aM jH s off len cap bZ EF=>simp only[dL,false_and,and_false,if_false];exact dM|_=>exact dM
theorem aqR {loc loc':Loc}{st:Nat}{ob:iN}{v:V}:Local (fun k=>k∈[Key.obj loc,Key.obj loc']) σ σ' (some (v,(σ.eu loc').setObj loc st ob)) (some (v,(σ'.eu loc').setObj loc st ob)):=fun v1 σ1 h=>by
 simp only[iE,mF] at h;obtain⟨rfl,rfl⟩:=h;have key:∀(σ:ak)(k:Key),k∉[Key.obj loc,Key.obj loc']->iQ σ ((σ.eu loc').setObj loc st ob) k:=by
  intro σ k hk;cases k with
  |obj l=>have h1:l≠loc:=fun e=>hk zn;have h2:l≠loc':=fun e=>hk zn;show upd (upd σ.obj loc' none) loc _ l=σ.obj l;simp[upd,h1,h2]
  |top=>rfl|slot t=>trivial|rest=>trivial|nx=>trivial
 refine⟨_,rfl,⟨rfl,rfl⟩,⟨rfl,rfl⟩,fun k hk=>?_,fun k hk=>key _ k hk,fun k hk=>key _ k hk⟩;rcases fV.1 hk with rfl|hk
 ·show upd (upd σ'.obj loc' none) loc _ loc=upd (upd σ.obj loc' none) loc _ loc
  simp[upd]
 ·obtain rfl:k= .obj loc':=M7
  show upd (upd σ'.obj loc' none) loc _ loc'=upd (upd σ.obj loc' none) loc _ loc';by_cases h:loc'=loc
  ·simp[upd,h]
  ·simp[upd,h]
theorem Y8 {zeros:Bool}{st:Nat}{loc:Option Loc}{t:TypeId}{x y:V}{W:List Key}(hx:∀q∈ji x,q∈W)(hl:∀l,loc=some l->Key.obj l∈W)(hy:∀q∈ji y,iQ σ σ' q)(hW:∀q∈W,iQ σ σ' q):
 Local (fun q=>q∈W) σ σ' (mR E.P true zeros σ st loc t x y) (mR E.P true zeros σ' st loc t x y):=by
 have hs:∀v:V,Local (fun q=>q∈W) σ σ' (some (v,σ)) (some (v,σ')):=fun v=>(oM (σ:=σ) (σ':=σ')).local.mono (fun k hk=>Es) hW;unfold mR;refine jL (fun e=>jL (fun sz=>jL (fun iO=>jL (fun ag=>jL (fun z=>l5 ?_ dM)))));rw[afh hy];refine jL (fun ys=>l5 ?_ dM);cases x with
 |ay c l=>
  simp only;refine l5 ?_ dM;cases c with
  |own n s=>exact dM|nil=>cases loc with
   |none=>exact dM|some loc=>exact zM.mono (fun k hk=>by rw[jk.1 hk];exact hl _ rfl) hW
  |full=>
   refine l5 (hs _) ?_;cases loc with
   |none=>exact dM|some loc=>exact zM.mono (fun k hk=>by rw[jk.1 hk];exact hl _ rfl) hW
  |sh=>exact dM
 |aM jH s off len cap bZ EF=>
  have h0:Key.obj jH∈W:=hx _ Cv;simp only;refine l5 ?_ dM;cases loc with
  |none=>exact dM|some loc=>
   simp only[Option.bind_some];rw[EI (show σ'.obj jH=σ.obj jH from hW _ h0)];refine jL (fun cs=>l5 (l5 ?_ dM) (l5 ?_ dM))
   ·exact zM.mono (fun k hk=>by rw[jk.1 hk];exact h0) hW
   ·refine aqR.mono (fun k hk=>?_) hW
    rcases fV.1 hk with rfl|hk
    ·exact hl _ rfl
    ·rw[jk.1 hk];exact h0
 |_=>exact dM
theorem U3 {aj:Bool}{loc:Option Loc}{st:Nat}{b:Builtin}{tys:Array TypeId}{args:List V}(hb:b= .len\/b= .cap\/b= .min\/b= .max)(h:∀x∈args,∀q∈ji x,iQ σ σ' q):
 Reads σ σ' (nK E aj loc σ st b tys args) (nK E aj loc σ' st b tys args):=by
 rcases hb with rfl|rfl|rfl|rfl
 ·rcases args with _| ⟨x,_| ⟨y,l⟩⟩
  ·exact uW
  ·refine Df (fun t=>?_)
   rw[aqP (h x aD)];exact pO _
  ·exact uW
 ·rcases args with _| ⟨x,_| ⟨y,l⟩⟩
  ·exact uW
  ·refine Df (fun t=>Df (fun e=>?_))
   cases x with
   |ay c l=>cases c<;>first|exact oM|exact uW
   |_=>exact uW
  ·exact uW
 ·rcases args with _| ⟨x,l⟩
  ·exact uW
  ·exact pO _
 ·rcases args with _| ⟨x,l⟩
  ·exact uW
  ·exact pO _
theorem aqS {loc:Option Loc}{st:Nat}{tys:Array TypeId}{args:List V}(h:∀x∈args,∀q∈ji x,iQ σ σ' q)(ht:σ'.top=σ.top):
 Local (fun q=>q∈[Key.top]) σ σ' (nK E false loc σ st .append tys args) (nK E false loc σ' st .append tys args):=by
 rcases args with _| ⟨x,_| ⟨y,_| ⟨z,l⟩⟩⟩
 ·exact dM
 ·exact dM
 ·refine jL (fun t=>jL (fun u=>?_))
  split
  ·exact Y7 (h y aD) ht
  ·exact Y7 (h y aD) ht
  ·exact Y7 (h y aD) ht
  ·exact dM
 ·exact dM
theorem aqT {loc:Option Loc}{st:Nat}{tys:Array TypeId}{args:List V}{W:List Key}(hx:∀x∈args,∀q∈ji x,q∈W)(hl:∀l,loc=some l->Key.obj l∈W)(hW:∀q∈W,iQ σ σ' q):
 Local (fun q=>q∈W) σ σ' (nK E true loc σ st .append tys args) (nK E true loc σ' st .append tys args):=by
 rcases args with _| ⟨x,_| ⟨y,_| ⟨z,l⟩⟩⟩
 ·exact dM
 ·exact dM
 ·have h1:∀q∈ji x,q∈W:=hx x aD
  have h2:∀q∈ji y,iQ σ σ' q:=fun q hq=>hW q (hx y aD q hq);refine jL (fun t=>jL (fun u=>?_));split
  ·exact Y8 h1 hl h2 hW
  ·exact Y8 h1 hl h2 hW
  ·exact Y8 h1 hl h2 hW
  ·exact dM
 ·exact dM
end
section
variable {E:Env}{S:kH}{fr fr':Fr}{σ σ':ak}
theorem afm {loc:Loc}{k:Key}(hk:k∉[Key.obj loc]):iQ σ (σ.eu loc) k:=by
 cases k with
 |obj l=>have:l≠loc:=fun e=>hk zn;show upd σ.obj loc none l=σ.obj l;simp[upd,this]
 |top=>rfl|slot t=>trivial|rest=>trivial|nx=>trivial
theorem aqU {loc:Loc}{v:V}:Local (fun k=>k∈[Key.obj loc]) σ σ' (some (v,σ.eu loc)) (some (v,σ'.eu loc)):=fun v1 σ1 h=>by
 simp only[iE,mF] at h;obtain⟨rfl,rfl⟩:=h;refine⟨_,rfl,⟨rfl,rfl⟩,⟨rfl,rfl⟩,fun k hk=>?_,fun k hk=>afm hk,fun k hk=>afm hk⟩;obtain rfl:k= .obj loc:=M7
 show upd σ'.obj loc none loc=upd σ.obj loc none loc;simp[upd]
theorem aqV {x:V}(h:∀k,k∈ji x->iQ σ σ' k):Local (fun k=>k∈ji x) σ σ' (xU σ x) (xU σ' x):=by
 cases x with
 |aM loc s off len cap bZ ag=>have h1:σ'.obj loc=σ.obj loc:=h (.obj loc) Cv;simp only[xU,EI h1];exact jL (fun cs=>l5 aqU dM)
 |_=>exact oM.local.mono (fun k hk=>Es) h
theorem aqW {st:Nat}{o:Oper}(hc:∀c,o.op≠ .call c)(hw:(jw E fr o).oH=false)(h:∀k,k∈(jw E fr o).t\/k∈(jw E fr o).w->iQ σ σ' k):
 Local (fun k=>k∈(jw E fr o).w) σ σ' (d9 E fr σ st o) (d9 E fr σ' st o):=by
 cases ho:o.op<;>simp only[jw,ho,gT,reduceCtorEq,Bool.true_eq_false] at hw;case call c=>exact absurd ho (hc c)
 all_goals
  simp only[jw,ho,nX,mq] at h;simp only[jw,ho,nX,mq];unfold d9;simp only[ho]
 case move x=>
  by_cases hz:zG E o.dst=true
  ·simp only[hz,if_true] at h⊢
   exact aqV (fun k hk=>h k (.inr hk))
  ·simp only[hz,dL,if_false]
   exact oM.local
 case assign=>exact oM.local
 case pick=>exact(pO _).local
 case alloc t=>
  cases hd:o.dst with
  |none=>exact dM|some d=>simp only[Option.map_some,Option.bind_some,uR,hd];exact jL (fun z=>l5 zM dM)
 case box t x=>
  by_cases hz:AZ E t o.dst=true
  ·simp only[hz,if_true]
   exact(U2 oM uW).local.mono (fun k hk=>Es) (fun k hk=>h k (.inr hk))
  ·simp only[hz,dL,if_false]
   cases hd:o.dst with
   |none=>exact dM|some d=>simp only[Option.map_some,Option.bind_some,uR,hd];exact l5 zM dM
 case build t parts=>exact(Df (fun _=>Df (fun _=>pO _))).local
 case buildSlice t len parts=>
  by_cases hz:CQ E o.dst=true
  ·simp[hz,gT] at hw
  ·simp only[hz,dL,if_false]
   exact(pO _).local.mono (fun k hk=>Es) (fun k hk=>Es)
 case load t a=>
  cases hx:fr.ev E a with
  |ref loc s off=>have h1:σ'.obj loc=σ.obj loc:=h (.obj loc) (by simp[hx,ji]);simp only[EI h1];exact(Df (fun _=>pO _)).local
  |aY cs off=>exact(pO _).local|_=>exact dM
 case store t a x=>
  cases hx:fr.ev E a with
  |ref loc s off=>have h1:σ'.obj loc=σ.obj loc:=h (.obj loc) (by simp[hx,ji]);simp only[EI h1];exact jL (fun _=>l5 zM dM)
  |_=>exact dM
 case nilCheck x=>
  cases hx:fr.ev E x with
  |ref loc s off=>exact oM.local|aY cs off=>exact oM.local|fn f a b=>cases f<;>first|exact oM.local|exact dM
  |_=>exact dM
 case binOp=>exact(pO _).local
 case unOp=>exact(pO _).local
 case convert a b x=>rw[aqM (fun k hk=>h k (.inl hk))];exact(pO _).local
 case sliceToArrayPointer t x=>
  refine jL (fun p=>?_);cases hx:fr.ev E x with
  |aM loc s off len cap bZ ag=>exact(U2 oM uW).local|ay c l=>exact(U2 oM uW).local|_=>exact dM
 case typeAssert=>exact(pO _).local
 case makeInterface t x=>
  split
  ·exact dM
  ·exact oM.local
  ·exact dM
 case makeFunc f a b=>cases f<;>first|exact oM.local|exact dM
 case makeMap t r=>
  cases r with
  |some _=>exact dM|none=>
   cases hd:o.dst with
   |none=>exact dM|some d=>simp only[Option.map_some,uR,hd];exact zM
 case makeSlice t l c=>exact aqQ (fun q hq=>h q (.inr hq))
 case slice t x lo hi mx=>rw[aqN (fun k hk=>h k (.inl hk))];exact(pO _).local
 case fieldAddr t x f=>
  refine jL (fun p=>?_);cases hx:fr.ev E x with
  |ref loc s off=>exact oM.local|aY cs off=>exact oM.local|_=>exact dM
 case field t x f=>
  refine jL (fun p=>?_);cases hx:fr.ev E x with
  |agg cs=>exact(pO _).local|_=>exact dM
 case indexAddr=>exact(pO _).local
 case index=>exact(pO _).local
 case lookup t x i ok=>rw[aqO (fun k hk=>h k (.inl hk))];exact(pO _).local
 case mapUpdate t m k v=>exact afl (fun q hq=>h q (.inr hq))
 case insert t m k v=>exact afl (fun q hq=>h q (.inr hq))
 case extract x i=>
  cases hx:fr.ev E x with
  |bB vs=>exact(pO _).local|_=>exact dM
theorem NU {α β:Type}{f g:α->Option β}:∀{l:List α},(∀x∈l,f x=g x)->l.mapM f=l.mapM g
 | [],_=>rfl|a::l,h=>by simp only[j5];rw[h a aD,NU (fun x hx=>h x zm)]
theorem Y9 {n:Nat}{x:V}(hp:aW x=true):bG n σ' x=bG n σ x:=by
 cases n with
 |zero=>rfl|succ n=>unfold bG;simp only[hp,if_true]
theorem afn {l:List V}{x:V}(h:x∈l):∃i,∃hi:i<l.length,x=l[i]:=by obtain⟨i,hi,e⟩:=GJ.1 h;exact⟨i,hi,e.symm⟩
theorem afo {n:Nat}{c:Cap}{l:List V}(hp:cB l=true):bG n σ' (.ay c l)=bG n σ (.ay c l):=by
 cases n with
 |zero=>rfl|succ n=>
  unfold bG;split
  ·rfl
  ·simp only
   rw[NU (fun x hx=>?_)];obtain⟨i,hi,rfl⟩:=afn hx;exact Y9 (NJ hp hi)
theorem aqX {n:Nat}{x:V}(hp:aW (fB x)=true):bG n σ' x=bG n σ x:=by
 cases x with
 |ay c l=>exact afo (by simpa [fB,aW] using hp)|_=>exact Y9 hp
theorem afp {n:Nat}{x:V}(hp:aW (er x)=true):bG n σ' x=bG n σ x:=by
 cases x with
 |ay c l=>exact afo Uk|agg cs=>
  have hp':cB (cs.map fB)=true:=Uk
  cases n with
  |zero=>rfl|succ n=>
   unfold bG;split
   ·rfl
   ·simp only
    rw[NU (fun x hx=>?_)];obtain⟨i,hi,rfl⟩:=afn hx;refine aqX ?_;have:=NJ hp' (i:=i) jm;simpa using this
 |_=>exact Y9 hp
theorem aqY {d:Nat}{dst:Option Nat}{g:FuncId}{a b args:List V}(hi:E.imp g=false)(hp:(a++args++b).all (fun v=>aW (er v))=true):
 Reads σ σ' (lg E S d dst σ (.fn (.func g) a b) args) (lg E S d dst σ' (.fn (.func g) a b) args):=by
 unfold lg;simp only[hi,dL,if_false];rw[NU (f:=bG 20 σ') (g:=bG 20 σ) (fun x hx=>afp (by simp only[kG] at hp;exact hp x hx))];exact Df (fun dz=>Df (fun v=>U2 oM uW))
theorem aqZ {d:Nat}{dst:Option Nat}{g:FuncId}{a b args:List V}(hi:E.imp g=false){v:V}{σ1:ak}(h:lg E S d dst σ (.fn (.func g) a b) args=some (v,σ1)):σ1=σ:=by
 unfold lg at h;simp only[hi,dL,if_false,iR] at h;obtain⟨_,_,_,_,h⟩:=h;split at h
 ·simp only[iE,mF] at h;exact h.2.symm
 ·simp at h
theorem fu.refl (k:Key)(x:Fr×ak):fu k x x:=by cases k<;>simp[fu]
theorem fu.symm {k:Key}{x y:Fr×ak}(h:fu k x y):fu k y x:=by
 cases k with
 |slot t=>exact Eq.symm h|obj l=>exact Eq.symm h|top=>exact Eq.symm h|rest=>exact⟨h.1.symm,h.2.symm⟩|nx=>exact⟨h.1.symm,h.2.symm⟩
theorem fu.trans {k:Key}{x y z:Fr×ak}(h:fu k x y)(g:fu k y z):fu k x z:=by
 cases k with
 |slot t=>exact Eq.trans h g|obj l=>exact Eq.trans h g|top=>exact Eq.trans h g|rest=>exact⟨h.1.trans g.1,h.2.trans g.2⟩|nx=>exact⟨h.1.trans g.1,h.2.trans g.2⟩
theorem fu.all {x y:Fr×ak}(h:∀k,fu k x y):x=y:=by obtain⟨⟨d,aj,tm⟩,⟨nx,top,obj,lp⟩⟩:=x;obtain⟨⟨d',aEz,tm'⟩,⟨nx',top',NV,afq⟩⟩:=y;obtain⟨h1,h2⟩:=h .rest;obtain⟨h3,h4⟩:=h .nx;have h5:top=top':=h .top;have h6:obj=NV:=funext fun l=>h (.obj l);have h7:tm=tm':=funext fun t=>h (.slot t);simp only at h1 h2 h3 h4;subst h1 h2 h3 h4 h5 h6 h7;rfl
def dO.T (f:dO)(k:Key):Prop:=k= .rest\/k∈f.t\/k∈f.w\/((f.rY=true\/f.oH=true)/\k.state=true)
def dO.W (f:dO)(k:Key):Prop:=k∈f.w\/(f.oH=true/\k.state=true)
theorem dO.afr {f:dO}{k:Key}(h:f.W k):f.T k:=by
 rcases h with h| ⟨h,h1⟩
 ·exact .inr (.inr (.inl h))
 ·exact .inr (.inr (.inr ⟨.inr h,h1⟩))
end
theorem afs {α:Type}{p q:α->Bool}{a:α}:∀{l:List α},(∀x,q x=true->p x=true)->a∈l->p a=true->q a=false->l.countP q<l.countP p
 | [],_,h,_,_=>bL|x::l,Za,hm,hp,hq=>by
  rw[List.countP_cons,List.countP_cons];have hle:l.countP q<=l.countP p:=List.countP_mono_left (fun x _ h=>Za x h);rcases fV.1 hm with e|e
  ·subst e
   simp only[hp,hq,if_true];have:(if false=true then 1 else 0)=0:=rfl;omega
  ·have:=afs Za e hp hq
   by_cases hx:q x=true
   ·have:=Za x hx
    simp only[hx,this,if_true];omega
   ·have hx':q x=false:=by simpa using hx
    rw[hx'];have h0:(if false=true then 1 else 0:Nat)=0:=rfl;rw[h0];omega
structure Dh (md:Region.Mode)(ops:Array Oper)(done l:List Nat):Prop where
 nodup:l.Nodup
 mem:∀i∈l,i<ops.size/\i∉done
 all:∀i,i<ops.size->i∈done\/i∈l
 ord:∀l1 i l2,l=l1++i::l2->∀o,ops[i]? =some o->∀e∈o.after.toList,Region.binds md e=true->e.on∈done\/e.on∈l1
theorem go_acc (md:Region.Mode)(ops:Array Oper):∀(fuel t:Nat)(listed:Array Bool)(acc:List Nat),
 Region.linearise.go md ops fuel t listed acc=acc.reverse++Region.linearise.go md ops fuel t listed []:=by
 intro fuel;induction fuel with
 |zero=>intro t listed acc;simp[Region.linearise.go]|succ fuel ih=>
  intro t listed acc;simp only[Region.linearise.go];split
  ·rename_i i _
   rw[ih _ _ (i::acc),ih _ _ [i]];simp
  ·simp
theorem go_ok (ops:Array Oper)(su:rZ ops.toList=true):∀(fuel t:Nat)(listed:Array Bool)(done:List Nat),
 listed.size=ops.size->(∀i,i<ops.size->(listed.getD i true=true↔i∈done))->(List.range ops.size).countP (fun i=>decide (i∉done))<=fuel->
 Dh .any ops done (Region.linearise.go .any ops fuel t listed []):=by
 have Zb:∀(i:Nat)(o:Oper),ops[i]? =some o->∀e∈o.after.toList,Region.binds .any e=true->e.on<i:=by
  intro i o ho e he hb;have hi:i<ops.size:=by
   rcases Nat.lt_or_ge i ops.size with h|h
   ·exact h
   ·rw[Array.getElem?_eq_none h] at ho;cases ho
  simp only[rZ,kG] at su;have:=su i jm;have ho':ops.toList[i]? =some o:=by simpa using ho
  rw[ho'] at this;simp only[kG] at this;simpa [hb] using this e he
 intro fuel;induction fuel with
 |zero=>
  intro t listed done hsz hl hf;refine⟨by simp[Region.linearise.go],by simp[Region.linearise.go],fun i hi=>?_,fun l1 i l2 h=>by simp[Region.linearise.go] at h⟩;by_cases hd:i∈done
  ·exact .inl hd
  ·have:0< (List.range ops.size).countP (fun i=>decide (i∉done)):=List.countP_pos_iff.2 ⟨i,jm,M6⟩
   omega
 |succ fuel ih=>
  intro t listed done hsz hl hf;simp only[Region.linearise.go];generalize hrs:(List.range ops.size).filter (fun i=>!listed.getD i true&& ((ops[i]?).map (·.after.all fun e=>!Region.binds .any e||listed.getD e.on false)).getD false)=rs;have hmem:∀i,i∈rs↔i<ops.size/\i∉done/\∃o,ops[i]? =some o/\∀e∈o.after.toList,Region.binds .any e=true->e.on∈done:=by
   intro i;rw[<-hrs,xM];constructor
   ·rintro⟨h1,h2⟩
    have hi:i<ops.size:=Cr;simp only[aT,pE] at h2;have hd:i∉done:=fun h=>by have:=(hl i hi).2 h;rw[this] at h2;exact absurd h2.1 aD
    have hoi:ops[i]? =some ops[i]:=(by simp[hi]);refine⟨hi,hd,ops[i],hoi,fun e he hb=>?_⟩;have h3:=h2.2;rw[hoi] at h3;simp only[Option.map_some,Option.getD_some,Array.all_eq_true'] at h3;have h4:=h3 e (by simpa using he);rw[hb] at h4;have hon:e.on<ops.size:=Nat.lt_trans (Zb i _ hoi e he hb) hi;have h5:listed.getD e.on false=true:=(by simpa using h4);refine(hl e.on hon).1 ?_;simp only[Array.getD,hsz,hon,dif_pos] at h5⊢;exact h5
   ·rintro⟨hi,hd,o,ho,he⟩
    refine⟨jm,?_⟩;have h1:listed.getD i true=false:=(by have:=mt (hl i hi).1 hd;simpa using this);simp only[h1,Bool.not_false,Bool.true_and,ho,Option.map_some,Option.getD_some,Array.all_eq_true'];intro e U4;have aft:e∈o.after.toList:=(by simpa using U4);cases hb:Region.binds .any e with
    |false=>rfl|true=>have hon:e.on<ops.size:=Nat.lt_trans (Zb i _ ho e aft hb) hi;have:=(hl e.on hon).2 (he e aft hb);simp only[Array.getD,hsz,hon,dif_pos] at this⊢;show (!true||listed.getInternal e.on _)=true;rw[this];rfl
  cases hpick:rs[t% rs.length]? with
  |none=>
   have hnil:rs=[]:=by
    cases rs with
    |nil=>rfl|cons x xs=>have hlt:t% (x::xs).length< (x::xs).length:=Nat.mod_lt _ aD;rw[List.getElem?_eq_none_iff] at hpick;omega
   simp only[List.reverse_nil];refine⟨aD,aD,fun i hi=>?_,fun l1 i l2 h=>uH⟩;refine Classical.byContradiction fun hno=>?_;have hex:∃i,i<ops.size/\i∉done:=⟨i,hi,fun h=>hno (.inl h)⟩;have hmin:∀k,(∃i,i<=k/\i<ops.size/\i∉done)->∃i,i<ops.size/\i∉done/\∀j,j<i->j∈done:=by
    intro k;induction k with
    |zero=>rintro⟨i,h0,h1,h2⟩;obtain rfl:i=0:=ah;exact⟨0,h1,h2,fun j hj=>absurd hj (gL j)⟩
    |succ k ihk=>
     rintro⟨i,h0,h1,h2⟩;by_cases hsm:∃i,i<=k/\i<ops.size/\i∉done
     ·exact ihk hsm
     ·refine⟨i,h1,h2,fun j hj=>Classical.byContradiction fun hjd=>hsm ⟨j,ah,ah,hjd⟩⟩
   obtain⟨i0,h1,h2,h3⟩:=hmin i ⟨i,iP _,hi,fun h=>hno (.inl h)⟩;have:i0∈rs:=(hmem i0).2 ⟨h1,h2,ops[i0],by simp[h1],fun e he hb=>h3 _ (Zb i0 _ (by simp[h1]) e he hb)⟩;rw[hnil] at this;cases this
  |some i=>
   simp only;rw[go_acc,List.reverse_singleton];have hi:i∈rs:=pF hpick;obtain⟨hilt,hid,o,ho,he⟩:=(hmem i).1 hi;have hrec:=ih (t/rs.length) (listed.setIfInBounds i true) (i::done) (by simpa using hsz) (fun j hj=>by
    by_cases hji:j=i
    ·subst hji
     simp[Array.getD,hsz,hj]
    ·have h1:(listed.setIfInBounds i true).getD j true=listed.getD j true:=by simp only[Array.getD,Array.size_setIfInBounds,hsz,hj,dif_pos];exact Array.getElem_setIfInBounds_ne ah (Ne.symm hji)
     rw[h1,hl j hj];simp[hji]) (by
    have:=afs (l:=List.range ops.size) (p:=fun j=>decide (j∉done)) (q:=fun j=>decide (j∉i::done)) (a:=i)
     (fun x hx=>by simp at hx⊢;exact hx.2) (by simpa using hilt) (by simpa using hid) aD
    omega)
   refine⟨?_,?_,?_,?_⟩
   ·simp only[List.singleton_append,uK]
    exact⟨fun h=>(hrec.mem i h).2 aD,hrec.nodup⟩
   ·intro j hj
    rcases fV.1 hj with e|e
    ·subst e;exact⟨hilt,hid⟩
    ·have:=hrec.mem j e
     exact⟨this.1,fun h=>this.2 Cx⟩
   ·intro j hj
    rcases hrec.all j hj with h|h
    ·rcases fV.1 h with e|e
     ·exact .inr zn
     ·exact .inl e
    ·exact .inr Cx
   ·intro l1 j l2 hjl o' ho' e U4 hb
    cases l1 with
    |nil=>simp only[List.singleton_append,List.nil_append,qO] at hjl;obtain⟨rfl,_⟩:=hjl;rw[ho] at ho';cases ho';exact .inl (he e U4 hb)
    |cons a l1=>
     simp only[List.singleton_append,List.cons_append,qO] at hjl;obtain⟨rfl,hjl⟩:=hjl;rcases hrec.ord l1 j l2 hjl o' ho' e U4 hb with h|h
     ·rcases fV.1 h with e'|e'
      ·exact .inr (by simp[e'])
      ·exact .inl e'
     ·exact .inr Cx
theorem aq0 (ops:Array Oper)(su:rZ ops.toList=true)(t:Nat):Dh .any ops [] (Region.linearise .any ops t):=by
 refine go_ok ops su ops.size t _ [] aD (fun i hi=>?_) ?_
 ·simp[hi]
 ·have:=List.countP_le_length (p:=fun i=>decide (i∉([]:List Nat))) (l:=List.range ops.size)
  simpa using this
theorem aq1 {mixed:Bool}(hm:mixed=true)(ops:Array Oper)(su:rZ ops.toList=true)(t:Nat):∃md,Dh md ops [] (Region.schedule mixed ops t):=by unfold Region.schedule;rw[hm,Bool.true_or,if_pos rfl];exact⟨_,aq0 _ su _⟩
theorem aq2 {e:Edge}(md:Region.Mode)(h:Region.binds .any e=true):Region.binds md e=true:=by
 unfold Region.binds at h⊢;split at h
 ·simp at h
 ·simp at h
 ·rfl
end aR
end
