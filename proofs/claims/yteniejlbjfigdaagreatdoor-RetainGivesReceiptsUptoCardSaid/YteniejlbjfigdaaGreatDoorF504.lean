import Derived.Test.YteniejlbjfigdaaGreatDoorF503
set_option linter.all false
section
namespace aR
open Go Go.RowKit
section
variable {E:Env}{S:iN}{K K':bq}{T T':Nat->Nat}{w w':World}{Z Z':ah}{B0:Nat}
theorem VH {n:Nat}{x y:V}(hp:aQ x=true)(h:bg n Z x=some y):y=x:=by
 cases n with
 |zero=>simp[bg] at h|succ n=>unfold bg at h;simp only[hp,if_true,iE] at h;exact h.symm
theorem aeG {f:V->Option V}{l r:List V}(h:l.mapM f=some r)(g:V->V)(hf:∀i (hi:i<l.length) y,f l[i]=some y->y=g l[i]):r=l.map g:=by obtain⟨h1,h2⟩:=mapM_some h;refine List.ext_getElem (by simp[h1]) (fun i hi hi'=>?_);obtain⟨h3,h4⟩:=h2 i RS;simp only[BG];exact hf i RS _ h4
theorem Ll {l:List V}(h:bQ l=true){i:Nat}(hi:i<l.length):aQ l[i]=true:=by
 have:=vo h i hi
 rwa[kD hi] at this
theorem aeH {n:Nat}{c:Cap}{l:List V}{y:V}(hp:bQ l=true)(h:bg n Z (.ak c l)=some y):y= .ak .sh l:=by
 cases n with
 |zero=>simp[bg] at h|succ n=>
  unfold bg at h;split at h
  .rename_i hc;simp only[iE] at h;subst h;cases c<;>simp only[aQ,bZ] at hc;rfl
  .simp only[aW] at h;obtain⟨r,hr,rfl⟩:=h;have:=aeG hr id (fun i hi y hy=>VH (Ll hp hi) hy);rw[this,List.map_id]
theorem anO {x:V}(hp:aQ x=true):gu x=x:=by
 cases x with
 |ak c l=>cases c<;>simp only[aQ,bZ] at hp;rfl|_=>rfl
theorem anP {n:Nat}{x y:V}(hp:aQ (gu x)=true)(h:bg n Z x=some y):y=gu x:=by
 cases x with
 |ak c l=>exact aeH (by simpa [gu,aQ] using hp) h|_=>exact VH hp h
theorem aeI {n:Nat}{x y:V}(hp:aQ (er x)=true)(h:bg n Z x=some y):y=er x:=by
 cases x with
 |ak c l=>exact aeH PX h|agg cs=>
  have hp':bQ (cs.map gu)=true:=PX
  have hpi:∀i (hi:i<cs.length),aQ (gu cs[i])=true:=fun i hi=>by have:=Ll hp' (i:=i) jH;simpa using this
  cases n with
  |zero=>simp[bg] at h|succ n=>
   unfold bg at h;split at h
   .rename_i hc;simp only[iE] at h;subst h;have hc':bQ cs=true:=(by simpa [aQ] using hc);show V.agg cs=V.agg (cs.map gu);congr 1;refine List.ext_getElem aB (fun i hi hi'=>?_);simp only[BG];exact(anO (Ll hc' hi)).symm
   .simp only[aW] at h;obtain⟨r,hr,rfl⟩:=h;show V.agg r=V.agg (cs.map gu);rw[aeG hr gu (fun i hi y hy=>anP (hpi i hi) hy)]
 |_=>exact VH hp h
theorem GX {a b:List V}{ca cb:Array Value}(h:RelA K T w a ca)(g:RelA K T w b cb):RelA K T w (a++b) (ca++cb):=by
 obtain⟨h1,h2⟩:=h;obtain⟨g1,g2⟩:=g;refine⟨by simp[h1,g1],fun i hi=>?_⟩;have hi':i<a.length+b.length:=jH
 by_cases hlt:i<a.length
 .have e1:(a++b).getD i aJ=a.getD i aJ:=by simp[List.getD,KW hlt]
  have e2:(ca++cb).getD i undef=ca.getD i undef:=by simp only[yR];rw[Array.getElem?_append_left RS]
  rw[e1,e2];exact h2 i hlt
 .have e1:(a++b).getD i aJ=b.getD (i-a.length) aJ:=by simp[List.getD,List.getElem?_append_right (Nat.le_of_not_lt hlt)]
  have e2:(ca++cb).getD i undef=cb.getD (i-a.length) undef:=by simp only[yR];rw[Array.getElem?_append_right RS,<-h1]
  rw[e1,e2];exact g2 _ RS
theorem aeJ {l r:List V}{cl:Array Value}{n:Nat}{K2:bq}{T2:Nat->Nat}(h:RelA K T w l cl)(hm:l.mapM (bg n Z)=some r)(hx:∀x y c,x∈l->Rel K T w x c->bg n Z x=some y->Rel K2 T2 w y c):RelA K2 T2 w r cl:=by
 obtain⟨h1,h2⟩:=h;obtain⟨m1,m2⟩:=mapM_some hm;refine⟨RS,fun i hi=>?_⟩;obtain⟨h3,h4⟩:=m2 i RS;have:=h2 i RS;rw[kD (show i<l.length by omega)] at this;rw[kD h3];exact hx _ _ _ (lX _) this h4
theorem anQ {b:Bool}{l r:List V}(h:u6 b Z l=some r):l.length=r.length/\∀i (hi:i<l.length),∃(h':i<r.length),(l[i]= .ak .nil []/\r[i]= .ak .nil [])\/bg 20 Z l[i]=some r[i]:=by
 unfold u6 at h;split at h
 .split at h
  .rename_i l;obtain⟨l',hm,rfl⟩:=aW.1 h;obtain⟨m1,m2⟩:=mapM_some hm;refine⟨by simp[m1],fun i hi=>?_⟩;cases i with
   |zero=>exact⟨aB,.inl ⟨rfl,rfl⟩⟩|succ i=>obtain⟨h1,h2⟩:=m2 i jH;exact⟨Bz,.inr rV⟩
  .cases h
 .obtain⟨m1,m2⟩:=mapM_some h;exact⟨m1,fun i hi=>by obtain⟨h1,h2⟩:=m2 i hi;exact⟨h1,.inr h2⟩⟩
theorem anR {b:Bool}{l r:List V}{cl:Array Value}{K2:bq}{T2:Nat->Nat}(h:RelA K T w l cl)(hm:u6 b Z l=some r)(hx:∀x y c,x∈l->Rel K T w x c->(x= .ak .nil []/\y= .ak .nil [])\/bg 20 Z x=some y->Rel K2 T2 w y c):RelA K2 T2 w r cl:=by
 obtain⟨h1,h2⟩:=h;obtain⟨m1,m2⟩:=anQ hm;refine⟨RS,fun i hi=>?_⟩;obtain⟨h3,h4⟩:=m2 i RS;have:=h2 i RS;rw[kD (show i<l.length by omega)] at this;rw[kD h3];exact hx _ _ _ (lX _) this h4
theorem aeK (hE:qg E)(h:bG E B0 Z K w):Qu E K.I K.IM w:=
 ⟨fun b o hi=>(h.I b o hi).1,fun b hi=>(h.IM b hi).1,fun g cs hg=>(h.glob g cs hg).pure (by simpa [aQ] using hE.flat g cs hg) (fun _ _ h=>⟨h,rfl⟩) (fun _ h=>⟨h,rfl⟩)⟩
theorem anS (hE:qg E)(h:bG E B0 Z K w):Qu E (fun b o=>∃v,w.cell? (at_ b o)=some v) (fun b=>∃es dL,w.heap[b]? =some (.map es dL)) w:=
 ⟨fun _ _ hi=>hi,fun _ hi=>hi,fun g cs hg=>(h.glob g cs hg).pure (by simpa [aQ] using hE.flat g cs hg) (fun b o hi=>⟨(h.I b o hi).1,rfl⟩) (fun b hi=>⟨(h.IM b hi).1,rfl⟩)⟩
theorem aeL (hE:qg E)(hS:Ey E S.call)(h:bG E B0 Z K w)(hB:B0<=w.heap.size)(hA:∀s,K.A s->s<Z.next){d:Nat}{fv:V}{cf:Value}{args:List V}{dU:Array Value}{v:V}(hfn:∃f a b,fv= .fn (.func f) a b)(hv:jI E S d Z fv args=some (v,Z'))(rf:Rel K Z.top w fv cf)(ra:RelA K Z.top w args dU):
 Z.next<=Z'.next/\∃f first cap,cf= .func (.func f) first cap/\GQ E f/\CallsIn Fence.wide 0 E.P f (first++dU++cap) w (wJ E B0 Z K w v Z'):=by
 obtain⟨f,a,b,rfl⟩:=hfn;unfold jI at hv
 .dsimp only at hv;cases rf with
  |fn _ _ _ kI bv ha hb Lm Lp=>
  have Lr:RelA K Z.top w (a++args++b) (kI++dU++bv):=GX (GX ⟨ha,Lm⟩ ra) ⟨hb,Lp⟩;split at hv
  .obtain⟨h1,h2,h3⟩:=hS _ _ _ _ _ _ hv;exact⟨h1,f,kI,bv,rfl,h2,h3 none B0 K w _ h hB hA Lr⟩
  .simp only[iR] at hv;obtain⟨cB,has,r,hr,hv⟩:=hv;split at hv
   .rename_i hcl;simp only[iE,aS] at hv;obtain⟨rfl,rfl⟩:=hv;obtain⟨p1,p2⟩:=aeB hE hS hr;refine⟨mF _,f,kI,bv,rfl,p1,?_⟩;simp only[xJ,kU] at hcl;rcases hcl with hcl|hcl
    .have Ls:RelA (bq.lend K.I K.IM) (fun _=>0) w cB (kI++dU++bv):=(by refine aeJ Lr has (fun x y c hx oH hxy=>?_);have hp:=hcl x hx;rw[aeI hp hxy];exact(Vm oH).pure hp (fun _ _ h=>⟨h,rfl⟩) (fun _ h=>⟨h,rfl⟩));refine(p2 _ _ w _ (aeK hE h) Ls).mono ?_;intro e w' hp;cases e with
     |returned c=>obtain⟨hb',hr'⟩:=hp;have st:=Step.grow (new:=newer Z Z) h hB hb';exact⟨_,hr'.Li (fun _ _ h=>⟨h,rfl⟩) (fun _ h=>⟨h,rfl⟩),st.ok,hA,st⟩
     |panicked ch=>exact hp.elim|outgrown=>exact hp.elim
    .have Ls:RelA (bq.lend (fun b o=>∃v,w.cell? (at_ b o)=some v) (fun b=>∃es dL,w.heap[b]? =some (.map es dL))) (fun _=>0) w cB (kI++dU++bv):=(by refine aeJ Lr has (fun x y c hx oH hxy=>?_);exact(VA (T':=fun _=>0) h 20 x y c oH hxy).Li (fun _ _ h=>⟨h.2,rfl⟩) (fun _ h=>⟨h.2,rfl⟩));refine(p2 _ _ w _ (anS hE h) Ls).mono ?_;intro e w' hp;cases e with
     |returned c=>obtain⟨hb',hr'⟩:=hp;have st:=Step.grow (new:=newer Z Z) h hB hb';exact⟨_,hr'.flat hcl,st.ok,hA,st⟩
     |panicked ch=>exact hp.elim|outgrown=>exact hp.elim
   .simp at hv
theorem anT (h:bG E B0 Z K w)(hB:B0<=w.heap.size){st:Nat}(hst:¬K.A st){Z1:ah}{K1:bq}{v0 v:V}{c:Value}(hv:q9 Z st Z1 v0=some (v,Z'))(r1:Rel K1 Z1.top w' v0 c)(s1:bG E w.heap.size Z1 K1 w')(hb:Below w.heap.size w w')(hI:∀b o,K1.I b o->K.I b o\/w.heap.size<=b)(UU:∀b,K1.IM b->K.IM b\/w.heap.size<=b):∃K',Rel K' Z'.top w' v c/\Step E B0 (· =st) Z K w Z' K' w':=by
 have Qz:∀b o,K1.I b o->aR.grow K.I w.heap.size w' b o:=fun b o hi=>⟨hI b o hi,(s1.I b o hi).1⟩;have aeM:∀b,K1.IM b->xU K.IM w.heap.size w' b:=fun b hi=>⟨UU b hi,(s1.IM b hi).1⟩;unfold q9 at hv;split at hv
 .rename_i cp l;split at hv
  .rename_i hp;cases cp with
   |nil=>
    cases hv;refine⟨_,?_,Step.grow h hB hb⟩;cases r1 with
    |gD _ a ha hc=>exact .gD .nil a ha trivial|ak _ _ b o n cap val hle hn hcell hrel hc=>exact hc.elim
   |full=>
    cases hv;refine⟨_,?_,Step.grow h hB hb⟩;cases r1 with
    |gD _ a ha hc=>exact .gD .full a (fun h=>bU) trivial
    |ak _ _ b o n cap val hle hn hcell hrel hc=>
     exact .ak .full l b o n cap val hle hn (fun i j hi hj=>⟨(hcell i j hi hj).1,Qz _ _ (hcell i j hi hj).2⟩)
      (fun i j hi hj=>(hrel i j hi hj).pure (Vz (vo hp i hi) (by rw[hn i hi];exact hj)) (fun b o hi=>⟨Qz b o hi,rfl⟩) (fun b hi=>⟨aeM b hi,rfl⟩)) hc
   |own n s=>
    dsimp only at hv;split at hv
    .rename_i htop;cases hv;have hown:K1.A s->K1.lo s<K1.hi s->w.heap.size<=K1.ob s/\∀o,K1.lo s<=o->o<K1.hi s->(∃v,w'.cell? (at_ (K1.ob s) o)=some v)/\w'.frozen? (at_ (K1.ob s) o)=false:=fun ha hl=>by obtain⟨a1,a2,a3⟩:=s1.own s ha hl;exact⟨a1,fun o h1 h2=>(a3 o h1 h2).2⟩
     have hnot:K1.A s->∀b o,K1.I b o->¬(b=K1.ob s/\K1.lo s<=o/\o<K1.hi s):=(by rintro ha b o hi ⟨rfl,h2,h3⟩;exact((s1.own s ha RS).2.2 o h2 h3).1 hi);have hA:K1.A s:=by
      cases r1 with
      |gD _ a ha hc=>exact hc.1|ak _ _ b o n' cap val hle hn hcell hrel hc=>exact hc.2.1
     refine⟨_,?_,Step.pI h hB hst hb (hown hA)⟩;have t1:(Z.dY st l.length).top st=l.length:=upd_same _ _ _;have q1:(K.pI w.heap.size w' st (K1.ob s) (K1.lo s) (K1.hi s)).ob st=K1.ob s:=upd_same _ _ _;have q2:(K.pI w.heap.size w' st (K1.ob s) (K1.lo s) (K1.hi s)).lo st=K1.lo s:=upd_same _ _ _;have q3:(K.pI w.heap.size w' st (K1.ob s) (K1.lo s) (K1.hi s)).hi st=K1.hi s:=upd_same _ _ _;cases r1 with
     |gD _ a ha hc=>refine .gD _ a (fun h=>bU) ⟨.inr rfl,fun _=>?_⟩;rw[q2,q3];exact hc.2 htop
     |ak _ _ b o n' cap val hle hn hcell hrel hc=>
      refine .ak _ l b o n' cap val hle hn (fun i j hi hj=>⟨(hcell i j hi hj).1,Qz _ _ (hcell i j hi hj).2,hnot hA _ _ (hcell i j hi hj).2⟩)
       (fun i j hi hj=>(hrel i j hi hj).pure (Vz (vo hp i hi) (by rw[hn i hi];exact hj)) (fun b o hi=>⟨⟨Qz b o hi,hnot hA b o hi⟩,rfl⟩) (fun b hi=>⟨aeM b hi,rfl⟩)) ?_
      refine⟨hc.1,.inr rfl,by rw[t1];exact mF _,fun _=>?_⟩;rw[q1,q2,q3];exact hc.2.2.2 htop.symm
    .cases hv
   |sh=>cases hv
  .cases hv
 .rename_i loc s off len cap bD ag;split at hv
  .rename_i h0;obtain⟨rfl,rfl⟩:=h0;obtain⟨cs,hcs,hv⟩:=iR.1 hv;cases hv;have fin:∀fq:Nat,K1.A s->fq*bD<=K1.sz s->∃K',Rel K' (Z.dY st 0).top w' (.ak (.own bD st) []) (.slice (some (at_ (K1.blk s) 0)) 0 fq)/\Step E B0 (· =st) Z K w (Z.dY st 0) K' w':=by
    intro fq hA hsz;obtain⟨g1,_,_⟩:=s1.wG hcs;obtain⟨a1,a2,a3⟩:=s1.obj _ _ _ g1;refine⟨K.pI w.heap.size w' st (K1.blk s) 0 (fq*bD),?_,Step.pI h hB hst hb (fun hlt=>?_)⟩
    .have t1:(Z.dY st 0).top st=0:=upd_same _ _ _;refine .ak _ [] (K1.blk s) 0 bD fq (fun _ _=>undef) (qA _) (fun i hi=>absurd hi (fZ i)) (fun i j hi=>absurd hi (fZ i)) (fun i j hi=>absurd hi (fZ i)) ?_;refine⟨rfl,.inr rfl,qA _,fun _=>⟨upd_same _ _ _,?_,?_⟩⟩
     .show upd K.lo st 0 st=_;rw[upd_same];simp
     .show upd K.hi st (fq*bD) st=_;rw[upd_same];simp
    .have hne:cs≠[]:=(by rintro rfl;have:=a2.1 rfl;omega);obtain⟨b1,vals,t,b2,b3,b4,b5⟩:=a2.2 hne;refine⟨b1,fun o h1 h2=>⟨⟨vals[o]' RS,?_⟩,?_⟩⟩
     .simp[World.cell?,b2]
     .unfold World.frozen?;simp only[b2];simp
   cases r1 with
   |aU _ _ _ _ _ _ _ fq hA hc hle hsz=>exact fin fq hA (by simpa using hsz)|om _ _ _ _ hA=>refine⟨K.pI w.heap.size w' st 0 0 0,?_,Step.pI h hB hst hb (fun hlt=>absurd hlt (Nat.lt_irrefl _))⟩;refine .gD _ none (fun h=>bU) ⟨.inr rfl,fun _=>?_⟩;show upd K.hi st 0 st=upd K.lo st 0 st;rw[upd_same,upd_same]
  .cases hv
 .cases hv
theorem aeN {st:Nat}{Z1:ah}{v0 v:V}(hv:q9 Z st Z1 v0=some (v,Z')):Z'.next=Z.next:=by
 by_cases hvw:∃loc s off len cap bD ag,v0= .aU loc s off len cap bD ag
 .obtain⟨loc,s,off,len,cap,bD,ag,rfl⟩:=hvw;unfold q9 at hv;dsimp only at hv;split at hv
  .obtain⟨_,_,hv⟩:=iR.1 hv;cases hv;rfl
  .cases hv
 cases v0<;>first| (cases hv;done)|exact absurd ⟨_,_,_,_,_,_,_,rfl⟩ hvw|skip
 rename_i cp l;have hv':(if bQ l=true then (match cp with
  |.nil=>some (V.ak .nil l,Z)|.full=>some (.ak .full l,Z)|.own n s=>if Z1.top s=l.length then some (.ak (.own n st) l,Z.dY st l.length) else none|.sh=>none) else none)=some (v,Z'):=hv
 split at hv'
 .cases cp with
  |nil=>cases hv';rfl|full=>cases hv';rfl|own n s=>dsimp only at hv';split at hv'<;>cases hv';rfl|sh=>cases hv'
 .cases hv'
theorem anU (hE:qg E)(hS:Ey E S.call)(h:bG E B0 Z K w)(hB:B0<=w.heap.size){st:Nat}(hst:¬K.A st){fv:V}{cf:Value}{args:List V}{dU:Array Value}{v:V}(hv:qE E S Z st fv args=some (v,Z'))(rf:Rel K Z.top w fv cf)(ra:RelA K Z.top w args dU):
 Z'.next=Z.next/\∃f first cap,cf= .func (.func f) first cap/\GQ E f/\CallsIn Fence.wide 0 E.P f (first++dU++cap) w (fun e w'=>∃c K',e= .returned c/\Rel K' Z'.top w' v c/\Step E B0 (· =st) Z K w Z' K' w'):=by
 unfold qE at hv;split at hv
 .rename_i f a b;split at hv
  .rename_i hcl;simp only[iR] at hv;obtain⟨cB,has,⟨v0,Z1⟩,hr,hv⟩:=hv;cases rf with
   |fn _ _ _ kI bv ha hb Lm Lp=>
   have Lr:RelA K Z.top w (a++args++b) (kI++dU++bv):=GX (GX ⟨ha,Lm⟩ ra) ⟨hb,Lp⟩;obtain⟨_,p1,p2⟩:=hS _ _ _ _ _ _ hr;have hnext:=aeN hv;refine⟨hnext,f,kI,bv,rfl,p1,?_⟩;simp only[kU] at hcl;have Ls:RelA (bq.lend K.I K.IM) ah.init.top w cB (kI++dU++bv):=by
    refine anR Lr has (fun x y c hx oH hxy=>?_);rcases hxy with ⟨rfl,rfl⟩|hxy
    .cases oH with
     |gD _ a ha hc=>exact .gD .nil a ha trivial|ak _ _ b o n cap val hle hn hcell hrel hc=>exact hc.elim
    have hp:=hcl x hx;rw[aeI hp hxy];exact(Vm oH).pure hp (fun _ _ h=>⟨h,rfl⟩) (fun _ h=>⟨h,rfl⟩)
   refine(p2 none w.heap.size (bq.lend K.I K.IM) w _ (VB (aeK hE h)) (mF _) (fun s hs=>hs.elim) Ls).mono ?_;intro e w' hp;cases e with
   |returned c=>obtain⟨K1,r1,s1,_,st1⟩:=hp;obtain⟨K',g1,g2⟩:=anT h hB hst hv r1 s1 st1.below st1.y8 st1.y9;exact⟨c,K',rfl,g1,g2⟩
   |panicked ch=>exact hp.elim|outgrown=>exact hp.elim
  .cases hv
 .cases hv
theorem QA (hE:qg E){f:FuncId}(hb:GQ E f)(args:Array Value)(w:World):(callFunc f args).run E.P w= .ok (.enter f args) w:=by obtain⟨fn,c,hf,hc⟩:=hb;have hn:=hE.name f fn hf;simp[callFunc,hf,hc,hn]
theorem anV (hE:qg E)(hS:Sound E S){fr fr':Fr}{a:Act}{n:Nat}{ds:GL}(hs:St E B0 Z K w fr a n ds){st:Nat}(hst:¬K.A st){o:Oper}{v:V}(hop:opC E S fr Z st o=some (v,fr',Z')):fr'=fr/\Z.next<=Z'.next/\(∀next Q ro,(∀c w' K',Rel K' Z'.top w' v c->Step E B0 (fun s=>s=st\/newer Z Z' s) Z K w Z' K' w'->next (a.put o.dst c) w')->
   o.wpIn (oF ro) 0 E.P a w next Q):=by
 have hdone:∀{v Z'},vk E B0 (· =st) Z K w (execOp a.eval o) v Z'->(∀c,o.op≠ .defer c)->∀next Q ro,(∀c w' K',Rel K' Z'.top w' v c->Step E B0 (fun s=>s=st\/newer Z Z' s) Z K w Z' K' w'->next (a.put o.dst c) w')->
  o.wpIn (oF ro) 0 E.P a w next Q:=fun hd ho next Q ro hn=>anp ho hd (fun c w' K' hr hst=>hn c w' K' hr (hst.mono (fun _ h=>.inl h)))
 unfold opC at hop;split at hop
 .rename_i c hc;have hnd:∀d,o.op≠ .defer d:=fun d hd=>by rw[hc] at hd;cases hd
  split at hop
  .rename_i b hb;simp only[aW,aS] at hop;obtain⟨⟨v1,Z1⟩,hv,rfl,rfl,rfl⟩:=hop;have hsame:=aez hv;refine⟨rfl,by rw[hsame.1];exact mF _,hdone ?_ hnd⟩;have hargs:=Ev hs.ok hs.fr c.args;have hex:execOp a.eval o=builtin b c.argTypes o.type (c.args.map fun|.const _=>true|_=>false) (c.args.map a.eval):=by unfold execOp;simp only[hc];unfold resolve;simp only[hb];rfl
   rw[hex];exact anb hs.ok hs.hB hst hargs hv
  .rename_i f hf;split at hop
   .simp only[aW,aS] at hop;obtain⟨⟨v1,Z1⟩,hv,rfl,rfl,rfl⟩:=hop;obtain⟨hn1,g,first,cap,hcf,hbody,hcall⟩:=anU hE hS.call hs.ok hs.hB hst hv (Al hs.ok hs.fr f) (Ev hs.ok hs.fr c.args);refine⟨rfl,by rw[hn1];exact mF _,fun next Q ro hn=>⟨fun _ _=>trivial,?_⟩⟩;rw[Qt _ _ hnd];have hex:(execOp a.eval o).run E.P w= .ok (.enter g (first++c.args.map a.eval++cap)) w:=(by unfold execOp;simp only[hc];unfold resolve;simp only[hf,hcf,Deferred.ofValue,Sem.run_bind,Sem.run_pure,Result.andThen_ok,invoke];exact QA hE hbody _ _);rw[hex,Oper.uponIn_enter];refine⟨fun hd=>PV,?_⟩;have h2:CallsIn (oF ro) (0-1) E.P g (first++c.args.map a.eval++cap) w (fun e w'=>∃c K',e= .returned c/\Rel K' Z1.top w' v1 c/\Step E B0 (· =st) Z K w Z1 K' w'):=hcall;refine h2.mono ?_;intro e w' hp;obtain⟨cv,K',rfl,r1,st1⟩:=hp;exact hn cv w' K' r1 (st1.mono (fun _ h=>.inl h))
   simp only[aW,aS] at hop;obtain⟨⟨v1,Z1⟩,hv,rfl,rfl,rfl⟩:=hop;have hcases:(∃g a b,fr.ev E f= .fn (.func g) a b)\/∃l,fr.ev E f= .fn (.yield l) [] []:=by
    unfold jI at hv;split at hv
    .rename_i g a b he;exact .inl ⟨g,a,b,he⟩
    .rename_i l he;exact .inr ⟨l,he⟩
    .simp at hv
   rcases hcases with hfn| ⟨l,hy⟩
   rotate_left
   .have hv':xQ S l (c.args.toList.map (fr.ev E)) Z=some (v1,Z1):=(by rw[hy] at hv;exact hv);obtain⟨hn1,fn,tmps,gq,body,VF,anW⟩:=anD hS.code hs.ok hs.hB hs.st hv' (Ev hs.ok hs.fr c.args);have hcf:a.eval f= .func (.yield (K.lp l)) #[] #[]:=(by have:=Al hs.ok hs.fr f;rw[hy] at this;generalize a.eval f=cf at this;cases this;rfl);refine⟨rfl,hn1,fun next Q ro hn=>⟨fun _ _=>trivial,?_⟩⟩;rw[Qt _ _ hnd];have hex:(execOp a.eval o).run E.P w= .ok (.round (K.lp l) fn tmps gq body) w:=(by unfold execOp;simp only[hc];unfold resolve;simp only[hf,hcf,Deferred.ofValue,Sem.run_bind,Sem.run_pure,Result.andThen_ok,invoke];simpa using VF);rw[hex,Oper.uponIn_round];refine⟨fun hd=>PV,?_⟩;have h2:RoundIn (oF ro) (0-1) E.P (K.lp l) fn tmps gq body w (wJ E B0 Z K w v1 Z1):=anW;refine h2.mono ?_;intro e w' hp;cases e with
    |returned cv=>obtain⟨K',r1,_,_,st1⟩:=hp;exact hn cv w' K' r1 (st1.mono (fun _ h=>.inr h))
    |panicked ch=>exact hp.elim|outgrown=>exact hp.elim
   obtain⟨hn1,g,first,cap,hcf,hbody,hcall⟩:=aeL hE hS.call hs.ok hs.hB hs.st hfn hv (Al hs.ok hs.fr f) (Ev hs.ok hs.fr c.args);refine⟨rfl,hn1,fun next Q ro hn=>⟨fun _ _=>trivial,?_⟩⟩;rw[Qt _ _ hnd];have hex:(execOp a.eval o).run E.P w= .ok (.enter g (first++c.args.map a.eval++cap)) w:=by unfold execOp;simp only[hc];unfold resolve;simp only[hf,hcf,Deferred.ofValue,Sem.run_bind,Sem.run_pure,Result.andThen_ok,invoke];exact QA hE hbody _ _
   rw[hex,Oper.uponIn_enter];refine⟨fun hd=>PV,?_⟩;have h2:CallsIn (oF ro) (0-1) E.P g (first++c.args.map a.eval++cap) w (wJ E B0 Z K w v1 Z1):=hcall;refine h2.mono ?_;intro e w' hp;cases e with
   |returned cv=>obtain⟨K',r1,_,_,st1⟩:=hp;exact hn cv w' K' r1 (st1.mono (fun _ h=>.inr h))
   |panicked ch=>exact hp.elim|outgrown=>exact hp.elim
  .simp at hop
 .simp at hop
 .rename_i hnc hnd;simp only[aW,aS] at hop;obtain⟨⟨v1,Z1⟩,hv,rfl,rfl,rfl⟩:=hop;have hsame:=aeA hv;exact⟨rfl,by rw[hsame.1];exact mF _,hdone (ana hs.ok hs.hB hs.fr hst hv) hnd⟩
end
section
variable (E:Env)(S:iN)
def opsL (ops:List Oper)(base:Nat):List Nat->Fr->ah->Option (Fr×ah)
 | [],fr,Z=>some (fr,Z)|i::l,fr,Z=>(jc E S ops base i fr Z).bind fun (fr,Z)=>opsL ops base l fr Z
theorem anX (all:List Oper)(base:Nat):∀(os:List Oper)(k:Nat)(fr:Fr)(Z:ah),(∀j,os[j]? =all[k+j]?)->
 opsE E S all (base+k) os fr Z=opsL E S all base (List.range' k os.length) fr Z:=by
 intro os;induction os with
 |nil=>intro k fr Z _;rfl|cons o os ih=>
  intro k fr Z h;have h0:all[k]? =some o:=by simpa using (h 0).symm
  have ih':=fun fr Z=>ih (k+1) fr Z (fun j=>by have:=h (j+1);simpa [oG,Nat.add_comm 1 j] using this);simp only[List.length_cons,List.range'_succ,opsL,jc,h0,opsE];cases hwt:fD all fr o with
  |none=>rfl|some t=>
  simp only[Option.bind_some];split
  .cases hop:opC E S fr Z (base+k) o with
   |none=>rfl|some r=>obtain⟨v,bJ,Z1⟩:=r;exact ih' _ _
  .exact ih' _ _
theorem anY (ops:Array Oper)(base:Nat)(fr:Fr)(Z:ah):opsE E S ops.toList base ops.toList fr Z=opsL E S ops.toList base (List.range ops.size) fr Z:=by have:=anX E S ops.toList base ops.toList 0 fr Z (fun j=>aB);rw[Nat.add_zero] at this;rw[this,List.range_eq_range',Array.length_toList]
end
section
variable {E:Env}{S:iN}{K K':bq}{w w':World}{Z Z':ah}{B0:Nat}{fr fr':Fr}{a:Act}{n:Nat}{ds:GL}
theorem aeO (hf:l6 K Z.top w fr a.tmps)(ops:Array Oper)(o:Oper)(hsz:Gr a.tmps.size ops.toList=true){t:Bool}(hv:fD ops.toList fr o=some t):
 Region.wanted o (yielded ops a.tmps)=t:=by
 unfold Region.wanted;unfold fD at hv;cases hg:o.guard with
 |none=>rw[hg] at hv;exact jW hv|some g=>
  obtain⟨j,want⟩:=g;rw[hg] at hv;simp only at hv⊢;cases hd:(ops.toList[j]?).bind (·.dst) with
  |none=>
   have hd':(ops[j]?).bind (·.dst)=none:=by simpa using hd
   simp only[hd,iE] at hv;simp only[yielded,hd',<-hv];rfl
  |some t=>
   have hd':(ops[j]?).bind (·.dst)=some t:=by simpa using hd
   have ht:t<a.tmps.size:=by
    cases ho:ops[j]? with
    |none=>simp[ho] at hd'|some o'=>have hm:o'∈ops.toList:=(by simpa using Array.mem_of_getElem? ho);simp only[Gr,kU] at hsz;have h1:=hsz o' hm;have h2:o'.dst=some t:=(by simpa [ho] using hd');rw[h2] at h1;simpa using h1
   have hr:=hf t;have hget:a.tmps[t]? =some (a.tmps.getD t undef):=by simp[Array.getD,ht]
   simp only[hd] at hv;simp only[yielded,hd',Option.bind_some,hget];generalize a.tmps.getD t undef=c at hr;generalize fr.tm t=x at hr hv;cases hr<;>simp only[iE,reduceCtorEq] at hv<;>first|exact hv| (rw[<-hv];rfl)
theorem aeP (h:bG E B0 Z K w)(k:Nat):bG E B0 {Z with next:=k} K w:=⟨h.obj,h.own,h.I,h.IM,h.loop,h.glob,h.rb,h.D⟩
theorem anZ (hS:Sound E S){st:Nat}{o:Oper}{v:V}(hop:opC E S fr Z st o=some (v,fr',Z')):fr'=fr/\Z.next<=Z'.next:=by
 unfold opC at hop;split at hop
 .split at hop
  .simp only[aW,aS] at hop;obtain⟨⟨v1,Z1⟩,hv,rfl,rfl,rfl⟩:=hop;exact⟨rfl,by rw[(aez hv).1];exact mF _⟩
  .split at hop
   .simp only[aW,aS] at hop;obtain⟨⟨v1,Z1⟩,hv,rfl,rfl,rfl⟩:=hop;refine⟨rfl,?_⟩;unfold qE at hv;split at hv
    .split at hv
     .simp only[iR] at hv;obtain⟨_,_,_,_,hv⟩:=hv;rw[aeN hv];exact mF _
     .cases hv
    .cases hv
   simp only[aW,aS] at hop;obtain⟨⟨v1,Z1⟩,hv,rfl,rfl,rfl⟩:=hop;refine⟨rfl,?_⟩;unfold jI at hv;split at hv
   .split at hv
    .exact(hS.call _ _ _ _ _ _ hv).1
    .simp only[iR] at hv;obtain⟨_,_,_,_,hv⟩:=hv;split at hv
     .simp only[iE,aS] at hv;rw[hv.2];exact mF _
     .simp at hv
   .exact anN hS.code hv
   .simp at hv
  .simp at hop
 .simp at hop
 .simp only[aW,aS] at hop;obtain⟨⟨v1,Z1⟩,hv,rfl,rfl,rfl⟩:=hop;exact⟨rfl,by rw[(aeA hv).1];exact mF _⟩
theorem Lu (hS:Sound E S)(ops:List Oper)(base:Nat):∀(l:List Nat)(fr:Fr)(Z:ah),opsL E S ops base l fr Z=some (fr',Z')->Z.next<=Z'.next:=by
 intro l;induction l with
 |nil=>intro fr Z h;simp only[opsL,iE,aS] at h;rw[h.2];exact mF _|cons i l ih=>
  intro fr Z h;simp only[opsL,iR] at h;obtain⟨⟨bJ,Z1⟩,hs,h⟩:=h;refine eO ?_ (ih _ _ h);unfold jc at hs;split at hs
  .simp only[iE,aS] at hs;rw[hs.2];exact mF _
  .simp only[iR] at hs;obtain⟨t,_,hs⟩:=hs;split at hs
   .simp only[aW,aS] at hs;obtain⟨⟨v,iW,Z2⟩,hop,rfl,rfl⟩:=hs;exact(anZ hS hop).2
   .simp only[iE,aS] at hs;rw[hs.2];exact mF _
theorem aeQ (hE:qg E)(hS:Sound E S)(ops:Array Oper)(base:Nat)(hops:Gr n ops.toList=true)(ro:Option Nat)(Q:Exit->Act->World->Prop):
 ∀(l:List Nat)(fr:Fr)(Z:ah)(K:bq)(w:World)(a:Act),opsL E S ops.toList base l fr Z=some (fr',Z')->l.Nodup->(∀i∈l,i<ops.size)->St E B0 Z K w fr a n ds->base+ops.size<=Z.next->(∀i∈l,¬K.A (base+i))->
  (∀a' K' w',St E B0 Z' K' w' fr' a' n ds->Step E B0 (fun s=>(base<=s/\s<base+ops.size)\/newer Z Z' s) Z K w Z' K' w'->Q .normal a' w')->wpOpsIn (oF ro) 0 E.P ops Q l a w:=by
 intro l;induction l with
 |nil=>intro fr Z K w a hl _ _ hs _ _ hq;simp only[opsL,iE,aS] at hl;obtain⟨rfl,rfl⟩:=hl;exact hq a K w hs (.refl hs.ok)
 |cons i l ih=>
  intro fr Z K w a hl hnd hlt hs hbase VI hq;simp only[opsL,iR] at hl;obtain⟨⟨bJ,Z1⟩,hstep,hl⟩:=hl;have hil:i∉l:=(Af.1 hnd).1;have hi:i<ops.size:=hlt i aB;have hoi:ops[i]? =some ops[i]:=by simp[hi]
  have an0:ops.toList[i]? =some ops[i]:=by simpa using hoi
  simp only[jc,an0,iR] at hstep;obtain⟨t,hwv,hstep⟩:=hstep;have hw:=aeO hs.fr ops ops[i] (by rw[hs.sz];exact hops) hwv;have hdst:∀t,ops[i].dst=some t->t<n:=by intro t ht;simp only[Gr,kU] at hops;have:=hops ops[i] aB;rw[ht] at this;simpa using this
  unfold wpOpsIn;simp only[hoi,hw];split at hstep
  .rename_i hwt;simp only[aW,aS] at hstep;obtain⟨⟨v,iW,Z2⟩,hop,rfl,rfl⟩:=hstep;obtain⟨rfl,hnx,hwp⟩:=anV hE hS hs (VI i aB) hop;dsimp only at hl;simp only[hwt,if_true];have hA1:∀{K1:bq}{w1:World},Step E B0 (fun s=>s=base+i\/newer Z Z2 s) Z K w Z2 K1 w1->(∀s,K1.A s->s<Z2.next)/\∀j∈l,¬K1.A (base+j):=by
    intro K1 w1 st;refine⟨fun s hsA=>?_,fun j hj an1=>?_⟩
    .rcases st.A s hsA with h1|h1|h1
     .have:=hs.st s h1;omega
     .omega
     .exact h1.2
    .have hji:j≠i:=fun e=>hil (e▸hj);rcases st.A _ an1 with h1|h1|h1
     .exact VI j D8 h1
     .omega
     .have:=hlt j D8;have:=h1.1;omega
   refine hwp _ _ ro (fun c w1 K1 hr st=>?_)
   .obtain⟨hA2,hA3⟩:=hA1 st;have hs1:St E B0 Z2 K1 w1 (iW.put ops[i].dst v) (a.put ops[i].dst c) n ds:=hs.put st hr hdst hA2;refine(ih _ _ K1 w1 _ hl (Af.1 hnd).2 (fun j hj=>hlt j D8) hs1 RS hA3) (fun a' K' w' hs' st'=>hq a' K' w' hs' ?_);refine(st.mono ?_).trans (st'.mono ?_)
    .intro s h1;rcases h1 with h1|h1
     .exact .inl ⟨RS,RS⟩
     .exact .inr ⟨h1.1,lW h1.2 (Lu hS _ _ _ _ _ hl)⟩
    .intro s h1;rcases h1 with h1|h1
     .exact .inl h1
     .exact .inr ⟨eO hnx h1.1,h1.2⟩
  .rename_i hwt;simp only[iE,aS] at hstep;obtain⟨rfl,rfl⟩:=hstep;have hs1:St E B0 Z K w (fr.put ops[i].dst aJ) (a.put ops[i].dst undef) n ds:=hs.put (new:=fun _=>False) (.refl hs.ok) (.undef _ _ _) hdst hs.st;have:=ih _ _ K w _ hl (Af.1 hnd).2 (fun j hj=>hlt j D8) hs1 hbase (fun j hj=>VI j D8);simp only[hwt];exact⟨fun _ _=>trivial,this hq⟩
end
end aR
end
section
namespace aR
open Go
section
variable {X Key:Type}
def Lv (step:Nat->X->Option X):List Nat->X->Option X
 | [],x=>some x|i::l,x=>(step i x).bind (Lv step l)
theorem aeR (n:Nat)(step:Nat->X->Option X)(dZ:Key->X->X->Prop)(hrefl:∀k x,dZ k x x)(VJ:∀k x y z,dZ k x y->dZ k y z->dZ k x z)(s:Nat->X)(T W:Nat->Key->Prop)(Ez:∀i k,W i k->T i k)(hloc:∀i,i<n->∀x,(∀k,T i k->dZ k (s i) x)->∃y,step i x=some y/\(∀k,W i k->dZ k (s (i+1)) y)/\(∀k,¬W i k->dZ k x y))(hself:∀i,i<n->∀k,¬W i k->dZ k (s i) (s (i+1)))(pre:Nat->Nat->Prop)(hap:∀i j,i<n->j<i->pre j i\/((∀k,¬(W i k/\T j k))/\∀k,¬(W j k/\T i k)))(an2:∀k x y,dZ k x y->dZ k y x):
 ∀(l done:List Nat)(x:X),l.Nodup->(∀i∈l,i<n/\i∉done)->(∀i,i<n->i∈done\/i∈l)->
  (∀l1 i l2,l=l1++i::l2->∀j,pre j i->j∈done\/j∈l1)->(∀i∈done,∀j,pre j i->j∈done)->
  (∀k m,m<=n->(∀j,j<n->W j k->(j∈done↔j<m))->dZ k (s m) x)->∃y,Lv step l x=some y/\∀k,dZ k (s n) y:=by
 have an3:∀k a b,a<=b->b<=n->(∀j,a<=j->j<b->¬W j k)->dZ k (s a) (s b):=by
  intro k a b hab hbn hw;induction b with
  |zero=>obtain rfl:a=0:=RS
         exact hrefl _ _
  |succ b ih=>
   by_cases e:a=b+1
   .subst e;exact hrefl _ _
   .exact VJ _ _ _ _ (ih RS RS (fun j h1 h2=>hw j h1 RS)) (hself b RS k (hw b RS RS))
 intro l;induction l with
 |nil=>intro done x _ _ hall _ _ hinv;exact⟨x,rfl,fun k=>hinv k n (mF _) (fun j hj _=>⟨fun _=>hj,fun _=>by rcases hall j hj with h|h;exact h;cases h⟩)⟩
 |cons i l ih=>
  intro done x hnd hmem hall QB hclosed hinv;obtain⟨hin,VK⟩:=hmem i aB;have hil:i∉l:=(Af.1 hnd).1;have hpre:∀j,pre j i->j∈done:=fun j hj=>by
   rcases QB [] i l rfl j hj with h|h
   .exact h
   .cases h
  have an4:∀k,T i k->dZ k (s i) x:=by
   intro k hk;refine hinv k i RS (fun j hj hw=>⟨fun hjd=>?_,fun hji=>?_⟩)
   .rcases Nat.lt_trichotomy j i with h|h|h
    .exact h
    .subst h;exact absurd hjd VK
    .rcases hap j i hj h with hp| ⟨h1,_⟩
     .exact absurd (hclosed j hjd i hp) VK
     .exact absurd ⟨hw,hk⟩ (h1 k)
   .rcases hap i j hin hji with hp| ⟨_,h2⟩
    .exact hpre j hp
    .exact absurd ⟨hw,hk⟩ (h2 k)
  obtain⟨y,hy,an5,hyn⟩:=hloc i hin x an4;have an6:∀k m,m<=n->(∀j,j<n->W j k->(j∈i::done↔j<m))->dZ k (s m) y:=by
   intro k m hm hj;by_cases hw:W i k
   .have him:i<m:=(hj i hin hw).1 aB;have h1:dZ k (s (i+1)) (s m):=by
     refine an3 k (i+1) m him hm (fun j h1 h2 Lx=>?_);have hjd:j∈done:=by
      have:=(hj j RS Lx).2 h2;rcases iC.1 this with e|e
      .omega
      .exact e
     rcases hap j i RS RS with hp| ⟨h3,_⟩
     .exact absurd (hclosed j hjd i hp) VK
     .exact h3 k ⟨Lx,Ez i k hw⟩
    exact VJ _ _ _ _ (an2 _ _ _ h1) (an5 k hw)
   .refine VJ _ _ _ _ (hinv k m hm (fun j hjn Lx=>?_)) (hyn k hw);have hji:j≠i:=fun e=>hw (e▸Lx);rw[<-hj j hjn Lx];simp[hji]
  obtain⟨z,hz,hzn⟩:=ih (i::done) y (Af.1 hnd).2
   (fun j hj=>⟨(hmem j D8).1,fun h=>by
     rcases iC.1 h with e|e
     .exact hil (e▸hj)
     .exact(hmem j D8).2 e⟩)
   (fun j hj=>by
     rcases hall j hj with h|h
     .exact .inl Ea
     .rcases iC.1 h with e|e
      .exact .inl Eb
      .exact .inr e)
   (fun l1 j l2 hl k hk=>by
     rcases QB (i::l1) j l2 (by rw[hl];rfl) k hk with h|h
     .exact .inl Ea
     .rcases iC.1 h with e|e
      .exact .inl Eb
      .exact .inr e)
   (fun j hj k hk=>by
     rcases iC.1 hj with e|e
     .subst e;simp[hpre k hk]
     .simp[hclosed j e k hk])
   an6
  exact⟨z,by simp[Lv,hy,hz],hzn⟩
end
section
variable {E:Env}{S:iN}{fr fr':Fr}{Z Z':ah}
theorem an7 {st:Nat}{o:Oper}(h:∀x∈o.op.operands.toList,fr'.ev E x=fr.ev E x)(hd:fr'.d=fr.d)(bO:fr'.aj=fr.aj):dh E fr' Z st o=dh E fr Z st o:=by
 cases ho:o.op;all_goals
  rw[ho] at h;unfold dh;simp only[ho]
 all_goals try (simp only[hd];done)
 case move x=>simp only[h x (show x∈[x] from iZ.2 rfl),hd]
 case assign x=>simp only[h x (show x∈[x] from iZ.2 rfl),hd]
 case pick c x y=>simp only[h c (show c∈[c,x,y] from ji),h x (show x∈[c,x,y] from jX _ ji),h y (show y∈[c,x,y] from jX _ (jX _ ji)),hd]
 case box t x=>simp only[h x (show x∈[x] from iZ.2 rfl),hd]
 case load t x=>simp only[h x (show x∈[x] from iZ.2 rfl),hd]
 case nilCheck x=>simp only[h x (show x∈[x] from iZ.2 rfl),hd]
 case unOp u t x=>simp only[h x (show x∈[x] from iZ.2 rfl),hd]
 case convert t u x=>simp only[h x (show x∈[x] from iZ.2 rfl),hd]
 case sliceToArrayPointer t x=>simp only[h x (show x∈[x] from iZ.2 rfl),hd]
 case typeAssert x t u ok=>simp only[h x (show x∈[x] from iZ.2 rfl),hd]
 case makeInterface t x=>simp only[h x (show x∈[x] from iZ.2 rfl),hd]
 case fieldAddr t x f=>simp only[h x (show x∈[x] from iZ.2 rfl),hd]
 case field t x f=>simp only[h x (show x∈[x] from iZ.2 rfl),hd]
 case extract x f=>simp only[h x (show x∈[x] from iZ.2 rfl),hd]
 case store t x y=>simp only[h x (show x∈[x,y] from ji),h y (show y∈[x,y] from jX _ ji),hd,bO]
 case binOp b t x y u=>simp only[h x (show x∈[x,y] from ji),h y (show y∈[x,y] from jX _ ji),hd,bO]
 case makeSlice t x y=>simp only[h x (show x∈[x,y] from ji),h y (show y∈[x,y] from jX _ ji),hd,bO]
 case indexAddr t x y=>simp only[h x (show x∈[x,y] from ji),h y (show y∈[x,y] from jX _ ji),hd,bO]
 case index t x y=>simp only[h x (show x∈[x,y] from ji),h y (show y∈[x,y] from jX _ ji),hd,bO]
 case lookup t x y ok=>simp only[h x (show x∈[x,y] from ji),h y (show y∈[x,y] from jX _ ji),hd,bO]
 case mapUpdate t x y z=>simp only[h x (show x∈[x,y,z] from ji),h y (show y∈[x,y,z] from jX _ ji),h z (show z∈[x,y,z] from jX _ (jX _ ji)),hd]
 case insert t x y z=>simp only[h x (show x∈[x,y,z] from ji),h y (show y∈[x,y,z] from jX _ ji),h z (show z∈[x,y,z] from jX _ (jX _ ji)),hd]
 case build t parts=>
  have:(parts.toList.map fun (i,x)=>(i,fr'.ev E x))=parts.toList.map fun (i,x)=>(i,fr.ev E x):=by refine BI (fun p hp=>?_);show (p.1,fr'.ev E p.2)=(p.1,fr.ev E p.2);rw[h p.2 (show p.2∈parts.toList.map (·.2) from tH.2 ⟨p,hp,rfl⟩)]
  simp only[this]
 case buildSlice t len parts=>
  have:(parts.toList.map fun (i,x)=>(i,fr'.ev E x))=parts.toList.map fun (i,x)=>(i,fr.ev E x):=by refine BI (fun p hp=>?_);show (p.1,fr'.ev E p.2)=(p.1,fr.ev E p.2);rw[h p.2 (show p.2∈parts.toList.map (·.2) from tH.2 ⟨p,hp,rfl⟩)]
  simp only[this,hd]
 case makeFunc fn a b=>
  have h1:a.toList.map (fr'.ev E)=a.toList.map (fr.ev E):=BI (fun x hx=>h x (show x∈(a++b).toList by simp at hx⊢;exact .inl hx));have h2:b.toList.map (fr'.ev E)=b.toList.map (fr.ev E):=BI (fun x hx=>h x (show x∈(a++b).toList by simp at hx⊢;exact .inr hx));cases fn<;>first|rfl|simp only[h1,h2]
 case makeMap t r=>cases r<;>simp only[hd]
 case slice t x lo hi mx=>
  have h0:∀y,y=x\/lo=some y\/hi=some y\/mx=some y->fr'.ev E y=fr.ev E y:=fun y hy=>h y (show y∈(#[x]++lo.toArray++hi.toArray++mx.toArray).toList by rcases hy with rfl|rfl|rfl|rfl<;>simp);have hx:fr'.ev E x=fr.ev E x:=h0 x (.inl rfl);have h1:kP E fr' lo=kP E fr lo:=by
   cases lo with
   |none=>rfl|some y=>simp only[kP];rw[h0 y aB]
  have h2:kP E fr' hi=kP E fr hi:=by
   cases hi with
   |none=>rfl|some y=>simp only[kP];rw[h0 y aB]
  have h3:kP E fr' mx=kP E fr mx:=by
   cases mx with
   |none=>rfl|some y=>simp only[kP];rw[h0 y aB]
  simp only[hx,h1,h2,h3]
theorem aeS {st:Nat}{o:Oper}(h:∀x∈o.op.operands.toList,fr'.ev E x=fr.ev E x)(hd:fr'.d=fr.d)(bO:fr'.aj=fr.aj):
 opC E S fr' Z st o=(opC E S fr Z st o).map fun (v,_,Z1)=>(v,fr',Z1):=by
 cases ho:o.op;case call c=>
  have h:∀x∈c.operands.toList,fr'.ev E x=fr.ev E x:=by rw[ho] at h;exact h
  unfold opC;simp only[ho];have hargs:c.args.toList.map (fr'.ev E)=c.args.toList.map (fr.ev E):=BI (fun x hx=>h x (by simp[Call.operands] at hx⊢;exact .inr hx));split
  .simp only[hargs,hd,bO];cases qD E fr.aj (o.dst.map fun t=>(fr.d,E.cn t)) Z st _ c.argTypes (c.args.toList.map (fr.ev E))<;>rfl
  .rename_i f hc;have hf:fr'.ev E f=fr.ev E f:=h f (by simp[Call.operands,hc]);have eP:kX E fr' o f=kX E fr o f:=by unfold kX;rw[hf]
   simp only[hargs,hd,hf,eP];cases kX E fr o f
   .cases jI E S fr.d Z (fr.ev E f) (c.args.toList.map (fr.ev E))<;>rfl
   .cases qE E S Z st (fr.ev E f) (c.args.toList.map (fr.ev E))<;>rfl
  .rfl
 case defer=>unfold opC;simp only[ho];rfl
 all_goals
  have:=an7 (Z:=Z) (st:=st) h hd bO;unfold opC;simp only[ho];rw[this];cases dh E fr Z st o<;>rfl
theorem GY {loc:Loc}{s:Nat}(h:Z'.obj loc=Z.obj loc):Z'.dK loc s=Z.dK loc s:=by simp only[ah.dK,h]
theorem VL {loc:Loc}{s:Nat}(h:Z'.obj loc=Z.obj loc):Z'.jh loc s=Z.jh loc s:=by simp only[ah.jh,h]
def jv (Z Z':ah)(k:Key):Prop:=match k with
 |.obj l=>Z'.obj l=Z.obj l|.top=>Z'.top=Z.top|_=>True
def Reads (Z Z':ah)(r r':Option (V×ah)):Prop:=∀v Z1,r=some (v,Z1)->Z1=Z/\r'=some (v,Z')
theorem qG {v:V}:Reads Z Z' (some (v,Z)) (some (v,Z')):=fun v Z1 h=>by
 simp only[iE,aS] at h;exact⟨h.2.symm,by rw[h.1]⟩
theorem qh {J:Type}{r:Option J}(f:J->V):Reads Z Z' (r.map fun v=>(f v,Z)) (r.map fun v=>(f v,Z')):=by
 cases r with
 |none=>intro v Z1 h;cases h|some x=>exact qG
theorem vv {r:Option (V×ah)}:Reads Z Z' none r:=fun _ _ h=>bU
theorem Ca {J:Type}{r:Option J}{f g:J->Option (V×ah)}(h:∀x,Reads Z Z' (f x) (g x)):Reads Z Z' (r.bind f) (r.bind g):=by
 cases r with
 |none=>exact vv|some x=>exact h x
theorem QC {c:Prop}[Decidable c]{r r' s s':Option (V×ah)}(h1:Reads Z Z' r r')(h2:Reads Z Z' s s'):Reads Z Z' (if c then r else s) (if c then r' else s'):=by split<;>assumption
theorem an8 {src dst:TypeId}{x:V}(h:∀k∈jN x,jv Z Z' k):Ah E.P Z' src dst x=Ah E.P Z src dst x:=by
 unfold Ah;generalize E.P.underlying src=u1;generalize E.P.underlying dst=u2;cases u1 with
 |none=>cases x<;>cases u2<;>rfl|some d1=>
  cases u2 with
  |none=>cases x<;>cases d1<;>rfl|some d2=>
   cases x with
   |aU loc s off len cap bD ag=>have h1:Z'.obj loc=Z.obj loc:=h (.obj loc) D9;cases d2<;>cases d1<;>first|rfl|simp only[GY h1]
   |_=>cases d2<;>first|rfl| (cases d1<;>rfl)
theorem an9 {t:TypeId}{x:V}{lo hi mx:Option V}(h:∀k∈jN x,jv Z Z' k):kQ E.P Z' t x lo hi mx=kQ E.P Z t x lo hi mx:=by
 unfold kQ;generalize E.P.underlying t=u1;cases u1 with
 |none=>cases x<;>rfl|some d1=>
  cases x with
  |ref loc s off=>have h1:Z'.obj loc=Z.obj loc:=h (.obj loc) D9;cases d1<;>first|rfl|simp only[GY h1]
  |_=>cases d1<;>rfl
theorem aoa {t:TypeId}{x k:V}{ok:Bool}(h:∀k∈jN x,jv Z Z' k):yY E.P Z' t x k ok=yY E.P Z t x k ok:=by
 unfold yY;cases x with
 |dQ loc s=>have h1:Z'.obj loc=Z.obj loc:=h (.obj loc) D9;simp only[VL h1]|_=>rfl
theorem aob {t:TypeId}{x:V}(h:∀k∈jN x,jv Z Z' k):uZ E Z' t x=uZ E Z t x:=by
 unfold uZ;generalize E.P.underlying t=u1;cases u1 with
 |none=>cases x<;>rfl|some d1=>
  cases x with
  |dQ loc s=>have h1:Z'.obj loc=Z.obj loc:=h (.obj loc) D9;cases d1<;>first|rfl|simp only[VL h1]
  |_=>cases d1<;>rfl
theorem aoc {ag:Bool}{sz:Nat}{z x:V}(h:∀k∈jN x,jv Z Z' k):mU Z' ag sz z x=mU Z ag sz z x:=by
 unfold mU;cases x with
 |aU loc s off len cap bD ag=>have h1:Z'.obj loc=Z.obj loc:=h (.obj loc) D9;simp only[GY h1]|_=>rfl
def Local (W:Key->Prop)(Z Z':ah)(r r':Option (V×ah)):Prop:=
 ∀v Z1,r=some (v,Z1)->∃nL,r'=some (v,nL)/\tV Z Z1/\tV Z' nL/\(∀k,W k->jv Z1 nL k)/\(∀k,¬W k->jv Z Z1 k)/\∀k,¬W k->jv Z' nL k
theorem jv.refl (Z:ah)(k:Key):jv Z Z k:=by cases k<;>simp[jv]
theorem jv.chain {Z1 nL:ah}{k:Key}(h:jv Z Z' k)(h1:jv Z Z1 k)(h2:jv Z' nL k):jv Z1 nL k:=by
 cases k with
 |obj l=>exact Eq.trans (show nL.obj l=Z'.obj l from h2) (Eq.trans (show Z'.obj l=Z.obj l from h) (show Z1.obj l=Z.obj l from h1).symm)|top=>exact Eq.trans (show nL.top=Z'.top from h2) (Eq.trans (show Z'.top=Z.top from h) (show Z1.top=Z.top from h1).symm)|slot t=>trivial|rest=>trivial|nx=>trivial
theorem Reads.local {r r':Option (V×ah)}(h:Reads Z Z' r r'):Local (fun k=>k∈([]:List Key)) Z Z' r r':=fun v Z1 hr=>by
 obtain⟨h1,h2⟩:=h v Z1 hr;subst h1;exact⟨Z',h2,.refl _,.refl _,fun k hk=>absurd hk (List.not_mem_nil),fun k _=>.refl _ _,fun k _=>.refl _ _⟩
theorem Local.mono {W W':Key->Prop}{r r':Option (V×ah)}(h:Local W Z Z' r r')(hW:∀k,W k->W' k)(hT:∀k,W' k->jv Z Z' k):Local W' Z Z' r r':=fun v Z1 hr=>by
 obtain⟨nL,h1,h2,h3,h4,h5,h6⟩:=h v Z1 hr;refine⟨nL,h1,h2,h3,fun k hk=>?_,fun k hk=>h5 k (fun hw=>hk (hW k hw)),fun k hk=>h6 k (fun hw=>hk (hW k hw))⟩;by_cases hw:W k
 .exact h4 k hw
 .exact(hT k hk).chain (h5 k hw) (h6 k hw)
theorem aeT {loc:Loc}{st:Nat}{ob:jZ}{k:Key}(hk:k∉[Key.obj loc]):jv Z (Z.setObj loc st ob) k:=by
 cases k with
 |obj l=>have:l≠loc:=fun e=>hk Eb;show upd Z.obj loc _ l=Z.obj l;simp[upd,this]
 |top=>rfl|slot t=>trivial|rest=>trivial|nx=>trivial
theorem aeU {s n:Nat}{k:Key}(hk:k∉[Key.top]):jv Z (Z.dY s n) k:=by
 cases k with
 |obj l=>rfl|top=>exact absurd aB hk|slot t=>trivial|rest=>trivial|nx=>trivial
theorem LA {loc:Loc}{st:Nat}{ob:jZ}{v:V}:Local (fun k=>k∈[Key.obj loc]) Z Z' (some (v,Z.setObj loc st ob)) (some (v,Z'.setObj loc st ob)):=fun v1 Z1 h=>by
 simp only[iE,aS] at h;obtain⟨rfl,rfl⟩:=h;refine⟨_,rfl,⟨rfl,rfl⟩,⟨rfl,rfl⟩,fun k hk=>?_,fun k hk=>aeT hk,fun k hk=>aeT hk⟩;obtain rfl:k= .obj loc:=by simpa using hk
 show upd Z'.obj loc _ loc=upd Z.obj loc _ loc;simp[upd]
theorem gQ {W:Key->Prop}{r:Option (V×ah)}:Local W Z Z' none r:=fun _ _ h=>bU
theorem qH {W:Key->Prop}{J:Type}{r:Option J}{f g:J->Option (V×ah)}(h:∀x,Local W Z Z' (f x) (g x)):Local W Z Z' (r.bind f) (r.bind g):=by
 cases r with
 |none=>exact gQ|some x=>exact h x
theorem xV {W:Key->Prop}{c:Prop}[Decidable c]{r r' s s':Option (V×ah)}(h1:Local W Z Z' r r')(h2:Local W Z Z' s s'):Local W Z Z' (if c then r else s) (if c then r' else s'):=by split<;>assumption
theorem LB (ht:Z'.top=Z.top){s n:Nat}{v:V}:Local (fun k=>k∈[Key.top]) Z Z' (some (v,Z.dY s n)) (some (v,Z'.dY s n)):=fun v1 Z1 h=>by
 simp only[iE,aS] at h;obtain⟨rfl,rfl⟩:=h;refine⟨_,rfl,⟨rfl,rfl⟩,⟨rfl,rfl⟩,fun k hk=>?_,fun k hk=>aeU hk,fun k hk=>aeU hk⟩;obtain rfl:k= .top:=by simpa using hk
 show upd Z'.top s n=upd Z.top s n;rw[ht]
theorem aod {W:Key->Prop}{J:Type}{r:Option J}{f g:J->V×ah}(h:∀x,Local W Z Z' (some (f x)) (some (g x))):Local W Z Z' (r.map f) (r.map g):=by
 cases r with
 |none=>exact gQ|some x=>exact h x
theorem aeV {t:TypeId}{m k v:V}(h:∀q∈jN m,jv Z Z' q):
 Local (fun q=>q∈jN m) Z Z' ((uY E.P Z t m k v).map fun Z=>(aJ,Z)) ((uY E.P Z' t m k v).map fun Z=>(aJ,Z)):=by
 unfold uY;cases wE E.P t with
 |none=>exact gQ|some p=>
  simp only[Option.bind_some];split
  .cases m with
   |dQ loc s=>
    have h1:Z'.obj loc=Z.obj loc:=h (.obj loc) D9;simp only[VL h1];cases Z.jh loc s with
    |none=>exact gQ|some q=>simp only[Option.bind_some,Option.map_map];exact aod (fun x=>LA)
   |_=>exact gQ
  .exact gQ
theorem aoe {fr:Fr}{st:Nat}{o:Oper}{t:TypeId}{l c:V}(h:∀q∈Key.top::vZ fr o,jv Z Z' q):
 Local (fun q=>q∈Key.top::vZ fr o) Z Z' (Ai E.P fr.aj Z st (o.dst.map fun t=>(fr.d,t)) t l c) (Ai E.P fr.aj Z' st (o.dst.map fun t=>(fr.d,t)) t l c):=by
 unfold Ai;exact gQ
theorem VN {zeros:Bool}{st:Nat}{loc:Option Loc}{t:TypeId}{x y:V}(hy:∀q∈jN y,jv Z Z' q)(ht:Z'.top=Z.top):
 Local (fun q=>q∈[Key.top]) Z Z' (ku E.P false zeros Z st loc t x y) (ku E.P false zeros Z' st loc t x y):=by
 unfold ku;refine qH (fun e=>qH (fun sz=>qH (fun gy=>qH (fun ag=>qH (fun z=>xV ?_ gQ)))));rw[aoc hy];refine qH (fun ys=>xV ?_ gQ);cases x with
 |ak c l=>
  simp only;refine xV ?_ gQ;cases c with
  |own n s=>simp only[ht];exact xV (LB ht) gQ|nil=>exact LB ht|full=>exact LB ht|sh=>exact gQ
 |aU kC s off len cap bD BU=>simp only[bZ,false_and,and_false,if_false];exact gQ|_=>exact gQ
theorem QD {aj:Bool}{loc:Option Loc}{st:Nat}{b:Builtin}{tys:Array TypeId}{args:List V}(hb:b= .len\/b= .cap\/b= .min\/b= .max)(h:∀x∈args,∀q∈jN x,jv Z Z' q):
 Reads Z Z' (qD E aj loc Z st b tys args) (qD E aj loc Z' st b tys args):=by
 rcases hb with rfl|rfl|rfl|rfl
 .rcases args with _| ⟨x,_| ⟨y,l⟩⟩
  .exact vv
  .refine Ca (fun t=>?_);rw[aob (h x aB)];exact qh _
  .exact vv
 .rcases args with _| ⟨x,_| ⟨y,l⟩⟩
  .exact vv
  .refine Ca (fun t=>Ca (fun e=>?_));cases x with
   |ak c l=>cases c<;>first|exact qG|exact vv
   |_=>exact vv
  .exact vv
 .rcases args with _| ⟨x,l⟩
  .exact vv
  .exact qh _
 .rcases args with _| ⟨x,l⟩
  .exact vv
  .exact qh _
theorem aof {loc:Option Loc}{st:Nat}{tys:Array TypeId}{args:List V}(h:∀x∈args,∀q∈jN x,jv Z Z' q)(ht:Z'.top=Z.top):
 Local (fun q=>q∈[Key.top]) Z Z' (qD E false loc Z st .append tys args) (qD E false loc Z' st .append tys args):=by
 rcases args with _| ⟨x,_| ⟨y,_| ⟨z,l⟩⟩⟩
 .exact gQ
 .exact gQ
 .refine qH (fun t=>qH (fun u=>?_));split
  .exact VN (h y aB) ht
  .exact VN (h y aB) ht
  .exact VN (h y aB) ht
  .exact gQ
 .exact gQ
end
section
variable {E:Env}{S:iN}{fr fr':Fr}{Z Z':ah}
theorem aeW {loc:Loc}{k:Key}(hk:k∉[Key.obj loc]):jv Z (Z.j3 loc) k:=by
 cases k with
 |obj l=>have:l≠loc:=fun e=>hk Eb;show upd Z.obj loc none l=Z.obj l;simp[upd,this]
 |top=>rfl|slot t=>trivial|rest=>trivial|nx=>trivial
theorem aog {loc:Loc}{v:V}:Local (fun k=>k∈[Key.obj loc]) Z Z' (some (v,Z.j3 loc)) (some (v,Z'.j3 loc)):=fun v1 Z1 h=>by
 simp only[iE,aS] at h;obtain⟨rfl,rfl⟩:=h;refine⟨_,rfl,⟨rfl,rfl⟩,⟨rfl,rfl⟩,fun k hk=>?_,fun k hk=>aeW hk,fun k hk=>aeW hk⟩;obtain rfl:k= .obj loc:=by simpa using hk
 show upd Z'.obj loc none loc=upd Z.obj loc none loc;simp[upd]
theorem aoh {x:V}(h:∀k,k∈jN x->jv Z Z' k):Local (fun k=>k∈jN x) Z Z' (xP Z x) (xP Z' x):=by
 cases x with
 |aU loc s off len cap bD ag=>have h1:Z'.obj loc=Z.obj loc:=h (.obj loc) D9;simp only[xP,GY h1];exact qH (fun cs=>xV aog gQ)
 |_=>exact qG.local.mono (fun k hk=>by cases hk) h
theorem aoi {st:Nat}{o:Oper}(hc:∀c,o.op≠ .call c)(hw:(fT E fr o).lH=false)(h:∀k,k∈(fT E fr o).t\/k∈(fT E fr o).w->jv Z Z' k):
 Local (fun k=>k∈(fT E fr o).w) Z Z' (dh E fr Z st o) (dh E fr Z' st o):=by
 cases ho:o.op<;>simp only[fT,ho,gB,reduceCtorEq,Bool.true_eq_false] at hw;case call c=>exact absurd ho (hc c)
 all_goals
  simp only[fT,ho,mE,mG] at h;simp only[fT,ho,mE,mG];unfold dh;simp only[ho]
 case move x=>
  by_cases hz:y7 E o.dst=true
  .simp only[hz,if_true] at h⊢;exact aoh (fun k hk=>h k (.inr hk))
  .simp only[hz,bZ,if_false];exact qG.local
 case assign=>exact qG.local
 case pick=>exact(qh _).local
 case alloc t=>
  cases hd:o.dst with
  |none=>exact gQ|some d=>simp only[Option.map_some,Option.bind_some,vZ,hd];exact qH (fun z=>xV LA gQ)
 case box t x=>
  by_cases hz:tK E t o.dst=true
  .simp only[hz,if_true];exact(QC qG vv).local.mono (fun k hk=>by cases hk) (fun k hk=>h k (.inr hk))
  .simp only[hz,bZ,if_false];cases hd:o.dst with
   |none=>exact gQ|some d=>simp only[Option.map_some,Option.bind_some,vZ,hd];exact xV LA gQ
 case build t parts=>exact(Ca (fun _=>Ca (fun _=>qh _))).local
 case buildSlice t len parts=>
  by_cases hz:Aj E o.dst=true
  .simp[hz,gB] at hw
  .simp only[hz,bZ,if_false];exact(qh _).local.mono (fun k hk=>by cases hk) (fun k hk=>by cases hk)
 case load t a=>
  cases hx:fr.ev E a with
  |ref loc s off=>have h1:Z'.obj loc=Z.obj loc:=h (.obj loc) (by simp[hx,jN]);simp only[GY h1];exact(Ca (fun _=>qh _)).local
  |aX cs off=>exact(qh _).local|_=>exact gQ
 case store t a x=>
  cases hx:fr.ev E a with
  |ref loc s off=>have h1:Z'.obj loc=Z.obj loc:=h (.obj loc) (by simp[hx,jN]);simp only[GY h1];exact qH (fun _=>xV LA gQ)
  |_=>exact gQ
 case nilCheck x=>
  cases hx:fr.ev E x with
  |ref loc s off=>exact qG.local|aX cs off=>exact qG.local|fn f a b=>cases f<;>first|exact qG.local|exact gQ
  |_=>exact gQ
 case binOp=>exact(qh _).local
 case unOp=>exact(qh _).local
 case convert a b x=>rw[an8 (fun k hk=>h k (.inl hk))];exact(qh _).local
 case sliceToArrayPointer t x=>
  refine qH (fun p=>?_);cases hx:fr.ev E x with
  |aU loc s off len cap bD ag=>exact(QC qG vv).local|ak c l=>exact(QC qG vv).local|_=>exact gQ
 case typeAssert=>exact(qh _).local
 case makeInterface t x=>
  split
  .exact gQ
  .exact qG.local
  .exact gQ
 case makeFunc f a b=>cases f<;>first|exact qG.local|exact gQ
 case makeMap t r=>
  cases r with
  |some _=>exact gQ|none=>
   cases hd:o.dst with
   |none=>exact gQ|some d=>simp only[Option.map_some,vZ,hd];exact LA
 case makeSlice t l c=>exact aoe (fun q hq=>h q (.inr hq))
 case slice t x lo hi mx=>rw[an9 (fun k hk=>h k (.inl hk))];exact(qh _).local
 case fieldAddr t x f=>
  refine qH (fun p=>?_);cases hx:fr.ev E x with
  |ref loc s off=>exact qG.local|aX cs off=>exact qG.local|_=>exact gQ
 case field t x f=>
  refine qH (fun p=>?_);cases hx:fr.ev E x with
  |agg cs=>exact(qh _).local|_=>exact gQ
 case indexAddr=>exact(qh _).local
 case index=>exact(qh _).local
 case lookup t x i ok=>rw[aoa (fun k hk=>h k (.inl hk))];exact(qh _).local
 case mapUpdate t m k v=>exact aeV (fun q hq=>h q (.inr hq))
 case insert t m k v=>exact aeV (fun q hq=>h q (.inr hq))
 case extract x i=>
  cases hx:fr.ev E x with
  |bK vs=>exact(qh _).local|_=>exact gQ
theorem LC {J β:Type}{f g:J->Option β}:∀{l:List J},(∀x∈l,f x=g x)->l.mapM f=l.mapM g
 | [],_=>rfl|a::l,h=>by simp only[iG];rw[h a aB,LC (fun x hx=>h x (by simp[hx]))]
theorem VO {n:Nat}{x:V}(hp:aQ x=true):bg n Z' x=bg n Z x:=by
 cases n with
 |zero=>rfl|succ n=>unfold bg;simp only[hp,if_true]
theorem aeX {l:List V}{x:V}(h:x∈l):∃i,∃hi:i<l.length,x=l[i]:=by obtain⟨i,hi,e⟩:=Gj.1 h;exact⟨i,hi,e.symm⟩
theorem aeY {n:Nat}{c:Cap}{l:List V}(hp:bQ l=true):bg n Z' (.ak c l)=bg n Z (.ak c l):=by
 cases n with
 |zero=>rfl|succ n=>
  unfold bg;split
  .rfl
  .simp only;rw[LC (fun x hx=>?_)];obtain⟨i,hi,rfl⟩:=aeX hx;exact VO (Ll hp hi)
theorem aoj {n:Nat}{x:V}(hp:aQ (gu x)=true):bg n Z' x=bg n Z x:=by
 cases x with
 |ak c l=>exact aeY (by simpa [gu,aQ] using hp)|_=>exact VO hp
theorem aeZ {n:Nat}{x:V}(hp:aQ (er x)=true):bg n Z' x=bg n Z x:=by
 cases x with
 |ak c l=>exact aeY PX|agg cs=>
  have hp':bQ (cs.map gu)=true:=PX
  cases n with
  |zero=>rfl|succ n=>
   unfold bg;split
   .rfl
   .simp only;rw[LC (fun x hx=>?_)];obtain⟨i,hi,rfl⟩:=aeX hx;refine aoj ?_;have:=Ll hp' (i:=i) jH;simpa using this
 |_=>exact VO hp
theorem aok {d:Nat}{g:FuncId}{a b args:List V}(hi:E.imp g=false)(hp:(a++args++b).all (fun v=>aQ (er v))=true):
 Reads Z Z' (jI E S d Z (.fn (.func g) a b) args) (jI E S d Z' (.fn (.func g) a b) args):=by
 unfold jI;simp only[hi,bZ,if_false];rw[LC (f:=bg 20 Z') (g:=bg 20 Z) (fun x hx=>aeZ (by simp only[kU] at hp;exact hp x hx))];exact Ca (fun cB=>Ca (fun v=>QC qG vv))
theorem aol {d:Nat}{g:FuncId}{a b args:List V}(hi:E.imp g=false){v:V}{Z1:ah}(h:jI E S d Z (.fn (.func g) a b) args=some (v,Z1)):Z1=Z:=by
 unfold jI at h;simp only[hi,bZ,if_false,iR] at h;obtain⟨_,_,_,_,h⟩:=h;split at h
 .simp only[iE,aS] at h;exact h.2.symm
 .simp at h
theorem dZ.refl (k:Key)(x:Fr×ah):dZ k x x:=by cases k<;>simp[dZ]
theorem dZ.symm {k:Key}{x y:Fr×ah}(h:dZ k x y):dZ k y x:=by
 cases k with
 |slot t=>exact Eq.symm h|obj l=>exact Eq.symm h|top=>exact Eq.symm h|rest=>exact⟨h.1.symm,h.2.symm⟩|nx=>exact⟨h.1.symm,h.2.symm⟩
theorem dZ.trans {k:Key}{x y z:Fr×ah}(h:dZ k x y)(g:dZ k y z):dZ k x z:=by
 cases k with
 |slot t=>exact Eq.trans h g|obj l=>exact Eq.trans h g|top=>exact Eq.trans h g|rest=>exact⟨h.1.trans g.1,h.2.trans g.2⟩|nx=>exact⟨h.1.trans g.1,h.2.trans g.2⟩
theorem dZ.all {x y:Fr×ah}(h:∀k,dZ k x y):x=y:=by obtain⟨⟨d,aj,tm⟩,⟨nx,top,obj,lp⟩⟩:=x;obtain⟨⟨d',aAR,tm'⟩,⟨nx',top',LD,ae0⟩⟩:=y;obtain⟨h1,h2⟩:=h .rest;obtain⟨h3,h4⟩:=h .nx;have h5:top=top':=h .top;have h6:obj=LD:=funext fun l=>h (.obj l);have h7:tm=tm':=funext fun t=>h (.slot t);simp only at h1 h2 h3 h4;subst h1 h2 h3 h4 h5 h6 h7;rfl
def dJ.T (f:dJ)(k:Key):Prop:=k= .rest\/k∈f.t\/k∈f.w\/((f.qb=true\/f.lH=true)/\k.state=true)
def dJ.W (f:dJ)(k:Key):Prop:=k∈f.w\/(f.lH=true/\k.state=true)
theorem dJ.QE {f:dJ}{k:Key}(h:f.W k):f.T k:=by
 rcases h with h| ⟨h,h1⟩
 .exact .inr (.inr (.inl h))
 .exact .inr (.inr (.inr ⟨.inr h,h1⟩))
end
theorem ae1 {J:Type}{p q:J->Bool}{a:J}:∀{l:List J},(∀x,q x=true->p x=true)->a∈l->p a=true->q a=false->l.countP q<l.countP p
 | [],_,h,_,_=>bU|x::l,VP,hm,hp,hq=>by
  rw[List.countP_cons,List.countP_cons];have hle:l.countP q<=l.countP p:=List.countP_mono_left (fun x _ h=>VP x h);rcases iC.1 hm with e|e
  .subst e;simp only[hp,hq,if_true];have:(if false=true then 1 else 0)=0:=rfl;omega
  .have:=ae1 VP e hp hq;by_cases hx:q x=true
   .have:=VP x hx;simp only[hx,this,if_true];omega
   .have hx':q x=false:=(by simpa using hx);rw[hx'];have h0:(if false=true then 1 else 0:Nat)=0:=rfl;rw[h0];omega
structure Cb (md:Region.Mode)(ops:Array Oper)(done l:List Nat):Prop where
 nodup:l.Nodup
 mem:∀i∈l,i<ops.size/\i∉done
 all:∀i,i<ops.size->i∈done\/i∈l
 ord:∀l1 i l2,l=l1++i::l2->∀o,ops[i]? =some o->∀e∈o.after.toList,Region.binds md e=true->e.on∈done\/e.on∈l1
theorem go_acc (md:Region.Mode)(ops:Array Oper):∀(fuel t:Nat)(listed:Array Bool)(acc:List Nat),
 Region.linearise.go md ops fuel t listed acc=acc.reverse++Region.linearise.go md ops fuel t listed []:=by
 intro fuel;induction fuel with
 |zero=>intro t listed acc;simp[Region.linearise.go]|succ fuel ih=>
  intro t listed acc;simp only[Region.linearise.go];split
  .rename_i i _;rw[ih _ _ (i::acc),ih _ _ [i]];simp
  .simp
theorem go_ok (ops:Array Oper)(sj:qc ops.toList=true):∀(fuel t:Nat)(listed:Array Bool)(done:List Nat),
 listed.size=ops.size->(∀i,i<ops.size->(listed.getD i true=true↔i∈done))->(List.range ops.size).countP (fun i=>decide (i∉done))<=fuel->
 Cb .any ops done (Region.linearise.go .any ops fuel t listed []):=by
 have VQ:∀(i:Nat)(o:Oper),ops[i]? =some o->∀e∈o.after.toList,Region.binds .any e=true->e.on<i:=by
  intro i o ho e he hb;have hi:i<ops.size:=by
   rcases Nat.lt_or_ge i ops.size with h|h
   .exact h
   .rw[Array.getElem?_eq_none h] at ho;cases ho
  simp only[qc,kU] at sj;have:=sj i jH;have ho':ops.toList[i]? =some o:=by simpa using ho
  rw[ho'] at this;simp only[kU] at this;simpa [hb] using this e he
 intro fuel;induction fuel with
 |zero=>
  intro t listed done hsz hl hf;refine⟨by simp[Region.linearise.go],by simp[Region.linearise.go],fun i hi=>?_,fun l1 i l2 h=>by simp[Region.linearise.go] at h⟩;by_cases hd:i∈done
  .exact .inl hd
  .have:0< (List.range ops.size).countP (fun i=>decide (i∉done)):=List.countP_pos_iff.2 ⟨i,jH,by simpa using hd⟩;omega
 |succ fuel ih=>
  intro t listed done hsz hl hf;simp only[Region.linearise.go];generalize hrs:(List.range ops.size).filter (fun i=>!listed.getD i true&& ((ops[i]?).map (·.after.all fun e=>!Region.binds .any e||listed.getD e.on false)).getD false)=rs;have hmem:∀i,i∈rs↔i<ops.size/\i∉done/\∃o,ops[i]? =some o/\∀e∈o.after.toList,Region.binds .any e=true->e.on∈done:=by
   intro i;rw[<-hrs,uT];constructor
   .rintro⟨h1,h2⟩;have hi:i<ops.size:=Bz;simp only[aZ,xK] at h2;have hd:i∉done:=fun h=>by have:=(hl i hi).2 h;rw[this] at h2;exact absurd h2.1 aB
    have hoi:ops[i]? =some ops[i]:=(by simp[hi]);refine⟨hi,hd,ops[i],hoi,fun e he hb=>?_⟩;have h3:=h2.2;rw[hoi] at h3;simp only[Option.map_some,Option.getD_some,Array.all_eq_true'] at h3;have h4:=h3 e (by simpa using he);rw[hb] at h4;have hon:e.on<ops.size:=Nat.lt_trans (VQ i _ hoi e he hb) hi;have h5:listed.getD e.on false=true:=(by simpa using h4);refine(hl e.on hon).1 ?_;simp only[Array.getD,hsz,hon,dif_pos] at h5⊢;exact h5
   .rintro⟨hi,hd,o,ho,he⟩;refine⟨jH,?_⟩;have h1:listed.getD i true=false:=(by have:=mt (hl i hi).1 hd;simpa using this);simp only[h1,Bool.not_false,Bool.true_and,ho,Option.map_some,Option.getD_some,Array.all_eq_true'];intro e QF;have ae2:e∈o.after.toList:=(by simpa using QF);cases hb:Region.binds .any e with
    |false=>rfl|true=>have hon:e.on<ops.size:=Nat.lt_trans (VQ i _ ho e ae2 hb) hi;have:=(hl e.on hon).2 (he e ae2 hb);simp only[Array.getD,hsz,hon,dif_pos] at this⊢;show (!true||listed.getInternal e.on _)=true;rw[this];rfl
  cases hpick:rs[t% rs.length]? with
  |none=>
   have hnil:rs=[]:=by
    cases rs with
    |nil=>rfl|cons x xs=>have hlt:t% (x::xs).length< (x::xs).length:=Nat.mod_lt _ aB;rw[List.getElem?_eq_none_iff] at hpick;omega
   simp only[List.reverse_nil];refine⟨aB,aB,fun i hi=>?_,fun l1 i l2 h=>wz⟩;refine Classical.byContradiction fun hno=>?_;have hex:∃i,i<ops.size/\i∉done:=⟨i,hi,fun h=>hno (.inl h)⟩;have hmin:∀k,(∃i,i<=k/\i<ops.size/\i∉done)->∃i,i<ops.size/\i∉done/\∀j,j<i->j∈done:=by
    intro k;induction k with
    |zero=>rintro⟨i,h0,h1,h2⟩;obtain rfl:i=0:=RS;exact⟨0,h1,h2,fun j hj=>absurd hj (fZ j)⟩
    |succ k ihk=>
     rintro⟨i,h0,h1,h2⟩;by_cases hsm:∃i,i<=k/\i<ops.size/\i∉done
     .exact ihk hsm
     .refine⟨i,h1,h2,fun j hj=>Classical.byContradiction fun hjd=>hsm ⟨j,RS,RS,hjd⟩⟩
   obtain⟨i0,h1,h2,h3⟩:=hmin i ⟨i,mF _,hi,fun h=>hno (.inl h)⟩;have:i0∈rs:=(hmem i0).2 ⟨h1,h2,ops[i0],by simp[h1],fun e he hb=>h3 _ (VQ i0 _ (by simp[h1]) e he hb)⟩;rw[hnil] at this;cases this
  |some i=>
   simp only;rw[go_acc,List.reverse_singleton];have hi:i∈rs:=uU hpick;obtain⟨hilt,hid,o,ho,he⟩:=(hmem i).1 hi;have hrec:=ih (t/rs.length) (listed.setIfInBounds i true) (i::done) (by simpa using hsz) (fun j hj=>by
    by_cases hji:j=i
    .subst hji;simp[Array.getD,hsz,hj]
    .have h1:(listed.setIfInBounds i true).getD j true=listed.getD j true:=(by simp only[Array.getD,Array.size_setIfInBounds,hsz,hj,dif_pos];exact Array.getElem_setIfInBounds_ne RS (Ne.symm hji));rw[h1,hl j hj];simp[hji]) (by
    have:=ae1 (l:=List.range ops.size) (p:=fun j=>decide (j∉done)) (q:=fun j=>decide (j∉i::done)) (a:=i)
     (fun x hx=>by simp at hx⊢;exact hx.2) (by simpa using hilt) (by simpa using hid) aB
    omega)
   refine⟨?_,?_,?_,?_⟩
   .simp only[List.singleton_append,Af];exact⟨fun h=>(hrec.mem i h).2 aB,hrec.nodup⟩
   .intro j hj;rcases iC.1 hj with e|e
    .subst e;exact⟨hilt,hid⟩
    .have:=hrec.mem j e;exact⟨this.1,fun h=>this.2 Ea⟩
   .intro j hj;rcases hrec.all j hj with h|h
    .rcases iC.1 h with e|e
     .exact .inr Eb
     .exact .inl e
    .exact .inr Ea
   .intro l1 j l2 hjl o' ho' e QF hb;cases l1 with
    |nil=>simp only[List.singleton_append,List.nil_append,rX] at hjl;obtain⟨rfl,_⟩:=hjl;rw[ho] at ho';cases ho';exact .inl (he e QF hb)
    |cons a l1=>
     simp only[List.singleton_append,List.cons_append,rX] at hjl;obtain⟨rfl,hjl⟩:=hjl;rcases hrec.ord l1 j l2 hjl o' ho' e QF hb with h|h
     .rcases iC.1 h with e'|e'
      .exact .inr (by simp[e'])
      .exact .inl e'
     .exact .inr Ea
theorem aom (ops:Array Oper)(sj:qc ops.toList=true)(t:Nat):Cb .any ops [] (Region.linearise .any ops t):=by
 refine go_ok ops sj ops.size t _ [] aB (fun i hi=>?_) ?_
 .simp[hi]
 .have:=List.countP_le_length (p:=fun i=>decide (i∉([]:List Nat))) (l:=List.range ops.size);simpa using this
theorem aon {mixed:Bool}(hm:mixed=true)(ops:Array Oper)(sj:qc ops.toList=true)(t:Nat):∃md,Cb md ops [] (Region.schedule mixed ops t):=by unfold Region.schedule;rw[hm,Bool.true_or,if_pos rfl];exact⟨_,aom _ sj _⟩
theorem aoo {e:Edge}(md:Region.Mode)(h:Region.binds .any e=true):Region.binds md e=true:=by
 unfold Region.binds at h⊢;split at h
 .simp at h
 .simp at h
 .rfl
section
variable {E:Env}{S:iN}{fr fr':Fr}{Z Z':ah}
theorem Key.eq_iff {a b:Key}:a.eq b=true↔a=b:=by
 cases a<;>cases b<;>simp[Key.eq,ru];rename_i x y;obtain⟨x1,x2⟩:=x;obtain⟨y1,y2⟩:=y;simp;exact⟨fun h=>⟨h.2,h.1⟩,fun h=>⟨h.2,h.1⟩⟩
theorem ae3 {f g:dJ}(h:clash f g=false)(k:Key):¬(f.W k/\g.T k):=by
 rintro⟨hw,ht⟩;simp only[clash,tJ,List.any_eq_false] at h;obtain⟨h1,h2⟩:=h;have VR:k∈f.w:=by
  rcases hw with h| ⟨h,hs⟩
  .exact h
  .rw[h,Bool.true_and] at h1;simp only[tJ,List.any_eq_false] at h1;obtain⟨⟨⟨a1,a2⟩,a3⟩,a4⟩:=h1;rcases ht with e|e|e| ⟨e,_⟩
   .subst e;cases hs
   .exact absurd hs (a3 k e)
   .exact absurd hs (a4 k e)
   .rcases e with e|e
    .rw[a1] at e;cases e
    .rw[a2] at e;cases e
 have h3:=h2 k VR;simp only[xJ,List.any_eq_true,aZ,not_or,not_exists,not_and] at h3;obtain⟨⟨⟨h4,h5⟩,h6⟩,h7⟩:=h3;rcases ht with h|h|h| ⟨h,hs⟩
 .exact h4 (Key.eq_iff.2 h)
 .exact h5 k h (Key.eq_iff.2 rfl)
 .exact h6 k h (Key.eq_iff.2 rfl)
 .rcases h with h|h
  .exact h7 (.inl h) hs
  .exact h7 (.inr h) hs
theorem aop {st:Nat}{o:Oper}{v:V}(hop:opC E S fr Z st o=some (v,fr',Z')):fr'=fr:=by
 unfold opC at hop;split at hop
 .split at hop
  .simp only[aW,aS] at hop;obtain⟨_,_,_,rfl,_⟩:=hop;rfl
  .split at hop
   .simp only[aW,aS] at hop;obtain⟨_,_,_,rfl,_⟩:=hop;rfl
   .simp only[aW,aS] at hop;obtain⟨_,_,_,rfl,_⟩:=hop;rfl
  .simp at hop
 .simp at hop
 .simp only[aW,aS] at hop;obtain⟨_,_,_,rfl,_⟩:=hop;rfl
def drop2 (r:Option (V×Fr×ah)):Option (V×ah):=r.map fun (v,_,Z)=>(v,Z)
theorem aoq {r:Option (V×Fr×ah)}{v:V}(h:drop2 r=some (v,Z)):∃fr,r=some (v,fr,Z):=by simp only[drop2,aW,aS] at h;obtain⟨⟨v',fr',Z'⟩,h1,rfl,rfl⟩:=h;exact⟨fr',h1⟩
theorem QG (r:Option (V×ah))(fr:Fr):drop2 (r.map fun (v,Z)=>(v,fr,Z))=r:=by
 cases r<;>rfl
theorem aor (ht:Z'.top=Z.top){st:Nat}{Z1:ah}{v:V}:Local (fun k=>k∈[Key.top]) Z Z' (q9 Z st Z1 v) (q9 Z' st Z1 v):=by
 have hs:∀v:V,Local (fun k=>k∈[Key.top]) Z Z' (some (v,Z)) (some (v,Z')):=fun v=>(qG (Z:=Z) (Z':=Z')).local.mono (fun k hk=>by cases hk) (fun k hk=>by rw[iZ.1 hk];exact ht)
 unfold q9;cases v with
 |ak c l=>
  dsimp only;refine xV ?_ gQ;cases c with
  |nil=>exact hs _|full=>exact hs _|own n s=>exact xV (LB ht) gQ|sh=>exact gQ
 |aU loc s off len cap bD ag=>dsimp only;exact xV (qH fun _=>LB ht) gQ
 |_=>exact gQ
theorem aos {b:Bool}{l:List V}(hp:l.all (fun a=>aQ (er a))=true):u6 b Z' l=u6 b Z l:=by
 have hm:∀l:List V,l.all (fun a=>aQ (er a))=true->l.mapM (bg 20 Z')=l.mapM (bg 20 Z):=fun l hp=>LC fun x hx=>aeZ (kU.1 hp x hx);unfold u6;cases b with
 |false=>simp only[bZ,if_false];exact hm l hp|true=>
  simp only[if_true]
  match l,hp with
  | [],_=>rfl|.ak .nil []::l,hp=>rw[List.all_cons,aZ] at hp;dsimp only;rw[hm l hp.2]|.ak .nil (_::_)::_,_=>rfl|.ak .sh _::_,_=>rfl|.ak .full _::_,_=>rfl|.ak (.own _ _) _::_,_=>rfl|.int _ _::_,_=>rfl|.bool _::_,_=>rfl|.str _::_,_=>rfl|.gU::_,_=>rfl|.gH::_,_=>rfl|.gP::_,_=>rfl|.iH::_,_=>rfl|.agg _::_,_=>rfl|.bK _::_,_=>rfl|.aU _ _ _ _ _ _ _::_,_=>rfl|.aX _ _::_,_=>rfl|.ref _ _ _::_,_=>rfl|.fn _ _ _::_,_=>rfl
  |.dQ _ _::_,_=>rfl|.eF _ _::_,_=>rfl|.iface _ _::_,_=>rfl|.raw _::_,_=>rfl
theorem aot (ht:Z'.top=Z.top){st:Nat}{fv:V}{args:List V}:Local (fun k=>k∈[Key.top]) Z Z' (qE E S Z st fv args) (qE E S Z' st fv args):=by
 unfold qE;cases fv with
 |fn f a b=>
  cases f with
  |func f=>
   dsimp only;by_cases hp:(a++args++b).all (fun a=>aQ (er a))=true
   .rw[if_pos hp,if_pos hp,aos hp];exact qH fun cB=>qH fun r=>aor ht
   .rw[if_neg hp];exact gQ
  |_=>exact gQ
 |_=>exact gQ
theorem aou {st:Nat}{o:Oper}(hw:(fT E fr o).lH=false)(vw:(fT E fr o).qb=true->Z'=Z)(h:∀k,k∈(fT E fr o).t\/k∈(fT E fr o).w->jv Z Z' k):
 Local (fun k=>k∈(fT E fr o).w) Z Z' (drop2 (opC E S fr Z st o)) (drop2 (opC E S fr Z' st o)):=by
 by_cases hc:∃c,o.op= .call c
 .obtain⟨c,ho⟩:=hc;unfold opC;simp only[ho];cases fO:c.callee with
  |builtin b=>
   simp only[QG];simp only[fT,ho,fO] at h hw vw;simp only[fT,ho,fO];have hargs:∀(t:List Key),(∀k,k∈(c.args.toList.flatMap fun x=>jN (fr.ev E x))\/k∈t->jv Z Z' k)->∀x∈c.args.toList.map (fr.ev E),∀q∈jN x,jv Z Z' q:=by intro t ht x hx q hq;obtain⟨y,hy,rfl⟩:=tH.1 hx;exact ht q (.inl (List.mem_flatMap.2 ⟨y,hy,hq⟩))
   cases b<;>simp only[gB,reduceCtorEq,Bool.true_eq_false] at hw;case len=>exact(QD (.inl rfl) (hargs [] h)).local
   case cap=>exact(QD (.inr (.inl rfl)) (hargs [] h)).local
   case min=>exact(QD (.inr (.inr (.inl rfl))) (hargs [] h)).local
   case max=>exact(QD (.inr (.inr (.inr rfl))) (hargs [] h)).local
   case append=>
    cases bO:fr.aj with
    |true=>rw[bO] at hw;simp at hw|false=>rw[bO] at h;simp only[bZ,if_false] at h⊢;exact aof (hargs _ h) (h .top (.inr aB))
  |value f=>
   simp only[fT,ho,fO] at h hw vw;simp only[fT,ho,fO];cases eP:kX E fr o f with
   |true=>rw[eP] at h;simp only[if_true] at h⊢;simp only[QG];have ht:Z'.top=Z.top:=h .top (.inr (by simp[mG]));exact aot ht|false=>
   rw[eP] at h hw vw;simp only[bZ,if_false] at h hw vw⊢;simp only[QG];generalize QH:fr.ev E f=fv at h hw vw⊢;cases fv with
   |fn g a b=>
    cases g with
    |func g=>
     simp only at h hw vw⊢;cases hi:E.imp g with
     |true=>rw[hi] at hw;simp[gB] at hw|false=>
      rw[hi] at h vw;simp only[bZ,if_false] at h vw⊢;split
      .rename_i hp;exact(aok hi hp).local
      .rename_i hp;rw[if_neg hp] at vw;have:=vw rfl;subst this;intro v Z1 hr;have:=aol hi hr;subst this;exact⟨Z1,hr,.refl _,.refl _,fun k hk=>.refl _ _,fun k hk=>.refl _ _,fun k hk=>.refl _ _⟩
    |_=>simp[gB] at hw
   |_=>simp[gB] at hw
  |invoke r m=>exact gQ
 .have hc':∀c,o.op≠ .call c:=fun c h=>hc ⟨c,h⟩;have hd:∀(Z:ah),(∀d,o.op≠ .defer d)->drop2 (opC E S fr Z st o)=dh E fr Z st o:=by
   intro Z hd;unfold opC;split
   .rename_i c hh;exact absurd hh (hc' c)
   .rename_i c hh;exact absurd hh (hd c)
   .exact QG _ _
  by_cases hdf:∃d,o.op= .defer d
  .obtain⟨d,ho⟩:=hdf;simp only[fT,ho,gB,Bool.true_eq_false] at hw
  .have ae4:∀d,o.op≠ .defer d:=fun d h=>hdf ⟨d,h⟩;rw[hd Z ae4,hd Z' ae4];exact aoi hc' hw h
theorem VT {x:V}:Key.nx∉jN x:=by cases x<;>simp[jN]
theorem aov {o:Oper}:Key.nx∉(fT E fr o).w:=by
 have hd:Key.nx∉vZ fr o:=by unfold vZ;cases o.dst<;>simp
 unfold fT;split<;>try simp[mE,mG,gB,hd,VT]
 split<;>try simp[mE,mG,gB,VT]
 all_goals (repeat' split)<;>simp[mE,mG,gB,VT]
theorem aow {ops:List Oper}{o:Oper}{t:Nat}(h:Operand.tmp t∈o.op.operands.toList):Key.slot t∈rU ops o:=by refine Ef _ (List.mem_filterMap.2 ⟨_,h,rfl⟩)
theorem ae5 {ops:List Oper}{o:Oper}(h:∀t,Key.slot t∈rU ops o->fr'.tm t=fr.tm t):∀x∈o.op.operands.toList,fr'.ev E x=fr.ev E x:=by
 intro x hx;cases x with
 |tmp t=>exact h t (aow hx)|_=>rfl
theorem ae6 {ops:List Oper}{o:Oper}(h:∀t,Key.slot t∈rU ops o->fr'.tm t=fr.tm t):fD ops fr' o=fD ops fr o:=by
 unfold fD;cases hg:o.guard with
 |none=>rfl|some g=>
  obtain⟨j,want⟩:=g;simp only;cases hd:(ops[j]?).bind (·.dst) with
  |none=>rfl|some t=>have:fr'.tm t=fr.tm t:=h t (BJ _ (by simp[hg,hd]));simp only[this]
theorem ze (fr:Fr)(d:Option Nat)(v:V)(t:Nat):(fr.put d v).tm t=if d=some t then v else fr.tm t:=by
 cases d with
 |none=>simp[Fr.put]|some i=>
  show upd fr.tm i v t=_;by_cases h:t=i
  .subst h;simp[upd]
  .have:¬(some i=some t):=fun e=>h (by cases e;rfl);simp[upd,h,this]
theorem GZ (fr:Fr)(d:Option Nat)(v:V):(fr.put d v).d=fr.d:=Gh
theorem G5 (fr:Fr)(d:Option Nat)(v:V):(fr.put d v).aj=fr.aj:=Gh
theorem G6 {o:Oper}{t:Nat}:Key.slot t∈nG o↔o.dst=some t:=by
 unfold nG;cases o.dst with
 |none=>simp|some d=>simp only[iZ,Key.slot.injEq,iE];exact⟨fun h=>h.symm,fun h=>h.symm⟩
theorem G7 {ops:List Oper}{base i:Nat}{o:Oper}(ho:ops[i]? =some o){wt:Bool}(hwt:fD ops fr o=some wt){bJ:Fr}{Z1:ah}(hs:jc E S ops base i fr Z=some (bJ,Z1))(x:Fr×ah)(hx:∀k,(dW E ops fr o wt).T k->dZ k (fr,Z) x):
 ∃y:Fr×ah,jc E S ops base i x.1 x.2=some y/\(∀k,(dW E ops fr o wt).W k->dZ k (bJ,Z1) y)/\(∀k,¬(dW E ops fr o wt).W k->dZ k x y)/\
  ∀k,¬(dW E ops fr o wt).W k->dZ k (fr,Z) (bJ,Z1):=by
 obtain⟨fr',Z'⟩:=x;obtain⟨r1,r2⟩:fr.d=fr'.d/\fr.aj=fr'.aj:=hx .rest (.inl rfl);have hsl:∀t,Key.slot t∈rU ops o->fr'.tm t=fr.tm t:=by
  intro t ht;refine Eq.symm (hx (.slot t) (.inr (.inl ?_)));cases wt
  .exact ht
  .exact Ef _ ht
 have aox:fD ops fr' o=some wt:=(ae6 hsl).trans hwt;simp only[jc,ho,hwt,Option.bind_some] at hs;simp only[jc,ho,aox,Option.bind_some];cases wt with
 |false=>
  simp only[bZ,if_false,iE,aS] at hs⊢;obtain⟨rfl,rfl⟩:=hs;have hW:∀k,(dW E ops fr o false).W k↔k∈nG o:=fun k=>by
   refine⟨fun h=>?_,fun h=>.inl h⟩;rcases h with h| ⟨h,_⟩
   .exact h
   .cases h
  have ae7:∀(f:Fr)(s:ah) k,¬(dW E ops fr o false).W k->dZ k (f,s) (f.put o.dst aJ,s):=by
   intro f s k hk;rw[hW] at hk;cases k with
   |slot t=>show f.tm t=(f.put o.dst aJ).tm t;rw[ze,if_neg (fun e=>hk (G6.2 e))]
   |obj l=>rfl|top=>rfl|rest=>exact⟨(GZ _ _ _).symm,(G5 _ _ _).symm⟩|nx=>exact⟨rfl,rfl⟩
  refine⟨_,rfl,fun k hk=>?_,ae7 fr' Z',ae7 fr Z⟩;rw[hW] at hk;cases k with
  |slot t=>show (fr.put o.dst aJ).tm t=(fr'.put o.dst aJ).tm t;rw[ze,ze,if_pos (G6.1 hk),if_pos (G6.1 hk)]|obj l=>exfalso;unfold nG at hk;cases hd:o.dst<;>simp[hd] at hk|top=>exfalso;unfold nG at hk;cases hd:o.dst<;>simp[hd] at hk|rest=>exfalso;unfold nG at hk;cases hd:o.dst<;>simp[hd] at hk|nx=>exfalso;unfold nG at hk;cases hd:o.dst<;>simp[hd] at hk
 |true=>
  simp only[if_true,aW,aS] at hs⊢;obtain⟨⟨v,iW,Z2⟩,hop,rfl,rfl⟩:=hs;obtain rfl:=aop hop;have key:∃EA,opC E S fr' Z' (base+i) o=some (v,fr',EA)/\(∀k,(dW E ops iW o true).W k->dZ k (iW,Z2) (iW,EA))/\
   (∀k,¬(dW E ops iW o true).W k->dZ k (iW,Z) (iW,Z2)/\dZ k (iW,Z') (iW,EA)):=by
   rw[aeS (ae5 hsl) r1.symm r2.symm];have VU:∀k,(dW E ops iW o true).T k->jv Z Z' k:=by
    intro k hk;have:=hx k hk;cases k with
    |obj l=>exact Eq.symm this|top=>exact Eq.symm this|slot t=>trivial|rest=>trivial|nx=>trivial
   cases Ap:(fT E iW o).lH with
   |true=>
    have hst:∀k:Key,k.state=true->jv Z Z' k:=fun k hk=>VU k (.inr (.inr (.inr ⟨.inr Ap,hk⟩)));have aoy:Z'=Z:=(by obtain⟨r3,r4⟩:Z.next=Z'.next/\Z.loops=Z'.loops:=hx .nx (.inr (.inr (.inr ⟨.inr Ap,rfl⟩)));obtain⟨nx,top,obj,lp⟩:=Z;obtain⟨nx',top',LD,ae0⟩:=Z';have h1:top'=top:=hst .top rfl;have h2:LD=obj:=funext fun l=>hst (.obj l) rfl;simp only at r3 r4;subst h1 h2 r3 r4;rfl);subst aoy;refine⟨Z2,by rw[hop];rfl,fun k _=>.refl _ _,fun k hk=>?_⟩;cases k with
    |slot t=>exact⟨rfl,rfl⟩|obj l=>exact absurd (.inr ⟨Ap,rfl⟩) hk|top=>exact absurd (.inr ⟨Ap,rfl⟩) hk|rest=>exact⟨⟨rfl,rfl⟩,⟨rfl,rfl⟩⟩|nx=>exact absurd (.inr ⟨Ap,rfl⟩) hk
   |false=>
    have vw:(fT E iW o).qb=true->Z'=Z:=(by intro ht;have hst:∀k:Key,k.state=true->jv Z Z' k:=fun k hk=>VU k (.inr (.inr (.inr ⟨.inl ht,hk⟩)));obtain⟨r3,r4⟩:Z.next=Z'.next/\Z.loops=Z'.loops:=hx .nx (.inr (.inr (.inr ⟨.inl ht,rfl⟩)));obtain⟨nx,top,obj,lp⟩:=Z;obtain⟨nx',top',LD,ae0⟩:=Z';have h1:top'=top:=hst .top rfl;have h2:LD=obj:=funext fun l=>hst (.obj l) rfl;simp only at r3 r4;subst h1 h2 r3 r4;rfl);have hl:=aou (S:=S) (st:=base+i) Ap vw (fun k hk=>VU k (by
     rcases hk with hk|hk
     .exact .inr (.inl (BJ _ hk))
     .exact .inr (.inr (.inl (BJ _ hk)))))
    obtain⟨EA,h1,h2,h3,h4,h5,h6⟩:=hl v Z2 (by rw[hop];rfl);obtain⟨aAS,h1'⟩:=aoq h1;have hWw:∀k,(dW E ops iW o true).W k->k∈nG o\/k∈(fT E iW o).w:=fun k hk=>by
     rcases hk with h| ⟨h,_⟩
     .exact qB.1 h
     .have:(fT E iW o).lH=true:=h;rw[Ap] at this;cases this
    have hto:∀{QI QJ:ah}{k:Key},jv QI QJ k->tV QI QJ\/k≠ .nx->dZ k (iW,QI) (iW,QJ):=by
     intro QI QJ k ha hn;cases k with
     |slot t=>rfl|obj l=>exact Eq.symm ha|top=>exact Eq.symm ha|rest=>exact⟨rfl,rfl⟩|nx=>
      rcases hn with hn|hn
      .exact⟨hn.1.symm,hn.2.symm⟩
      .exact absurd rfl hn
    have aoz:Key.nx∉(fT E iW o).w:=aov;refine⟨EA,by rw[h1'];rfl,fun k hk=>?_,fun k hk=>?_⟩
    .rcases hWw k hk with h|h
     .cases k with
      |slot t=>rfl|obj l=>exfalso;unfold nG at h;cases hd:o.dst<;>simp[hd] at h|top=>exfalso;unfold nG at h;cases hd:o.dst<;>simp[hd] at h|rest=>exfalso;unfold nG at h;cases hd:o.dst<;>simp[hd] at h|nx=>exfalso;unfold nG at h;cases hd:o.dst<;>simp[hd] at h
     .exact hto (h4 k h) (.inr (fun e=>aoz (e▸h)))
    .have hk':k∉(fT E iW o).w:=fun h=>hk (.inl (BJ _ h));exact⟨hto (h5 k hk') (.inl h2),hto (h6 k hk') (.inl h3)⟩
  obtain⟨EA,h1,h2,h3⟩:=key;refine⟨(fr'.put o.dst v,EA),⟨_,h1,rfl⟩,fun k hk=>?_,fun k hk=>?_,fun k hk=>?_⟩
  .have hk0:=h2 k hk;cases k with
   |slot t=>
    show (iW.put o.dst v).tm t=(fr'.put o.dst v).tm t;rw[ze,ze];split
    .rfl
    .exact hx (.slot t) (dJ.QE hk)
   |obj l=>exact hk0|top=>exact hk0|rest=>
    refine⟨?_,?_⟩
    .show (iW.put o.dst v).d=(fr'.put o.dst v).d;rw[GZ,GZ];exact r1
    .show (iW.put o.dst v).aj=(fr'.put o.dst v).aj;rw[G5,G5];exact r2
   |nx=>exact hk0
  .have hk0:=(h3 k hk).2;cases k with
   |slot t=>show fr'.tm t=(fr'.put o.dst v).tm t;rw[ze,if_neg (fun e=>hk (.inl (Ef _ (G6.2 e))))]
   |obj l=>exact hk0|top=>exact hk0|rest=>exact⟨(GZ _ _ _).symm,(G5 _ _ _).symm⟩|nx=>exact hk0
  .have hk0:=(h3 k hk).1;cases k with
   |slot t=>show iW.tm t=(iW.put o.dst v).tm t;rw[ze,if_neg (fun e=>hk (.inl (Ef _ (G6.2 e))))]
   |obj l=>exact hk0|top=>exact hk0|rest=>exact⟨(GZ _ _ _).symm,(G5 _ _ _).symm⟩|nx=>exact hk0
end
end aR
end
