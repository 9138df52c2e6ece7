import Derived.RangeFuncRecord
import Derived.Test.YtabmooekodficaaGreatDoorF4403
set_option linter.all false
section
namespace Aq
open Go Go.RowKit
def Aw (E:Env) (I:Nat->Nat->Prop) (IM:Nat->Prop) (w:World):Prop:=
 (∀b o,I b o->∃v,w.cell? (at_ b o)=some v)/\(∀b,IM b->∃es aH,w.heap[b]? =some (.map es aH))/\
 ∀g cs,E.glob g=some cs->Rel (aB.lend I IM) (fun _=>0) w (.cref cs 0) (.pointer (some (at_ g 0)))
def Uf (I:Nat->Nat->Prop) (IM:Nat->Prop) (w:World) (v:V):Ending->World->Prop
 |.returned c,w'=>Below w.heap.size w w'/\Rel (aB.lend (grow I w.heap.size w') (j6 IM w.heap.size w')) (fun _=>0) w' v c
 |_,_=>False
def PureOK (E:Env) (f:FuncId) (args:List V) (v:V):Prop:=
 rX E f/\∀I IM w cargs,Aw E I IM w->RelA (aB.lend I IM) (fun _=>0) w args cargs->CallsIn Fence.wide 0 E.P f cargs w (Uf I IM w v)
structure EnvOK (E:Env):Prop where
 name:∀(f:FuncId) (fn:Func),E.P.funcs[f]? =some fn->fn.name≠ "runtime.NumGoroutine"
 summ:∀f g,E.summ f=some g->∀args v,g args=some v->PureOK E f args v
 mixed:E.P.follows .mixedOrders=true
 flat:∀g cs,E.glob g=some cs->pcleanL cs=true
section
variable {E:Env} {S:bH} {K K':aB} {T T':Nat->Nat} {w w':World} {σ σ':Sig} {B0:Nat}
theorem Rel.wL {I:Nat->Nat->Prop} {IM:Nat->Prop} {v:V} {c:Value} (h:Rel (aB.lend I IM) T w v c) (hI:∀b o,I b o->K'.I b o/\w'.cell? (at_ b o)=w.cell? (at_ b o))
 (hM:∀b,IM b->K'.IM b/\w'.heap[b]? =w.heap[b]?):Rel K' T' w' v c:=by
 generalize hK:aB.lend I IM=K at h
 induction h with
 |int k n=>exact .int k n
 |bool b=>exact .bool b
 |str s b h=>exact .str s b h
 |nilp=>exact .nilp
 |nilf=>exact .nilf
 |nilm=>exact .nilm
 |nili=>exact .nili
 |agg cs vs hl _ ih=>exact .agg cs vs hl (fun i hi=>ih i hi)
 |tup cs vs hl _ ih=>exact .tup cs vs hl (fun i hi=>ih i hi)
 |aT c a ha hc=>
  cases c with
  |own n s=>subst hK;exact hc.1.elim
  |_=>exact .aT _ a ha trivial
 |lst c l b o n cap val hle hn hcell _ hc ih=>
  refine .lst c l b o n cap val hle hn (fun i j hi hj=>?_) ih ?_
  ·obtain⟨h1,h2⟩:=hcell i j hi hj
   subst hK
   obtain⟨g1,g2⟩:=hI _ _ h2
   exact⟨g2.trans h1,g1⟩
  ·cases c with
   |own n s=>subst hK;exact hc.2.1.elim
   |sh=>trivial
   |full=>exact hc
   |nil=>exact hc
 |vw loc s off len cap aA ag aL hA hc hle hsz=>subst hK;exact hA.elim
 |dR loc s aA ag hA=>subst hK;exact hA.elim
 |cref cs off b o val hcell _ ih=>
  refine .cref cs off b o val (fun j hj=>?_) ih
  obtain⟨h1,h2⟩:=hcell j hj
  subst hK
  obtain⟨g1,g2⟩:=hI _ _ h2
  exact⟨g2.trans h1,g1⟩
 |ref loc s off hA=>subst hK;exact hA.elim
 |fn f a b av bv ha hb _ _ iha ihb=>exact .fn f a b av bv ha hb iha ihb
 |yield l hA=>subst hK;exact hA.elim
 |mapr loc s hA=>subst hK;exact hA.elim
 |mapc ks vs b es aH hM' hb hk hv _ _ ihk wh=>
  subst hK
  obtain⟨g1,g2⟩:=hM b hM'
  exact .mapc ks vs b es aH g1 (g2.trans hb) hk hv ihk wh
 |iface t v c _ ih=>exact .iface t v c ih
 |raw v=>exact .raw v
theorem Ay {B b o:Nat} (h:Below B w w') (hb:b<B):w'.cell? (at_ b o)=w.cell? (at_ b o):=cell_of_heap (h.block b hb)
theorem Fh {I:Nat->Nat->Prop} {IM:Nat->Prop} (h:Aw E I IM w):aC E w.heap.size Sig.init (aB.lend I IM) w where
 obj loc s ob hs:=by simp[Sig.init] at hs
 own s hs:=hs.elim
 I b o hi:=⟨h.1 b o hi,fun loc e=>by simp[aB.lend] at e⟩
 IM b hi:=⟨h.2.1 b hi,fun loc e=>by simp[aB.lend] at e⟩
 loop l r hl:=by simp[Sig.init] at hl
 glob g cs hg:=by
  have:=h.2.2 g cs hg
  exact this.wL (fun _ _ h=>⟨h,rfl⟩) (fun _ h=>⟨h,rfl⟩)
 rb b r hr:=by simp[aB.lend] at hr
 D b hd:=hd.elim
theorem callPure_sound (hE:EnvOK E) (hS:pV E S.call) {f:FuncId} {args:List V} {v:V} (h:callPure E S f args=some v):PureOK E f args v:=by
 unfold callPure at h
 split at h
 ·rename_i g hg
  exact hE.summ f g hg args v h
 ·simp only[iR] at h
  obtain⟨⟨v0,σ1⟩,hc,h⟩:=h
  obtain⟨_,hb,hs⟩:=hS _ _ _ _ _ _ hc
  refine⟨hb,fun I IM w cargs hl hr=>?_⟩
  have hr':RelA (aB.lend I IM) Sig.init.top w args cargs:=hr
  refine(hs none w.heap.size (aB.lend I IM) w cargs (Fh hl) (iP _) (fun s hs=>hs.elim) hr').mono ?_
  intro e w' hp
  cases e with
  |returned c=>
   obtain⟨K1,r1,s1,_,st⟩:=hp
   refine⟨st.below,?_⟩
   have:=Fg (T':=fun _=>0) s1 20 v0 v c r1 h
   refine this.wL (fun b o hi=>⟨⟨?_,hi.2⟩,rfl⟩) (fun b hi=>⟨⟨?_,hi.2⟩,rfl⟩)
   ·rcases hi.1 with h1|h1
    ·exact st.nI b o h1
    ·exact .inr h1
   ·rcases hi.1 with h1|h1
    ·exact st.kR b h1
    ·exact .inr h1
  |panicked ch=>exact hp.elim
  |outgrown=>exact hp.elim
theorem Step.grow (h:aC E B0 σ K w) (hB:B0<=w.heap.size) {new:Nat->Prop} (hb:Below w.heap.size w w'):
 Step E B0 new σ K w σ {K with I:=Aq.grow K.I w.heap.size w',IM:=j6 K.IM w.heap.size w'} w':=by
 have mG:∀b o,K.I b o->w'.cell? (at_ b o)=w.cell? (at_ b o):=fun b o hi=>Ay hb (lt_of_cell (h.I b o hi).1.choose_spec)
 have nO:∀b,K.IM b->w'.heap[b]? =w.heap[b]? :=fun b hi=>by
  obtain⟨⟨es,aH,h1⟩,_⟩:=h.IM b hi
  exact hb.block b (lt_of_heap h1)
 have e:Ext K σ.top w {K with I:=Aq.grow K.I w.heap.size w',IM:=j6 K.IM w.heap.size w'} σ.top w':=
  ⟨fun _ h=>⟨h,rfl,rfl,rfl⟩,fun _ _=>.inl ⟨rfl,rfl,rfl,rfl⟩,fun b o hi=>⟨⟨.inl hi,by rw[mG b o hi];exact(h.I b o hi).1⟩,mG b o hi⟩,
    fun b hi=>⟨⟨.inl hi,by rw[nO b hi];exact(h.IM b hi).1⟩,nO b hi⟩⟩
 refine⟨⟨fun loc s ob hs=>?_,fun s hs hl=>?_,fun b o hi=>⟨hi.2,?_⟩,fun b hi=>⟨hi.2,?_⟩,fun l r hl=>?_,fun g cs hg=>(h.glob g cs hg).ext e,fun b r hr=>?_,fun b hd=>?_⟩,e,
  ⟨hb.os,hb.tape,hb.output,hb.size,fun k hk=>hb.block k (by omega)⟩,fun _ h=>h,fun _ h=>.inl h,fun b o hi=>hi.1.imp id (by omega),fun b hi=>hi.1.imp id (by omega)⟩
 ·obtain⟨a1,a2,a3⟩:=h.obj loc s ob hs
  exact⟨a1,a2.ext e a1 (fun hr=>hb.block _ (h.rb _ _ (a3 hr)).1),a3⟩
 ·obtain⟨a1,a2,a3⟩:=h.own s hs hl
  have hlt:=(h.rb _ _ a2).1
  refine⟨a1,a2,fun o h1 h2=>?_⟩
  obtain⟨c1,⟨v,c2⟩,c3⟩:=a3 o h1 h2
  refine⟨fun hi=>?_,⟨v,(Ay hb hlt).trans c2⟩,?_⟩
  ·rcases hi.1 with h1|h1
   ·exact c1 h1
   ·have:w.heap.size<=K.ob s:=h1
    omega
  ·rw[frozen_of_heap (hb.block _ hlt)];exact c3
 ·intro loc hρ
  rcases hi.1 with h1|h1
  ·exact(h.I b o h1).2 loc hρ
  ·have:=(h.rb _ _ hρ).1;omega
 ·intro loc hρ
  rcases hi.1 with h1|h1
  ·exact(h.IM b h1).2 loc hρ
  ·have:=(h.rb _ _ hρ).1;omega
 ·obtain⟨a1,a2⟩:=h.loop l r hl
  exact⟨a1,a2.ext e a1 (hb.block _ (h.rb _ _ a2.2.1).1) rfl⟩
 ·have:=h.rb b r hr;exact⟨aeD this.1 hb.size,this.2⟩
 ·have:=h.D b hd
  rw[hb.block b (lt_of_heap this)];exact this
def aB.eU (K:aB) (B:Nat) (w':World) (st ob lo hi:Nat):aB:=
 {K with A:=fun x=>K.A x\/x=st,ob:=upd K.ob st ob,lo:=upd K.lo st lo,hi:=upd K.hi st hi,I:=fun b o=>Aq.grow K.I B w' b o/\¬(b=ob/\lo<=o/\o<hi),IM:=j6 K.IM B w',ρ:=fun b=>if b=ob/\lo<hi then some (.own st) else K.ρ b}
theorem Step.eU (h:aC E B0 σ K w) (hB:B0<=w.heap.size) {st T1:Nat} (hst:¬K.A st) (hb:Below w.heap.size w w') {ob lo hi:Nat}
 (ho:lo<hi->w.heap.size<=ob/\∀o,lo<=o->o<hi->(∃v,w'.cell? (at_ ob o)=some v)/\w'.frozen? (at_ ob o)=false):
 Step E B0 (· =st) σ K w (σ.aI st T1) (K.eU w.heap.size w' st ob lo hi) w':=by
 have mG:∀b o,K.I b o->w'.cell? (at_ b o)=w.cell? (at_ b o):=fun b o hi=>Ay hb (lt_of_cell (h.I b o hi).1.choose_spec)
 have nO:∀b,K.IM b->w'.heap[b]? =w.heap[b]? :=fun b hi=>by
  obtain⟨⟨es,aH,h1⟩,_⟩:=h.IM b hi
  exact hb.block b (lt_of_heap h1)
 have hne:∀x,K.A x->x≠st:=fun x hx e=>hst (e▸hx)
 have Fj:∀b,b<w.heap.size->(K.eU w.heap.size w' st ob lo hi).ρ b=K.ρ b:=fun b hbl=>by
  show (if b=ob/\lo<hi then some (qZ.own st) else K.ρ b)=K.ρ b
  rw[if_neg]
  rintro⟨rfl,h2⟩
  have:=(ho h2).1
  omega
 have hold:∀b o,b<w.heap.size->¬(b=ob/\lo<=o/\o<hi):=by
  rintro b o hbl ⟨rfl,h2,h3⟩
  have:=(ho (by omega)).1
  omega
 have e:Ext K σ.top w (K.eU w.heap.size w' st ob lo hi) (σ.aI st T1).top w':=
  ⟨fun _ h=>⟨.inl h,rfl,rfl,rfl⟩,fun x hx=>.inl ⟨upd_ne _ _ (hne x hx),upd_ne _ _ (hne x hx),upd_ne _ _ (hne x hx),upd_ne _ _ (hne x hx)⟩,
    fun b o hi=>⟨⟨⟨.inl hi,by rw[mG b o hi];exact(h.I b o hi).1⟩,hold b o (lt_of_cell (h.I b o hi).1.choose_spec)⟩,mG b o hi⟩,
    fun b hi=>⟨⟨.inl hi,by rw[nO b hi];exact(h.IM b hi).1⟩,nO b hi⟩⟩
 refine⟨⟨fun loc s x hs=>?_,fun s hs hl=>?_,fun b o hq=>⟨hq.1.2,?_⟩,fun b hq=>⟨hq.2,?_⟩,fun l r hl=>?_,fun g cs hg=>(h.glob g cs hg).ext e,fun b r hr=>?_,fun b hd=>?_⟩,e,
  ⟨hb.os,hb.tape,hb.output,hb.size,fun k hk=>hb.block k (by omega)⟩,fun _ h=>h,fun _ h=>h,fun b o hi=>hi.1.1.imp id (by omega),fun b hi=>hi.1.imp id (by omega)⟩
 ·obtain⟨a1,a2,a3⟩:=h.obj loc s x hs
  refine⟨.inl a1,a2.ext e a1 (fun hr=>hb.block _ (h.rb _ _ (a3 hr)).1),fun hr=>?_⟩
  show (K.eU w.heap.size w' st ob lo hi).ρ (K.blk s)=_
  rw[Fj _ (h.rb _ _ (a3 hr)).1];exact a3 hr
 ·by_cases hxs:s=st
  ·subst hxs
   have q1:(K.eU w.heap.size w' s ob lo hi).ob s=ob:=upd_same _ _ _
   have q2:(K.eU w.heap.size w' s ob lo hi).lo s=lo:=upd_same _ _ _
   have q3:(K.eU w.heap.size w' s ob lo hi).hi s=hi:=upd_same _ _ _
   rw[q2,q3] at hl
   obtain⟨o1,o2⟩:=ho hl
   refine⟨by rw[q1];omega,?_,fun o h1 h2=>?_⟩
   ·rw[q1]
    show (if ob=ob/\lo<hi then some (qZ.own s) else K.ρ ob)=_
    rw[if_pos ⟨rfl,hl⟩]
   ·rw[q2] at h1;rw[q3] at h2;rw[q1]
    exact⟨fun hI=>hI.2 ⟨rfl,h1,h2⟩,(o2 o h1 h2).1,(o2 o h1 h2).2⟩
  ·have hA:K.A s:=hs.resolve_right hxs
   have q1:(K.eU w.heap.size w' st ob lo hi).ob s=K.ob s:=upd_ne _ _ hxs
   have q2:(K.eU w.heap.size w' st ob lo hi).lo s=K.lo s:=upd_ne _ _ hxs
   have q3:(K.eU w.heap.size w' st ob lo hi).hi s=K.hi s:=upd_ne _ _ hxs
   rw[q2,q3] at hl
   obtain⟨a1,a2,a3⟩:=h.own s hA hl
   have hlt:=(h.rb _ _ a2).1
   refine⟨by rw[q1];exact a1,by rw[q1,Fj _ hlt];exact a2,fun o h1 h2=>?_⟩
   rw[q2] at h1;rw[q3] at h2;rw[q1]
   obtain⟨c1,⟨v,c2⟩,c3⟩:=a3 o h1 h2
   refine⟨fun hi=>?_,⟨v,(Ay hb hlt).trans c2⟩,?_⟩
   ·rcases hi.1.1 with h1|h1
    ·exact c1 h1
    ·omega
   ·rw[frozen_of_heap (hb.block _ hlt)];exact c3
 ·intro loc hρ
  have mH:(if b=ob/\lo<hi then some (qZ.own st) else K.ρ b)=some (.obj loc):=hρ
  split at mH
  ·cases mH
  ·rcases hq.1.1 with h1|h1
   ·exact(h.I b o h1).2 loc mH
   ·have:=(h.rb _ _ mH).1;omega
 ·intro loc hρ
  have mH:(if b=ob/\lo<hi then some (qZ.own st) else K.ρ b)=some (.obj loc):=hρ
  split at mH
  ·cases mH
  ·rcases hq.1 with h1|h1
   ·exact(h.IM b h1).2 loc mH
   ·have:=(h.rb _ _ mH).1;omega
 ·obtain⟨a1,a2⟩:=h.loop l r hl
  exact⟨.inl a1,a2.ext e a1 (hb.block _ (h.rb _ _ a2.2.1).1) (Fj _ (h.rb _ _ a2.2.1).1)⟩
 ·have hr':(if b=ob/\lo<hi then some (qZ.own st) else K.ρ b)=some r:=hr
  split at hr'
  ·rename_i hc
   obtain⟨o1,o2⟩:=ho hc.2
   obtain⟨⟨v,hv⟩,_⟩:=o2 lo (iP _) hc.2
   rw[hc.1]
   exact⟨lt_of_cell hv,by omega⟩
  ·have:=h.rb b r hr';exact⟨aeD this.1 hb.size,this.2⟩
 ·have:=h.D b hd
  rw[hb.block b (lt_of_heap this)];exact this
end
end Aq
end
section
namespace Aq
open Go Go.RowKit
section
variable {E:Env} {S:bH} {K K':aB} {w w':World} {σ σ':Sig} {B0:Nat}
theorem Fp (w:World) (b:Nat) (o:Obj):Only b w (w.putObj b o):=⟨rfl,rfl,rfl,by simp,fun _ hk _=>World.putObj_heap_other hk⟩
theorem Step.bC (h:aC E B0 σ K w) (hB:B0<=w.heap.size) {new:Nat->Prop} {l:Nat} {r r':gq} (hl:σ.loops l=some r) (h1:r'.fr=r.fr) (h2:r'.ps=r.ps) (h3:r'.aS=r.aS) (h4:r'.body=r.body)
 {rec:Go.Loop} (hr:w.heap[K.lp l]? =some (.loop rec)):
 Step E B0 new σ K w (σ.bC l r') K (w.putObj (K.lp l) (.loop {rec with state:=iB r'.st,pending:=r'.pend.bind iY})):=by
 obtain⟨hA,hb0,hρ,fn,tmps,D,hh,hf,hok⟩:=h.loop l r hl
 have hrec:rec={state:=iB r.st,pending:=r.pend.bind iY,fn:=fn,tmps:=tmps,params:=r.ps.toArray,assign:=r.aS,body:=r.body,defers:=D}:=by
  rw[hh] at hr;simpa using hr.symm
 have hlt:=lt_of_heap hr
 have ho:=Fp w (K.lp l) (.loop {rec with state:=iB r'.st,pending:=r'.pend.bind iY})
 have hnew:(w.putObj (K.lp l) (.loop {rec with state:=iB r'.st,pending:=r'.pend.bind iY})).heap[K.lp l]? =some (.loop {rec with state:=iB r'.st,pending:=r'.pend.bind iY}):=World.putObj_heap_same hlt
 have hcell:∀b o v,w.cell? (at_ b o)=some v->b≠K.lp l:=fun b o v hv e=>by
  subst e
  simp[World.cell?,hr] at hv
 have e:Ext K σ.top w K σ.top (w.putObj (K.lp l) (.loop {rec with state:=iB r'.st,pending:=r'.pend.bind iY})):=by
  refine⟨fun _ h=>⟨h,rfl,rfl,rfl⟩,fun _ _=>.inl ⟨rfl,rfl,rfl,rfl⟩,fun b o hi=>⟨hi,?_⟩,fun b hi=>⟨hi,?_⟩⟩
  ·obtain⟨⟨v,hv⟩,_⟩:=h.I b o hi
   exact cell_of_heap (ho.block b (hcell b o v hv) (lt_of_cell hv))
  ·obtain⟨⟨es,aH,hv⟩,_⟩:=h.IM b hi
   exact ho.block b (gW hv hr (by simp)) (lt_of_heap hv)
 refine⟨?_,e,ho.below hb0 hB,fun _ h=>h,fun _ h=>.inl h,fun _ _ h=>.inl h,fun _ h=>.inl h⟩
 refine h.upd (σ':=σ.bC l r') ho e (fun _ _=>rfl) (fun r hr'=>⟨by simpa using hlt,hb0⟩) ?_ ?_ ?_ ?_ ?_ ?_
 ·intro loc s ob hs
  refine .inl ⟨hs,fun dU=>?_⟩
  intro e'
  have:=(h.obj loc s ob hs).2.2 dU
  rw[e',hρ] at this
  cases this
 ·intro s hs hlt'
  refine .inl ⟨hs,rfl,rfl,rfl,fun e'=>?_⟩
  have:=(h.own s hs hlt').2.1
  rw[e',hρ] at this
  cases this
 ·intro b' o hi
  obtain⟨⟨v,hv⟩,_⟩:=h.I b' o hi
  exact .inl ⟨hi,hcell b' o v hv⟩
 ·intro b' hi
  obtain⟨⟨es,aH,hv⟩,_⟩:=h.IM b' hi
  exact .inl ⟨hi,gW hv hr (by simp)⟩
 ·intro l' r1 hl'
  by_cases hll:l'=l
  ·subst hll
   right
   have hr1:r'=r1:=by simpa [Sig.bC,upd] using hl'
   subst hr1
   refine⟨hA,hb0,hρ,fn,tmps,D,?_,?_,?_⟩
   ·rw[hnew,hrec,h2,h3,h4]
   ·rw[h1];exact hf.ext e
   ·rw[h2,h3,h4];exact hok
  ·left
   have hl1:σ.loops l'=some r1:=by simpa [Sig.bC,upd,hll] using hl'
   refine⟨hl1,fun e'=>?_⟩
   have:=(h.loop l' r1 hl1).2.2.1
   rw[e',hρ] at this
   cases this
   exact hll rfl
 ·intro b' hd
  exact .inl ⟨hd,gW (h.D b' hd) hr (by simp)⟩
theorem Ug {T:Nat->Nat}:∀(ps:List Nat) (args:List V) (cs:List Value) (fr:Fr) (tmps:Array Value),ps.length=args.length->args.length=cs.length->dK K T w fr tmps->(∀i,i<args.length->Rel K T w (args.getD i undefV) (cs.getD i undef))->
 (∀p∈ps,p<tmps.size)->dK K T w {fr with tm:=(ps.zip args).foldl (fun tm (p,a)=>upd tm p a) fr.tm} ((ps.zip cs).foldl (fun tmps (t,a)=>tmps.setIfInBounds t a) tmps)/\
   ((ps.zip cs).foldl (fun tmps (t,a)=>tmps.setIfInBounds t a) tmps).size=tmps.size:=by
 intro ps
 induction ps with
 |nil=>intro args cs fr tmps _ _ hf _ _;exact⟨hf,rfl⟩
 |cons p ps ih=>
  intro args cs fr tmps hl hl2 hf hr hp
  cases args with
  |nil=>simp at hl
  |cons a args=>
   cases cs with
   |nil=>simp at hl2
   |cons c cs=>
    have hput:=dK.put (K:=K) (w:=w) (T:=T) (a:={tmps:=tmps,defers:=[]}) hf (d:=some p) (v:=a) (c:=c) (hr 0 (by simp)) (fun i hi=>by cases hi;exact hp p (by simp))
    have:=ih args cs (fr.set p a) (tmps.setIfInBounds p c) (by simpa using hl) (by simpa using hl2) hput (fun i hi=>hr (i+1) (by simpa using hi)) (fun q hq=>by simpa using hp q (by simp[hq]))
    refine⟨this.1,this.2.trans (by simp)⟩
theorem zip_toArray (ps:List Nat) (cs:Array Value) (tmps:Array Value):
 (ps.toArray.zip cs).foldl (fun tmps (t,a)=>tmps.setIfInBounds t a) tmps=(ps.zip cs.toList).foldl (fun tmps (t,a)=>tmps.setIfInBounds t a) tmps:=by
 rw[<-Array.foldl_toList]
 congr 1
 simp
theorem Uh (hS:rW E S.code) (h:aC E B0 σ K w) (hB:B0<=w.heap.size) (hA:∀s,K.A s->s<σ.next) {l:Nat} {args:List V} {cargs:Array Value} {v:V}
 (hv:jZ S l args σ=some (v,σ')) (ra:RelA K σ.top w args cargs):
 σ.next<=σ'.next/\∃fn tmps aS body,(Instr.yield (K.lp l) cargs).run E.P w= .ok (.round (K.lp l) fn tmps aS body) w/\RoundIn Fence.wide 0 E.P (K.lp l) fn tmps aS body w (jI E B0 σ K w v σ'):=by
 unfold jZ at hv
 simp only[iR] at hv
 obtain⟨r,hl,hv⟩:=hv
 split at hv
 ·rename_i hst
  simp only[iR] at hv
  obtain⟨⟨e1,aD,σ1⟩,wM,hv⟩:=hv
  cases e1 with
  |normal=>
   simp only[iR] at hv
   obtain⟨r1,hl1,hv⟩:=hv
   split at hv
   ·rename_i nP
    simp only[iR] at hv
    obtain⟨⟨e2,bA,σ2⟩,hbody,r2,hl2,hv⟩:=hv
    split at hv
    ·rename_i aey
     obtain⟨hKl,hb0,hρ,fn,tmps,D,hh,hf,hok1,hok2,hps,hn1,hn2⟩:=h.loop l r hl
     obtain⟨hle1,hw1⟩:=hS _ _ _ _ _ _ wM
     obtain⟨hle2,hw2⟩:=hS _ _ _ _ _ _ hbody
     have Ui:σ1.next<=σ2.next:=hle2
     have hnext:σ'.next=σ2.next:=by
      cases e2<;>simp only[iE,mF] at hv<;>obtain⟨_,rfl⟩:=hv<;>rfl
     refine⟨by omega,?_⟩
     have hsz:cargs.size=r.ps.length:=by have:=ra.1;omega
     have Fq:=run_yield (P:=E.P) (args:=cargs) hh (by simpa using hsz)
     refine⟨_,_,_,_,Fq,?_⟩
     dsimp only
     rw[zip_toArray]
     have Fu:=Ug (K:=K) (w:=w) (T:=σ.top) r.ps args cargs.toList r.fr tmps hst.2 (by have:=ra.1;simpa using this) hf (fun i hi=>by rw[wE];exact ra.2 i hi) hps
     generalize htm:(r.ps.zip cargs.toList).foldl (fun tmps (t,a)=>tmps.setIfInBounds t a) tmps=Uj at Fu
     refine roundIn_of_wpIn trivial ?_
     have hs0:St E B0 σ K w {r.fr with tm:=(r.ps.zip args).foldl (fun tm (p,a)=>upd tm p a) r.fr.tm} {tmps:=Uj,defers:=[]} tmps.size ⟨[],0,true⟩:=
      ⟨h,hB,Fu.1,Fu.2,⟨[],rfl,List.nodup_nil,(fun b hb=>by cases hb),fun _=>rfl⟩,hA,afd _⟩
     refine wpIn_mono (hw1 (some (K.lp l)) B0 K w _ tmps.size ⟨[],0,true⟩ hs0 hok1 (.inr hn1)) ?_
     rintro x a1 w1 ⟨hx,K1,hs1,st1⟩
     cases x<;>simp only[dV] at hx
     obtain⟨Uk,hb1,hρ1,KM,KN,D1,KP,hf1,_⟩:=hs1.ok.loop l r1 hl1
     have rZ:K1.lp l=K.lp l:=(st1.ext.A l hKl).2.2.1
     have hbr:=run_beginRound (P:=E.P) KP (by simp[iB,nP])
     have Az:=Step.bC (new:=newer σ1 (σ1.bC l {r1 with st:=1})) hs1.ok hs1.hB (r':={r1 with st:=1}) hl1 rfl rfl rfl rfl KP
     rw[rZ] at hbr
     refine⟨_,hbr,?_⟩
     have Ul:(w1.putObj (K.lp l) (.loop {state:=LoopState.busy,pending:=r1.pend.bind iY,fn:=KM,tmps:=KN,params:=r1.ps.toArray,assign:=r1.aS,body:=r1.body,defers:=D1}))=
      (w1.putObj (K1.lp l) (.loop {({state:=iB r1.st,pending:=r1.pend.bind iY,fn:=KM,tmps:=KN,params:=r1.ps.toArray,assign:=r1.aS,body:=r1.body,defers:=D1}:Go.Loop) with state:=iB 1,pending:=r1.pend.bind iY})):=by
      rw[rZ];rfl
     dsimp only
     rw[Ul]
     have Um:St E B0 (σ1.bC l {r1 with st:=1}) K1 _ aD a1 tmps.size ⟨[],0,true⟩:=
      ⟨Az.ok,aaI hs1.hB Az.below.size,hs1.fr.ext Az.ext,hs1.sz,hs1.df,hs1.st,afd _⟩
     have st01:=Step.trans (new:=newer σ σ1) st1 (Az.mono (fun s hs=>by have h1:σ1.next<=s:=hs.1;have h2:s<σ1.next:=hs.2;omega))
     refine wpIn_mono (hw2 (some (K.lp l)) B0 K1 _ a1 tmps.size ⟨[],0,true⟩ Um hok2 (.inr hn2)) ?_
     rintro x a2 w2 ⟨hx2,K2,hs2,st2⟩
     obtain⟨aeA,hb2,hρ2,Un,Uo,D2,KQ,hf2,_⟩:=hs2.ok.loop l r2 hl2
     have AA:K2.lp l=K.lp l:=((st2.ext.A l Uk).2.2.1).trans rZ
     have gH:Step E B0 (newer σ σ2) σ K w σ2 K2 w2:=by
      refine(st01.mono ?_).trans (st2.mono ?_)
      ·intro s hs;exact⟨hs.1,aeD hs.2 Ui⟩
      ·intro s hs;exact⟨aaI hle1 hs.1,hs.2⟩
     have fin:∀(r':gq) (b:Bool),r'.fr=r2.fr->r'.ps=r2.ps->r'.aS=r2.aS->r'.body=r2.body->σ'=σ2.bC l r'->v= .bool b->
      jI E B0 σ K w v σ' (.returned (.bool b)) (w2.putObj (K2.lp l) (.loop {({state:=iB r2.st,pending:=r2.pend.bind iY,fn:=Un,tmps:=Uo,params:=r2.ps.toArray,assign:=r2.aS,body:=r2.body,defers:=D2}:Go.Loop) with state:=iB r'.st,pending:=r'.pend.bind iY})):=by
      intro r' b h1 h2 h3 h4 h5 h6
      have Uq:=Step.bC (new:=newer σ σ2) hs2.ok hs2.hB (r':=r') hl2 h1 h2 h3 h4 KQ
      subst h5 h6
      have AB:=gH.trans Uq
      exact⟨K2,.bool b,AB.ok,hs2.st,AB⟩
     have hend:=fun jump=>run_endRound (P:=E.P) jump KQ
     rw[AA] at hend
     cases e2 with
     |normal=>
      cases x<;>simp only[dV] at hx2
      simp only[iE,mF] at hv
      refine⟨_,_,hend none,?_⟩
      have:=fin {r2 with st:=0,pend:=none} true rfl rfl rfl rfl hv.2.symm hv.1.symm
      rw[AA] at this
      exact this
     |exit i=>
      cases x<;>simp only[dV] at hx2
      subst hx2
      simp only[iE,mF] at hv
      refine⟨_,_,hend (some (.exit i)),?_⟩
      have:=fin {r2 with st:=2,pend:=some (.exit i)} false rfl rfl rfl rfl hv.2.symm hv.1.symm
      rw[AA] at this
      exact this
     |ret=>
      cases x<;>simp only[dV] at hx2
      simp only[iE,mF] at hv
      refine⟨_,_,hend (some .ret),?_⟩
      have:=fin {r2 with st:=2,pend:=some .ret} false rfl rfl rfl rfl hv.2.symm hv.1.symm
      rw[AA] at this
      exact this
    ·simp at hv
   ·simp at hv
  |exit i=>simp at hv
  |ret=>simp at hv
 ·simp at hv
theorem Ur (hS:rW E S.code) {l:Nat} {args:List V} {v:V} (hv:jZ S l args σ=some (v,σ')):σ.next<=σ'.next:=by
 unfold jZ at hv
 simp only[iR] at hv
 obtain⟨r,hl,hv⟩:=hv
 split at hv
 ·simp only[iR] at hv
  obtain⟨⟨e1,aD,σ1⟩,wM,hv⟩:=hv
  cases e1 with
  |normal=>
   simp only[iR] at hv
   obtain⟨r1,hl1,hv⟩:=hv
   split at hv
   ·simp only[iR] at hv
    obtain⟨⟨e2,bA,σ2⟩,hbody,r2,hl2,hv⟩:=hv
    split at hv
    ·have h1:=(hS _ _ _ _ _ _ wM).1
     have h2:σ1.next<=σ2.next:=(hS _ _ _ _ _ _ hbody).1
     have h3:σ'.next=σ2.next:=by
      cases e2<;>simp only[iE,mF] at hv<;>obtain⟨_,rfl⟩:=hv<;>rfl
     omega
    ·simp at hv
   ·simp at hv
  |exit i=>simp at hv
  |ret=>simp at hv
 ·simp at hv
end
end Aq
end
section
namespace Aq
open Go Go.RowKit
section
variable {E:Env} {S:bH} {K K':aB} {T T':Nat->Nat} {w w':World} {σ σ':Sig} {B0:Nat}
theorem Fv {n:Nat} {x y:V} (hp:pclean x=true) (h:closeV n σ x=some y):y=x:=by
 cases n with
 |zero=>simp[closeV] at h
 |succ n=>
  unfold closeV at h
  simp only[hp,if_true,iE] at h
  exact h.symm
theorem KR {f:V->Option V} {l r:List V} (h:l.mapM f=some r) (g:V->V) (hf:∀i (hi:i<l.length) y,f l[i]=some y->y=g l[i]):r=l.map g:=by
 obtain⟨h1,h2⟩:=mapM_some h
 refine List.ext_getElem (by simp[h1]) (fun i hi hi'=>?_)
 obtain⟨h3,h4⟩:=h2 i (by omega)
 simp only[afz]
 exact hf i (by omega) _ h4
theorem wN {l:List V} (h:pcleanL l=true) {i:Nat} (hi:i<l.length):pclean l[i]=true:=by
 have:=jd h i hi
 rwa[cB hi] at this
theorem KS {n:Nat} {c:Cap} {l:List V} {y:V} (hp:pcleanL l=true) (h:closeV n σ (.lst c l)=some y):y= .lst .sh l:=by
 cases n with
 |zero=>simp[closeV] at h
 |succ n=>
  unfold closeV at h
  split at h
  ·rename_i hc
   simp only[iE] at h
   subst h
   cases c<;>simp only[pclean,aaB] at hc
   rfl
  ·simp only[aat] at h
   obtain⟨r,hr,rfl⟩:=h
   have:=KR hr id (fun i hi y hy=>Fv (wN hp hi) hy)
   rw[this,List.map_id]
theorem Us {x:V} (hp:pclean x=true):aU x=x:=by
 cases x with
 |lst c l=>cases c<;>simp only[pclean,aaB] at hp;rfl
 |_=>rfl
theorem Ut {n:Nat} {x y:V} (hp:pclean (aU x)=true) (h:closeV n σ x=some y):y=aU x:=by
 cases x with
 |lst c l=>exact KS (by simpa [aU,pclean] using hp) h
 |_=>exact Fv hp h
theorem KT {n:Nat} {x y:V} (hp:pclean (er x)=true) (h:closeV n σ x=some y):y=er x:=by
 cases x with
 |lst c l=>exact KS (by simpa [er,pclean] using hp) h
 |agg cs=>
  have hp':pcleanL (cs.map aU)=true:=by simpa [er,pclean] using hp
  have hpi:∀i (hi:i<cs.length),pclean (aU cs[i])=true:=fun i hi=>by
   have:=wN hp' (i:=i) (by simpa using hi)
   simpa using this
  cases n with
  |zero=>simp[closeV] at h
  |succ n=>
   unfold closeV at h
   split at h
   ·rename_i hc
    simp only[iE] at h
    subst h
    have hc':pcleanL cs=true:=by simpa [pclean] using hc
    show V.agg cs=V.agg (cs.map aU)
    congr 1
    refine List.ext_getElem (by simp) (fun i hi hi'=>?_)
    simp only[afz]
    exact(Us (wN hc' hi)).symm
   ·simp only[aat] at h
    obtain⟨r,hr,rfl⟩:=h
    show V.agg r=V.agg (cs.map aU)
    rw[KR hr aU (fun i hi y hy=>Ut (hpi i hi) hy)]
 |_=>exact Fv hp h
theorem sj {a b:List V} {ca cb:Array Value} (h:RelA K T w a ca) (g:RelA K T w b cb):RelA K T w (a++b) (ca++cb):=by
 obtain⟨h1,h2⟩:=h
 obtain⟨g1,g2⟩:=g
 refine⟨by simp[h1,g1],fun i hi=>?_⟩
 have hi':i<a.length+b.length:=by simpa using hi
 by_cases hlt:i<a.length
 ·have e1:(a++b).getD i undefV=a.getD i undefV:=by simp[List.getD,afS hlt]
  have e2:(ca++cb).getD i undef=ca.getD i undef:=by
   simp only[afr]
   rw[Array.getElem?_append_left (by omega)]
  rw[e1,e2];exact h2 i hlt
 ·have e1:(a++b).getD i undefV=b.getD (i-a.length) undefV:=by simp[List.getD,List.getElem?_append_right (Nat.le_of_not_lt hlt)]
  have e2:(ca++cb).getD i undef=cb.getD (i-a.length) undef:=by
   simp only[afr]
   rw[Array.getElem?_append_right (by omega),<-h1]
  rw[e1,e2];exact g2 _ (by omega)
theorem KU {l r:List V} {cl:Array Value} {n:Nat} {K2:aB} {T2:Nat->Nat} (h:RelA K T w l cl) (hm:l.mapM (closeV n σ)=some r)
 (hx:∀x y c,x∈l->Rel K T w x c->closeV n σ x=some y->Rel K2 T2 w y c):RelA K2 T2 w r cl:=by
 obtain⟨h1,h2⟩:=h
 obtain⟨m1,m2⟩:=mapM_some hm
 refine⟨by omega,fun i hi=>?_⟩
 obtain⟨h3,h4⟩:=m2 i (by omega)
 have:=h2 i (by omega)
 rw[cB (show i<l.length by omega)] at this
 rw[cB h3]
 exact hx _ _ _ (afc _) this h4
theorem Uu {b:Bool} {l r:List V} (h:iX b σ l=some r):l.length=r.length/\∀i (hi:i<l.length),∃(h':i<r.length),(l[i]= .lst .nil []/\r[i]= .lst .nil [])\/closeV 20 σ l[i]=some r[i]:=by
 unfold iX at h
 split at h
 ·split at h
  ·rename_i l
   obtain⟨l',hm,rfl⟩:=aat.1 h
   obtain⟨m1,m2⟩:=mapM_some hm
   refine⟨by simp[m1],fun i hi=>?_⟩
   cases i with
   |zero=>exact⟨by simp,.inl ⟨rfl,rfl⟩⟩
   |succ i=>
    obtain⟨h1,h2⟩:=m2 i (by simpa using hi)
    exact⟨by simpa using h1,.inr (by simpa using h2)⟩
  ·cases h
 ·obtain⟨m1,m2⟩:=mapM_some h
  exact⟨m1,fun i hi=>by obtain⟨h1,h2⟩:=m2 i hi;exact⟨h1,.inr h2⟩⟩
theorem Uv {b:Bool} {l r:List V} {cl:Array Value} {K2:aB} {T2:Nat->Nat} (h:RelA K T w l cl) (hm:iX b σ l=some r)
 (hx:∀x y c,x∈l->Rel K T w x c->(x= .lst .nil []/\y= .lst .nil [])\/closeV 20 σ x=some y->Rel K2 T2 w y c):RelA K2 T2 w r cl:=by
 obtain⟨h1,h2⟩:=h
 obtain⟨m1,m2⟩:=Uu hm
 refine⟨by omega,fun i hi=>?_⟩
 obtain⟨h3,h4⟩:=m2 i (by omega)
 have:=h2 i (by omega)
 rw[cB (show i<l.length by omega)] at this
 rw[cB h3]
 exact hx _ _ _ (afc _) this h4
theorem KV (hE:EnvOK E) (h:aC E B0 σ K w):Aw E K.I K.IM w:=
 ⟨fun b o hi=>(h.I b o hi).1,fun b hi=>(h.IM b hi).1,fun g cs hg=>(h.glob g cs hg).pure (by simpa [pclean] using hE.flat g cs hg) (fun _ _ h=>⟨h,rfl⟩) (fun _ h=>⟨h,rfl⟩)⟩
theorem Uw (hE:EnvOK E) (h:aC E B0 σ K w):Aw E (fun b o=>∃v,w.cell? (at_ b o)=some v) (fun b=>∃es aH,w.heap[b]? =some (.map es aH)) w:=
 ⟨fun _ _ hi=>hi,fun _ hi=>hi,fun g cs hg=>(h.glob g cs hg).pure (by simpa [pclean] using hE.flat g cs hg) (fun b o hi=>⟨(h.I b o hi).1,rfl⟩) (fun b hi=>⟨(h.IM b hi).1,rfl⟩)⟩
theorem Step.Ux {new:Nat->Prop} (h:aC E B0 σ K w) (hB:B0<=w.heap.size) {L L':Loc} {s:Nat} {ob:AObj} (hs:σ.obj L=some (s,ob)) (hne:L≠L'):
 ∃K',Ext K σ.top w K' ((σ.aX L).setObj L' s ob).top w/\Step E B0 new σ K w ((σ.aX L).setObj L' s ob) K' w:=by
 obtain⟨hA,bI,hρ⟩:=h.obj _ _ _ hs
 have hget:∀loc s2 ob2,((σ.aX L).setObj L' s ob).obj loc=some (s2,ob2)->(loc=L'/\s2=s/\ob2=ob)\/(loc≠L'/\loc≠L/\σ.obj loc=some (s2,ob2)):=by
  intro loc s2 ob2 hl
  by_cases e:loc=L'
  ·subst e
   simp only[Sig.setObj,upd_same,iE,mF] at hl
   exact .inl ⟨rfl,hl.1.symm,hl.2.symm⟩
  ·simp only[Sig.setObj,upd_ne _ _ e,Sig.aX] at hl
   by_cases e2:loc=L
   ·subst e2;rw[upd_same] at hl;cases hl
   ·rw[upd_ne _ _ e2] at hl;exact .inr ⟨e,e2,hl⟩
 have hbl:Below B0 w w:=.refl _ _
 by_cases hr:ob.real
 ·have hrb:=hρ hr
  have hb0:=(h.rb _ _ hrb)
  have e:Ext K σ.top w {K with ρ:=upd K.ρ (K.blk s) (some (.obj L'))} ((σ.aX L).setObj L' s ob).top w:=⟨fun _ h=>⟨h,rfl,rfl,rfl⟩,fun _ _=>.inl ⟨rfl,rfl,rfl,rfl⟩,fun _ _ h=>⟨h,rfl⟩,fun _ h=>⟨h,rfl⟩⟩
  have hcell:∃o,w.heap[K.blk s]? =some o/\o≠ .deferred (some []):=by
   cases ob with
   |cells cs=>
    have hc:cs≠[]:=by rintro rfl;exact hr
    obtain⟨_,vals,t,g1,_⟩:=bI.2 hc
    exact⟨_,g1,by simp⟩
   |map ks vs=>
    obtain⟨_,es,aH,g1,_⟩:=bI
    exact⟨_,g1,by simp⟩
  obtain⟨co,hco,hcn⟩:=hcell
  refine⟨_,e,?_,e,hbl,fun _ h=>h,fun _ h=>.inl h,fun _ _ h=>.inl h,fun _ h=>.inl h⟩
  refine h.upd (b:=K.blk s) ⟨rfl,rfl,rfl,iP _,fun _ _ _=>rfl⟩ e (fun k hk=>upd_ne _ _ hk) (fun r _=>hb0) ?_ ?_ ?_ ?_ ?_ ?_
  ·intro loc s2 ob2 hl
   rcases hget _ _ _ hl with ⟨rfl,rfl,rfl⟩| ⟨_,h2,h3⟩
   ·right
    exact⟨hA,bI.ext e hA (fun _=>rfl),fun _=>upd_same _ _ _⟩
   ·left
    exact⟨h3,fun hr2=>h.Ab h3 hs h2 hr2 hr⟩
  ·intro s2 hs2 hlt
   have a2:=(h.own s2 hs2 hlt).2.1
   refine .inl ⟨hs2,rfl,rfl,rfl,fun e'=>?_⟩
   rw[e',hrb] at a2;cases a2
  ·intro b' i hi
   exact .inl ⟨hi,fun e'=>(h.I b' i hi).2 L (e'▸hrb)⟩
  ·intro b' hi
   exact .inl ⟨hi,fun e'=>(h.IM b' hi).2 L (e'▸hrb)⟩
  ·intro l r hl
   refine .inl ⟨hl,fun e'=>?_⟩
   have a2:=(h.loop l r hl).2.2.1
   rw[e',hrb] at a2;cases a2
  ·intro b' hd
   exact .inl ⟨hd,gW (h.D b' hd) hco hcn.symm⟩
 ·have e:Ext K σ.top w K ((σ.aX L).setObj L' s ob).top w:=⟨fun _ h=>⟨h,rfl,rfl,rfl⟩,fun _ _=>.inl ⟨rfl,rfl,rfl,rfl⟩,fun _ _ h=>⟨h,rfl⟩,fun _ h=>⟨h,rfl⟩⟩
  refine⟨K,e,?_,e,hbl,fun _ h=>h,fun _ h=>.inl h,fun _ _ h=>.inl h,fun _ h=>.inl h⟩
  refine⟨fun loc s2 ob2 hl=>?_,h.own,h.I,h.IM,h.loop,h.glob,h.rb,h.D⟩
  rcases hget _ _ _ hl with ⟨rfl,rfl,rfl⟩| ⟨_,h2,h3⟩
  ·exact⟨hA,bI,fun hr2=>absurd hr2 hr⟩
  ·exact h.obj _ _ _ h3
theorem KW {L' L:Loc} {s:Nat} {v v':V}:(jE L' L s σ v v').2.next=σ.next:=by
 unfold jE
 split
 ·split
  ·split<;>rfl
  ·rfl
 ·rfl
theorem Uy {v:V}:bD none σ v=(v,σ):=by
 unfold bD
 split
 ·rfl
 ·rfl
 ·rfl
theorem pW {L':Option Loc} {v:V}:(bD L' σ v).2.next=σ.next:=by
 unfold bD
 split
 ·split
  ·rfl
  ·exact KW
 ·split
  ·rfl
  ·exact KW
 ·rfl
theorem KX {new:Nat->Prop} (h:aC E B0 σ K w) (hB:B0<=w.heap.size) {L' L:Loc} {s:Nat} {v v':V} {c:Value} (hr:Rel K σ.top w v c) (hv:∀T w,Rel K T w v c->Rel K T w v' c):
 ∃K',Rel K' (jE L' L s σ v v').2.top w (jE L' L s σ v v').1 c/\Step E B0 new σ K w (jE L' L s σ v v').2 K' w:=by
 unfold jE
 split
 ·rename_i hlt
  split
  ·rename_i s' ob ho
   split
   ·rename_i hs
    subst hs
    have hne:L≠L':=by rintro rfl;exact absurd hlt (Nat.lt_irrefl _)
    obtain⟨K',e,st⟩:=Step.Ux (new:=new) h hB ho hne
    exact⟨K',(hv _ _ hr).ext e,st⟩
   ·exact⟨K,hr,.refl h⟩
  ·exact⟨K,hr,.refl h⟩
 ·exact⟨K,hr,.refl h⟩
theorem Uz {new:Nat->Prop} (h:aC E B0 σ K w) (hB:B0<=w.heap.size) {L':Option Loc} {v:V} {c:Value} (hr:Rel K σ.top w v c):
 ∃K',Rel K' (bD L' σ v).2.top w (bD L' σ v).1 c/\Step E B0 new σ K w (bD L' σ v).2 K' w:=by
 unfold bD
 split
 ·split
  ·exact⟨K,hr,.refl h⟩
  ·refine KX h hB hr (fun T w g=>?_)
   cases g with
   |vw _ _ _ _ _ _ _ aL hA hc hle hsz=>exact .vw _ _ _ _ _ _ _ aL hA hc hle hsz
   |dR _ _ _ _ hA=>exact .dR _ _ _ _ hA
 ·split
  ·exact⟨K,hr,.refl h⟩
  ·refine KX h hB hr (fun T w g=>?_)
   cases g with
   |fn _ _ _ av bv ha hb ra rb=>
    refine .fn _ _ _ av bv ha (by simpa using hb) ra (fun i hi=>?_)
    have:=rb i (by simpa using hi)
    cases i with
    |zero=>
     simp only[List.getD_cons_zero] at this⊢
     generalize bv.getD 0 undef=cv at this
     cases this with
     |ref _ _ _ hA=>exact .ref _ _ _ hA
    |succ i=>simpa using this
 ·exact⟨K,hr,.refl h⟩
theorem KY (hE:EnvOK E) (hS:pV E S.call) (h:aC E B0 σ K w) (hB:B0<=w.heap.size) (hA:∀s,K.A s->s<σ.next) {d:Nat} {dst:Option Nat} {fv:V} {cf:Value} {args:List V} {cargs:Array Value} {v:V}
 (hfn:∃f a b,fv= .fn (.func f) a b) (hv:cu E S d dst σ fv args=some (v,σ')) (rf:Rel K σ.top w fv cf) (ra:RelA K σ.top w args cargs):
 σ.next<=σ'.next/\∃f first cap,cf= .func (.func f) first cap/\rX E f/\CallsIn Fence.wide 0 E.P f (first++cargs++cap) w (jI E B0 σ K w v σ'):=by
 obtain⟨f,a,b,rfl⟩:=hfn
 unfold cu at hv
 ·dsimp only at hv
  cases rf with
  |fn _ _ _ av bv ha hb wO wP=>
  have wQ:RelA K σ.top w (a++args++b) (av++cargs++bv):=sj (sj ⟨ha,wO⟩ ra) ⟨hb,wP⟩
  split at hv
  ·obtain⟨⟨v0,σ1⟩,hv,iG⟩:=aat.1 hv
   obtain⟨h1,h2,h3⟩:=hS _ _ _ _ _ _ hv
   have e1:v=(bD (dst.map fun t=>(d,t)) σ1 v0).1:=(congrArg Prod.fst iG).symm
   have e2:σ'=(bD (dst.map fun t=>(d,t)) σ1 v0).2:=(congrArg Prod.snd iG).symm
   subst e1 e2
   refine⟨by rw[pW];exact h1,f,av,bv,rfl,h2,(h3 none B0 K w _ h hB hA wQ).mono ?_⟩
   intro e w' hp
   cases e with
   |returned c=>
    obtain⟨K1,r1,s1,hA1,st1⟩:=hp
    obtain⟨K2,r2,st2⟩:=Uz (new:=newer σ (bD (dst.map fun t=>(d,t)) σ1 v0).2) (L':=dst.map fun t=>(d,t)) s1 (aaI hB st1.below.size) r1
    have st1':Step E B0 (newer σ (bD (dst.map fun t=>(d,t)) σ1 v0).2) σ K w σ1 K1 w':=st1.mono (fun s hs=>by unfold newer at hs⊢;rw[pW];exact hs)
    refine⟨K2,r2,st2.ok,fun s hs=>?_,st1'.trans st2⟩
    rw[pW]
    rcases st2.A s hs with h|h
    ·exact hA1 s h
    ·unfold newer at h;rw[pW] at h;exact h.2
   |panicked ch=>exact hp.elim
   |outgrown=>exact hp.elim
  ·simp only[iR] at hv
   obtain⟨as,has,r,hr,hv⟩:=hv
   split at hv
   ·rename_i hcl
    simp only[iE,mF] at hv
    obtain⟨rfl,rfl⟩:=hv
    obtain⟨p1,p2⟩:=callPure_sound hE hS hr
    refine⟨iP _,f,av,bv,rfl,p1,?_⟩
    simp only[afp,aeP] at hcl
    rcases hcl with hcl|hcl
    ·have wR:RelA (aB.lend K.I K.IM) (fun _=>0) w as (av++cargs++bv):=by
      refine KU wQ has (fun x y c hx hxr hxy=>?_)
      have hp:=hcl x hx
      rw[KT hp hxy]
      exact(EN hxr).pure hp (fun _ _ h=>⟨h,rfl⟩) (fun _ h=>⟨h,rfl⟩)
     refine(p2 _ _ w _ (KV hE h) wR).mono ?_
     intro e w' hp
     cases e with
     |returned c=>
      obtain⟨hb',hr'⟩:=hp
      have st:=Step.grow (new:=newer σ σ) h hB hb'
      exact⟨_,hr'.wL (fun _ _ h=>⟨h,rfl⟩) (fun _ h=>⟨h,rfl⟩),st.ok,hA,st⟩
     |panicked ch=>exact hp.elim
     |outgrown=>exact hp.elim
    ·have wR:RelA (aB.lend (fun b o=>∃v,w.cell? (at_ b o)=some v) (fun b=>∃es aH,w.heap[b]? =some (.map es aH))) (fun _=>0) w as (av++cargs++bv):=by
      refine KU wQ has (fun x y c hx hxr hxy=>?_)
      exact(Fg (T':=fun _=>0) h 20 x y c hxr hxy).wL (fun _ _ h=>⟨h.2,rfl⟩) (fun _ h=>⟨h.2,rfl⟩)
     refine(p2 _ _ w _ (Uw hE h) wR).mono ?_
     intro e w' hp
     cases e with
     |returned c=>
      obtain⟨hb',hr'⟩:=hp
      have st:=Step.grow (new:=newer σ σ) h hB hb'
      exact⟨_,hr'.flat hcl,st.ok,hA,st⟩
     |panicked ch=>exact hp.elim
     |outgrown=>exact hp.elim
   ·simp at hv
theorem UA (h:aC E B0 σ K w) (hB:B0<=w.heap.size) {st:Nat} (hst:¬K.A st) {σ1:Sig} {K1:aB} {v0 v:V} {c:Value} (hv:gT σ st σ1 v0=some (v,σ')) (r1:Rel K1 σ1.top w' v0 c) (s1:aC E w.heap.size σ1 K1 w') (hb:Below w.heap.size w w')
 (hI:∀b o,K1.I b o->K.I b o\/w.heap.size<=b) (Er:∀b,K1.IM b->K.IM b\/w.heap.size<=b):∃K',Rel K' σ'.top w' v c/\Step E B0 (· =st) σ K w σ' K' w':=by
 have AJ:∀b o,K1.I b o->Aq.grow K.I w.heap.size w' b o:=fun b o hi=>⟨hI b o hi,(s1.I b o hi).1⟩
 have KZ:∀b,K1.IM b->j6 K.IM w.heap.size w' b:=fun b hi=>⟨Er b hi,(s1.IM b hi).1⟩
 unfold gT at hv
 split at hv
 ·rename_i cp l
  split at hv
  ·rename_i hp
   cases cp with
   |nil=>
    cases hv
    refine⟨_,?_,Step.grow h hB hb⟩
    cases r1 with
    |aT _ a ha hc=>exact .aT .nil a ha trivial
    |lst _ _ b o n cap val hle hn hcell hrel hc=>exact hc.elim
   |full=>
    cases hv
    refine⟨_,?_,Step.grow h hB hb⟩
    cases r1 with
    |aT _ a ha hc=>exact .aT .full a (fun h=>by cases h) trivial
    |lst _ _ b o n cap val hle hn hcell hrel hc=>
     exact .lst .full l b o n cap val hle hn (fun i j hi hj=>⟨(hcell i j hi hj).1,AJ _ _ (hcell i j hi hj).2⟩)
      (fun i j hi hj=>(hrel i j hi hj).pure (Fe (jd hp i hi) (by rw[hn i hi];exact hj)) (fun b o hi=>⟨AJ b o hi,rfl⟩) (fun b hi=>⟨KZ b hi,rfl⟩)) hc
   |own n s=>
    dsimp only at hv
    split at hv
    ·rename_i htop
     cases hv
     have hown:K1.A s->K1.lo s<K1.hi s->w.heap.size<=K1.ob s/\∀o,K1.lo s<=o->o<K1.hi s->(∃v,w'.cell? (at_ (K1.ob s) o)=some v)/\w'.frozen? (at_ (K1.ob s) o)=false:=fun ha hl=>by
      obtain⟨a1,a2,a3⟩:=s1.own s ha hl
      exact⟨a1,fun o h1 h2=>(a3 o h1 h2).2⟩
     have hnot:K1.A s->∀b o,K1.I b o->¬(b=K1.ob s/\K1.lo s<=o/\o<K1.hi s):=by
      rintro ha b o hi ⟨rfl,h2,h3⟩
      exact((s1.own s ha (by omega)).2.2 o h2 h3).1 hi
     have hA:K1.A s:=by
      cases r1 with
      |aT _ a ha hc=>exact hc.1
      |lst _ _ b o n' cap val hle hn hcell hrel hc=>exact hc.2.1
     refine⟨_,?_,Step.eU h hB hst hb (hown hA)⟩
     have t1:(σ.aI st l.length).top st=l.length:=upd_same _ _ _
     have q1:(K.eU w.heap.size w' st (K1.ob s) (K1.lo s) (K1.hi s)).ob st=K1.ob s:=upd_same _ _ _
     have q2:(K.eU w.heap.size w' st (K1.ob s) (K1.lo s) (K1.hi s)).lo st=K1.lo s:=upd_same _ _ _
     have q3:(K.eU w.heap.size w' st (K1.ob s) (K1.lo s) (K1.hi s)).hi st=K1.hi s:=upd_same _ _ _
     cases r1 with
     |aT _ a ha hc=>
      refine .aT _ a (fun h=>by cases h) ⟨.inr rfl,fun _=>?_⟩
      rw[q2,q3]
      exact hc.2 htop
     |lst _ _ b o n' cap val hle hn hcell hrel hc=>
      refine .lst _ l b o n' cap val hle hn (fun i j hi hj=>⟨(hcell i j hi hj).1,AJ _ _ (hcell i j hi hj).2,hnot hA _ _ (hcell i j hi hj).2⟩)
       (fun i j hi hj=>(hrel i j hi hj).pure (Fe (jd hp i hi) (by rw[hn i hi];exact hj)) (fun b o hi=>⟨⟨AJ b o hi,hnot hA b o hi⟩,rfl⟩) (fun b hi=>⟨KZ b hi,rfl⟩)) ?_
      refine⟨hc.1,.inr rfl,by rw[t1];exact iP _,fun _=>?_⟩
      rw[q1,q2,q3]
      exact hc.2.2.2 htop.symm
    ·cases hv
   |sh=>cases hv
  ·cases hv
 ·rename_i loc s off len cap aA ag
  split at hv
  ·rename_i h0
   obtain⟨rfl,rfl⟩:=h0
   obtain⟨cs,hcs,hv⟩:=iR.1 hv
   cases hv
   have fin:∀aL:Nat,K1.A s->aL*aA<=K1.sz s->∃K',Rel K' (σ.aI st 0).top w' (.lst (.own aA st) []) (.slice (some (at_ (K1.blk s) 0)) 0 aL)/\Step E B0 (· =st) σ K w (σ.aI st 0) K' w':=by
    intro aL hA hsz
    obtain⟨g1,_,_⟩:=s1.jF hcs
    obtain⟨a1,a2,a3⟩:=s1.obj _ _ _ g1
    refine⟨K.eU w.heap.size w' st (K1.blk s) 0 (aL*aA),?_,Step.eU h hB hst hb (fun hlt=>?_)⟩
    ·have t1:(σ.aI st 0).top st=0:=upd_same _ _ _
     refine .lst _ [] (K1.blk s) 0 aA aL (fun _ _=>undef) (afd _) (fun i hi=>absurd hi (ab2 i)) (fun i j hi=>absurd hi (ab2 i)) (fun i j hi=>absurd hi (ab2 i)) ?_
     refine⟨rfl,.inr rfl,afd _,fun _=>⟨upd_same _ _ _,?_,?_⟩⟩
     ·show upd K.lo st 0 st=_;rw[upd_same];simp
     ·show upd K.hi st (aL*aA) st=_;rw[upd_same];simp
    ·have hne:cs≠[]:=by
      rintro rfl
      have:=a2.1 rfl
      omega
     obtain⟨b1,vals,t,b2,b3,b4,b5⟩:=a2.2 hne
     refine⟨b1,fun o h1 h2=>⟨⟨vals[o]'(by omega),?_⟩,?_⟩⟩
     ·simp[World.cell?,b2]
     ·unfold World.frozen?
      simp only[b2]
      simp
   cases r1 with
   |vw _ _ _ _ _ _ _ aL hA hc hle hsz=>
    exact fin aL hA (by simpa using hsz)
   |dR _ _ _ _ hA=>
    refine⟨K.eU w.heap.size w' st 0 0 0,?_,Step.eU h hB hst hb (fun hlt=>absurd hlt (Nat.lt_irrefl _))⟩
    refine .aT _ none (fun h=>by cases h) ⟨.inr rfl,fun _=>?_⟩
    show upd K.hi st 0 st=upd K.lo st 0 st
    rw[upd_same,upd_same]
  ·cases hv
 ·cases hv
theorem K4 {st:Nat} {σ1:Sig} {v0 v:V} (hv:gT σ st σ1 v0=some (v,σ')):σ'.next=σ.next:=by
 by_cases hvw:∃loc s off len cap aA ag,v0= .vw loc s off len cap aA ag
 ·obtain⟨loc,s,off,len,cap,aA,ag,rfl⟩:=hvw
  unfold gT at hv
  dsimp only at hv
  split at hv
  ·obtain⟨_,_,hv⟩:=iR.1 hv
   cases hv;rfl
  ·cases hv
 cases v0<;>first| (cases hv;done)|exact absurd ⟨_,_,_,_,_,_,_,rfl⟩ hvw|skip
 rename_i cp l
 have hv':(if pcleanL l=true then (match cp with
  |.nil=>some (V.lst .nil l,σ)
  |.full=>some (.lst .full l,σ)
  |.own n s=>if σ1.top s=l.length then some (.lst (.own n st) l,σ.aI st l.length) else none
  |.sh=>none) else none)=some (v,σ'):=hv
 split at hv'
 ·cases cp with
  |nil=>cases hv';rfl
  |full=>cases hv';rfl
  |own n s=>dsimp only at hv';split at hv'<;>cases hv';rfl
  |sh=>cases hv'
 ·cases hv'
theorem UC (hE:EnvOK E) (hS:pV E S.call) (h:aC E B0 σ K w) (hB:B0<=w.heap.size) {st:Nat} (hst:¬K.A st) {fv:V} {cf:Value} {args:List V} {cargs:Array Value} {v:V}
 (hv:gU E S σ st fv args=some (v,σ')) (rf:Rel K σ.top w fv cf) (ra:RelA K σ.top w args cargs):
 σ'.next=σ.next/\∃f first cap,cf= .func (.func f) first cap/\rX E f/\CallsIn Fence.wide 0 E.P f (first++cargs++cap) w (fun e w'=>∃c K',e= .returned c/\Rel K' σ'.top w' v c/\Step E B0 (· =st) σ K w σ' K' w'):=by
 unfold gU at hv
 split at hv
 ·rename_i f a b
  split at hv
  ·rename_i hcl
   simp only[iR] at hv
   obtain⟨as,has,⟨v0,σ1⟩,hr,hv⟩:=hv
   cases rf with
   |fn _ _ _ av bv ha hb wO wP=>
   have wQ:RelA K σ.top w (a++args++b) (av++cargs++bv):=sj (sj ⟨ha,wO⟩ ra) ⟨hb,wP⟩
   obtain⟨_,p1,p2⟩:=hS _ _ _ _ _ _ hr
   have hnext:=K4 hv
   refine⟨hnext,f,av,bv,rfl,p1,?_⟩
   simp only[aeP] at hcl
   have wR:RelA (aB.lend K.I K.IM) Sig.init.top w as (av++cargs++bv):=by
    refine Uv wQ has (fun x y c hx hxr hxy=>?_)
    rcases hxy with ⟨rfl,rfl⟩|hxy
    ·cases hxr with
     |aT _ a ha hc=>exact .aT .nil a ha trivial
     |lst _ _ b o n cap val hle hn hcell hrel hc=>exact hc.elim
    have hp:=hcl x hx
    rw[KT hp hxy]
    exact(EN hxr).pure hp (fun _ _ h=>⟨h,rfl⟩) (fun _ h=>⟨h,rfl⟩)
   refine(p2 none w.heap.size (aB.lend K.I K.IM) w _ (Fh (KV hE h)) (iP _) (fun s hs=>hs.elim) wR).mono ?_
   intro e w' hp
   cases e with
   |returned c=>
    obtain⟨K1,r1,s1,_,st1⟩:=hp
    obtain⟨K',g1,g2⟩:=UA h hB hst hv r1 s1 st1.below st1.nI st1.kR
    exact⟨c,K',rfl,g1,g2⟩
   |panicked ch=>exact hp.elim
   |outgrown=>exact hp.elim
  ·cases hv
 ·cases hv
theorem AL (hE:EnvOK E) {f:FuncId} (hb:rX E f) (args:Array Value) (w:World):(callFunc f args).run E.P w= .ok (.enter f args) w:=by
 obtain⟨fn,c,hf,hc⟩:=hb
 have hn:=hE.name f fn hf
 simp[callFunc,hf,hc,hn]
theorem UD (hE:EnvOK E) (hS:Sound E S) {fr fr':Fr} {a:Act} {n:Nat} {ds:rV} (hs:St E B0 σ K w fr a n ds) {st:Nat} (hst:¬K.A st) {o:Oper} {v:V}
 (hop:opC E S fr σ st o=some (v,fr',σ')):fr'=fr/\σ.next<=σ'.next/\(∀next Q ro,(∀c w' K',Rel K' σ'.top w' v c->Step E B0 (fun s=>s=st\/newer σ σ' s) σ K w σ' K' w'->next (a.put o.dst c) w')->
   o.wpIn (FW ro) 0 E.P a w next Q):=by
 have hdone:∀{v σ'},jc E B0 (· =st) σ K w (execOp a.eval o) v σ'->(∀c,o.op≠ .defer c)->∀next Q ro,(∀c w' K',Rel K' σ'.top w' v c->Step E B0 (fun s=>s=st\/newer σ σ' s) σ K w σ' K' w'->next (a.put o.dst c) w')->
  o.wpIn (FW ro) 0 E.P a w next Q:=fun hd ho next Q ro hn=>TT ho hd (fun c w' K' hr hst=>hn c w' K' hr (hst.mono (fun _ h=>.inl h)))
 unfold opC at hop
 split at hop
 ·rename_i c hc
  have hnd:∀d,o.op≠ .defer d:=fun d hd=>by rw[hc] at hd;cases hd
  split at hop
  ·rename_i b hb
   simp only[aat,mF] at hop
   obtain⟨⟨v1,σ1⟩,hv,rfl,rfl,rfl⟩:=hop
   have hsame:=KJ hv
   refine⟨rfl,by rw[hsame.1];exact iP _,hdone ?_ hnd⟩
   have hargs:=pR hs.ok hs.fr c.args
   have hex:execOp a.eval o=builtin b c.argTypes o.type (c.args.map fun|.const _=>true|_=>false) (c.args.map a.eval):=by
    unfold execOp
    simp only[hc]
    unfold resolve
    simp only[hb]
    rfl
   rw[hex]
   exact TD hs.ok hs.hB hst hargs hv
  ·rename_i f hf
   split at hop
   ·simp only[aat,mF] at hop
    obtain⟨⟨v1,σ1⟩,hv,rfl,rfl,rfl⟩:=hop
    obtain⟨hn1,g,first,cap,hcf,hbody,hcall⟩:=UC hE hS.call hs.ok hs.hB hst hv (mo hs.ok hs.fr f) (pR hs.ok hs.fr c.args)
    refine⟨rfl,by rw[hn1];exact iP _,fun next Q ro hn=>⟨fun _ _=>trivial,?_⟩⟩
    rw[Av _ _ hnd]
    have hex:(execOp a.eval o).run E.P w= .ok (.enter g (first++c.args.map a.eval++cap)) w:=by
     unfold execOp
     simp only[hc]
     unfold resolve
     simp only[hf,hcf,Deferred.ofValue,Sem.run_bind,Sem.run_pure,Result.andThen_ok,invoke]
     exact AL hE hbody _ _
    rw[hex,Oper.uponIn_enter]
    refine⟨fun hd=>by simp[FW,Fence.wide] at hd,?_⟩
    have h2:CallsIn (FW ro) (0-1) E.P g (first++c.args.map a.eval++cap) w (fun e w'=>∃c K',e= .returned c/\Rel K' σ1.top w' v1 c/\Step E B0 (· =st) σ K w σ1 K' w'):=hcall
    refine h2.mono ?_
    intro e w' hp
    obtain⟨cv,K',rfl,r1,st1⟩:=hp
    exact hn cv w' K' r1 (st1.mono (fun _ h=>.inl h))
   simp only[aat,mF] at hop
   obtain⟨⟨v1,σ1⟩,hv,rfl,rfl,rfl⟩:=hop
   have hcases:(∃g a b,fr.ev E f= .fn (.func g) a b)\/∃l,fr.ev E f= .fn (.yield l) [] []:=by
    unfold cu at hv
    split at hv
    ·rename_i g a b he;exact .inl ⟨g,a,b,he⟩
    ·rename_i l he;exact .inr ⟨l,he⟩
    ·simp at hv
   rcases hcases with hfn| ⟨l,hy⟩
   rotate_left
   ·have hv':jZ S l (c.args.toList.map (fr.ev E)) σ=some (v1,σ1):=by rw[hy] at hv;exact hv
    obtain⟨hn1,fn,tmps,aS,body,Fq,UE⟩:=Uh hS.code hs.ok hs.hB hs.st hv' (pR hs.ok hs.fr c.args)
    have hcf:a.eval f= .func (.yield (K.lp l)) #[] #[]:=by
     have:=mo hs.ok hs.fr f
     rw[hy] at this
     generalize a.eval f=cf at this
     cases this;rfl
    refine⟨rfl,hn1,fun next Q ro hn=>⟨fun _ _=>trivial,?_⟩⟩
    rw[Av _ _ hnd]
    have hex:(execOp a.eval o).run E.P w= .ok (.round (K.lp l) fn tmps aS body) w:=by
     unfold execOp
     simp only[hc]
     unfold resolve
     simp only[hf,hcf,Deferred.ofValue,Sem.run_bind,Sem.run_pure,Result.andThen_ok,invoke]
     simpa using Fq
    rw[hex,Oper.uponIn_round]
    refine⟨fun hd=>by simp[FW,Fence.wide] at hd,?_⟩
    have h2:RoundIn (FW ro) (0-1) E.P (K.lp l) fn tmps aS body w (jI E B0 σ K w v1 σ1):=UE
    refine h2.mono ?_
    intro e w' hp
    cases e with
    |returned cv=>
     obtain⟨K',r1,_,_,st1⟩:=hp
     exact hn cv w' K' r1 (st1.mono (fun _ h=>.inr h))
    |panicked ch=>exact hp.elim
    |outgrown=>exact hp.elim
   obtain⟨hn1,g,first,cap,hcf,hbody,hcall⟩:=KY hE hS.call hs.ok hs.hB hs.st hfn hv (mo hs.ok hs.fr f) (pR hs.ok hs.fr c.args)
   refine⟨rfl,hn1,fun next Q ro hn=>⟨fun _ _=>trivial,?_⟩⟩
   rw[Av _ _ hnd]
   have hex:(execOp a.eval o).run E.P w= .ok (.enter g (first++c.args.map a.eval++cap)) w:=by
    unfold execOp
    simp only[hc]
    unfold resolve
    simp only[hf,hcf,Deferred.ofValue,Sem.run_bind,Sem.run_pure,Result.andThen_ok,invoke]
    exact AL hE hbody _ _
   rw[hex,Oper.uponIn_enter]
   refine⟨fun hd=>by simp[FW,Fence.wide] at hd,?_⟩
   have h2:CallsIn (FW ro) (0-1) E.P g (first++c.args.map a.eval++cap) w (jI E B0 σ K w v1 σ1):=hcall
   refine h2.mono ?_
   intro e w' hp
   cases e with
   |returned cv=>
    obtain⟨K',r1,_,_,st1⟩:=hp
    exact hn cv w' K' r1 (st1.mono (fun _ h=>.inr h))
   |panicked ch=>exact hp.elim
   |outgrown=>exact hp.elim
  ·simp at hop
 ·simp at hop
 ·rename_i hnc hnd
  simp only[aat,mF] at hop
  obtain⟨⟨v1,σ1⟩,hv,rfl,rfl,rfl⟩:=hop
  have hsame:=KL hv
  exact⟨rfl,by rw[hsame.1];exact iP _,hdone (TB hs.ok hs.hB hs.fr hst hv) hnd⟩
end
end Aq
end
section
namespace Aq
open Go Go.RowKit
section
variable (E:Env) (S:bH)
def opsL (ops:List Oper) (base:Nat):List Nat->Fr->Sig->Option (Fr×Sig)
 | [],fr,σ=>some (fr,σ)
 |i::l,fr,σ=>(bO E S ops base i fr σ).bind fun (fr,σ)=>opsL ops base l fr σ
theorem UF (all:List Oper) (base:Nat):∀(os:List Oper) (k:Nat) (fr:Fr) (σ:Sig),(∀j,os[j]? =all[k+j]?)->
 opsE E S all (base+k) os fr σ=opsL E S all base (List.range' k os.length) fr σ:=by
 intro os
 induction os with
 |nil=>intro k fr σ _;rfl
 |cons o os ih=>
  intro k fr σ h
  have h0:all[k]? =some o:=by simpa using (h 0).symm
  have ih':=fun fr σ=>ih (k+1) fr σ (fun j=>by have:=h (j+1);simpa [ae9,Nat.add_comm 1 j] using this)
  simp only[List.length_cons,List.range'_succ,opsL,bO,h0,opsE]
  cases hwt:aO all fr o with
  |none=>rfl
  |some t=>
  simp only[Option.bind_some]
  split
  ·cases hop:opC E S fr σ (base+k) o with
   |none=>rfl
   |some r=>
    obtain⟨v,aD,σ1⟩:=r
    exact ih' _ _
  ·exact ih' _ _
theorem UG (ops:Array Oper) (base:Nat) (fr:Fr) (σ:Sig):opsE E S ops.toList base ops.toList fr σ=opsL E S ops.toList base (List.range ops.size) fr σ:=by
 have:=UF E S ops.toList base ops.toList 0 fr σ (fun j=>by simp)
 rw[Nat.add_zero] at this
 rw[this,List.range_eq_range',Array.length_toList]
end
section
variable {E:Env} {S:bH} {K K':aB} {w w':World} {σ σ':Sig} {B0:Nat} {fr fr':Fr} {a:Act} {n:Nat} {ds:rV}
theorem K5 (hf:dK K σ.top w fr a.tmps) (ops:Array Oper) (o:Oper) (hsz:qY a.tmps.size ops.toList=true) {t:Bool} (hv:aO ops.toList fr o=some t):
 Region.wanted o (yielded ops a.tmps)=t:=by
 unfold Region.wanted
 unfold aO at hv
 cases hg:o.guard with
 |none=>rw[hg] at hv;exact aeF hv
 |some g=>
  obtain⟨j,want⟩:=g
  rw[hg] at hv
  simp only at hv⊢
  cases hd:(ops.toList[j]?).bind (·.dst) with
  |none=>
   have hd':(ops[j]?).bind (·.dst)=none:=by simpa using hd
   simp only[hd,iE] at hv
   simp only[yielded,hd',<-hv]
   rfl
  |some t=>
   have hd':(ops[j]?).bind (·.dst)=some t:=by simpa using hd
   have ht:t<a.tmps.size:=by
    cases ho:ops[j]? with
    |none=>simp[ho] at hd'
    |some o'=>
     have hm:o'∈ops.toList:=by simpa using Array.mem_of_getElem? ho
     simp only[qY,aeP] at hsz
     have h1:=hsz o' hm
     have h2:o'.dst=some t:=by simpa [ho] using hd'
     rw[h2] at h1
     simpa using h1
   have hr:=hf t
   have hget:a.tmps[t]? =some (a.tmps.getD t undef):=by simp[Array.getD,ht]
   simp only[hd] at hv
   simp only[yielded,hd',Option.bind_some,hget]
   generalize a.tmps.getD t undef=c at hr
   generalize fr.tm t=x at hr hv
   cases hr<;>simp only[iE,reduceCtorEq] at hv<;>first|exact hv| (rw[<-hv];rfl)
theorem K6 (h:aC E B0 σ K w) (k:Nat):aC E B0 {σ with next:=k} K w:=⟨h.obj,h.own,h.I,h.IM,h.loop,h.glob,h.rb,h.D⟩
theorem UH (hS:Sound E S) {st:Nat} {o:Oper} {v:V} (hop:opC E S fr σ st o=some (v,fr',σ')):fr'=fr/\σ.next<=σ'.next:=by
 unfold opC at hop
 split at hop
 ·split at hop
  ·simp only[aat,mF] at hop
   obtain⟨⟨v1,σ1⟩,hv,rfl,rfl,rfl⟩:=hop
   exact⟨rfl,by rw[(KJ hv).1];exact iP _⟩
  ·split at hop
   ·simp only[aat,mF] at hop
    obtain⟨⟨v1,σ1⟩,hv,rfl,rfl,rfl⟩:=hop
    refine⟨rfl,?_⟩
    unfold gU at hv
    split at hv
    ·split at hv
     ·simp only[iR] at hv
      obtain⟨_,_,_,_,hv⟩:=hv
      rw[K4 hv];exact iP _
     ·cases hv
    ·cases hv
   simp only[aat,mF] at hop
   obtain⟨⟨v1,σ1⟩,hv,rfl,rfl,rfl⟩:=hop
   refine⟨rfl,?_⟩
   unfold cu at hv
   split at hv
   ·split at hv
    ·obtain⟨⟨v0,σ2⟩,hv,iG⟩:=aat.1 hv
     have:=(hS.call _ _ _ _ _ _ hv).1
     rw[<-(congrArg Prod.snd iG:_=σ1),pW];exact this
    ·simp only[iR] at hv
     obtain⟨_,_,_,_,hv⟩:=hv
     split at hv
     ·simp only[iE,mF] at hv
      rw[hv.2];exact iP _
     ·simp at hv
   ·exact Ur hS.code hv
   ·simp at hv
  ·simp at hop
 ·simp at hop
 ·simp only[aat,mF] at hop
  obtain⟨⟨v1,σ1⟩,hv,rfl,rfl,rfl⟩:=hop
  exact⟨rfl,by rw[(KL hv).1];exact iP _⟩
theorem wT (hS:Sound E S) (ops:List Oper) (base:Nat):∀(l:List Nat) (fr:Fr) (σ:Sig),opsL E S ops base l fr σ=some (fr',σ')->σ.next<=σ'.next:=by
 intro l
 induction l with
 |nil=>
  intro fr σ h
  simp only[opsL,iE,mF] at h
  rw[h.2];exact iP _
 |cons i l ih=>
  intro fr σ h
  simp only[opsL,iR] at h
  obtain⟨⟨aD,σ1⟩,hs,h⟩:=h
  refine aaI ?_ (ih _ _ h)
  unfold bO at hs
  split at hs
  ·simp only[iE,mF] at hs;rw[hs.2];exact iP _
  ·simp only[iR] at hs
   obtain⟨t,_,hs⟩:=hs
   split at hs
   ·simp only[aat,mF] at hs
    obtain⟨⟨v,bA,σ2⟩,hop,rfl,rfl⟩:=hs
    exact(UH hS hop).2
   ·simp only[iE,mF] at hs;rw[hs.2];exact iP _
theorem K7 (hE:EnvOK E) (hS:Sound E S) (ops:Array Oper) (base:Nat) (hops:qY n ops.toList=true) (ro:Option Nat) (Q:Exit->Act->World->Prop):
 ∀(l:List Nat) (fr:Fr) (σ:Sig) (K:aB) (w:World) (a:Act),opsL E S ops.toList base l fr σ=some (fr',σ')->l.Nodup->(∀i∈l,i<ops.size)->St E B0 σ K w fr a n ds->base+ops.size<=σ.next->(∀i∈l,¬K.A (base+i))->
  (∀a' K' w',St E B0 σ' K' w' fr' a' n ds->Step E B0 (fun s=>(base<=s/\s<base+ops.size)\/newer σ σ' s) σ K w σ' K' w'->Q .normal a' w')->wpOpsIn (FW ro) 0 E.P ops Q l a w:=by
 intro l
 induction l with
 |nil=>
  intro fr σ K w a hl _ _ hs _ _ hq
  simp only[opsL,iE,mF] at hl
  obtain⟨rfl,rfl⟩:=hl
  exact hq a K w hs (.refl hs.ok)
 |cons i l ih=>
  intro fr σ K w a hl hnd hlt hs hbase Fw hq
  simp only[opsL,iR] at hl
  obtain⟨⟨aD,σ1⟩,hstep,hl⟩:=hl
  have hil:i∉l:=(afv.1 hnd).1
  have hi:i<ops.size:=hlt i (by simp)
  have hoi:ops[i]? =some ops[i]:=by simp[hi]
  have UJ:ops.toList[i]? =some ops[i]:=by simpa using hoi
  simp only[bO,UJ,iR] at hstep
  obtain⟨t,hwv,hstep⟩:=hstep
  have hw:=K5 hs.fr ops ops[i] (by rw[hs.sz];exact hops) hwv
  have hdst:∀t,ops[i].dst=some t->t<n:=by
   intro t ht
   simp only[qY,aeP] at hops
   have:=hops ops[i] (by simp)
   rw[ht] at this
   simpa using this
  unfold wpOpsIn
  simp only[hoi,hw]
  split at hstep
  ·rename_i hwt
   simp only[aat,mF] at hstep
   obtain⟨⟨v,bA,σ2⟩,hop,rfl,rfl⟩:=hstep
   obtain⟨rfl,hnx,hwp⟩:=UD hE hS hs (Fw i (by simp)) hop
   dsimp only at hl
   simp only[hwt,if_true]
   have hA1:∀{K1:aB} {w1:World},Step E B0 (fun s=>s=base+i\/newer σ σ2 s) σ K w σ2 K1 w1->(∀s,K1.A s->s<σ2.next)/\∀j∈l,¬K1.A (base+j):=by
    intro K1 w1 st
    refine⟨fun s hsA=>?_,fun j hj UK=>?_⟩
    ·rcases st.A s hsA with h1|h1|h1
     ·have:=hs.st s h1;omega
     ·omega
     ·exact h1.2
    ·have hji:j≠i:=fun e=>hil (e▸hj)
     rcases st.A _ UK with h1|h1|h1
     ·exact Fw j (by simp[hj]) h1
     ·omega
     ·have:=hlt j (by simp[hj])
      have:=h1.1
      omega
   refine hwp _ _ ro (fun c w1 K1 hr st=>?_)
   ·obtain⟨hA2,hA3⟩:=hA1 st
    have hs1:St E B0 σ2 K1 w1 (bA.put ops[i].dst v) (a.put ops[i].dst c) n ds:=hs.put st hr hdst hA2
    refine(ih _ _ K1 w1 _ hl (afv.1 hnd).2 (fun j hj=>hlt j (by simp[hj])) hs1 (by omega) hA3) (fun a' K' w' hs' st'=>hq a' K' w' hs' ?_)
    refine(st.mono ?_).trans (st'.mono ?_)
    ·intro s h1
     rcases h1 with h1|h1
     ·exact .inl ⟨by omega,by omega⟩
     ·exact .inr ⟨h1.1,aeD h1.2 (wT hS _ _ _ _ _ hl)⟩
    ·intro s h1
     rcases h1 with h1|h1
     ·exact .inl h1
     ·exact .inr ⟨aaI hnx h1.1,h1.2⟩
  ·rename_i hwt
   simp only[iE,mF] at hstep
   obtain⟨rfl,rfl⟩:=hstep
   have hs1:St E B0 σ K w (fr.put ops[i].dst undefV) (a.put ops[i].dst undef) n ds:=hs.put (new:=fun _=>False) (.refl hs.ok) (.undef _ _ _) hdst hs.st
   have:=ih _ _ K w _ hl (afv.1 hnd).2 (fun j hj=>hlt j (by simp[hj])) hs1 hbase (fun j hj=>Fw j (by simp[hj]))
   simp only[hwt]
   exact⟨fun _ _=>trivial,this hq⟩
end
end Aq
end
section
namespace Aq
open Go
section
variable {X Key:Type}
def wU (step:Nat->X->Option X):List Nat->X->Option X
 | [],x=>some x
 |i::l,x=>(step i x).bind (wU step l)
theorem K8 (n:Nat) (step:Nat->X->Option X) (Ag:Key->X->X->Prop) (hrefl:∀k x,Ag k x x) (Fx:∀k x y z,Ag k x y->Ag k y z->Ag k x z)
 (s:Nat->X) (T W:Nat->Key->Prop) (wV:∀i k,W i k->T i k)
 (hloc:∀i,i<n->∀x,(∀k,T i k->Ag k (s i) x)->∃y,step i x=some y/\(∀k,W i k->Ag k (s (i+1)) y)/\(∀k,¬W i k->Ag k x y))
 (hself:∀i,i<n->∀k,¬W i k->Ag k (s i) (s (i+1)))
 (pre:Nat->Nat->Prop) (hap:∀i j,i<n->j<i->pre j i\/((∀k,¬(W i k/\T j k))/\∀k,¬(W j k/\T i k)))
 (UL:∀k x y,Ag k x y->Ag k y x):
 ∀(l done:List Nat) (x:X),l.Nodup->(∀i∈l,i<n/\i∉done)->(∀i,i<n->i∈done\/i∈l)->
  (∀l1 i l2,l=l1++i::l2->∀j,pre j i->j∈done\/j∈l1)->(∀i∈done,∀j,pre j i->j∈done)->
  (∀k m,m<=n->(∀j,j<n->W j k->(j∈done↔j<m))->Ag k (s m) x)->∃y,wU step l x=some y/\∀k,Ag k (s n) y:=by
 have UM:∀k a b,a<=b->b<=n->(∀j,a<=j->j<b->¬W j k)->Ag k (s a) (s b):=by
  intro k a b hab hbn hw
  induction b with
  |zero=>obtain rfl:a=0:=by omega
         exact hrefl _ _
  |succ b ih=>
   by_cases e:a=b+1
   ·subst e;exact hrefl _ _
   ·exact Fx _ _ _ _ (ih (by omega) (by omega) (fun j h1 h2=>hw j h1 (by omega))) (hself b (by omega) k (hw b (by omega) (by omega)))
 intro l
 induction l with
 |nil=>
  intro done x _ _ hall _ _ hinv
  exact⟨x,rfl,fun k=>hinv k n (iP _) (fun j hj _=>⟨fun _=>hj,fun _=>by rcases hall j hj with h|h;exact h;cases h⟩)⟩
 |cons i l ih=>
  intro done x hnd hmem hall AO hclosed hinv
  obtain⟨hin,Fy⟩:=hmem i (by simp)
  have hil:i∉l:=(afv.1 hnd).1
  have hpre:∀j,pre j i->j∈done:=fun j hj=>by
   rcases AO [] i l rfl j hj with h|h
   ·exact h
   ·cases h
  have UN:∀k,T i k->Ag k (s i) x:=by
   intro k hk
   refine hinv k i (by omega) (fun j hj hw=>⟨fun hjd=>?_,fun hji=>?_⟩)
   ·rcases Nat.lt_trichotomy j i with h|h|h
    ·exact h
    ·subst h;exact absurd hjd Fy
    ·rcases hap j i hj h with hp| ⟨h1,_⟩
     ·exact absurd (hclosed j hjd i hp) Fy
     ·exact absurd ⟨hw,hk⟩ (h1 k)
   ·rcases hap i j hin hji with hp| ⟨_,h2⟩
    ·exact hpre j hp
    ·exact absurd ⟨hw,hk⟩ (h2 k)
  obtain⟨y,hy,UO,hyn⟩:=hloc i hin x UN
  have UQ:∀k m,m<=n->(∀j,j<n->W j k->(j∈i::done↔j<m))->Ag k (s m) y:=by
   intro k m hm hj
   by_cases hw:W i k
   ·have him:i<m:=(hj i hin hw).1 (by simp)
    have h1:Ag k (s (i+1)) (s m):=by
     refine UM k (i+1) m him hm (fun j h1 h2 wW=>?_)
     have hjd:j∈done:=by
      have:=(hj j (by omega) wW).2 h2
      rcases aeQ.1 this with e|e
      ·omega
      ·exact e
     rcases hap j i (by omega) (by omega) with hp| ⟨h3,_⟩
     ·exact absurd (hclosed j hjd i hp) Fy
     ·exact h3 k ⟨wW,wV i k hw⟩
    exact Fx _ _ _ _ (UL _ _ _ h1) (UO k hw)
   ·refine Fx _ _ _ _ (hinv k m hm (fun j hjn wW=>?_)) (hyn k hw)
    have hji:j≠i:=fun e=>hw (e▸wW)
    rw[<-hj j hjn wW]
    simp[hji]
  obtain⟨z,hz,hzn⟩:=ih (i::done) y (afv.1 hnd).2
   (fun j hj=>⟨(hmem j (by simp[hj])).1,fun h=>by
     rcases aeQ.1 h with e|e
     ·exact hil (e▸hj)
     ·exact(hmem j (by simp[hj])).2 e⟩)
   (fun j hj=>by
     rcases hall j hj with h|h
     ·exact .inl (by simp[h])
     ·rcases aeQ.1 h with e|e
      ·exact .inl (by simp[e])
      ·exact .inr e)
   (fun l1 j l2 hl k hk=>by
     rcases AO (i::l1) j l2 (by rw[hl];rfl) k hk with h|h
     ·exact .inl (by simp[h])
     ·rcases aeQ.1 h with e|e
      ·exact .inl (by simp[e])
      ·exact .inr e)
   (fun j hj k hk=>by
     rcases aeQ.1 hj with e|e
     ·subst e;simp[hpre k hk]
     ·simp[hclosed j e k hk])
   UQ
  exact⟨z,by simp[wU,hy,hz],hzn⟩
end
end Aq
end
section
namespace Aq
open Go
section
variable {E:Env} {S:bH} {fr fr':Fr} {σ σ':Sig}
theorem UR {st:Nat} {o:Oper} (h:∀x∈o.op.operands.toList,fr'.ev E x=fr.ev E x) (hd:fr'.d=fr.d) (hom:fr'.om=fr.om):opV E fr' σ st o=opV E fr σ st o:=by
 cases ho:o.op
 all_goals
  rw[ho] at h
  unfold opV
  simp only[ho]
 all_goals try (simp only[hd];done)
 case move x=>simp only[h x (show x∈[x] from aeH.2 rfl),hd]
 case assign x=>simp only[h x (show x∈[x] from aeH.2 rfl),hd]
 case pick c x y=>simp only[h c (show c∈[c,x,y] from aeW),h x (show x∈[c,x,y] from ae0 _ aeW),h y (show y∈[c,x,y] from ae0 _ (ae0 _ aeW)),hd]
 case box t x=>simp only[h x (show x∈[x] from aeH.2 rfl),hd]
 case load t x=>simp only[h x (show x∈[x] from aeH.2 rfl),hd]
 case nilCheck x=>simp only[h x (show x∈[x] from aeH.2 rfl),hd]
 case unOp u t x=>simp only[h x (show x∈[x] from aeH.2 rfl),hd]
 case convert t u x=>simp only[h x (show x∈[x] from aeH.2 rfl),hd]
 case sliceToArrayPointer t x=>simp only[h x (show x∈[x] from aeH.2 rfl),hd]
 case typeAssert x t u ok=>simp only[h x (show x∈[x] from aeH.2 rfl),hd]
 case makeInterface t x=>simp only[h x (show x∈[x] from aeH.2 rfl),hd]
 case fieldAddr t x f=>simp only[h x (show x∈[x] from aeH.2 rfl),hd]
 case field t x f=>simp only[h x (show x∈[x] from aeH.2 rfl),hd]
 case extract x f=>simp only[h x (show x∈[x] from aeH.2 rfl),hd]
 case store t x y=>simp only[h x (show x∈[x,y] from aeW),h y (show y∈[x,y] from ae0 _ aeW),hd,hom]
 case binOp b t x y u=>simp only[h x (show x∈[x,y] from aeW),h y (show y∈[x,y] from ae0 _ aeW),hd,hom]
 case makeSlice t x y=>simp only[h x (show x∈[x,y] from aeW),h y (show y∈[x,y] from ae0 _ aeW),hd,hom]
 case indexAddr t x y=>simp only[h x (show x∈[x,y] from aeW),h y (show y∈[x,y] from ae0 _ aeW),hd,hom]
 case index t x y=>simp only[h x (show x∈[x,y] from aeW),h y (show y∈[x,y] from ae0 _ aeW),hd,hom]
 case lookup t x y ok=>simp only[h x (show x∈[x,y] from aeW),h y (show y∈[x,y] from ae0 _ aeW),hd,hom]
 case mapUpdate t x y z=>simp only[h x (show x∈[x,y,z] from aeW),h y (show y∈[x,y,z] from ae0 _ aeW),h z (show z∈[x,y,z] from ae0 _ (ae0 _ aeW)),hd]
 case insert t x y z=>simp only[h x (show x∈[x,y,z] from aeW),h y (show y∈[x,y,z] from ae0 _ aeW),h z (show z∈[x,y,z] from ae0 _ (ae0 _ aeW)),hd]
 case build t parts=>
  have:(parts.toList.map fun (i,x)=>(i,fr'.ev E x))=parts.toList.map fun (i,x)=>(i,fr.ev E x):=by
   refine afG (fun p hp=>?_)
   show (p.1,fr'.ev E p.2)=(p.1,fr.ev E p.2)
   rw[h p.2 (show p.2∈parts.toList.map (·.2) from List.mem_map.2 ⟨p,hp,rfl⟩)]
  simp only[this]
 case buildSlice t len parts=>
  have:(parts.toList.map fun (i,x)=>(i,fr'.ev E x))=parts.toList.map fun (i,x)=>(i,fr.ev E x):=by
   refine afG (fun p hp=>?_)
   show (p.1,fr'.ev E p.2)=(p.1,fr.ev E p.2)
   rw[h p.2 (show p.2∈parts.toList.map (·.2) from List.mem_map.2 ⟨p,hp,rfl⟩)]
  simp only[this,hd]
 case makeFunc fn a b=>
  have h1:a.toList.map (fr'.ev E)=a.toList.map (fr.ev E):=afG (fun x hx=>h x (show x∈(a++b).toList by simp at hx⊢;exact .inl hx))
  have h2:b.toList.map (fr'.ev E)=b.toList.map (fr.ev E):=afG (fun x hx=>h x (show x∈(a++b).toList by simp at hx⊢;exact .inr hx))
  cases fn<;>first|rfl|simp only[h1,h2]
 case makeMap t r=>cases r<;>simp only[hd]
 case slice t x lo hi mx=>
  have h0:∀y,y=x\/lo=some y\/hi=some y\/mx=some y->fr'.ev E y=fr.ev E y:=fun y hy=>h y (show y∈(#[x]++lo.toArray++hi.toArray++mx.toArray).toList by
   rcases hy with rfl|rfl|rfl|rfl<;>simp)
  have hx:fr'.ev E x=fr.ev E x:=h0 x (.inl rfl)
  have h1:bV E fr' lo=bV E fr lo:=by
   cases lo with
   |none=>rfl
   |some y=>simp only[bV];rw[h0 y (by simp)]
  have h2:bV E fr' hi=bV E fr hi:=by
   cases hi with
   |none=>rfl
   |some y=>simp only[bV];rw[h0 y (by simp)]
  have h3:bV E fr' mx=bV E fr mx:=by
   cases mx with
   |none=>rfl
   |some y=>simp only[bV];rw[h0 y (by simp)]
  simp only[hx,h1,h2,h3]
theorem K9 {st:Nat} {o:Oper} (h:∀x∈o.op.operands.toList,fr'.ev E x=fr.ev E x) (hd:fr'.d=fr.d) (hom:fr'.om=fr.om):
 opC E S fr' σ st o=(opC E S fr σ st o).map fun (v,_,σ1)=>(v,fr',σ1):=by
 cases ho:o.op
 case call c=>
  have h:∀x∈c.operands.toList,fr'.ev E x=fr.ev E x:=by rw[ho] at h;exact h
  unfold opC
  simp only[ho]
  have hargs:c.args.toList.map (fr'.ev E)=c.args.toList.map (fr.ev E):=afG (fun x hx=>h x (by simp[Call.operands] at hx⊢;exact .inr hx))
  split
  ·simp only[hargs,hd,hom]
   cases fP E fr.om (o.dst.map fun t=>(fr.d,E.cn t)) σ st _ c.argTypes (c.args.toList.map (fr.ev E))<;>rfl
  ·rename_i f hc
   have hf:fr'.ev E f=fr.ev E f:=h f (by simp[Call.operands,hc])
   have aN:dJ E fr' o f=dJ E fr o f:=by unfold dJ;rw[hf]
   simp only[hargs,hd,hf,aN]
   cases dJ E fr o f
   ·cases cu E S fr.d (o.dst.map E.cn) σ (fr.ev E f) (c.args.toList.map (fr.ev E))<;>rfl
   ·cases gU E S σ st (fr.ev E f) (c.args.toList.map (fr.ev E))<;>rfl
  ·rfl
 case defer=>unfold opC;simp only[ho];rfl
 all_goals
  have:=UR (σ:=σ) (st:=st) h hd hom
  unfold opC
  simp only[ho]
  rw[this]
  cases opV E fr σ st o<;>rfl
theorem su {loc:Loc} {s:Nat} (h:σ'.obj loc=σ.obj loc):σ'.cellsAt loc s=σ.cellsAt loc s:=by simp only[Sig.cellsAt,h]
theorem Fz {loc:Loc} {s:Nat} (h:σ'.obj loc=σ.obj loc):σ'.bg loc s=σ.bg loc s:=by simp only[Sig.bg,h]
def bN (σ σ':Sig) (k:Key):Prop:=match k with
 |.obj l=>σ'.obj l=σ.obj l
 |.top=>σ'.top=σ.top
 |_=>True
def Reads (σ σ':Sig) (r r':Option (V×Sig)):Prop:=∀v σ1,r=some (v,σ1)->σ1=σ/\r'=some (v,σ')
theorem fQ {v:V}:Reads σ σ' (some (v,σ)) (some (v,σ')):=fun v σ1 h=>by
 simp only[iE,mF] at h
 exact⟨h.2.symm,by rw[h.1]⟩
theorem fE {α:Type} {r:Option α} (f:α->V):Reads σ σ' (r.map fun v=>(f v,σ)) (r.map fun v=>(f v,σ')):=by
 cases r with
 |none=>intro v σ1 h;cases h
 |some x=>exact fQ
theorem je {r:Option (V×Sig)}:Reads σ σ' none r:=fun _ _ h=>by cases h
theorem nQ {α:Type} {r:Option α} {f g:α->Option (V×Sig)} (h:∀x,Reads σ σ' (f x) (g x)):Reads σ σ' (r.bind f) (r.bind g):=by
 cases r with
 |none=>exact je
 |some x=>exact h x
theorem AP {c:Prop} [Decidable c] {r r' s s':Option (V×Sig)} (h1:Reads σ σ' r r') (h2:Reads σ σ' s s'):Reads σ σ' (if c then r else s) (if c then r' else s'):=by
 split<;>assumption
theorem UU {src dst:TypeId} {x:V} (h:∀k∈refK x,bN σ σ' k):mh E.P σ' src dst x=mh E.P σ src dst x:=by
 unfold mh
 generalize E.P.underlying src=u1
 generalize E.P.underlying dst=u2
 cases u1 with
 |none=>cases x<;>cases u2<;>rfl
 |some d1=>
  cases u2 with
  |none=>cases x<;>cases d1<;>rfl
  |some d2=>
   cases x with
   |vw loc s off len cap aA ag=>
    have h1:σ'.obj loc=σ.obj loc:=h (.obj loc) (by simp[refK])
    cases d2<;>cases d1<;>first|rfl|simp only[su h1]
   |_=>cases d2<;>first|rfl| (cases d1<;>rfl)
theorem UW {t:TypeId} {x:V} {lo hi mx:Option V} (h:∀k∈refK x,bN σ σ' k):dQ E.P σ' t x lo hi mx=dQ E.P σ t x lo hi mx:=by
 unfold dQ
 generalize E.P.underlying t=u1
 cases u1 with
 |none=>cases x<;>rfl
 |some d1=>
  cases x with
  |ref loc s off=>
   have h1:σ'.obj loc=σ.obj loc:=h (.obj loc) (by simp[refK])
   cases d1<;>first|rfl|simp only[su h1]
  |_=>cases d1<;>rfl
theorem UY {t:TypeId} {x k:V} {ok:Bool} (h:∀k∈refK x,bN σ σ' k):kP E.P σ' t x k ok=kP E.P σ t x k ok:=by
 unfold kP
 cases x with
 |mapr loc s=>
  have h1:σ'.obj loc=σ.obj loc:=h (.obj loc) (by simp[refK])
  simp only[Fz h1]
 |_=>rfl
theorem UZ {t:TypeId} {x:V} (h:∀k∈refK x,bN σ σ' k):iW E σ' t x=iW E σ t x:=by
 unfold iW
 generalize E.P.underlying t=u1
 cases u1 with
 |none=>cases x<;>rfl
 |some d1=>
  cases x with
  |mapr loc s=>
   have h1:σ'.obj loc=σ.obj loc:=h (.obj loc) (by simp[refK])
   cases d1<;>first|rfl|simp only[Fz h1]
  |_=>cases d1<;>rfl
theorem U0 {ag:Bool} {sz:Nat} {z x:V} (h:∀k∈refK x,bN σ σ' k):dY σ' ag sz z x=dY σ ag sz z x:=by
 unfold dY
 cases x with
 |vw loc s off len cap aA ag=>
  have h1:σ'.obj loc=σ.obj loc:=h (.obj loc) (by simp[refK])
  simp only[su h1]
 |_=>rfl
def Local (W:Key->Prop) (σ σ':Sig) (r r':Option (V×Sig)):Prop:=
 ∀v σ1,r=some (v,σ1)->∃d9,r'=some (v,d9)/\iF σ σ1/\iF σ' d9/\(∀k,W k->bN σ1 d9 k)/\(∀k,¬W k->bN σ σ1 k)/\∀k,¬W k->bN σ' d9 k
theorem bN.refl (σ:Sig) (k:Key):bN σ σ k:=by cases k<;>simp[bN]
theorem bN.chain {σ1 d9:Sig} {k:Key} (h:bN σ σ' k) (h1:bN σ σ1 k) (h2:bN σ' d9 k):bN σ1 d9 k:=by
 cases k with
 |obj l=>exact Eq.trans (show d9.obj l=σ'.obj l from h2) (Eq.trans (show σ'.obj l=σ.obj l from h) (show σ1.obj l=σ.obj l from h1).symm)
 |top=>exact Eq.trans (show d9.top=σ'.top from h2) (Eq.trans (show σ'.top=σ.top from h) (show σ1.top=σ.top from h1).symm)
 |slot t=>trivial
 |rest=>trivial
 |nx=>trivial
theorem Reads.local {r r':Option (V×Sig)} (h:Reads σ σ' r r'):Local (fun k=>k∈([]:List Key)) σ σ' r r':=fun v σ1 hr=>by
 obtain⟨h1,h2⟩:=h v σ1 hr
 subst h1
 exact⟨σ',h2,.refl _,.refl _,fun k hk=>absurd hk (List.not_mem_nil),fun k _=>.refl _ _,fun k _=>.refl _ _⟩
theorem Local.mono {W W':Key->Prop} {r r':Option (V×Sig)} (h:Local W σ σ' r r') (hW:∀k,W k->W' k) (hT:∀k,W' k->bN σ σ' k):Local W' σ σ' r r':=fun v σ1 hr=>by
 obtain⟨d9,h1,h2,h3,h4,h5,h6⟩:=h v σ1 hr
 refine⟨d9,h1,h2,h3,fun k hk=>?_,fun k hk=>h5 k (fun hw=>hk (hW k hw)),fun k hk=>h6 k (fun hw=>hk (hW k hw))⟩
 by_cases hw:W k
 ·exact h4 k hw
 ·exact(hT k hk).chain (h5 k hw) (h6 k hw)
theorem La {loc:Loc} {st:Nat} {ob:AObj} {k:Key} (hk:k∉[Key.obj loc]):bN σ (σ.setObj loc st ob) k:=by
 cases k with
 |obj l=>
  have:l≠loc:=fun e=>hk (by simp[e])
  show upd σ.obj loc _ l=σ.obj l
  simp[upd,this]
 |top=>rfl
 |slot t=>trivial
 |rest=>trivial
 |nx=>trivial
theorem Lb {s n:Nat} {k:Key} (hk:k∉[Key.top]):bN σ (σ.aI s n) k:=by
 cases k with
 |obj l=>rfl
 |top=>exact absurd (by simp) hk
 |slot t=>trivial
 |rest=>trivial
 |nx=>trivial
theorem sD {loc:Loc} {st:Nat} {ob:AObj} {v:V}:Local (fun k=>k∈[Key.obj loc]) σ σ' (some (v,σ.setObj loc st ob)) (some (v,σ'.setObj loc st ob)):=fun v1 σ1 h=>by
 simp only[iE,mF] at h
 obtain⟨rfl,rfl⟩:=h
 refine⟨_,rfl,⟨rfl,rfl⟩,⟨rfl,rfl⟩,fun k hk=>?_,fun k hk=>La hk,fun k hk=>La hk⟩
 obtain rfl:k= .obj loc:=by simpa using hk
 show upd σ'.obj loc _ loc=upd σ.obj loc _ loc
 simp[upd]
theorem aV {W:Key->Prop} {r:Option (V×Sig)}:Local W σ σ' none r:=fun _ _ h=>by cases h
theorem dW {W:Key->Prop} {α:Type} {r:Option α} {f g:α->Option (V×Sig)} (h:∀x,Local W σ σ' (f x) (g x)):Local W σ σ' (r.bind f) (r.bind g):=by
 cases r with
 |none=>exact aV
 |some x=>exact h x
theorem jf {W:Key->Prop} {c:Prop} [Decidable c] {r r' s s':Option (V×Sig)} (h1:Local W σ σ' r r') (h2:Local W σ σ' s s'):Local W σ σ' (if c then r else s) (if c then r' else s'):=by
 split<;>assumption
theorem sG (ht:σ'.top=σ.top) {s n:Nat} {v:V}:Local (fun k=>k∈[Key.top]) σ σ' (some (v,σ.aI s n)) (some (v,σ'.aI s n)):=fun v1 σ1 h=>by
 simp only[iE,mF] at h
 obtain⟨rfl,rfl⟩:=h
 refine⟨_,rfl,⟨rfl,rfl⟩,⟨rfl,rfl⟩,fun k hk=>?_,fun k hk=>Lb hk,fun k hk=>Lb hk⟩
 obtain rfl:k= .top:=by simpa using hk
 show upd σ'.top s n=upd σ.top s n
 rw[ht]
theorem Lc {W:Key->Prop} {α:Type} {r:Option α} {f g:α->V×Sig} (h:∀x,Local W σ σ' (some (f x)) (some (g x))):Local W σ σ' (r.map f) (r.map g):=by
 cases r with
 |none=>exact aV
 |some x=>exact h x
theorem Ld {t:TypeId} {m k v:V} (h:∀q∈refK m,bN σ σ' q):
 Local (fun q=>q∈refK m) σ σ' ((iV E.P σ t m k v).map fun σ=>(undefV,σ)) ((iV E.P σ' t m k v).map fun σ=>(undefV,σ)):=by
 unfold iV
 cases mapT E.P t with
 |none=>exact aV
 |some p=>
  simp only[Option.bind_some]
  split
  ·cases m with
   |mapr loc s=>
    have h1:σ'.obj loc=σ.obj loc:=h (.obj loc) (by simp[refK])
    simp only[Fz h1]
    cases σ.bg loc s with
    |none=>exact aV
    |some q=>
     simp only[Option.bind_some,Option.map_map]
     exact Lc (fun x=>sD)
   |_=>exact aV
  ·exact aV
theorem U1 {fr:Fr} {st:Nat} {o:Oper} {t:TypeId} {l c:V} (h:∀q∈Key.top::dstK fr o,bN σ σ' q):
 Local (fun q=>q∈Key.top::dstK fr o) σ σ' (jW E.P fr.om σ st (o.dst.map fun t=>(fr.d,t)) t l c) (jW E.P fr.om σ' st (o.dst.map fun t=>(fr.d,t)) t l c):=by
 unfold jW
 refine dW (fun e=>dW (fun sz=>dW (fun by_=>dW (fun z=>dW (fun n=>dW (fun m=>jf (jf ?_ ?_) aV))))))
 ·exact(sG (h .top (by simp))).mono (fun k hk=>by simp at hk;simp[hk]) h
 ·cases hd:o.dst with
  |none=>exact aV
  |some d=>
   simp only[Option.map_some,Option.bind_some]
   exact Lc (fun ag=>sD.mono (fun k hk=>by simp at hk;simp[hk,dstK,hd]) (by simpa [dstK,hd] using h))
theorem FB {zeros:Bool} {st:Nat} {loc:Option Loc} {t:TypeId} {x y:V} (hy:∀q∈refK y,bN σ σ' q) (ht:σ'.top=σ.top):
 Local (fun q=>q∈[Key.top]) σ σ' (dD E.P false zeros σ st loc t x y) (dD E.P false zeros σ' st loc t x y):=by
 unfold dD
 refine dW (fun e=>dW (fun sz=>dW (fun by_=>dW (fun ag=>dW (fun z=>jf ?_ aV)))))
 rw[U0 hy]
 refine dW (fun ys=>jf ?_ aV)
 cases x with
 |lst c l=>
  simp only
  refine jf ?_ aV
  cases c with
  |own n s=>simp only[ht];exact jf (sG ht) aV
  |nil=>exact sG ht
  |full=>exact sG ht
  |sh=>exact aV
 |vw bZ s off len cap aA mE=>simp only[aaB,false_and,and_false,if_false];exact aV
 |_=>exact aV
theorem AQ {om:Bool} {loc:Option Loc} {st:Nat} {b:Builtin} {tys:Array TypeId} {args:List V} (hb:b= .len\/b= .cap\/b= .min\/b= .max) (h:∀x∈args,∀q∈refK x,bN σ σ' q):
 Reads σ σ' (fP E om loc σ st b tys args) (fP E om loc σ' st b tys args):=by
 rcases hb with rfl|rfl|rfl|rfl
 ·rcases args with _| ⟨x,_| ⟨y,l⟩⟩
  ·exact je
  ·refine nQ (fun t=>?_)
   rw[UZ (h x (by simp))]
   exact fE _
  ·exact je
 ·rcases args with _| ⟨x,_| ⟨y,l⟩⟩
  ·exact je
  ·refine nQ (fun t=>nQ (fun e=>?_))
   cases x with
   |lst c l=>cases c<;>first|exact fQ|exact je
   |_=>exact je
  ·exact je
 ·rcases args with _| ⟨x,l⟩
  ·exact je
  ·exact fE _
 ·rcases args with _| ⟨x,l⟩
  ·exact je
  ·exact fE _
theorem U2 {loc:Option Loc} {st:Nat} {tys:Array TypeId} {args:List V} (h:∀x∈args,∀q∈refK x,bN σ σ' q) (ht:σ'.top=σ.top):
 Local (fun q=>q∈[Key.top]) σ σ' (fP E false loc σ st .append tys args) (fP E false loc σ' st .append tys args):=by
 rcases args with _| ⟨x,_| ⟨y,_| ⟨z,l⟩⟩⟩
 ·exact aV
 ·exact aV
 ·refine dW (fun t=>dW (fun u=>?_))
  split
  ·exact FB (h y (by simp)) ht
  ·exact FB (h y (by simp)) ht
  ·exact FB (h y (by simp)) ht
  ·exact aV
 ·exact aV
end
end Aq
end
section
namespace Aq
open Go
section
variable {E:Env} {S:bH} {fr fr':Fr} {σ σ':Sig}
theorem Le {loc:Loc} {k:Key} (hk:k∉[Key.obj loc]):bN σ (σ.aX loc) k:=by
 cases k with
 |obj l=>
  have:l≠loc:=fun e=>hk (by simp[e])
  show upd σ.obj loc none l=σ.obj l
  simp[upd,this]
 |top=>rfl
 |slot t=>trivial
 |rest=>trivial
 |nx=>trivial
theorem U3 {loc:Loc} {v:V}:Local (fun k=>k∈[Key.obj loc]) σ σ' (some (v,σ.aX loc)) (some (v,σ'.aX loc)):=fun v1 σ1 h=>by
 simp only[iE,mF] at h
 obtain⟨rfl,rfl⟩:=h
 refine⟨_,rfl,⟨rfl,rfl⟩,⟨rfl,rfl⟩,fun k hk=>?_,fun k hk=>Le hk,fun k hk=>Le hk⟩
 obtain rfl:k= .obj loc:=by simpa using hk
 show upd σ'.obj loc none loc=upd σ.obj loc none loc
 simp[upd]
theorem U4 {x:V} (h:∀k,k∈refK x->bN σ σ' k):Local (fun k=>k∈refK x) σ σ' (jY σ x) (jY σ' x):=by
 cases x with
 |vw loc s off len cap aA ag=>
  have h1:σ'.obj loc=σ.obj loc:=h (.obj loc) (by simp[refK])
  simp only[jY,su h1]
  exact dW (fun cs=>jf U3 aV)
 |_=>exact fQ.local.mono (fun k hk=>by cases hk) h
theorem U5 {st:Nat} {o:Oper} (hc:∀c,o.op≠ .call c) (hw:(footS E fr o).wAll=false) (h:∀k,k∈(footS E fr o).t\/k∈(footS E fr o).w->bN σ σ' k):
 Local (fun k=>k∈(footS E fr o).w) σ σ' (opV E fr σ st o) (opV E fr σ' st o):=by
 cases ho:o.op<;>simp only[footS,ho,allF,reduceCtorEq,Bool.true_eq_false] at hw
 case call c=>exact absurd ho (hc c)
 all_goals
  simp only[footS,ho,rdF,wrF] at h
  simp only[footS,ho,rdF,wrF]
  unfold opV
  simp only[ho]
 case move x=>
  by_cases hz:fzM E o.dst=true
  ·simp only[hz,if_true] at h⊢
   exact U4 (fun k hk=>h k (.inr hk))
  ·simp only[hz,aaB,if_false]
   exact fQ.local
 case assign=>exact fQ.local
 case pick=>exact(fE _).local
 case alloc t=>
  cases hd:o.dst with
  |none=>exact aV
  |some d=>simp only[Option.map_some,Option.bind_some,dstK,hd];exact dW (fun z=>jf sD aV)
 case box t x=>
  by_cases hz:frzB E t o.dst=true
  ·simp only[hz,if_true]
   exact(AP fQ je).local.mono (fun k hk=>by cases hk) (fun k hk=>h k (.inr hk))
  ·simp only[hz,aaB,if_false]
   cases hd:o.dst with
   |none=>exact aV
   |some d=>simp only[Option.map_some,Option.bind_some,dstK,hd];exact jf sD aV
 case build t parts=>exact(nQ (fun _=>nQ (fun _=>fE _))).local
 case buildSlice t len parts=>
  by_cases hz:bsM E o.dst=true
  ·simp[hz,allF] at hw
  ·simp only[hz,aaB,if_false]
   exact(fE _).local.mono (fun k hk=>by cases hk) (fun k hk=>by cases hk)
 case load t a=>
  cases hx:fr.ev E a with
  |ref loc s off=>
   have h1:σ'.obj loc=σ.obj loc:=h (.obj loc) (by simp[hx,refK])
   simp only[su h1]
   exact(nQ (fun _=>fE _)).local
  |cref cs off=>exact(fE _).local
  |_=>exact aV
 case store t a x=>
  cases hx:fr.ev E a with
  |ref loc s off=>
   have h1:σ'.obj loc=σ.obj loc:=h (.obj loc) (by simp[hx,refK])
   simp only[su h1]
   exact dW (fun _=>jf sD aV)
  |_=>exact aV
 case nilCheck x=>
  cases hx:fr.ev E x with
  |ref loc s off=>exact fQ.local
  |cref cs off=>exact fQ.local
  |fn f a b=>cases f<;>first|exact fQ.local|exact aV
  |_=>exact aV
 case binOp=>exact(fE _).local
 case unOp=>exact(fE _).local
 case convert a b x=>rw[UU (fun k hk=>h k (.inl hk))];exact(fE _).local
 case sliceToArrayPointer t x=>
  refine dW (fun p=>?_)
  cases hx:fr.ev E x with
  |vw loc s off len cap aA ag=>exact(AP fQ je).local
  |lst c l=>exact(AP fQ je).local
  |_=>exact aV
 case typeAssert=>exact(fE _).local
 case makeInterface t x=>
  split
  ·exact aV
  ·exact fQ.local
  ·exact aV
 case makeFunc f a b=>cases f<;>first|exact fQ.local|exact aV
 case makeMap t r=>
  cases r with
  |some _=>exact aV
  |none=>
   cases hd:o.dst with
   |none=>exact aV
   |some d=>simp only[Option.map_some,dstK,hd];exact sD
 case makeSlice t l c=>exact U1 (fun q hq=>h q (.inr hq))
 case slice t x lo hi mx=>rw[UW (fun k hk=>h k (.inl hk))];exact(fE _).local
 case fieldAddr t x f=>
  refine dW (fun p=>?_)
  cases hx:fr.ev E x with
  |ref loc s off=>exact fQ.local
  |cref cs off=>exact fQ.local
  |_=>exact aV
 case field t x f=>
  refine dW (fun p=>?_)
  cases hx:fr.ev E x with
  |agg cs=>exact(fE _).local
  |_=>exact aV
 case indexAddr=>exact(fE _).local
 case index=>exact(fE _).local
 case lookup t x i ok=>rw[UY (fun k hk=>h k (.inl hk))];exact(fE _).local
 case mapUpdate t m k v=>exact Ld (fun q hq=>h q (.inr hq))
 case insert t m k v=>exact Ld (fun q hq=>h q (.inr hq))
 case extract x i=>
  cases hx:fr.ev E x with
  |tup vs=>exact(fE _).local
  |_=>exact aV
theorem wX {α β:Type} {f g:α->Option β}:∀{l:List α},(∀x∈l,f x=g x)->l.mapM f=l.mapM g
 | [],_=>rfl
 |a::l,h=>by
  simp only[aew]
  rw[h a (by simp),wX (fun x hx=>h x (by simp[hx]))]
theorem FC {n:Nat} {x:V} (hp:pclean x=true):closeV n σ' x=closeV n σ x:=by
 cases n with
 |zero=>rfl
 |succ n=>unfold closeV;simp only[hp,if_true]
theorem Lf {l:List V} {x:V} (h:x∈l):∃i,∃hi:i<l.length,x=l[i]:=by
 obtain⟨i,hi,e⟩:=afR.1 h
 exact⟨i,hi,e.symm⟩
theorem Lg {n:Nat} {c:Cap} {l:List V} (hp:pcleanL l=true):closeV n σ' (.lst c l)=closeV n σ (.lst c l):=by
 cases n with
 |zero=>rfl
 |succ n=>
  unfold closeV
  split
  ·rfl
  ·simp only
   rw[wX (fun x hx=>?_)]
   obtain⟨i,hi,rfl⟩:=Lf hx
   exact FC (wN hp hi)
theorem U6 {n:Nat} {x:V} (hp:pclean (aU x)=true):closeV n σ' x=closeV n σ x:=by
 cases x with
 |lst c l=>exact Lg (by simpa [aU,pclean] using hp)
 |_=>exact FC hp
theorem Lh {n:Nat} {x:V} (hp:pclean (er x)=true):closeV n σ' x=closeV n σ x:=by
 cases x with
 |lst c l=>exact Lg (by simpa [er,pclean] using hp)
 |agg cs=>
  have hp':pcleanL (cs.map aU)=true:=by simpa [er,pclean] using hp
  cases n with
  |zero=>rfl
  |succ n=>
   unfold closeV
   split
   ·rfl
   ·simp only
    rw[wX (fun x hx=>?_)]
    obtain⟨i,hi,rfl⟩:=Lf hx
    refine U6 ?_
    have:=wN hp' (i:=i) (by simpa using hi)
    simpa using this
 |_=>exact FC hp
theorem U7 {d:Nat} {dst:Option Nat} {g:FuncId} {a b args:List V} (hi:E.imp g=false) (hp:(a++args++b).all (fun v=>pclean (er v))=true):
 Reads σ σ' (cu E S d dst σ (.fn (.func g) a b) args) (cu E S d dst σ' (.fn (.func g) a b) args):=by
 unfold cu
 simp only[hi,aaB,if_false]
 rw[wX (f:=closeV 20 σ') (g:=closeV 20 σ) (fun x hx=>Lh (by simp only[aeP] at hp;exact hp x hx))]
 exact nQ (fun as=>nQ (fun v=>AP fQ je))
theorem U8 {d:Nat} {dst:Option Nat} {g:FuncId} {a b args:List V} (hi:E.imp g=false) {v:V} {σ1:Sig} (h:cu E S d dst σ (.fn (.func g) a b) args=some (v,σ1)):σ1=σ:=by
 unfold cu at h
 simp only[hi,aaB,if_false,iR] at h
 obtain⟨_,_,_,_,h⟩:=h
 split at h
 ·simp only[iE,mF] at h;exact h.2.symm
 ·simp at h
theorem Ag.refl (k:Key) (x:Fr×Sig):Ag k x x:=by cases k<;>simp[Ag]
theorem Ag.symm {k:Key} {x y:Fr×Sig} (h:Ag k x y):Ag k y x:=by
 cases k with
 |slot t=>exact Eq.symm h
 |obj l=>exact Eq.symm h
 |top=>exact Eq.symm h
 |rest=>exact⟨h.1.symm,h.2.symm⟩
 |nx=>exact⟨h.1.symm,h.2.symm⟩
theorem Ag.trans {k:Key} {x y z:Fr×Sig} (h:Ag k x y) (g:Ag k y z):Ag k x z:=by
 cases k with
 |slot t=>exact Eq.trans h g
 |obj l=>exact Eq.trans h g
 |top=>exact Eq.trans h g
 |rest=>exact⟨h.1.trans g.1,h.2.trans g.2⟩
 |nx=>exact⟨h.1.trans g.1,h.2.trans g.2⟩
theorem Ag.all {x y:Fr×Sig} (h:∀k,Ag k x y):x=y:=by
 obtain⟨⟨d,om,tm⟩,⟨nx,top,obj,lp⟩⟩:=x
 obtain⟨⟨d',om',tm'⟩,⟨nx',top',wY,Li⟩⟩:=y
 obtain⟨h1,h2⟩:=h .rest
 obtain⟨h3,h4⟩:=h .nx
 have h5:top=top':=h .top
 have h6:obj=wY:=funext fun l=>h (.obj l)
 have h7:tm=tm':=funext fun t=>h (.slot t)
 simp only at h1 h2 h3 h4
 subst h1 h2 h3 h4 h5 h6 h7
 rfl
def Foot.T (f:Foot) (k:Key):Prop:=k= .rest\/k∈f.t\/k∈f.w\/((f.tAll=true\/f.wAll=true)/\k.state=true)
def Foot.W (f:Foot) (k:Key):Prop:=k∈f.w\/(f.wAll=true/\k.state=true)
theorem Foot.AU {f:Foot} {k:Key} (h:f.W k):f.T k:=by
 rcases h with h| ⟨h,h1⟩
 ·exact .inr (.inr (.inl h))
 ·exact .inr (.inr (.inr ⟨.inr h,h1⟩))
end
end Aq
end
