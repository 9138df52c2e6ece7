import Derived.Test.YtabmooekodficaaGreatDoorF4405
set_option linter.all false
section
namespace Aq
open Go
section
variable {E:Env}
def dX (S T:bH):Prop:=(∀c fr σ r,S.code c fr σ=some r->T.code c fr σ=some r)/\∀f args d σ r,S.call f args d σ=some r->T.call f args d σ=some r
variable {S T:bH}
theorem FX (h:dX S T) {f:FuncId} {args:List V} {v:V} (hc:callPure E S f args=some v):callPure E T f args=some v:=by
 unfold callPure at hc⊢
 cases hg:E.summ f with
 |some g=>simp only[hg] at hc⊢;exact hc
 |none=>
  simp only[hg,iR] at hc⊢
  obtain⟨x,h1,h2⟩:=hc
  exact⟨x,h.2 _ _ _ _ _ h1,h2⟩
theorem LD (h:dX S T) {l:Nat} {args:List V} {σ:Sig} {r:V×Sig} (hc:jZ S l args σ=some r):jZ T l args σ=some r:=by
 unfold jZ at hc⊢
 simp only[iR] at hc⊢
 obtain⟨r0,hl,hc⟩:=hc
 refine⟨r0,hl,?_⟩
 split at hc
 ·rename_i hst
  rw[if_pos hst]
  simp only[iR] at hc⊢
  obtain⟨⟨e1,aD,σ1⟩,wM,hc⟩:=hc
  refine⟨(e1,aD,σ1),h.1 _ _ _ _ wM,?_⟩
  cases e1 with
  |normal=>
   simp only[iR] at hc⊢
   obtain⟨r1,hl1,hc⟩:=hc
   refine⟨r1,hl1,?_⟩
   split at hc
   ·rename_i nP
    rw[if_pos nP]
    simp only[iR] at hc⊢
    obtain⟨x,hb,y,hy,hc⟩:=hc
    exact⟨x,h.1 _ _ _ _ hb,y,hy,hc⟩
   ·simp at hc
  |exit i=>simp at hc
  |ret=>simp at hc
 ·simp at hc
theorem LG (h:dX S T) {d:Nat} {dst:Option Nat} {σ:Sig} {fv:V} {args:List V} {r:V×Sig} (hc:cu E S d dst σ fv args=some r):cu E T d dst σ fv args=some r:=by
 unfold cu at hc⊢
 split at hc
 ·split at hc
  ·rename_i hi;simp only[hi,if_true]
   obtain⟨x,h1,h2⟩:=aat.1 hc
   exact aat.2 ⟨x,h.2 _ _ _ _ _ h1,h2⟩
  ·rename_i hi
   simp only[iR] at hc
   obtain⟨as,h1,v,h2,h3⟩:=hc
   simp only[hi,h1,Option.bind_some,FX h h2]
   exact h3
 ·exact LD h hc
 ·simp at hc
theorem VQ (h:dX S T) {σ:Sig} {st:Nat} {fv:V} {args:List V} {r:V×Sig} (hc:gU E S σ st fv args=some r):gU E T σ st fv args=some r:=by
 unfold gU at hc⊢
 split at hc
 ·split at hc
  ·rename_i hi
   simp only[iR] at hc
   obtain⟨as,h1,v,h2,h3⟩:=hc
   simp only[hi,if_true,h1,Option.bind_some,h.2 _ _ _ _ _ h2]
   exact h3
  ·cases hc
 ·cases hc
theorem FY (h:dX S T) {fr:Fr} {σ:Sig} {st:Nat} {o:Oper} {r:V×Fr×Sig} (hc:opC E S fr σ st o=some r):opC E T fr σ st o=some r:=by
 unfold opC at hc⊢
 split at hc
 ·rename_i c ho
  simp only[ho] at hc⊢
  split at hc
  ·exact hc
  ·rename_i f hf
   split at hc
   ·rename_i aN
    simp only[aN,if_true]
    simp only[aat] at hc⊢
    obtain⟨x,h1,h2⟩:=hc
    exact⟨x,VQ h h1,h2⟩
   rename_i aN
   simp only[aN,if_false,aaB]
   simp only[aat] at hc⊢
   obtain⟨x,h1,h2⟩:=hc
   exact⟨x,LG h h1,h2⟩
  ·simp at hc
 ·simp at hc
 ·exact hc
theorem xk (h:dX S T) (all:List Oper):∀(os:List Oper) (st:Nat) (fr:Fr) (σ:Sig) (r:Fr×Sig),opsE E S all st os fr σ=some r->opsE E T all st os fr σ=some r:=by
 intro os
 induction os with
 |nil=>intro st fr σ r hc;exact hc
 |cons o os ih=>
  intro st fr σ r hc
  simp only[opsE,iR] at hc⊢
  obtain⟨t,h1,h2⟩:=hc
  refine⟨t,h1,?_⟩
  cases t with
  |true=>
   simp only[if_true,iR] at h2⊢
   obtain⟨x,h3,h4⟩:=h2
   exact⟨x,FY h h3,ih _ _ _ _ h4⟩
  |false=>
   simp only[aaB,if_false] at h2⊢
   exact ih _ _ _ _ h2
theorem Bb (h:dX S T) (all:List Oper):∀(os:List Oper) (st:Nat) (fr:Fr) (σ:Sig) (r:List Foot×Fr×Sig),dZ E S all st os fr σ=some r->dZ E T all st os fr σ=some r:=by
 intro os
 induction os with
 |nil=>intro st fr σ r hc;exact hc
 |cons o os ih=>
  intro st fr σ r hc
  simp only[dZ,iR] at hc⊢
  obtain⟨t,h1,h2⟩:=hc
  refine⟨t,h1,?_⟩
  cases t with
  |true=>
   simp only[if_true,iR,aat] at h2⊢
   obtain⟨x,h3,y,h4,h5⟩:=h2
   exact⟨x,FY h h3,y,ih _ _ _ _ h4,h5⟩
  |false=>
   simp only[aaB,if_false,aat] at h2⊢
   obtain⟨y,h4,h5⟩:=h2
   exact⟨y,ih _ _ _ _ h4,h5⟩
theorem xq (h:dX S T) {ops:List Oper} {base i:Nat} {fr:Fr} {σ:Sig} {r:Fr×Sig} (hc:bO E S ops base i fr σ=some r):bO E T ops base i fr σ=some r:=by
 unfold bO at hc⊢
 split at hc
 ·exact hc
 ·simp only[iR] at hc⊢
  obtain⟨t,h1,h2⟩:=hc
  refine⟨t,h1,?_⟩
  cases t with
  |true=>
   simp only[if_true,aat] at h2⊢
   obtain⟨x,h3,h4⟩:=h2
   exact⟨x,FY h h3,h4⟩
  |false=>simpa using h2
theorem VR (h:dX S T) {ms:List Nat} {ops:List Oper} {base:Nat} {x y:Fr×Sig} (hf:Free E S ms ops base x y):Free E T ms ops base x y:=by
 obtain⟨s,T',W,h0,hn,wV,hloc,hr⟩:=hf
 refine⟨s,T',W,h0,hn,wV,fun i hi x hx=>?_,hr⟩
 obtain⟨y,h1,h2⟩:=hloc i hi x hx
 exact⟨y,xq h h1,h2⟩
theorem kU (h:dX S T):∀(c:Code) (fr:Fr) (σ:Sig) (r:Ex×Fr×Sig),aK E S c fr σ=some r->aK E T c fr σ=some r:=by
 intro c
 induction c with
 |region id ops dr=>
  intro fr σ r hc
  simp only[aK] at hc⊢
  split at hc
  ·rename_i hd
   simp only[hd,if_true,iR] at hc⊢
   obtain⟨x,h1,h2⟩:=hc
   refine⟨x,Bb h _ _ _ _ _ _ h1,?_⟩
   split at h2
   ·rename_i hp;rw[if_pos hp];exact h2
   ·rename_i hp
    rw[if_neg hp]
    unfold zZ at h2⊢
    split at h2
    ·rename_i hf
     rw[if_pos ⟨hf.1,VR h hf.2⟩];exact h2
    ·cases h2
  ·rename_i hd
   simp only[hd,aaB,if_false,aat] at hc⊢
   obtain⟨x,h1,h2⟩:=hc
   exact⟨x,xk h _ _ _ _ _ _ h1,h2⟩
 |seq a b iha ihb=>
  intro fr σ r hc
  simp only[aK,iR] at hc⊢
  obtain⟨⟨e,aD,σ1⟩,h1,h2⟩:=hc
  refine⟨(e,aD,σ1),iha _ _ _ h1,?_⟩
  cases e with
  |normal=>exact ihb _ _ _ h2
  |exit i=>exact h2
  |ret=>exact h2
 |cond c a b iha ihb=>
  intro fr σ r hc
  simp only[aK,iR] at hc⊢
  obtain⟨t,h1,h2⟩:=hc
  refine⟨t,h1,?_⟩
  cases t with
  |true=>simp only[if_true] at h2⊢;exact iha _ _ _ h2
  |false=>simp only[aaB,if_false] at h2⊢;exact ihb _ _ _ h2
 |block id c ih=>
  intro fr σ r hc
  simp only[aK,aat] at hc⊢
  obtain⟨x,h1,h2⟩:=hc
  exact⟨x,ih _ _ _ h1,h2⟩
 |loop c ih=>
  intro fr σ r hc
  simp only[aK,iR] at hc⊢
  obtain⟨⟨e,aD,σ1⟩,h1,h2⟩:=hc
  refine⟨(e,aD,σ1),ih _ _ _ h1,?_⟩
  cases e with
  |normal=>exact h.1 _ _ _ _ h2
  |exit i=>exact h2
  |ret=>exact h2
 |rangeFunc f ps a b iha ihb=>
  intro fr σ r hc
  simp only[aK] at hc⊢
  split at hc
  ·rename_i hf
   rw[if_pos hf]
   simp only[iR] at hc⊢
   obtain⟨x,h1,h2⟩:=hc
   exact⟨x,LG h h1,h2⟩
  ·simp at hc
 |scope c ih=>intro fr σ r hc;simp only[aK] at hc⊢;exact ih _ _ _ hc
 |_=>intro fr σ r hc;simpa [aK] using hc
theorem VT (h:dX S T) {f:FuncId} {args:List V} {d:Nat} {σ:Sig} {r:V×Sig} (hc:gV E S f args d σ=some r):gV E T f args d σ=some r:=by
 simp only[gV,iR] at hc⊢
 obtain⟨fn,h1,c,h2,h3⟩:=hc
 refine⟨fn,h1,c,h2,?_⟩
 split at h3
 ·rename_i hok
  rw[if_pos hok]
  simp only[iR] at h3⊢
  obtain⟨x,h4,h5⟩:=h3
  exact⟨x,h.1 _ _ _ _ h4,h5⟩
 ·simp at h3
theorem VU:∀n,dX (evl E n) (evl E (n+1)):=by
 intro n
 induction n with
 |zero=>exact⟨(fun _ _ _ _ h=>by cases h),(fun _ _ _ _ _ h=>by cases h)⟩
 |succ n ih=>exact⟨fun c fr σ r h=>kU ih c fr σ r h,fun f args d σ r h=>VT ih h⟩
theorem dX.refl (S:bH):dX S S:=⟨fun _ _ _ _ h=>h,fun _ _ _ _ _ h=>h⟩
theorem dX.trans {S T U:bH} (h:dX S T) (g:dX T U):dX S U:=⟨fun _ _ _ _ x=>g.1 _ _ _ _ (h.1 _ _ _ _ x),fun _ _ _ _ _ x=>g.2 _ _ _ _ _ (h.2 _ _ _ _ _ x)⟩
theorem cK {n m:Nat} (h:n<=m):dX (evl E n) (evl E m):=by
 induction m with
 |zero=>obtain rfl:n=0:=by omega
        exact .refl _
 |succ m ih=>
  by_cases e:n=m+1
  ·subst e;exact .refl _
  ·exact(ih (by omega)).trans (VU m)
end
section
variable (E:Env)
def OW (all:List Oper) (st:Nat) (os:List Oper) (fr:Fr) (σ:Sig) (Q:Fr->Sig->Prop):Prop:=
 ∃n fr' σ',opsE E (evl E n) all st os fr σ=some (fr',σ')/\Q fr' σ'
def FW' (ms:List Nat) (all:List Oper) (st:Nat) (os:List Oper) (fr:Fr) (σ:Sig) (fs:List Foot) (Q:Fr->Sig->Prop):Prop:=
 ∃n fs' fr' σ',dZ E (evl E n) all st os fr σ=some (fs',fr',σ')/\pairsOK ms (fs++fs')=true/\Q fr' σ'
def CW (c:Code) (fr:Fr) (σ:Sig) (Q:Ex->Fr->Sig->Prop):Prop:=
 ∃n e fr' σ',aK E (evl E n) c fr σ=some (e,fr',σ')/\Q e fr' σ'
def Pure (f:FuncId) (args:List V) (v:V):Prop:=∃n,callPure E (evl E n) f args=some v
def Imp (f:FuncId) (args:List V) (d:Nat) (σ:Sig) (Q:V->Sig->Prop):Prop:=∃n v σ',(evl E n).call f args d σ=some (v,σ')/\Q v σ'
end
section
variable {E:Env} {fr:Fr} {σ:Sig}
theorem Pure.ok (hE:EnvOK E) {f:FuncId} {args:List V} {v:V} (h:Pure E f args v):PureOK E f args v:=h.elim fun _ h=>VP hE h
theorem OW.mono {all:List Oper} {st:Nat} {os:List Oper} {Q Q':Fr->Sig->Prop} (h:OW E all st os fr σ Q) (hq:∀fr σ,Q fr σ->Q' fr σ):OW E all st os fr σ Q':=
 let ⟨n,fr',σ',h1,h2⟩:=h;⟨n,fr',σ',h1,hq _ _ h2⟩
theorem CW.mono {c:Code} {Q Q':Ex->Fr->Sig->Prop} (h:CW E c fr σ Q) (hq:∀e fr σ,Q e fr σ->Q' e fr σ):CW E c fr σ Q':=
 let ⟨n,e,fr',σ',h1,h2⟩:=h;⟨n,e,fr',σ',h1,hq _ _ _ h2⟩
theorem OW.nil {all:List Oper} {st:Nat} {Q:Fr->Sig->Prop} (h:Q fr σ):OW E all st [] fr σ Q:=⟨0,fr,σ,rfl,h⟩
theorem OW.op {all:List Oper} {st:Nat} {o:Oper} {os:List Oper} {v:V} {σ1:Sig} {Q:Fr->Sig->Prop} (hw:aO all fr o=some true) (hop:∀S,opC E S fr σ st o=some (v,fr,σ1))
 (h:OW E all (st+1) os (fr.put o.dst v) σ1 Q):OW E all st (o::os) fr σ Q:=by
 obtain⟨n,fr',σ',h1,h2⟩:=h
 exact⟨n,fr',σ',by simp only[opsE,hw,Option.bind_some,if_true,hop,h1],h2⟩
theorem OW.skip {all:List Oper} {st:Nat} {o:Oper} {os:List Oper} {Q:Fr->Sig->Prop} (hw:aO all fr o=some false) (h:OW E all (st+1) os (fr.put o.dst undefV) σ Q):OW E all st (o::os) fr σ Q:=by
 obtain⟨n,fr',σ',h1,h2⟩:=h
 exact⟨n,fr',σ',by simp only[opsE,hw,Option.bind_some,aaB,if_false,h1],h2⟩
theorem FZ {d:Nat} {dst:Option Nat} {g:FuncId} {a b args as:List V} {v:V} {n:Nat} (hi:E.imp g=false) (has:(a++args++b).mapM (closeV 20 σ)=some as) (hp:callPure E (evl E n) g as=some v)
 (hc:((a++args++b).all (fun x=>pclean (er x))||flat v)=true):cu E (evl E n) d dst σ (.fn (.func g) a b) args=some (v,σ):=by
 unfold cu
 simp only[hi,aaB,if_false,has,Option.bind_some,hp,hc,if_true]
theorem kV {o:Oper} {f:Operand} {g:FuncId} {a b:List V} (hf:fr.ev E f= .fn (.func g) a b) (h:∀d,o.dst=some d->E.own g d=false):dJ E fr o f=false:=by
 unfold dJ
 rw[hf]
 cases hd:o.dst with
 |none=>rfl
 |some d=>exact h d hd
def gY (E:Env) (f:FuncId) (as:List V) (sz:Nat) (l:List V):Prop:=∃n v σ1,(evl E n).call f as 1 Sig.init=some (v,σ1)/\∀st σ,(∃c,(c= .nil\/c= .full)/\gT σ st σ1 v=some (.lst c l,σ))\/gT σ st σ1 v=some (.lst (.own sz st) l,σ.aI st l.length)
theorem gY.of {f:FuncId} {as:List V} {sz:Nat} {l:List V} {n:Nat} {c:Cap} {σ1:Sig} (h:(evl E n).call f as 1 Sig.init=some (.lst c l,σ1)) (hp:pcleanL l=true) (hc:c= .nil\/c= .full\/∃s,c= .own sz s/\σ1.top s=l.length):gY E f as sz l:=by
 refine⟨n,_,σ1,h,fun st σ=>?_⟩
 rcases hc with rfl|rfl| ⟨s,rfl,ht⟩
 ·exact .inl ⟨.nil,.inl rfl,by unfold gT;dsimp only;rw[if_pos hp]⟩
 ·exact .inl ⟨.full,.inr rfl,by unfold gT;dsimp only;rw[if_pos hp]⟩
 ·exact .inr (by unfold gT;dsimp only;rw[if_pos hp,if_pos ht])
theorem OW.own {all:List Oper} {st:Nat} {o:Oper} {os:List Oper} {Q:Fr->Sig->Prop} {c:Call} {f:Operand} {g:FuncId} {a b as l:List V} {d sz:Nat} (hw:aO all fr o=some true) (ho:o.op= .call c) (aQ:c.callee= .value f)
 (hf:fr.ev E f= .fn (.func g) a b) (hd:o.dst=some d) (hown:E.own g d=true) (has:iX (E.ownN g) σ (a++c.args.toList.map (fr.ev E)++b)=some as) (hp:gY E g as sz l)
 (hc:(a++c.args.toList.map (fr.ev E)++b).all (fun x=>pclean (er x))=true)
 (h1:∀c,c= .nil\/c= .full->OW E all (st+1) os (fr.put o.dst (.lst c l)) σ Q) (h2:OW E all (st+1) os (fr.put o.dst (.lst (.own sz st) l)) (σ.aI st l.length) Q):OW E all st (o::os) fr σ Q:=by
 obtain⟨m,v0,σ1,hm,hcp⟩:=hp
 have aN:dJ E fr o f=true:=by unfold dJ;rw[hf,hd];exact hown
 have go:∀(v:V) (σ2:Sig),gT σ st σ1 v0=some (v,σ2)->OW E all (st+1) os (fr.put o.dst v) σ2 Q->OW E all st (o::os) fr σ Q:=by
  rintro v σ2 hr ⟨n,fr',σ',g1,g2⟩
  have hm':=(cK (afh n m)).2 _ _ _ _ _ hm
  have g1':=xk (cK (afl n m)) _ _ _ _ _ _ g1
  refine⟨max n m,fr',σ',?_,g2⟩
  have hov:gU E (evl E (max n m)) σ st (.fn (.func g) a b) (c.args.toList.map (fr.ev E))=some (v,σ2):=by
   unfold gU
   dsimp only
   rw[if_pos hc,has,Option.bind_some,hm',Option.bind_some]
   exact hr
  simp only[opsE,hw,Option.bind_some,if_true,opC,ho,aQ,aN]
  rw[hf,hov]
  simp only[Option.map_some,Option.bind_some,g1']
 rcases hcp st σ with ⟨c,hc,hr⟩|hr
 ·exact go _ _ hr (h1 c hc)
 ·exact go _ _ hr h2
theorem OW.call {all:List Oper} {st:Nat} {o:Oper} {os:List Oper} {v:V} {Q:Fr->Sig->Prop} {c:Call} {f:Operand} {g:FuncId} {a b as:List V} (hw:aO all fr o=some true) (ho:o.op= .call c) (aQ:c.callee= .value f)
 (hf:fr.ev E f= .fn (.func g) a b) (hi:E.imp g=false) (has:(a++c.args.toList.map (fr.ev E)++b).mapM (closeV 20 σ)=some as) (hp:Pure E g as v)
 (hc:((a++c.args.toList.map (fr.ev E)++b).all (fun x=>pclean (er x))||flat v)=true) (h:OW E all (st+1) os (fr.put o.dst v) σ Q) (aN:∀d,o.dst=some d->E.own g d=false:=by intros;rfl):OW E all st (o::os) fr σ Q:=by
 obtain⟨n,fr',σ',h1,h2⟩:=h
 obtain⟨m,hm⟩:=hp
 have hm':=FX (cK (afh n m)) hm
 have h1':=xk (cK (afl n m)) _ _ _ _ _ _ h1
 refine⟨max n m,fr',σ',?_,h2⟩
 simp only[opsE,hw,Option.bind_some,if_true,opC,ho,aQ,kV hf aN,aaB,if_false,hf,FZ hi has hm' hc,Option.map_some,h1']
def fT (E:Env) (d:Nat) (dst:Option Nat):Option Loc:=(dst.map E.cn).map fun t=>(d,t)
theorem OW.mJ {all:List Oper} {st:Nat} {o:Oper} {os:List Oper} {Q:Fr->Sig->Prop} {c:Call} {f:Operand} {g:FuncId} {a b:List V} (hw:aO all fr o=some true) (ho:o.op= .call c) (aQ:c.callee= .value f)
 (hf:fr.ev E f= .fn (.func g) a b) (hi:E.imp g=true) (hp:Imp E g (a++c.args.toList.map (fr.ev E)++b) (fr.d+1) σ (fun v σ1=>OW E all (st+1) os (fr.put o.dst (bD (fT E fr.d o.dst) σ1 v).1) (bD (fT E fr.d o.dst) σ1 v).2 Q)) (aN:∀d,o.dst=some d->E.own g d=false:=by intros;rfl):OW E all st (o::os) fr σ Q:=by
 obtain⟨m,v,σ1,hm,n,fr',σ',h1,h2⟩:=hp
 have hm':=(cK (afh n m)).2 _ _ _ _ _ hm
 have h1':=xk (cK (afl n m)) _ _ _ _ _ _ h1
 refine⟨max n m,fr',σ',?_,h2⟩
 have:cu E (evl E (max n m)) fr.d (o.dst.map E.cn) σ (.fn (.func g) a b) (c.args.toList.map (fr.ev E))=some (bD (fT E fr.d o.dst) σ1 v):=by
  unfold cu;simp only[hi,if_true];rw[hm'];rfl
 simp only[opsE,hw,Option.bind_some,if_true,opC,ho,aQ,kV hf aN,aaB,if_false,hf,this,Option.map_some,h1']
theorem FW'.nil {ms:List Nat} {all:List Oper} {st:Nat} {fs:List Foot} {Q:Fr->Sig->Prop} (hp:pairsOK ms fs=true) (h:Q fr σ):FW' E ms all st [] fr σ fs Q:=⟨0,[],fr,σ,rfl,by simpa using hp,h⟩
theorem FW'.op {ms:List Nat} {all:List Oper} {st:Nat} {o:Oper} {os:List Oper} {v:V} {σ1:Sig} {fs:List Foot} {Q:Fr->Sig->Prop} (hw:aO all fr o=some true) (hop:∀S,opC E S fr σ st o=some (v,fr,σ1))
 (h:FW' E ms all (st+1) os (fr.put o.dst v) σ1 (fs++[footI E all fr o true]) Q):FW' E ms all st (o::os) fr σ fs Q:=by
 obtain⟨n,fs',fr',σ',h1,h2,h3⟩:=h
 exact⟨n,footI E all fr o true::fs',fr',σ',by simp only[dZ,hw,Option.bind_some,if_true,hop,h1,Option.map_some],by simpa using h2,h3⟩
theorem FW'.skip {ms:List Nat} {all:List Oper} {st:Nat} {o:Oper} {os:List Oper} {fs:List Foot} {Q:Fr->Sig->Prop} (hw:aO all fr o=some false)
 (h:FW' E ms all (st+1) os (fr.put o.dst undefV) σ (fs++[footI E all fr o false]) Q):FW' E ms all st (o::os) fr σ fs Q:=by
 obtain⟨n,fs',fr',σ',h1,h2,h3⟩:=h
 exact⟨n,footI E all fr o false::fs',fr',σ',by simp only[dZ,hw,Option.bind_some,aaB,if_false,h1,Option.map_some],by simpa using h2,h3⟩
theorem FW'.call {ms:List Nat} {all:List Oper} {st:Nat} {o:Oper} {os:List Oper} {v:V} {fs:List Foot} {Q:Fr->Sig->Prop} {c:Call} {f:Operand} {g:FuncId} {a b as:List V} (hw:aO all fr o=some true) (ho:o.op= .call c)
 (aQ:c.callee= .value f) (hf:fr.ev E f= .fn (.func g) a b) (hi:E.imp g=false) (has:(a++c.args.toList.map (fr.ev E)++b).mapM (closeV 20 σ)=some as) (hp:Pure E g as v)
 (hc:((a++c.args.toList.map (fr.ev E)++b).all (fun x=>pclean (er x))||flat v)=true) (h:FW' E ms all (st+1) os (fr.put o.dst v) σ (fs++[footI E all fr o true]) Q) (aN:∀d,o.dst=some d->E.own g d=false:=by intros;rfl):FW' E ms all st (o::os) fr σ fs Q:=by
 obtain⟨n,fs',fr',σ',h1,h2,h3⟩:=h
 obtain⟨m,hm⟩:=hp
 have hm':=FX (cK (afh n m)) hm
 have h1':=Bb (cK (afl n m)) _ _ _ _ _ _ h1
 refine⟨max n m,footI E all fr o true::fs',fr',σ',?_,by simpa using h2,h3⟩
 simp only[dZ,hw,Option.bind_some,if_true,opC,ho,aQ,kV hf aN,aaB,if_false,hf,FZ hi has hm' hc,Option.map_some,h1']
theorem FW'.own {ms:List Nat} {all:List Oper} {st:Nat} {o:Oper} {os:List Oper} {fs:List Foot} {Q:Fr->Sig->Prop} {c:Call} {f:Operand} {g:FuncId} {a b as l:List V} {d sz:Nat} (hw:aO all fr o=some true) (ho:o.op= .call c) (aQ:c.callee= .value f)
 (hf:fr.ev E f= .fn (.func g) a b) (hd:o.dst=some d) (hown:E.own g d=true) (has:iX (E.ownN g) σ (a++c.args.toList.map (fr.ev E)++b)=some as) (hp:gY E g as sz l)
 (hc:(a++c.args.toList.map (fr.ev E)++b).all (fun x=>pclean (er x))=true)
 (h1:∀c,c= .nil\/c= .full->FW' E ms all (st+1) os (fr.put o.dst (.lst c l)) σ (fs++[footI E all fr o true]) Q) (h2:FW' E ms all (st+1) os (fr.put o.dst (.lst (.own sz st) l)) (σ.aI st l.length) (fs++[footI E all fr o true]) Q):FW' E ms all st (o::os) fr σ fs Q:=by
 obtain⟨m,v0,σ1,hm,hcp⟩:=hp
 have aN:dJ E fr o f=true:=by unfold dJ;rw[hf,hd];exact hown
 have go:∀(v:V) (σ2:Sig),gT σ st σ1 v0=some (v,σ2)->FW' E ms all (st+1) os (fr.put o.dst v) σ2 (fs++[footI E all fr o true]) Q->FW' E ms all st (o::os) fr σ fs Q:=by
  rintro v σ2 hr ⟨n,fs',fr',σ',g1,g2,g3⟩
  have hm':=(cK (afh n m)).2 _ _ _ _ _ hm
  have g1':=Bb (cK (afl n m)) _ _ _ _ _ _ g1
  refine⟨max n m,footI E all fr o true::fs',fr',σ',?_,by simpa using g2,g3⟩
  have hov:gU E (evl E (max n m)) σ st (.fn (.func g) a b) (c.args.toList.map (fr.ev E))=some (v,σ2):=by
   unfold gU
   dsimp only
   rw[if_pos hc,has,Option.bind_some,hm',Option.bind_some]
   exact hr
  simp only[dZ,hw,Option.bind_some,if_true,opC,ho,aQ,aN]
  rw[hf,hov]
  simp only[Option.map_some,Option.bind_some,g1']
 rcases hcp st σ with ⟨c,hc,hr⟩|hr
 ·exact go _ _ hr (h1 c hc)
 ·exact go _ _ hr h2
theorem FW'.mJ {ms:List Nat} {all:List Oper} {st:Nat} {o:Oper} {os:List Oper} {fs:List Foot} {Q:Fr->Sig->Prop} {c:Call} {f:Operand} {g:FuncId} {a b:List V} (hw:aO all fr o=some true) (ho:o.op= .call c)
 (aQ:c.callee= .value f) (hf:fr.ev E f= .fn (.func g) a b) (hi:E.imp g=true)
 (hp:Imp E g (a++c.args.toList.map (fr.ev E)++b) (fr.d+1) σ (fun v σ1=>FW' E ms all (st+1) os (fr.put o.dst (bD (fT E fr.d o.dst) σ1 v).1) (bD (fT E fr.d o.dst) σ1 v).2 (fs++[footI E all fr o true]) Q)) (aN:∀d,o.dst=some d->E.own g d=false:=by intros;rfl):FW' E ms all st (o::os) fr σ fs Q:=by
 obtain⟨m,v,σ1,hm,n,fs',fr',σ',h1,h2,h3⟩:=hp
 have hm':=(cK (afh n m)).2 _ _ _ _ _ hm
 have h1':=Bb (cK (afl n m)) _ _ _ _ _ _ h1
 refine⟨max n m,footI E all fr o true::fs',fr',σ',?_,by simpa using h2,h3⟩
 have:cu E (evl E (max n m)) fr.d (o.dst.map E.cn) σ (.fn (.func g) a b) (c.args.toList.map (fr.ev E))=some (bD (fT E fr.d o.dst) σ1 v):=by
  unfold cu;simp only[hi,if_true];rw[hm'];rfl
 simp only[dZ,hw,Option.bind_some,if_true,opC,ho,aQ,kV hf aN,aaB,if_false,hf,this,Option.map_some,h1']
end
def Sig.bump (σ:Sig) (k:Nat):Sig:={σ with next:=σ.next+k}
section
variable {E:Env} {fr:Fr} {σ:Sig}
theorem CW.region {id:Nat} {ops:Array Oper} {Q:Ex->Fr->Sig->Prop} (h:OW E ops.toList σ.next ops.toList fr (σ.bump ops.toList.length) (fun fr σ=>Q .normal fr σ)):CW E (.region id ops false) fr σ Q:=by
 obtain⟨n,fr',σ',h1,h2⟩:=h
 exact⟨n,.normal,fr',σ',by simp only[aK,aaB,if_false];rw[show opsE E (evl E n) ops.toList σ.next ops.toList fr {σ with next:=σ.next+ops.toList.length}=some (fr',σ') from h1];rfl,h2⟩
theorem CW.draw {id:Nat} {ops:Array Oper} {Q:Ex->Fr->Sig->Prop} (he:edgesOK ops.toList=true)
 (h:FW' E (preM ops.toList) ops.toList σ.next ops.toList fr (σ.bump ops.toList.length) [] (fun fr σ=>Q .normal fr σ)):CW E (.region id ops true) fr σ Q:=by
 obtain⟨n,fs,fr',σ',h1,h2,h3⟩:=h
 refine⟨n,.normal,fr',σ',?_,h3⟩
 simp only[aK,if_true]
 rw[show dZ E (evl E n) ops.toList σ.next ops.toList fr {σ with next:=σ.next+ops.toList.length}=some (fs,fr',σ') from h1]
 simp only[Option.bind_some,he,Bool.true_and]
 rw[if_pos (by simpa using h2)]
def SeqQ (E:Env) (b:Code) (Q:Ex->Fr->Sig->Prop) (e:Ex) (fr:Fr) (σ:Sig):Prop:=match e with
 |.normal=>CW E b fr σ Q
 |e=>Q e fr σ
theorem CW.seq {a b:Code} {Q:Ex->Fr->Sig->Prop} (h:CW E a fr σ (SeqQ E b Q)):CW E (.seq a b) fr σ Q:=by
 obtain⟨n,e,aD,σ1,h1,h2⟩:=h
 cases e with
 |normal=>
  obtain⟨m,e,fr',σ',h3,h4⟩:=h2
  refine⟨max n m,e,fr',σ',?_,h4⟩
  simp only[aK,kU (cK (afl n m)) _ _ _ _ h1,Option.bind_some,kU (cK (afh n m)) _ _ _ _ h3]
 |exit i=>exact⟨n,.exit i,aD,σ1,by simp only[aK,h1,Option.bind_some],h2⟩
 |ret=>exact⟨n,.ret,aD,σ1,by simp only[aK,h1,Option.bind_some],h2⟩
theorem CW.skip {Q:Ex->Fr->Sig->Prop} (h:Q .normal fr σ):CW E .skip fr σ Q:=⟨0,.normal,fr,σ,rfl,h⟩
theorem CW.ret {Q:Ex->Fr->Sig->Prop} (h:Q .ret fr σ):CW E .ret fr σ Q:=⟨0,.ret,fr,σ,rfl,h⟩
theorem CW.exit {i:Nat} {Q:Ex->Fr->Sig->Prop} (h:Q (.exit i) fr σ):CW E (.exit i) fr σ Q:=⟨0,.exit i,fr,σ,rfl,h⟩
theorem CW.cond {c:Operand} {a b:Code} {t:Bool} {Q:Ex->Fr->Sig->Prop} (hc:fr.ev E c= .bool t) (ht:t=true->CW E a fr σ Q) (hf:t=false->CW E b fr σ Q):CW E (.cond c a b) fr σ Q:=by
 cases t with
 |true=>
  obtain⟨n,e,fr',σ',h1,h2⟩:=ht rfl
  exact⟨n,e,fr',σ',by simp only[aK,hc,jX,Option.bind_some,if_true,h1],h2⟩
 |false=>
  obtain⟨n,e,fr',σ',h1,h2⟩:=hf rfl
  exact⟨n,e,fr',σ',by simp only[aK,hc,jX,Option.bind_some,aaB,if_false,h1],h2⟩
def BlkQ (id:Nat) (Q:Ex->Fr->Sig->Prop) (e:Ex) (fr:Fr) (σ:Sig):Prop:=match e with
 |.exit i=>if i=id then Q .normal fr σ else Q (.exit i) fr σ
 |e=>Q e fr σ
theorem CW.block {id:Nat} {c:Code} {Q:Ex->Fr->Sig->Prop} (h:CW E c fr σ (BlkQ id Q)):CW E (.block id c) fr σ Q:=by
 obtain⟨n,e,fr',σ',h1,h2⟩:=h
 cases e with
 |normal=>exact⟨n,.normal,fr',σ',by simp only[aK,h1,Option.map_some],h2⟩
 |ret=>exact⟨n,.ret,fr',σ',by simp only[aK,h1,Option.map_some],h2⟩
 |exit i=>
  simp only[BlkQ] at h2
  split at h2
  ·rename_i hi
   exact⟨n,.normal,fr',σ',by simp only[aK,h1,Option.map_some,if_pos hi],h2⟩
  ·rename_i hi
   exact⟨n,.exit i,fr',σ',by simp only[aK,h1,Option.map_some,if_neg hi],h2⟩
theorem CW.scope {c:Code} {Q:Ex->Fr->Sig->Prop} (h:CW E c fr σ Q):CW E (.scope c) fr σ Q:=by
 obtain⟨n,e,fr',σ',h1,h2⟩:=h
 exact⟨n,e,fr',σ',by simp only[aK,h1],h2⟩
theorem CW.label {l:Nat} {Q:Ex->Fr->Sig->Prop} (h:Q .normal fr σ):CW E (.label l) fr σ Q:=⟨0,.normal,fr,σ,by simp only[aK],h⟩
def LoopQ (E:Env) (c:Code) (Q:Ex->Fr->Sig->Prop) (e:Ex) (fr:Fr) (σ:Sig):Prop:=match e with
 |.normal=>CW E (.loop c) fr σ Q
 |e=>Q e fr σ
theorem CW.loop {c:Code} {Q:Ex->Fr->Sig->Prop} (h:CW E c fr σ (LoopQ E c Q)):CW E (.loop c) fr σ Q:=by
 obtain⟨n,e,aD,σ1,h1,h2⟩:=h
 cases e with
 |normal=>
  obtain⟨m,e,fr',σ',h3,h4⟩:=h2
  refine⟨max n m+1,e,fr',σ',?_,h4⟩
  simp only[aK,kU (cK (show n<=max n m+1 by omega)) _ _ _ _ h1,Option.bind_some]
  exact kU (cK (afh n m)) _ _ _ _ h3
 |exit i=>exact⟨n,.exit i,aD,σ1,by simp only[aK,h1,Option.bind_some],h2⟩
 |ret=>exact⟨n,.ret,aD,σ1,by simp only[aK,h1,Option.bind_some],h2⟩
def RetQ (E:Env) (rs:List ResultVar) (R:V->Sig->Prop) (e:Ex) (fr:Fr) (σ:Sig):Prop:=match e with
 |.exit _=>False
 |_=>∃vs,rs.mapM (resV E fr σ)=some vs/\R (match vs with| [v]=>v|vs=>.tup vs) σ
theorem Imp.of {f:FuncId} {args:List V} {d:Nat} {fn:Func} {c:Code} {R:V->Sig->Prop} (hf:E.P.funcs[f]? =some fn) (hb:fn.body=some c) (hok:(decide (args.length<=fn.ntmps)&& bE fn.ntmps c)=true)
 (h:CW E c {d:=d,om:=E.om f,tm:=fun i=>args.getD i undefV} σ (RetQ E fn.results.toList R)):Imp E f args d σ R:=by
 obtain⟨n,e,fr',σ',h1,h2⟩:=h
 have hok':args.length<=fn.ntmps/\bE fn.ntmps c=true:=by simpa using hok
 have key:∀vs,fn.results.toList.mapM (resV E fr' σ')=some vs->(e= .normal\/e= .ret)->(evl E (n+2)).call f args d σ=some ((match vs with| [v]=>v|vs=>.tup vs),σ'):=by
  intro vs hvs he
  show gV E (evl E (n+1)) f args d σ=_
  have h3:(evl E (n+1)).code c {d:=d,om:=E.om f,tm:=fun i=>args.getD i undefV} σ=some (e,fr',σ'):=h1
  simp only[gV,hf,hb,Option.bind_some,if_pos hok',h3]
  rcases he with rfl|rfl<;>simp only[hvs,Option.map_some]<;>rcases vs with _| ⟨x,_| ⟨y,l⟩⟩<;>rfl
 cases e with
 |normal=>obtain⟨vs,h3,h4⟩:=h2;exact⟨n+2,_,σ',key vs h3 (.inl rfl),h4⟩
 |ret=>obtain⟨vs,h3,h4⟩:=h2;exact⟨n+2,_,σ',key vs h3 (.inr rfl),h4⟩
 |exit i=>exact h2.elim
theorem Pure.of {f:FuncId} {args:List V} {v:V} {fn:Func} {c:Code} (hs:E.summ f=none) (hf:E.P.funcs[f]? =some fn) (hb:fn.body=some c) (hok:(decide (args.length<=fn.ntmps)&& bE fn.ntmps c)=true)
 (h:CW E c {d:=1,om:=E.om f,tm:=fun i=>args.getD i undefV} Sig.init (RetQ E fn.results.toList (fun v0 σ=>closeV 20 σ v0=some v))):Pure E f args v:=by
 obtain⟨n,v0,σ',h1,h2⟩:=Imp.of hf hb hok h
 exact⟨n,by simp only[callPure,hs,h1,Option.bind_some,h2]⟩
theorem nS (fr:Fr) (d:Nat) (v:V):fr.put (some d) v=fr.set d v:=rfl
theorem Bc (fr:Fr) (v:V):fr.put none v=fr:=rfl
theorem LH (fr:Fr) (d:Nat) (v:V):(fr.set d v).tm d=v:=by simp[Fr.set,upd]
theorem xu (fr:Fr) {d t:Nat} (v:V) (h:(t==d)=false):(fr.set d v).tm t=fr.tm t:=by
 have h':¬t=d:=by simpa using h
 simp[Fr.set,upd,h']
theorem p8 (fr:Fr) (d:Nat) (v:V):(fr.set d v).d=fr.d:=rfl
theorem VW (fr:Fr) (d:Nat) (v:V):(fr.set d v).om=fr.om:=rfl
theorem sS (fr:Fr) (t:Nat):fr.ev E (.tmp t)=fr.tm t:=rfl
theorem LJ (fr:Fr) (v:Value):fr.ev E (.const v)=(ofValue v).getD (.raw v):=rfl
theorem LK (fr:Fr) (f:FuncId):fr.ev E (.func f)= .fn (.func f) [] []:=rfl
theorem VX (σ:Sig) (k:Nat):(σ.bump k).next=σ.next+k:=rfl
theorem VY (σ:Sig) (l:Aq.Loc) (s:Nat) (o:AObj):(σ.setObj l s o).next=σ.next:=rfl
theorem VZ (σ:Sig) (s n:Nat):(σ.aI s n).next=σ.next:=rfl
theorem sU (σ:Sig) (s n:Nat):(σ.aI s n).top s=n:=by simp[Sig.aI,upd]
theorem Bd (σ:Sig) {s t:Nat} (n:Nat) (h:t≠s):(σ.aI s n).top t=σ.top t:=by simp[Sig.aI,upd,h]
theorem V3 (σ:Sig) (k:Nat):(σ.bump k).top=σ.top:=rfl
theorem V4 (σ:Sig) (l:Aq.Loc) (s:Nat) (o:AObj):(σ.setObj l s o).top=σ.top:=rfl
theorem LM {l l':Aq.Loc} (h:gy l l'=false):¬l=l':=by
 rintro rfl
 simp[gy] at h
theorem F3 (a b c d:Nat):gy (a,b) (c,d)=(b==d&& a==c):=rfl
theorem cells_eq (σ:Sig) (l:Aq.Loc) (s:Nat) (cs:List V):(σ.setObj l s (.cells cs)).cellsAt l s=some cs:=by simp[Sig.setObj,Sig.cellsAt,upd]
theorem p9 (σ:Sig) {l l':Aq.Loc} (s s':Nat) (o:AObj) (h:gy l l'=false):(σ.setObj l' s' o).cellsAt l s=σ.cellsAt l s:=by
 have h':=LM h
 simp[Sig.setObj,Sig.cellsAt,upd,h']
theorem cells_bump (σ:Sig) (k:Nat) (l:Aq.Loc) (s:Nat):(σ.bump k).cellsAt l s=σ.cellsAt l s:=rfl
theorem V5 (σ:Sig) (t n:Nat) (l:Aq.Loc) (s:Nat):(σ.aI t n).cellsAt l s=σ.cellsAt l s:=rfl
theorem map_eq (σ:Sig) (l:Aq.Loc) (s:Nat) (ks vs:List V):(σ.setObj l s (.map ks vs)).bg l s=some (ks,vs):=by simp[Sig.setObj,Sig.bg,upd]
theorem LP (σ:Sig) {l l':Aq.Loc} (s s':Nat) (o:AObj) (h:gy l l'=false):(σ.setObj l' s' o).bg l s=σ.bg l s:=by
 have h':=LM h
 simp[Sig.setObj,Sig.bg,upd,h']
theorem V6 (σ:Sig) (k:Nat) (l:Aq.Loc) (s:Nat):(σ.bump k).bg l s=σ.bg l s:=rfl
theorem V7 (σ:Sig) (t n:Nat) (l:Aq.Loc) (s:Nat):(σ.aI t n).bg l s=σ.bg l s:=rfl
theorem gJ {a b c d:Nat} (h:b≠d):((a,b):Aq.Loc)≠(c,d):=fun e=>h (by cases e;rfl)
end
end Aq
end
section
namespace Aq
open Go
def Is {α:Type} (a b:α):Prop:=a=b
theorem Is.rfl {α:Type} {a:α}:Is a a:=Eq.refl a
def iv (n:Int):V:=.int .i64 n
def lv {α:Type} (f:α->V) (l:List α):V:=.lst .sh (l.map f)
theorem LU {α:Type} {f:α->V} (h:∀x,pclean (f x)=true):∀l:List α,pcleanL (l.map f)=true
 | []=>by simp[pcleanL]
 |a::l=>by simp[pcleanL,h a,LU h l]
theorem xw {α:Type} {f:α->V} (h:∀x,pclean (f x)=true) (l:List α):pclean (.lst .sh (l.map f))=true:=by
 simp only[pclean];exact LU h l
theorem pclean_lv {α:Type} {f:α->V} (h:∀x,pclean (f x)=true) (l:List α):pclean (lv f l)=true:=xw h l
theorem V8 (n:Int):pclean (iv n)=true:=by simp[iv,pclean]
theorem pclean_lstr (l:List (List UInt8)):pclean (lv V.str l)=true:=pclean_lv (fun _=>by simp[pclean]) l
theorem pclean_liv (l:List Int):pclean (lv iv l)=true:=pclean_lv V8 l
theorem pclean_lint (k:IntKind) (l:List Int):pclean (lv (V.int k) l)=true:=pclean_lv (fun _=>by simp[pclean]) l
theorem pclean_lbool (l:List Bool):pclean (lv V.bool l)=true:=pclean_lv (fun _=>by simp[pclean]) l
attribute [go_sem] pclean_lstr pclean_liv pclean_lint pclean_lbool
def idxL {α:Type} (l:List α) (i:Int):Option α:=if 0<=i/\i<l.length then l[i.toNat]? else none
def isSliceT (P:Program) (t:TypeId):Bool:=match P.underlying t with
 |some (.slice _)=>true
 |_=>false
def isStrT (P:Program) (t:TypeId):Bool:=match P.underlying t with
 |some .string=>true
 |_=>false
section
variable {E:Env} {fr:Fr} {σ:Sig}
def NQ (Q:Ex->Fr->Sig->Prop) (fr:Fr) (σ:Sig):Prop:=Q .normal fr σ
theorem NQ.i {Q:Ex->Fr->Sig->Prop} (h:Q .normal fr σ):NQ Q fr σ:=h
theorem SeqQ.n {b:Code} {Q:Ex->Fr->Sig->Prop} (h:CW E b fr σ Q):SeqQ E b Q .normal fr σ:=h
theorem SeqQ.r {b:Code} {Q:Ex->Fr->Sig->Prop} (h:Q .ret fr σ):SeqQ E b Q .ret fr σ:=h
theorem CW.drw {id:Nat} {l:List Oper} {Q:Ex->Fr->Sig->Prop} (h:∀k,FW' E (preM l) l σ.next l fr (σ.bump k) [] (NQ Q)) (he:edgesOK l=true:=by rfl):CW E (.region id l.toArray true) fr σ Q:=CW.draw (ops:=l.toArray) he (h _)
theorem CW.condT {c:Operand} {a b:Code} {Q:Ex->Fr->Sig->Prop} (hc:Is (fr.ev E c) (.bool true)) (h:CW E a fr σ Q):CW E (.cond c a b) fr σ Q:=CW.cond hc (fun _=>h) (fun h=>by cases h)
theorem CW.condF {c:Operand} {a b:Code} {Q:Ex->Fr->Sig->Prop} (hc:Is (fr.ev E c) (.bool false)) (h:CW E b fr σ Q):CW E (.cond c a b) fr σ Q:=CW.cond hc (fun h=>by cases h) (fun _=>h)
theorem OW.o1 {all:List Oper} {st:Nat} {d:Tmp} {op:Op} {ty:TypeId} {pos:String} {aG:Array Edge} {gd:Option (Nat×Bool)} {os:List Oper} {v:V} {σ1:Sig} {Q:Fr->Sig->Prop} (hw:Is (aO all fr ⟨some d,op,ty,pos,aG,gd⟩) (some true))
 (hop:∀S,Is (opC E S fr σ st ⟨some d,op,ty,pos,aG,gd⟩) (some (v,fr,σ1))) (h:OW E all (st+1) os (fr.set d v) σ1 Q):OW E all st (⟨some d,op,ty,pos,aG,gd⟩::os) fr σ Q:=OW.op hw hop h
theorem OW.o0 {all:List Oper} {st:Nat} {op:Op} {ty:TypeId} {pos:String} {aG:Array Edge} {gd:Option (Nat×Bool)} {os:List Oper} {v:V} {σ1:Sig} {Q:Fr->Sig->Prop} (hw:Is (aO all fr ⟨none,op,ty,pos,aG,gd⟩) (some true))
 (hop:∀S,Is (opC E S fr σ st ⟨none,op,ty,pos,aG,gd⟩) (some (v,fr,σ1))) (h:OW E all (st+1) os fr σ1 Q):OW E all st (⟨none,op,ty,pos,aG,gd⟩::os) fr σ Q:=OW.op hw hop h
theorem OW.s1 {all:List Oper} {st:Nat} {d:Tmp} {op:Op} {ty:TypeId} {pos:String} {aG:Array Edge} {gd:Option (Nat×Bool)} {os:List Oper} {Q:Fr->Sig->Prop} (hw:Is (aO all fr ⟨some d,op,ty,pos,aG,gd⟩) (some false))
 (h:OW E all (st+1) os (fr.set d undefV) σ Q):OW E all st (⟨some d,op,ty,pos,aG,gd⟩::os) fr σ Q:=OW.skip hw h
theorem FW'.o1 {ms:List Nat} {all:List Oper} {st:Nat} {d:Tmp} {op:Op} {ty:TypeId} {pos:String} {aG:Array Edge} {gd:Option (Nat×Bool)} {os:List Oper} {v:V} {σ1:Sig} {fs:List Foot} {f:Foot} {Q:Fr->Sig->Prop} (hw:Is (aO all fr ⟨some d,op,ty,pos,aG,gd⟩) (some true))
 (hop:∀S,Is (opC E S fr σ st ⟨some d,op,ty,pos,aG,gd⟩) (some (v,fr,σ1))) (hf:Is (footI E all fr ⟨some d,op,ty,pos,aG,gd⟩ true) f) (h:FW' E ms all (st+1) os (fr.set d v) σ1 (fs++[f]) Q):FW' E ms all st (⟨some d,op,ty,pos,aG,gd⟩::os) fr σ fs Q:=
 FW'.op hw hop (by rw[hf];exact h)
theorem FW'.o0 {ms:List Nat} {all:List Oper} {st:Nat} {op:Op} {ty:TypeId} {pos:String} {aG:Array Edge} {gd:Option (Nat×Bool)} {os:List Oper} {v:V} {σ1:Sig} {fs:List Foot} {f:Foot} {Q:Fr->Sig->Prop} (hw:Is (aO all fr ⟨none,op,ty,pos,aG,gd⟩) (some true))
 (hop:∀S,Is (opC E S fr σ st ⟨none,op,ty,pos,aG,gd⟩) (some (v,fr,σ1))) (hf:Is (footI E all fr ⟨none,op,ty,pos,aG,gd⟩ true) f) (h:FW' E ms all (st+1) os fr σ1 (fs++[f]) Q):FW' E ms all st (⟨none,op,ty,pos,aG,gd⟩::os) fr σ fs Q:=
 FW'.op hw hop (by rw[hf];exact h)
theorem OW.callP {all:List Oper} {st:Nat} {d:Option Tmp} {f:Operand} {args:Array Operand} {tys:Array TypeId} {ty:TypeId} {pos:String} {aG:Array Edge} {gd:Option (Nat×Bool)} {os:List Oper} {Q:Fr->Sig->Prop} {g:FuncId} {a b as:List V} {v:V}
 (hp:Pure E g as v) (hf:Is (fr.ev E f) (.fn (.func g) a b)) (has:Is ((a++args.toList.map (fr.ev E)++b).mapM (closeV 20 σ)) (some as)) (hc:Is ((a++args.toList.map (fr.ev E)++b).all (fun x=>pclean (er x))||flat v) true)
 (hw:Is (aO all fr ⟨d,.call ⟨.value f,args,tys⟩,ty,pos,aG,gd⟩) (some true)) (h:OW E all (st+1) os (fr.put d v) σ Q) (hi:E.imp g=false:=by rfl) (aN:∀d',d=some d'->E.own g d'=false:=by intros;rfl):OW E all st (⟨d,.call ⟨.value f,args,tys⟩,ty,pos,aG,gd⟩::os) fr σ Q:=
 OW.call hw rfl rfl hf hi has hp hc h aN
theorem FW'.callP {ms:List Nat} {fs:List Foot} {ft:Foot} {all:List Oper} {st:Nat} {d:Option Tmp} {f:Operand} {args:Array Operand} {tys:Array TypeId} {ty:TypeId} {pos:String} {aG:Array Edge} {gd:Option (Nat×Bool)} {os:List Oper} {Q:Fr->Sig->Prop} {g:FuncId} {a b as:List V} {v:V}
 (hp:Pure E g as v) (hf:Is (fr.ev E f) (.fn (.func g) a b)) (has:Is ((a++args.toList.map (fr.ev E)++b).mapM (closeV 20 σ)) (some as)) (hc:Is ((a++args.toList.map (fr.ev E)++b).all (fun x=>pclean (er x))||flat v) true)
 (hw:Is (aO all fr ⟨d,.call ⟨.value f,args,tys⟩,ty,pos,aG,gd⟩) (some true)) (hft:Is (footI E all fr ⟨d,.call ⟨.value f,args,tys⟩,ty,pos,aG,gd⟩ true) ft) (h:FW' E ms all (st+1) os (fr.put d v) σ (fs++[ft]) Q)
 (hi:E.imp g=false:=by rfl) (aN:∀d',d=some d'->E.own g d'=false:=by intros;rfl):FW' E ms all st (⟨d,.call ⟨.value f,args,tys⟩,ty,pos,aG,gd⟩::os) fr σ fs Q:=
 FW'.call hw rfl rfl hf hi has hp hc (by rw[hft];exact h) aN
theorem RetQ.one {r:ResultVar} {e:Ex} {v0:V} {R:V->Sig->Prop} (he:∀i,e≠ .exit i) (hv:Is (resV E fr σ r) (some v0)) (hr:R v0 σ):RetQ E [r] R e fr σ:=by
 have h1:[r].mapM (resV E fr σ)=some [v0]:=by rw[aew,hv];rfl
 cases e with
 |exit i=>exact absurd rfl (he i)
 |normal=>exact⟨[v0],h1,hr⟩
 |ret=>exact⟨[v0],h1,hr⟩
theorem RetQ.tup {rs:List ResultVar} {e:Ex} {v1 v2:V} {vs:List V} {R:V->Sig->Prop} (he:∀i,e≠ .exit i) (hv:Is (rs.mapM (resV E fr σ)) (some (v1::v2::vs))) (hr:R (.tup (v1::v2::vs)) σ):RetQ E rs R e fr σ:=by
 cases e with
 |exit i=>exact absurd rfl (he i)
 |normal=>exact⟨_,hv,hr⟩
 |ret=>exact⟨_,hv,hr⟩
theorem Pure.of' {f:FuncId} {args:List V} {v:V} {fn:Func} {c:Code} (rs:List ResultVar) (hf:E.P.funcs[f]? =some fn) (hb:fn.body=some c)
 (h:∀fr σ,fr.d=1->fr.om=E.om f->(∀i,fr.tm i=args.getD i undefV)->CW E c fr σ (RetQ E rs (fun v0 σ=>closeV 20 σ v0=some v))) (hrs:fn.results.toList=rs:=by rfl) (hok:(decide (args.length<=fn.ntmps)&& bE fn.ntmps c)=true:=by rfl) (hs:E.summ f=none:=by rfl):Pure E f args v:=
 Pure.of hs hf hb hok (by rw[hrs];exact h _ _ rfl rfl (fun _=>rfl))
theorem closeV_clean {n:Nat} {x:V} (h:pclean x=true):closeV (n+1) σ x=some x:=by unfold closeV;simp only[h,if_true]
theorem F4 (n:Nat) (k:IntKind) (i:Int):closeV (n+1) σ (.int k i)=some (.int k i):=closeV_clean (by simp[pclean])
theorem F5 (n:Nat) (b:Bool):closeV (n+1) σ (.bool b)=some (.bool b):=closeV_clean (by simp[pclean])
theorem F6 (n:Nat) (s:List UInt8):closeV (n+1) σ (.str s)=some (.str s):=closeV_clean (by simp[pclean])
theorem ko {n:Nat} {α:Type} {f:α->V} (c:Cap) (l:List α) (h:∀x,pclean (f x)=true):closeV (n+2) σ (.lst c (l.map f))=some (lv f l):=by
 by_cases hp:pclean (.lst c (l.map f))=true
 ·rw[closeV_clean hp]
  cases c<;>simp only[pclean,aaB] at hp
  rfl
 ·unfold closeV
  simp only[hp,if_false,aaB]
  have:(l.map f).mapM (closeV (n+1) σ)=some (l.map f):=by
   induction l with
   |nil=>simp
   |cons a l ih=>simp[h a,closeV_clean,ih (by cases c<;>simp_all[pclean,pcleanL])]
  rw[this];rfl
theorem V9 (k:IntKind) (i:Int):er (.int k i)= .int k i:=rfl
theorem Wd (b:Bool):er (.bool b)= .bool b:=rfl
theorem Wh (s:List UInt8):er (.str s)= .str s:=rfl
theorem Wi {α:Type} (f:α->V) (l:List α):er (lv f l)=lv f l:=rfl
theorem Wj (c:Cap) (l:List V):er (.lst c l)= .lst .sh l:=rfl
theorem Wm (n:Int):iv n= .int .i64 n:=rfl
theorem F7 (k:IntKind) (i:Int):pclean (.int k i)=true:=by simp[pclean]
theorem F8 (b:Bool):pclean (.bool b)=true:=by simp[pclean]
theorem LV (s:List UInt8):pclean (.str s)=true:=by simp[pclean]
theorem F9 {P:Program} {α:Type} {t:TypeId} {c:Cap} {l:List α} {f:α->V} {k:IntKind} {i:Int}:
 indexAddrV P t (.lst c (l.map f)) (.int k i)=if isSliceT P t then (elemT P t).bind fun e=>(szT P e).bind fun sz=>(idxL l i).bind fun x=>if (f x).cells.length=sz then some (.cref (f x).cells 0) else none else none:=by
 unfold indexAddrV isSliceT elemT
 cases hu:P.underlying t with
 |none=>rfl
 |some u=>
  cases u<;>try rfl
  rename_i e
  simp only[if_true,Option.bind_some]
  cases szT P e with
  |none=>rfl
  |some sz=>
   simp only[Option.bind_some,idx,dP,ab3,idxL]
   split
   ·rename_i h
    simp only[Option.bind_some,List.getElem?_map]
    cases l[i.toNat]? with
    |none=>rfl
    |some x=>rfl
   ·rfl
theorem Wn {P:Program} {t:TypeId} {v:V} (h1:isAggT P t=some false) (h2:szT P t=some 1):ldT P t [v] 0=some v:=by simp[ldT,h1,h2,gu]
theorem Wo {t:TypeId} (c:Cap) (l:List V) (h:isSliceT E.P t=true):iW E σ t (.lst c l)=some l.length:=by
 unfold isSliceT at h;unfold iW
 split at h
 ·rename_i e he;rw[he]
 ·simp at h
end
section
variable {E:Env} {S:bH} {fr:Fr} {σ:Sig} {st:Nat} {d:Option Tmp} {ty:TypeId} {pos:String} {aG:Array Edge} {gd:Option (Nat×Bool)}
theorem Wp (all:List Oper) (op:Op):aO all fr ⟨d,op,ty,pos,aG,none⟩=some true:=rfl
def Ga (want:Bool):V->Option Bool
 |.bool b=>some (b==want)
 |.raw _=>none
 |_=>some false
theorem Wq (w b:Bool):Ga w (.bool b)=some (b==w):=rfl
theorem Ws (w:Bool):Ga w undefV=some false:=rfl
theorem Wt (all:List Oper) (op:Op) (j:Nat) (want:Bool):aO all fr ⟨d,op,ty,pos,aG,some (j,want)⟩=match (all[j]?).bind (·.dst) with
 |some t=>Ga want (fr.tm t)
 |none=>some false:=by
 simp only[aO]
 cases (all[j]?).bind (·.dst) with
 |none=>rfl
 |some t=>simp only;cases fr.tm t<;>rfl
theorem Wu (cs:List V):V.cells (.agg cs)=cs:=rfl
theorem Wv (k:IntKind) (n:Int):V.cells (.int k n)=[.int k n]:=rfl
theorem Ww (k:IntKind) (n:Int):notRaw (.int k n)=true:=rfl
theorem Wx (b:Bool):V.cells (.bool b)=[.bool b]:=rfl
theorem Wy (b:Bool):notRaw (.bool b)=true:=rfl
theorem Wz (s:List UInt8):V.cells (.str s)=[.str s]:=rfl
theorem WA (s:List UInt8):notRaw (.str s)=true:=rfl
theorem WB (c:Cap) (l:List V):V.cells (.lst c l)=[.lst c l]:=rfl
theorem WC (c:Cap) (l:List V):notRaw (.lst c l)=true:=rfl
theorem WE (l:Aq.Loc) (s o:Nat):V.cells (.ref l s o)=[.ref l s o]:=rfl
theorem WG (l:Aq.Loc) (s o:Nat):notRaw (.ref l s o)=true:=rfl
theorem WH (cs:List V) (o:Nat):V.cells (.cref cs o)=[.cref cs o]:=rfl
theorem WI (cs:List V) (o:Nat):notRaw (.cref cs o)=true:=rfl
theorem WJ (f:Fn) (a b:List V):V.cells (.fn f a b)=[.fn f a b]:=rfl
theorem WK (f:Fn) (a b:List V):notRaw (.fn f a b)=true:=rfl
theorem WL {α:Type} (f:α->V) (l:List α):V.cells (lv f l)=[lv f l]:=rfl
theorem WM:oneCells []=true:=rfl
theorem LW (x:V) (l:List V):oneCells (x::l)=(oneCell x&& oneCells l):=rfl
theorem WO (k:IntKind) (n:Int):oneCell (.int k n)=true:=rfl
theorem WQ (b:Bool):oneCell (.bool b)=true:=rfl
theorem WR (s:List UInt8):oneCell (.str s)=true:=rfl
theorem WS {α:Type} (f:α->V) (l:List α):oneCell (lv f l)=true:=rfl
theorem WT (c:Cap) (l:List V):oneCell (.lst c l)=true:=rfl
theorem WU (l:Aq.Loc) (s o:Nat):oneCell (.ref l s o)=true:=rfl
theorem WV (cs:List V) (o:Nat):oneCell (.cref cs o)=true:=rfl
theorem WW (cs:List V):notRaw (.agg cs)=true:=rfl
theorem WX {α:Type} (f:α->V) (l:List α):notRaw (lv f l)=true:=rfl
theorem WY (x:Operand) (h:fzM E d=false):opC E S fr σ st ⟨d,.move x,ty,pos,aG,gd⟩=some (fr.ev E x,fr,σ):=by
 show Option.map _ (if fzM E d=true then jY σ (fr.ev E x) else some (fr.ev E x,σ))=_
 rw[if_neg (by rw[h];simp)];rfl
theorem WZ (x:Operand):opC E S fr σ st ⟨d,.assign x,ty,pos,aG,gd⟩=some (fr.ev E x,fr,σ):=rfl
theorem kr (c a b:Operand) (h:fr.ev E c= .bool true):opC E S fr σ st ⟨d,.pick c a b,ty,pos,aG,gd⟩=some (fr.ev E a,fr,σ):=by
 simp only[opC,opV,h,jX,Option.map_some,if_true]
theorem iH (c a b:Operand) (h:fr.ev E c= .bool false):opC E S fr σ st ⟨d,.pick c a b,ty,pos,aG,gd⟩=some (fr.ev E b,fr,σ):=by
 simp only[opC,opV,h,jX,Option.map_some,aaB,if_false]
theorem LX (op:BinOp) (t u:TypeId) (x y:Operand):opC E S fr σ st ⟨d,.binOp op t x y u,ty,pos,aG,gd⟩=(gP E.P op t (fr.ev E x) (fr.ev E y)).map fun v=>(v,fr,σ):=by
 simp only[opC,opV];cases gP E.P op t (fr.ev E x) (fr.ev E y)<;>rfl
theorem W9 (op:UnOp) (t:TypeId) (x:Operand):opC E S fr σ st ⟨d,.unOp op t x,ty,pos,aG,gd⟩=(pE op (fr.ev E x)).map fun v=>(v,fr,σ):=by
 simp only[opC,opV];cases pE op (fr.ev E x)<;>rfl
theorem Xa (t:TypeId) (x:Operand) (f:Nat):opC E S fr σ st ⟨d,.fieldAddr t x f,ty,pos,aG,gd⟩=(fieldT E.P t f).bind fun p=>match fr.ev E x with
 |.ref loc s off=>some (.ref loc s (off+p.1),fr,σ)
 |.cref cs off=>some (.cref cs (off+p.1),fr,σ)
 |_=>none:=by
 simp only[opC,opV]
 cases fieldT E.P t f with
 |none=>rfl
 |some p=>obtain⟨o,u⟩:=p;simp only[Option.bind_some];cases fr.ev E x<;>rfl
theorem Xb (t:TypeId) (x:Operand):opC E S fr σ st ⟨d,.load t x,ty,pos,aG,gd⟩=(match fr.ev E x with
 |.ref loc s off=>(σ.cellsAt loc s).bind fun cs=>(ldT E.P t cs off).map fun v=>(v,fr,σ)
 |.cref cs off=>(ldT E.P t cs off).map fun v=>(v,fr,σ)
 |_=>none):=by
 simp only[opC,opV]
 cases fr.ev E x with
 |ref loc s off=>
  simp only
  cases σ.cellsAt loc s with
  |none=>rfl
  |some cs=>simp only[Option.bind_some];cases ldT E.P t cs off<;>rfl
 |cref cs off=>simp only;cases ldT E.P t cs off<;>rfl
 |_=>rfl
theorem Xc (t:TypeId) (x:Operand) (i:Nat):opC E S fr σ st ⟨some i,.box t x,ty,pos,aG,gd⟩=if frzB E t (some i)=true then (if pclean (er (fr.ev E x))=true/\notRaw (fr.ev E x)=true then some (.cref (er (fr.ev E x)).cells 0,fr,σ) else none) else if oneCells (fr.ev E x).cells/\notRaw (fr.ev E x) then some (.ref (fr.d,i) st 0,fr,σ.setObj (fr.d,i) st (.cells (fr.ev E x).cells)) else none:=by
 show Option.map _ (if frzB E t (some i)=true then _ else (some (fr.d,i)).bind _)=_
 by_cases hz:frzB E t (some i)=true
 ·simp only[hz,if_true]
  split<;>rfl
 ·simp only[hz,aaB,if_false,Option.bind_some]
  split<;>rfl
theorem Xd (t:TypeId) (i:Nat):opC E S fr σ st ⟨some i,.alloc t,ty,pos,aG,gd⟩=(zeroT E.P t).bind fun z=>if oneCells z.cells then some (.ref (fr.d,i) st 0,fr,σ.setObj (fr.d,i) st (.cells z.cells)) else none:=by
 simp only[opC,opV,Option.map_some,Option.bind_some]
 cases zeroT E.P t with
 |none=>rfl
 |some z=>simp only[Option.bind_some];split<;>rfl
theorem Xe (t:TypeId) (a x:Operand):opC E S fr σ st ⟨d,.store t a x,ty,pos,aG,gd⟩=(match fr.ev E a with
 |.ref loc s off=>(σ.cellsAt loc s).bind fun cs=>
  if some (fr.ev E x).cells.length=szT E.P t/\off+(fr.ev E x).cells.length<=cs.length/\oneCells (fr.ev E x).cells then some (undefV,fr,σ.setObj loc s (.cells (spliceL cs off (fr.ev E x).cells))) else none
 |_=>none):=by
 simp only[opC,opV]
 cases fr.ev E a with
 |ref loc s off=>
  simp only
  cases σ.cellsAt loc s with
  |none=>rfl
  |some cs=>simp only[Option.bind_some];split<;>rfl
 |_=>rfl
theorem Xf (t:TypeId) (x i:Operand):opC E S fr σ st ⟨d,.indexAddr t x i,ty,pos,aG,gd⟩=(indexAddrV E.P t (fr.ev E x) (fr.ev E i)).map fun v=>(v,fr,σ):=by
 simp only[opC,opV];cases indexAddrV E.P t (fr.ev E x) (fr.ev E i)<;>rfl
theorem Xg (x:Operand) (i:Nat):opC E S fr σ st ⟨d,.extract x i,ty,pos,aG,gd⟩=(match fr.ev E x with
 |.tup vs=>(vs[i]?).map fun v=>(v,fr,σ)
 |_=>none):=by
 simp only[opC,opV]
 cases fr.ev E x with
 |tup vs=>simp only;cases vs[i]? <;>rfl
 |_=>rfl
theorem Xh (x:Operand) (t:TypeId):opC E S fr σ st ⟨d,.call ⟨.builtin .len, #[x], #[t]⟩,ty,pos,aG,gd⟩=(iW E σ t (fr.ev E x)).map fun n=>(.int .i64 (n:Nat),fr,σ):=by
 show (Option.map _ (((#[t]:Array TypeId)[0]?).bind fun t=>(iW E σ t (fr.ev E x)).map fun n=>(V.int .i64 (n:Nat),σ)))=_
 rw[show (#[t]:Array TypeId)[0]? =some t from rfl,Option.bind_some]
 cases iW E σ t (fr.ev E x)<;>rfl
end
attribute [go_sem] aaB gP dO nH pE decide_true decide_false List.getElem?_cons_succ List.getElem?_cons_zero beq_true beq_false Bool.not_true Bool.not_false F3 Bool.false_and Bool.and_false Bool.true_and Bool.and_true Wp Wt Wq Ws WY WZ kr iH LX W9 Xa Xb Xc Xd Xe Xf Xg Xh sS LJ LK LH xu nS Bc p8 VW VX VY VZ cells_eq p9 cells_bump V5 map_eq LP V6 V7 gJ sU Bd V3 V4 Wm Wn Wo F9 ab3 F4 F5 F6 V9 Wd Wh Wi Wj F7 F8 LV Option.bind_some Option.map_some Option.getD_some jX ofValue dx if_true if_false Wu Wv Wx Wz WL WB WE WH WJ Ww Wy WA WC WG WI WK WM LW WO WQ WR WS WT WU WV WW WX and_self and_true true_and
end Aq
end
section
namespace Aq
open Go
def kX:Code->List Nat->Option Code
 |c,[]=>some c
 |.seq a b,i::l=>if i=0 then kX a l else kX b l
 |.cond _ a b,i::l=>if i=0 then kX a l else kX b l
 |.block _ a,_::l=>kX a l
 |.loop a,_::l=>kX a l
 |.scope a,_::l=>kX a l
 |.rangeFunc _ _ a b,i::l=>if i=0 then kX a l else kX b l
 |_,_=>none
def subO (b:Option Code) (l:List Nat):Option Code:=b.bind fun c=>kX c l
section
variable {E:Env} {fr:Fr} {σ:Sig}
def Bf (E:Env) (c:Code) (fr:Fr) (σ:Sig) (Q:Ex->Fr->Sig->Prop):Prop:=CW E (.loop c) fr σ Q
theorem CW.lp {c:Code} {Q:Ex->Fr->Sig->Prop} (h:Bf E c fr σ Q):CW E (.loop c) fr σ Q:=h
def xA:Code->Nat
 |.region i _ _=>i
 |.seq a _=>xA a
 |.loop a=>xA a
 |.scope a=>xA a
 |.block _ a=>xA a
 |_=>0
theorem Bf.at (k:Nat) {c:Code} {Q:Ex->Fr->Sig->Prop} (_h:Is (xA c) k) (h:Bf E c fr σ Q):Bf E c fr σ Q:=h
theorem LY {n:Nat} (cs:List V):closeV (n+2) σ (.agg cs)=(cs.mapM (closeV (n+1) σ)).map .agg:=by
 by_cases hp:pclean (.agg cs)=true
 ·rw[closeV_clean hp]
  have:∀cs:List V,pcleanL cs=true->cs.mapM (closeV (n+1) σ)=some cs:=by
   intro cs
   induction cs with
   |nil=>intro _;rfl
   |cons a l ih=>
    intro h
    simp only[pcleanL,RS] at h
    rw[aew,closeV_clean h.1,ih h.2];rfl
  rw[this cs (by simpa [pclean] using hp)];rfl
 ·conv=>lhs;unfold closeV
  simp only[hp,if_false,aaB]
theorem Bg {n:Nat} (cs:List V):closeV (n+2) σ (.tup cs)=(cs.mapM (closeV (n+1) σ)).map .tup:=by
 by_cases hp:pclean (.tup cs)=true
 ·rw[closeV_clean hp]
  have:∀cs:List V,pcleanL cs=true->cs.mapM (closeV (n+1) σ)=some cs:=by
   intro cs
   induction cs with
   |nil=>intro _;rfl
   |cons a l ih=>
    intro h
    simp only[pcleanL,RS] at h
    rw[aew,closeV_clean h.1,ih h.2];rfl
  rw[this cs (by simpa [pclean] using hp)];rfl
 ·conv=>lhs;unfold closeV
  simp only[hp,if_false,aaB]
theorem CW.LZ {id:Nat} {l:List Oper} {Q:Ex->Fr->Sig->Prop} (h:∀k,k=l.length->FW' E (preM l) l σ.next l fr (σ.bump k) [] (NQ Q)) (he:edgesOK l=true:=by rfl):CW E (.region id l.toArray true) fr σ Q:=CW.draw (ops:=l.toArray) he (h _ rfl)
def Bh (sz:Nat) (σ:Sig) (c:Cap) (n:Nat):Prop:=c= .nil\/∃s,c= .own sz s/\σ.top s=n/\s<σ.next
theorem Xi {s n:Nat} (h:s<n):(s==n)=false:=by simp;omega
theorem Xj {s n:Nat} (h:s<n):(n==s)=false:=by simp;omega
end
def nT (P:Program) (σ:Sig) (st:Nat) (t u:TypeId) (x y:V):Option (V×Sig):=
 match P.underlying u with
 |some (.int _)=>dD P false true σ st none t x y
 |some (.slice _)|some .string=>dD P false false σ st none t x y
 |_=>none
theorem Xk {P:Program} {z:Bool} {σ:Sig} {st:Nat} {loc:Option Loc} {t:TypeId} {c:Cap} {l:List V} {y:V}:dD P false z σ st loc t (.lst c l) y=dD P false z σ st none t (.lst c l) y:=by
 unfold dD
 cases elemT P t with
 |none=>rfl
 |some e=>cases c<;>rfl
section
variable {E:Env} {S:bH} {fr:Fr} {σ:Sig} {st:Nat} {d:Option Tmp} {ty:TypeId} {pos:String} {aG:Array Edge} {gd:Option (Nat×Bool)}
theorem Gb {t u:TypeId} {x y:Operand} {c:Cap} {l:List V} (ho:fr.om=false) (hx:fr.ev E x= .lst c l):opC E S fr σ st ⟨d,.call ⟨.builtin .append, #[x,y], #[t,u]⟩,ty,pos,aG,gd⟩=(nT E.P σ st t u (.lst c l) (fr.ev E y)).map fun p=>(p.1,fr,p.2):=by
 show Option.map _ ((((#[t,u]:Array TypeId)[0]?).bind fun t=>(((#[t,u]:Array TypeId)[1]?).bind E.P.underlying).bind fun u=>match u with
  |.int _=>dD E.P fr.om true σ st (d.map fun t=>(fr.d,E.cn t)) t (fr.ev E x) (fr.ev E y)
  |.slice _|.string=>dD E.P fr.om false σ st (d.map fun t=>(fr.d,E.cn t)) t (fr.ev E x) (fr.ev E y)
  |_=>none))=_
 show Option.map _ ((E.P.underlying u).bind _)=_
 rw[ho,hx]
 unfold nT
 cases E.P.underlying u with
 |none=>rfl
 |some u=>
  cases u<;>try rfl
  all_goals (simp only[Option.bind_some];rw[Xk];first|rfl| (generalize dD _ _ _ _ _ _ _ _ _=o;cases o<;>rfl))
end
def qb (P:Program) (t u:TypeId) (sz by_:Nat) (z:V):Prop:=∃e ag,elemT P t=some e/\szT P e=some sz/\bytesT P e=some by_/\isAggT P e=some ag/\zeroT P e=some z/\z.cells.length=sz/\0<sz/\(ag||sz==1)=true/\isSliceT P u=true
theorem qb.mk {P:Program} {t u:TypeId} {sz by_:Nat} {z:V} (e:TypeId) (ag:Bool) (h1:elemT P t=some e) (h2:szT P e=some sz) (h3:bytesT P e=some by_) (h4:isAggT P e=some ag) (h5:zeroT P e=some z)
 (h6:z.cells.length=sz) (h7:0<sz) (h8:(ag||sz==1)=true) (h9:isSliceT P u=true):qb P t u sz by_ z:=⟨e,ag,h1,h2,h3,h4,h5,h6,h7,h8,h9⟩
def jK (sz:Nat) (l:List V):Bool:=l.all fun v=>v.cells.length==sz&& oneCells v.cells
theorem Xl {α:Type} {f:α->V} {sz:Nat} (h:∀x,(f x).cells.length=sz/\oneCells (f x).cells=true) (l:List α):jK sz (l.map f)=true:=by
 simp[jK,h]
theorem nU {sz:Nat} {l:List V} (h:jK sz l=true):eF sz l=true:=by
 cases l with
 |nil=>rfl
 |cons a l=>simp[jK] at h;simp[eF,h.1.1]
theorem Xm {sz:Nat} {l:List V} (h:jK sz l=true):l.all (fun v=>oneCells v.cells)=true:=by
 simp[jK] at h;simpa using fun x hx=>(h x hx).2
theorem L6 {P:Program} {σ:Sig} {st t u sz by_:Nat} {z:V} {x:V} {c2:Cap} {ys:List V} (ha:qb P t u sz by_ z) (hy:jK sz ys=true):
 nT P σ st t u x (.lst c2 ys)=match x with
 |.lst c l=>if roomOK (l.length+ys.length) by_=true/\eF sz l=true then
  match c with
  |.own n s=>if n=sz/\σ.top s=l.length then some (.lst (.own n s) (l++ys),σ.aI s (l.length+ys.length)) else none
  |.nil|.full=>some (.lst (.own sz st) (l++ys),σ.aI st (l.length+ys.length))
  |_=>none
  else none
 |_=>nT P σ st t u x (.lst c2 ys):=by
 obtain⟨e,ag,h1,h2,h3,h4,h5,h6,h7,h8,h9⟩:=ha
 cases x<;>try rfl
 rename_i c l
 unfold isSliceT at h9
 split at h9
 ·rename_i e' he
  simp only[nT,he,dD,h1,h2,h3,h4,h5,Option.bind_some,kQ,true_and,if_pos (show z.cells.length=sz/\0<sz/\(ag||sz==1)=true from ⟨h6,h7,h8⟩),dY,nU hy,if_true,Xm hy]
  cases c<;>rfl
 ·simp at h9
theorem Xn {P:Program} {σ:Sig} {st t u s sz by_:Nat} {z:V} {l:List V} {c2:Cap} {ys:List V} (ha:qb P t u sz by_ z) (hy:jK sz ys=true) (hl:jK sz l=true)
 (hr:roomOK (l.length+ys.length) by_=true) (ht:σ.top s=l.length):nT P σ st t u (.lst (.own sz s) l) (.lst c2 ys)=some (.lst (.own sz s) (l++ys),σ.aI s (l.length+ys.length)):=by
 rw[L6 ha hy];simp only[hr,nU hl,and_self,if_true,ht]
theorem Xo {P:Program} {σ:Sig} {st t u sz by_:Nat} {z:V} {l:List V} {c2:Cap} {ys:List V} (ha:qb P t u sz by_ z) (hy:jK sz ys=true) (hl:jK sz l=true)
 (hr:roomOK (l.length+ys.length) by_=true):nT P σ st t u (.lst .nil l) (.lst c2 ys)=some (.lst (.own sz st) (l++ys),σ.aI st (l.length+ys.length)):=by
 rw[L6 ha hy];simp only[hr,nU hl,and_self,if_true]
def Bj (E:Env) (t:TypeId) (ps:List (Nat×V)):Option (List V):=(partsT E t).bind fun pl=>(zeroT E.P t).bind fun z=>gN pl z.cells ps
section
variable {E:Env} {S:bH} {fr:Fr} {σ:Sig} {st:Nat} {d:Option Tmp} {ty:TypeId} {pos:String} {aG:Array Edge} {gd:Option (Nat×Bool)}
theorem Xp (t:TypeId) (l:List (Nat×Operand)):opC E S fr σ st ⟨d,.build t l.toArray,ty,pos,aG,gd⟩=(Bj E t (l.map fun p=>(p.1,fr.ev E p.2))).map fun cs=>(.agg cs,fr,σ):=by
 simp only[opC,opV,Bj]
 cases partsT E t with
 |none=>rfl
 |some pl=>
  simp only[Option.bind_some]
  cases zeroT E.P t with
  |none=>rfl
  |some z=>
   simp only[Option.bind_some]
   cases gN pl z.cells (l.map fun p=>(p.1,fr.ev E p.2))<;>rfl
theorem Xq (t:TypeId) (n:Nat) (l:List (Nat×Operand)) (h:bsM E d=false):opC E S fr σ st ⟨d,.buildSlice t n l.toArray,ty,pos,aG,gd⟩=(nJ E t n (l.map fun p=>(p.1,fr.ev E p.2))).map fun v=>(v,fr,σ):=by
 unfold opC
 dsimp only
 unfold opV
 dsimp only
 rw[h,if_neg (by simp)]
 cases nJ E t n (l.map fun p=>(p.1,fr.ev E p.2))<;>rfl
end
section
variable {E:Env} {S:bH} {fr:Fr} {σ:Sig} {st:Nat} {d:Option Tmp} {ty:TypeId} {pos:String} {aG:Array Edge} {gd:Option (Nat×Bool)}
theorem L8 {P:Program} {t:TypeId} {s:List UInt8} {k:IntKind} {i:Int} (h:isStrT P t=true):pG P t (.str s) (.int k i)=(idxL s i).map fun b=>.int .u8 (b.toNat:Nat):=by
 unfold isStrT at h;unfold pG
 split at h
 ·rename_i he
  rw[he]
  simp only[idx,dP,Option.bind_some,idxL]
  split
  ·simp only[Option.bind_some];rfl
  ·rfl
 ·simp at h
def imax (a b:Int):Int:=if b>a then b else a
def imin (a b:Int):Int:=if b<a then b else a
end
theorem len1 (v:V):[v].length=1:=rfl
attribute [go_sem] L8 Xi Xj LY Bg Xp Xq aez List.map_nil len1 Gb ko implies_true eq_self
end Aq
end
