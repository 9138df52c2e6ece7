import Derived.Test.YtabmooekodficaaF2105
set_option linter.all false
section
namespace Aq
open Go
section
variable {E:Env}
def dN (S T:cK):Prop:=(∀c fr σ r,S.code c fr σ=some r->T.code c fr σ=some r)/\∀f args d σ r,S.call f args d σ=some r->T.call f args d σ=some r
variable {S T:cK}
theorem wG (h:dN S T) {f:FuncId} {args:List V} {v:V} (hc:callPure E S f args=some v):callPure E T f args=some v:=by
 unfold callPure at hc⊢
 cases hg:E.summ f with
 |some g=>simp only[hg] at hc⊢;exact hc
 |none=>
  simp only[hg,mF] at hc⊢
  obtain⟨x,h1,h2⟩:=hc
  exact⟨x,h.2 _ _ _ _ _ h1,h2⟩
theorem BH (h:dN S T) {l:Nat} {args:List V} {σ:Sig} {r:V×Sig} (hc:iQ S l args σ=some r):iQ T l args σ=some r:=by
 unfold iQ at hc⊢
 simp only[mF] at hc⊢
 obtain⟨r0,hl,hc⟩:=hc
 refine⟨r0,hl,?_⟩
 split at hc
 ·rename_i hst
  rw[if_pos hst]
  simp only[mF] at hc⊢
  obtain⟨⟨e1,aF,σ1⟩,oM,hc⟩:=hc
  refine⟨(e1,aF,σ1),h.1 _ _ _ _ oM,?_⟩
  cases e1 with
  |normal=>
   simp only[mF] at hc⊢
   obtain⟨r1,hl1,hc⟩:=hc
   refine⟨r1,hl1,?_⟩
   split at hc
   ·rename_i j5
    rw[if_pos j5]
    simp only[mF] at hc⊢
    obtain⟨x,hb,y,hy,hc⟩:=hc
    exact⟨x,h.1 _ _ _ _ hb,y,hy,hc⟩
   ·simp at hc
  |exit i=>simp at hc
  |ret=>simp at hc
 ·simp at hc
theorem BI (h:dN S T) {d:Nat} {dst:Option Nat} {σ:Sig} {fv:V} {args:List V} {r:V×Sig} (hc:bS E S d dst σ fv args=some r):bS E T d dst σ fv args=some r:=by
 unfold bS at hc⊢
 split at hc
 ·split at hc
  ·rename_i hi;simp only[hi,if_true]
   obtain⟨x,h1,h2⟩:=Qu.1 hc
   exact Qu.2 ⟨x,h.2 _ _ _ _ _ h1,h2⟩
  ·rename_i hi
   simp only[mF] at hc
   obtain⟨as,h1,v,h2,h3⟩:=hc
   simp only[hi,h1,Option.bind_some,wG h h2]
   exact h3
 ·exact BH h hc
 ·simp at hc
theorem Kt (h:dN S T) {σ:Sig} {st:Nat} {fv:V} {args:List V} {r:V×Sig} (hc:fG E S σ st fv args=some r):fG E T σ st fv args=some r:=by
 unfold fG at hc⊢
 split at hc
 ·split at hc
  ·rename_i hi
   simp only[mF] at hc
   obtain⟨as,h1,v,h2,h3⟩:=hc
   simp only[hi,if_true,h1,Option.bind_some,h.2 _ _ _ _ _ h2]
   exact h3
  ·cases hc
 ·cases hc
theorem wH (h:dN S T) {fr:Fr} {σ:Sig} {st:Nat} {o:Oper} {r:V×Fr×Sig} (hc:opC E S fr σ st o=some r):opC E T fr σ st o=some r:=by
 unfold opC at hc⊢
 split at hc
 ·rename_i c ho
  simp only[ho] at hc⊢
  split at hc
  ·exact hc
  ·rename_i f hf
   split at hc
   ·rename_i aO
    simp only[aO,if_true]
    simp only[Qu] at hc⊢
    obtain⟨x,h1,h2⟩:=hc
    exact⟨x,Kt h h1,h2⟩
   rename_i aO
   simp only[aO,if_false,Qv]
   simp only[Qu] at hc⊢
   obtain⟨x,h1,h2⟩:=hc
   exact⟨x,BI h h1,h2⟩
  ·simp at hc
 ·simp at hc
 ·exact hc
theorem pE (h:dN S T) (all:List Oper):∀(os:List Oper) (st:Nat) (fr:Fr) (σ:Sig) (r:Fr×Sig),opsE E S all st os fr σ=some r->opsE E T all st os fr σ=some r:=by
 intro os
 induction os with
 |nil=>intro st fr σ r hc;exact hc
 |cons o os ih=>
  intro st fr σ r hc
  simp only[opsE,mF] at hc⊢
  obtain⟨t,h1,h2⟩:=hc
  refine⟨t,h1,?_⟩
  cases t with
  |true=>
   simp only[if_true,mF] at h2⊢
   obtain⟨x,h3,h4⟩:=h2
   exact⟨x,wH h h3,ih _ _ _ _ h4⟩
  |false=>
   simp only[Qv,if_false] at h2⊢
   exact ih _ _ _ _ h2
theorem sj (h:dN S T) (all:List Oper):∀(os:List Oper) (st:Nat) (fr:Fr) (σ:Sig) (r:List Foot×Fr×Sig),dV E S all st os fr σ=some r->dV E T all st os fr σ=some r:=by
 intro os
 induction os with
 |nil=>intro st fr σ r hc;exact hc
 |cons o os ih=>
  intro st fr σ r hc
  simp only[dV,mF] at hc⊢
  obtain⟨t,h1,h2⟩:=hc
  refine⟨t,h1,?_⟩
  cases t with
  |true=>
   simp only[if_true,mF,Qu] at h2⊢
   obtain⟨x,h3,y,h4,h5⟩:=h2
   exact⟨x,wH h h3,y,ih _ _ _ _ h4,h5⟩
  |false=>
   simp only[Qv,if_false,Qu] at h2⊢
   obtain⟨y,h4,h5⟩:=h2
   exact⟨y,ih _ _ _ _ h4,h5⟩
theorem Ku (h:dN S T) {ops:List Oper} {base i:Nat} {fr:Fr} {σ:Sig} {r:Fr×Sig} (hc:dz E S ops base i fr σ=some r):dz E T ops base i fr σ=some r:=by
 unfold dz at hc⊢
 split at hc
 ·exact hc
 ·simp only[mF] at hc⊢
  obtain⟨t,h1,h2⟩:=hc
  refine⟨t,h1,?_⟩
  cases t with
  |true=>
   simp only[if_true,Qu] at h2⊢
   obtain⟨x,h3,h4⟩:=h2
   exact⟨x,wH h h3,h4⟩
  |false=>simpa using h2
theorem Kv (h:dN S T) {ms:List Nat} {ops:List Oper} {base:Nat} {x y:Fr×Sig} (hf:Free E S ms ops base x y):Free E T ms ops base x y:=by
 obtain⟨s,T',W,h0,hn,oU,hloc,hr⟩:=hf
 refine⟨s,T',W,h0,hn,oU,fun i hi x hx=>?_,hr⟩
 obtain⟨y,h1,h2⟩:=hloc i hi x hx
 exact⟨y,Ku h h1,h2⟩
theorem lD (h:dN S T):∀(c:Code) (fr:Fr) (σ:Sig) (r:Ex×Fr×Sig),aL E S c fr σ=some r->aL E T c fr σ=some r:=by
 intro c
 induction c with
 |region id ops dr=>
  intro fr σ r hc
  simp only[aL] at hc⊢
  split at hc
  ·rename_i hd
   simp only[hd,if_true,mF] at hc⊢
   obtain⟨x,h1,h2⟩:=hc
   refine⟨x,sj h _ _ _ _ _ _ h1,?_⟩
   split at h2
   ·rename_i hp;rw[if_pos hp];exact h2
   ·rename_i hp
    rw[if_neg hp]
    unfold uF at h2⊢
    split at h2
    ·rename_i hf
     rw[if_pos ⟨hf.1,Kv h hf.2⟩];exact h2
    ·cases h2
  ·rename_i hd
   simp only[hd,Qv,if_false,Qu] at hc⊢
   obtain⟨x,h1,h2⟩:=hc
   exact⟨x,pE h _ _ _ _ _ _ h1,h2⟩
 |seq a b iha ihb=>
  intro fr σ r hc
  simp only[aL,mF] at hc⊢
  obtain⟨⟨e,aF,σ1⟩,h1,h2⟩:=hc
  refine⟨(e,aF,σ1),iha _ _ _ h1,?_⟩
  cases e with
  |normal=>exact ihb _ _ _ h2
  |exit i=>exact h2
  |ret=>exact h2
 |cond c a b iha ihb=>
  intro fr σ r hc
  simp only[aL,mF] at hc⊢
  obtain⟨t,h1,h2⟩:=hc
  refine⟨t,h1,?_⟩
  cases t with
  |true=>simp only[if_true] at h2⊢;exact iha _ _ _ h2
  |false=>simp only[Qv,if_false] at h2⊢;exact ihb _ _ _ h2
 |block id c ih=>
  intro fr σ r hc
  simp only[aL,Qu] at hc⊢
  obtain⟨x,h1,h2⟩:=hc
  exact⟨x,ih _ _ _ h1,h2⟩
 |loop c ih=>
  intro fr σ r hc
  simp only[aL,mF] at hc⊢
  obtain⟨⟨e,aF,σ1⟩,h1,h2⟩:=hc
  refine⟨(e,aF,σ1),ih _ _ _ h1,?_⟩
  cases e with
  |normal=>exact h.1 _ _ _ _ h2
  |exit i=>exact h2
  |ret=>exact h2
 |rangeFunc f ps a b iha ihb=>
  intro fr σ r hc
  simp only[aL] at hc⊢
  split at hc
  ·rename_i hf
   rw[if_pos hf]
   simp only[mF] at hc⊢
   obtain⟨x,h1,h2⟩:=hc
   exact⟨x,BI h h1,h2⟩
  ·simp at hc
 |scope c ih=>intro fr σ r hc;simp only[aL] at hc⊢;exact ih _ _ _ hc
 |_=>intro fr σ r hc;simpa [aL] using hc
theorem Kw (h:dN S T) {f:FuncId} {args:List V} {d:Nat} {σ:Sig} {r:V×Sig} (hc:jT E S f args d σ=some r):jT E T f args d σ=some r:=by
 simp only[jT,mF] at hc⊢
 obtain⟨fn,h1,c,h2,h3⟩:=hc
 refine⟨fn,h1,c,h2,?_⟩
 split at h3
 ·rename_i hok
  rw[if_pos hok]
  simp only[mF] at h3⊢
  obtain⟨x,h4,h5⟩:=h3
  exact⟨x,h.1 _ _ _ _ h4,h5⟩
 ·simp at h3
theorem Ky:∀n,dN (evl E n) (evl E (n+1)):=by
 intro n
 induction n with
 |zero=>exact⟨(fun _ _ _ _ h=>by cases h),(fun _ _ _ _ _ h=>by cases h)⟩
 |succ n ih=>exact⟨fun c fr σ r h=>lD ih c fr σ r h,fun f args d σ r h=>Kw ih h⟩
theorem dN.refl (S:cK):dN S S:=⟨fun _ _ _ _ h=>h,fun _ _ _ _ _ h=>h⟩
theorem dN.trans {S T U:cK} (h:dN S T) (g:dN T U):dN S U:=⟨fun _ _ _ _ x=>g.1 _ _ _ _ (h.1 _ _ _ _ x),fun _ _ _ _ _ x=>g.2 _ _ _ _ _ (h.2 _ _ _ _ _ x)⟩
theorem dJ {n m:Nat} (h:n<=m):dN (evl E n) (evl E m):=by
 induction m with
 |zero=>obtain rfl:n=0:=by omega
        exact .refl _
 |succ m ih=>
  by_cases e:n=m+1
  ·subst e;exact .refl _
  ·exact(ih (by omega)).trans (Ky m)
end
section
variable (E:Env)
def OW (all:List Oper) (st:Nat) (os:List Oper) (fr:Fr) (σ:Sig) (Q:Fr->Sig->Prop):Prop:=
 ∃n fr' σ',opsE E (evl E n) all st os fr σ=some (fr',σ')/\Q fr' σ'
def FW' (ms:List Nat) (all:List Oper) (st:Nat) (os:List Oper) (fr:Fr) (σ:Sig) (fs:List Foot) (Q:Fr->Sig->Prop):Prop:=
 ∃n fs' fr' σ',dV E (evl E n) all st os fr σ=some (fs',fr',σ')/\pairsOK ms (fs++fs')=true/\Q fr' σ'
def CW (c:Code) (fr:Fr) (σ:Sig) (Q:Ex->Fr->Sig->Prop):Prop:=
 ∃n e fr' σ',aL E (evl E n) c fr σ=some (e,fr',σ')/\Q e fr' σ'
def Pure (f:FuncId) (args:List V) (v:V):Prop:=∃n,callPure E (evl E n) f args=some v
def Imp (f:FuncId) (args:List V) (d:Nat) (σ:Sig) (Q:V->Sig->Prop):Prop:=∃n v σ',(evl E n).call f args d σ=some (v,σ')/\Q v σ'
end
section
variable {E:Env} {fr:Fr} {σ:Sig}
theorem Pure.ok (hE:EnvOK E) {f:FuncId} {args:List V} {v:V} (h:Pure E f args v):PureOK E f args v:=h.elim fun _ h=>Kr hE h
theorem OW.mono {all:List Oper} {st:Nat} {os:List Oper} {Q Q':Fr->Sig->Prop} (h:OW E all st os fr σ Q) (hq:∀fr σ,Q fr σ->Q' fr σ):OW E all st os fr σ Q':=
 let ⟨n,fr',σ',h1,h2⟩:=h;⟨n,fr',σ',h1,hq _ _ h2⟩
theorem CW.mono {c:Code} {Q Q':Ex->Fr->Sig->Prop} (h:CW E c fr σ Q) (hq:∀e fr σ,Q e fr σ->Q' e fr σ):CW E c fr σ Q':=
 let ⟨n,e,fr',σ',h1,h2⟩:=h;⟨n,e,fr',σ',h1,hq _ _ _ h2⟩
theorem OW.nil {all:List Oper} {st:Nat} {Q:Fr->Sig->Prop} (h:Q fr σ):OW E all st [] fr σ Q:=⟨0,fr,σ,rfl,h⟩
theorem OW.op {all:List Oper} {st:Nat} {o:Oper} {os:List Oper} {v:V} {σ1:Sig} {Q:Fr->Sig->Prop} (hw:aW all fr o=some true) (hop:∀S,opC E S fr σ st o=some (v,fr,σ1))
 (h:OW E all (st+1) os (fr.put o.dst v) σ1 Q):OW E all st (o::os) fr σ Q:=by
 obtain⟨n,fr',σ',h1,h2⟩:=h
 exact⟨n,fr',σ',by simp only[opsE,hw,Option.bind_some,if_true,hop,h1],h2⟩
theorem OW.skip {all:List Oper} {st:Nat} {o:Oper} {os:List Oper} {Q:Fr->Sig->Prop} (hw:aW all fr o=some false) (h:OW E all (st+1) os (fr.put o.dst undefV) σ Q):OW E all st (o::os) fr σ Q:=by
 obtain⟨n,fr',σ',h1,h2⟩:=h
 exact⟨n,fr',σ',by simp only[opsE,hw,Option.bind_some,Qv,if_false,h1],h2⟩
theorem BJ {d:Nat} {dst:Option Nat} {g:FuncId} {a b args as:List V} {v:V} {n:Nat} (hi:E.imp g=false) (has:(a++args++b).mapM (closeV 20 σ)=some as) (hp:callPure E (evl E n) g as=some v)
 (hc:((a++args++b).all (fun x=>pclean (er x))||flat v)=true):bS E (evl E n) d dst σ (.fn (.func g) a b) args=some (v,σ):=by
 unfold bS
 simp only[hi,Qv,if_false,has,Option.bind_some,hp,hc,if_true]
theorem su {o:Oper} {f:Operand} {g:FuncId} {a b:List V} (hf:fr.ev E f= .fn (.func g) a b) (h:∀d,o.dst=some d->E.own g d=false):dx E fr o f=false:=by
 unfold dx
 rw[hf]
 cases hd:o.dst with
 |none=>rfl
 |some d=>exact h d hd
def ko (E:Env) (f:FuncId) (as:List V) (sz:Nat) (l:List V):Prop:=∃n v σ1,(evl E n).call f as 1 Sig.init=some (v,σ1)/\∀st σ,(∃c,(c= .nil\/c= .full)/\fF σ st σ1 v=some (.lst c l,σ))\/fF σ st σ1 v=some (.lst (.own sz st) l,σ.aG st l.length)
theorem ko.of {f:FuncId} {as:List V} {sz:Nat} {l:List V} {n:Nat} {c:Cap} {σ1:Sig} (h:(evl E n).call f as 1 Sig.init=some (.lst c l,σ1)) (hp:pcleanL l=true) (hc:c= .nil\/c= .full\/∃s,c= .own sz s/\σ1.top s=l.length):ko E f as sz l:=by
 refine⟨n,_,σ1,h,fun st σ=>?_⟩
 rcases hc with rfl|rfl| ⟨s,rfl,ht⟩
 ·exact .inl ⟨.nil,.inl rfl,by unfold fF;dsimp only;rw[if_pos hp]⟩
 ·exact .inl ⟨.full,.inr rfl,by unfold fF;dsimp only;rw[if_pos hp]⟩
 ·exact .inr (by unfold fF;dsimp only;rw[if_pos hp,if_pos ht])
theorem OW.own {all:List Oper} {st:Nat} {o:Oper} {os:List Oper} {Q:Fr->Sig->Prop} {c:Call} {f:Operand} {g:FuncId} {a b as l:List V} {d sz:Nat} (hw:aW all fr o=some true) (ho:o.op= .call c) (aS:c.callee= .value f)
 (hf:fr.ev E f= .fn (.func g) a b) (hd:o.dst=some d) (hown:E.own g d=true) (has:gP (E.ownN g) σ (a++c.args.toList.map (fr.ev E)++b)=some as) (hp:ko E g as sz l)
 (hc:(a++c.args.toList.map (fr.ev E)++b).all (fun x=>pclean (er x))=true)
 (h1:∀c,c= .nil\/c= .full->OW E all (st+1) os (fr.put o.dst (.lst c l)) σ Q) (h2:OW E all (st+1) os (fr.put o.dst (.lst (.own sz st) l)) (σ.aG st l.length) Q):OW E all st (o::os) fr σ Q:=by
 obtain⟨m,v0,σ1,hm,hcp⟩:=hp
 have aO:dx E fr o f=true:=by unfold dx;rw[hf,hd];exact hown
 have go:∀(v:V) (σ2:Sig),fF σ st σ1 v0=some (v,σ2)->OW E all (st+1) os (fr.put o.dst v) σ2 Q->OW E all st (o::os) fr σ Q:=by
  rintro v σ2 hr ⟨n,fr',σ',g1,g2⟩
  have hm':=(dJ (Rv n m)).2 _ _ _ _ _ hm
  have g1':=pE (dJ (Rz n m)) _ _ _ _ _ _ g1
  refine⟨max n m,fr',σ',?_,g2⟩
  have hov:fG E (evl E (max n m)) σ st (.fn (.func g) a b) (c.args.toList.map (fr.ev E))=some (v,σ2):=by
   unfold fG
   dsimp only
   rw[if_pos hc,has,Option.bind_some,hm',Option.bind_some]
   exact hr
  simp only[opsE,hw,Option.bind_some,if_true,opC,ho,aS,aO]
  rw[hf,hov]
  simp only[Option.map_some,Option.bind_some,g1']
 rcases hcp st σ with ⟨c,hc,hr⟩|hr
 ·exact go _ _ hr (h1 c hc)
 ·exact go _ _ hr h2
theorem OW.call {all:List Oper} {st:Nat} {o:Oper} {os:List Oper} {v:V} {Q:Fr->Sig->Prop} {c:Call} {f:Operand} {g:FuncId} {a b as:List V} (hw:aW all fr o=some true) (ho:o.op= .call c) (aS:c.callee= .value f)
 (hf:fr.ev E f= .fn (.func g) a b) (hi:E.imp g=false) (has:(a++c.args.toList.map (fr.ev E)++b).mapM (closeV 20 σ)=some as) (hp:Pure E g as v)
 (hc:((a++c.args.toList.map (fr.ev E)++b).all (fun x=>pclean (er x))||flat v)=true) (h:OW E all (st+1) os (fr.put o.dst v) σ Q) (aO:∀d,o.dst=some d->E.own g d=false:=by intros;rfl):OW E all st (o::os) fr σ Q:=by
 obtain⟨n,fr',σ',h1,h2⟩:=h
 obtain⟨m,hm⟩:=hp
 have hm':=wG (dJ (Rv n m)) hm
 have h1':=pE (dJ (Rz n m)) _ _ _ _ _ _ h1
 refine⟨max n m,fr',σ',?_,h2⟩
 simp only[opsE,hw,Option.bind_some,if_true,opC,ho,aS,su hf aO,Qv,if_false,hf,BJ hi has hm' hc,Option.map_some,h1']
def eO (E:Env) (d:Nat) (dst:Option Nat):Option Loc:=(dst.map E.cn).map fun t=>(d,t)
theorem OW.sD {all:List Oper} {st:Nat} {o:Oper} {os:List Oper} {Q:Fr->Sig->Prop} {c:Call} {f:Operand} {g:FuncId} {a b:List V} (hw:aW all fr o=some true) (ho:o.op= .call c) (aS:c.callee= .value f)
 (hf:fr.ev E f= .fn (.func g) a b) (hi:E.imp g=true) (hp:Imp E g (a++c.args.toList.map (fr.ev E)++b) (fr.d+1) σ (fun v σ1=>OW E all (st+1) os (fr.put o.dst (bA (eO E fr.d o.dst) σ1 v).1) (bA (eO E fr.d o.dst) σ1 v).2 Q)) (aO:∀d,o.dst=some d->E.own g d=false:=by intros;rfl):OW E all st (o::os) fr σ Q:=by
 obtain⟨m,v,σ1,hm,n,fr',σ',h1,h2⟩:=hp
 have hm':=(dJ (Rv n m)).2 _ _ _ _ _ hm
 have h1':=pE (dJ (Rz n m)) _ _ _ _ _ _ h1
 refine⟨max n m,fr',σ',?_,h2⟩
 have:bS E (evl E (max n m)) fr.d (o.dst.map E.cn) σ (.fn (.func g) a b) (c.args.toList.map (fr.ev E))=some (bA (eO E fr.d o.dst) σ1 v):=by
  unfold bS;simp only[hi,if_true];rw[hm'];rfl
 simp only[opsE,hw,Option.bind_some,if_true,opC,ho,aS,su hf aO,Qv,if_false,hf,this,Option.map_some,h1']
theorem FW'.nil {ms:List Nat} {all:List Oper} {st:Nat} {fs:List Foot} {Q:Fr->Sig->Prop} (hp:pairsOK ms fs=true) (h:Q fr σ):FW' E ms all st [] fr σ fs Q:=⟨0,[],fr,σ,rfl,by simpa using hp,h⟩
theorem FW'.op {ms:List Nat} {all:List Oper} {st:Nat} {o:Oper} {os:List Oper} {v:V} {σ1:Sig} {fs:List Foot} {Q:Fr->Sig->Prop} (hw:aW all fr o=some true) (hop:∀S,opC E S fr σ st o=some (v,fr,σ1))
 (h:FW' E ms all (st+1) os (fr.put o.dst v) σ1 (fs++[footI E all fr o true]) Q):FW' E ms all st (o::os) fr σ fs Q:=by
 obtain⟨n,fs',fr',σ',h1,h2,h3⟩:=h
 exact⟨n,footI E all fr o true::fs',fr',σ',by simp only[dV,hw,Option.bind_some,if_true,hop,h1,Option.map_some],by simpa using h2,h3⟩
theorem FW'.skip {ms:List Nat} {all:List Oper} {st:Nat} {o:Oper} {os:List Oper} {fs:List Foot} {Q:Fr->Sig->Prop} (hw:aW all fr o=some false)
 (h:FW' E ms all (st+1) os (fr.put o.dst undefV) σ (fs++[footI E all fr o false]) Q):FW' E ms all st (o::os) fr σ fs Q:=by
 obtain⟨n,fs',fr',σ',h1,h2,h3⟩:=h
 exact⟨n,footI E all fr o false::fs',fr',σ',by simp only[dV,hw,Option.bind_some,Qv,if_false,h1,Option.map_some],by simpa using h2,h3⟩
theorem FW'.call {ms:List Nat} {all:List Oper} {st:Nat} {o:Oper} {os:List Oper} {v:V} {fs:List Foot} {Q:Fr->Sig->Prop} {c:Call} {f:Operand} {g:FuncId} {a b as:List V} (hw:aW all fr o=some true) (ho:o.op= .call c)
 (aS:c.callee= .value f) (hf:fr.ev E f= .fn (.func g) a b) (hi:E.imp g=false) (has:(a++c.args.toList.map (fr.ev E)++b).mapM (closeV 20 σ)=some as) (hp:Pure E g as v)
 (hc:((a++c.args.toList.map (fr.ev E)++b).all (fun x=>pclean (er x))||flat v)=true) (h:FW' E ms all (st+1) os (fr.put o.dst v) σ (fs++[footI E all fr o true]) Q) (aO:∀d,o.dst=some d->E.own g d=false:=by intros;rfl):FW' E ms all st (o::os) fr σ fs Q:=by
 obtain⟨n,fs',fr',σ',h1,h2,h3⟩:=h
 obtain⟨m,hm⟩:=hp
 have hm':=wG (dJ (Rv n m)) hm
 have h1':=sj (dJ (Rz n m)) _ _ _ _ _ _ h1
 refine⟨max n m,footI E all fr o true::fs',fr',σ',?_,by simpa using h2,h3⟩
 simp only[dV,hw,Option.bind_some,if_true,opC,ho,aS,su hf aO,Qv,if_false,hf,BJ hi has hm' hc,Option.map_some,h1']
theorem FW'.own {ms:List Nat} {all:List Oper} {st:Nat} {o:Oper} {os:List Oper} {fs:List Foot} {Q:Fr->Sig->Prop} {c:Call} {f:Operand} {g:FuncId} {a b as l:List V} {d sz:Nat} (hw:aW all fr o=some true) (ho:o.op= .call c) (aS:c.callee= .value f)
 (hf:fr.ev E f= .fn (.func g) a b) (hd:o.dst=some d) (hown:E.own g d=true) (has:gP (E.ownN g) σ (a++c.args.toList.map (fr.ev E)++b)=some as) (hp:ko E g as sz l)
 (hc:(a++c.args.toList.map (fr.ev E)++b).all (fun x=>pclean (er x))=true)
 (h1:∀c,c= .nil\/c= .full->FW' E ms all (st+1) os (fr.put o.dst (.lst c l)) σ (fs++[footI E all fr o true]) Q) (h2:FW' E ms all (st+1) os (fr.put o.dst (.lst (.own sz st) l)) (σ.aG st l.length) (fs++[footI E all fr o true]) Q):FW' E ms all st (o::os) fr σ fs Q:=by
 obtain⟨m,v0,σ1,hm,hcp⟩:=hp
 have aO:dx E fr o f=true:=by unfold dx;rw[hf,hd];exact hown
 have go:∀(v:V) (σ2:Sig),fF σ st σ1 v0=some (v,σ2)->FW' E ms all (st+1) os (fr.put o.dst v) σ2 (fs++[footI E all fr o true]) Q->FW' E ms all st (o::os) fr σ fs Q:=by
  rintro v σ2 hr ⟨n,fs',fr',σ',g1,g2,g3⟩
  have hm':=(dJ (Rv n m)).2 _ _ _ _ _ hm
  have g1':=sj (dJ (Rz n m)) _ _ _ _ _ _ g1
  refine⟨max n m,footI E all fr o true::fs',fr',σ',?_,by simpa using g2,g3⟩
  have hov:fG E (evl E (max n m)) σ st (.fn (.func g) a b) (c.args.toList.map (fr.ev E))=some (v,σ2):=by
   unfold fG
   dsimp only
   rw[if_pos hc,has,Option.bind_some,hm',Option.bind_some]
   exact hr
  simp only[dV,hw,Option.bind_some,if_true,opC,ho,aS,aO]
  rw[hf,hov]
  simp only[Option.map_some,Option.bind_some,g1']
 rcases hcp st σ with ⟨c,hc,hr⟩|hr
 ·exact go _ _ hr (h1 c hc)
 ·exact go _ _ hr h2
theorem FW'.sD {ms:List Nat} {all:List Oper} {st:Nat} {o:Oper} {os:List Oper} {fs:List Foot} {Q:Fr->Sig->Prop} {c:Call} {f:Operand} {g:FuncId} {a b:List V} (hw:aW all fr o=some true) (ho:o.op= .call c)
 (aS:c.callee= .value f) (hf:fr.ev E f= .fn (.func g) a b) (hi:E.imp g=true)
 (hp:Imp E g (a++c.args.toList.map (fr.ev E)++b) (fr.d+1) σ (fun v σ1=>FW' E ms all (st+1) os (fr.put o.dst (bA (eO E fr.d o.dst) σ1 v).1) (bA (eO E fr.d o.dst) σ1 v).2 (fs++[footI E all fr o true]) Q)) (aO:∀d,o.dst=some d->E.own g d=false:=by intros;rfl):FW' E ms all st (o::os) fr σ fs Q:=by
 obtain⟨m,v,σ1,hm,n,fs',fr',σ',h1,h2,h3⟩:=hp
 have hm':=(dJ (Rv n m)).2 _ _ _ _ _ hm
 have h1':=sj (dJ (Rz n m)) _ _ _ _ _ _ h1
 refine⟨max n m,footI E all fr o true::fs',fr',σ',?_,by simpa using h2,h3⟩
 have:bS E (evl E (max n m)) fr.d (o.dst.map E.cn) σ (.fn (.func g) a b) (c.args.toList.map (fr.ev E))=some (bA (eO E fr.d o.dst) σ1 v):=by
  unfold bS;simp only[hi,if_true];rw[hm'];rfl
 simp only[dV,hw,Option.bind_some,if_true,opC,ho,aS,su hf aO,Qv,if_false,hf,this,Option.map_some,h1']
end
def Sig.bump (σ:Sig) (k:Nat):Sig:={σ with next:=σ.next+k}
section
variable {E:Env} {fr:Fr} {σ:Sig}
theorem CW.region {id:Nat} {ops:Array Oper} {Q:Ex->Fr->Sig->Prop} (h:OW E ops.toList σ.next ops.toList fr (σ.bump ops.toList.length) (fun fr σ=>Q .normal fr σ)):CW E (.region id ops false) fr σ Q:=by
 obtain⟨n,fr',σ',h1,h2⟩:=h
 exact⟨n,.normal,fr',σ',by simp only[aL,Qv,if_false];rw[show opsE E (evl E n) ops.toList σ.next ops.toList fr {σ with next:=σ.next+ops.toList.length}=some (fr',σ') from h1];rfl,h2⟩
theorem CW.draw {id:Nat} {ops:Array Oper} {Q:Ex->Fr->Sig->Prop} (he:edgesOK ops.toList=true)
 (h:FW' E (preM ops.toList) ops.toList σ.next ops.toList fr (σ.bump ops.toList.length) [] (fun fr σ=>Q .normal fr σ)):CW E (.region id ops true) fr σ Q:=by
 obtain⟨n,fs,fr',σ',h1,h2,h3⟩:=h
 refine⟨n,.normal,fr',σ',?_,h3⟩
 simp only[aL,if_true]
 rw[show dV E (evl E n) ops.toList σ.next ops.toList fr {σ with next:=σ.next+ops.toList.length}=some (fs,fr',σ') from h1]
 simp only[Option.bind_some,he,Bool.true_and]
 rw[if_pos (by simpa using h2)]
def SeqQ (E:Env) (b:Code) (Q:Ex->Fr->Sig->Prop) (e:Ex) (fr:Fr) (σ:Sig):Prop:=match e with
 |.normal=>CW E b fr σ Q
 |e=>Q e fr σ
theorem CW.seq {a b:Code} {Q:Ex->Fr->Sig->Prop} (h:CW E a fr σ (SeqQ E b Q)):CW E (.seq a b) fr σ Q:=by
 obtain⟨n,e,aF,σ1,h1,h2⟩:=h
 cases e with
 |normal=>
  obtain⟨m,e,fr',σ',h3,h4⟩:=h2
  refine⟨max n m,e,fr',σ',?_,h4⟩
  simp only[aL,lD (dJ (Rz n m)) _ _ _ _ h1,Option.bind_some,lD (dJ (Rv n m)) _ _ _ _ h3]
 |exit i=>exact⟨n,.exit i,aF,σ1,by simp only[aL,h1,Option.bind_some],h2⟩
 |ret=>exact⟨n,.ret,aF,σ1,by simp only[aL,h1,Option.bind_some],h2⟩
theorem CW.skip {Q:Ex->Fr->Sig->Prop} (h:Q .normal fr σ):CW E .skip fr σ Q:=⟨0,.normal,fr,σ,rfl,h⟩
theorem CW.ret {Q:Ex->Fr->Sig->Prop} (h:Q .ret fr σ):CW E .ret fr σ Q:=⟨0,.ret,fr,σ,rfl,h⟩
theorem CW.exit {i:Nat} {Q:Ex->Fr->Sig->Prop} (h:Q (.exit i) fr σ):CW E (.exit i) fr σ Q:=⟨0,.exit i,fr,σ,rfl,h⟩
theorem CW.cond {c:Operand} {a b:Code} {t:Bool} {Q:Ex->Fr->Sig->Prop} (hc:fr.ev E c= .bool t) (ht:t=true->CW E a fr σ Q) (hf:t=false->CW E b fr σ Q):CW E (.cond c a b) fr σ Q:=by
 cases t with
 |true=>
  obtain⟨n,e,fr',σ',h1,h2⟩:=ht rfl
  exact⟨n,e,fr',σ',by simp only[aL,hc,jB,Option.bind_some,if_true,h1],h2⟩
 |false=>
  obtain⟨n,e,fr',σ',h1,h2⟩:=hf rfl
  exact⟨n,e,fr',σ',by simp only[aL,hc,jB,Option.bind_some,Qv,if_false,h1],h2⟩
def BlkQ (id:Nat) (Q:Ex->Fr->Sig->Prop) (e:Ex) (fr:Fr) (σ:Sig):Prop:=match e with
 |.exit i=>if i=id then Q .normal fr σ else Q (.exit i) fr σ
 |e=>Q e fr σ
theorem CW.block {id:Nat} {c:Code} {Q:Ex->Fr->Sig->Prop} (h:CW E c fr σ (BlkQ id Q)):CW E (.block id c) fr σ Q:=by
 obtain⟨n,e,fr',σ',h1,h2⟩:=h
 cases e with
 |normal=>exact⟨n,.normal,fr',σ',by simp only[aL,h1,Option.map_some],h2⟩
 |ret=>exact⟨n,.ret,fr',σ',by simp only[aL,h1,Option.map_some],h2⟩
 |exit i=>
  simp only[BlkQ] at h2
  split at h2
  ·rename_i hi
   exact⟨n,.normal,fr',σ',by simp only[aL,h1,Option.map_some,if_pos hi],h2⟩
  ·rename_i hi
   exact⟨n,.exit i,fr',σ',by simp only[aL,h1,Option.map_some,if_neg hi],h2⟩
theorem CW.scope {c:Code} {Q:Ex->Fr->Sig->Prop} (h:CW E c fr σ Q):CW E (.scope c) fr σ Q:=by
 obtain⟨n,e,fr',σ',h1,h2⟩:=h
 exact⟨n,e,fr',σ',by simp only[aL,h1],h2⟩
theorem CW.label {l:Nat} {Q:Ex->Fr->Sig->Prop} (h:Q .normal fr σ):CW E (.label l) fr σ Q:=⟨0,.normal,fr,σ,by simp only[aL],h⟩
def LoopQ (E:Env) (c:Code) (Q:Ex->Fr->Sig->Prop) (e:Ex) (fr:Fr) (σ:Sig):Prop:=match e with
 |.normal=>CW E (.loop c) fr σ Q
 |e=>Q e fr σ
theorem CW.loop {c:Code} {Q:Ex->Fr->Sig->Prop} (h:CW E c fr σ (LoopQ E c Q)):CW E (.loop c) fr σ Q:=by
 obtain⟨n,e,aF,σ1,h1,h2⟩:=h
 cases e with
 |normal=>
  obtain⟨m,e,fr',σ',h3,h4⟩:=h2
  refine⟨max n m+1,e,fr',σ',?_,h4⟩
  simp only[aL,lD (dJ (show n<=max n m+1 by omega)) _ _ _ _ h1,Option.bind_some]
  exact lD (dJ (Rv n m)) _ _ _ _ h3
 |exit i=>exact⟨n,.exit i,aF,σ1,by simp only[aL,h1,Option.bind_some],h2⟩
 |ret=>exact⟨n,.ret,aF,σ1,by simp only[aL,h1,Option.bind_some],h2⟩
def RetQ (E:Env) (rs:List ResultVar) (R:V->Sig->Prop) (e:Ex) (fr:Fr) (σ:Sig):Prop:=match e with
 |.exit _=>False
 |_=>∃vs,rs.mapM (resV E fr σ)=some vs/\R (match vs with| [v]=>v|vs=>.tup vs) σ
theorem Imp.of {f:FuncId} {args:List V} {d:Nat} {fn:Func} {c:Code} {R:V->Sig->Prop} (hf:E.P.funcs[f]? =some fn) (hb:fn.body=some c) (hok:(decide (args.length<=fn.ntmps)&& bN fn.ntmps c)=true)
 (h:CW E c {d:=d,om:=E.om f,tm:=fun i=>args.getD i undefV} σ (RetQ E fn.results.toList R)):Imp E f args d σ R:=by
 obtain⟨n,e,fr',σ',h1,h2⟩:=h
 have hok':args.length<=fn.ntmps/\bN fn.ntmps c=true:=by simpa using hok
 have key:∀vs,fn.results.toList.mapM (resV E fr' σ')=some vs->(e= .normal\/e= .ret)->(evl E (n+2)).call f args d σ=some ((match vs with| [v]=>v|vs=>.tup vs),σ'):=by
  intro vs hvs he
  show jT E (evl E (n+1)) f args d σ=_
  have h3:(evl E (n+1)).code c {d:=d,om:=E.om f,tm:=fun i=>args.getD i undefV} σ=some (e,fr',σ'):=h1
  simp only[jT,hf,hb,Option.bind_some,if_pos hok',h3]
  rcases he with rfl|rfl<;>simp only[hvs,Option.map_some]<;>rcases vs with _| ⟨x,_| ⟨y,l⟩⟩<;>rfl
 cases e with
 |normal=>obtain⟨vs,h3,h4⟩:=h2;exact⟨n+2,_,σ',key vs h3 (.inl rfl),h4⟩
 |ret=>obtain⟨vs,h3,h4⟩:=h2;exact⟨n+2,_,σ',key vs h3 (.inr rfl),h4⟩
 |exit i=>exact h2.elim
theorem Pure.of {f:FuncId} {args:List V} {v:V} {fn:Func} {c:Code} (hs:E.summ f=none) (hf:E.P.funcs[f]? =some fn) (hb:fn.body=some c) (hok:(decide (args.length<=fn.ntmps)&& bN fn.ntmps c)=true)
 (h:CW E c {d:=1,om:=E.om f,tm:=fun i=>args.getD i undefV} Sig.init (RetQ E fn.results.toList (fun v0 σ=>closeV 20 σ v0=some v))):Pure E f args v:=by
 obtain⟨n,v0,σ',h1,h2⟩:=Imp.of hf hb hok h
 exact⟨n,by simp only[callPure,hs,h1,Option.bind_some,h2]⟩
theorem BK (fr:Fr) (d:Nat) (v:V):fr.put (some d) v=fr.set d v:=rfl
theorem Kz (fr:Fr) (v:V):fr.put none v=fr:=rfl
theorem BL (fr:Fr) (d:Nat) (v:V):(fr.set d v).tm d=v:=by simp[Fr.set,upd]
theorem pF (fr:Fr) {d t:Nat} (v:V) (h:(t==d)=false):(fr.set d v).tm t=fr.tm t:=by
 have h':¬t=d:=by simpa using h
 simp[Fr.set,upd,h']
theorem KC (fr:Fr) (d:Nat) (v:V):(fr.set d v).d=fr.d:=rfl
theorem KE (fr:Fr) (d:Nat) (v:V):(fr.set d v).om=fr.om:=rfl
theorem mU (fr:Fr) (t:Nat):fr.ev E (.tmp t)=fr.tm t:=rfl
theorem BM (fr:Fr) (v:Value):fr.ev E (.const v)=(ofValue v).getD (.raw v):=rfl
theorem BN (fr:Fr) (f:FuncId):fr.ev E (.func f)= .fn (.func f) [] []:=rfl
theorem KF (σ:Sig) (k:Nat):(σ.bump k).next=σ.next+k:=rfl
theorem KG (σ:Sig) (l:Aq.Loc) (s:Nat) (o:AObj):(σ.setObj l s o).next=σ.next:=rfl
theorem KH (σ:Sig) (s n:Nat):(σ.aG s n).next=σ.next:=rfl
theorem mV (σ:Sig) (s n:Nat):(σ.aG s n).top s=n:=by simp[Sig.aG,upd]
theorem sF (σ:Sig) {s t:Nat} (n:Nat) (h:t≠s):(σ.aG s n).top t=σ.top t:=by simp[Sig.aG,upd,h]
theorem KJ (σ:Sig) (k:Nat):(σ.bump k).top=σ.top:=rfl
theorem KL (σ:Sig) (l:Aq.Loc) (s:Nat) (o:AObj):(σ.setObj l s o).top=σ.top:=rfl
theorem BO {l l':Aq.Loc} (h:gQ l l'=false):¬l=l':=by
 rintro rfl
 simp[gQ] at h
theorem wI (a b c d:Nat):gQ (a,b) (c,d)=(b==d&& a==c):=rfl
theorem cells_eq (σ:Sig) (l:Aq.Loc) (s:Nat) (cs:List V):(σ.setObj l s (.cells cs)).cellsAt l s=some cs:=by simp[Sig.setObj,Sig.cellsAt,upd]
theorem BP (σ:Sig) {l l':Aq.Loc} (s s':Nat) (o:AObj) (h:gQ l l'=false):(σ.setObj l' s' o).cellsAt l s=σ.cellsAt l s:=by
 have h':=BO h
 simp[Sig.setObj,Sig.cellsAt,upd,h']
theorem cells_bump (σ:Sig) (k:Nat) (l:Aq.Loc) (s:Nat):(σ.bump k).cellsAt l s=σ.cellsAt l s:=rfl
theorem KM (σ:Sig) (t n:Nat) (l:Aq.Loc) (s:Nat):(σ.aG t n).cellsAt l s=σ.cellsAt l s:=rfl
theorem map_eq (σ:Sig) (l:Aq.Loc) (s:Nat) (ks vs:List V):(σ.setObj l s (.map ks vs)).aV l s=some (ks,vs):=by simp[Sig.setObj,Sig.aV,upd]
theorem BQ (σ:Sig) {l l':Aq.Loc} (s s':Nat) (o:AObj) (h:gQ l l'=false):(σ.setObj l' s' o).aV l s=σ.aV l s:=by
 have h':=BO h
 simp[Sig.setObj,Sig.aV,upd,h']
theorem KN (σ:Sig) (k:Nat) (l:Aq.Loc) (s:Nat):(σ.bump k).aV l s=σ.aV l s:=rfl
theorem KP (σ:Sig) (t n:Nat) (l:Aq.Loc) (s:Nat):(σ.aG t n).aV l s=σ.aV l s:=rfl
end
end Aq
end
section
namespace Aq
open Go
def Is {α:Type} (a b:α):Prop:=a=b
theorem Is.rfl {α:Type} {a:α}:Is a a:=Eq.refl a
def iv (n:Int):V:=.int .i64 n
def lv {α:Type} (f:α->V) (l:List α):V:=.lst .sh (l.map f)
theorem BR {α:Type} {f:α->V} (h:∀x,pclean (f x)=true):∀l:List α,pcleanL (l.map f)=true
 | []=>by simp[pcleanL]
 |a::l=>by simp[pcleanL,h a,BR h l]
theorem sG {α:Type} {f:α->V} (h:∀x,pclean (f x)=true) (l:List α):pclean (.lst .sh (l.map f))=true:=by
 simp only[pclean];exact BR h l
theorem pclean_lv {α:Type} {f:α->V} (h:∀x,pclean (f x)=true) (l:List α):pclean (lv f l)=true:=sG h l
theorem KQ (n:Int):pclean (iv n)=true:=by simp[iv,pclean]
theorem pclean_lstr (l:List (List UInt8)):pclean (lv V.str l)=true:=pclean_lv (fun _=>by simp[pclean]) l
theorem pclean_liv (l:List Int):pclean (lv iv l)=true:=pclean_lv KQ l
theorem pclean_lint (k:IntKind) (l:List Int):pclean (lv (V.int k) l)=true:=pclean_lv (fun _=>by simp[pclean]) l
theorem pclean_lbool (l:List Bool):pclean (lv V.bool l)=true:=pclean_lv (fun _=>by simp[pclean]) l
attribute [go_sem] pclean_lstr pclean_liv pclean_lint pclean_lbool
def idxL {α:Type} (l:List α) (i:Int):Option α:=if 0<=i/\i<l.length then l[i.toNat]? else none
def isSliceT (P:Program) (t:TypeId):Bool:=match P.underlying t with
 |some (.slice _)=>true
 |_=>false
def isStrT (P:Program) (t:TypeId):Bool:=match P.underlying t with
 |some .string=>true
 |_=>false
section
variable {E:Env} {fr:Fr} {σ:Sig}
def NQ (Q:Ex->Fr->Sig->Prop) (fr:Fr) (σ:Sig):Prop:=Q .normal fr σ
theorem NQ.i {Q:Ex->Fr->Sig->Prop} (h:Q .normal fr σ):NQ Q fr σ:=h
theorem SeqQ.n {b:Code} {Q:Ex->Fr->Sig->Prop} (h:CW E b fr σ Q):SeqQ E b Q .normal fr σ:=h
theorem SeqQ.x {b:Code} {i:Nat} {Q:Ex->Fr->Sig->Prop} (h:Q (.exit i) fr σ):SeqQ E b Q (.exit i) fr σ:=h
theorem SeqQ.r {b:Code} {Q:Ex->Fr->Sig->Prop} (h:Q .ret fr σ):SeqQ E b Q .ret fr σ:=h
theorem BlkQ.n {id:Nat} {Q:Ex->Fr->Sig->Prop} (h:Q .normal fr σ):BlkQ id Q .normal fr σ:=h
theorem BlkQ.r {id:Nat} {Q:Ex->Fr->Sig->Prop} (h:Q .ret fr σ):BlkQ id Q .ret fr σ:=h
theorem BlkQ.hit {id:Nat} {Q:Ex->Fr->Sig->Prop} (h:Q .normal fr σ):BlkQ id Q (.exit id) fr σ:=by simp only[BlkQ,if_true];exact h
theorem LoopQ.n {c:Code} {Q:Ex->Fr->Sig->Prop} (h:CW E (.loop c) fr σ Q):LoopQ E c Q .normal fr σ:=h
theorem LoopQ.x {c:Code} {i:Nat} {Q:Ex->Fr->Sig->Prop} (h:Q (.exit i) fr σ):LoopQ E c Q (.exit i) fr σ:=h
theorem LoopQ.r {c:Code} {Q:Ex->Fr->Sig->Prop} (h:Q .ret fr σ):LoopQ E c Q .ret fr σ:=h
theorem CW.drw {id:Nat} {l:List Oper} {Q:Ex->Fr->Sig->Prop} (h:∀k,FW' E (preM l) l σ.next l fr (σ.bump k) [] (NQ Q)) (he:edgesOK l=true:=by rfl):CW E (.region id l.toArray true) fr σ Q:=CW.draw (ops:=l.toArray) he (h _)
theorem CW.condT {c:Operand} {a b:Code} {Q:Ex->Fr->Sig->Prop} (hc:Is (fr.ev E c) (.bool true)) (h:CW E a fr σ Q):CW E (.cond c a b) fr σ Q:=CW.cond hc (fun _=>h) (fun h=>by cases h)
theorem CW.condF {c:Operand} {a b:Code} {Q:Ex->Fr->Sig->Prop} (hc:Is (fr.ev E c) (.bool false)) (h:CW E b fr σ Q):CW E (.cond c a b) fr σ Q:=CW.cond hc (fun h=>by cases h) (fun _=>h)
theorem OW.o1 {all:List Oper} {st:Nat} {d:Tmp} {op:Op} {ty:TypeId} {pos:String} {bf:Array Edge} {gd:Option (Nat×Bool)} {os:List Oper} {v:V} {σ1:Sig} {Q:Fr->Sig->Prop} (hw:Is (aW all fr ⟨some d,op,ty,pos,bf,gd⟩) (some true))
 (hop:∀S,Is (opC E S fr σ st ⟨some d,op,ty,pos,bf,gd⟩) (some (v,fr,σ1))) (h:OW E all (st+1) os (fr.set d v) σ1 Q):OW E all st (⟨some d,op,ty,pos,bf,gd⟩::os) fr σ Q:=OW.op hw hop h
theorem OW.o0 {all:List Oper} {st:Nat} {op:Op} {ty:TypeId} {pos:String} {bf:Array Edge} {gd:Option (Nat×Bool)} {os:List Oper} {v:V} {σ1:Sig} {Q:Fr->Sig->Prop} (hw:Is (aW all fr ⟨none,op,ty,pos,bf,gd⟩) (some true))
 (hop:∀S,Is (opC E S fr σ st ⟨none,op,ty,pos,bf,gd⟩) (some (v,fr,σ1))) (h:OW E all (st+1) os fr σ1 Q):OW E all st (⟨none,op,ty,pos,bf,gd⟩::os) fr σ Q:=OW.op hw hop h
theorem FW'.o1 {ms:List Nat} {all:List Oper} {st:Nat} {d:Tmp} {op:Op} {ty:TypeId} {pos:String} {bf:Array Edge} {gd:Option (Nat×Bool)} {os:List Oper} {v:V} {σ1:Sig} {fs:List Foot} {f:Foot} {Q:Fr->Sig->Prop} (hw:Is (aW all fr ⟨some d,op,ty,pos,bf,gd⟩) (some true))
 (hop:∀S,Is (opC E S fr σ st ⟨some d,op,ty,pos,bf,gd⟩) (some (v,fr,σ1))) (hf:Is (footI E all fr ⟨some d,op,ty,pos,bf,gd⟩ true) f) (h:FW' E ms all (st+1) os (fr.set d v) σ1 (fs++[f]) Q):FW' E ms all st (⟨some d,op,ty,pos,bf,gd⟩::os) fr σ fs Q:=
 FW'.op hw hop (by rw[hf];exact h)
theorem OW.callP {all:List Oper} {st:Nat} {d:Option Tmp} {f:Operand} {args:Array Operand} {tys:Array TypeId} {ty:TypeId} {pos:String} {bf:Array Edge} {gd:Option (Nat×Bool)} {os:List Oper} {Q:Fr->Sig->Prop} {g:FuncId} {a b as:List V} {v:V}
 (hp:Pure E g as v) (hf:Is (fr.ev E f) (.fn (.func g) a b)) (has:Is ((a++args.toList.map (fr.ev E)++b).mapM (closeV 20 σ)) (some as)) (hc:Is ((a++args.toList.map (fr.ev E)++b).all (fun x=>pclean (er x))||flat v) true)
 (hw:Is (aW all fr ⟨d,.call ⟨.value f,args,tys⟩,ty,pos,bf,gd⟩) (some true)) (h:OW E all (st+1) os (fr.put d v) σ Q) (hi:E.imp g=false:=by rfl) (aO:∀d',d=some d'->E.own g d'=false:=by intros;rfl):OW E all st (⟨d,.call ⟨.value f,args,tys⟩,ty,pos,bf,gd⟩::os) fr σ Q:=
 OW.call hw rfl rfl hf hi has hp hc h aO
theorem FW'.callP {ms:List Nat} {fs:List Foot} {ft:Foot} {all:List Oper} {st:Nat} {d:Option Tmp} {f:Operand} {args:Array Operand} {tys:Array TypeId} {ty:TypeId} {pos:String} {bf:Array Edge} {gd:Option (Nat×Bool)} {os:List Oper} {Q:Fr->Sig->Prop} {g:FuncId} {a b as:List V} {v:V}
 (hp:Pure E g as v) (hf:Is (fr.ev E f) (.fn (.func g) a b)) (has:Is ((a++args.toList.map (fr.ev E)++b).mapM (closeV 20 σ)) (some as)) (hc:Is ((a++args.toList.map (fr.ev E)++b).all (fun x=>pclean (er x))||flat v) true)
 (hw:Is (aW all fr ⟨d,.call ⟨.value f,args,tys⟩,ty,pos,bf,gd⟩) (some true)) (hft:Is (footI E all fr ⟨d,.call ⟨.value f,args,tys⟩,ty,pos,bf,gd⟩ true) ft) (h:FW' E ms all (st+1) os (fr.put d v) σ (fs++[ft]) Q)
 (hi:E.imp g=false:=by rfl) (aO:∀d',d=some d'->E.own g d'=false:=by intros;rfl):FW' E ms all st (⟨d,.call ⟨.value f,args,tys⟩,ty,pos,bf,gd⟩::os) fr σ fs Q:=
 FW'.call hw rfl rfl hf hi has hp hc (by rw[hft];exact h) aO
theorem RetQ.one {r:ResultVar} {e:Ex} {v0:V} {R:V->Sig->Prop} (he:∀i,e≠ .exit i) (hv:Is (resV E fr σ r) (some v0)) (hr:R v0 σ):RetQ E [r] R e fr σ:=by
 have h1:[r].mapM (resV E fr σ)=some [v0]:=by rw[QH,hv];rfl
 cases e with
 |exit i=>exact absurd rfl (he i)
 |normal=>exact⟨[v0],h1,hr⟩
 |ret=>exact⟨[v0],h1,hr⟩
theorem RetQ.tup {rs:List ResultVar} {e:Ex} {v1 v2:V} {vs:List V} {R:V->Sig->Prop} (he:∀i,e≠ .exit i) (hv:Is (rs.mapM (resV E fr σ)) (some (v1::v2::vs))) (hr:R (.tup (v1::v2::vs)) σ):RetQ E rs R e fr σ:=by
 cases e with
 |exit i=>exact absurd rfl (he i)
 |normal=>exact⟨_,hv,hr⟩
 |ret=>exact⟨_,hv,hr⟩
theorem Pure.of' {f:FuncId} {args:List V} {v:V} {fn:Func} {c:Code} (rs:List ResultVar) (hf:E.P.funcs[f]? =some fn) (hb:fn.body=some c)
 (h:∀fr σ,fr.d=1->fr.om=E.om f->(∀i,fr.tm i=args.getD i undefV)->CW E c fr σ (RetQ E rs (fun v0 σ=>closeV 20 σ v0=some v))) (hrs:fn.results.toList=rs:=by rfl) (hok:(decide (args.length<=fn.ntmps)&& bN fn.ntmps c)=true:=by rfl) (hs:E.summ f=none:=by rfl):Pure E f args v:=
 Pure.of hs hf hb hok (by rw[hrs];exact h _ _ rfl rfl (fun _=>rfl))
theorem closeV_clean {n:Nat} {x:V} (h:pclean x=true):closeV (n+1) σ x=some x:=by unfold closeV;simp only[h,if_true]
theorem wJ (n:Nat) (k:IntKind) (i:Int):closeV (n+1) σ (.int k i)=some (.int k i):=closeV_clean (by simp[pclean])
theorem wK (n:Nat) (b:Bool):closeV (n+1) σ (.bool b)=some (.bool b):=closeV_clean (by simp[pclean])
theorem wL (n:Nat) (s:List UInt8):closeV (n+1) σ (.str s)=some (.str s):=closeV_clean (by simp[pclean])
theorem kr {n:Nat} {α:Type} {f:α->V} (c:Cap) (l:List α) (h:∀x,pclean (f x)=true):closeV (n+2) σ (.lst c (l.map f))=some (lv f l):=by
 by_cases hp:pclean (.lst c (l.map f))=true
 ·rw[closeV_clean hp]
  cases c<;>simp only[pclean,Qv] at hp
  rfl
 ·unfold closeV
  simp only[hp,if_false,Qv]
  have:(l.map f).mapM (closeV (n+1) σ)=some (l.map f):=by
   induction l with
   |nil=>simp
   |cons a l ih=>simp[h a,closeV_clean,ih (by cases c<;>simp_all[pclean,pcleanL])]
  rw[this];rfl
theorem KR (k:IntKind) (i:Int):er (.int k i)= .int k i:=rfl
theorem KS (b:Bool):er (.bool b)= .bool b:=rfl
theorem KT (s:List UInt8):er (.str s)= .str s:=rfl
theorem KU {α:Type} (f:α->V) (l:List α):er (lv f l)=lv f l:=rfl
theorem KV (c:Cap) (l:List V):er (.lst c l)= .lst .sh l:=rfl
theorem KW (n:Int):iv n= .int .i64 n:=rfl
theorem wM (k:IntKind) (i:Int):pclean (.int k i)=true:=by simp[pclean]
theorem wN (b:Bool):pclean (.bool b)=true:=by simp[pclean]
theorem BS (s:List UInt8):pclean (.str s)=true:=by simp[pclean]
theorem wO {P:Program} {α:Type} {t:TypeId} {c:Cap} {l:List α} {f:α->V} {k:IntKind} {i:Int}:
 indexAddrV P t (.lst c (l.map f)) (.int k i)=if isSliceT P t then (elemT P t).bind fun e=>(szT P e).bind fun sz=>(idxL l i).bind fun x=>if (f x).cells.length=sz then some (.cref (f x).cells 0) else none else none:=by
 unfold indexAddrV isSliceT elemT
 cases hu:P.underlying t with
 |none=>rfl
 |some u=>
  cases u<;>try rfl
  rename_i e
  simp only[if_true,Option.bind_some]
  cases szT P e with
  |none=>rfl
  |some sz=>
   simp only[Option.bind_some,idx,dw,Qy,idxL]
   split
   ·rename_i h
    simp only[Option.bind_some,List.getElem?_map]
    cases l[i.toNat]? with
    |none=>rfl
    |some x=>rfl
   ·rfl
theorem idx_lv {P:Program} {α:Type} {t:TypeId} {l:List α} {f:α->V} {k:IntKind} {i:Int}:
 indexAddrV P t (lv f l) (.int k i)=if isSliceT P t then (elemT P t).bind fun e=>(szT P e).bind fun sz=>(idxL l i).bind fun x=>if (f x).cells.length=sz then some (.cref (f x).cells 0) else none else none:=wO
theorem KX {P:Program} {t:TypeId} {v:V} (h1:isAggT P t=some false) (h2:szT P t=some 1):ldT P t [v] 0=some v:=by simp[ldT,h1,h2,eU]
theorem KY {t:TypeId} {α:Type} (f:α->V) (l:List α) (h:isSliceT E.P t=true):gN E σ t (lv f l)=some l.length:=by
 unfold isSliceT at h;unfold gN
 split at h
 ·rename_i e he;rw[he];simp[lv]
 ·simp at h
end
section
variable {E:Env} {S:cK} {fr:Fr} {σ:Sig} {st:Nat} {d:Option Tmp} {ty:TypeId} {pos:String} {bf:Array Edge} {gd:Option (Nat×Bool)}
theorem KZ (all:List Oper) (op:Op):aW all fr ⟨d,op,ty,pos,bf,none⟩=some true:=rfl
def BU (want:Bool):V->Option Bool
 |.bool b=>some (b==want)
 |.raw _=>none
 |_=>some false
theorem K4 (w b:Bool):BU w (.bool b)=some (b==w):=rfl
theorem K5 (w:Bool):BU w undefV=some false:=rfl
theorem K6 (cs:List V):V.cells (.agg cs)=cs:=rfl
theorem K7 (k:IntKind) (n:Int):V.cells (.int k n)=[.int k n]:=rfl
theorem K8 (k:IntKind) (n:Int):notRaw (.int k n)=true:=rfl
theorem K9 (b:Bool):V.cells (.bool b)=[.bool b]:=rfl
theorem La (b:Bool):notRaw (.bool b)=true:=rfl
theorem Lb (s:List UInt8):V.cells (.str s)=[.str s]:=rfl
theorem Lc (s:List UInt8):notRaw (.str s)=true:=rfl
theorem Ld (c:Cap) (l:List V):V.cells (.lst c l)=[.lst c l]:=rfl
theorem Le (c:Cap) (l:List V):notRaw (.lst c l)=true:=rfl
theorem Lf (l:Aq.Loc) (s o:Nat):V.cells (.ref l s o)=[.ref l s o]:=rfl
theorem Lg (l:Aq.Loc) (s o:Nat):notRaw (.ref l s o)=true:=rfl
theorem Lh (cs:List V) (o:Nat):V.cells (.cref cs o)=[.cref cs o]:=rfl
theorem Li (cs:List V) (o:Nat):notRaw (.cref cs o)=true:=rfl
theorem Lj (f:Fn) (a b:List V):V.cells (.fn f a b)=[.fn f a b]:=rfl
theorem Ll (f:Fn) (a b:List V):notRaw (.fn f a b)=true:=rfl
theorem Lm {α:Type} (f:α->V) (l:List α):V.cells (lv f l)=[lv f l]:=rfl
theorem Lp:oneCells []=true:=rfl
theorem BX (x:V) (l:List V):oneCells (x::l)=(oneCell x&& oneCells l):=rfl
theorem Lr (k:IntKind) (n:Int):oneCell (.int k n)=true:=rfl
theorem Ls (b:Bool):oneCell (.bool b)=true:=rfl
theorem Lu (s:List UInt8):oneCell (.str s)=true:=rfl
theorem Lv {α:Type} (f:α->V) (l:List α):oneCell (lv f l)=true:=rfl
theorem Lx (c:Cap) (l:List V):oneCell (.lst c l)=true:=rfl
theorem LA (l:Aq.Loc) (s o:Nat):oneCell (.ref l s o)=true:=rfl
theorem LB (cs:List V) (o:Nat):oneCell (.cref cs o)=true:=rfl
theorem LC (cs:List V):notRaw (.agg cs)=true:=rfl
theorem LD {α:Type} (f:α->V) (l:List α):notRaw (lv f l)=true:=rfl
theorem LG (x:Operand) (h:fzM E d=false):opC E S fr σ st ⟨d,.move x,ty,pos,bf,gd⟩=some (fr.ev E x,fr,σ):=by
 show Option.map _ (if fzM E d=true then iO σ (fr.ev E x) else some (fr.ev E x,σ))=_
 rw[if_neg (by rw[h];simp)];rfl
theorem LH (x:Operand):opC E S fr σ st ⟨d,.assign x,ty,pos,bf,gd⟩=some (fr.ev E x,fr,σ):=rfl
theorem LJ (op:BinOp) (t u:TypeId) (x y:Operand):opC E S fr σ st ⟨d,.binOp op t x y u,ty,pos,bf,gd⟩=(fQ E.P op t (fr.ev E x) (fr.ev E y)).map fun v=>(v,fr,σ):=by
 simp only[opC,opV];cases fQ E.P op t (fr.ev E x) (fr.ev E y)<;>rfl
theorem LK (op:UnOp) (t:TypeId) (x:Operand):opC E S fr σ st ⟨d,.unOp op t x,ty,pos,bf,gd⟩=(kQ op (fr.ev E x)).map fun v=>(v,fr,σ):=by
 simp only[opC,opV];cases kQ op (fr.ev E x)<;>rfl
theorem LM (t:TypeId) (x:Operand) (f:Nat):opC E S fr σ st ⟨d,.fieldAddr t x f,ty,pos,bf,gd⟩=(fieldT E.P t f).bind fun p=>match fr.ev E x with
 |.ref loc s off=>some (.ref loc s (off+p.1),fr,σ)
 |.cref cs off=>some (.cref cs (off+p.1),fr,σ)
 |_=>none:=by
 simp only[opC,opV]
 cases fieldT E.P t f with
 |none=>rfl
 |some p=>obtain⟨o,u⟩:=p;simp only[Option.bind_some];cases fr.ev E x<;>rfl
theorem LP (t:TypeId) (x:Operand):opC E S fr σ st ⟨d,.load t x,ty,pos,bf,gd⟩=(match fr.ev E x with
 |.ref loc s off=>(σ.cellsAt loc s).bind fun cs=>(ldT E.P t cs off).map fun v=>(v,fr,σ)
 |.cref cs off=>(ldT E.P t cs off).map fun v=>(v,fr,σ)
 |_=>none):=by
 simp only[opC,opV]
 cases fr.ev E x with
 |ref loc s off=>
  simp only
  cases σ.cellsAt loc s with
  |none=>rfl
  |some cs=>simp only[Option.bind_some];cases ldT E.P t cs off<;>rfl
 |cref cs off=>simp only;cases ldT E.P t cs off<;>rfl
 |_=>rfl
theorem LQ (t:TypeId) (i:Nat):opC E S fr σ st ⟨some i,.alloc t,ty,pos,bf,gd⟩=(zeroT E.P t).bind fun z=>if oneCells z.cells then some (.ref (fr.d,i) st 0,fr,σ.setObj (fr.d,i) st (.cells z.cells)) else none:=by
 simp only[opC,opV,Option.map_some,Option.bind_some]
 cases zeroT E.P t with
 |none=>rfl
 |some z=>simp only[Option.bind_some];split<;>rfl
theorem LU (t:TypeId) (a x:Operand):opC E S fr σ st ⟨d,.store t a x,ty,pos,bf,gd⟩=(match fr.ev E a with
 |.ref loc s off=>(σ.cellsAt loc s).bind fun cs=>
  if some (fr.ev E x).cells.length=szT E.P t/\off+(fr.ev E x).cells.length<=cs.length/\oneCells (fr.ev E x).cells then some (undefV,fr,σ.setObj loc s (.cells (spliceL cs off (fr.ev E x).cells))) else none
 |_=>none):=by
 simp only[opC,opV]
 cases fr.ev E a with
 |ref loc s off=>
  simp only
  cases σ.cellsAt loc s with
  |none=>rfl
  |some cs=>simp only[Option.bind_some];split<;>rfl
 |_=>rfl
theorem LV (t:TypeId) (x i:Operand):opC E S fr σ st ⟨d,.indexAddr t x i,ty,pos,bf,gd⟩=(indexAddrV E.P t (fr.ev E x) (fr.ev E i)).map fun v=>(v,fr,σ):=by
 simp only[opC,opV];cases indexAddrV E.P t (fr.ev E x) (fr.ev E i)<;>rfl
theorem LW (x:Operand) (i:Nat):opC E S fr σ st ⟨d,.extract x i,ty,pos,bf,gd⟩=(match fr.ev E x with
 |.tup vs=>(vs[i]?).map fun v=>(v,fr,σ)
 |_=>none):=by
 simp only[opC,opV]
 cases fr.ev E x with
 |tup vs=>simp only;cases vs[i]? <;>rfl
 |_=>rfl
theorem LX (x:Operand) (t:TypeId):opC E S fr σ st ⟨d,.call ⟨.builtin .len, #[x], #[t]⟩,ty,pos,bf,gd⟩=(gN E σ t (fr.ev E x)).map fun n=>(.int .i64 (n:Nat),fr,σ):=by
 show (Option.map _ (((#[t]:Array TypeId)[0]?).bind fun t=>(gN E σ t (fr.ev E x)).map fun n=>(V.int .i64 (n:Nat),σ)))=_
 rw[show (#[t]:Array TypeId)[0]? =some t from rfl,Option.bind_some]
 cases gN E σ t (fr.ev E x)<;>rfl
end
attribute [go_sem] Qv fQ bZ jR kQ decide_true decide_false List.getElem?_cons_succ List.getElem?_cons_zero beq_true beq_false Bool.not_true Bool.not_false wI Bool.false_and Bool.and_false Bool.true_and Bool.and_true KZ K4 K5 LG LH LJ LK LM LP LQ LU LV LW LX mU BM BN BL pF BK Kz KC KE KF KG KH cells_eq BP cells_bump KM map_eq BQ KN KP mV sF KJ KL KW KX KY wO Qy idx_lv wJ wK wL KR KS KT KU KV wM wN BS Option.bind_some Option.map_some Option.getD_some jB ofValue bP if_true if_false K6 K7 K9 Lb Lm Ld Lf Lh Lj K8 La Lc Le Lg Li Ll Lp BX Lr Ls Lu Lv Lx LA LB LC LD and_self and_true true_and
end Aq
end
section
namespace Aq
open Go
def jk:Code->List Nat->Option Code
 |c,[]=>some c
 |.seq a b,i::l=>if i=0 then jk a l else jk b l
 |.cond _ a b,i::l=>if i=0 then jk a l else jk b l
 |.block _ a,_::l=>jk a l
 |.loop a,_::l=>jk a l
 |.scope a,_::l=>jk a l
 |.rangeFunc _ _ a b,i::l=>if i=0 then jk a l else jk b l
 |_,_=>none
def subO (b:Option Code) (l:List Nat):Option Code:=b.bind fun c=>jk c l
section
variable {E:Env} {fr:Fr} {σ:Sig}
def sH (E:Env) (c:Code) (fr:Fr) (σ:Sig) (Q:Ex->Fr->Sig->Prop):Prop:=CW E (.loop c) fr σ Q
theorem CW.lp {c:Code} {Q:Ex->Fr->Sig->Prop} (h:sH E c fr σ Q):CW E (.loop c) fr σ Q:=h
def pG:Code->Nat
 |.region i _ _=>i
 |.seq a _=>pG a
 |.loop a=>pG a
 |.scope a=>pG a
 |.block _ a=>pG a
 |_=>0
theorem sH.at (k:Nat) {c:Code} {Q:Ex->Fr->Sig->Prop} (_h:Is (pG c) k) (h:sH E c fr σ Q):sH E c fr σ Q:=h
theorem BZ {n:Nat} (cs:List V):closeV (n+2) σ (.agg cs)=(cs.mapM (closeV (n+1) σ)).map .agg:=by
 by_cases hp:pclean (.agg cs)=true
 ·rw[closeV_clean hp]
  have:∀cs:List V,pcleanL cs=true->cs.mapM (closeV (n+1) σ)=some cs:=by
   intro cs
   induction cs with
   |nil=>intro _;rfl
   |cons a l ih=>
    intro h
    simp only[pcleanL,iP] at h
    rw[QH,closeV_clean h.1,ih h.2];rfl
  rw[this cs (by simpa [pclean] using hp)];rfl
 ·conv=>lhs;unfold closeV
  simp only[hp,if_false,Qv]
theorem wP {n:Nat} (cs:List V):closeV (n+2) σ (.tup cs)=(cs.mapM (closeV (n+1) σ)).map .tup:=by
 by_cases hp:pclean (.tup cs)=true
 ·rw[closeV_clean hp]
  have:∀cs:List V,pcleanL cs=true->cs.mapM (closeV (n+1) σ)=some cs:=by
   intro cs
   induction cs with
   |nil=>intro _;rfl
   |cons a l ih=>
    intro h
    simp only[pcleanL,iP] at h
    rw[QH,closeV_clean h.1,ih h.2];rfl
  rw[this cs (by simpa [pclean] using hp)];rfl
 ·conv=>lhs;unfold closeV
  simp only[hp,if_false,Qv]
end
section
variable {E:Env} {S:cK} {fr:Fr} {σ:Sig} {st:Nat} {d:Option Tmp} {ty:TypeId} {pos:String} {bf:Array Edge} {gd:Option (Nat×Bool)}
end
def Ca (P:Program) (t u:TypeId) (sz by_:Nat) (z:V):Prop:=∃e ag,elemT P t=some e/\szT P e=some sz/\bytesT P e=some by_/\isAggT P e=some ag/\zeroT P e=some z/\z.cells.length=sz/\0<sz/\(ag||sz==1)=true/\isSliceT P u=true
theorem Ca.mk {P:Program} {t u:TypeId} {sz by_:Nat} {z:V} (e:TypeId) (ag:Bool) (h1:elemT P t=some e) (h2:szT P e=some sz) (h3:bytesT P e=some by_) (h4:isAggT P e=some ag) (h5:zeroT P e=some z)
 (h6:z.cells.length=sz) (h7:0<sz) (h8:(ag||sz==1)=true) (h9:isSliceT P u=true):Ca P t u sz by_ z:=⟨e,ag,h1,h2,h3,h4,h5,h6,h7,h8,h9⟩
section
variable {E:Env} {S:cK} {fr:Fr} {σ:Sig} {st:Nat} {d:Option Tmp} {ty:TypeId} {pos:String} {bf:Array Edge} {gd:Option (Nat×Bool)}
end
section
variable {E:Env} {S:cK} {fr:Fr} {σ:Sig} {st:Nat} {d:Option Tmp} {ty:TypeId} {pos:String} {bf:Array Edge} {gd:Option (Nat×Bool)}
theorem Cb {P:Program} {t:TypeId} {s:List UInt8} {k:IntKind} {i:Int} (h:isStrT P t=true):kS P t (.str s) (.int k i)=(idxL s i).map fun b=>.int .u8 (b.toNat:Nat):=by
 unfold isStrT at h;unfold kS
 split at h
 ·rename_i he
  rw[he]
  simp only[idx,dw,Option.bind_some,idxL]
  split
  ·simp only[Option.bind_some];rfl
  ·rfl
 ·simp at h
def imax (a b:Int):Int:=if b>a then b else a
def imin (a b:Int):Int:=if b<a then b else a
theorem LY (x y:Operand) (tys:List TypeId):opC E S fr σ st ⟨d,.call ⟨.builtin .min, #[x,y],tys.toArray⟩,ty,pos,bf,gd⟩=(minMaxV false (fr.ev E x) [fr.ev E y]).map fun v=>(v,fr,σ):=by
 show Option.map _ ((minMaxV false (fr.ev E x) [fr.ev E y]).map fun v=>(v,σ))=_
 cases minMaxV false (fr.ev E x) [fr.ev E y]<;>rfl
end
theorem len1 (v:V):[v].length=1:=rfl
attribute [go_sem] Cb LY BZ wP QA List.map_nil len1 kr implies_true eq_self
end Aq
end
section
namespace Aq
open Go
inductive Ty where
 |int (k:IntKind)
 |bool
 |str
 |slice (t:Ty)
 |st (n:Nat)
 deriving DecidableEq
inductive Cp where
 |any
 |sh
 |nil
 |full
 |own (t:Nat)
structure Vec (n:Nat) where
 l:List Int
 h:l.length=n
def Vec.at' {n:Nat} (v:Vec n) (i:Int):Int:=v.l.getD i.toNat 0
def Vec.nth {n:Nat} (v:Vec n) (j:Nat):Int:=v.l.getD j 0
def Vec.set {n:Nat} (v:Vec n) (i y:Int):Vec n:=⟨v.l.set i.toNat y,by rw[List.length_set,v.h]⟩
def Vec.rep (n:Nat) (y:Int):Vec n:=⟨List.replicate n y,List.length_replicate⟩
def Vec.lit (n:Nat) (l:List Int):Vec n:=if h:l.length=n then ⟨l,h⟩ else Vec.rep n 0
def Vec.slc {n:Nat} (v:Vec n) (i:Int) (m:Nat):Vec m:=Vec.lit m ((v.l.drop i.toNat).take m)
def Vec.cpy {n:Nat} (v:Vec n) (lo:Int) (l:List Int):Vec n:=Vec.lit n (v.l.take lo.toNat++l++v.l.drop (lo.toNat+l.length))
inductive SgK where
 |i (k:IntKind)
 |a (k:IntKind) (n:Nat)
inductive Sg where
 |i (k:IntKind) (x:Int)
 |a (k:IntKind) (n:Nat) (v:Vec n)
def Sg.w:Sg->Nat
 |.i _ _=>1
 |.a _ n _=>n
def Sg.vs:Sg->List V
 |.i k x=>[.int k x]
 |.a k _ v=>v.l.map (V.int k)
def sgV:List Sg->List V
 | []=>[]
 |s::l=>s.vs++sgV l
def sgW:List Sg->Nat
 | []=>0
 |s::l=>s.w+sgW l
def PayG1:SgK->Type
 |.i _=>Int
 |.a _ n=>Vec n
def PayG:List SgK->Type
 | []=>Unit
 | [k]=>PayG1 k
 |k::h::l=>PayG1 k×PayG (h::l)
def up1:(k:SgK)->PayG1 k->Sg
 |.i k,x=>.i k x
 |.a k n,x=>.a k n x
def upG:(l:List SgK)->PayG l->List Sg
 | [],_=>[]
 | [k],x=>[up1 k x]
 |k::h::l,p=>up1 k p.1::upG (h::l) p.2
def castV {n m:Nat} (v:Vec n):Option (Vec m):=if h:n=m then some (h▸v) else none
def pk1:(k:SgK)->Sg->Option (PayG1 k)
 |.i k,.i k' x=>if k'=k then some x else none
 |.a k n,.a k' _ v=>if k'=k then castV (m:=n) v else none
 |_,_=>none
def pkG:(l:List SgK)->List Sg->Option (PayG l)
 | []=>fun vs=>match vs with
   | []=>some ()
   |_::_=>none
 | [k]=>fun vs=>match vs with
   | [v]=>pk1 k v
   |_=>none
 |k::h::l=>fun vs=>match vs with
  | []=>none
  |v::vs=>match pk1 k v with
   |some x=>match pkG (h::l) vs with
    |some p=>some (x,p)
    |none=>none
   |none=>none
section
variable (T:Nat->Type)
def Den:Ty->Type
 |.int _=>Int
 |.bool=>Bool
 |.str=>List UInt8
 |.slice t=>List (Den t)
 |.st n=>T n
def PayT:List Ty->Type
 | []=>Unit
 | [t]=>Den T t
 |t::u::l=>Den T t×PayT (u::l)
inductive TV where
 |int (k:IntKind) (n:Int)
 |bool (b:Bool)
 |blit (b:Bool)
 |str (s:List UInt8)
 |nilp
 |nilf
 |nilm
 |nili
 |nils
 |agg (cs:List TV)
 |tup (cs:List TV)
 |lst (c:Cp) (t:Ty) (l:List (Den T t))
 |ref (o off:Nat)
 |cref (cs:List TV) (off:Nat)
 |mapr (o:Nat)
 |mapc (k e:Ty) (m:List (Den T k×Den T e))
 |fn (f:Nat) (a b:List TV)
 |opt (j:Nat) (w:Bool) (v:TV)
 |vw (o:Nat) (t:Ty)
 |sub (o:Nat) (t:Ty) (a b:Int)
 |eref (o:Nat) (t:Ty) (i:Int) (off:Nat)
 |sg (ss:List Sg)
 |sv (o off:Nat) (k:IntKind) (n:Nat) (lo hi:Option Int)
 |sel (o off:Nat) (k:IntKind) (n:Nat) (i:Int) (m:Nat)
 |gel (k:IntKind) (n:Nat) (v:Vec n) (i:Int)
 |undef
 |gone
inductive Ob where
 |cells (cs:List (TV T))
 |map (k e:Ty) (m:List (Den T k×Den T e))
 |smap (ks vs:List (TV T))
 |arr (t:Ty) (l:List (Den T t))
 |sg (ss:List Sg)
 |gone
 |ro (b:Ob)
structure MS where
 fr:List (Nat×TV T)
 ob:List (Nat×Ob T)
inductive Sk where
 |d (t:Ty)
 |l (c:Cp) (t:Ty)
 |agg (l:List Sk)
 |ref (o off:Nat)
 |cref (l:List Sk) (off:Nat)
 |mapr (o:Nat)
 |mapc (k e:Ty)
 |fn (f:Nat) (a b:List Sk)
 |nils
 |vw (o:Nat) (t:Ty)
 |sub (o:Nat) (t:Ty)
 |sg (l:List SgK)
 |undef
mutual
def PayS:Sk->Type
 |.d t=>Den T t
 |.l _ t=>List (Den T t)
 |.agg l=>PayL l
 |.ref _ _=>Unit
 |.cref l _=>PayL l
 |.mapr _=>Unit
 |.mapc k e=>List (Den T k×Den T e)
 |.fn _ a b=>PayL a×PayL b
 |.nils=>Unit
 |.vw _ _=>Unit
 |.sub _ _=>Int×Int
 |.sg l=>PayG l
 |.undef=>Unit
def PayL:List Sk->Type
 | []=>Unit
 | [k]=>PayS k
 |k::h::l=>PayS k×PayL (h::l)
end
inductive ObSk where
 |cells (l:List Sk)
 |st (n:Nat)
 |map (k e:Ty)
 |arr (t:Ty)
 |sg (l:List SgK)
def PayO:ObSk->Type
 |.cells l=>PayL T l
 |.st n=>T n
 |.map k e=>List (Den T k×Den T e)
 |.arr t=>List (Den T t)
 |.sg l=>PayG l
def PayOs:List (Nat×ObSk)->Type
 | []=>Unit
 | [(_,k)]=>PayO T k
 | (_,k)::h::l=>PayO T k×PayOs (h::l)
def PaySl:List (Nat×Sk)->Type
 | []=>Unit
 | [(_,k)]=>PayS T k
 | (_,k)::h::l=>PayS T k×PaySl (h::l)
structure Shape where
 sl:List (Nat×Sk)
 ob:List (Nat×ObSk)
def Pay:Shape->Type
 | ⟨s,[]⟩=>PaySl T s
 | ⟨s,o::os⟩=>PaySl T s×PayOs T (o::os)
def Out:List (Ex×Shape)->Type
 | []=>Empty
 | [(_,s)]=>Pay T s
 | (_,s)::h::l=>Pay T s⊕Out (h::l)
end
structure Reg where
 T:Nat->Type
 d:(n:Nat)->T n
 lf:Nat->List Ty
 to:(n:Nat)->PayT T (lf n)->T n
 of:(n:Nat)->T n->PayT T (lf n)
 enc:(n:Nat)->T n->V
 ty:TypeId->Option Ty
 gl:Nat->Option ((k:IntKind)×(n:Nat)×Vec n)
structure FR (R:Reg) where
 args:List Sk
 res:List Sk
 F:PayL R.T args->Option (PayL R.T res)
 d:PayL R.T res
 own:Bool:=false
structure FI (R:Reg) where
 a:List Sk
 b:List Sk
 el:List Sk
 F:PayL R.T a->PayL R.T b->Option (List (PayL R.T el))
def F0:Nat:=1000000
inductive NK where
 |no
 |arr (t:Ty)
 |fnc (g:Nat) (a b cs:List Sk)
def PayN (T:Nat->Type):NK->Type
 |.no=>Unit
 |.arr t=>List (Den T t)
 |.fnc _ a b cs=>PayL T a×PayL T b×PayL T cs
def NK.is:NK->Bool
 |.no=>false
 |_=>true
structure FM (R:Reg) where
 args:List Sk
 obs:List (Nat×ObSk)
 res:List Sk
 F:PayL R.T args->PayOs R.T obs->Option (PayL R.T res×PayOs R.T obs)
 nk:NK
 ob2:List (Nat×ObSk)
 G:PayL R.T args->PayOs R.T obs->Option (PayN R.T nk×PayOs R.T ob2)
def mkM {R:Reg} (args:List Sk) (obs:List (Nat×ObSk)) (res:List Sk) (F:PayL R.T args->PayOs R.T obs->Option (PayL R.T res×PayOs R.T obs)):FM R:=⟨args,obs,res,F,.no,[],fun _ _=>none⟩
def mkN {R:Reg} (args:List Sk) (obs:List (Nat×ObSk)) (nk:NK) (ob2:List (Nat×ObSk)) (G:PayL R.T args->PayOs R.T obs->Option (PayN R.T nk×PayOs R.T ob2)):FM R:=⟨args,obs,[],fun _ _=>none,nk,ob2,G⟩
structure FO (R:Reg) where
 a:List Sk
 b:List Sk
 cs:List Sk
 el:List Sk
 F:PayL R.T a->PayL R.T b->PayL R.T cs->Option (List (PayL R.T el))
 q:Bool
structure IR (R:Reg) where
 it:Nat->List (FI R)
 im:Nat->List (FM R)
 io:Nat->List (FO R)
structure Note where
 K:List Nat
 O:List Nat
 sh:Shape
 outs:List (Ex×Shape)
structure Ann where
 loops:List (Nat×Note)
 joins:List (Nat×Note)
def look {α:Type}:List (Nat×α)->Nat->Option α
 | [],_=>none
 | (j,x)::l,i=>bif Nat.beq j i then some x else look l i
section
variable (R:Reg)
def encD:(t:Ty)->Den R.T t->V
 |.int k=>fun n=>.int k n
 |.bool=>fun b=>.bool b
 |.str=>fun s=>.str s
 |.slice t=>fun l=>.lst .sh (l.map (encD t))
 |.st n=>fun x=>R.enc n x
def encs:(l:List Ty)->PayT R.T l->List V
 | [],_=>[]
 | [t],x=>[encD R t x]
 |t::u::l,p=>encD R t p.1::encs (u::l) p.2
def szD:Ty->Nat
 |.st n=>(R.lf n).length
 |_=>1
def dfl:(t:Ty)->Den R.T t
 |.int _=>(0:Int)
 |.bool=>false
 |.str=>([]:List UInt8)
 |.slice t=>([]:List (Den R.T t))
 |.st n=>R.d n
def tv1 (c:Cp):(t:Ty)->Den R.T t->TV R.T
 |.int k=>fun n=>.int k n
 |.bool=>fun b=>.bool b
 |.str=>fun s=>.str s
 |.slice t=>fun l=>.lst c t l
 |.st _=>fun _=>.undef
def tvs (c:Cp):(l:List Ty)->PayT R.T l->List (TV R.T)
 | [],_=>[]
 | [t],x=>[tv1 R c t x]
 |t::u::l,p=>tv1 R c t p.1::tvs c (u::l) p.2
def tvD (c:Cp):(t:Ty)->Den R.T t->TV R.T
 |.st n=>fun x=>.agg (tvs R c (R.lf n) (R.of n x))
 |.int k=>fun n=>.int k n
 |.bool=>fun b=>.bool b
 |.str=>fun s=>.str s
 |.slice t=>fun l=>.lst c t l
def castL {t u:Ty} (l:List (Den R.T t)):Option (List (Den R.T u)):=if h:t=u then some (h▸l) else none
def unInt (k:IntKind):TV R.T->Option Int
 |.int k' n=>if k=k' then some n else none
 |_=>none
def unBool:TV R.T->Option Bool
 |.bool b=>some b
 |.blit b=>some b
 |_=>none
def unStr:TV R.T->Option (List UInt8)
 |.str s=>some s
 |_=>none
def unSl (t:Ty):TV R.T->Option (List (Den R.T t))
 |.lst _ _ l=>castL R l
 |.nils=>some []
 |_=>none
def un1:(t:Ty)->TV R.T->Option (Den R.T t)
 |.int k=>fun v=>unInt R k v
 |.bool=>fun v=>unBool R v
 |.str=>fun v=>unStr R v
 |.slice t=>fun v=>unSl R t v
 |.st _=>fun _=>none
def hd1:List (TV R.T)->TV R.T
 | [v]=>v
 |_=>.gone
def uns:(l:List Ty)->List (TV R.T)->Option (PayT R.T l)
 | []=>fun vs=>match vs with
   | []=>some ()
   |_::_=>none
 | [t]=>fun vs=>un1 R t (hd1 R vs)
 |t::u::l=>fun vs=>match vs with
  | []=>none
  |v::vs=>match un1 R t v with
   |some x=>match uns (u::l) vs with
    |some p=>some (x,p)
    |none=>none
   |none=>none
def unSt (n:Nat):TV R.T->Option (R.T n)
 |.agg cs=>match uns R (R.lf n) cs with
  |some p=>some (R.to n p)
  |none=>none
 |_=>none
def unD:(t:Ty)->TV R.T->Option (Den R.T t)
 |.st n=>fun v=>unSt R n v
 |.int k=>fun v=>unInt R k v
 |.bool=>fun v=>unBool R v
 |.str=>fun v=>unStr R v
 |.slice t=>fun v=>unSl R t v
def TV.cells {T:Nat->Type}:TV T->List (TV T)
 |.agg cs=>cs
 |v=>[v]
mutual
def ment {T:Nat->Type} (o:Nat):TV T->Bool
 |.ref p _=>Nat.beq p o
 |.mapr p=>Nat.beq p o
 |.agg cs=>mentL o cs
 |.tup cs=>mentL o cs
 |.cref cs _=>mentL o cs
 |.fn _ a b=>mentL o a||mentL o b
 |.opt _ _ v=>ment o v
 |.vw p _=>Nat.beq p o
 |.sub p _ _ _=>Nat.beq p o
 |.eref p _ _ _=>Nat.beq p o
 |.sv p _ _ _ _ _=>Nat.beq p o
 |.sel p _ _ _ _ _=>Nat.beq p o
 |_=>false
def mentL {T:Nat->Type} (o:Nat):List (TV T)->Bool
 | []=>false
 |v::l=>ment o v||mentL o l
end
def Ob.ment {T:Nat->Type} (o:Nat):Ob T->Bool
 |.cells cs=>mentL o cs
 |.smap ks vs=>mentL o ks||mentL o vs
 |.ro b=>Ob.ment o b
 |_=>false
mutual
def wk {T:Nat->Type} (t:Nat):TV T->TV T
 |.lst (.own u) ty l=>bif Nat.beq u t then .lst .any ty l else .lst (.own u) ty l
 |.agg cs=>.agg (wkL t cs)
 |.tup cs=>.tup (wkL t cs)
 |.cref cs off=>.cref (wkL t cs) off
 |.fn f a b=>.fn f (wkL t a) (wkL t b)
 |.opt j w v=>.opt j w (wk t v)
 |v=>v
def wkL {T:Nat->Type} (t:Nat):List (TV T)->List (TV T)
 | []=>[]
 |v::l=>wk t v::wkL t l
end
def Ob.wk {T:Nat->Type} (t:Nat):Ob T->Ob T
 |.cells cs=>.cells (wkL t cs)
 |.smap ks vs=>.smap (wkL t ks) (wkL t vs)
 |.ro b=>.ro (Ob.wk t b)
 |o=>o
def mapF {α:Type} (f:α->α):List (Nat×α)->List (Nat×α)
 | []=>[]
 | (i,x)::l=>(i,f x)::mapF f l
def delF {α:Type} (i:Nat):List (Nat×α)->List (Nat×α)
 | []=>[]
 | (j,x)::l=>bif Nat.beq j i then delF i l else (j,x)::delF i l
def MS.wk {T:Nat->Type} (t:Nat) (st:MS T):MS T:=⟨mapF (Aq.wk t) st.fr,mapF (Ob.wk t) st.ob⟩
def unopt {T:Nat->Type} (j:Nat):TV T->TV T
 |.opt i w v=>bif Nat.beq i j then .gone else .opt i w v
 |v=>v
def MS.put {T:Nat->Type} (st:MS T) (i:Nat) (v:TV T):MS T:={st with fr:=(i,v)::mapF (unopt i) (delF i st.fr)}
def MS.putO {T:Nat->Type} (st:MS T) (d:Option Nat) (v:TV T):MS T:=match d with
 |some i=>st.put i v
 |none=>st
def lrn {T:Nat->Type} (j:Nat) (b:Bool):TV T->TV T
 |.opt i w v=>bif Nat.beq i j then (bif (b==w) then v else .undef) else .opt i w v
 |v=>v
def MS.learn {T:Nat->Type} (st:MS T) (j:Nat) (b:Bool):MS T:={st with fr:=(j,.blit b)::mapF (lrn j b) (delF j st.fr)}
def MS.learnO {T:Nat->Type} (st:MS T) (c:Operand) (b:Bool):MS T:=match c with
 |.tmp j=>st.learn j b
 |_=>st
def killO {T:Nat->Type} (o:Nat) (v:TV T):TV T:=bif ment o v then .gone else v
def killC {T:Nat->Type} (o:Nat):List (TV T)->List (TV T)
 | []=>[]
 |v::l=>killO o v::killC o l
def Ob.kill {T:Nat->Type} (o:Nat):Ob T->Ob T
 |.cells cs=>.cells (killC o cs)
 |v=>bif Ob.ment o v then .gone else v
def MS.new {T:Nat->Type} (st:MS T) (o:Nat) (b:Ob T):MS T:=⟨mapF (killO o) st.fr,(o,b)::mapF (Ob.kill o) (delF o st.ob)⟩
def MS.set {T:Nat->Type} (st:MS T) (o:Nat) (b:Ob T):MS T:={st with ob:=(o,b)::delF o st.ob}
def MS.del {T:Nat->Type} (st:MS T) (o:Nat):MS T:={st with ob:=delF o st.ob}
def stripO {T:Nat->Type}:Ob T->Ob T
 |.ro b=>stripO b
 |b=>b
def rdOb {T:Nat->Type} (st:MS T) (o:Nat):Option (Ob T):=match look st.ob o with
 |some b=>some (stripO b)
 |none=>none
def isRo {T:Nat->Type}:Ob T->Bool
 |.ro _=>true
 |.gone=>true
 |_=>false
def memN (i:Nat):List Nat->Bool
 | []=>false
 |j::l=>Nat.beq i j||memN i l
mutual
def solid {T:Nat->Type} (W:List Nat):TV T->Bool
 |.lst (.own _) _ _=>false
 |.ref o _=>!(memN o W)
 |.mapr o=>!(memN o W)
 |.agg cs=>solidL W cs
 |.tup cs=>solidL W cs
 |.cref cs _=>solidL W cs
 |.fn _ a b=>solidL W a&& solidL W b
 |.opt _ _ _=>false
 |.vw o _=>!(memN o W)
 |.sub o _ _ _=>!(memN o W)
 |.eref o _ _ _=>!(memN o W)
 |.sv o _ _ _ _ _=>!(memN o W)
 |.sel o _ _ _ _ _=>!(memN o W)
 |.gone=>false
 |_=>true
def solidL {T:Nat->Type} (W:List Nat):List (TV T)->Bool
 | []=>true
 |v::l=>solid W v&& solidL W l
end
def solidO {T:Nat->Type} (W:List Nat):Ob T->Bool
 |.cells cs=>solidL W cs
 |.map _ _ _=>true
 |.smap ks vs=>solidL W ks&& solidL W vs
 |.arr _ _=>true
 |.sg _=>true
 |.ro b=>solidO W b
 |.gone=>false
def selF {α:Type} (p:Nat->α->Bool) (f:α->α) (l:List (Nat×α)):List Nat->List (Nat×α)
 | []=>[]
 |i::is=>match look l i with
  |some x=>bif p i x then (i,f x)::selF p f l is else selF p f l is
  |none=>selF p f l is
def wkA {T:Nat->Type}:TV T->TV T
 |.lst (.own _) t l=>.lst .any t l
 |v=>v
def base {T:Nat->Type} (W K O:List Nat) (mark:Ob T->Ob T) (st:MS T):MS T:=
 ⟨selF (fun i v=>!(memN i W)&& solid W (wkA v)) wkA st.fr K,selF (fun o b=>!(memN o W)&& solidO W b) mark st.ob O⟩
def MS.over {T:Nat->Type} (st b:MS T):MS T:=⟨st.fr++b.fr,st.ob++b.ob⟩
def ofScalarM {T:Nat->Type}:Value->Option (TV T)
 |.bool b=>some (.blit b)
 |.int k n=>some (.int k n)
 |.string s=>some (.str s.data.toList)
 |.pointer none=>some .nilp
 |.slice none 0 0=>some .nils
 |.map none=>some .nilm
 |.nilFunc=>some .nilf
 |.nilIface=>some .nili
 |_=>none
def ofScalarsM {T:Nat->Type}:List Value->Option (List (TV T))
 | []=>some []
 |v::l=>match ofScalarM v with
  |some x=>match ofScalarsM l with
   |some y=>some (x::y)
   |none=>none
  |none=>none
def ofValueM {T:Nat->Type}:Value->Option (TV T)
 |.agg cs=>match ofScalarsM cs.toList with
  |some l=>some (.agg l)
  |none=>none
 |v=>ofScalarM v
def resG {T:Nat->Type} (g:List (Nat×Bool)):TV T->Option (TV T)
 |.opt j w v=>match look g j with
  |some u=>some (bif u==w then v else .undef)
  |none=>none
 |v=>some v
def evM {T:Nat->Type} (g:List (Nat×Bool)) (st:MS T):Operand->Option (TV T)
 |.tmp t=>match look st.fr t with
  |some v=>resG g v
  |none=>none
 |.const v=>ofValueM v
 |.func f=>some (.fn f [] [])
 |.global _=>none
def evMs {T:Nat->Type} (g:List (Nat×Bool)) (st:MS T):List Operand->Option (List (TV T))
 | []=>some []
 |x::l=>match evM g st x with
  |some v=>match evMs g st l with
   |some vs=>some (v::vs)
   |none=>none
  |none=>none
def evPs {T:Nat->Type} (g:List (Nat×Bool)) (st:MS T):List (Nat×Operand)->Option (List (Nat×TV T))
 | []=>some []
 | (i,x)::l=>match evM g st x with
   |some v=>match evPs g st l with
    |some vs=>some ((i,v)::vs)
    |none=>none
   |none=>none
def splitG:List Sg->Nat->Option (List Sg×List Sg)
 |ss,0=>some ([],ss)
 | [],_+1=>none
 |s::ss,n+1=>bif Nat.ble s.w (n+1) then (match splitG ss (n+1-s.w) with
  |some (a,b)=>some (s::a,b)
  |none=>none) else none
def unIs {T:Nat->Type} (k:IntKind):List (TV T)->Option (List Int)
 | []=>some []
 |.int k' x::l=>if k'=k then (match unIs k l with
  |some xs=>some (x::xs)
  |none=>none) else none
 |_=>none
def subG {α:Type} (l:List α):Option Int->Option Int->List α
 |none,none=>l
 |some i,none=>l.drop i.toNat
 |none,some j=>l.take j.toNat
 |some i,some j=>(l.take j.toNat).drop i.toNat
def svL {T:Nat->Type} (st:MS T) (o off:Nat) (k:IntKind) (n:Nat) (lo hi:Option Int):Option (List Int):=
 match rdOb st o with
 |some (.sg ss)=>match splitG ss off with
  |some (_,.a k' n' v::_)=>if k'=k then (bif Nat.beq n' n then some (subG v.l lo hi) else none) else none
  |_=>none
 |some (.cells cs)=>bif Nat.ble (off+n) cs.length then (match unIs k ((cs.drop off).take n) with
  |some l=>some (subG l lo hi)
  |none=>none) else none
 |_=>none
def subI {α:Type} (l:List α) (a b:Int):List α:=(l.take b.toNat).drop a.toNat
def clo1 {T:Nat->Type} (st:MS T):TV T->TV T
 |.ref o off=>match rdOb st o with
  |some (.cells cs)=>.cref cs off
  |_=>.ref o off
 |.mapr o=>match rdOb st o with
  |some (.map k e m)=>.mapc k e m
  |_=>.mapr o
 |.vw o t=>match rdOb st o with
  |some (.arr t' l)=>if t'=t then .lst .sh t' l else .vw o t
  |_=>.vw o t
 |.sub o t a b=>match rdOb st o with
  |some (.arr t' l)=>if t'=t then .lst .sh t' (subI l a b) else .sub o t a b
  |_=>.sub o t a b
 |.sv o off k n lo hi=>match svL st o off k n lo hi with
  |some l=>.lst .sh (.int k) l
  |none=>.sv o off k n lo hi
 |v=>v
def clo1s {T:Nat->Type} (st:MS T):List (TV T)->List (TV T)
 | []=>[]
 |v::l=>clo1 st v::clo1s st l
def cloM {T:Nat->Type} (st:MS T):TV T->TV T
 |.fn f a b=>.fn f (clo1s st a) (clo1s st b)
 |.agg cs=>.agg (clo1s st cs)
 |v=>clo1 st v
def cloMs {T:Nat->Type} (st:MS T):List (TV T)->List (TV T)
 | []=>[]
 |v::l=>cloM st v::cloMs st l
def oneM {T:Nat->Type}:TV T->Bool
 |.agg _=>false
 |.sg _=>false
 |.tup _=>false
 |.gone=>false
 |.undef=>false
 |.opt _ _ _=>false
 |_=>true
def oneMs {T:Nat->Type}:List (TV T)->Bool
 | []=>true
 |v::l=>oneM v&& oneMs l
def notG {T:Nat->Type}:TV T->Bool
 |.gone=>false
 |.sg _=>false
 |.opt _ _ _=>false
 |_=>true
mutual
def stV {T:Nat->Type}:TV T->Bool
 |.int _ _=>true
 |.bool _=>true
 |.blit _=>true
 |.str _=>true
 |.nilp=>true
 |.nilf=>true
 |.nilm=>true
 |.nili=>true
 |.lst .sh _ _=>true
 |.agg cs=>stL cs
 |.tup cs=>stL cs
 |.mapc _ _ _=>true
 |.cref cs _=>stL cs
 |.fn _ a b=>stL a&& stL b
 |.sg _=>true
 |_=>false
def stL {T:Nat->Type}:List (TV T)->Bool
 | []=>true
 |v::l=>stV v&& stL l
end
def er1M {T:Nat->Type}:TV T->TV T
 |.lst _ t l=>.lst .sh t l
 |v=>v
def er1Ms {T:Nat->Type}:List (TV T)->List (TV T)
 | []=>[]
 |v::l=>er1M v::er1Ms l
def erM {T:Nat->Type}:TV T->TV T
 |.lst _ t l=>.lst .sh t l
 |.agg cs=>.agg (er1Ms cs)
 |v=>v
def cl1 {T:Nat->Type}:TV T->Bool
 |.lst _ _ _=>true
 |.nils=>true
 |v=>stV v
def cl1s {T:Nat->Type}:List (TV T)->Bool
 | []=>true
 |v::l=>cl1 v&& cl1s l
def clV {T:Nat->Type}:TV T->Bool
 |.agg cs=>cl1s cs
 |v=>cl1 v
def clVs {T:Nat->Type}:List (TV T)->Bool
 | []=>true
 |v::l=>clV v&& clVs l
mutual
def cSk:Sk->Bool
 |.d _=>true
 |.l c _=>match c with
  |.any=>true
  |.sh=>true
  |_=>false
 |.agg l=>cSkL l
 |.cref l _=>cSkL l
 |.mapc _ _=>true
 |.fn _ a b=>cSkL a&& cSkL b
 |.sg _=>true
 |_=>false
def cSkL:List Sk->Bool
 | []=>true
 |k::l=>cSk k&& cSkL l
def dep:Sk->Nat
 |.agg l=>depL l+3
 |.cref l _=>depL l+3
 |.fn _ a b=>max (depL a) (depL b)+3
 |_=>3
def depL:List Sk->Nat
 | []=>0
 |k::l=>max (dep k) (depL l)
end
def flatT:Ty->Bool
 |.int _=>true
 |.bool=>true
 |.str=>true
 |_=>false
def flatSk:List Sk->Bool
 | []=>true
 |.d t::l=>flatT t&& flatSk l
 |.sg _::l=>flatSk l
 |_=>false
mutual
def encS:(k:Sk)->PayS R.T k->V
 |.d t,x=>encD R t x
 |.l _ t,x=>encD R (.slice t) x
 |.agg l,x=>.agg (encSL l x)
 |.cref l off,x=>.cref (encSL l x) off
 |.mapc k e,x=>.mapc (List.map (fun p=>encD R k p.1) x) (List.map (fun p=>encD R e p.2) x)
 |.fn f a b,x=>.fn (.func f) (encSL a x.1) (encSL b x.2)
 |.nils,_=>.lst .sh []
 |.ref _ _,_=>undefV
 |.mapr _,_=>undefV
 |.vw _ _,_=>undefV
 |.sub _ _,_=>undefV
 |.sg l,x=>.agg (sgV (upG l x))
 |.undef,_=>undefV
def encSL:(l:List Sk)->PayL R.T l->List V
 | [],_=>[]
 | [k],x=>[encS k x]
 |k::h::l,p=>encS k p.1::encSL (h::l) p.2
end
def retV:List V->V
 | [v]=>v
 |vs=>.tup vs
def capLe:Cp->Cp->Bool
 |_,.any=>true
 |.sh,.sh=>true
 |.nil,.nil=>true
 |.nil,.own _=>true
 |.full,.own _=>true
 |.full,.full=>true
 |.own t,.own u=>Nat.beq t u
 |_,_=>false
def pkLst (c:Cp) (t:Ty):TV R.T->Option (List (Den R.T t))
 |.lst c' _ l=>bif capLe c' c then castL R l else none
 |.nils=>bif capLe .nil c then some [] else none
 |_=>none
def castM {k e k' e':Ty} (m:List (Den R.T k'×Den R.T e')):Option (List (Den R.T k×Den R.T e)):=if h:k'=k/\e'=e then some (by rw[<-h.1,<-h.2];exact m) else none
mutual
def pk:(k:Sk)->TV R.T->Option (PayS R.T k)
 |.d t=>fun v=>unD R t v
 |.l c t=>fun v=>pkLst R c t v
 |.agg l=>fun v=>match v with
  |.agg cs=>pkL l cs
  |_=>none
 |.ref o off=>fun v=>match v with
  |.ref p off'=>bif Nat.beq p o&& Nat.beq off' off then some () else none
  |_=>none
 |.cref l off=>fun v=>match v with
  |.cref cs off'=>bif Nat.beq off' off then pkL l cs else none
  |_=>none
 |.mapr o=>fun v=>match v with
  |.mapr p=>bif Nat.beq p o then some () else none
  |_=>none
 |.mapc k e=>fun v=>match v with
  |.mapc _ _ m=>castM R m
  |_=>none
 |.fn f a b=>fun v=>match v with
  |.fn f' a' b'=>bif Nat.beq f' f then (match pkL a a' with
   |some x=>match pkL b b' with
    |some y=>some (x,y)
    |none=>none
   |none=>none) else none
  |_=>none
 |.nils=>fun v=>match v with
  |.nils=>some ()
  |_=>none
 |.vw o t=>fun v=>match v with
  |.vw p t'=>bif Nat.beq p o then (if t'=t then some () else none) else none
  |_=>none
 |.sub o t=>fun v=>match v with
  |.sub p t' a b=>bif Nat.beq p o then (if t'=t then some (a,b) else none) else none
  |_=>none
 |.sg l=>fun v=>match v with
  |.sg ss=>pkG l ss
  |_=>none
 |.undef=>fun v=>match v with
  |.undef=>some ()
  |_=>none
def pkL:(l:List Sk)->List (TV R.T)->Option (PayL R.T l)
 | []=>fun vs=>match vs with
   | []=>some ()
   |_::_=>none
 | [k]=>fun vs=>match vs with
   | [v]=>pk k v
   |_=>none
 |k::h::l=>fun vs=>match vs with
  | []=>none
  |v::vs=>match pk k v with
   |some x=>match pkL (h::l) vs with
    |some p=>some (x,p)
    |none=>none
   |none=>none
end
mutual
def up (c:Cp):(k:Sk)->PayS R.T k->TV R.T
 |.d t,x=>tvD R c t x
 |.l c t,x=>.lst c t x
 |.agg l,x=>.agg (upL c l x)
 |.ref o off,_=>.ref o off
 |.cref l off,x=>.cref (upL c l x) off
 |.mapr o,_=>.mapr o
 |.mapc k e,x=>.mapc k e x
 |.fn f a b,x=>.fn f (upL c a x.1) (upL c b x.2)
 |.nils,_=>.nils
 |.vw o t,_=>.vw o t
 |.sub o t,x=>.sub o t x.1 x.2
 |.sg l,x=>.sg (upG l x)
 |.undef,_=>.undef
def upL (c:Cp):(l:List Sk)->PayL R.T l->List (TV R.T)
 | [],_=>[]
 | [k],x=>[up c k x]
 |k::h::l,p=>up c k p.1::upL c (h::l) p.2
end
def pkO:(k:ObSk)->Ob R.T->Option (PayO R.T k)
 |.cells l=>fun o=>match o with
  |.cells cs=>pkL R l cs
  |_=>none
 |.st n=>fun o=>match o with
  |.cells cs=>unSt R n (.agg cs)
  |_=>none
 |.map k e=>fun o=>match o with
  |.map _ _ m=>castM R m
  |_=>none
 |.arr t=>fun o=>match o with
  |.arr _ l=>castL R l
  |_=>none
 |.sg l=>fun o=>match o with
  |.sg ss=>pkG l ss
  |_=>none
def upO:(k:ObSk)->PayO R.T k->Ob R.T
 |.cells l,x=>.cells (upL R .any l x)
 |.st n,x=>.cells (tvs R .any (R.lf n) (R.of n x))
 |.map k e,x=>.map k e x
 |.arr t,x=>.arr t x
 |.sg l,x=>.sg (upG l x)
def pkSl (st:List (Nat×TV R.T)):(l:List (Nat×Sk))->Option (PaySl R.T l)
 | []=>some ()
 | [(i,k)]=>match look st i with
   |some v=>pk R k v
   |none=>none
 | (i,k)::h::l=>match look st i with
   |some v=>match pk R k v with
    |some x=>match pkSl st (h::l) with
     |some p=>some (x,p)
     |none=>none
    |none=>none
   |none=>none
def upSl:(l:List (Nat×Sk))->PaySl R.T l->List (Nat×TV R.T)
 | [],_=>[]
 | [(i,k)],x=>[(i,up R .any k x)]
 | (i,k)::h::l,p=>(i,up R .any k p.1)::upSl (h::l) p.2
def pkOs (st:List (Nat×Ob R.T)):(l:List (Nat×ObSk))->Option (PayOs R.T l)
 | []=>some ()
 | [(i,k)]=>match look st i with
   |some v=>pkO R k v
   |none=>none
 | (i,k)::h::l=>match look st i with
   |some v=>match pkO R k v with
    |some x=>match pkOs st (h::l) with
     |some p=>some (x,p)
     |none=>none
    |none=>none
   |none=>none
def upOs:(l:List (Nat×ObSk))->PayOs R.T l->List (Nat×Ob R.T)
 | [],_=>[]
 | [(i,k)],x=>[(i,upO R k x)]
 | (i,k)::h::l,p=>(i,upO R k p.1)::upOs (h::l) p.2
def pack (st:MS R.T):(s:Shape)->Option (Pay R.T s)
 | ⟨s,[]⟩=>pkSl R st.fr s
 | ⟨s,o::os⟩=>match pkSl R st.fr s with
   |some x=>match pkOs R st.ob (o::os) with
    |some y=>some (x,y)
    |none=>none
   |none=>none
def isE {T:Nat->Type}:TV T->Bool
 |.nils=>true
 |.lst .nil _ l=>l.isEmpty
 |.lst .full _ l=>l.isEmpty
 |_=>false
def prepS {T:Nat->Type} (W:List Nat):List (Nat×Sk)->MS T->MS T
 | [],st=>st
 | (i,.vw o t)::l,st=>match look st.fr i with
   |some v=>bif isE v&& memN o W then prepS W l ⟨(i,.vw o t)::(st.new o (.arr t [])).fr,(st.new o (.arr t [])).ob⟩ else prepS W l st
   |none=>prepS W l st
 |_::l,st=>prepS W l st
def prepO1 {T:Nat->Type} (W:List Nat) (o:Nat) (k:ObSk) (st:MS T):MS T:=match k with
 |.cells l=>match l with
  | [.vw p t]=>match look st.ob o with
    |some (.cells cs)=>match cs with
     | [v]=>bif isE v&& memN p W&& !(Nat.beq o p) then ⟨(st.new p (.arr t [])).fr,(o,.cells [.vw p t])::(st.new p (.arr t [])).ob⟩ else st
     |_=>st
    |_=>st
  | [.sub p t]=>match look st.ob o with
    |some (.cells cs)=>match cs with
     | [v]=>bif isE v&& memN p W&& !(Nat.beq o p) then ⟨(st.new p (.arr t [])).fr,(o,.cells [.sub p t 0 0])::(st.new p (.arr t [])).ob⟩ else st
     |_=>st
    |_=>st
  |_=>st
 |_=>st
def prepO {T:Nat->Type} (W:List Nat):List (Nat×ObSk)->MS T->MS T
 | [],st=>st
 | (o,k)::l,st=>prepO W l (prepO1 W o k st)
def packW (W:List Nat) (st:MS R.T) (s:Shape):Option (Pay R.T s):=pack R (prepS W s.sl (prepO W s.ob st)) s
def unpack:(s:Shape)->Pay R.T s->MS R.T
 | ⟨s,[]⟩,x=>⟨upSl R s x,[]⟩
 | ⟨s,o::os⟩,x=>⟨upSl R s x.1,upOs R (o::os) x.2⟩
def exEq:Ex->Ex->Bool
 |.normal,.normal=>true
 |.ret,.ret=>true
 |.exit i,.exit j=>Nat.beq i j
 |_,_=>false
def packOut (W:List Nat) (e:Ex) (st:MS R.T):(l:List (Ex×Shape))->Option (Out R.T l)
 | []=>none
 | [(x,s)]=>bif exEq e x then packW R W st s else none
 | (x,s)::h::l=>bif exEq e x then (match packW R W st s with
   |some p=>some (.inl p)
   |none=>none) else (match packOut W e st (h::l) with
   |some p=>some (.inr p)
   |none=>none)
def unpackOut {β:Type} (b:MS R.T) (k:Ex->MS R.T->Option β):(l:List (Ex×Shape))->Out R.T l->Option β
 | [],_=>none
 | [(x,s)],p=>k x (b.over (unpack R s p))
 | (x,s)::h::l,p=>Sum.elim (fun q=>k x (b.over (unpack R s q))) (fun q=>unpackOut b k (h::l) q) p
end
end Aq
end
