import Derived.Test.YtgdialomgeijcaaGreatF3504
set_option linter.all false
section
namespace Aq
open Go
section
variable {E:Env}
def dL (S T:Evl):Prop:=(∀c fr Y r,S.code c fr Y=some r->T.code c fr Y=some r)/\∀f args d Y r,S.call f args d Y=some r->T.call f args d Y=some r
variable {S T:Evl}
theorem vV (h:dL S T) {f:FuncId} {args:List V} {v:V} (hc:callPure E S f args=some v):callPure E T f args=some v:=by
 unfold callPure at hc⊢
 cases hg:E.summ f with
 |some g=>simp only[hg] at hc⊢;exact hc
 |none=>
  simp only[hg,iP] at hc⊢
  obtain⟨x,h1,h2⟩:=hc
  exact⟨x,h.2 _ _ _ _ _ h1,h2⟩
theorem Ba (h:dL S T) {l:Nat} {args:List V} {Y:Sig} {r:V×Sig} (hc:iD S l args Y=some r):iD T l args Y=some r:=by
 unfold iD at hc⊢
 simp only[iP] at hc⊢
 obtain⟨r0,hl,hc⟩:=hc
 refine⟨r0,hl,?_⟩
 split at hc
 .rename_i hst
  rw[if_pos hst]
  simp only[iP] at hc⊢
  obtain⟨⟨e1,ay,Y1⟩,jG,hc⟩:=hc
  refine⟨(e1,ay,Y1),h.1 _ _ _ _ jG,?_⟩
  cases e1 with
  |normal=>
   simp only[iP] at hc⊢
   obtain⟨r1,hl1,hc⟩:=hc
   refine⟨r1,hl1,?_⟩
   split at hc
   .rename_i je
    rw[if_pos je]
    simp only[iP] at hc⊢
    obtain⟨x,hb,y,hy,hc⟩:=hc
    exact⟨x,h.1 _ _ _ _ hb,y,hy,hc⟩
   .simp at hc
  |exit i=>simp at hc
  |ret=>simp at hc
 .simp at hc
theorem Bb (h:dL S T) {d:Nat} {Y:Sig} {fv:V} {args:List V} {r:V×Sig} (hc:bV E S d Y fv args=some r):bV E T d Y fv args=some r:=by
 unfold bV at hc⊢
 split at hc
 .split at hc
  .rename_i hi;simp only[hi,if_true];exact h.2 _ _ _ _ _ hc
  .rename_i hi
   simp only[iP] at hc
   obtain⟨as,h1,v,h2,h3⟩:=hc
   simp only[hi,h1,Option.bind_some,vV h h2]
   exact h3
 .exact Ba h hc
 .simp at hc
theorem JM (h:dL S T) {Y:Sig} {st:Nat} {fv:V} {args:List V} {r:V×Sig} (hc:iF E S Y st fv args=some r):iF E T Y st fv args=some r:=by
 unfold iF at hc
 cases hc
theorem vW (h:dL S T) {fr:Fr} {Y:Sig} {st:Nat} {o:Oper} {r:V×Fr×Sig} (hc:opC E S fr Y st o=some r):opC E T fr Y st o=some r:=by
 unfold opC at hc⊢
 split at hc
 .rename_i c ho
  simp only[ho] at hc⊢
  split at hc
  .exact hc
  .rename_i f hf
   split at hc
   .rename_i aW
    simp only[aW,if_true]
    simp only[PZ] at hc⊢
    obtain⟨x,h1,h2⟩:=hc
    exact⟨x,JM h h1,h2⟩
   rename_i aW
   simp only[aW,if_false,P8]
   simp only[PZ] at hc⊢
   obtain⟨x,h1,h2⟩:=hc
   exact⟨x,Bb h h1,h2⟩
  .simp at hc
 .simp at hc
 .exact hc
theorem rG (h:dL S T) (all:List Oper):∀(os:List Oper) (st:Nat) (fr:Fr) (Y:Sig) (r:Fr×Sig),opsE E S all st os fr Y=some r->opsE E T all st os fr Y=some r:=by
 intro os
 induction os with
 |nil=>intro st fr Y r hc;exact hc
 |cons o os ih=>
  intro st fr Y r hc
  simp only[opsE,iP] at hc⊢
  obtain⟨t,h1,h2⟩:=hc
  refine⟨t,h1,?_⟩
  cases t with
  |true=>
   simp only[if_true,iP] at h2⊢
   obtain⟨x,h3,h4⟩:=h2
   exact⟨x,vW h h3,ih _ _ _ _ h4⟩
  |false=>
   simp only[P8,if_false] at h2⊢
   exact ih _ _ _ _ h2
theorem vX (h:dL S T) (all:List Oper):∀(os:List Oper) (st:Nat) (fr:Fr) (Y:Sig) (r:List Foot×Fr×Sig),d9 E S all st os fr Y=some r->d9 E T all st os fr Y=some r:=by
 intro os
 induction os with
 |nil=>intro st fr Y r hc;exact hc
 |cons o os ih=>
  intro st fr Y r hc
  simp only[d9,iP] at hc⊢
  obtain⟨t,h1,h2⟩:=hc
  refine⟨t,h1,?_⟩
  cases t with
  |true=>
   simp only[if_true,iP,PZ] at h2⊢
   obtain⟨x,h3,y,h4,h5⟩:=h2
   exact⟨x,vW h h3,y,ih _ _ _ _ h4,h5⟩
  |false=>
   simp only[P8,if_false,PZ] at h2⊢
   obtain⟨y,h4,h5⟩:=h2
   exact⟨y,ih _ _ _ _ h4,h5⟩
theorem JN (h:dL S T) {ops:List Oper} {base i:Nat} {fr:Fr} {Y:Sig} {r:Fr×Sig} (hc:bW E S ops base i fr Y=some r):bW E T ops base i fr Y=some r:=by
 unfold bW at hc⊢
 split at hc
 .exact hc
 .simp only[iP] at hc⊢
  obtain⟨t,h1,h2⟩:=hc
  refine⟨t,h1,?_⟩
  cases t with
  |true=>
   simp only[if_true,PZ] at h2⊢
   obtain⟨x,h3,h4⟩:=h2
   exact⟨x,vW h h3,h4⟩
  |false=>simpa using h2
theorem JO (h:dL S T) {ms:List Nat} {ops:List Oper} {base:Nat} {x y:Fr×Sig} (hf:Free E S ms ops base x y):Free E T ms ops base x y:=by
 obtain⟨s,T',W,h0,hn,pF,hloc,hr⟩:=hf
 refine⟨s,T',W,h0,hn,pF,fun i hi x hx=>?_,hr⟩
 obtain⟨y,h1,h2⟩:=hloc i hi x hx
 exact⟨y,JN h h1,h2⟩
theorem lU (h:dL S T):∀(c:Code) (fr:Fr) (Y:Sig) (r:Ex×Fr×Sig),aL E S c fr Y=some r->aL E T c fr Y=some r:=by
 intro c
 induction c with
 |region id ops dr=>
  intro fr Y r hc
  simp only[aL] at hc⊢
  split at hc
  .rename_i hd
   simp only[hd,if_true,iP] at hc⊢
   obtain⟨x,h1,h2⟩:=hc
   refine⟨x,vX h _ _ _ _ _ _ h1,?_⟩
   split at h2
   .rename_i hp;rw[if_pos hp];exact h2
   .rename_i hp
    rw[if_neg hp]
    unfold tV at h2⊢
    split at h2
    .rename_i hf
     rw[if_pos ⟨hf.1,JO h hf.2⟩];exact h2
    .cases h2
  .rename_i hd
   simp only[hd,P8,if_false,PZ] at hc⊢
   obtain⟨x,h1,h2⟩:=hc
   exact⟨x,rG h _ _ _ _ _ _ h1,h2⟩
 |seq a b iha ihb=>
  intro fr Y r hc
  simp only[aL,iP] at hc⊢
  obtain⟨⟨e,ay,Y1⟩,h1,h2⟩:=hc
  refine⟨(e,ay,Y1),iha _ _ _ h1,?_⟩
  cases e with
  |normal=>exact ihb _ _ _ h2
  |exit i=>exact h2
  |ret=>exact h2
 |cond c a b iha ihb=>
  intro fr Y r hc
  simp only[aL,iP] at hc⊢
  obtain⟨t,h1,h2⟩:=hc
  refine⟨t,h1,?_⟩
  cases t with
  |true=>simp only[if_true] at h2⊢;exact iha _ _ _ h2
  |false=>simp only[P8,if_false] at h2⊢;exact ihb _ _ _ h2
 |block id c ih=>
  intro fr Y r hc
  simp only[aL,PZ] at hc⊢
  obtain⟨x,h1,h2⟩:=hc
  exact⟨x,ih _ _ _ h1,h2⟩
 |loop c ih=>
  intro fr Y r hc
  simp only[aL,iP] at hc⊢
  obtain⟨⟨e,ay,Y1⟩,h1,h2⟩:=hc
  refine⟨(e,ay,Y1),ih _ _ _ h1,?_⟩
  cases e with
  |normal=>exact h.1 _ _ _ _ h2
  |exit i=>exact h2
  |ret=>exact h2
 |rangeFunc f ps a b iha ihb=>
  intro fr Y r hc
  simp only[aL] at hc⊢
  split at hc
  .rename_i hf
   rw[if_pos hf]
   simp only[iP] at hc⊢
   obtain⟨x,h1,h2⟩:=hc
   exact⟨x,Bb h h1,h2⟩
  .simp at hc
 |scope c ih=>intro fr Y r hc;simp only[aL] at hc⊢;exact ih _ _ _ hc
 |_=>intro fr Y r hc;simpa [aL] using hc
theorem JQ (h:dL S T) {f:FuncId} {args:List V} {d:Nat} {Y:Sig} {r:V×Sig} (hc:j3 E S f args d Y=some r):j3 E T f args d Y=some r:=by
 simp only[j3,iP] at hc⊢
 obtain⟨fn,h1,c,h2,h3⟩:=hc
 refine⟨fn,h1,c,h2,?_⟩
 split at h3
 .rename_i hok
  rw[if_pos hok]
  simp only[iP] at h3⊢
  obtain⟨x,h4,h5⟩:=h3
  exact⟨x,h.1 _ _ _ _ h4,h5⟩
 .simp at h3
theorem JR:∀n,dL (evl E n) (evl E (n+1)):=by
 intro n
 induction n with
 |zero=>exact⟨(fun _ _ _ _ h=>by cases h),(fun _ _ _ _ _ h=>by cases h)⟩
 |succ n ih=>exact⟨fun c fr Y r h=>lU ih c fr Y r h,fun f args d Y r h=>JQ ih h⟩
theorem dL.refl (S:Evl):dL S S:=⟨fun _ _ _ _ h=>h,fun _ _ _ _ _ h=>h⟩
theorem dL.trans {S T UU:Evl} (h:dL S T) (g:dL T UU):dL S UU:=⟨fun _ _ _ _ x=>g.1 _ _ _ _ (h.1 _ _ _ _ x),fun _ _ _ _ _ x=>g.2 _ _ _ _ _ (h.2 _ _ _ _ _ x)⟩
theorem eZ {n m:Nat} (h:n<=m):dL (evl E n) (evl E m):=by
 induction m with
 |zero=>obtain rfl:n=0:=by omega
        exact .refl _
 |succ m ih=>
  by_cases e:n=m+1
  .subst e;exact .refl _
  .exact(ih (by omega)).trans (JR m)
end
section
variable (E:Env)
def OW (all:List Oper) (st:Nat) (os:List Oper) (fr:Fr) (Y:Sig) (Q:Fr->Sig->Prop):Prop:=
 ∃n fr' Y',opsE E (evl E n) all st os fr Y=some (fr',Y')/\Q fr' Y'
def aN (ms:List Nat) (all:List Oper) (st:Nat) (os:List Oper) (fr:Fr) (Y:Sig) (fs:List Foot) (Q:Fr->Sig->Prop):Prop:=
 ∃n fs' fr' Y',d9 E (evl E n) all st os fr Y=some (fs',fr',Y')/\pairsOK ms (fs++fs')=true/\Q fr' Y'
def CW (c:Code) (fr:Fr) (Y:Sig) (Q:Ex->Fr->Sig->Prop):Prop:=
 ∃n e fr' Y',aL E (evl E n) c fr Y=some (e,fr',Y')/\Q e fr' Y'
def Pure (f:FuncId) (args:List V) (v:V):Prop:=∃n,callPure E (evl E n) f args=some v
def Imp (f:FuncId) (args:List V) (d:Nat) (Y:Sig) (Q:V->Sig->Prop):Prop:=∃n v Y',(evl E n).call f args d Y=some (v,Y')/\Q v Y'
end
section
variable {E:Env} {fr:Fr} {Y:Sig}
theorem Pure.ok (hE:EnvOK E) {f:FuncId} {args:List V} {v:V} (h:Pure E f args v):PureOK E f args v:=h.elim fun _ h=>JL hE h
theorem OW.mono {all:List Oper} {st:Nat} {os:List Oper} {Q Q':Fr->Sig->Prop} (h:OW E all st os fr Y Q) (hq:∀fr Y,Q fr Y->Q' fr Y):OW E all st os fr Y Q':=
 let ⟨n,fr',Y',h1,h2⟩:=h;⟨n,fr',Y',h1,hq _ _ h2⟩
theorem CW.mono {c:Code} {Q Q':Ex->Fr->Sig->Prop} (h:CW E c fr Y Q) (hq:∀e fr Y,Q e fr Y->Q' e fr Y):CW E c fr Y Q':=
 let ⟨n,e,fr',Y',h1,h2⟩:=h;⟨n,e,fr',Y',h1,hq _ _ _ h2⟩
theorem OW.nil {all:List Oper} {st:Nat} {Q:Fr->Sig->Prop} (h:Q fr Y):OW E all st [] fr Y Q:=⟨0,fr,Y,rfl,h⟩
theorem OW.op {all:List Oper} {st:Nat} {o:Oper} {os:List Oper} {v:V} {Y1:Sig} {Q:Fr->Sig->Prop} (hw:aO all fr o=some true) (hop:∀S,opC E S fr Y st o=some (v,fr,Y1))
 (h:OW E all (st+1) os (fr.put o.dst v) Y1 Q):OW E all st (o::os) fr Y Q:=by
 obtain⟨n,fr',Y',h1,h2⟩:=h
 exact⟨n,fr',Y',by simp only[opsE,hw,Option.bind_some,if_true,hop,h1],h2⟩
theorem OW.skip {all:List Oper} {st:Nat} {o:Oper} {os:List Oper} {Q:Fr->Sig->Prop} (hw:aO all fr o=some false) (h:OW E all (st+1) os (fr.put o.dst undefV) Y Q):OW E all st (o::os) fr Y Q:=by
 obtain⟨n,fr',Y',h1,h2⟩:=h
 exact⟨n,fr',Y',by simp only[opsE,hw,Option.bind_some,P8,if_false,h1],h2⟩
theorem Bc {d:Nat} {g:FuncId} {a b args as:List V} {v:V} {n:Nat} (hi:E.imp g=false) (has:(a++args++b).mapM (closeV 20 Y)=some as) (hp:callPure E (evl E n) g as=some v)
 (hc:((a++args++b).all (fun x=>pclean (er x))||flat v)=true):bV E (evl E n) d Y (.fn (.func g) a b) args=some (v,Y):=by
 unfold bV
 simp only[hi,P8,if_false,has,Option.bind_some,hp,hc,if_true]
theorem rH {o:Oper} {f:Operand} {g:FuncId} {a b:List V} (hf:fr.ev E f= .fn (.func g) a b) (h:∀d,o.dst=some d->E.own g d=false):eO E fr o f=false:=by
 unfold eO
 rw[hf]
 cases hd:o.dst with
 |none=>rfl
 |some d=>exact h d hd
def rJ (E:Env) (f:FuncId) (as:List V) (sz:Nat) (l:List V):Prop:=∃n v Y1,(evl E n).call f as 1 Sig.init=some (v,Y1)/\∀st Y,(∃c,(c= .nil\/c= .full)/\ou Y st Y1 v=some (.lst c l,Y))\/ou Y st Y1 v=some (.lst (.own sz st) l,Y.setTop st l.length)
theorem rJ.of {f:FuncId} {as:List V} {sz:Nat} {l:List V} {n:Nat} {c:Cap} {Y1:Sig} (h:(evl E n).call f as 1 Sig.init=some (.lst c l,Y1)) (hp:pcleanL l=true) (hc:c= .nil\/c= .full\/∃s,c= .own sz s/\Y1.top s=l.length):rJ E f as sz l:=by
 refine⟨n,_,Y1,h,fun st Y=>?_⟩
 rcases hc with rfl|rfl| ⟨s,rfl,ht⟩
 .exact .inl ⟨.nil,.inl rfl,by unfold ou;dsimp only;rw[if_pos hp]⟩
 .exact .inl ⟨.full,.inr rfl,by unfold ou;dsimp only;rw[if_pos hp]⟩
 .exact .inr (by unfold ou;dsimp only;rw[if_pos hp,if_pos ht])
theorem OW.call {all:List Oper} {st:Nat} {o:Oper} {os:List Oper} {v:V} {Q:Fr->Sig->Prop} {c:Call} {f:Operand} {g:FuncId} {a b as:List V} (hw:aO all fr o=some true) (ho:o.op= .call c) (bH:c.callee= .value f)
 (hf:fr.ev E f= .fn (.func g) a b) (hi:E.imp g=false) (has:(a++c.args.toList.map (fr.ev E)++b).mapM (closeV 20 Y)=some as) (hp:Pure E g as v)
 (hc:((a++c.args.toList.map (fr.ev E)++b).all (fun x=>pclean (er x))||flat v)=true) (h:OW E all (st+1) os (fr.put o.dst v) Y Q) (aW:∀d,o.dst=some d->E.own g d=false:=by intros;rfl):OW E all st (o::os) fr Y Q:=by
 obtain⟨n,fr',Y',h1,h2⟩:=h
 obtain⟨m,hm⟩:=hp
 have hm':=vV (eZ (Q5 n m)) hm
 have h1':=rG (eZ (Q9 n m)) _ _ _ _ _ _ h1
 refine⟨max n m,fr',Y',?_,h2⟩
 simp only[opsE,hw,Option.bind_some,if_true,opC,ho,bH,rH hf aW,P8,if_false,hf,Bc hi has hm' hc,Option.map_some,h1']
theorem OW.callI {all:List Oper} {st:Nat} {o:Oper} {os:List Oper} {Q:Fr->Sig->Prop} {c:Call} {f:Operand} {g:FuncId} {a b:List V} (hw:aO all fr o=some true) (ho:o.op= .call c) (bH:c.callee= .value f)
 (hf:fr.ev E f= .fn (.func g) a b) (hi:E.imp g=true) (hp:Imp E g (a++c.args.toList.map (fr.ev E)++b) (fr.d+1) Y (fun v Y1=>OW E all (st+1) os (fr.put o.dst v) Y1 Q)) (aW:∀d,o.dst=some d->E.own g d=false:=by intros;rfl):OW E all st (o::os) fr Y Q:=by
 obtain⟨m,v,Y1,hm,n,fr',Y',h1,h2⟩:=hp
 have hm':=(eZ (Q5 n m)).2 _ _ _ _ _ hm
 have h1':=rG (eZ (Q9 n m)) _ _ _ _ _ _ h1
 refine⟨max n m,fr',Y',?_,h2⟩
 have:bV E (evl E (max n m)) fr.d Y (.fn (.func g) a b) (c.args.toList.map (fr.ev E))=some (v,Y1):=by
  unfold bV;simp only[hi,if_true];exact hm'
 simp only[opsE,hw,Option.bind_some,if_true,opC,ho,bH,rH hf aW,P8,if_false,hf,this,Option.map_some,h1']
theorem aN.nil {ms:List Nat} {all:List Oper} {st:Nat} {fs:List Foot} {Q:Fr->Sig->Prop} (hp:pairsOK ms fs=true) (h:Q fr Y):aN E ms all st [] fr Y fs Q:=⟨0,[],fr,Y,rfl,by simpa using hp,h⟩
theorem aN.op {ms:List Nat} {all:List Oper} {st:Nat} {o:Oper} {os:List Oper} {v:V} {Y1:Sig} {fs:List Foot} {Q:Fr->Sig->Prop} (hw:aO all fr o=some true) (hop:∀S,opC E S fr Y st o=some (v,fr,Y1))
 (h:aN E ms all (st+1) os (fr.put o.dst v) Y1 (fs++[aX E all fr o true]) Q):aN E ms all st (o::os) fr Y fs Q:=by
 obtain⟨n,fs',fr',Y',h1,h2,h3⟩:=h
 exact⟨n,aX E all fr o true::fs',fr',Y',by simp only[d9,hw,Option.bind_some,if_true,hop,h1,Option.map_some],by simpa using h2,h3⟩
theorem aN.skip {ms:List Nat} {all:List Oper} {st:Nat} {o:Oper} {os:List Oper} {fs:List Foot} {Q:Fr->Sig->Prop} (hw:aO all fr o=some false)
 (h:aN E ms all (st+1) os (fr.put o.dst undefV) Y (fs++[aX E all fr o false]) Q):aN E ms all st (o::os) fr Y fs Q:=by
 obtain⟨n,fs',fr',Y',h1,h2,h3⟩:=h
 exact⟨n,aX E all fr o false::fs',fr',Y',by simp only[d9,hw,Option.bind_some,P8,if_false,h1,Option.map_some],by simpa using h2,h3⟩
theorem aN.call {ms:List Nat} {all:List Oper} {st:Nat} {o:Oper} {os:List Oper} {v:V} {fs:List Foot} {Q:Fr->Sig->Prop} {c:Call} {f:Operand} {g:FuncId} {a b as:List V} (hw:aO all fr o=some true) (ho:o.op= .call c)
 (bH:c.callee= .value f) (hf:fr.ev E f= .fn (.func g) a b) (hi:E.imp g=false) (has:(a++c.args.toList.map (fr.ev E)++b).mapM (closeV 20 Y)=some as) (hp:Pure E g as v)
 (hc:((a++c.args.toList.map (fr.ev E)++b).all (fun x=>pclean (er x))||flat v)=true) (h:aN E ms all (st+1) os (fr.put o.dst v) Y (fs++[aX E all fr o true]) Q) (aW:∀d,o.dst=some d->E.own g d=false:=by intros;rfl):aN E ms all st (o::os) fr Y fs Q:=by
 obtain⟨n,fs',fr',Y',h1,h2,h3⟩:=h
 obtain⟨m,hm⟩:=hp
 have hm':=vV (eZ (Q5 n m)) hm
 have h1':=vX (eZ (Q9 n m)) _ _ _ _ _ _ h1
 refine⟨max n m,aX E all fr o true::fs',fr',Y',?_,by simpa using h2,h3⟩
 simp only[d9,hw,Option.bind_some,if_true,opC,ho,bH,rH hf aW,P8,if_false,hf,Bc hi has hm' hc,Option.map_some,h1']
theorem aN.callI {ms:List Nat} {all:List Oper} {st:Nat} {o:Oper} {os:List Oper} {fs:List Foot} {Q:Fr->Sig->Prop} {c:Call} {f:Operand} {g:FuncId} {a b:List V} (hw:aO all fr o=some true) (ho:o.op= .call c)
 (bH:c.callee= .value f) (hf:fr.ev E f= .fn (.func g) a b) (hi:E.imp g=true)
 (hp:Imp E g (a++c.args.toList.map (fr.ev E)++b) (fr.d+1) Y (fun v Y1=>aN E ms all (st+1) os (fr.put o.dst v) Y1 (fs++[aX E all fr o true]) Q)) (aW:∀d,o.dst=some d->E.own g d=false:=by intros;rfl):aN E ms all st (o::os) fr Y fs Q:=by
 obtain⟨m,v,Y1,hm,n,fs',fr',Y',h1,h2,h3⟩:=hp
 have hm':=(eZ (Q5 n m)).2 _ _ _ _ _ hm
 have h1':=vX (eZ (Q9 n m)) _ _ _ _ _ _ h1
 refine⟨max n m,aX E all fr o true::fs',fr',Y',?_,by simpa using h2,h3⟩
 have:bV E (evl E (max n m)) fr.d Y (.fn (.func g) a b) (c.args.toList.map (fr.ev E))=some (v,Y1):=by
  unfold bV;simp only[hi,if_true];exact hm'
 simp only[d9,hw,Option.bind_some,if_true,opC,ho,bH,rH hf aW,P8,if_false,hf,this,Option.map_some,h1']
end
def Sig.bump (Y:Sig) (k:Nat):Sig:={Y with next:=Y.next+k}
section
variable {E:Env} {fr:Fr} {Y:Sig}
theorem CW.region {id:Nat} {ops:Array Oper} {Q:Ex->Fr->Sig->Prop} (h:OW E ops.toList Y.next ops.toList fr (Y.bump ops.toList.length) (fun fr Y=>Q .normal fr Y)):CW E (.region id ops false) fr Y Q:=by
 obtain⟨n,fr',Y',h1,h2⟩:=h
 exact⟨n,.normal,fr',Y',by simp only[aL,P8,if_false];rw[show opsE E (evl E n) ops.toList Y.next ops.toList fr {Y with next:=Y.next+ops.toList.length}=some (fr',Y') from h1];rfl,h2⟩
theorem CW.draw {id:Nat} {ops:Array Oper} {Q:Ex->Fr->Sig->Prop} (he:edgesOK ops.toList=true)
 (h:aN E (preM ops.toList) ops.toList Y.next ops.toList fr (Y.bump ops.toList.length) [] (fun fr Y=>Q .normal fr Y)):CW E (.region id ops true) fr Y Q:=by
 obtain⟨n,fs,fr',Y',h1,h2,h3⟩:=h
 refine⟨n,.normal,fr',Y',?_,h3⟩
 simp only[aL,if_true]
 rw[show d9 E (evl E n) ops.toList Y.next ops.toList fr {Y with next:=Y.next+ops.toList.length}=some (fs,fr',Y') from h1]
 simp only[Option.bind_some,he,Bool.true_and]
 rw[if_pos (by simpa using h2)]
def SeqQ (E:Env) (b:Code) (Q:Ex->Fr->Sig->Prop) (e:Ex) (fr:Fr) (Y:Sig):Prop:=match e with
 |.normal=>CW E b fr Y Q
 |e=>Q e fr Y
theorem CW.seq {a b:Code} {Q:Ex->Fr->Sig->Prop} (h:CW E a fr Y (SeqQ E b Q)):CW E (.seq a b) fr Y Q:=by
 obtain⟨n,e,ay,Y1,h1,h2⟩:=h
 cases e with
 |normal=>
  obtain⟨m,e,fr',Y',h3,h4⟩:=h2
  refine⟨max n m,e,fr',Y',?_,h4⟩
  simp only[aL,lU (eZ (Q9 n m)) _ _ _ _ h1,Option.bind_some,lU (eZ (Q5 n m)) _ _ _ _ h3]
 |exit i=>exact⟨n,.exit i,ay,Y1,by simp only[aL,h1,Option.bind_some],h2⟩
 |ret=>exact⟨n,.ret,ay,Y1,by simp only[aL,h1,Option.bind_some],h2⟩
theorem CW.skip {Q:Ex->Fr->Sig->Prop} (h:Q .normal fr Y):CW E .skip fr Y Q:=⟨0,.normal,fr,Y,rfl,h⟩
theorem CW.ret {Q:Ex->Fr->Sig->Prop} (h:Q .ret fr Y):CW E .ret fr Y Q:=⟨0,.ret,fr,Y,rfl,h⟩
theorem CW.exit {i:Nat} {Q:Ex->Fr->Sig->Prop} (h:Q (.exit i) fr Y):CW E (.exit i) fr Y Q:=⟨0,.exit i,fr,Y,rfl,h⟩
theorem CW.cond {c:Operand} {a b:Code} {t:Bool} {Q:Ex->Fr->Sig->Prop} (hc:fr.ev E c= .bool t) (ht:t=true->CW E a fr Y Q) (hf:t=false->CW E b fr Y Q):CW E (.cond c a b) fr Y Q:=by
 cases t with
 |true=>
  obtain⟨n,e,fr',Y',h1,h2⟩:=ht rfl
  exact⟨n,e,fr',Y',by simp only[aL,hc,dY,Option.bind_some,if_true,h1],h2⟩
 |false=>
  obtain⟨n,e,fr',Y',h1,h2⟩:=hf rfl
  exact⟨n,e,fr',Y',by simp only[aL,hc,dY,Option.bind_some,P8,if_false,h1],h2⟩
def BlkQ (id:Nat) (Q:Ex->Fr->Sig->Prop) (e:Ex) (fr:Fr) (Y:Sig):Prop:=match e with
 |.exit i=>if i=id then Q .normal fr Y else Q (.exit i) fr Y
 |e=>Q e fr Y
theorem CW.block {id:Nat} {c:Code} {Q:Ex->Fr->Sig->Prop} (h:CW E c fr Y (BlkQ id Q)):CW E (.block id c) fr Y Q:=by
 obtain⟨n,e,fr',Y',h1,h2⟩:=h
 cases e with
 |normal=>exact⟨n,.normal,fr',Y',by simp only[aL,h1,Option.map_some],h2⟩
 |ret=>exact⟨n,.ret,fr',Y',by simp only[aL,h1,Option.map_some],h2⟩
 |exit i=>
  simp only[BlkQ] at h2
  split at h2
  .rename_i hi
   exact⟨n,.normal,fr',Y',by simp only[aL,h1,Option.map_some,if_pos hi],h2⟩
  .rename_i hi
   exact⟨n,.exit i,fr',Y',by simp only[aL,h1,Option.map_some,if_neg hi],h2⟩
theorem CW.scope {c:Code} {Q:Ex->Fr->Sig->Prop} (h:CW E c fr Y Q):CW E (.scope c) fr Y Q:=by
 obtain⟨n,e,fr',Y',h1,h2⟩:=h
 exact⟨n,e,fr',Y',by simp only[aL,h1],h2⟩
theorem CW.label {l:Nat} {Q:Ex->Fr->Sig->Prop} (h:Q .normal fr Y):CW E (.label l) fr Y Q:=⟨0,.normal,fr,Y,by simp only[aL],h⟩
def LoopQ (E:Env) (c:Code) (Q:Ex->Fr->Sig->Prop) (e:Ex) (fr:Fr) (Y:Sig):Prop:=match e with
 |.normal=>CW E (.loop c) fr Y Q
 |e=>Q e fr Y
theorem CW.loop {c:Code} {Q:Ex->Fr->Sig->Prop} (h:CW E c fr Y (LoopQ E c Q)):CW E (.loop c) fr Y Q:=by
 obtain⟨n,e,ay,Y1,h1,h2⟩:=h
 cases e with
 |normal=>
  obtain⟨m,e,fr',Y',h3,h4⟩:=h2
  refine⟨max n m+1,e,fr',Y',?_,h4⟩
  simp only[aL,lU (eZ (show n<=max n m+1 by omega)) _ _ _ _ h1,Option.bind_some]
  exact lU (eZ (Q5 n m)) _ _ _ _ h3
 |exit i=>exact⟨n,.exit i,ay,Y1,by simp only[aL,h1,Option.bind_some],h2⟩
 |ret=>exact⟨n,.ret,ay,Y1,by simp only[aL,h1,Option.bind_some],h2⟩
def RetQ (E:Env) (rs:List ResultVar) (R:V->Sig->Prop) (e:Ex) (fr:Fr) (Y:Sig):Prop:=match e with
 |.exit _=>False
 |_=>∃vs,rs.mapM (resV E fr Y)=some vs/\R (match vs with| [v]=>v|vs=>.tup vs) Y
theorem Imp.of {f:FuncId} {args:List V} {d:Nat} {fn:Func} {c:Code} {R:V->Sig->Prop} (hf:E.P.funcs[f]? =some fn) (hb:fn.body=some c) (hok:(decide (args.length<=fn.ntmps)&& aM fn.ntmps c)=true)
 (h:CW E c {d:=d,om:=E.om f,tm:=fun i=>args.getD i undefV} Y (RetQ E fn.results.toList R)):Imp E f args d Y R:=by
 obtain⟨n,e,fr',Y',h1,h2⟩:=h
 have hok':args.length<=fn.ntmps/\aM fn.ntmps c=true:=by simpa using hok
 have key:∀vs,fn.results.toList.mapM (resV E fr' Y')=some vs->(e= .normal\/e= .ret)->(evl E (n+2)).call f args d Y=some ((match vs with| [v]=>v|vs=>.tup vs),Y'):=by
  intro vs hvs he
  show j3 E (evl E (n+1)) f args d Y=_
  have h3:(evl E (n+1)).code c {d:=d,om:=E.om f,tm:=fun i=>args.getD i undefV} Y=some (e,fr',Y'):=h1
  simp only[j3,hf,hb,Option.bind_some,if_pos hok',h3]
  rcases he with rfl|rfl<;>simp only[hvs,Option.map_some]<;>rcases vs with _| ⟨x,_| ⟨y,l⟩⟩<;>rfl
 cases e with
 |normal=>obtain⟨vs,h3,h4⟩:=h2;exact⟨n+2,_,Y',key vs h3 (.inl rfl),h4⟩
 |ret=>obtain⟨vs,h3,h4⟩:=h2;exact⟨n+2,_,Y',key vs h3 (.inr rfl),h4⟩
 |exit i=>exact h2.elim
theorem Pure.of {f:FuncId} {args:List V} {v:V} {fn:Func} {c:Code} (hs:E.summ f=none) (hf:E.P.funcs[f]? =some fn) (hb:fn.body=some c) (hok:(decide (args.length<=fn.ntmps)&& aM fn.ntmps c)=true)
 (h:CW E c {d:=1,om:=E.om f,tm:=fun i=>args.getD i undefV} Sig.init (RetQ E fn.results.toList (fun v0 Y=>closeV 20 Y v0=some v))):Pure E f args v:=by
 obtain⟨n,v0,Y',h1,h2⟩:=Imp.of hf hb hok h
 exact⟨n,by simp only[callPure,hs,h1,Option.bind_some,h2]⟩
theorem put_some (fr:Fr) (d:Nat) (v:V):fr.put (some d) v=fr.set d v:=rfl
theorem JU (fr:Fr) (v:V):fr.put none v=fr:=rfl
theorem Bd (fr:Fr) (d:Nat) (v:V):(fr.set d v).tm d=v:=by simp[Fr.set,upd]
theorem set_ne (fr:Fr) {d t:Nat} (v:V) (h:(t==d)=false):(fr.set d v).tm t=fr.tm t:=by
 have h':¬t=d:=by simpa using h
 simp[Fr.set,upd,h']
theorem set_d (fr:Fr) (d:Nat) (v:V):(fr.set d v).d=fr.d:=rfl
theorem JV (fr:Fr) (d:Nat) (v:V):(fr.set d v).om=fr.om:=rfl
theorem pW (fr:Fr) (t:Nat):fr.ev E (.tmp t)=fr.tm t:=rfl
theorem Bf (fr:Fr) (v:Value):fr.ev E (.const v)=(ofValue v).getD (.raw v):=rfl
theorem Bg (fr:Fr) (f:FuncId):fr.ev E (.func f)= .fn (.func f) [] []:=rfl
theorem JW (Y:Sig) (k:Nat):(Y.bump k).next=Y.next+k:=rfl
theorem JX (Y:Sig) (l:Aq.Loc) (s:Nat) (o:AObj):(Y.setObj l s o).next=Y.next:=rfl
theorem JY (Y:Sig) (s n:Nat):(Y.setTop s n).next=Y.next:=rfl
theorem vY (Y:Sig) (s n:Nat):(Y.setTop s n).top s=n:=by simp[Sig.setTop,upd]
theorem top_setTop_ne (Y:Sig) {s t:Nat} (n:Nat) (h:t≠s):(Y.setTop s n).top t=Y.top t:=by simp[Sig.setTop,upd,h]
theorem JZ (Y:Sig) (k:Nat):(Y.bump k).top=Y.top:=rfl
theorem J2 (Y:Sig) (l:Aq.Loc) (s:Nat) (o:AObj):(Y.setObj l s o).top=Y.top:=rfl
theorem Bh {l l':Aq.Loc} (h:fZ l l'=false):¬l=l':=by
 rintro rfl
 simp[fZ] at h
theorem vZ (a b c d:Nat):fZ (a,b) (c,d)=(b==d&& a==c):=rfl
theorem cells_eq (Y:Sig) (l:Aq.Loc) (s:Nat) (cs:List V):(Y.setObj l s (.cells cs)).cellsAt l s=some cs:=by simp[Sig.setObj,Sig.cellsAt,upd]
theorem Bj (Y:Sig) {l l':Aq.Loc} (s s':Nat) (o:AObj) (h:fZ l l'=false):(Y.setObj l' s' o).cellsAt l s=Y.cellsAt l s:=by
 have h':=Bh h
 simp[Sig.setObj,Sig.cellsAt,upd,h']
theorem J3 (Y:Sig) (k:Nat) (l:Aq.Loc) (s:Nat):(Y.bump k).cellsAt l s=Y.cellsAt l s:=rfl
theorem J4 (Y:Sig) (t n:Nat) (l:Aq.Loc) (s:Nat):(Y.setTop t n).cellsAt l s=Y.cellsAt l s:=rfl
theorem map_eq (Y:Sig) (l:Aq.Loc) (s:Nat) (ks vs:List V):(Y.setObj l s (.map ks vs)).aZ l s=some (ks,vs):=by simp[Sig.setObj,Sig.aZ,upd]
theorem Bl (Y:Sig) {l l':Aq.Loc} (s s':Nat) (o:AObj) (h:fZ l l'=false):(Y.setObj l' s' o).aZ l s=Y.aZ l s:=by
 have h':=Bh h
 simp[Sig.setObj,Sig.aZ,upd,h']
theorem J5 (Y:Sig) (k:Nat) (l:Aq.Loc) (s:Nat):(Y.bump k).aZ l s=Y.aZ l s:=rfl
theorem J6 (Y:Sig) (t n:Nat) (l:Aq.Loc) (s:Nat):(Y.setTop t n).aZ l s=Y.aZ l s:=rfl
theorem J7 {a b c d:Nat} (h:b≠d):((a,b):Aq.Loc)≠(c,d):=fun e=>h (by cases e;rfl)
end
def Is {U:Type} (a b:U):Prop:=a=b
theorem Is.rfl {U:Type} {a:U}:Is a a:=Eq.refl a
def iv (n:Int):V:=.int .i64 n
def lv {U:Type} (f:U->V) (l:List U):V:=.lst .sh (l.map f)
theorem Bn {U:Type} {f:U->V} (h:∀x,pclean (f x)=true):∀l:List U,pcleanL (l.map f)=true
 | []=>by simp[pcleanL]
 |a::l=>by simp[pcleanL,h a,Bn h l]
theorem rM {U:Type} {f:U->V} (h:∀x,pclean (f x)=true) (l:List U):pclean (.lst .sh (l.map f))=true:=by
 simp only[pclean];exact Bn h l
theorem pclean_lv {U:Type} {f:U->V} (h:∀x,pclean (f x)=true) (l:List U):pclean (lv f l)=true:=rM h l
theorem J8 (n:Int):pclean (iv n)=true:=by simp[iv,pclean]
theorem pclean_lstr (l:List (List UInt8)):pclean (lv V.str l)=true:=pclean_lv (fun _=>by simp[pclean]) l
theorem pclean_liv (l:List Int):pclean (lv iv l)=true:=pclean_lv J8 l
theorem pclean_lint (k:IntKind) (l:List Int):pclean (lv (V.int k) l)=true:=pclean_lv (fun _=>by simp[pclean]) l
theorem pclean_lbool (l:List Bool):pclean (lv V.bool l)=true:=pclean_lv (fun _=>by simp[pclean]) l
attribute [go_sem] pclean_lstr pclean_liv pclean_lint pclean_lbool
def idxL {U:Type} (l:List U) (i:Int):Option U:=if 0<=i/\i<l.length then l[i.toNat]? else none
def isSliceT (P:Program) (t:TypeId):Bool:=match P.underlying t with
 |some (.slice _)=>true
 |_=>false
def isStrT (P:Program) (t:TypeId):Bool:=match P.underlying t with
 |some .string=>true
 |_=>false
section
variable {E:Env} {fr:Fr} {Y:Sig}
def NQ (Q:Ex->Fr->Sig->Prop) (fr:Fr) (Y:Sig):Prop:=Q .normal fr Y
theorem NQ.i {Q:Ex->Fr->Sig->Prop} (h:Q .normal fr Y):NQ Q fr Y:=h
theorem SeqQ.n {b:Code} {Q:Ex->Fr->Sig->Prop} (h:CW E b fr Y Q):SeqQ E b Q .normal fr Y:=h
theorem SeqQ.x {b:Code} {i:Nat} {Q:Ex->Fr->Sig->Prop} (h:Q (.exit i) fr Y):SeqQ E b Q (.exit i) fr Y:=h
theorem SeqQ.r {b:Code} {Q:Ex->Fr->Sig->Prop} (h:Q .ret fr Y):SeqQ E b Q .ret fr Y:=h
theorem BlkQ.n {id:Nat} {Q:Ex->Fr->Sig->Prop} (h:Q .normal fr Y):BlkQ id Q .normal fr Y:=h
theorem BlkQ.r {id:Nat} {Q:Ex->Fr->Sig->Prop} (h:Q .ret fr Y):BlkQ id Q .ret fr Y:=h
theorem BlkQ.hit {id:Nat} {Q:Ex->Fr->Sig->Prop} (h:Q .normal fr Y):BlkQ id Q (.exit id) fr Y:=by simp only[BlkQ,if_true];exact h
theorem LoopQ.n {c:Code} {Q:Ex->Fr->Sig->Prop} (h:CW E (.loop c) fr Y Q):LoopQ E c Q .normal fr Y:=h
theorem LoopQ.x {c:Code} {i:Nat} {Q:Ex->Fr->Sig->Prop} (h:Q (.exit i) fr Y):LoopQ E c Q (.exit i) fr Y:=h
theorem LoopQ.r {c:Code} {Q:Ex->Fr->Sig->Prop} (h:Q .ret fr Y):LoopQ E c Q .ret fr Y:=h
theorem CW.condT {c:Operand} {a b:Code} {Q:Ex->Fr->Sig->Prop} (hc:Is (fr.ev E c) (.bool true)) (h:CW E a fr Y Q):CW E (.cond c a b) fr Y Q:=CW.cond hc (fun _=>h) (fun h=>by cases h)
theorem CW.condF {c:Operand} {a b:Code} {Q:Ex->Fr->Sig->Prop} (hc:Is (fr.ev E c) (.bool false)) (h:CW E b fr Y Q):CW E (.cond c a b) fr Y Q:=CW.cond hc (fun h=>by cases h) (fun _=>h)
theorem OW.o1 {all:List Oper} {st:Nat} {d:Tmp} {op:Op} {ty:TypeId} {pos:String} {aft:Array Edge} {gd:Option (Nat×Bool)} {os:List Oper} {v:V} {Y1:Sig} {Q:Fr->Sig->Prop} (hw:Is (aO all fr ⟨some d,op,ty,pos,aft,gd⟩) (some true))
 (hop:∀S,Is (opC E S fr Y st ⟨some d,op,ty,pos,aft,gd⟩) (some (v,fr,Y1))) (h:OW E all (st+1) os (fr.set d v) Y1 Q):OW E all st (⟨some d,op,ty,pos,aft,gd⟩::os) fr Y Q:=OW.op hw hop h
theorem OW.o0 {all:List Oper} {st:Nat} {op:Op} {ty:TypeId} {pos:String} {aft:Array Edge} {gd:Option (Nat×Bool)} {os:List Oper} {v:V} {Y1:Sig} {Q:Fr->Sig->Prop} (hw:Is (aO all fr ⟨none,op,ty,pos,aft,gd⟩) (some true))
 (hop:∀S,Is (opC E S fr Y st ⟨none,op,ty,pos,aft,gd⟩) (some (v,fr,Y1))) (h:OW E all (st+1) os fr Y1 Q):OW E all st (⟨none,op,ty,pos,aft,gd⟩::os) fr Y Q:=OW.op hw hop h
theorem OW.s1 {all:List Oper} {st:Nat} {d:Tmp} {op:Op} {ty:TypeId} {pos:String} {aft:Array Edge} {gd:Option (Nat×Bool)} {os:List Oper} {Q:Fr->Sig->Prop} (hw:Is (aO all fr ⟨some d,op,ty,pos,aft,gd⟩) (some false))
 (h:OW E all (st+1) os (fr.set d undefV) Y Q):OW E all st (⟨some d,op,ty,pos,aft,gd⟩::os) fr Y Q:=OW.skip hw h
theorem OW.s0 {all:List Oper} {st:Nat} {op:Op} {ty:TypeId} {pos:String} {aft:Array Edge} {gd:Option (Nat×Bool)} {os:List Oper} {Q:Fr->Sig->Prop} (hw:Is (aO all fr ⟨none,op,ty,pos,aft,gd⟩) (some false))
 (h:OW E all (st+1) os fr Y Q):OW E all st (⟨none,op,ty,pos,aft,gd⟩::os) fr Y Q:=OW.skip hw h
theorem aN.o1 {ms:List Nat} {all:List Oper} {st:Nat} {d:Tmp} {op:Op} {ty:TypeId} {pos:String} {aft:Array Edge} {gd:Option (Nat×Bool)} {os:List Oper} {v:V} {Y1:Sig} {fs:List Foot} {f:Foot} {Q:Fr->Sig->Prop} (hw:Is (aO all fr ⟨some d,op,ty,pos,aft,gd⟩) (some true))
 (hop:∀S,Is (opC E S fr Y st ⟨some d,op,ty,pos,aft,gd⟩) (some (v,fr,Y1))) (hf:Is (aX E all fr ⟨some d,op,ty,pos,aft,gd⟩ true) f) (h:aN E ms all (st+1) os (fr.set d v) Y1 (fs++[f]) Q):aN E ms all st (⟨some d,op,ty,pos,aft,gd⟩::os) fr Y fs Q:=
 aN.op hw hop (by rw[hf];exact h)
theorem aN.o0 {ms:List Nat} {all:List Oper} {st:Nat} {op:Op} {ty:TypeId} {pos:String} {aft:Array Edge} {gd:Option (Nat×Bool)} {os:List Oper} {v:V} {Y1:Sig} {fs:List Foot} {f:Foot} {Q:Fr->Sig->Prop} (hw:Is (aO all fr ⟨none,op,ty,pos,aft,gd⟩) (some true))
 (hop:∀S,Is (opC E S fr Y st ⟨none,op,ty,pos,aft,gd⟩) (some (v,fr,Y1))) (hf:Is (aX E all fr ⟨none,op,ty,pos,aft,gd⟩ true) f) (h:aN E ms all (st+1) os fr Y1 (fs++[f]) Q):aN E ms all st (⟨none,op,ty,pos,aft,gd⟩::os) fr Y fs Q:=
 aN.op hw hop (by rw[hf];exact h)
theorem aN.s1 {ms:List Nat} {all:List Oper} {st:Nat} {d:Tmp} {op:Op} {ty:TypeId} {pos:String} {aft:Array Edge} {gd:Option (Nat×Bool)} {os:List Oper} {fs:List Foot} {f:Foot} {Q:Fr->Sig->Prop} (hw:Is (aO all fr ⟨some d,op,ty,pos,aft,gd⟩) (some false))
 (hf:Is (aX E all fr ⟨some d,op,ty,pos,aft,gd⟩ false) f) (h:aN E ms all (st+1) os (fr.set d undefV) Y (fs++[f]) Q):aN E ms all st (⟨some d,op,ty,pos,aft,gd⟩::os) fr Y fs Q:=aN.skip hw (by rw[hf];exact h)
theorem aN.s0 {ms:List Nat} {all:List Oper} {st:Nat} {op:Op} {ty:TypeId} {pos:String} {aft:Array Edge} {gd:Option (Nat×Bool)} {os:List Oper} {fs:List Foot} {f:Foot} {Q:Fr->Sig->Prop} (hw:Is (aO all fr ⟨none,op,ty,pos,aft,gd⟩) (some false))
 (hf:Is (aX E all fr ⟨none,op,ty,pos,aft,gd⟩ false) f) (h:aN E ms all (st+1) os fr Y (fs++[f]) Q):aN E ms all st (⟨none,op,ty,pos,aft,gd⟩::os) fr Y fs Q:=aN.skip hw (by rw[hf];exact h)
theorem OW.g1 {all:List Oper} {st:Nat} {d:Tmp} {op:Op} {ty:TypeId} {pos:String} {aft:Array Edge} {gd:Option (Nat×Bool)} {os:List Oper} {v:V} {g:Bool} {Q:Fr->Sig->Prop} (hw:Is (aO all fr ⟨some d,op,ty,pos,aft,gd⟩) (some g)) (hop:g=true->∀S,Is (opC E S fr Y st ⟨some d,op,ty,pos,aft,gd⟩) (some (v,fr,Y)))
 (h:OW E all (st+1) os (fr.set d (cond g v undefV)) Y Q):OW E all st (⟨some d,op,ty,pos,aft,gd⟩::os) fr Y Q:=by
 cases g with
 |true=>exact OW.op hw (hop rfl) h
 |false=>exact OW.skip hw h
theorem OW.pk {all:List Oper} {st:Nat} {d:Tmp} {c a b:Operand} {ty:TypeId} {pos:String} {aft:Array Edge} {gd:Option (Nat×Bool)} {os:List Oper} {t x y:Bool} {Q:Fr->Sig->Prop} (hw:Is (aO all fr ⟨some d,.pick c a b,ty,pos,aft,gd⟩) (some true)) (hc:Is (fr.ev E c) (.bool t)) (ha:t=true->Is (fr.ev E a) (.bool x)) (hb:t=false->Is (fr.ev E b) (.bool y))
 (h:OW E all (st+1) os (fr.set d (.bool (cond t x y))) Y Q):OW E all st (⟨some d,.pick c a b,ty,pos,aft,gd⟩::os) fr Y Q:=by
 have hc':fr.ev E c= .bool t:=hc
 refine OW.op (v:=.bool (cond t x y)) (Y1:=Y) hw (fun S=>?_) h
 cases t with
 |true=>
  have ha':fr.ev E a= .bool x:=ha rfl
  simp only[opC,aF,hc',dY,Option.map_some,if_true,ha',cond_true]
 |false=>
  have hb':fr.ev E b= .bool y:=hb rfl
  simp only[opC,aF,hc',dY,Option.map_some,P8,if_false,hb',cond_false]
theorem aN.pk {ms:List Nat} {fs:List Foot} {f:Foot} {all:List Oper} {st:Nat} {d:Tmp} {c a b:Operand} {ty:TypeId} {pos:String} {aft:Array Edge} {gd:Option (Nat×Bool)} {os:List Oper} {t x y:Bool} {Q:Fr->Sig->Prop} (hw:Is (aO all fr ⟨some d,.pick c a b,ty,pos,aft,gd⟩) (some true)) (hc:Is (fr.ev E c) (.bool t)) (ha:t=true->Is (fr.ev E a) (.bool x)) (hb:t=false->Is (fr.ev E b) (.bool y))
 (hf:Is (aX E all fr ⟨some d,.pick c a b,ty,pos,aft,gd⟩ true) f) (h:aN E ms all (st+1) os (fr.set d (.bool (cond t x y))) Y (fs++[f]) Q):aN E ms all st (⟨some d,.pick c a b,ty,pos,aft,gd⟩::os) fr Y fs Q:=by
 have hc':fr.ev E c= .bool t:=hc
 refine aN.op (v:=.bool (cond t x y)) (Y1:=Y) hw (fun S=>?_) (by rw[hf];exact h)
 cases t with
 |true=>
  have ha':fr.ev E a= .bool x:=ha rfl
  simp only[opC,aF,hc',dY,Option.map_some,if_true,ha',cond_true]
 |false=>
  have hb':fr.ev E b= .bool y:=hb rfl
  simp only[opC,aF,hc',dY,Option.map_some,P8,if_false,hb',cond_false]
theorem OW.pX {all:List Oper} {st:Nat} {d:Option Tmp} {f:Operand} {args:Array Operand} {tys:Array TypeId} {ty:TypeId} {pos:String} {aft:Array Edge} {gd:Option (Nat×Bool)} {os:List Oper} {Q:Fr->Sig->Prop} {g:FuncId} {a b as:List V} {v:V}
 (hp:Pure E g as v) (hf:Is (fr.ev E f) (.fn (.func g) a b)) (has:Is ((a++args.toList.map (fr.ev E)++b).mapM (closeV 20 Y)) (some as)) (hc:Is ((a++args.toList.map (fr.ev E)++b).all (fun x=>pclean (er x))||flat v) true)
 (hw:Is (aO all fr ⟨d,.call ⟨.value f,args,tys⟩,ty,pos,aft,gd⟩) (some true)) (h:OW E all (st+1) os (fr.put d v) Y Q) (hi:E.imp g=false:=by rfl) (aW:∀d',d=some d'->E.own g d'=false:=by intros;rfl):OW E all st (⟨d,.call ⟨.value f,args,tys⟩,ty,pos,aft,gd⟩::os) fr Y Q:=
 OW.call hw rfl rfl hf hi has hp hc h aW
theorem aN.pX {ms:List Nat} {fs:List Foot} {ft:Foot} {all:List Oper} {st:Nat} {d:Option Tmp} {f:Operand} {args:Array Operand} {tys:Array TypeId} {ty:TypeId} {pos:String} {aft:Array Edge} {gd:Option (Nat×Bool)} {os:List Oper} {Q:Fr->Sig->Prop} {g:FuncId} {a b as:List V} {v:V}
 (hp:Pure E g as v) (hf:Is (fr.ev E f) (.fn (.func g) a b)) (has:Is ((a++args.toList.map (fr.ev E)++b).mapM (closeV 20 Y)) (some as)) (hc:Is ((a++args.toList.map (fr.ev E)++b).all (fun x=>pclean (er x))||flat v) true)
 (hw:Is (aO all fr ⟨d,.call ⟨.value f,args,tys⟩,ty,pos,aft,gd⟩) (some true)) (hft:Is (aX E all fr ⟨d,.call ⟨.value f,args,tys⟩,ty,pos,aft,gd⟩ true) ft) (h:aN E ms all (st+1) os (fr.put d v) Y (fs++[ft]) Q)
 (hi:E.imp g=false:=by rfl) (aW:∀d',d=some d'->E.own g d'=false:=by intros;rfl):aN E ms all st (⟨d,.call ⟨.value f,args,tys⟩,ty,pos,aft,gd⟩::os) fr Y fs Q:=
 aN.call hw rfl rfl hf hi has hp hc (by rw[hft];exact h) aW
theorem RetQ.one {r:ResultVar} {e:Ex} {v0:V} {R:V->Sig->Prop} (he:∀i,e≠ .exit i) (hv:Is (resV E fr Y r) (some v0)) (hr:R v0 Y):RetQ E [r] R e fr Y:=by
 have h1:[r].mapM (resV E fr Y)=some [v0]:=by rw[Qk,hv];rfl
 cases e with
 |exit i=>exact absurd rfl (he i)
 |normal=>exact⟨[v0],h1,hr⟩
 |ret=>exact⟨[v0],h1,hr⟩
theorem RetQ.tup {rs:List ResultVar} {e:Ex} {v1 v2:V} {vs:List V} {R:V->Sig->Prop} (he:∀i,e≠ .exit i) (hv:Is (rs.mapM (resV E fr Y)) (some (v1::v2::vs))) (hr:R (.tup (v1::v2::vs)) Y):RetQ E rs R e fr Y:=by
 cases e with
 |exit i=>exact absurd rfl (he i)
 |normal=>exact⟨_,hv,hr⟩
 |ret=>exact⟨_,hv,hr⟩
theorem Pure.of' {f:FuncId} {args:List V} {v:V} {fn:Func} {c:Code} (rs:List ResultVar) (hf:E.P.funcs[f]? =some fn) (hb:fn.body=some c)
 (h:∀fr Y,fr.d=1->fr.om=E.om f->(∀i,fr.tm i=args.getD i undefV)->CW E c fr Y (RetQ E rs (fun v0 Y=>closeV 20 Y v0=some v))) (hrs:fn.results.toList=rs:=by rfl) (hok:(decide (args.length<=fn.ntmps)&& aM fn.ntmps c)=true:=by rfl) (hs:E.summ f=none:=by rfl):Pure E f args v:=
 Pure.of hs hf hb hok (by rw[hrs];exact h _ _ rfl rfl (fun _=>rfl))
theorem dB {n:Nat} {x:V} (h:pclean x=true):closeV (n+1) Y x=some x:=by unfold closeV;simp only[h,if_true]
theorem wh (n:Nat) (k:IntKind) (i:Int):closeV (n+1) Y (.int k i)=some (.int k i):=dB (by simp[pclean])
theorem wm (n:Nat) (b:Bool):closeV (n+1) Y (.bool b)=some (.bool b):=dB (by simp[pclean])
theorem wo (n:Nat) (s:List UInt8):closeV (n+1) Y (.str s)=some (.str s):=dB (by simp[pclean])
theorem jK {n:Nat} {U:Type} {f:U->V} (c:Cap) (l:List U) (h:∀x,pclean (f x)=true):closeV (n+2) Y (.lst c (l.map f))=some (lv f l):=by
 by_cases hp:pclean (.lst c (l.map f))=true
 .rw[dB hp]
  cases c<;>simp only[pclean,P8] at hp
  rfl
 .unfold closeV
  simp only[hp,if_false,P8]
  have:(l.map f).mapM (closeV (n+1) Y)=some (l.map f):=by
   induction l with
   |nil=>simp
   |cons a l ih=>simp[h a,dB,ih (by cases c<;>simp_all[pclean,pcleanL])]
  rw[this];rfl
theorem J9 (k:IntKind) (i:Int):er (.int k i)= .int k i:=rfl
theorem Ka (b:Bool):er (.bool b)= .bool b:=rfl
theorem Kc (s:List UInt8):er (.str s)= .str s:=rfl
theorem Ke {U:Type} (f:U->V) (l:List U):er (lv f l)=lv f l:=rfl
theorem Kg (c:Cap) (l:List V):er (.lst c l)= .lst .sh l:=rfl
theorem Kh (n:Int):iv n= .int .i64 n:=rfl
theorem wu (k:IntKind) (i:Int):pclean (.int k i)=true:=by simp[pclean]
theorem wB (b:Bool):pclean (.bool b)=true:=by simp[pclean]
theorem Bo (s:List UInt8):pclean (.str s)=true:=by simp[pclean]
theorem wC {P:Program} {U:Type} {t:TypeId} {c:Cap} {l:List U} {f:U->V} {k:IntKind} {i:Int}:
 indexAddrV P t (.lst c (l.map f)) (.int k i)=if isSliceT P t then (elemT P t).bind fun e=>(szT P e).bind fun sz=>(idxL l i).bind fun x=>if (f x).cells.length=sz then some (.cref (f x).cells 0) else none else none:=by
 unfold indexAddrV isSliceT elemT
 cases hu:P.underlying t with
 |none=>rfl
 |some u=>
  cases u<;>try rfl
  rename_i e
  simp only[if_true,Option.bind_some]
  cases szT P e with
  |none=>rfl
  |some sz=>
   simp only[Option.bind_some,idx,fJ,Qi,idxL]
   split
   .rename_i h
    simp only[Option.bind_some,List.getElem?_map]
    cases l[i.toNat]? with
    |none=>rfl
    |some x=>rfl
   .rfl
theorem idx_lv {P:Program} {U:Type} {t:TypeId} {l:List U} {f:U->V} {k:IntKind} {i:Int}:
 indexAddrV P t (lv f l) (.int k i)=if isSliceT P t then (elemT P t).bind fun e=>(szT P e).bind fun sz=>(idxL l i).bind fun x=>if (f x).cells.length=sz then some (.cref (f x).cells 0) else none else none:=wC
theorem Ki {P:Program} {t:TypeId} {v:V} (h1:isAggT P t=some false) (h2:szT P t=some 1):ldT P t [v] 0=some v:=by simp[ldT,h1,h2,jv]
theorem Kj {t:TypeId} {U:Type} (f:U->V) (l:List U) (h:isSliceT E.P t=true):dZ E Y t (lv f l)=some l.length:=by
 unfold isSliceT at h;unfold dZ
 split at h
 .rename_i e he;rw[he];simp[lv]
 .simp at h
theorem Kk {t:TypeId} (c:Cap) (l:List V) (h:isSliceT E.P t=true):dZ E Y t (.lst c l)=some l.length:=by
 unfold isSliceT at h;unfold dZ
 split at h
 .rename_i e he;rw[he]
 .simp at h
theorem Kl {t:TypeId} (l:List UInt8) (h:isStrT E.P t=true):dZ E Y t (.str l)=some l.length:=by
 unfold isStrT at h;unfold dZ
 split at h
 .rename_i he;rw[he]
 .simp at h
end
section
variable {E:Env} {S:Evl} {fr:Fr} {Y:Sig} {st:Nat} {d:Option Tmp} {ty:TypeId} {pos:String} {aft:Array Edge} {gd:Option (Nat×Bool)}
theorem Km (all:List Oper) (op:Op):aO all fr ⟨d,op,ty,pos,aft,none⟩=some true:=rfl
def wD (want:Bool):V->Option Bool
 |.bool b=>some (b==want)
 |.raw _=>none
 |_=>some false
theorem Kn (w b:Bool):wD w (.bool b)=some (b==w):=rfl
theorem Ko (w:Bool):wD w undefV=some false:=rfl
theorem Kq (all:List Oper) (op:Op) (j:Nat) (want:Bool):aO all fr ⟨d,op,ty,pos,aft,some (j,want)⟩=match (all[j]?).bind (·.dst) with
 |some t=>wD want (fr.tm t)
 |none=>some false:=by
 simp only[aO]
 cases (all[j]?).bind (·.dst) with
 |none=>rfl
 |some t=>simp only;cases fr.tm t<;>rfl
theorem Kr (cs:List V):V.cells (.agg cs)=cs:=rfl
theorem Kt (k:IntKind) (n:Int):V.cells (.int k n)=[.int k n]:=rfl
theorem Ku (k:IntKind) (n:Int):notRaw (.int k n)=true:=rfl
theorem Kv (b:Bool):V.cells (.bool b)=[.bool b]:=rfl
theorem Kw (b:Bool):notRaw (.bool b)=true:=rfl
theorem Ky (s:List UInt8):V.cells (.str s)=[.str s]:=rfl
theorem Kz (s:List UInt8):notRaw (.str s)=true:=rfl
theorem KC (c:Cap) (l:List V):V.cells (.lst c l)=[.lst c l]:=rfl
theorem KE (c:Cap) (l:List V):notRaw (.lst c l)=true:=rfl
theorem KF (l:Aq.Loc) (s o:Nat):V.cells (.ref l s o)=[.ref l s o]:=rfl
theorem KG (l:Aq.Loc) (s o:Nat):notRaw (.ref l s o)=true:=rfl
theorem KH (cs:List V) (o:Nat):V.cells (.cref cs o)=[.cref cs o]:=rfl
theorem KJ (cs:List V) (o:Nat):notRaw (.cref cs o)=true:=rfl
theorem KL (f:Fn) (a b:List V):V.cells (.fn f a b)=[.fn f a b]:=rfl
theorem KM (f:Fn) (a b:List V):notRaw (.fn f a b)=true:=rfl
theorem KN {U:Type} (f:U->V) (l:List U):V.cells (lv f l)=[lv f l]:=rfl
theorem KO:oneCells []=true:=rfl
theorem Bp (x:V) (l:List V):oneCells (x::l)=(oneCell x&& oneCells l):=rfl
theorem KQ (k:IntKind) (n:Int):oneCell (.int k n)=true:=rfl
theorem KR (b:Bool):oneCell (.bool b)=true:=rfl
theorem KS (s:List UInt8):oneCell (.str s)=true:=rfl
theorem KT {U:Type} (f:U->V) (l:List U):oneCell (lv f l)=true:=rfl
theorem KU (c:Cap) (l:List V):oneCell (.lst c l)=true:=rfl
theorem KV (l:Aq.Loc) (s o:Nat):oneCell (.ref l s o)=true:=rfl
theorem KW (cs:List V) (o:Nat):oneCell (.cref cs o)=true:=rfl
theorem KX (cs:List V):notRaw (.agg cs)=true:=rfl
theorem KY {U:Type} (f:U->V) (l:List U):notRaw (lv f l)=true:=rfl
theorem KZ (x:Operand) (h:fzM E d=false):opC E S fr Y st ⟨d,.move x,ty,pos,aft,gd⟩=some (fr.ev E x,fr,Y):=by
 show Option.map _ (if fzM E d=true then iA Y (fr.ev E x) else some (fr.ev E x,Y))=_
 rw[if_neg (by rw[h];simp)];rfl
theorem K4 (x:Operand):opC E S fr Y st ⟨d,.assign x,ty,pos,aft,gd⟩=some (fr.ev E x,fr,Y):=rfl
theorem K5 (c a b:Operand) (h:fr.ev E c= .bool true):opC E S fr Y st ⟨d,.pick c a b,ty,pos,aft,gd⟩=some (fr.ev E a,fr,Y):=by
 simp only[opC,aF,h,dY,Option.map_some,if_true]
theorem K6 (c a b:Operand) (h:fr.ev E c= .bool false):opC E S fr Y st ⟨d,.pick c a b,ty,pos,aft,gd⟩=some (fr.ev E b,fr,Y):=by
 simp only[opC,aF,h,dY,Option.map_some,P8,if_false]
theorem oc_bin (op:BinOp) (t u:TypeId) (x y:Operand):opC E S fr Y st ⟨d,.binOp op t x y u,ty,pos,aft,gd⟩=(binV E.P op t (fr.ev E x) (fr.ev E y)).map fun v=>(v,fr,Y):=by
 simp only[opC,aF];cases binV E.P op t (fr.ev E x) (fr.ev E y)<;>rfl
theorem K7 (op:UnOp) (t:TypeId) (x:Operand):opC E S fr Y st ⟨d,.unOp op t x,ty,pos,aft,gd⟩=(kX op (fr.ev E x)).map fun v=>(v,fr,Y):=by
 simp only[opC,aF];cases kX op (fr.ev E x)<;>rfl
theorem K8 (t:TypeId) (x:Operand) (f:Nat):opC E S fr Y st ⟨d,.fieldAddr t x f,ty,pos,aft,gd⟩=(fieldT E.P t f).bind fun p=>match fr.ev E x with
 |.ref loc s off=>some (.ref loc s (off+p.1),fr,Y)
 |.cref cs off=>some (.cref cs (off+p.1),fr,Y)
 |_=>none:=by
 simp only[opC,aF]
 cases fieldT E.P t f with
 |none=>rfl
 |some p=>obtain⟨o,u⟩:=p;simp only[Option.bind_some];cases fr.ev E x<;>rfl
theorem K9 (t:TypeId) (x:Operand):opC E S fr Y st ⟨d,.load t x,ty,pos,aft,gd⟩=(match fr.ev E x with
 |.ref loc s off=>(Y.cellsAt loc s).bind fun cs=>(ldT E.P t cs off).map fun v=>(v,fr,Y)
 |.cref cs off=>(ldT E.P t cs off).map fun v=>(v,fr,Y)
 |_=>none):=by
 simp only[opC,aF]
 cases fr.ev E x with
 |ref loc s off=>
  simp only
  cases Y.cellsAt loc s with
  |none=>rfl
  |some cs=>simp only[Option.bind_some];cases ldT E.P t cs off<;>rfl
 |cref cs off=>simp only;cases ldT E.P t cs off<;>rfl
 |_=>rfl
theorem La (t:TypeId) (x:Operand) (i:Nat):opC E S fr Y st ⟨some i,.box t x,ty,pos,aft,gd⟩=if frzB E t (some i)=true then (if pclean (er (fr.ev E x))=true/\notRaw (fr.ev E x)=true then some (.cref (er (fr.ev E x)).cells 0,fr,Y) else none) else if oneCells (fr.ev E x).cells/\notRaw (fr.ev E x) then some (.ref (fr.d,i) st 0,fr,Y.setObj (fr.d,i) st (.cells (fr.ev E x).cells)) else none:=by
 show Option.map _ (if frzB E t (some i)=true then _ else (some (fr.d,i)).bind _)=_
 by_cases hz:frzB E t (some i)=true
 .simp only[hz,if_true]
  split<;>rfl
 .simp only[hz,P8,if_false,Option.bind_some]
  split<;>rfl
theorem Lb (t:TypeId) (i:Nat):opC E S fr Y st ⟨some i,.alloc t,ty,pos,aft,gd⟩=(zeroT E.P t).bind fun z=>if oneCells z.cells then some (.ref (fr.d,i) st 0,fr,Y.setObj (fr.d,i) st (.cells z.cells)) else none:=by
 simp only[opC,aF,Option.map_some,Option.bind_some]
 cases zeroT E.P t with
 |none=>rfl
 |some z=>simp only[Option.bind_some];split<;>rfl
theorem oc_store (t:TypeId) (a x:Operand):opC E S fr Y st ⟨d,.store t a x,ty,pos,aft,gd⟩=(match fr.ev E a with
 |.ref loc s off=>(Y.cellsAt loc s).bind fun cs=>
  if some (fr.ev E x).cells.length=szT E.P t/\off+(fr.ev E x).cells.length<=cs.length/\oneCells (fr.ev E x).cells then some (undefV,fr,Y.setObj loc s (.cells (spliceL cs off (fr.ev E x).cells))) else none
 |_=>none):=by
 simp only[opC,aF]
 cases fr.ev E a with
 |ref loc s off=>
  simp only
  cases Y.cellsAt loc s with
  |none=>rfl
  |some cs=>simp only[Option.bind_some];split<;>rfl
 |_=>rfl
theorem Lc (t:TypeId) (x i:Operand):opC E S fr Y st ⟨d,.indexAddr t x i,ty,pos,aft,gd⟩=(indexAddrV E.P t (fr.ev E x) (fr.ev E i)).map fun v=>(v,fr,Y):=by
 simp only[opC,aF];cases indexAddrV E.P t (fr.ev E x) (fr.ev E i)<;>rfl
theorem Ld (x:Operand) (i:Nat):opC E S fr Y st ⟨d,.extract x i,ty,pos,aft,gd⟩=(match fr.ev E x with
 |.tup vs=>(vs[i]?).map fun v=>(v,fr,Y)
 |_=>none):=by
 simp only[opC,aF]
 cases fr.ev E x with
 |tup vs=>simp only;cases vs[i]? <;>rfl
 |_=>rfl
theorem Le (x:Operand) (t:TypeId):opC E S fr Y st ⟨d,.call ⟨.builtin .len, #[x], #[t]⟩,ty,pos,aft,gd⟩=(dZ E Y t (fr.ev E x)).map fun n=>(.int .i64 (n:Nat),fr,Y):=by
 show (Option.map _ (((#[t]:Array TypeId)[0]?).bind fun t=>(dZ E Y t (fr.ev E x)).map fun n=>(V.int .i64 (n:Nat),Y)))=_
 rw[show (#[t]:Array TypeId)[0]? =some t from rfl,Option.bind_some]
 cases dZ E Y t (fr.ev E x)<;>rfl
end
attribute [go_sem] P8 binV intB jW kX decide_true decide_false List.getElem?_cons_succ List.getElem?_cons_zero beq_true beq_false Bool.not_true Bool.not_false vZ Bool.false_and Bool.and_false Bool.true_and Bool.and_true Km Kq Kn Ko KZ K4 K5 K6 oc_bin K7 K8 K9 La Lb oc_store Lc Ld Le pW Bf Bg Bd set_ne put_some JU set_d JV JW JX JY cells_eq Bj J3 J4 map_eq Bl J5 J6 J7 vY top_setTop_ne JZ J2 Kh Ki Kj Kk Kl wC Qi idx_lv wh wm wo J9 Ka Kc Ke Kg wu wB Bo Option.bind_some Option.map_some Option.getD_some dY ofValue bR if_true if_false Kr Kt Kv Ky KN KC KF KH KL Ku Kw Kz KE KG KJ KM KO Bp KQ KR KS KT KU KV KW KX KY and_self and_true true_and
def jg:Code->List Nat->Option Code
 |c,[]=>some c
 |.seq a b,i::l=>if i=0 then jg a l else jg b l
 |.cond _ a b,i::l=>if i=0 then jg a l else jg b l
 |.block _ a,_::l=>jg a l
 |.loop a,_::l=>jg a l
 |.scope a,_::l=>jg a l
 |.rangeFunc _ _ a b,i::l=>if i=0 then jg a l else jg b l
 |_,_=>none
def subO (b:Option Code) (l:List Nat):Option Code:=b.bind fun c=>jg c l
section
variable {E:Env} {fr:Fr} {Y:Sig}
def jL (E:Env) (c:Code) (fr:Fr) (Y:Sig) (Q:Ex->Fr->Sig->Prop):Prop:=CW E (.loop c) fr Y Q
theorem Is.e {U:Type} {a b:U} (h:Is a b):a=b:=h
theorem CW.lp {c:Code} {Q:Ex->Fr->Sig->Prop} (h:jL E c fr Y Q):CW E (.loop c) fr Y Q:=h
theorem jL.in {b:Option Code} {p:List Nat} {c:Code} {Q:Ex->Fr->Sig->Prop} (hs:subO b p=some c) (h:CW E c fr Y (LoopQ E c Q)):jL E ((subO b p).getD .skip) fr Y Q:=by
 rw[hs];exact CW.loop h
theorem jL.ih {c:Code} {Q:Ex->Fr->Sig->Prop} (h:jL E c fr Y Q):jL E c fr Y Q:=h
def pY:Code->Nat
 |.region i _ _=>i
 |.seq a _=>pY a
 |.loop a=>pY a
 |.scope a=>pY a
 |.block _ a=>pY a
 |_=>0
theorem jL.at (k:Nat) {c:Code} {Q:Ex->Fr->Sig->Prop} (_h:Is (pY c) k) (h:jL E c fr Y Q):jL E c fr Y Q:=h
theorem Lf {n:Nat} (c:Cap):closeV (n+2) Y (.lst c [])=some (.lst .sh []):=jK (U:=V) (f:=fun x=>.int .i64 0) c [] (fun _=>by simp[pclean])
theorem Bq {n:Nat} (cs:List V):closeV (n+2) Y (.agg cs)=(cs.mapM (closeV (n+1) Y)).map .agg:=by
 by_cases hp:pclean (.agg cs)=true
 .rw[dB hp]
  have:∀cs:List V,pcleanL cs=true->cs.mapM (closeV (n+1) Y)=some cs:=by
   intro cs
   induction cs with
   |nil=>intro _;rfl
   |cons a l ih=>
    intro h
    simp only[pcleanL,P6] at h
    rw[Qk,dB h.1,ih h.2];rfl
  rw[this cs (by simpa [pclean] using hp)];rfl
 .conv=>lhs;unfold closeV
  simp only[hp,if_false,P8]
theorem wE {n:Nat} (cs:List V):closeV (n+2) Y (.tup cs)=(cs.mapM (closeV (n+1) Y)).map .tup:=by
 by_cases hp:pclean (.tup cs)=true
 .rw[dB hp]
  have:∀cs:List V,pcleanL cs=true->cs.mapM (closeV (n+1) Y)=some cs:=by
   intro cs
   induction cs with
   |nil=>intro _;rfl
   |cons a l ih=>
    intro h
    simp only[pcleanL,P6] at h
    rw[Qk,dB h.1,ih h.2];rfl
  rw[this cs (by simpa [pclean] using hp)];rfl
 .conv=>lhs;unfold closeV
  simp only[hp,if_false,P8]
def rO (sz:Nat) (Y:Sig) (c:Cap) (n:Nat):Prop:=c= .nil\/∃s,c= .own sz s/\Y.top s=n/\s<Y.next
theorem rO.n {sz n:Nat}:rO sz Y .nil n:=.inl rfl
theorem rO.o {sz s n:Nat} (h1:Is (Y.top s) n) (h2:s<Y.next):rO sz Y (.own sz s) n:=.inr ⟨s,rfl,h1,h2⟩
theorem own_ne {s n k:Nat} (h:s<n):(s==n+k)=false:=by simp;omega
theorem Lg {s n k:Nat} (h:s<n):(n+k==s)=false:=by simp;omega
theorem Lh {s n:Nat} (h:s<n):(s==n)=false:=by simp;omega
theorem Li {s n:Nat} (h:s<n):(n==s)=false:=by simp;omega
theorem Lj (Y:Sig) {s t:Nat} (n:Nat) (h:(t==s)=false):(Y.setTop s n).top t=Y.top t:=top_setTop_ne Y n (by simpa using h)
end
def appT (P:Program) (Y:Sig) (st:Nat) (t u:TypeId) (x y:V):Option (V×Sig):=
 match P.underlying u with
 |some (.int _)=>cu P false true Y st none t x y
 |some (.slice _)|some .string=>cu P false false Y st none t x y
 |_=>none
theorem Ll {P:Program} {z:Bool} {Y:Sig} {st:Nat} {loc:Option Loc} {t:TypeId} {c:Cap} {l:List V} {y:V}:cu P false z Y st loc t (.lst c l) y=cu P false z Y st none t (.lst c l) y:=by
 unfold cu
 cases elemT P t with
 |none=>rfl
 |some e=>cases c<;>rfl
section
variable {E:Env} {S:Evl} {fr:Fr} {Y:Sig} {st:Nat} {d:Option Tmp} {ty:TypeId} {pos:String} {aft:Array Edge} {gd:Option (Nat×Bool)}
theorem Lm {t u:TypeId} {x y:Operand} {c:Cap} {l:List V} (ho:fr.om=false) (hx:fr.ev E x= .lst c l):opC E S fr Y st ⟨d,.call ⟨.builtin .append, #[x,y], #[t,u]⟩,ty,pos,aft,gd⟩=(appT E.P Y st t u (.lst c l) (fr.ev E y)).map fun p=>(p.1,fr,p.2):=by
 show Option.map _ ((((#[t,u]:Array TypeId)[0]?).bind fun t=>(((#[t,u]:Array TypeId)[1]?).bind E.P.underlying).bind fun u=>match u with
  |.int _=>cu E.P fr.om true Y st (d.map fun t=>(fr.d,E.cn t)) t (fr.ev E x) (fr.ev E y)
  |.slice _|.string=>cu E.P fr.om false Y st (d.map fun t=>(fr.d,E.cn t)) t (fr.ev E x) (fr.ev E y)
  |_=>none))=_
 show Option.map _ ((E.P.underlying u).bind _)=_
 rw[ho,hx]
 unfold appT
 cases E.P.underlying u with
 |none=>rfl
 |some u=>
  cases u<;>try rfl
  all_goals (simp only[Option.bind_some];rw[Ll];first|rfl| (generalize cu _ _ _ _ _ _ _ _ _=o;cases o<;>rfl))
end
def AppOK (P:Program) (t u:TypeId) (sz by_:Nat) (z:V):Prop:=∃e ag,elemT P t=some e/\szT P e=some sz/\bytesT P e=some by_/\isAggT P e=some ag/\zeroT P e=some z/\z.cells.length=sz/\0<sz/\(ag||sz==1)=true/\isSliceT P u=true
theorem AppOK.mk {P:Program} {t u:TypeId} {sz by_:Nat} {z:V} (e:TypeId) (ag:Bool) (h1:elemT P t=some e) (h2:szT P e=some sz) (h3:bytesT P e=some by_) (h4:isAggT P e=some ag) (h5:zeroT P e=some z)
 (h6:z.cells.length=sz) (h7:0<sz) (h8:(ag||sz==1)=true) (h9:isSliceT P u=true):AppOK P t u sz by_ z:=⟨e,ag,h1,h2,h3,h4,h5,h6,h7,h8,h9⟩
def Br (E:Env) (t:TypeId) (ps:List (Nat×V)):Option (List V):=(partsT E t).bind fun pl=>(zeroT E.P t).bind fun z=>fC pl z.cells ps
section
variable {E:Env} {S:Evl} {fr:Fr} {Y:Sig} {st:Nat} {d:Option Tmp} {ty:TypeId} {pos:String} {aft:Array Edge} {gd:Option (Nat×Bool)}
theorem Lp (t:TypeId) (l:List (Nat×Operand)):opC E S fr Y st ⟨d,.build t l.toArray,ty,pos,aft,gd⟩=(Br E t (l.map fun p=>(p.1,fr.ev E p.2))).map fun cs=>(.agg cs,fr,Y):=by
 simp only[opC,aF,Br]
 cases partsT E t with
 |none=>rfl
 |some pl=>
  simp only[Option.bind_some]
  cases zeroT E.P t with
  |none=>rfl
  |some z=>
   simp only[Option.bind_some]
   cases fC pl z.cells (l.map fun p=>(p.1,fr.ev E p.2))<;>rfl
theorem Lr (t:TypeId) (n:Nat) (l:List (Nat×Operand)) (h:bsM E d=false):opC E S fr Y st ⟨d,.buildSlice t n l.toArray,ty,pos,aft,gd⟩=(buildSliceV E t n (l.map fun p=>(p.1,fr.ev E p.2))).map fun v=>(v,fr,Y):=by
 unfold opC
 dsimp only
 unfold aF
 dsimp only
 rw[h,if_neg (by simp)]
 cases buildSliceV E t n (l.map fun p=>(p.1,fr.ev E p.2))<;>rfl
end
section
variable {E:Env} {S:Evl} {fr:Fr} {Y:Sig} {st:Nat} {d:Option Tmp} {ty:TypeId} {pos:String} {aft:Array Edge} {gd:Option (Nat×Bool)}
theorem Ls (t:TypeId) (x i:Operand):opC E S fr Y st ⟨d,.index t x i,ty,pos,aft,gd⟩=(jY E.P t (fr.ev E x) (fr.ev E i)).map fun v=>(v,fr,Y):=by
 simp only[opC,aF];cases jY E.P t (fr.ev E x) (fr.ev E i)<;>rfl
theorem Bt {P:Program} {t:TypeId} {s:List UInt8} {k:IntKind} {i:Int} (h:isStrT P t=true):jY P t (.str s) (.int k i)=(idxL s i).map fun b=>.int .u8 (b.toNat:Nat):=by
 unfold isStrT at h;unfold jY
 split at h
 .rename_i he
  rw[he]
  simp only[idx,fJ,Option.bind_some,idxL]
  split
  .simp only[Option.bind_some];rfl
  .rfl
 .simp at h
end
theorem len1 (v:V):[v].length=1:=rfl
attribute [go_sem] Ls Bt own_ne Lg Lh Li Lf Bq wE Lp Lr Qd List.map_nil len1 Lj Lm jK implies_true eq_self
theorem Lu:pcleanL []=true:=by simp only[pcleanL]
theorem Lv (v:V) (l:List V):pcleanL (v::l)=(pclean v&& pcleanL l):=by simp only[pcleanL]
attribute [go_sem] Lu Lv
inductive Ty where
 |int (k:IntKind)
 |bool
 |str
 |slice (t:Ty)
 |st (n:Nat)
 deriving DecidableEq
inductive Cp where
 |any
 |sh
 |nil
 |full
 |own (t:Nat)
structure Vec (n:Nat) where
 l:List Int
 h:l.length=n
def Vec.set {n:Nat} (v:Vec n) (i y:Int):Vec n:=⟨v.l.set i.toNat y,by rw[List.length_set,v.h]⟩
def Vec.rep (n:Nat) (y:Int):Vec n:=⟨List.replicate n y,List.length_replicate⟩
def Vec.lit (n:Nat) (l:List Int):Vec n:=if h:l.length=n then ⟨l,h⟩ else Vec.rep n 0
inductive SgK where
 |i (k:IntKind)
 |a (k:IntKind) (n:Nat)
inductive Sg where
 |i (k:IntKind) (x:Int)
 |a (k:IntKind) (n:Nat) (v:Vec n)
def Sg.w:Sg->Nat
 |.i _ _=>1
 |.a _ n _=>n
def Sg.vs:Sg->List V
 |.i k x=>[.int k x]
 |.a k _ v=>v.l.map (V.int k)
def sgV:List Sg->List V
 | []=>[]
 |s::l=>s.vs++sgV l
def PayG1:SgK->Type
 |.i _=>Int
 |.a _ n=>Vec n
def PayG:List SgK->Type
 | []=>Unit
 | [k]=>PayG1 k
 |k::h::l=>PayG1 k×PayG (h::l)
def up1:(k:SgK)->PayG1 k->Sg
 |.i k,x=>.i k x
 |.a k n,x=>.a k n x
def upG:(l:List SgK)->PayG l->List Sg
 | [],_=>[]
 | [k],x=>[up1 k x]
 |k::h::l,p=>up1 k p.1::upG (h::l) p.2
def castV {n m:Nat} (v:Vec n):Option (Vec m):=if h:n=m then some (h▸v) else none
def pk1:(k:SgK)->Sg->Option (PayG1 k)
 |.i k,.i k' x=>if k'=k then some x else none
 |.a k n,.a k' _ v=>if k'=k then castV (m:=n) v else none
 |_,_=>none
def pkG:(l:List SgK)->List Sg->Option (PayG l)
 | []=>fun vs=>match vs with
   | []=>some ()
   |_::_=>none
 | [k]=>fun vs=>match vs with
   | [v]=>pk1 k v
   |_=>none
 |k::h::l=>fun vs=>match vs with
  | []=>none
  |v::vs=>match pk1 k v with
   |some x=>match pkG (h::l) vs with
    |some p=>some (x,p)
    |none=>none
   |none=>none
section
variable (T:Nat->Type)
def Den:Ty->Type
 |.int _=>Int
 |.bool=>Bool
 |.str=>List UInt8
 |.slice t=>List (Den t)
 |.st n=>T n
def PayT:List Ty->Type
 | []=>Unit
 | [t]=>Den T t
 |t::u::l=>Den T t×PayT (u::l)
inductive TV where
 |int (k:IntKind) (n:Int)
 |bool (b:Bool)
 |blit (b:Bool)
 |str (s:List UInt8)
 |nilp
 |nilf
 |nilm
 |nili
 |nils
 |agg (cs:List TV)
 |tup (cs:List TV)
 |lst (c:Cp) (t:Ty) (l:List (Den T t))
 |ref (o off:Nat)
 |cref (cs:List TV) (off:Nat)
 |mapr (o:Nat)
 |mapc (k e:Ty) (m:List (Den T k×Den T e))
 |fn (f:Nat) (a b:List TV)
 |opt (j:Nat) (w:Bool) (v:TV)
 |vw (o:Nat) (t:Ty)
 |sub (o:Nat) (t:Ty) (a b:Int)
 |eref (o:Nat) (t:Ty) (i:Int) (off:Nat)
 |sg (ss:List Sg)
 |sv (o off:Nat) (k:IntKind) (n:Nat) (lo hi:Option Int)
 |sel (o off:Nat) (k:IntKind) (n:Nat) (i:Int) (m:Nat)
 |gel (k:IntKind) (n:Nat) (v:Vec n) (i:Int)
 |undef
 |gone
inductive Ob where
 |cells (cs:List (TV T))
 |map (k e:Ty) (m:List (Den T k×Den T e))
 |smap (ks vs:List (TV T))
 |arr (t:Ty) (l:List (Den T t))
 |sg (ss:List Sg)
 |gone
 |ro (b:Ob)
structure MS where
 fr:List (Nat×TV T)
 ob:List (Nat×Ob T)
inductive Sk where
 |d (t:Ty)
 |l (c:Cp) (t:Ty)
 |agg (l:List Sk)
 |ref (o off:Nat)
 |cref (l:List Sk) (off:Nat)
 |mapr (o:Nat)
 |mapc (k e:Ty)
 |fn (f:Nat) (a b:List Sk)
 |nils
 |vw (o:Nat) (t:Ty)
 |sub (o:Nat) (t:Ty)
 |sg (l:List SgK)
 |undef
mutual
def PayS:Sk->Type
 |.d t=>Den T t
 |.l _ t=>List (Den T t)
 |.agg l=>PayL l
 |.ref _ _=>Unit
 |.cref l _=>PayL l
 |.mapr _=>Unit
 |.mapc k e=>List (Den T k×Den T e)
 |.fn _ a b=>PayL a×PayL b
 |.nils=>Unit
 |.vw _ _=>Unit
 |.sub _ _=>Int×Int
 |.sg l=>PayG l
 |.undef=>Unit
def PayL:List Sk->Type
 | []=>Unit
 | [k]=>PayS k
 |k::h::l=>PayS k×PayL (h::l)
end
inductive ObSk where
 |cells (l:List Sk)
 |st (n:Nat)
 |map (k e:Ty)
 |arr (t:Ty)
 |sg (l:List SgK)
def PayO:ObSk->Type
 |.cells l=>PayL T l
 |.st n=>T n
 |.map k e=>List (Den T k×Den T e)
 |.arr t=>List (Den T t)
 |.sg l=>PayG l
def PayOs:List (Nat×ObSk)->Type
 | []=>Unit
 | [(_,k)]=>PayO T k
 | (_,k)::h::l=>PayO T k×PayOs (h::l)
def PaySl:List (Nat×Sk)->Type
 | []=>Unit
 | [(_,k)]=>PayS T k
 | (_,k)::h::l=>PayS T k×PaySl (h::l)
structure Shape where
 sl:List (Nat×Sk)
 ob:List (Nat×ObSk)
def Pay:Shape->Type
 | ⟨s,[]⟩=>PaySl T s
 | ⟨s,o::os⟩=>PaySl T s×PayOs T (o::os)
def Out:List (Ex×Shape)->Type
 | []=>Empty
 | [(_,s)]=>Pay T s
 | (_,s)::h::l=>Pay T s⊕Out (h::l)
end
structure Reg where
 T:Nat->Type
 d:(n:Nat)->T n
 lf:Nat->List Ty
 to:(n:Nat)->PayT T (lf n)->T n
 of:(n:Nat)->T n->PayT T (lf n)
 enc:(n:Nat)->T n->V
 ty:TypeId->Option Ty
 gl:Nat->Option ((k:IntKind)×(n:Nat)×Vec n)
structure FR (R:Reg) where
 args:List Sk
 res:List Sk
 F:PayL R.T args->Option (PayL R.T res)
 d:PayL R.T res
 own:Bool:=false
structure FI (R:Reg) where
 a:List Sk
 b:List Sk
 el:List Sk
 F:PayL R.T a->PayL R.T b->Option (List (PayL R.T el))
def F0:Nat:=1000000
structure FM (R:Reg) where
 args:List Sk
 obs:List (Nat×ObSk)
 res:List Sk
 F:PayL R.T args->PayOs R.T obs->Option (PayL R.T res×PayOs R.T obs)
structure IR (R:Reg) where
 it:Nat->List (FI R)
 im:Nat->List (FM R)
structure Note where
 K:List Nat
 O:List Nat
 sh:Shape
 outs:List (Ex×Shape)
structure Ann where
 loops:List (Nat×Note)
 joins:List (Nat×Note)
def look {U:Type}:List (Nat×U)->Nat->Option U
 | [],_=>none
 | (j,x)::l,i=>bif Nat.beq j i then some x else look l i
section
variable (R:Reg)
def encD:(t:Ty)->Den R.T t->V
 |.int k=>fun n=>.int k n
 |.bool=>fun b=>.bool b
 |.str=>fun s=>.str s
 |.slice t=>fun l=>.lst .sh (l.map (encD t))
 |.st n=>fun x=>R.enc n x
def encs:(l:List Ty)->PayT R.T l->List V
 | [],_=>[]
 | [t],x=>[encD R t x]
 |t::u::l,p=>encD R t p.1::encs (u::l) p.2
def szD:Ty->Nat
 |.st n=>(R.lf n).length
 |_=>1
def dfl:(t:Ty)->Den R.T t
 |.int _=>(0:Int)
 |.bool=>false
 |.str=>([]:List UInt8)
 |.slice t=>([]:List (Den R.T t))
 |.st n=>R.d n
def tv1 (c:Cp):(t:Ty)->Den R.T t->TV R.T
 |.int k=>fun n=>.int k n
 |.bool=>fun b=>.bool b
 |.str=>fun s=>.str s
 |.slice t=>fun l=>.lst c t l
 |.st _=>fun _=>.undef
def tvs (c:Cp):(l:List Ty)->PayT R.T l->List (TV R.T)
 | [],_=>[]
 | [t],x=>[tv1 R c t x]
 |t::u::l,p=>tv1 R c t p.1::tvs c (u::l) p.2
def tvD (c:Cp):(t:Ty)->Den R.T t->TV R.T
 |.st n=>fun x=>.agg (tvs R c (R.lf n) (R.of n x))
 |.int k=>fun n=>.int k n
 |.bool=>fun b=>.bool b
 |.str=>fun s=>.str s
 |.slice t=>fun l=>.lst c t l
def castL {t u:Ty} (l:List (Den R.T t)):Option (List (Den R.T u)):=if h:t=u then some (h▸l) else none
def unInt (k:IntKind):TV R.T->Option Int
 |.int k' n=>if k=k' then some n else none
 |_=>none
def unBool:TV R.T->Option Bool
 |.bool b=>some b
 |.blit b=>some b
 |_=>none
def unStr:TV R.T->Option (List UInt8)
 |.str s=>some s
 |_=>none
def unSl (t:Ty):TV R.T->Option (List (Den R.T t))
 |.lst _ _ l=>castL R l
 |.nils=>some []
 |_=>none
def un1:(t:Ty)->TV R.T->Option (Den R.T t)
 |.int k=>fun v=>unInt R k v
 |.bool=>fun v=>unBool R v
 |.str=>fun v=>unStr R v
 |.slice t=>fun v=>unSl R t v
 |.st _=>fun _=>none
def hd1:List (TV R.T)->TV R.T
 | [v]=>v
 |_=>.gone
def uns:(l:List Ty)->List (TV R.T)->Option (PayT R.T l)
 | []=>fun vs=>match vs with
   | []=>some ()
   |_::_=>none
 | [t]=>fun vs=>un1 R t (hd1 R vs)
 |t::u::l=>fun vs=>match vs with
  | []=>none
  |v::vs=>match un1 R t v with
   |some x=>match uns (u::l) vs with
    |some p=>some (x,p)
    |none=>none
   |none=>none
def unSt (n:Nat):TV R.T->Option (R.T n)
 |.agg cs=>match uns R (R.lf n) cs with
  |some p=>some (R.to n p)
  |none=>none
 |_=>none
def unD:(t:Ty)->TV R.T->Option (Den R.T t)
 |.st n=>fun v=>unSt R n v
 |.int k=>fun v=>unInt R k v
 |.bool=>fun v=>unBool R v
 |.str=>fun v=>unStr R v
 |.slice t=>fun v=>unSl R t v
def TV.cells {T:Nat->Type}:TV T->List (TV T)
 |.agg cs=>cs
 |v=>[v]
mutual
def ment {T:Nat->Type} (o:Nat):TV T->Bool
 |.ref p _=>Nat.beq p o
 |.mapr p=>Nat.beq p o
 |.agg cs=>mentL o cs
 |.tup cs=>mentL o cs
 |.cref cs _=>mentL o cs
 |.fn _ a b=>mentL o a||mentL o b
 |.opt _ _ v=>ment o v
 |.vw p _=>Nat.beq p o
 |.sub p _ _ _=>Nat.beq p o
 |.eref p _ _ _=>Nat.beq p o
 |.sv p _ _ _ _ _=>Nat.beq p o
 |.sel p _ _ _ _ _=>Nat.beq p o
 |_=>false
def mentL {T:Nat->Type} (o:Nat):List (TV T)->Bool
 | []=>false
 |v::l=>ment o v||mentL o l
end
def Ob.ment {T:Nat->Type} (o:Nat):Ob T->Bool
 |.cells cs=>mentL o cs
 |.smap ks vs=>mentL o ks||mentL o vs
 |.ro b=>Ob.ment o b
 |_=>false
mutual
def wk {T:Nat->Type} (t:Nat):TV T->TV T
 |.lst (.own u) ty l=>bif Nat.beq u t then .lst .any ty l else .lst (.own u) ty l
 |.agg cs=>.agg (wkL t cs)
 |.tup cs=>.tup (wkL t cs)
 |.cref cs off=>.cref (wkL t cs) off
 |.fn f a b=>.fn f (wkL t a) (wkL t b)
 |.opt j w v=>.opt j w (wk t v)
 |v=>v
def wkL {T:Nat->Type} (t:Nat):List (TV T)->List (TV T)
 | []=>[]
 |v::l=>wk t v::wkL t l
end
def Ob.wk {T:Nat->Type} (t:Nat):Ob T->Ob T
 |.cells cs=>.cells (wkL t cs)
 |.smap ks vs=>.smap (wkL t ks) (wkL t vs)
 |.ro b=>.ro (Ob.wk t b)
 |o=>o
def mapF {U:Type} (f:U->U):List (Nat×U)->List (Nat×U)
 | []=>[]
 | (i,x)::l=>(i,f x)::mapF f l
def delF {U:Type} (i:Nat):List (Nat×U)->List (Nat×U)
 | []=>[]
 | (j,x)::l=>bif Nat.beq j i then delF i l else (j,x)::delF i l
def MS.wk {T:Nat->Type} (t:Nat) (st:MS T):MS T:=⟨mapF (Aq.wk t) st.fr,mapF (Ob.wk t) st.ob⟩
def unopt {T:Nat->Type} (j:Nat):TV T->TV T
 |.opt i w v=>bif Nat.beq i j then .gone else .opt i w v
 |v=>v
def MS.put {T:Nat->Type} (st:MS T) (i:Nat) (v:TV T):MS T:={st with fr:=(i,v)::mapF (unopt i) (delF i st.fr)}
def MS.putO {T:Nat->Type} (st:MS T) (d:Option Nat) (v:TV T):MS T:=match d with
 |some i=>st.put i v
 |none=>st
def lrn {T:Nat->Type} (j:Nat) (b:Bool):TV T->TV T
 |.opt i w v=>bif Nat.beq i j then (bif (b==w) then v else .undef) else .opt i w v
 |v=>v
def MS.learn {T:Nat->Type} (st:MS T) (j:Nat) (b:Bool):MS T:={st with fr:=(j,.blit b)::mapF (lrn j b) (delF j st.fr)}
def MS.learnO {T:Nat->Type} (st:MS T) (c:Operand) (b:Bool):MS T:=match c with
 |.tmp j=>st.learn j b
 |_=>st
def killO {T:Nat->Type} (o:Nat) (v:TV T):TV T:=bif ment o v then .gone else v
def killC {T:Nat->Type} (o:Nat):List (TV T)->List (TV T)
 | []=>[]
 |v::l=>killO o v::killC o l
def Ob.kill {T:Nat->Type} (o:Nat):Ob T->Ob T
 |.cells cs=>.cells (killC o cs)
 |v=>bif Ob.ment o v then .gone else v
def MS.new {T:Nat->Type} (st:MS T) (o:Nat) (b:Ob T):MS T:=⟨mapF (killO o) st.fr,(o,b)::mapF (Ob.kill o) (delF o st.ob)⟩
def MS.set {T:Nat->Type} (st:MS T) (o:Nat) (b:Ob T):MS T:={st with ob:=(o,b)::delF o st.ob}
def MS.del {T:Nat->Type} (st:MS T) (o:Nat):MS T:={st with ob:=delF o st.ob}
def stripO {T:Nat->Type}:Ob T->Ob T
 |.ro b=>stripO b
 |b=>b
def rdOb {T:Nat->Type} (st:MS T) (o:Nat):Option (Ob T):=match look st.ob o with
 |some b=>some (stripO b)
 |none=>none
def isRo {T:Nat->Type}:Ob T->Bool
 |.ro _=>true
 |.gone=>true
 |_=>false
def memN (i:Nat):List Nat->Bool
 | []=>false
 |j::l=>Nat.beq i j||memN i l
mutual
def solid {T:Nat->Type} (W:List Nat):TV T->Bool
 |.lst (.own _) _ _=>false
 |.ref o _=>!(memN o W)
 |.mapr o=>!(memN o W)
 |.agg cs=>solidL W cs
 |.tup cs=>solidL W cs
 |.cref cs _=>solidL W cs
 |.fn _ a b=>solidL W a&& solidL W b
 |.opt _ _ _=>false
 |.vw o _=>!(memN o W)
 |.sub o _ _ _=>!(memN o W)
 |.eref o _ _ _=>!(memN o W)
 |.sv o _ _ _ _ _=>!(memN o W)
 |.sel o _ _ _ _ _=>!(memN o W)
 |.gone=>false
 |_=>true
def solidL {T:Nat->Type} (W:List Nat):List (TV T)->Bool
 | []=>true
 |v::l=>solid W v&& solidL W l
end
def solidO {T:Nat->Type} (W:List Nat):Ob T->Bool
 |.cells cs=>solidL W cs
 |.map _ _ _=>true
 |.smap ks vs=>solidL W ks&& solidL W vs
 |.arr _ _=>true
 |.sg _=>true
 |.ro b=>solidO W b
 |.gone=>false
def selF {U:Type} (p:Nat->U->Bool) (f:U->U) (l:List (Nat×U)):List Nat->List (Nat×U)
 | []=>[]
 |i::is=>match look l i with
  |some x=>bif p i x then (i,f x)::selF p f l is else selF p f l is
  |none=>selF p f l is
def wkA {T:Nat->Type}:TV T->TV T
 |.lst (.own _) t l=>.lst .any t l
 |v=>v
def base {T:Nat->Type} (W K O:List Nat) (mark:Ob T->Ob T) (st:MS T):MS T:=
 ⟨selF (fun i v=>!(memN i W)&& solid W (wkA v)) wkA st.fr K,selF (fun o b=>!(memN o W)&& solidO W b) mark st.ob O⟩
def MS.over {T:Nat->Type} (st b:MS T):MS T:=⟨st.fr++b.fr,st.ob++b.ob⟩
def ofScalarM {T:Nat->Type}:Value->Option (TV T)
 |.bool b=>some (.blit b)
 |.int k n=>some (.int k n)
 |.string s=>some (.str s.data.toList)
 |.pointer none=>some .nilp
 |.slice none 0 0=>some .nils
 |.map none=>some .nilm
 |.nilFunc=>some .nilf
 |.nilIface=>some .nili
 |_=>none
def ofScalarsM {T:Nat->Type}:List Value->Option (List (TV T))
 | []=>some []
 |v::l=>match ofScalarM v with
  |some x=>match ofScalarsM l with
   |some y=>some (x::y)
   |none=>none
  |none=>none
def ofValueM {T:Nat->Type}:Value->Option (TV T)
 |.agg cs=>match ofScalarsM cs.toList with
  |some l=>some (.agg l)
  |none=>none
 |v=>ofScalarM v
def resG {T:Nat->Type} (g:List (Nat×Bool)):TV T->Option (TV T)
 |.opt j w v=>match look g j with
  |some u=>some (bif u==w then v else .undef)
  |none=>none
 |v=>some v
def evM {T:Nat->Type} (g:List (Nat×Bool)) (st:MS T):Operand->Option (TV T)
 |.tmp t=>match look st.fr t with
  |some v=>resG g v
  |none=>none
 |.const v=>ofValueM v
 |.func f=>some (.fn f [] [])
 |.global _=>none
def evMs {T:Nat->Type} (g:List (Nat×Bool)) (st:MS T):List Operand->Option (List (TV T))
 | []=>some []
 |x::l=>match evM g st x with
  |some v=>match evMs g st l with
   |some vs=>some (v::vs)
   |none=>none
  |none=>none
def evPs {T:Nat->Type} (g:List (Nat×Bool)) (st:MS T):List (Nat×Operand)->Option (List (Nat×TV T))
 | []=>some []
 | (i,x)::l=>match evM g st x with
   |some v=>match evPs g st l with
    |some vs=>some ((i,v)::vs)
    |none=>none
   |none=>none
def subI {U:Type} (l:List U) (a b:Int):List U:=(l.take b.toNat).drop a.toNat
def clo1 {T:Nat->Type} (st:MS T):TV T->TV T
 |.ref o off=>match rdOb st o with
  |some (.cells cs)=>.cref cs off
  |_=>.ref o off
 |.mapr o=>match rdOb st o with
  |some (.map k e m)=>.mapc k e m
  |_=>.mapr o
 |.vw o t=>match rdOb st o with
  |some (.arr t' l)=>if t'=t then .lst .sh t' l else .vw o t
  |_=>.vw o t
 |.sub o t a b=>match rdOb st o with
  |some (.arr t' l)=>if t'=t then .lst .sh t' (subI l a b) else .sub o t a b
  |_=>.sub o t a b
 |v=>v
def clo1s {T:Nat->Type} (st:MS T):List (TV T)->List (TV T)
 | []=>[]
 |v::l=>clo1 st v::clo1s st l
def cloM {T:Nat->Type} (st:MS T):TV T->TV T
 |.fn f a b=>.fn f (clo1s st a) (clo1s st b)
 |.agg cs=>.agg (clo1s st cs)
 |v=>clo1 st v
def cloMs {T:Nat->Type} (st:MS T):List (TV T)->List (TV T)
 | []=>[]
 |v::l=>cloM st v::cloMs st l
def oneM {T:Nat->Type}:TV T->Bool
 |.agg _=>false
 |.sg _=>false
 |.tup _=>false
 |.gone=>false
 |.undef=>false
 |.opt _ _ _=>false
 |_=>true
def oneMs {T:Nat->Type}:List (TV T)->Bool
 | []=>true
 |v::l=>oneM v&& oneMs l
def notG {T:Nat->Type}:TV T->Bool
 |.gone=>false
 |.sg _=>false
 |.opt _ _ _=>false
 |_=>true
mutual
def stV {T:Nat->Type}:TV T->Bool
 |.int _ _=>true
 |.bool _=>true
 |.blit _=>true
 |.str _=>true
 |.nilp=>true
 |.nilf=>true
 |.nilm=>true
 |.nili=>true
 |.lst .sh _ _=>true
 |.agg cs=>stL cs
 |.tup cs=>stL cs
 |.mapc _ _ _=>true
 |.cref cs _=>stL cs
 |.fn _ a b=>stL a&& stL b
 |.sg _=>true
 |_=>false
def stL {T:Nat->Type}:List (TV T)->Bool
 | []=>true
 |v::l=>stV v&& stL l
end
def er1M {T:Nat->Type}:TV T->TV T
 |.lst _ t l=>.lst .sh t l
 |v=>v
def er1Ms {T:Nat->Type}:List (TV T)->List (TV T)
 | []=>[]
 |v::l=>er1M v::er1Ms l
def erM {T:Nat->Type}:TV T->TV T
 |.lst _ t l=>.lst .sh t l
 |.agg cs=>.agg (er1Ms cs)
 |v=>v
def cl1 {T:Nat->Type}:TV T->Bool
 |.lst _ _ _=>true
 |.nils=>true
 |v=>stV v
def cl1s {T:Nat->Type}:List (TV T)->Bool
 | []=>true
 |v::l=>cl1 v&& cl1s l
def clV {T:Nat->Type}:TV T->Bool
 |.agg cs=>cl1s cs
 |v=>cl1 v
def clVs {T:Nat->Type}:List (TV T)->Bool
 | []=>true
 |v::l=>clV v&& clVs l
mutual
def cSk:Sk->Bool
 |.d _=>true
 |.l c _=>match c with
  |.any=>true
  |.sh=>true
  |_=>false
 |.agg l=>cSkL l
 |.cref l _=>cSkL l
 |.mapc _ _=>true
 |.fn _ a b=>cSkL a&& cSkL b
 |.sg _=>true
 |_=>false
def cSkL:List Sk->Bool
 | []=>true
 |k::l=>cSk k&& cSkL l
def dep:Sk->Nat
 |.agg l=>depL l+3
 |.cref l _=>depL l+3
 |.fn _ a b=>max (depL a) (depL b)+3
 |_=>3
def depL:List Sk->Nat
 | []=>0
 |k::l=>max (dep k) (depL l)
end
def flatT:Ty->Bool
 |.int _=>true
 |.bool=>true
 |.str=>true
 |_=>false
def flatSk:List Sk->Bool
 | []=>true
 |.d t::l=>flatT t&& flatSk l
 |.sg _::l=>flatSk l
 |_=>false
mutual
def encS:(k:Sk)->PayS R.T k->V
 |.d t,x=>encD R t x
 |.l _ t,x=>encD R (.slice t) x
 |.agg l,x=>.agg (encSL l x)
 |.cref l off,x=>.cref (encSL l x) off
 |.mapc k e,x=>.mapc (List.map (fun p=>encD R k p.1) x) (List.map (fun p=>encD R e p.2) x)
 |.fn f a b,x=>.fn (.func f) (encSL a x.1) (encSL b x.2)
 |.nils,_=>.lst .sh []
 |.ref _ _,_=>undefV
 |.mapr _,_=>undefV
 |.vw _ _,_=>undefV
 |.sub _ _,_=>undefV
 |.sg l,x=>.agg (sgV (upG l x))
 |.undef,_=>undefV
def encSL:(l:List Sk)->PayL R.T l->List V
 | [],_=>[]
 | [k],x=>[encS k x]
 |k::h::l,p=>encS k p.1::encSL (h::l) p.2
end
def retV:List V->V
 | [v]=>v
 |vs=>.tup vs
def capLe:Cp->Cp->Bool
 |_,.any=>true
 |.sh,.sh=>true
 |.nil,.nil=>true
 |.nil,.own _=>true
 |.full,.own _=>true
 |.full,.full=>true
 |.own t,.own u=>Nat.beq t u
 |_,_=>false
def pkLst (c:Cp) (t:Ty):TV R.T->Option (List (Den R.T t))
 |.lst c' _ l=>bif capLe c' c then castL R l else none
 |.nils=>bif capLe .nil c then some [] else none
 |_=>none
def castM {k e k' e':Ty} (m:List (Den R.T k'×Den R.T e')):Option (List (Den R.T k×Den R.T e)):=if h:k'=k/\e'=e then some (by rw[<-h.1,<-h.2];exact m) else none
mutual
def pk:(k:Sk)->TV R.T->Option (PayS R.T k)
 |.d t=>fun v=>unD R t v
 |.l c t=>fun v=>pkLst R c t v
 |.agg l=>fun v=>match v with
  |.agg cs=>pkL l cs
  |_=>none
 |.ref o off=>fun v=>match v with
  |.ref p off'=>bif Nat.beq p o&& Nat.beq off' off then some () else none
  |_=>none
 |.cref l off=>fun v=>match v with
  |.cref cs off'=>bif Nat.beq off' off then pkL l cs else none
  |_=>none
 |.mapr o=>fun v=>match v with
  |.mapr p=>bif Nat.beq p o then some () else none
  |_=>none
 |.mapc k e=>fun v=>match v with
  |.mapc _ _ m=>castM R m
  |_=>none
 |.fn f a b=>fun v=>match v with
  |.fn f' a' b'=>bif Nat.beq f' f then (match pkL a a' with
   |some x=>match pkL b b' with
    |some y=>some (x,y)
    |none=>none
   |none=>none) else none
  |_=>none
 |.nils=>fun v=>match v with
  |.nils=>some ()
  |_=>none
 |.vw o t=>fun v=>match v with
  |.vw p t'=>bif Nat.beq p o then (if t'=t then some () else none) else none
  |_=>none
 |.sub o t=>fun v=>match v with
  |.sub p t' a b=>bif Nat.beq p o then (if t'=t then some (a,b) else none) else none
  |_=>none
 |.sg l=>fun v=>match v with
  |.sg ss=>pkG l ss
  |_=>none
 |.undef=>fun v=>match v with
  |.undef=>some ()
  |_=>none
def pkL:(l:List Sk)->List (TV R.T)->Option (PayL R.T l)
 | []=>fun vs=>match vs with
   | []=>some ()
   |_::_=>none
 | [k]=>fun vs=>match vs with
   | [v]=>pk k v
   |_=>none
 |k::h::l=>fun vs=>match vs with
  | []=>none
  |v::vs=>match pk k v with
   |some x=>match pkL (h::l) vs with
    |some p=>some (x,p)
    |none=>none
   |none=>none
end
mutual
def up (c:Cp):(k:Sk)->PayS R.T k->TV R.T
 |.d t,x=>tvD R c t x
 |.l c t,x=>.lst c t x
 |.agg l,x=>.agg (upL c l x)
 |.ref o off,_=>.ref o off
 |.cref l off,x=>.cref (upL c l x) off
 |.mapr o,_=>.mapr o
 |.mapc k e,x=>.mapc k e x
 |.fn f a b,x=>.fn f (upL c a x.1) (upL c b x.2)
 |.nils,_=>.nils
 |.vw o t,_=>.vw o t
 |.sub o t,x=>.sub o t x.1 x.2
 |.sg l,x=>.sg (upG l x)
 |.undef,_=>.undef
def upL (c:Cp):(l:List Sk)->PayL R.T l->List (TV R.T)
 | [],_=>[]
 | [k],x=>[up c k x]
 |k::h::l,p=>up c k p.1::upL c (h::l) p.2
end
def pkO:(k:ObSk)->Ob R.T->Option (PayO R.T k)
 |.cells l=>fun o=>match o with
  |.cells cs=>pkL R l cs
  |_=>none
 |.st n=>fun o=>match o with
  |.cells cs=>unSt R n (.agg cs)
  |_=>none
 |.map k e=>fun o=>match o with
  |.map _ _ m=>castM R m
  |_=>none
 |.arr t=>fun o=>match o with
  |.arr _ l=>castL R l
  |_=>none
 |.sg l=>fun o=>match o with
  |.sg ss=>pkG l ss
  |_=>none
def upO:(k:ObSk)->PayO R.T k->Ob R.T
 |.cells l,x=>.cells (upL R .any l x)
 |.st n,x=>.cells (tvs R .any (R.lf n) (R.of n x))
 |.map k e,x=>.map k e x
 |.arr t,x=>.arr t x
 |.sg l,x=>.sg (upG l x)
def pkSl (st:List (Nat×TV R.T)):(l:List (Nat×Sk))->Option (PaySl R.T l)
 | []=>some ()
 | [(i,k)]=>match look st i with
   |some v=>pk R k v
   |none=>none
 | (i,k)::h::l=>match look st i with
   |some v=>match pk R k v with
    |some x=>match pkSl st (h::l) with
     |some p=>some (x,p)
     |none=>none
    |none=>none
   |none=>none
def upSl:(l:List (Nat×Sk))->PaySl R.T l->List (Nat×TV R.T)
 | [],_=>[]
 | [(i,k)],x=>[(i,up R .any k x)]
 | (i,k)::h::l,p=>(i,up R .any k p.1)::upSl (h::l) p.2
def pkOs (st:List (Nat×Ob R.T)):(l:List (Nat×ObSk))->Option (PayOs R.T l)
 | []=>some ()
 | [(i,k)]=>match look st i with
   |some v=>pkO R k v
   |none=>none
 | (i,k)::h::l=>match look st i with
   |some v=>match pkO R k v with
    |some x=>match pkOs st (h::l) with
     |some p=>some (x,p)
     |none=>none
    |none=>none
   |none=>none
def upOs:(l:List (Nat×ObSk))->PayOs R.T l->List (Nat×Ob R.T)
 | [],_=>[]
 | [(i,k)],x=>[(i,upO R k x)]
 | (i,k)::h::l,p=>(i,upO R k p.1)::upOs (h::l) p.2
def pack (st:MS R.T):(s:Shape)->Option (Pay R.T s)
 | ⟨s,[]⟩=>pkSl R st.fr s
 | ⟨s,o::os⟩=>match pkSl R st.fr s with
   |some x=>match pkOs R st.ob (o::os) with
    |some y=>some (x,y)
    |none=>none
   |none=>none
def isE {T:Nat->Type}:TV T->Bool
 |.nils=>true
 |.lst .nil _ l=>l.isEmpty
 |.lst .full _ l=>l.isEmpty
 |_=>false
def prepS {T:Nat->Type} (W:List Nat):List (Nat×Sk)->MS T->MS T
 | [],st=>st
 | (i,.vw o t)::l,st=>match look st.fr i with
   |some v=>bif isE v&& memN o W then prepS W l ⟨(i,.vw o t)::(st.new o (.arr t [])).fr,(st.new o (.arr t [])).ob⟩ else prepS W l st
   |none=>prepS W l st
 |_::l,st=>prepS W l st
def packW (W:List Nat) (st:MS R.T) (s:Shape):Option (Pay R.T s):=pack R (prepS W s.sl st) s
def unpack:(s:Shape)->Pay R.T s->MS R.T
 | ⟨s,[]⟩,x=>⟨upSl R s x,[]⟩
 | ⟨s,o::os⟩,x=>⟨upSl R s x.1,upOs R (o::os) x.2⟩
def exEq:Ex->Ex->Bool
 |.normal,.normal=>true
 |.ret,.ret=>true
 |.exit i,.exit j=>Nat.beq i j
 |_,_=>false
def packOut (W:List Nat) (e:Ex) (st:MS R.T):(l:List (Ex×Shape))->Option (Out R.T l)
 | []=>none
 | [(x,s)]=>bif exEq e x then packW R W st s else none
 | (x,s)::h::l=>bif exEq e x then (match packW R W st s with
   |some p=>some (.inl p)
   |none=>none) else (match packOut W e st (h::l) with
   |some p=>some (.inr p)
   |none=>none)
def unpackOut {β:Type} (b:MS R.T) (k:Ex->MS R.T->Option β):(l:List (Ex×Shape))->Out R.T l->Option β
 | [],_=>none
 | [(x,s)],p=>k x (b.over (unpack R s p))
 | (x,s)::h::l,p=>Sum.elim (fun q=>k x (b.over (unpack R s q))) (fun q=>unpackOut b k (h::l) q) p
end
end Aq
end
