import Derived.Test.YtgdialomgeijcaaGreatF3604
set_option linter.all false
section
namespace Aq
open Go
section
variable {E:Env}
def cK (S T:R8):Prop:=(∀c fr Y r,S.code c fr Y=some r->T.code c fr Y=some r)/\∀f args d Y r,S.call f args d Y=some r->T.call f args d Y=some r
variable {S T:R8}
theorem vT (h:cK S T){f:FuncId}{args:List V}{v:V}(hc:VW E S f args=some v):VW E T f args=some v:=by
 unfold VW at hc⊢;cases hg:E.Wi f with
 |some g=>simp only[hg] at hc⊢;exact hc|none=>simp only[hg,iP] at hc⊢;obtain⟨x,h1,h2⟩:=hc;exact⟨x,h.2 _ _ _ _ _ h1,h2⟩
theorem AX (h:cK S T){l:Nat}{args:List V}{Y:qd}{r:V×qd}(hc:fF S l args Y=some r):fF T l args Y=some r:=by
 unfold fF at hc⊢;simp only[iP] at hc⊢;obtain⟨r0,hl,hc⟩:=hc;refine⟨r0,hl,?_⟩;split at hc
 .rename_i hst;rw[if_pos hst];simp only[iP] at hc⊢;obtain⟨⟨e1,Rb,Y1⟩,jC,hc⟩:=hc;refine⟨(e1,Rb,Y1),h.1 _ _ _ _ jC,?_⟩;cases e1 with
  |normal=>
   simp only[iP] at hc⊢;obtain⟨r1,hl1,hc⟩:=hc;refine⟨r1,hl1,?_⟩;split at hc
   .rename_i iZ;rw[if_pos iZ];simp only[iP] at hc⊢;obtain⟨x,hb,y,hy,hc⟩:=hc;exact⟨x,h.1 _ _ _ _ hb,y,hy,hc⟩
   .simp at hc
  |exit i=>simp at hc|ret=>simp at hc
 .simp at hc
theorem vU (h:cK S T){d:Nat}{Y:qd}{fv:V}{args:List V}{r:V×qd}(hc:bG E S d Y fv args=some r):bG E T d Y fv args=some r:=by
 unfold bG at hc⊢;split at hc
 .split at hc
  .rename_i hi;simp only[hi,if_true];exact h.2 _ _ _ _ _ hc
  .rename_i hi;simp only[iP] at hc;obtain⟨az,h1,v,h2,h3⟩:=hc;simp only[hi,h1,Option.bind_some,vT h h2];exact h3
 .exact AX h hc
 .simp at hc
theorem JJ (h:cK S T){Y:qd}{st:Nat}{fv:V}{args:List V}{r:V×qd}(hc:iw E S Y st fv args=some r):iw E T Y st fv args=some r:=by unfold iw at hc;cases hc
theorem vV (h:cK S T){fr:Fr}{Y:qd}{st:Nat}{o:Oper}{r:V×Fr×qd}(hc:opC E S fr Y st o=some r):opC E T fr Y st o=some r:=by
 unfold opC at hc⊢;split at hc
 .rename_i c ho;simp only[ho] at hc⊢;split at hc
  .exact hc
  .rename_i f hf;split at hc
   .rename_i aS;simp only[aS,if_true];simp only[Py] at hc⊢;obtain⟨x,h1,h2⟩:=hc;exact⟨x,JJ h h1,h2⟩
   rename_i aS;simp only[aS,if_false,PE];simp only[Py] at hc⊢;obtain⟨x,h1,h2⟩:=hc;exact⟨x,vU h h1,h2⟩
  .simp at hc
 .simp at hc
 .exact hc
theorem rD (h:cK S T)(all:List Oper):∀(os:List Oper)(st:Nat)(fr:Fr)(Y:qd)(r:Fr×qd),opsE E S all st os fr Y=some r->opsE E T all st os fr Y=some r:=by
 intro os;induction os with
 |nil=>intro st fr Y r hc;exact hc|cons o os ih=>
  intro st fr Y r hc;simp only[opsE,iP] at hc⊢;obtain⟨t,h1,h2⟩:=hc;refine⟨t,h1,?_⟩;cases t with
  |true=>simp only[if_true,iP] at h2⊢;obtain⟨x,h3,h4⟩:=h2;exact⟨x,vV h h3,ih _ _ _ _ h4⟩
  |false=>simp only[PE,if_false] at h2⊢;exact ih _ _ _ _ h2
theorem vW (h:cK S T)(all:List Oper):∀(os:List Oper)(st:Nat)(fr:Fr)(Y:qd)(r:List RV×Fr×qd),dU E S all st os fr Y=some r->dU E T all st os fr Y=some r:=by
 intro os;induction os with
 |nil=>intro st fr Y r hc;exact hc|cons o os ih=>
  intro st fr Y r hc;simp only[dU,iP] at hc⊢;obtain⟨t,h1,h2⟩:=hc;refine⟨t,h1,?_⟩;cases t with
  |true=>simp only[if_true,iP,Py] at h2⊢;obtain⟨x,h3,y,h4,h5⟩:=h2;exact⟨x,vV h h3,y,ih _ _ _ _ h4,h5⟩
  |false=>simp only[PE,if_false,Py] at h2⊢;obtain⟨y,h4,h5⟩:=h2;exact⟨y,ih _ _ _ _ h4,h5⟩
theorem pI (h:cK S T){ops:List Oper}{base i:Nat}{fr:Fr}{Y:qd}{r:Fr×qd}(hc:Tj E S ops base i fr Y=some r):Tj E T ops base i fr Y=some r:=by
 unfold Tj at hc⊢;split at hc
 .exact hc
 .simp only[iP] at hc⊢;obtain⟨t,h1,h2⟩:=hc;refine⟨t,h1,?_⟩;cases t with
  |true=>simp only[if_true,Py] at h2⊢;obtain⟨x,h3,h4⟩:=h2;exact⟨x,vV h h3,h4⟩
  |false=>simpa using h2
theorem JK (h:cK S T){ms:List Nat}{ops:List Oper}{base:Nat}{x y:Fr×qd}(hf:Free E S ms ops base x y):Free E T ms ops base x y:=by obtain⟨s,T',W,h0,hn,oV,hloc,hr⟩:=hf;refine⟨s,T',W,h0,hn,oV,fun i hi x hx=>?_,hr⟩;obtain⟨y,h1,h2⟩:=hloc i hi x hx;exact⟨y,pI h h1,h2⟩
theorem iL (h:cK S T):∀(c:Code)(fr:Fr)(Y:qd)(r:Ex×Fr×qd),RD E S c fr Y=some r->RD E T c fr Y=some r:=by
 intro c;induction c with
 |region id ops dr=>
  intro fr Y r hc;simp only[RD] at hc⊢;split at hc
  .rename_i hd;simp only[hd,if_true,iP] at hc⊢;obtain⟨x,h1,h2⟩:=hc;refine⟨x,vW h _ _ _ _ _ _ h1,?_⟩;split at h2
   .rename_i hp;rw[if_pos hp];exact h2
   .rename_i hp;rw[if_neg hp];unfold tO at h2⊢;split at h2
    .rename_i hf;rw[if_pos ⟨hf.1,JK h hf.2⟩];exact h2
    .cases h2
  .rename_i hd;simp only[hd,PE,if_false,Py] at hc⊢;obtain⟨x,h1,h2⟩:=hc;exact⟨x,rD h _ _ _ _ _ _ h1,h2⟩
 |seq a b iha ihb=>
  intro fr Y r hc;simp only[RD,iP] at hc⊢;obtain⟨⟨e,Rb,Y1⟩,h1,h2⟩:=hc;refine⟨(e,Rb,Y1),iha _ _ _ h1,?_⟩;cases e with
  |normal=>exact ihb _ _ _ h2|exit i=>exact h2|ret=>exact h2
 |cond c a b iha ihb=>
  intro fr Y r hc;simp only[RD,iP] at hc⊢;obtain⟨t,h1,h2⟩:=hc;refine⟨t,h1,?_⟩;cases t with
  |true=>simp only[if_true] at h2⊢;exact iha _ _ _ h2|false=>simp only[PE,if_false] at h2⊢;exact ihb _ _ _ h2
 |block id c ih=>intro fr Y r hc;simp only[RD,Py] at hc⊢;obtain⟨x,h1,h2⟩:=hc;exact⟨x,ih _ _ _ h1,h2⟩
 |loop c ih=>
  intro fr Y r hc;simp only[RD,iP] at hc⊢;obtain⟨⟨e,Rb,Y1⟩,h1,h2⟩:=hc;refine⟨(e,Rb,Y1),ih _ _ _ h1,?_⟩;cases e with
  |normal=>exact h.1 _ _ _ _ h2|exit i=>exact h2|ret=>exact h2
 |rangeFunc f ps a b iha ihb=>
  intro fr Y r hc;simp only[RD] at hc⊢;split at hc
  .rename_i hf;rw[if_pos hf];simp only[iP] at hc⊢;obtain⟨x,h1,h2⟩:=hc;exact⟨x,vU h h1,h2⟩
  .simp at hc
 |scope c ih=>intro fr Y r hc;simp only[RD] at hc⊢;exact ih _ _ _ hc|_=>intro fr Y r hc;simpa [RD] using hc
theorem JL (h:cK S T){f:FuncId}{args:List V}{d:Nat}{Y:qd}{r:V×qd}(hc:jT E S f args d Y=some r):jT E T f args d Y=some r:=by
 simp only[jT,iP] at hc⊢;obtain⟨fn,h1,c,h2,h3⟩:=hc;refine⟨fn,h1,c,h2,?_⟩;split at h3
 .rename_i hok;rw[if_pos hok];simp only[iP] at h3⊢;obtain⟨x,h4,h5⟩:=h3;exact⟨x,h.1 _ _ _ _ h4,h5⟩
 .simp at h3
theorem JM:∀n,cK (Rh E n) (Rh E (n+1)):=by
 intro n;induction n with
 |zero=>exact⟨(fun _ _ _ _ h=>by cases h),(fun _ _ _ _ _ h=>by cases h)⟩
 |succ n ih=>exact⟨fun c fr Y r h=>iL ih c fr Y r h,fun f args d Y r h=>JL ih h⟩
theorem cK.refl (S:R8):cK S S:=⟨fun _ _ _ _ h=>h,fun _ _ _ _ _ h=>h⟩
theorem cK.trans {S T UU:R8}(h:cK S T)(g:cK T UU):cK S UU:=⟨fun _ _ _ _ x=>g.1 _ _ _ _ (h.1 _ _ _ _ x),fun _ _ _ _ _ x=>g.2 _ _ _ _ _ (h.2 _ _ _ _ _ x)⟩
theorem bN {n m:Nat}(h:n<=m):cK (Rh E n) (Rh E m):=by
 induction m with
 |zero=>obtain rfl:n=0:=by omega
        exact .refl _
 |succ m ih=>
  by_cases e:n=m+1
  .subst e;exact .refl _
  .exact(ih (by omega)).trans (JM m)
end
section
variable (E:Env)
def OW (all:List Oper)(st:Nat)(os:List Oper)(fr:Fr)(Y:qd)(Q:Fr->qd->Prop):Prop:=
 ∃n fr' Y',opsE E (Rh E n) all st os fr Y=some (fr',Y')/\Q fr' Y'
def bO (ms:List Nat)(all:List Oper)(st:Nat)(os:List Oper)(fr:Fr)(Y:qd)(fs:List RV)(Q:Fr->qd->Prop):Prop:=
 ∃n fs' fr' Y',dU E (Rh E n) all st os fr Y=some (fs',fr',Y')/\aae ms (fs++fs')=true/\Q fr' Y'
def CW (c:Code)(fr:Fr)(Y:qd)(Q:Ex->Fr->qd->Prop):Prop:=
 ∃n e fr' Y',RD E (Rh E n) c fr Y=some (e,fr',Y')/\Q e fr' Y'
def Pure (f:FuncId)(args:List V)(v:V):Prop:=∃n,VW E (Rh E n) f args=some v
def U9 (f:FuncId)(args:List V)(d:Nat)(Y:qd)(Q:V->qd->Prop):Prop:=∃n v Y',(Rh E n).call f args d Y=some (v,Y')/\Q v Y'
end
section
variable {E:Env}{fr:Fr}{Y:qd}
theorem Pure.ok (hE:TU E){f:FuncId}{args:List V}{v:V}(h:Pure E f args v):Um E f args v:=h.elim fun _ h=>JI hE h
theorem OW.mono {all:List Oper}{st:Nat}{os:List Oper}{Q Q':Fr->qd->Prop}(h:OW E all st os fr Y Q)(hq:∀fr Y,Q fr Y->Q' fr Y):OW E all st os fr Y Q':=
 let ⟨n,fr',Y',h1,h2⟩:=h;⟨n,fr',Y',h1,hq _ _ h2⟩
theorem CW.mono {c:Code}{Q Q':Ex->Fr->qd->Prop}(h:CW E c fr Y Q)(hq:∀e fr Y,Q e fr Y->Q' e fr Y):CW E c fr Y Q':=
 let ⟨n,e,fr',Y',h1,h2⟩:=h;⟨n,e,fr',Y',h1,hq _ _ _ h2⟩
theorem OW.nil {all:List Oper}{st:Nat}{Q:Fr->qd->Prop}(h:Q fr Y):OW E all st [] fr Y Q:=⟨0,fr,Y,rfl,h⟩
theorem OW.op {all:List Oper}{st:Nat}{o:Oper}{os:List Oper}{v:V}{Y1:qd}{Q:Fr->qd->Prop}(hw:Sq all fr o=some true)(hop:∀S,opC E S fr Y st o=some (v,fr,Y1))(h:OW E all (st+1) os (fr.put o.dst v) Y1 Q):OW E all st (o::os) fr Y Q:=by
 obtain⟨n,fr',Y',h1,h2⟩:=h;exact⟨n,fr',Y',by simp only[opsE,hw,Option.bind_some,if_true,hop,h1],h2⟩
theorem OW.skip {all:List Oper}{st:Nat}{o:Oper}{os:List Oper}{Q:Fr->qd->Prop}(hw:Sq all fr o=some false)(h:OW E all (st+1) os (fr.put o.dst Lv) Y Q):OW E all st (o::os) fr Y Q:=by obtain⟨n,fr',Y',h1,h2⟩:=h;exact⟨n,fr',Y',by simp only[opsE,hw,Option.bind_some,PE,if_false,h1],h2⟩
theorem vX {d:Nat}{g:FuncId}{a b args az:List V}{v:V}{n:Nat}(hi:E.imp g=false)(has:(a++args++b).mapM (Rf 20 Y)=some az)(hp:VW E (Rh E n) g az=some v)(hc:((a++args++b).all (fun x=>Q9 (er x))||flat v)=true):bG E (Rh E n) d Y (.fn (.func g) a b) args=some (v,Y):=by
 unfold bG;simp only[hi,PE,if_false,has,Option.bind_some,hp,hc,if_true]
theorem pJ {o:Oper}{f:Operand}{g:FuncId}{a b:List V}(hf:fr.ev E f= .fn (.func g) a b)(h:∀d,o.dst=some d->E.own g d=false):Vi E fr o f=false:=by
 unfold Vi;rw[hf];cases hd:o.dst with
 |none=>rfl|some d=>exact h d hd
def rE (E:Env)(f:FuncId)(az:List V)(sz:Nat)(l:List V):Prop:=∃n v Y1,(Rh E n).call f az 1 qd.init=some (v,Y1)/\∀st Y,(∃c,(c= .nil\/c= .full)/\nX Y st Y1 v=some (.tX c l,Y))\/nX Y st Y1 v=some (.tX (.own sz st) l,Y.Sl st l.length)
theorem rE.of {f:FuncId}{az:List V}{sz:Nat}{l:List V}{n:Nat}{c:Cap}{Y1:qd}(h:(Rh E n).call f az 1 qd.init=some (.tX c l,Y1))(hp:Ry l=true)(hc:c= .nil\/c= .full\/∃s,c= .own sz s/\Y1.top s=l.length):rE E f az sz l:=by
 refine⟨n,_,Y1,h,fun st Y=>?_⟩;rcases hc with rfl|rfl| ⟨s,rfl,ht⟩
 .exact .inl ⟨.nil,.inl rfl,by unfold nX;dsimp only;rw[if_pos hp]⟩
 .exact .inl ⟨.full,.inr rfl,by unfold nX;dsimp only;rw[if_pos hp]⟩
 .exact .inr (by unfold nX;dsimp only;rw[if_pos hp,if_pos ht])
theorem OW.call {all:List Oper}{st:Nat}{o:Oper}{os:List Oper}{v:V}{Q:Fr->qd->Prop}{c:Call}{f:Operand}{g:FuncId}{a b az:List V}(hw:Sq all fr o=some true)(ho:o.op= .call c)(bD:c.callee= .value f)(hf:fr.ev E f= .fn (.func g) a b)(hi:E.imp g=false)(has:(a++c.args.toList.map (fr.ev E)++b).mapM (Rf 20 Y)=some az)(hp:Pure E g az v)(hc:((a++c.args.toList.map (fr.ev E)++b).all (fun x=>Q9 (er x))||flat v)=true)(h:OW E all (st+1) os (fr.put o.dst v) Y Q)(aS:∀d,o.dst=some d->E.own g d=false:=by intros;rfl):OW E all st (o::os) fr Y Q:=by
 obtain⟨n,fr',Y',h1,h2⟩:=h;obtain⟨m,hm⟩:=hp;have hm':=vT (bN (Qg n m)) hm;have h1':=rD (bN (QB n m)) _ _ _ _ _ _ h1;refine⟨max n m,fr',Y',?_,h2⟩;simp only[opsE,hw,Option.bind_some,if_true,opC,ho,bD,pJ hf aS,PE,if_false,hf,vX hi has hm' hc,Option.map_some,h1']
theorem OW.abp {all:List Oper}{st:Nat}{o:Oper}{os:List Oper}{Q:Fr->qd->Prop}{c:Call}{f:Operand}{g:FuncId}{a b:List V}(hw:Sq all fr o=some true)(ho:o.op= .call c)(bD:c.callee= .value f)(hf:fr.ev E f= .fn (.func g) a b)(hi:E.imp g=true)(hp:U9 E g (a++c.args.toList.map (fr.ev E)++b) (fr.d+1) Y (fun v Y1=>OW E all (st+1) os (fr.put o.dst v) Y1 Q))(aS:∀d,o.dst=some d->E.own g d=false:=by intros;rfl):OW E all st (o::os) fr Y Q:=by
 obtain⟨m,v,Y1,hm,n,fr',Y',h1,h2⟩:=hp;have hm':=(bN (Qg n m)).2 _ _ _ _ _ hm;have h1':=rD (bN (QB n m)) _ _ _ _ _ _ h1;refine⟨max n m,fr',Y',?_,h2⟩;have:bG E (Rh E (max n m)) fr.d Y (.fn (.func g) a b) (c.args.toList.map (fr.ev E))=some (v,Y1):=by unfold bG;simp only[hi,if_true];exact hm'
 simp only[opsE,hw,Option.bind_some,if_true,opC,ho,bD,pJ hf aS,PE,if_false,hf,this,Option.map_some,h1']
theorem bO.nil {ms:List Nat}{all:List Oper}{st:Nat}{fs:List RV}{Q:Fr->qd->Prop}(hp:aae ms fs=true)(h:Q fr Y):bO E ms all st [] fr Y fs Q:=⟨0,[],fr,Y,rfl,by simpa using hp,h⟩
theorem bO.op {ms:List Nat}{all:List Oper}{st:Nat}{o:Oper}{os:List Oper}{v:V}{Y1:qd}{fs:List RV}{Q:Fr->qd->Prop}(hw:Sq all fr o=some true)(hop:∀S,opC E S fr Y st o=some (v,fr,Y1))(h:bO E ms all (st+1) os (fr.put o.dst v) Y1 (fs++[aT E all fr o true]) Q):bO E ms all st (o::os) fr Y fs Q:=by
 obtain⟨n,fs',fr',Y',h1,h2,h3⟩:=h;exact⟨n,aT E all fr o true::fs',fr',Y',by simp only[dU,hw,Option.bind_some,if_true,hop,h1,Option.map_some],by simpa using h2,h3⟩
theorem bO.skip {ms:List Nat}{all:List Oper}{st:Nat}{o:Oper}{os:List Oper}{fs:List RV}{Q:Fr->qd->Prop}(hw:Sq all fr o=some false)(h:bO E ms all (st+1) os (fr.put o.dst Lv) Y (fs++[aT E all fr o false]) Q):bO E ms all st (o::os) fr Y fs Q:=by
 obtain⟨n,fs',fr',Y',h1,h2,h3⟩:=h;exact⟨n,aT E all fr o false::fs',fr',Y',by simp only[dU,hw,Option.bind_some,PE,if_false,h1,Option.map_some],by simpa using h2,h3⟩
theorem bO.call {ms:List Nat}{all:List Oper}{st:Nat}{o:Oper}{os:List Oper}{v:V}{fs:List RV}{Q:Fr->qd->Prop}{c:Call}{f:Operand}{g:FuncId}{a b az:List V}(hw:Sq all fr o=some true)(ho:o.op= .call c)(bD:c.callee= .value f)(hf:fr.ev E f= .fn (.func g) a b)(hi:E.imp g=false)(has:(a++c.args.toList.map (fr.ev E)++b).mapM (Rf 20 Y)=some az)(hp:Pure E g az v)(hc:((a++c.args.toList.map (fr.ev E)++b).all (fun x=>Q9 (er x))||flat v)=true)(h:bO E ms all (st+1) os (fr.put o.dst v) Y (fs++[aT E all fr o true]) Q)(aS:∀d,o.dst=some d->E.own g d=false:=by intros;rfl):bO E ms all st (o::os) fr Y fs Q:=by
 obtain⟨n,fs',fr',Y',h1,h2,h3⟩:=h;obtain⟨m,hm⟩:=hp;have hm':=vT (bN (Qg n m)) hm;have h1':=vW (bN (QB n m)) _ _ _ _ _ _ h1;refine⟨max n m,aT E all fr o true::fs',fr',Y',?_,by simpa using h2,h3⟩;simp only[dU,hw,Option.bind_some,if_true,opC,ho,bD,pJ hf aS,PE,if_false,hf,vX hi has hm' hc,Option.map_some,h1']
theorem bO.abp {ms:List Nat}{all:List Oper}{st:Nat}{o:Oper}{os:List Oper}{fs:List RV}{Q:Fr->qd->Prop}{c:Call}{f:Operand}{g:FuncId}{a b:List V}(hw:Sq all fr o=some true)(ho:o.op= .call c)(bD:c.callee= .value f)(hf:fr.ev E f= .fn (.func g) a b)(hi:E.imp g=true)(hp:U9 E g (a++c.args.toList.map (fr.ev E)++b) (fr.d+1) Y (fun v Y1=>bO E ms all (st+1) os (fr.put o.dst v) Y1 (fs++[aT E all fr o true]) Q))(aS:∀d,o.dst=some d->E.own g d=false:=by intros;rfl):bO E ms all st (o::os) fr Y fs Q:=by
 obtain⟨m,v,Y1,hm,n,fs',fr',Y',h1,h2,h3⟩:=hp;have hm':=(bN (Qg n m)).2 _ _ _ _ _ hm;have h1':=vW (bN (QB n m)) _ _ _ _ _ _ h1;refine⟨max n m,aT E all fr o true::fs',fr',Y',?_,by simpa using h2,h3⟩;have:bG E (Rh E (max n m)) fr.d Y (.fn (.func g) a b) (c.args.toList.map (fr.ev E))=some (v,Y1):=by unfold bG;simp only[hi,if_true];exact hm'
 simp only[dU,hw,Option.bind_some,if_true,opC,ho,bD,pJ hf aS,PE,if_false,hf,this,Option.map_some,h1']
end
def qd.bump (Y:qd)(k:Nat):qd:={Y with next:=Y.next+k}
section
variable {E:Env}{fr:Fr}{Y:qd}
theorem CW.region {id:Nat}{ops:Array Oper}{Q:Ex->Fr->qd->Prop}(h:OW E ops.toList Y.next ops.toList fr (Y.bump ops.toList.length) (fun fr Y=>Q .normal fr Y)):CW E (.region id ops false) fr Y Q:=by obtain⟨n,fr',Y',h1,h2⟩:=h;exact⟨n,.normal,fr',Y',by simp only[RD,PE,if_false];rw[show opsE E (Rh E n) ops.toList Y.next ops.toList fr {Y with next:=Y.next+ops.toList.length}=some (fr',Y') from h1];rfl,h2⟩
theorem CW.draw {id:Nat}{ops:Array Oper}{Q:Ex->Fr->qd->Prop}(he:Vt ops.toList=true)(h:bO E (Vj ops.toList) ops.toList Y.next ops.toList fr (Y.bump ops.toList.length) [] (fun fr Y=>Q .normal fr Y)):CW E (.region id ops true) fr Y Q:=by
 obtain⟨n,fs,fr',Y',h1,h2,h3⟩:=h;refine⟨n,.normal,fr',Y',?_,h3⟩;simp only[RD,if_true];rw[show dU E (Rh E n) ops.toList Y.next ops.toList fr {Y with next:=Y.next+ops.toList.length}=some (fs,fr',Y') from h1];simp only[Option.bind_some,he,Bool.true_and];rw[if_pos (by simpa using h2)]
def SH (E:Env)(b:Code)(Q:Ex->Fr->qd->Prop)(e:Ex)(fr:Fr)(Y:qd):Prop:=match e with
 |.normal=>CW E b fr Y Q|e=>Q e fr Y
theorem CW.seq {a b:Code}{Q:Ex->Fr->qd->Prop}(h:CW E a fr Y (SH E b Q)):CW E (.seq a b) fr Y Q:=by
 obtain⟨n,e,Rb,Y1,h1,h2⟩:=h;cases e with
 |normal=>obtain⟨m,e,fr',Y',h3,h4⟩:=h2;refine⟨max n m,e,fr',Y',?_,h4⟩;simp only[RD,iL (bN (QB n m)) _ _ _ _ h1,Option.bind_some,iL (bN (Qg n m)) _ _ _ _ h3]
 |exit i=>exact⟨n,.exit i,Rb,Y1,by simp only[RD,h1,Option.bind_some],h2⟩|ret=>exact⟨n,.ret,Rb,Y1,by simp only[RD,h1,Option.bind_some],h2⟩
theorem CW.skip {Q:Ex->Fr->qd->Prop}(h:Q .normal fr Y):CW E .skip fr Y Q:=⟨0,.normal,fr,Y,rfl,h⟩
theorem CW.ret {Q:Ex->Fr->qd->Prop}(h:Q .ret fr Y):CW E .ret fr Y Q:=⟨0,.ret,fr,Y,rfl,h⟩
theorem CW.exit {i:Nat}{Q:Ex->Fr->qd->Prop}(h:Q (.exit i) fr Y):CW E (.exit i) fr Y Q:=⟨0,.exit i,fr,Y,rfl,h⟩
theorem CW.cond {c:Operand}{a b:Code}{t:Bool}{Q:Ex->Fr->qd->Prop}(hc:fr.ev E c= .bool t)(ht:t=true->CW E a fr Y Q)(hf:t=false->CW E b fr Y Q):CW E (.cond c a b) fr Y Q:=by
 cases t with
 |true=>obtain⟨n,e,fr',Y',h1,h2⟩:=ht rfl;exact⟨n,e,fr',Y',by simp only[RD,hc,dI,Option.bind_some,if_true,h1],h2⟩
 |false=>obtain⟨n,e,fr',Y',h1,h2⟩:=hf rfl;exact⟨n,e,fr',Y',by simp only[RD,hc,dI,Option.bind_some,PE,if_false,h1],h2⟩
def UM (id:Nat)(Q:Ex->Fr->qd->Prop)(e:Ex)(fr:Fr)(Y:qd):Prop:=match e with
 |.exit i=>if i=id then Q .normal fr Y else Q (.exit i) fr Y|e=>Q e fr Y
theorem CW.block {id:Nat}{c:Code}{Q:Ex->Fr->qd->Prop}(h:CW E c fr Y (UM id Q)):CW E (.block id c) fr Y Q:=by
 obtain⟨n,e,fr',Y',h1,h2⟩:=h;cases e with
 |normal=>exact⟨n,.normal,fr',Y',by simp only[RD,h1,Option.map_some],h2⟩|ret=>exact⟨n,.ret,fr',Y',by simp only[RD,h1,Option.map_some],h2⟩|exit i=>
  simp only[UM] at h2;split at h2
  .rename_i hi;exact⟨n,.normal,fr',Y',by simp only[RD,h1,Option.map_some,if_pos hi],h2⟩
  .rename_i hi;exact⟨n,.exit i,fr',Y',by simp only[RD,h1,Option.map_some,if_neg hi],h2⟩
theorem CW.scope {c:Code}{Q:Ex->Fr->qd->Prop}(h:CW E c fr Y Q):CW E (.scope c) fr Y Q:=by obtain⟨n,e,fr',Y',h1,h2⟩:=h;exact⟨n,e,fr',Y',by simp only[RD,h1],h2⟩
theorem CW.label {l:Nat}{Q:Ex->Fr->qd->Prop}(h:Q .normal fr Y):CW E (.label l) fr Y Q:=⟨0,.normal,fr,Y,by simp only[RD],h⟩
def XF (E:Env)(c:Code)(Q:Ex->Fr->qd->Prop)(e:Ex)(fr:Fr)(Y:qd):Prop:=match e with
 |.normal=>CW E (.loop c) fr Y Q|e=>Q e fr Y
theorem CW.loop {c:Code}{Q:Ex->Fr->qd->Prop}(h:CW E c fr Y (XF E c Q)):CW E (.loop c) fr Y Q:=by
 obtain⟨n,e,Rb,Y1,h1,h2⟩:=h;cases e with
 |normal=>obtain⟨m,e,fr',Y',h3,h4⟩:=h2;refine⟨max n m+1,e,fr',Y',?_,h4⟩;simp only[RD,iL (bN (show n<=max n m+1 by omega)) _ _ _ _ h1,Option.bind_some];exact iL (bN (Qg n m)) _ _ _ _ h3
 |exit i=>exact⟨n,.exit i,Rb,Y1,by simp only[RD,h1,Option.bind_some],h2⟩|ret=>exact⟨n,.ret,Rb,Y1,by simp only[RD,h1,Option.bind_some],h2⟩
def XG (E:Env)(rs:List ResultVar)(R:V->qd->Prop)(e:Ex)(fr:Fr)(Y:qd):Prop:=match e with
 |.exit _=>False|_=>∃vs,rs.mapM (TN E fr Y)=some vs/\R (match vs with| [v]=>v|vs=>.Rn vs) Y
theorem U9.of {f:FuncId}{args:List V}{d:Nat}{fn:Func}{c:Code}{R:V->qd->Prop}(hf:E.P.funcs[f]? =some fn)(hb:fn.body=some c)(hok:(decide (args.length<=fn.ntmps)&& aK fn.ntmps c)=true)(h:CW E c {d:=d,om:=E.om f,tm:=fun i=>args.getD i Lv} Y (XG E fn.results.toList R)):U9 E f args d Y R:=by
 obtain⟨n,e,fr',Y',h1,h2⟩:=h;have hok':args.length<=fn.ntmps/\aK fn.ntmps c=true:=by simpa using hok
 have key:∀vs,fn.results.toList.mapM (TN E fr' Y')=some vs->(e= .normal\/e= .ret)->(Rh E (n+2)).call f args d Y=some ((match vs with| [v]=>v|vs=>.Rn vs),Y'):=by intro vs hvs he;show jT E (Rh E (n+1)) f args d Y=_;have h3:(Rh E (n+1)).code c {d:=d,om:=E.om f,tm:=fun i=>args.getD i Lv} Y=some (e,fr',Y'):=h1;simp only[jT,hf,hb,Option.bind_some,if_pos hok',h3];rcases he with rfl|rfl<;>simp only[hvs,Option.map_some]<;>rcases vs with _| ⟨x,_| ⟨y,l⟩⟩<;>rfl
 cases e with
 |normal=>obtain⟨vs,h3,h4⟩:=h2;exact⟨n+2,_,Y',key vs h3 (.inl rfl),h4⟩
 |ret=>obtain⟨vs,h3,h4⟩:=h2;exact⟨n+2,_,Y',key vs h3 (.inr rfl),h4⟩
 |exit i=>exact h2.elim
theorem Pure.of {f:FuncId}{args:List V}{v:V}{fn:Func}{c:Code}(hs:E.Wi f=none)(hf:E.P.funcs[f]? =some fn)(hb:fn.body=some c)(hok:(decide (args.length<=fn.ntmps)&& aK fn.ntmps c)=true)(h:CW E c {d:=1,om:=E.om f,tm:=fun i=>args.getD i Lv} qd.init (XG E fn.results.toList (fun v0 Y=>Rf 20 Y v0=some v))):Pure E f args v:=by
 obtain⟨n,v0,Y',h1,h2⟩:=U9.of hf hb hok h;exact⟨n,by simp only[VW,hs,h1,Option.bind_some,h2]⟩
theorem ac5 (fr:Fr)(d:Nat)(v:V):fr.put (some d) v=fr.set d v:=rfl
theorem JN (fr:Fr)(v:V):fr.put none v=fr:=rfl
theorem Vu (fr:Fr)(d:Nat)(v:V):(fr.set d v).tm d=v:=by simp[Fr.set,upd]
theorem Yv (fr:Fr){d t:Nat}(v:V)(h:(t==d)=false):(fr.set d v).tm t=fr.tm t:=by
 have h':¬t=d:=by simpa using h
 simp[Fr.set,upd,h']
theorem X0 (fr:Fr)(d:Nat)(v:V):(fr.set d v).d=fr.d:=rfl
theorem alz (fr:Fr)(d:Nat)(v:V):(fr.set d v).om=fr.om:=rfl
theorem pK (fr:Fr)(t:Nat):fr.ev E (.tmp t)=fr.tm t:=rfl
theorem AY (fr:Fr)(v:Value):fr.ev E (.const v)=(ofValue v).getD (.raw v):=rfl
theorem AZ (fr:Fr)(f:FuncId):fr.ev E (.func f)= .fn (.func f) [] []:=rfl
theorem JO (Y:qd)(k:Nat):(Y.bump k).next=Y.next+k:=rfl
theorem JQ (Y:qd)(l:Aq.Loc)(s:Nat)(o:Tk):(Y.setObj l s o).next=Y.next:=rfl
theorem JR (Y:qd)(s n:Nat):(Y.Sl s n).next=Y.next:=rfl
theorem aeH (Y:qd)(s n:Nat):(Y.Sl s n).top s=n:=by simp[qd.Sl,upd]
theorem ac6 (Y:qd){s t:Nat}(n:Nat)(h:t≠s):(Y.Sl s n).top t=Y.top t:=by simp[qd.Sl,upd,h]
theorem JU (Y:qd)(k:Nat):(Y.bump k).top=Y.top:=rfl
theorem JV (Y:qd)(l:Aq.Loc)(s:Nat)(o:Tk):(Y.setObj l s o).top=Y.top:=rfl
theorem A8 {l l':Aq.Loc}(h:fQ l l'=false):¬l=l':=by rintro rfl;simp[fQ] at h
theorem vY (a b c d:Nat):fQ (a,b) (c,d)=(b==d&& a==c):=rfl
theorem aag (Y:qd)(l:Aq.Loc)(s:Nat)(cs:List V):(Y.setObj l s (.cells cs)).Rt l s=some cs:=by simp[qd.setObj,qd.Rt,upd]
theorem A9 (Y:qd){l l':Aq.Loc}(s s':Nat)(o:Tk)(h:fQ l l'=false):(Y.setObj l' s' o).Rt l s=Y.Rt l s:=by have h':=A8 h;simp[qd.setObj,qd.Rt,upd,h']
theorem JW (Y:qd)(k:Nat)(l:Aq.Loc)(s:Nat):(Y.bump k).Rt l s=Y.Rt l s:=rfl
theorem JX (Y:qd)(t n:Nat)(l:Aq.Loc)(s:Nat):(Y.Sl t n).Rt l s=Y.Rt l s:=rfl
theorem map_eq (Y:qd)(l:Aq.Loc)(s:Nat)(ks vs:List V):(Y.setObj l s (.map ks vs)).aV l s=some (ks,vs):=by simp[qd.setObj,qd.aV,upd]
theorem Ba (Y:qd){l l':Aq.Loc}(s s':Nat)(o:Tk)(h:fQ l l'=false):(Y.setObj l' s' o).aV l s=Y.aV l s:=by have h':=A8 h;simp[qd.setObj,qd.aV,upd,h']
theorem JY (Y:qd)(k:Nat)(l:Aq.Loc)(s:Nat):(Y.bump k).aV l s=Y.aV l s:=rfl
theorem JZ (Y:qd)(t n:Nat)(l:Aq.Loc)(s:Nat):(Y.Sl t n).aV l s=Y.aV l s:=rfl
end
def Is {U:Type}(a b:U):Prop:=a=b
theorem Is.rfl {U:Type}{a:U}:Is a a:=Eq.refl a
def iv (n:Int):V:=.int .i64 n
def lv {U:Type}(f:U->V)(l:List U):V:=.tX .sh (l.map f)
theorem Bb {U:Type}{f:U->V}(h:∀x,Q9 (f x)=true):∀l:List U,Ry (l.map f)=true
 | []=>by simp[Ry]|a::l=>by simp[Ry,h a,Bb h l]
theorem rF {U:Type}{f:U->V}(h:∀x,Q9 (f x)=true)(l:List U):Q9 (.tX .sh (l.map f))=true:=by simp only[Q9];exact Bb h l
theorem X3 {U:Type}{f:U->V}(h:∀x,Q9 (f x)=true)(l:List U):Q9 (lv f l)=true:=rF h l
theorem J2 (n:Int):Q9 (iv n)=true:=by simp[iv,Q9]
theorem aah (l:List (List UInt8)):Q9 (lv V.str l)=true:=X3 (fun _=>by simp[Q9]) l
theorem aai (l:List Int):Q9 (lv iv l)=true:=X3 J2 l
theorem aaL (k:IntKind)(l:List Int):Q9 (lv (V.int k) l)=true:=X3 (fun _=>by simp[Q9]) l
theorem aaM (l:List Bool):Q9 (lv V.bool l)=true:=X3 (fun _=>by simp[Q9]) l
attribute [go_sem] aah aai aaL aaM
def Fb {U:Type}(l:List U)(i:Int):Option U:=if 0<=i/\i<l.length then l[i.toNat]? else none
def XH (P:Program)(t:TypeId):Bool:=match P.underlying t with
 |some (.slice _)=>true|_=>false
def agc (P:Program)(t:TypeId):Bool:=match P.underlying t with
 |some .string=>true|_=>false
section
variable {E:Env}{fr:Fr}{Y:qd}
def NQ (Q:Ex->Fr->qd->Prop)(fr:Fr)(Y:qd):Prop:=Q .normal fr Y
theorem NQ.i {Q:Ex->Fr->qd->Prop}(h:Q .normal fr Y):NQ Q fr Y:=h
theorem SH.n {b:Code}{Q:Ex->Fr->qd->Prop}(h:CW E b fr Y Q):SH E b Q .normal fr Y:=h
theorem SH.x {b:Code}{i:Nat}{Q:Ex->Fr->qd->Prop}(h:Q (.exit i) fr Y):SH E b Q (.exit i) fr Y:=h
theorem SH.r {b:Code}{Q:Ex->Fr->qd->Prop}(h:Q .ret fr Y):SH E b Q .ret fr Y:=h
theorem UM.n {id:Nat}{Q:Ex->Fr->qd->Prop}(h:Q .normal fr Y):UM id Q .normal fr Y:=h
theorem UM.r {id:Nat}{Q:Ex->Fr->qd->Prop}(h:Q .ret fr Y):UM id Q .ret fr Y:=h
theorem UM.hit {id:Nat}{Q:Ex->Fr->qd->Prop}(h:Q .normal fr Y):UM id Q (.exit id) fr Y:=by simp only[UM,if_true];exact h
theorem XF.n {c:Code}{Q:Ex->Fr->qd->Prop}(h:CW E (.loop c) fr Y Q):XF E c Q .normal fr Y:=h
theorem XF.x {c:Code}{i:Nat}{Q:Ex->Fr->qd->Prop}(h:Q (.exit i) fr Y):XF E c Q (.exit i) fr Y:=h
theorem XF.r {c:Code}{Q:Ex->Fr->qd->Prop}(h:Q .ret fr Y):XF E c Q .ret fr Y:=h
theorem CW.aaN {c:Operand}{a b:Code}{Q:Ex->Fr->qd->Prop}(hc:Is (fr.ev E c) (.bool true))(h:CW E a fr Y Q):CW E (.cond c a b) fr Y Q:=CW.cond hc (fun _=>h) (fun h=>by cases h)
theorem CW.aaO {c:Operand}{a b:Code}{Q:Ex->Fr->qd->Prop}(hc:Is (fr.ev E c) (.bool false))(h:CW E b fr Y Q):CW E (.cond c a b) fr Y Q:=CW.cond hc (fun h=>by cases h) (fun _=>h)
theorem OW.o1 {all:List Oper}{st:Nat}{d:Tmp}{op:Op}{ty:TypeId}{pos:String}{TD:Array Edge}{gd:Option (Nat×Bool)}{os:List Oper}{v:V}{Y1:qd}{Q:Fr->qd->Prop}(hw:Is (Sq all fr ⟨some d,op,ty,pos,TD,gd⟩) (some true))(hop:∀S,Is (opC E S fr Y st ⟨some d,op,ty,pos,TD,gd⟩) (some (v,fr,Y1)))(h:OW E all (st+1) os (fr.set d v) Y1 Q):OW E all st (⟨some d,op,ty,pos,TD,gd⟩::os) fr Y Q:=OW.op hw hop h
theorem OW.o0 {all:List Oper}{st:Nat}{op:Op}{ty:TypeId}{pos:String}{TD:Array Edge}{gd:Option (Nat×Bool)}{os:List Oper}{v:V}{Y1:qd}{Q:Fr->qd->Prop}(hw:Is (Sq all fr ⟨none,op,ty,pos,TD,gd⟩) (some true))(hop:∀S,Is (opC E S fr Y st ⟨none,op,ty,pos,TD,gd⟩) (some (v,fr,Y1)))(h:OW E all (st+1) os fr Y1 Q):OW E all st (⟨none,op,ty,pos,TD,gd⟩::os) fr Y Q:=OW.op hw hop h
theorem OW.aaj {all:List Oper}{st:Nat}{d:Option Tmp}{f:Operand}{args:Array Operand}{tys:Array TypeId}{ty:TypeId}{pos:String}{TD:Array Edge}{gd:Option (Nat×Bool)}{os:List Oper}{Q:Fr->qd->Prop}{g:FuncId}{a b az:List V}{v:V}(hp:Pure E g az v)(hf:Is (fr.ev E f) (.fn (.func g) a b))(has:Is ((a++args.toList.map (fr.ev E)++b).mapM (Rf 20 Y)) (some az))(hc:Is ((a++args.toList.map (fr.ev E)++b).all (fun x=>Q9 (er x))||flat v) true)(hw:Is (Sq all fr ⟨d,.call ⟨.value f,args,tys⟩,ty,pos,TD,gd⟩) (some true))(h:OW E all (st+1) os (fr.put d v) Y Q)(hi:E.imp g=false:=by rfl)(aS:∀d',d=some d'->E.own g d'=false:=by intros;rfl):OW E all st (⟨d,.call ⟨.value f,args,tys⟩,ty,pos,TD,gd⟩::os) fr Y Q:=
 OW.call hw rfl rfl hf hi has hp hc h aS
theorem XG.one {r:ResultVar}{e:Ex}{v0:V}{R:V->qd->Prop}(he:∀i,e≠ .exit i)(hv:Is (TN E fr Y r) (some v0))(hr:R v0 Y):XG E [r] R e fr Y:=by
 have h1:[r].mapM (TN E fr Y)=some [v0]:=by rw[PW,hv];rfl
 cases e with
 |exit i=>exact absurd rfl (he i)|normal=>exact⟨[v0],h1,hr⟩|ret=>exact⟨[v0],h1,hr⟩
theorem XG.Rn {rs:List ResultVar}{e:Ex}{v1 v2:V}{vs:List V}{R:V->qd->Prop}(he:∀i,e≠ .exit i)(hv:Is (rs.mapM (TN E fr Y)) (some (v1::v2::vs)))(hr:R (.Rn (v1::v2::vs)) Y):XG E rs R e fr Y:=by
 cases e with
 |exit i=>exact absurd rfl (he i)|normal=>exact⟨_,hv,hr⟩|ret=>exact⟨_,hv,hr⟩
theorem Pure.of' {f:FuncId}{args:List V}{v:V}{fn:Func}{c:Code}(rs:List ResultVar)(hf:E.P.funcs[f]? =some fn)(hb:fn.body=some c)(h:∀fr Y,fr.d=1->fr.om=E.om f->(∀i,fr.tm i=args.getD i Lv)->CW E c fr Y (XG E rs (fun v0 Y=>Rf 20 Y v0=some v)))(hrs:fn.results.toList=rs:=by rfl)(hok:(decide (args.length<=fn.ntmps)&& aK fn.ntmps c)=true:=by rfl)(hs:E.Wi f=none:=by rfl):Pure E f args v:=
 Pure.of hs hf hb hok (by rw[hrs];exact h _ _ rfl rfl (fun _=>rfl))
theorem Ux {n:Nat}{x:V}(h:Q9 x=true):Rf (n+1) Y x=some x:=by unfold Rf;simp only[h,if_true]
theorem vZ (n:Nat)(k:IntKind)(i:Int):Rf (n+1) Y (.int k i)=some (.int k i):=Ux (by simp[Q9])
theorem aeI (n:Nat)(b:Bool):Rf (n+1) Y (.bool b)=some (.bool b):=Ux (by simp[Q9])
theorem wh (n:Nat)(s:List UInt8):Rf (n+1) Y (.str s)=some (.str s):=Ux (by simp[Q9])
theorem Yw {n:Nat}{U:Type}{f:U->V}(c:Cap)(l:List U)(h:∀x,Q9 (f x)=true):Rf (n+2) Y (.tX c (l.map f))=some (lv f l):=by
 by_cases hp:Q9 (.tX c (l.map f))=true
 .rw[Ux hp];cases c<;>simp only[Q9,PE] at hp;rfl
 .unfold Rf;simp only[hp,if_false,PE];have:(l.map f).mapM (Rf (n+1) Y)=some (l.map f):=by
   induction l with
   |nil=>simp|cons a l ih=>simp[h a,Ux,ih (by cases c<;>simp_all[Q9,Ry])]
  rw[this];rfl
theorem J3 (k:IntKind)(i:Int):er (.int k i)= .int k i:=rfl
theorem J4 (b:Bool):er (.bool b)= .bool b:=rfl
theorem J5 (s:List UInt8):er (.str s)= .str s:=rfl
theorem J6 {U:Type}(f:U->V)(l:List U):er (lv f l)=lv f l:=rfl
theorem J7 (c:Cap)(l:List V):er (.tX c l)= .tX .sh l:=rfl
theorem J8 (n:Int):iv n= .int .i64 n:=rfl
theorem wm (k:IntKind)(i:Int):Q9 (.int k i)=true:=by simp[Q9]
theorem wo (b:Bool):Q9 (.bool b)=true:=by simp[Q9]
theorem Bc (s:List UInt8):Q9 (.str s)=true:=by simp[Q9]
theorem wu {P:Program}{U:Type}{t:TypeId}{c:Cap}{l:List U}{f:U->V}{k:IntKind}{i:Int}:
 Vh P t (.tX c (l.map f)) (.int k i)=if XH P t then (UF P t).bind fun e=>(RL P e).bind fun sz=>(Fb l i).bind fun x=>if (f x).cells.length=sz then some (.Q5 (f x).cells 0) else none else none:=by
 unfold Vh XH UF;cases hu:P.underlying t with
 |none=>rfl|some u=>
  cases u<;>try rfl
  rename_i e;simp only[if_true,Option.bind_some];cases RL P e with
  |none=>rfl|some sz=>
   simp only[Option.bind_some,idx,fu,PY,Fb];split
   .rename_i h;simp only[Option.bind_some,List.getElem?_map];cases l[i.toNat]? with
    |none=>rfl|some x=>rfl
   .rfl
theorem aeJ {P:Program}{U:Type}{t:TypeId}{l:List U}{f:U->V}{k:IntKind}{i:Int}:
 Vh P t (lv f l) (.int k i)=if XH P t then (UF P t).bind fun e=>(RL P e).bind fun sz=>(Fb l i).bind fun x=>if (f x).cells.length=sz then some (.Q5 (f x).cells 0) else none else none:=wu
theorem J9 {P:Program}{t:TypeId}{v:V}(h1:U7 P t=some false)(h2:RL P t=some 1):TK P t [v] 0=some v:=by simp[TK,h1,h2,jm]
theorem Ka {t:TypeId}{U:Type}(f:U->V)(l:List U)(h:XH E.P t=true):fP E Y t (lv f l)=some l.length:=by
 unfold XH at h;unfold fP;split at h
 .rename_i e he;rw[he];simp[lv]
 .simp at h
end
section
variable {E:Env}{S:R8}{fr:Fr}{Y:qd}{st:Nat}{d:Option Tmp}{ty:TypeId}{pos:String}{TD:Array Edge}{gd:Option (Nat×Bool)}
theorem Kc (all:List Oper)(op:Op):Sq all fr ⟨d,op,ty,pos,TD,none⟩=some true:=rfl
def Bd (want:Bool):V->Option Bool
 |.bool b=>some (b==want)|.raw _=>none|_=>some false
theorem Ke (w b:Bool):Bd w (.bool b)=some (b==w):=rfl
theorem Kg (w:Bool):Bd w Lv=some false:=rfl
theorem Kh (cs:List V):V.cells (.agg cs)=cs:=rfl
theorem Ki (k:IntKind)(n:Int):V.cells (.int k n)=[.int k n]:=rfl
theorem Kj (k:IntKind)(n:Int):SQ (.int k n)=true:=rfl
theorem Kk (b:Bool):V.cells (.bool b)=[.bool b]:=rfl
theorem Kl (b:Bool):SQ (.bool b)=true:=rfl
theorem Km (s:List UInt8):V.cells (.str s)=[.str s]:=rfl
theorem Kn (s:List UInt8):SQ (.str s)=true:=rfl
theorem Ko (c:Cap)(l:List V):V.cells (.tX c l)=[.tX c l]:=rfl
theorem Kq (c:Cap)(l:List V):SQ (.tX c l)=true:=rfl
theorem Kr (l:Aq.Loc)(s o:Nat):V.cells (.ref l s o)=[.ref l s o]:=rfl
theorem Kt (l:Aq.Loc)(s o:Nat):SQ (.ref l s o)=true:=rfl
theorem Ku (cs:List V)(o:Nat):V.cells (.Q5 cs o)=[.Q5 cs o]:=rfl
theorem Kv (cs:List V)(o:Nat):SQ (.Q5 cs o)=true:=rfl
theorem Kw (f:Fn)(a b:List V):V.cells (.fn f a b)=[.fn f a b]:=rfl
theorem Ky (f:Fn)(a b:List V):SQ (.fn f a b)=true:=rfl
theorem Kz {U:Type}(f:U->V)(l:List U):V.cells (lv f l)=[lv f l]:=rfl
theorem KC:RP []=true:=rfl
theorem Bf (x:V)(l:List V):RP (x::l)=(oneCell x&& RP l):=rfl
theorem KE (k:IntKind)(n:Int):oneCell (.int k n)=true:=rfl
theorem KF (b:Bool):oneCell (.bool b)=true:=rfl
theorem KG (s:List UInt8):oneCell (.str s)=true:=rfl
theorem KH {U:Type}(f:U->V)(l:List U):oneCell (lv f l)=true:=rfl
theorem KJ (c:Cap)(l:List V):oneCell (.tX c l)=true:=rfl
theorem KL (l:Aq.Loc)(s o:Nat):oneCell (.ref l s o)=true:=rfl
theorem KM (cs:List V)(o:Nat):oneCell (.Q5 cs o)=true:=rfl
theorem KN (cs:List V):SQ (.agg cs)=true:=rfl
theorem KO {U:Type}(f:U->V)(l:List U):SQ (lv f l)=true:=rfl
theorem KQ (x:Operand)(h:Yt E d=false):opC E S fr Y st ⟨d,.move x,ty,pos,TD,gd⟩=some (fr.ev E x,fr,Y):=by show Option.map _ (if Yt E d=true then iq Y (fr.ev E x) else some (fr.ev E x,Y))=_;rw[if_neg (by rw[h];simp)];rfl
theorem KR (x:Operand):opC E S fr Y st ⟨d,.assign x,ty,pos,TD,gd⟩=some (fr.ev E x,fr,Y):=rfl
theorem alA (op:BinOp)(t u:TypeId)(x y:Operand):opC E S fr Y st ⟨d,.binOp op t x y u,ty,pos,TD,gd⟩=(VU E.P op t (fr.ev E x) (fr.ev E y)).map fun v=>(v,fr,Y):=by simp only[opC,aH];cases VU E.P op t (fr.ev E x) (fr.ev E y)<;>rfl
theorem KS (op:UnOp)(t:TypeId)(x:Operand):opC E S fr Y st ⟨d,.unOp op t x,ty,pos,TD,gd⟩=(kS op (fr.ev E x)).map fun v=>(v,fr,Y):=by simp only[opC,aH];cases kS op (fr.ev E x)<;>rfl
theorem KT (t:TypeId)(x:Operand)(f:Nat):opC E S fr Y st ⟨d,.fieldAddr t x f,ty,pos,TD,gd⟩=(WY E.P t f).bind fun p=>match fr.ev E x with
 |.ref loc s off=>some (.ref loc s (off+p.1),fr,Y)|.Q5 cs off=>some (.Q5 cs (off+p.1),fr,Y)|_=>none:=by
 simp only[opC,aH];cases WY E.P t f with
 |none=>rfl|some p=>obtain⟨o,u⟩:=p;simp only[Option.bind_some];cases fr.ev E x<;>rfl
theorem KU (t:TypeId)(x:Operand):opC E S fr Y st ⟨d,.load t x,ty,pos,TD,gd⟩=(match fr.ev E x with
 |.ref loc s off=>(Y.Rt loc s).bind fun cs=>(TK E.P t cs off).map fun v=>(v,fr,Y)
 |.Q5 cs off=>(TK E.P t cs off).map fun v=>(v,fr,Y)
 |_=>none):=by
 simp only[opC,aH];cases fr.ev E x with
 |ref loc s off=>
  simp only;cases Y.Rt loc s with
  |none=>rfl|some cs=>simp only[Option.bind_some];cases TK E.P t cs off<;>rfl
 |Q5 cs off=>simp only;cases TK E.P t cs off<;>rfl|_=>rfl
theorem aeK (t:TypeId)(x:Operand)(i:Nat):opC E S fr Y st ⟨some i,.box t x,ty,pos,TD,gd⟩=if W9 E t (some i)=true then (if Q9 (er (fr.ev E x))=true/\SQ (fr.ev E x)=true then some (.Q5 (er (fr.ev E x)).cells 0,fr,Y) else none) else if RP (fr.ev E x).cells/\SQ (fr.ev E x) then some (.ref (fr.d,i) st 0,fr,Y.setObj (fr.d,i) st (.cells (fr.ev E x).cells)) else none:=by
 show Option.map _ (if W9 E t (some i)=true then _ else (some (fr.d,i)).bind _)=_;by_cases hz:W9 E t (some i)=true
 .simp only[hz,if_true];split<;>rfl
 .simp only[hz,PE,if_false,Option.bind_some];split<;>rfl
theorem KV (t:TypeId)(i:Nat):opC E S fr Y st ⟨some i,.alloc t,ty,pos,TD,gd⟩=(Uc E.P t).bind fun z=>if RP z.cells then some (.ref (fr.d,i) st 0,fr,Y.setObj (fr.d,i) st (.cells z.cells)) else none:=by
 simp only[opC,aH,Option.map_some,Option.bind_some];cases Uc E.P t with
 |none=>rfl|some z=>simp only[Option.bind_some];split<;>rfl
theorem aeL (t:TypeId)(a x:Operand):opC E S fr Y st ⟨d,.store t a x,ty,pos,TD,gd⟩=(match fr.ev E a with
 |.ref loc s off=>(Y.Rt loc s).bind fun cs=>
  if some (fr.ev E x).cells.length=RL E.P t/\off+(fr.ev E x).cells.length<=cs.length/\RP (fr.ev E x).cells then some (Lv,fr,Y.setObj loc s (.cells (Tm cs off (fr.ev E x).cells))) else none
 |_=>none):=by
 simp only[opC,aH];cases fr.ev E a with
 |ref loc s off=>
  simp only;cases Y.Rt loc s with
  |none=>rfl|some cs=>simp only[Option.bind_some];split<;>rfl
 |_=>rfl
theorem KW (t:TypeId)(x i:Operand):opC E S fr Y st ⟨d,.indexAddr t x i,ty,pos,TD,gd⟩=(Vh E.P t (fr.ev E x) (fr.ev E i)).map fun v=>(v,fr,Y):=by simp only[opC,aH];cases Vh E.P t (fr.ev E x) (fr.ev E i)<;>rfl
theorem KX (x:Operand)(i:Nat):opC E S fr Y st ⟨d,.extract x i,ty,pos,TD,gd⟩=(match fr.ev E x with
 |.Rn vs=>(vs[i]?).map fun v=>(v,fr,Y)
 |_=>none):=by
 simp only[opC,aH];cases fr.ev E x with
 |Rn vs=>simp only;cases vs[i]? <;>rfl|_=>rfl
theorem KY (x:Operand)(t:TypeId):opC E S fr Y st ⟨d,.call ⟨.builtin .len, #[x], #[t]⟩,ty,pos,TD,gd⟩=(fP E Y t (fr.ev E x)).map fun n=>(.int .i64 (n:Nat),fr,Y):=by show (Option.map _ (((#[t]:Array TypeId)[0]?).bind fun t=>(fP E Y t (fr.ev E x)).map fun n=>(V.int .i64 (n:Nat),Y)))=_;rw[show (#[t]:Array TypeId)[0]? =some t from rfl,Option.bind_some];cases fP E Y t (fr.ev E x)<;>rfl
end
attribute [go_sem] PE VU TT jQ kS decide_true decide_false List.getElem?_cons_succ List.getElem?_cons_zero beq_true beq_false Bool.not_true Bool.not_false vY Bool.false_and Bool.and_false Bool.true_and Bool.and_true Kc Ke Kg KQ KR alA KS KT KU aeK KV aeL KW KX KY pK AY AZ Vu Yv ac5 JN X0 alz JO JQ JR aag A9 JW JX map_eq Ba JY JZ aeH ac6 JU JV J8 J9 Ka wu PY aeJ vZ aeI wh J3 J4 J5 J6 J7 wm wo Bc Option.bind_some Option.map_some Option.getD_some dI ofValue bP if_true if_false Kh Ki Kk Km Kz Ko Kr Ku Kw Kj Kl Kn Kq Kt Kv Ky KC Bf KE KF KG KH KJ KL KM KN KO and_self and_true true_and
def jd:Code->List Nat->Option Code
 |c,[]=>some c|.seq a b,i::l=>if i=0 then jd a l else jd b l|.cond _ a b,i::l=>if i=0 then jd a l else jd b l|.block _ a,_::l=>jd a l|.loop a,_::l=>jd a l|.scope a,_::l=>jd a l|.rangeFunc _ _ a b,i::l=>if i=0 then jd a l else jd b l|_,_=>none
def TL (b:Option Code)(l:List Nat):Option Code:=b.bind fun c=>jd c l
section
variable {E:Env}{fr:Fr}{Y:qd}
def rG (E:Env)(c:Code)(fr:Fr)(Y:qd)(Q:Ex->Fr->qd->Prop):Prop:=CW E (.loop c) fr Y Q
theorem CW.lp {c:Code}{Q:Ex->Fr->qd->Prop}(h:rG E c fr Y Q):CW E (.loop c) fr Y Q:=h
def pO:Code->Nat
 |.region i _ _=>i|.seq a _=>pO a|.loop a=>pO a|.scope a=>pO a|.block _ a=>pO a|_=>0
theorem rG.at (k:Nat){c:Code}{Q:Ex->Fr->qd->Prop}(_h:Is (pO c) k)(h:rG E c fr Y Q):rG E c fr Y Q:=h
theorem Bg {n:Nat}(cs:List V):Rf (n+2) Y (.agg cs)=(cs.mapM (Rf (n+1) Y)).map .agg:=by
 by_cases hp:Q9 (.agg cs)=true
 .rw[Ux hp];have:∀cs:List V,Ry cs=true->cs.mapM (Rf (n+1) Y)=some cs:=by
   intro cs;induction cs with
   |nil=>intro _;rfl|cons a l ih=>intro h;simp only[Ry,Pz] at h;rw[PW,Ux h.1,ih h.2];rfl
  rw[this cs (by simpa [Q9] using hp)];rfl
 .conv=>lhs;unfold Rf
  simp only[hp,if_false,PE]
theorem aeM {n:Nat}(cs:List V):Rf (n+2) Y (.Rn cs)=(cs.mapM (Rf (n+1) Y)).map .Rn:=by
 by_cases hp:Q9 (.Rn cs)=true
 .rw[Ux hp];have:∀cs:List V,Ry cs=true->cs.mapM (Rf (n+1) Y)=some cs:=by
   intro cs;induction cs with
   |nil=>intro _;rfl|cons a l ih=>intro h;simp only[Ry,Pz] at h;rw[PW,Ux h.1,ih h.2];rfl
  rw[this cs (by simpa [Q9] using hp)];rfl
 .conv=>lhs;unfold Rf
  simp only[hp,if_false,PE]
end
def aaP (P:Program)(Y:qd)(st:Nat)(t u:TypeId)(x y:V):Option (V×qd):=
 match P.underlying u with
 |some (.int _)=>bT P false true Y st none t x y|some (.slice _)|some .string=>bT P false false Y st none t x y|_=>none
theorem KZ {P:Program}{z:Bool}{Y:qd}{st:Nat}{loc:Option Loc}{t:TypeId}{c:Cap}{l:List V}{y:V}:bT P false z Y st loc t (.tX c l) y=bT P false z Y st none t (.tX c l) y:=by
 unfold bT;cases UF P t with
 |none=>rfl|some e=>cases c<;>rfl
section
variable {E:Env}{S:R8}{fr:Fr}{Y:qd}{st:Nat}{d:Option Tmp}{ty:TypeId}{pos:String}{TD:Array Edge}{gd:Option (Nat×Bool)}
theorem alB {t u:TypeId}{x y:Operand}{c:Cap}{l:List V}(ho:fr.om=false)(hx:fr.ev E x= .tX c l):opC E S fr Y st ⟨d,.call ⟨.builtin .append, #[x,y], #[t,u]⟩,ty,pos,TD,gd⟩=(aaP E.P Y st t u (.tX c l) (fr.ev E y)).map fun p=>(p.1,fr,p.2):=by
 show Option.map _ ((((#[t,u]:Array TypeId)[0]?).bind fun t=>(((#[t,u]:Array TypeId)[1]?).bind E.P.underlying).bind fun u=>match u with
  |.int _=>bT E.P fr.om true Y st (d.map fun t=>(fr.d,E.cn t)) t (fr.ev E x) (fr.ev E y)
  |.slice _|.string=>bT E.P fr.om false Y st (d.map fun t=>(fr.d,E.cn t)) t (fr.ev E x) (fr.ev E y)
  |_=>none))=_
 show Option.map _ ((E.P.underlying u).bind _)=_;rw[ho,hx];unfold aaP;cases E.P.underlying u with
 |none=>rfl|some u=>
  cases u<;>try rfl
  all_goals (simp only[Option.bind_some];rw[KZ];first|rfl| (generalize bT _ _ _ _ _ _ _ _ _=o;cases o<;>rfl))
end
def abq (P:Program)(t u:TypeId)(sz SF:Nat)(z:V):Prop:=∃e ag,UF P t=some e/\RL P e=some sz/\Yr P e=some SF/\U7 P e=some ag/\Uc P e=some z/\z.cells.length=sz/\0<sz/\(ag||sz==1)=true/\XH P u=true
theorem abq.mk {P:Program}{t u:TypeId}{sz SF:Nat}{z:V}(e:TypeId)(ag:Bool)(h1:UF P t=some e)(h2:RL P e=some sz)(h3:Yr P e=some SF)(h4:U7 P e=some ag)(h5:Uc P e=some z)(h6:z.cells.length=sz)(h7:0<sz)(h8:(ag||sz==1)=true)(h9:XH P u=true):abq P t u sz SF z:=⟨e,ag,h1,h2,h3,h4,h5,h6,h7,h8,h9⟩
def XI (sz:Nat)(l:List V):Bool:=l.all fun v=>v.cells.length==sz&& RP v.cells
theorem apG {U:Type}{f:U->V}{sz:Nat}(h:∀x,(f x).cells.length=sz/\RP (f x).cells=true)(l:List U):XI sz (l.map f)=true:=by simp[XI,h]
theorem wB {sz:Nat}{l:List V}(h:XI sz l=true):dH sz l=true:=by
 cases l with
 |nil=>rfl|cons a l=>simp[XI] at h;simp[dH,h.1.1]
theorem K4 {sz:Nat}{l:List V}(h:XI sz l=true):l.all (fun v=>RP v.cells)=true:=by simp[XI] at h;simpa using fun x hx=>(h x hx).2
theorem Bh {P:Program}{Y:qd}{st t u sz SF:Nat}{z:V}{x:V}{c2:Cap}{ys:List V}(ha:abq P t u sz SF z)(hy:XI sz ys=true):
 aaP P Y st t u x (.tX c2 ys)=match x with
 |.tX c l=>if R7 (l.length+ys.length) SF=true/\dH sz l=true then match c with
  |.own n s=>if n=sz/\Y.top s=l.length then some (.tX (.own n s) (l++ys),Y.Sl s (l.length+ys.length)) else none|.nil|.full=>some (.tX (.own sz st) (l++ys),Y.Sl st (l.length+ys.length))|_=>none else none
 |_=>aaP P Y st t u x (.tX c2 ys):=by
 obtain⟨e,ag,h1,h2,h3,h4,h5,h6,h7,h8,h9⟩:=ha;cases x<;>try rfl
 rename_i c l;unfold XH at h9;split at h9
 .rename_i e' he;simp only[aaP,he,bT,h1,h2,h3,h4,h5,Option.bind_some,mh,true_and,if_pos (show z.cells.length=sz/\0<sz/\(ag||sz==1)=true from ⟨h6,h7,h8⟩),fE,wB hy,if_true,K4 hy];cases c<;>rfl
 .simp at h9
theorem apH {P:Program}{Y:qd}{st t u s sz SF:Nat}{z:V}{l:List V}{c2:Cap}{ys:List V}(ha:abq P t u sz SF z)(hy:XI sz ys=true)(hl:XI sz l=true)(hr:R7 (l.length+ys.length) SF=true)(ht:Y.top s=l.length):aaP P Y st t u (.tX (.own sz s) l) (.tX c2 ys)=some (.tX (.own sz s) (l++ys),Y.Sl s (l.length+ys.length)):=by
 rw[Bh ha hy];simp only[hr,wB hl,and_self,if_true,ht]
theorem apI {P:Program}{Y:qd}{st t u sz SF:Nat}{z:V}{l:List V}{c2:Cap}{ys:List V}(ha:abq P t u sz SF z)(hy:XI sz ys=true)(hl:XI sz l=true)(hr:R7 (l.length+ys.length) SF=true):aaP P Y st t u (.tX .nil l) (.tX c2 ys)=some (.tX (.own sz st) (l++ys),Y.Sl st (l.length+ys.length)):=by
 rw[Bh ha hy];simp only[hr,wB hl,and_self,if_true]
section
variable {E:Env}{S:R8}{fr:Fr}{Y:qd}{st:Nat}{d:Option Tmp}{ty:TypeId}{pos:String}{TD:Array Edge}{gd:Option (Nat×Bool)}
theorem alC (t:TypeId)(n:Nat)(l:List (Nat×Operand))(h:bsM E d=false):opC E S fr Y st ⟨d,.buildSlice t n l.toArray,ty,pos,TD,gd⟩=(aaJ E t n (l.map fun p=>(p.1,fr.ev E p.2))).map fun v=>(v,fr,Y):=by unfold opC;dsimp only;unfold aH;dsimp only;rw[h,if_neg (by simp)];cases aaJ E t n (l.map fun p=>(p.1,fr.ev E p.2))<;>rfl
end
section
variable {E:Env}{S:R8}{fr:Fr}{Y:qd}{st:Nat}{d:Option Tmp}{ty:TypeId}{pos:String}{TD:Array Edge}{gd:Option (Nat×Bool)}
theorem Bj {P:Program}{t:TypeId}{s:List UInt8}{k:IntKind}{i:Int}(h:agc P t=true):mg P t (.str s) (.int k i)=(Fb s i).map fun b=>.int .u8 (b.toNat:Nat):=by
 unfold agc at h;unfold mg;split at h
 .rename_i he;rw[he];simp only[idx,fu,Option.bind_some,Fb];split
  .simp only[Option.bind_some];rfl
  .rfl
 .simp at h
end
theorem len1 (v:V):[v].length=1:=rfl
attribute [go_sem] Bj Bg aeM alC PU List.map_nil len1 alB Yw implies_true eq_self
inductive Ty where
 |int (k:IntKind)
 |bool
 |str
 |slice (t:Ty)
 |st (n:Nat)
 deriving DecidableEq
inductive Cp where
 |any
 |sh
 |nil
 |full
 |own (t:Nat)
structure Vec (n:Nat) where
 l:List Int
 h:l.length=n
def Vec.set {n:Nat}(v:Vec n)(i y:Int):Vec n:=⟨v.l.set i.toNat y,by rw[List.length_set,v.h]⟩
def Vec.rep (n:Nat)(y:Int):Vec n:=⟨List.replicate n y,List.length_replicate⟩
def Vec.lit (n:Nat)(l:List Int):Vec n:=if h:l.length=n then ⟨l,h⟩ else Vec.rep n 0
inductive XJ where
 |i (k:IntKind)
 |a (k:IntKind) (n:Nat)
inductive Sg where
 |i (k:IntKind) (x:Int)
 |a (k:IntKind) (n:Nat) (v:Vec n)
def Sg.w:Sg->Nat
 |.i _ _=>1|.a _ n _=>n
def Sg.vs:Sg->List V
 |.i k x=>[.int k x]|.a k _ v=>v.l.map (V.int k)
def Uv:List Sg->List V
 | []=>[]|s::l=>s.vs++Uv l
def ab2:XJ->Type
 |.i _=>Int|.a _ n=>Vec n
def abr:List XJ->Type
 | []=>Unit| [k]=>ab2 k|k::h::l=>ab2 k×abr (h::l)
def up1:(k:XJ)->ab2 k->Sg
 |.i k,x=>.i k x|.a k n,x=>.a k n x
def X4:(l:List XJ)->abr l->List Sg
 | [],_=>[]| [k],x=>[up1 k x]|k::h::l,p=>up1 k p.1::X4 (h::l) p.2
def aeN {n m:Nat}(v:Vec n):Option (Vec m):=if h:n=m then some (h▸v) else none
def pk1:(k:XJ)->Sg->Option (ab2 k)
 |.i k,.i k' x=>if k'=k then some x else none|.a k n,.a k' _ v=>if k'=k then aeN (m:=n) v else none|_,_=>none
def RN:(l:List XJ)->List Sg->Option (abr l)
 | []=>fun vs=>match vs with
   | []=>some ()|_::_=>none
 | [k]=>fun vs=>match vs with
   | [v]=>pk1 k v|_=>none
 |k::h::l=>fun vs=>match vs with
  | []=>none|v::vs=>match pk1 k v with
   |some x=>match RN (h::l) vs with
    |some p=>some (x,p)|none=>none
   |none=>none
section
variable (T:Nat->Type)
def Den:Ty->Type
 |.int _=>Int|.bool=>Bool|.str=>List UInt8|.slice t=>List (Den t)|.st n=>T n
def Vk:List Ty->Type
 | []=>Unit| [t]=>Den T t|t::u::l=>Den T t×Vk (u::l)
inductive TV where
 |int (k:IntKind) (n:Int)
 |bool (b:Bool)
 |Tw (b:Bool)
 |str (s:List UInt8)
 |Tf
 |Ta
 |SI
 |SB
 |TP
 |agg (cs:List TV)
 |Rn (cs:List TV)
 |tX (c:Cp) (t:Ty) (l:List (Den T t))
 |ref (o off:Nat)
 |Q5 (cs:List TV) (off:Nat)
 |RB (o:Nat)
 |R3 (k e:Ty) (m:List (Den T k×Den T e))
 |fn (f:Nat) (a b:List TV)
 |opt (j:Nat) (w:Bool) (v:TV)
 |vw (o:Nat) (t:Ty)
 |sub (o:Nat) (t:Ty) (a b:Int)
 |Un (o:Nat) (t:Ty) (i:Int) (off:Nat)
 |sg (ss:List Sg)
 |sv (o off:Nat) (k:IntKind) (n:Nat) (lo hi:Option Int)
 |sel (o off:Nat) (k:IntKind) (n:Nat) (i:Int) (m:Nat)
 |X5 (k:IntKind) (n:Nat) (v:Vec n) (i:Int)
 |undef
 |gone
inductive Ob where
 |cells (cs:List (TV T))
 |map (k e:Ty) (m:List (Den T k×Den T e))
 |smap (ks vs:List (TV T))
 |arr (t:Ty) (l:List (Den T t))
 |sg (ss:List Sg)
 |gone
 |ro (b:Ob)
structure MS where
 fr:List (Nat×TV T)
 ob:List (Nat×Ob T)
inductive Sk where
 |d (t:Ty)
 |l (c:Cp) (t:Ty)
 |agg (l:List Sk)
 |ref (o off:Nat)
 |Q5 (l:List Sk) (off:Nat)
 |RB (o:Nat)
 |R3 (k e:Ty)
 |fn (f:Nat) (a b:List Sk)
 |TP
 |vw (o:Nat) (t:Ty)
 |sub (o:Nat) (t:Ty)
 |sg (l:List XJ)
 |undef
mutual
def VX:Sk->Type
 |.d t=>Den T t|.l _ t=>List (Den T t)|.agg l=>FN l|.ref _ _=>Unit|.Q5 l _=>FN l|.RB _=>Unit|.R3 k e=>List (Den T k×Den T e)|.fn _ a b=>FN a×FN b|.TP=>Unit|.vw _ _=>Unit|.sub _ _=>Int×Int|.sg l=>abr l|.undef=>Unit
def FN:List Sk->Type
 | []=>Unit| [k]=>VX k|k::h::l=>VX k×FN (h::l)
end
inductive SC where
 |cells (l:List Sk)
 |st (n:Nat)
 |map (k e:Ty)
 |arr (t:Ty)
 |sg (l:List XJ)
def aaQ:SC->Type
 |.cells l=>FN T l|.st n=>T n|.map k e=>List (Den T k×Den T e)|.arr t=>List (Den T t)|.sg l=>abr l
def Ud:List (Nat×SC)->Type
 | []=>Unit| [(_,k)]=>aaQ T k| (_,k)::h::l=>aaQ T k×Ud (h::l)
def abt:List (Nat×Sk)->Type
 | []=>Unit| [(_,k)]=>VX T k| (_,k)::h::l=>VX T k×abt (h::l)
structure Shape where
 sl:List (Nat×Sk)
 ob:List (Nat×SC)
def VY:Shape->Type
 | ⟨s,[]⟩=>abt T s| ⟨s,o::os⟩=>abt T s×Ud T (o::os)
def Out:List (Ex×Shape)->Type
 | []=>Empty| [(_,s)]=>VY T s| (_,s)::h::l=>VY T s⊕Out (h::l)
end
structure Tx where
 T:Nat->Type
 d:(n:Nat)->T n
 lf:Nat->List Ty
 to:(n:Nat)->Vk T (lf n)->T n
 of:(n:Nat)->T n->Vk T (lf n)
 enc:(n:Nat)->T n->V
 ty:TypeId->Option Ty
 gl:Nat->Option ((k:IntKind)×(n:Nat)×Vec n)
structure FR (R:Tx) where
 args:List Sk
 res:List Sk
 F:FN R.T args->Option (FN R.T res)
 d:FN R.T res
 own:Bool:=false
structure FI (R:Tx) where
 a:List Sk
 b:List Sk
 el:List Sk
 F:FN R.T a->FN R.T b->Option (List (FN R.T el))
def F0:Nat:=1000000
structure FM (R:Tx) where
 args:List Sk
 obs:List (Nat×SC)
 res:List Sk
 F:FN R.T args->Ud R.T obs->Option (FN R.T res×Ud R.T obs)
structure IR (R:Tx) where
 it:Nat->List (FI R)
 im:Nat->List (FM R)
structure Note where
 K:List Nat
 O:List Nat
 sh:Shape
 outs:List (Ex×Shape)
structure Rs where
 loops:List (Nat×Note)
 joins:List (Nat×Note)
def look {U:Type}:List (Nat×U)->Nat->Option U
 | [],_=>none| (j,x)::l,i=>bif Nat.beq j i then some x else look l i
section
variable (R:Tx)
def Q8:(t:Ty)->Den R.T t->V
 |.int k=>fun n=>.int k n
 |.bool=>fun b=>.bool b
 |.str=>fun s=>.str s
 |.slice t=>fun l=>.tX .sh (l.map (Q8 t))
 |.st n=>fun x=>R.enc n x
def encs:(l:List Ty)->Vk R.T l->List V
 | [],_=>[]| [t],x=>[Q8 R t x]|t::u::l,p=>Q8 R t p.1::encs (u::l) p.2
def RF:Ty->Nat
 |.st n=>(R.lf n).length|_=>1
def dfl:(t:Ty)->Den R.T t
 |.int _=>(0:Int)|.bool=>false|.str=>([]:List UInt8)|.slice t=>([]:List (Den R.T t))|.st n=>R.d n
def tv1 (c:Cp):(t:Ty)->Den R.T t->TV R.T
 |.int k=>fun n=>.int k n
 |.bool=>fun b=>.bool b
 |.str=>fun s=>.str s
 |.slice t=>fun l=>.tX c t l
 |.st _=>fun _=>.undef
def TW (c:Cp):(l:List Ty)->Vk R.T l->List (TV R.T)
 | [],_=>[]| [t],x=>[tv1 R c t x]|t::u::l,p=>tv1 R c t p.1::TW c (u::l) p.2
def Tc (c:Cp):(t:Ty)->Den R.T t->TV R.T
 |.st n=>fun x=>.agg (TW R c (R.lf n) (R.of n x))
 |.int k=>fun n=>.int k n
 |.bool=>fun b=>.bool b
 |.str=>fun s=>.str s
 |.slice t=>fun l=>.tX c t l
def VZ {t u:Ty}(l:List (Den R.T t)):Option (List (Den R.T u)):=if h:t=u then some (h▸l) else none
def aeO (k:IntKind):TV R.T->Option Int
 |.int k' n=>if k=k' then some n else none|_=>none
def aeP:TV R.T->Option Bool
 |.bool b=>some b|.Tw b=>some b|_=>none
def aeQ:TV R.T->Option (List UInt8)
 |.str s=>some s|_=>none
def aeR (t:Ty):TV R.T->Option (List (Den R.T t))
 |.tX _ _ l=>VZ R l|.TP=>some []|_=>none
def Wj:(t:Ty)->TV R.T->Option (Den R.T t)
 |.int k=>fun v=>aeO R k v
 |.bool=>fun v=>aeP R v
 |.str=>fun v=>aeQ R v
 |.slice t=>fun v=>aeR R t v
 |.st _=>fun _=>none
def hd1:List (TV R.T)->TV R.T
 | [v]=>v|_=>.gone
def uns:(l:List Ty)->List (TV R.T)->Option (Vk R.T l)
 | []=>fun vs=>match vs with
   | []=>some ()|_::_=>none
 | [t]=>fun vs=>Wj R t (hd1 R vs)
 |t::u::l=>fun vs=>match vs with
  | []=>none|v::vs=>match Wj R t v with
   |some x=>match uns (u::l) vs with
    |some p=>some (x,p)|none=>none
   |none=>none
def abu (n:Nat):TV R.T->Option (R.T n)
 |.agg cs=>match uns R (R.lf n) cs with
  |some p=>some (R.to n p)|none=>none
 |_=>none
def V3:(t:Ty)->TV R.T->Option (Den R.T t)
 |.st n=>fun v=>abu R n v
 |.int k=>fun v=>aeO R k v
 |.bool=>fun v=>aeP R v
 |.str=>fun v=>aeQ R v
 |.slice t=>fun v=>aeR R t v
def TV.cells {T:Nat->Type}:TV T->List (TV T)
 |.agg cs=>cs|v=>[v]
mutual
def Uo {T:Nat->Type}(o:Nat):TV T->Bool
 |.ref p _=>Nat.beq p o|.RB p=>Nat.beq p o|.agg cs=>Vl o cs|.Rn cs=>Vl o cs|.Q5 cs _=>Vl o cs|.fn _ a b=>Vl o a||Vl o b|.opt _ _ v=>Uo o v|.vw p _=>Nat.beq p o|.sub p _ _ _=>Nat.beq p o|.Un p _ _ _=>Nat.beq p o|.sv p _ _ _ _ _=>Nat.beq p o|.sel p _ _ _ _ _=>Nat.beq p o|_=>false
def Vl {T:Nat->Type}(o:Nat):List (TV T)->Bool
 | []=>false|v::l=>Uo o v||Vl o l
end
def Ob.Uo {T:Nat->Type}(o:Nat):Ob T->Bool
 |.cells cs=>Vl o cs|.smap ks vs=>Vl o ks||Vl o vs|.ro b=>Ob.Uo o b|_=>false
mutual
def wk {T:Nat->Type}(t:Nat):TV T->TV T
 |.tX (.own u) ty l=>bif Nat.beq u t then .tX .any ty l else .tX (.own u) ty l|.agg cs=>.agg (Yx t cs)|.Rn cs=>.Rn (Yx t cs)|.Q5 cs off=>.Q5 (Yx t cs) off|.fn f a b=>.fn f (Yx t a) (Yx t b)|.opt j w v=>.opt j w (wk t v)|v=>v
def Yx {T:Nat->Type}(t:Nat):List (TV T)->List (TV T)
 | []=>[]|v::l=>wk t v::Yx t l
end
def Ob.wk {T:Nat->Type}(t:Nat):Ob T->Ob T
 |.cells cs=>.cells (Yx t cs)|.smap ks vs=>.smap (Yx t ks) (Yx t vs)|.ro b=>.ro (Ob.wk t b)|o=>o
def U1 {U:Type}(f:U->U):List (Nat×U)->List (Nat×U)
 | []=>[]| (i,x)::l=>(i,f x)::U1 f l
def TF {U:Type}(i:Nat):List (Nat×U)->List (Nat×U)
 | []=>[]| (j,x)::l=>bif Nat.beq j i then TF i l else (j,x)::TF i l
def MS.wk {T:Nat->Type}(t:Nat)(st:MS T):MS T:=⟨U1 (Aq.wk t) st.fr,U1 (Ob.wk t) st.ob⟩
def agd {T:Nat->Type}(j:Nat):TV T->TV T
 |.opt i w v=>bif Nat.beq i j then .gone else .opt i w v|v=>v
def MS.put {T:Nat->Type}(st:MS T)(i:Nat)(v:TV T):MS T:={st with fr:=(i,v)::U1 (agd i) (TF i st.fr)}
def MS.SV {T:Nat->Type}(st:MS T)(d:Option Nat)(v:TV T):MS T:=match d with
 |some i=>st.put i v|none=>st
def lrn {T:Nat->Type}(j:Nat)(b:Bool):TV T->TV T
 |.opt i w v=>bif Nat.beq i j then (bif (b==w) then v else .undef) else .opt i w v|v=>v
def MS.learn {T:Nat->Type}(st:MS T)(j:Nat)(b:Bool):MS T:={st with fr:=(j,.Tw b)::U1 (lrn j b) (TF j st.fr)}
def MS.ab5 {T:Nat->Type}(st:MS T)(c:Operand)(b:Bool):MS T:=match c with
 |.tmp j=>st.learn j b|_=>st
def abv {T:Nat->Type}(o:Nat)(v:TV T):TV T:=bif Uo o v then .gone else v
def abw {T:Nat->Type}(o:Nat):List (TV T)->List (TV T)
 | []=>[]|v::l=>abv o v::abw o l
def Ob.kill {T:Nat->Type}(o:Nat):Ob T->Ob T
 |.cells cs=>.cells (abw o cs)|v=>bif Ob.Uo o v then .gone else v
def MS.new {T:Nat->Type}(st:MS T)(o:Nat)(b:Ob T):MS T:=⟨U1 (abv o) st.fr,(o,b)::U1 (Ob.kill o) (TF o st.ob)⟩
def MS.set {T:Nat->Type}(st:MS T)(o:Nat)(b:Ob T):MS T:={st with ob:=(o,b)::TF o st.ob}
def MS.del {T:Nat->Type}(st:MS T)(o:Nat):MS T:={st with ob:=TF o st.ob}
def agh {T:Nat->Type}:Ob T->Ob T
 |.ro b=>agh b|b=>b
def V4 {T:Nat->Type}(st:MS T)(o:Nat):Option (Ob T):=match look st.ob o with
 |some b=>some (agh b)|none=>none
def Vm {T:Nat->Type}:Ob T->Bool
 |.ro _=>true|.gone=>true|_=>false
def Rk (i:Nat):List Nat->Bool
 | []=>false|j::l=>Nat.beq i j||Rk i l
mutual
def solid {T:Nat->Type}(W:List Nat):TV T->Bool
 |.tX (.own _) _ _=>false|.ref o _=>!(Rk o W)|.RB o=>!(Rk o W)|.agg cs=>Wz W cs|.Rn cs=>Wz W cs|.Q5 cs _=>Wz W cs|.fn _ a b=>Wz W a&& Wz W b|.opt _ _ _=>false|.vw o _=>!(Rk o W)|.sub o _ _ _=>!(Rk o W)|.Un o _ _ _=>!(Rk o W)|.sv o _ _ _ _ _=>!(Rk o W)|.sel o _ _ _ _ _=>!(Rk o W)|.gone=>false|_=>true
def Wz {T:Nat->Type}(W:List Nat):List (TV T)->Bool
 | []=>true|v::l=>solid W v&& Wz W l
end
def Vn {T:Nat->Type}(W:List Nat):Ob T->Bool
 |.cells cs=>Wz W cs|.map _ _ _=>true|.smap ks vs=>Wz W ks&& Wz W vs|.arr _ _=>true|.sg _=>true|.ro b=>Vn W b|.gone=>false
def Vv {U:Type}(p:Nat->U->Bool)(f:U->U)(l:List (Nat×U)):List Nat->List (Nat×U)
 | []=>[]|i::is=>match look l i with
  |some x=>bif p i x then (i,f x)::Vv p f l is else Vv p f l is|none=>Vv p f l is
def wkA {T:Nat->Type}:TV T->TV T
 |.tX (.own _) t l=>.tX .any t l|v=>v
def base {T:Nat->Type}(W K O:List Nat)(mark:Ob T->Ob T)(st:MS T):MS T:=
 ⟨Vv (fun i v=>!(Rk i W)&& solid W (wkA v)) wkA st.fr K,Vv (fun o b=>!(Rk o W)&& Vn W b) mark st.ob O⟩
def MS.over {T:Nat->Type}(st b:MS T):MS T:=⟨st.fr++b.fr,st.ob++b.ob⟩
def abx {T:Nat->Type}:Value->Option (TV T)
 |.bool b=>some (.Tw b)|.int k n=>some (.int k n)|.string s=>some (.str s.data.toList)|.pointer none=>some .Tf|.slice none 0 0=>some .TP|.map none=>some .SI|.nilFunc=>some .Ta|.nilIface=>some .SB|_=>none
def ab6 {T:Nat->Type}:List Value->Option (List (TV T))
 | []=>some []|v::l=>match abx v with
  |some x=>match ab6 l with
   |some y=>some (x::y)|none=>none
  |none=>none
def ab7 {T:Nat->Type}:Value->Option (TV T)
 |.agg cs=>match ab6 cs.toList with
  |some l=>some (.agg l)|none=>none
 |v=>abx v
def aeS {T:Nat->Type}(g:List (Nat×Bool)):TV T->Option (TV T)
 |.opt j w v=>match look g j with
  |some u=>some (bif u==w then v else .undef)|none=>none
 |v=>some v
def RI {T:Nat->Type}(g:List (Nat×Bool))(st:MS T):Operand->Option (TV T)
 |.tmp t=>match look st.fr t with
  |some v=>aeS g v|none=>none
 |.const v=>ab7 v|.func f=>some (.fn f [] [])|.global _=>none
def V5 {T:Nat->Type}(g:List (Nat×Bool))(st:MS T):List Operand->Option (List (TV T))
 | []=>some []|x::l=>match RI g st x with
  |some v=>match V5 g st l with
   |some vs=>some (v::vs)|none=>none
  |none=>none
def ab8 {T:Nat->Type}(g:List (Nat×Bool))(st:MS T):List (Nat×Operand)->Option (List (Nat×TV T))
 | []=>some []| (i,x)::l=>match RI g st x with
   |some v=>match ab8 g st l with
    |some vs=>some ((i,v)::vs)|none=>none
   |none=>none
def Yy {U:Type}(l:List U)(a b:Int):List U:=(l.take b.toNat).drop a.toNat
def aal {T:Nat->Type}(st:MS T):TV T->TV T
 |.ref o off=>match V4 st o with
  |some (.cells cs)=>.Q5 cs off|_=>.ref o off
 |.RB o=>match V4 st o with
  |some (.map k e m)=>.R3 k e m|_=>.RB o
 |.vw o t=>match V4 st o with
  |some (.arr t' l)=>if t'=t then .tX .sh t' l else .vw o t|_=>.vw o t
 |.sub o t a b=>match V4 st o with
  |some (.arr t' l)=>if t'=t then .tX .sh t' (Yy l a b) else .sub o t a b|_=>.sub o t a b
 |v=>v
def ac8 {T:Nat->Type}(st:MS T):List (TV T)->List (TV T)
 | []=>[]|v::l=>aal st v::ac8 st l
def aeT {T:Nat->Type}(st:MS T):TV T->TV T
 |.fn f a b=>.fn f (ac8 st a) (ac8 st b)|.agg cs=>.agg (ac8 st cs)|v=>aal st v
def aam {T:Nat->Type}(st:MS T):List (TV T)->List (TV T)
 | []=>[]|v::l=>aeT st v::aam st l
def agj {T:Nat->Type}:TV T->Bool
 |.agg _=>false|.sg _=>false|.Rn _=>false|.gone=>false|.undef=>false|.opt _ _ _=>false|_=>true
def aan {T:Nat->Type}:List (TV T)->Bool
 | []=>true|v::l=>agj v&& aan l
def WA {T:Nat->Type}:TV T->Bool
 |.gone=>false|.sg _=>false|.opt _ _ _=>false|_=>true
mutual
def TY {T:Nat->Type}:TV T->Bool
 |.int _ _=>true|.bool _=>true|.Tw _=>true|.str _=>true|.Tf=>true|.Ta=>true|.SI=>true|.SB=>true|.tX .sh _ _=>true|.agg cs=>VD cs|.Rn cs=>VD cs|.R3 _ _ _=>true|.Q5 cs _=>VD cs|.fn _ a b=>VD a&& VD b|.sg _=>true|_=>false
def VD {T:Nat->Type}:List (TV T)->Bool
 | []=>true|v::l=>TY v&& VD l
end
def XK {T:Nat->Type}:TV T->TV T
 |.tX _ t l=>.tX .sh t l|v=>v
def ac9 {T:Nat->Type}:List (TV T)->List (TV T)
 | []=>[]|v::l=>XK v::ac9 l
def erM {T:Nat->Type}:TV T->TV T
 |.tX _ t l=>.tX .sh t l|.agg cs=>.agg (ac9 cs)|v=>v
def cl1 {T:Nat->Type}:TV T->Bool
 |.tX _ _ _=>true|.TP=>true|v=>TY v
def aeU {T:Nat->Type}:List (TV T)->Bool
 | []=>true|v::l=>cl1 v&& aeU l
def clV {T:Nat->Type}:TV T->Bool
 |.agg cs=>aeU cs|v=>cl1 v
def aby {T:Nat->Type}:List (TV T)->Bool
 | []=>true|v::l=>clV v&& aby l
mutual
def UH:Sk->Bool
 |.d _=>true|.l c _=>match c with
  |.any=>true|.sh=>true|_=>false
 |.agg l=>Uq l|.Q5 l _=>Uq l|.R3 _ _=>true|.fn _ a b=>Uq a&& Uq b|.sg _=>true|_=>false
def Uq:List Sk->Bool
 | []=>true|k::l=>UH k&& Uq l
def dep:Sk->Nat
 |.agg l=>WB l+3|.Q5 l _=>WB l+3|.fn _ a b=>max (WB a) (WB b)+3|_=>3
def WB:List Sk->Nat
 | []=>0|k::l=>max (dep k) (WB l)
end
def agk:Ty->Bool
 |.int _=>true|.bool=>true|.str=>true|_=>false
def ab9:List Sk->Bool
 | []=>true|.d t::l=>agk t&& ab9 l|.sg _::l=>ab9 l|_=>false
mutual
def encS:(k:Sk)->VX R.T k->V
 |.d t,x=>Q8 R t x|.l _ t,x=>Q8 R (.slice t) x|.agg l,x=>.agg (Ri l x)|.Q5 l off,x=>.Q5 (Ri l x) off|.R3 k e,x=>.R3 (List.map (fun p=>Q8 R k p.1) x) (List.map (fun p=>Q8 R e p.2) x)
 |.fn f a b,x=>.fn (.func f) (Ri a x.1) (Ri b x.2)|.TP,_=>.tX .sh []|.ref _ _,_=>Lv|.RB _,_=>Lv|.vw _ _,_=>Lv|.sub _ _,_=>Lv|.sg l,x=>.agg (Uv (X4 l x))|.undef,_=>Lv
def Ri:(l:List Sk)->FN R.T l->List V
 | [],_=>[]| [k],x=>[encS k x]|k::h::l,p=>encS k p.1::Ri (h::l) p.2
end
def Sy:List V->V
 | [v]=>v|vs=>.Rn vs
def acd:Cp->Cp->Bool
 |_,.any=>true|.sh,.sh=>true|.nil,.nil=>true|.nil,.own _=>true|.full,.own _=>true|.full,.full=>true|.own t,.own u=>Nat.beq t u|_,_=>false
def aeV (c:Cp)(t:Ty):TV R.T->Option (List (Den R.T t))
 |.tX c' _ l=>bif acd c' c then VZ R l else none|.TP=>bif acd .nil c then some [] else none|_=>none
def ace {k e k' e':Ty}(m:List (Den R.T k'×Den R.T e')):Option (List (Den R.T k×Den R.T e)):=if h:k'=k/\e'=e then some (by rw[<-h.1,<-h.2];exact m) else none
mutual
def pk:(k:Sk)->TV R.T->Option (VX R.T k)
 |.d t=>fun v=>V3 R t v
 |.l c t=>fun v=>aeV R c t v
 |.agg l=>fun v=>match v with
  |.agg cs=>TQ l cs|_=>none
 |.ref o off=>fun v=>match v with
  |.ref p off'=>bif Nat.beq p o&& Nat.beq off' off then some () else none|_=>none
 |.Q5 l off=>fun v=>match v with
  |.Q5 cs off'=>bif Nat.beq off' off then TQ l cs else none|_=>none
 |.RB o=>fun v=>match v with
  |.RB p=>bif Nat.beq p o then some () else none|_=>none
 |.R3 k e=>fun v=>match v with
  |.R3 _ _ m=>ace R m|_=>none
 |.fn f a b=>fun v=>match v with
  |.fn f' a' b'=>bif Nat.beq f' f then (match TQ a a' with
   |some x=>match TQ b b' with
    |some y=>some (x,y)|none=>none
   |none=>none) else none
  |_=>none
 |.TP=>fun v=>match v with
  |.TP=>some ()|_=>none
 |.vw o t=>fun v=>match v with
  |.vw p t'=>bif Nat.beq p o then (if t'=t then some () else none) else none|_=>none
 |.sub o t=>fun v=>match v with
  |.sub p t' a b=>bif Nat.beq p o then (if t'=t then some (a,b) else none) else none|_=>none
 |.sg l=>fun v=>match v with
  |.sg ss=>RN l ss|_=>none
 |.undef=>fun v=>match v with
  |.undef=>some ()|_=>none
def TQ:(l:List Sk)->List (TV R.T)->Option (FN R.T l)
 | []=>fun vs=>match vs with
   | []=>some ()|_::_=>none
 | [k]=>fun vs=>match vs with
   | [v]=>pk k v|_=>none
 |k::h::l=>fun vs=>match vs with
  | []=>none|v::vs=>match pk k v with
   |some x=>match TQ (h::l) vs with
    |some p=>some (x,p)|none=>none
   |none=>none
end
mutual
def up (c:Cp):(k:Sk)->VX R.T k->TV R.T
 |.d t,x=>Tc R c t x|.l c t,x=>.tX c t x|.agg l,x=>.agg (Tn c l x)|.ref o off,_=>.ref o off|.Q5 l off,x=>.Q5 (Tn c l x) off|.RB o,_=>.RB o|.R3 k e,x=>.R3 k e x|.fn f a b,x=>.fn f (Tn c a x.1) (Tn c b x.2)|.TP,_=>.TP|.vw o t,_=>.vw o t|.sub o t,x=>.sub o t x.1 x.2|.sg l,x=>.sg (X4 l x)|.undef,_=>.undef
def Tn (c:Cp):(l:List Sk)->FN R.T l->List (TV R.T)
 | [],_=>[]| [k],x=>[up c k x]|k::h::l,p=>up c k p.1::Tn c (h::l) p.2
end
def pkO:(k:SC)->Ob R.T->Option (aaQ R.T k)
 |.cells l=>fun o=>match o with
  |.cells cs=>TQ R l cs|_=>none
 |.st n=>fun o=>match o with
  |.cells cs=>abu R n (.agg cs)|_=>none
 |.map k e=>fun o=>match o with
  |.map _ _ m=>ace R m|_=>none
 |.arr t=>fun o=>match o with
  |.arr _ l=>VZ R l|_=>none
 |.sg l=>fun o=>match o with
  |.sg ss=>RN l ss|_=>none
def Uy:(k:SC)->aaQ R.T k->Ob R.T
 |.cells l,x=>.cells (Tn R .any l x)|.st n,x=>.cells (TW R .any (R.lf n) (R.of n x))|.map k e,x=>.map k e x|.arr t,x=>.arr t x|.sg l,x=>.sg (X4 l x)
def WC (st:List (Nat×TV R.T)):(l:List (Nat×Sk))->Option (abt R.T l)
 | []=>some ()| [(i,k)]=>match look st i with
   |some v=>pk R k v|none=>none
 | (i,k)::h::l=>match look st i with
   |some v=>match pk R k v with
    |some x=>match WC st (h::l) with
     |some p=>some (x,p)|none=>none
    |none=>none
   |none=>none
def adb:(l:List (Nat×Sk))->abt R.T l->List (Nat×TV R.T)
 | [],_=>[]| [(i,k)],x=>[(i,up R .any k x)]| (i,k)::h::l,p=>(i,up R .any k p.1)::adb (h::l) p.2
def U2 (st:List (Nat×Ob R.T)):(l:List (Nat×SC))->Option (Ud R.T l)
 | []=>some ()| [(i,k)]=>match look st i with
   |some v=>pkO R k v|none=>none
 | (i,k)::h::l=>match look st i with
   |some v=>match pkO R k v with
    |some x=>match U2 st (h::l) with
     |some p=>some (x,p)|none=>none
    |none=>none
   |none=>none
def Ue:(l:List (Nat×SC))->Ud R.T l->List (Nat×Ob R.T)
 | [],_=>[]| [(i,k)],x=>[(i,Uy R k x)]| (i,k)::h::l,p=>(i,Uy R k p.1)::Ue (h::l) p.2
def pack (st:MS R.T):(s:Shape)->Option (VY R.T s)
 | ⟨s,[]⟩=>WC R st.fr s| ⟨s,o::os⟩=>match WC R st.fr s with
   |some x=>match U2 R st.ob (o::os) with
    |some y=>some (x,y)|none=>none
   |none=>none
def isE {T:Nat->Type}:TV T->Bool
 |.TP=>true|.tX .nil _ l=>l.isEmpty|.tX .full _ l=>l.isEmpty|_=>false
def Wm {T:Nat->Type}(W:List Nat):List (Nat×Sk)->MS T->MS T
 | [],st=>st| (i,.vw o t)::l,st=>match look st.fr i with
   |some v=>bif isE v&& Rk o W then Wm W l ⟨(i,.vw o t)::(st.new o (.arr t [])).fr,(st.new o (.arr t [])).ob⟩ else Wm W l st|none=>Wm W l st
 |_::l,st=>Wm W l st
def UN (W:List Nat)(st:MS R.T)(s:Shape):Option (VY R.T s):=pack R (Wm W s.sl st) s
def unpack:(s:Shape)->VY R.T s->MS R.T
 | ⟨s,[]⟩,x=>⟨adb R s x,[]⟩| ⟨s,o::os⟩,x=>⟨adb R s x.1,Ue R (o::os) x.2⟩
def abz:Ex->Ex->Bool
 |.normal,.normal=>true|.ret,.ret=>true|.exit i,.exit j=>Nat.beq i j|_,_=>false
def XL (W:List Nat)(e:Ex)(st:MS R.T):(l:List (Ex×Shape))->Option (Out R.T l)
 | []=>none| [(x,s)]=>bif abz e x then UN R W st s else none| (x,s)::h::l=>bif abz e x then (match UN R W st s with
   |some p=>some (.inl p)|none=>none) else (match XL W e st (h::l) with
   |some p=>some (.inr p)|none=>none)
def Yz {β:Type}(b:MS R.T)(k:Ex->MS R.T->Option β):(l:List (Ex×Shape))->Out R.T l->Option β
 | [],_=>none| [(x,s)],p=>k x (b.over (unpack R s p))| (x,s)::h::l,p=>Sum.elim (fun q=>k x (b.over (unpack R s q))) (fun q=>Yz b k (h::l) q) p
end
end Aq
end
