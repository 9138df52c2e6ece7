import Derived.Test.YtgdialomgeijcaaGreatF4004
set_option linter.all false
section
namespace Aq
open Go
section
variable {E:Env}
def cK (S T:Sv):Prop:=(∀c fr Y r,S.code c fr Y=some r->T.code c fr Y=some r)/\∀f args d Y r,S.call f args d Y=some r->T.call f args d Y=some r
variable {S T:Sv}
theorem vT (h:cK S T){f:FuncId}{args:List V}{v:V}(hc:WH E S f args=some v):WH E T f args=some v:=by
 unfold WH at hc⊢;cases hg:E.W9 f with
 |some g=>simp only[hg] at hc⊢;exact hc|none=>simp only[hg,iP] at hc⊢;obtain⟨x,h1,h2⟩:=hc;exact⟨x,h.2 _ _ _ _ _ h1,h2⟩
theorem AX (h:cK S T){l:Nat}{args:List V}{Y:qd}{r:V×qd}(hc:fF S l args Y=some r):fF T l args Y=some r:=by
 unfold fF at hc⊢;simp only[iP] at hc⊢;obtain⟨r0,hl,hc⟩:=hc;refine⟨r0,hl,?_⟩;split at hc
 .rename_i hst;rw[if_pos hst];simp only[iP] at hc⊢;obtain⟨⟨e1,Ri,Y1⟩,jC,hc⟩:=hc;refine⟨(e1,Ri,Y1),h.1 _ _ _ _ jC,?_⟩;cases e1 with
  |normal=>
   simp only[iP] at hc⊢;obtain⟨r1,hl1,hc⟩:=hc;refine⟨r1,hl1,?_⟩;split at hc
   .rename_i iZ;rw[if_pos iZ];simp only[iP] at hc⊢;obtain⟨x,hb,y,hy,hc⟩:=hc;exact⟨x,h.1 _ _ _ _ hb,y,hy,hc⟩
   .simp at hc
  |exit i=>simp at hc|ret=>simp at hc
 .simp at hc
theorem vU (h:cK S T){d:Nat}{Y:qd}{fv:V}{args:List V}{r:V×qd}(hc:bG E S d Y fv args=some r):bG E T d Y fv args=some r:=by
 unfold bG at hc⊢;split at hc
 .split at hc
  .rename_i hi;simp only[hi,if_true];exact h.2 _ _ _ _ _ hc
  .rename_i hi;simp only[iP] at hc;obtain⟨az,h1,v,h2,h3⟩:=hc;simp only[hi,h1,Option.bind_some,vT h h2];exact h3
 .exact AX h hc
 .simp at hc
theorem JJ (h:cK S T){Y:qd}{st:Nat}{fv:V}{args:List V}{r:V×qd}(hc:iw E S Y st fv args=some r):iw E T Y st fv args=some r:=by unfold iw at hc;cases hc
theorem vV (h:cK S T){fr:Fr}{Y:qd}{st:Nat}{o:Oper}{r:V×Fr×qd}(hc:opC E S fr Y st o=some r):opC E T fr Y st o=some r:=by
 unfold opC at hc⊢;split at hc
 .rename_i c ho;simp only[ho] at hc⊢;split at hc
  .exact hc
  .rename_i f hf;split at hc
   .rename_i aS;simp only[aS,if_true];simp only[Pz] at hc⊢;obtain⟨x,h1,h2⟩:=hc;exact⟨x,JJ h h1,h2⟩
   rename_i aS;simp only[aS,if_false,PN];simp only[Pz] at hc⊢;obtain⟨x,h1,h2⟩:=hc;exact⟨x,vU h h1,h2⟩
  .simp at hc
 .simp at hc
 .exact hc
theorem rD (h:cK S T)(all:List Oper):∀(os:List Oper)(st:Nat)(fr:Fr)(Y:qd)(r:Fr×qd),opsE E S all st os fr Y=some r->opsE E T all st os fr Y=some r:=by
 intro os;induction os with
 |nil=>intro st fr Y r hc;exact hc|cons o os ih=>
  intro st fr Y r hc;simp only[opsE,iP] at hc⊢;obtain⟨t,h1,h2⟩:=hc;refine⟨t,h1,?_⟩;cases t with
  |true=>simp only[if_true,iP] at h2⊢;obtain⟨x,h3,h4⟩:=h2;exact⟨x,vV h h3,ih _ _ _ _ h4⟩
  |false=>simp only[PN,if_false] at h2⊢;exact ih _ _ _ _ h2
theorem vW (h:cK S T)(all:List Oper):∀(os:List Oper)(st:Nat)(fr:Fr)(Y:qd)(r:List R6×Fr×qd),dU E S all st os fr Y=some r->dU E T all st os fr Y=some r:=by
 intro os;induction os with
 |nil=>intro st fr Y r hc;exact hc|cons o os ih=>
  intro st fr Y r hc;simp only[dU,iP] at hc⊢;obtain⟨t,h1,h2⟩:=hc;refine⟨t,h1,?_⟩;cases t with
  |true=>simp only[if_true,iP,Pz] at h2⊢;obtain⟨x,h3,y,h4,h5⟩:=h2;exact⟨x,vV h h3,y,ih _ _ _ _ h4,h5⟩
  |false=>simp only[PN,if_false,Pz] at h2⊢;obtain⟨y,h4,h5⟩:=h2;exact⟨y,ih _ _ _ _ h4,h5⟩
theorem pI (h:cK S T){ops:List Oper}{base i:Nat}{fr:Fr}{Y:qd}{r:Fr×qd}(hc:Tz E S ops base i fr Y=some r):Tz E T ops base i fr Y=some r:=by
 unfold Tz at hc⊢;split at hc
 .exact hc
 .simp only[iP] at hc⊢;obtain⟨t,h1,h2⟩:=hc;refine⟨t,h1,?_⟩;cases t with
  |true=>simp only[if_true,Pz] at h2⊢;obtain⟨x,h3,h4⟩:=h2;exact⟨x,vV h h3,h4⟩
  |false=>simpa using h2
theorem JK (h:cK S T){ms:List Nat}{ops:List Oper}{base:Nat}{x y:Fr×qd}(hf:Free E S ms ops base x y):Free E T ms ops base x y:=by obtain⟨s,T',W,h0,hn,oV,hloc,hr⟩:=hf;refine⟨s,T',W,h0,hn,oV,fun i hi x hx=>?_,hr⟩;obtain⟨y,h1,h2⟩:=hloc i hi x hx;exact⟨y,pI h h1,h2⟩
theorem iL (h:cK S T):∀(c:Code)(fr:Fr)(Y:qd)(r:Ex×Fr×qd),RQ E S c fr Y=some r->RQ E T c fr Y=some r:=by
 intro c;induction c with
 |region id ops dr=>
  intro fr Y r hc;simp only[RQ] at hc⊢;split at hc
  .rename_i hd;simp only[hd,if_true,iP] at hc⊢;obtain⟨x,h1,h2⟩:=hc;refine⟨x,vW h _ _ _ _ _ _ h1,?_⟩;split at h2
   .rename_i hp;rw[if_pos hp];exact h2
   .rename_i hp;rw[if_neg hp];unfold tO at h2⊢;split at h2
    .rename_i hf;rw[if_pos ⟨hf.1,JK h hf.2⟩];exact h2
    .cases h2
  .rename_i hd;simp only[hd,PN,if_false,Pz] at hc⊢;obtain⟨x,h1,h2⟩:=hc;exact⟨x,rD h _ _ _ _ _ _ h1,h2⟩
 |seq a b iha ihb=>
  intro fr Y r hc;simp only[RQ,iP] at hc⊢;obtain⟨⟨e,Ri,Y1⟩,h1,h2⟩:=hc;refine⟨(e,Ri,Y1),iha _ _ _ h1,?_⟩;cases e with
  |normal=>exact ihb _ _ _ h2|exit i=>exact h2|ret=>exact h2
 |cond c a b iha ihb=>
  intro fr Y r hc;simp only[RQ,iP] at hc⊢;obtain⟨t,h1,h2⟩:=hc;refine⟨t,h1,?_⟩;cases t with
  |true=>simp only[if_true] at h2⊢;exact iha _ _ _ h2|false=>simp only[PN,if_false] at h2⊢;exact ihb _ _ _ h2
 |block id c ih=>intro fr Y r hc;simp only[RQ,Pz] at hc⊢;obtain⟨x,h1,h2⟩:=hc;exact⟨x,ih _ _ _ h1,h2⟩
 |loop c ih=>
  intro fr Y r hc;simp only[RQ,iP] at hc⊢;obtain⟨⟨e,Ri,Y1⟩,h1,h2⟩:=hc;refine⟨(e,Ri,Y1),ih _ _ _ h1,?_⟩;cases e with
  |normal=>exact h.1 _ _ _ _ h2|exit i=>exact h2|ret=>exact h2
 |rangeFunc f ps a b iha ihb=>
  intro fr Y r hc;simp only[RQ] at hc⊢;split at hc
  .rename_i hf;rw[if_pos hf];simp only[iP] at hc⊢;obtain⟨x,h1,h2⟩:=hc;exact⟨x,vU h h1,h2⟩
  .simp at hc
 |scope c ih=>intro fr Y r hc;simp only[RQ] at hc⊢;exact ih _ _ _ hc|_=>intro fr Y r hc;simpa [RQ] using hc
theorem JL (h:cK S T){f:FuncId}{args:List V}{d:Nat}{Y:qd}{r:V×qd}(hc:jT E S f args d Y=some r):jT E T f args d Y=some r:=by
 simp only[jT,iP] at hc⊢;obtain⟨fn,h1,c,h2,h3⟩:=hc;refine⟨fn,h1,c,h2,?_⟩;split at h3
 .rename_i hok;rw[if_pos hok];simp only[iP] at h3⊢;obtain⟨x,h4,h5⟩:=h3;exact⟨x,h.1 _ _ _ _ h4,h5⟩
 .simp at h3
theorem JM:∀n,cK (Rn E n) (Rn E (n+1)):=by
 intro n;induction n with
 |zero=>exact⟨(fun _ _ _ _ h=>by cases h),(fun _ _ _ _ _ h=>by cases h)⟩
 |succ n ih=>exact⟨fun c fr Y r h=>iL ih c fr Y r h,fun f args d Y r h=>JL ih h⟩
theorem cK.refl (S:Sv):cK S S:=⟨fun _ _ _ _ h=>h,fun _ _ _ _ _ h=>h⟩
theorem cK.trans {S T UU:Sv}(h:cK S T)(g:cK T UU):cK S UU:=⟨fun _ _ _ _ x=>g.1 _ _ _ _ (h.1 _ _ _ _ x),fun _ _ _ _ _ x=>g.2 _ _ _ _ _ (h.2 _ _ _ _ _ x)⟩
theorem bN {n m:Nat}(h:n<=m):cK (Rn E n) (Rn E m):=by
 induction m with
 |zero=>obtain rfl:n=0:=by omega
        exact .refl _
 |succ m ih=>
  by_cases e:n=m+1
  .subst e;exact .refl _
  .exact(ih (by omega)).trans (JM m)
end
section
variable (E:Env)
def OW (all:List Oper)(st:Nat)(os:List Oper)(fr:Fr)(Y:qd)(Q:Fr->qd->Prop):Prop:=
 ∃n fr' Y',opsE E (Rn E n) all st os fr Y=some (fr',Y')/\Q fr' Y'
def bO (ms:List Nat)(all:List Oper)(st:Nat)(os:List Oper)(fr:Fr)(Y:qd)(fs:List R6)(Q:Fr->qd->Prop):Prop:=
 ∃n fs' fr' Y',dU E (Rn E n) all st os fr Y=some (fs',fr',Y')/\abu ms (fs++fs')=true/\Q fr' Y'
def CW (c:Code)(fr:Fr)(Y:qd)(Q:Ex->Fr->qd->Prop):Prop:=
 ∃n e fr' Y',RQ E (Rn E n) c fr Y=some (e,fr',Y')/\Q e fr' Y'
def Pure (f:FuncId)(args:List V)(v:V):Prop:=∃n,WH E (Rn E n) f args=some v
def VF (f:FuncId)(args:List V)(d:Nat)(Y:qd)(Q:V->qd->Prop):Prop:=∃n v Y',(Rn E n).call f args d Y=some (v,Y')/\Q v Y'
end
section
variable {E:Env}{fr:Fr}{Y:qd}
theorem Pure.ok (hE:Ul E){f:FuncId}{args:List V}{v:V}(h:Pure E f args v):UJ E f args v:=h.elim fun _ h=>JI hE h
theorem OW.mono {all:List Oper}{st:Nat}{os:List Oper}{Q Q':Fr->qd->Prop}(h:OW E all st os fr Y Q)(hq:∀fr Y,Q fr Y->Q' fr Y):OW E all st os fr Y Q':=
 let ⟨n,fr',Y',h1,h2⟩:=h;⟨n,fr',Y',h1,hq _ _ h2⟩
theorem CW.mono {c:Code}{Q Q':Ex->Fr->qd->Prop}(h:CW E c fr Y Q)(hq:∀e fr Y,Q e fr Y->Q' e fr Y):CW E c fr Y Q':=
 let ⟨n,e,fr',Y',h1,h2⟩:=h;⟨n,e,fr',Y',h1,hq _ _ _ h2⟩
theorem OW.nil {all:List Oper}{st:Nat}{Q:Fr->qd->Prop}(h:Q fr Y):OW E all st [] fr Y Q:=⟨0,fr,Y,rfl,h⟩
theorem OW.op {all:List Oper}{st:Nat}{o:Oper}{os:List Oper}{v:V}{Y1:qd}{Q:Fr->qd->Prop}(hw:SF all fr o=some true)(hop:∀S,opC E S fr Y st o=some (v,fr,Y1))(h:OW E all (st+1) os (fr.put o.dst v) Y1 Q):OW E all st (o::os) fr Y Q:=by
 obtain⟨n,fr',Y',h1,h2⟩:=h;exact⟨n,fr',Y',by simp only[opsE,hw,Option.bind_some,if_true,hop,h1],h2⟩
theorem OW.skip {all:List Oper}{st:Nat}{o:Oper}{os:List Oper}{Q:Fr->qd->Prop}(hw:SF all fr o=some false)(h:OW E all (st+1) os (fr.put o.dst Q6) Y Q):OW E all st (o::os) fr Y Q:=by obtain⟨n,fr',Y',h1,h2⟩:=h;exact⟨n,fr',Y',by simp only[opsE,hw,Option.bind_some,PN,if_false,h1],h2⟩
theorem vX {d:Nat}{g:FuncId}{a b args az:List V}{v:V}{n:Nat}(hi:E.imp g=false)(has:(a++args++b).mapM (Rm 20 Y)=some az)(hp:WH E (Rn E n) g az=some v)(hc:((a++args++b).all (fun x=>Rf (er x))||flat v)=true):bG E (Rn E n) d Y (.fn (.func g) a b) args=some (v,Y):=by
 unfold bG;simp only[hi,PN,if_false,has,Option.bind_some,hp,hc,if_true]
theorem pJ {o:Oper}{f:Operand}{g:FuncId}{a b:List V}(hf:fr.ev E f= .fn (.func g) a b)(h:∀d,o.dst=some d->E.own g d=false):VR E fr o f=false:=by
 unfold VR;rw[hf];cases hd:o.dst with
 |none=>rfl|some d=>exact h d hd
def rE (E:Env)(f:FuncId)(az:List V)(sz:Nat)(l:List V):Prop:=∃n v Y1,(Rn E n).call f az 1 qd.init=some (v,Y1)/\∀st Y,(∃c,(c= .nil\/c= .full)/\nX Y st Y1 v=some (.tX c l,Y))\/nX Y st Y1 v=some (.tX (.own sz st) l,Y.SA st l.length)
theorem rE.of {f:FuncId}{az:List V}{sz:Nat}{l:List V}{n:Nat}{c:Cap}{Y1:qd}(h:(Rn E n).call f az 1 qd.init=some (.tX c l,Y1))(hp:RJ l=true)(hc:c= .nil\/c= .full\/∃s,c= .own sz s/\Y1.top s=l.length):rE E f az sz l:=by
 refine⟨n,_,Y1,h,fun st Y=>?_⟩;rcases hc with rfl|rfl| ⟨s,rfl,ht⟩
 .exact .inl ⟨.nil,.inl rfl,by unfold nX;dsimp only;rw[if_pos hp]⟩
 .exact .inl ⟨.full,.inr rfl,by unfold nX;dsimp only;rw[if_pos hp]⟩
 .exact .inr (by unfold nX;dsimp only;rw[if_pos hp,if_pos ht])
theorem OW.call {all:List Oper}{st:Nat}{o:Oper}{os:List Oper}{v:V}{Q:Fr->qd->Prop}{c:Call}{f:Operand}{g:FuncId}{a b az:List V}(hw:SF all fr o=some true)(ho:o.op= .call c)(bD:c.callee= .value f)(hf:fr.ev E f= .fn (.func g) a b)(hi:E.imp g=false)(has:(a++c.args.toList.map (fr.ev E)++b).mapM (Rm 20 Y)=some az)(hp:Pure E g az v)(hc:((a++c.args.toList.map (fr.ev E)++b).all (fun x=>Rf (er x))||flat v)=true)(h:OW E all (st+1) os (fr.put o.dst v) Y Q)(aS:∀d,o.dst=some d->E.own g d=false:=by intros;rfl):OW E all st (o::os) fr Y Q:=by
 obtain⟨n,fr',Y',h1,h2⟩:=h;obtain⟨m,hm⟩:=hp;have hm':=vT (bN (Qi n m)) hm;have h1':=rD (bN (QD n m)) _ _ _ _ _ _ h1;refine⟨max n m,fr',Y',?_,h2⟩;simp only[opsE,hw,Option.bind_some,if_true,opC,ho,bD,pJ hf aS,PN,if_false,hf,vX hi has hm' hc,Option.map_some,h1']
theorem OW.acT {all:List Oper}{st:Nat}{o:Oper}{os:List Oper}{Q:Fr->qd->Prop}{c:Call}{f:Operand}{g:FuncId}{a b:List V}(hw:SF all fr o=some true)(ho:o.op= .call c)(bD:c.callee= .value f)(hf:fr.ev E f= .fn (.func g) a b)(hi:E.imp g=true)(hp:VF E g (a++c.args.toList.map (fr.ev E)++b) (fr.d+1) Y (fun v Y1=>OW E all (st+1) os (fr.put o.dst v) Y1 Q))(aS:∀d,o.dst=some d->E.own g d=false:=by intros;rfl):OW E all st (o::os) fr Y Q:=by
 obtain⟨m,v,Y1,hm,n,fr',Y',h1,h2⟩:=hp;have hm':=(bN (Qi n m)).2 _ _ _ _ _ hm;have h1':=rD (bN (QD n m)) _ _ _ _ _ _ h1;refine⟨max n m,fr',Y',?_,h2⟩;have:bG E (Rn E (max n m)) fr.d Y (.fn (.func g) a b) (c.args.toList.map (fr.ev E))=some (v,Y1):=by unfold bG;simp only[hi,if_true];exact hm'
 simp only[opsE,hw,Option.bind_some,if_true,opC,ho,bD,pJ hf aS,PN,if_false,hf,this,Option.map_some,h1']
theorem bO.nil {ms:List Nat}{all:List Oper}{st:Nat}{fs:List R6}{Q:Fr->qd->Prop}(hp:abu ms fs=true)(h:Q fr Y):bO E ms all st [] fr Y fs Q:=⟨0,[],fr,Y,rfl,by simpa using hp,h⟩
theorem bO.op {ms:List Nat}{all:List Oper}{st:Nat}{o:Oper}{os:List Oper}{v:V}{Y1:qd}{fs:List R6}{Q:Fr->qd->Prop}(hw:SF all fr o=some true)(hop:∀S,opC E S fr Y st o=some (v,fr,Y1))(h:bO E ms all (st+1) os (fr.put o.dst v) Y1 (fs++[aT E all fr o true]) Q):bO E ms all st (o::os) fr Y fs Q:=by
 obtain⟨n,fs',fr',Y',h1,h2,h3⟩:=h;exact⟨n,aT E all fr o true::fs',fr',Y',by simp only[dU,hw,Option.bind_some,if_true,hop,h1,Option.map_some],by simpa using h2,h3⟩
theorem bO.skip {ms:List Nat}{all:List Oper}{st:Nat}{o:Oper}{os:List Oper}{fs:List R6}{Q:Fr->qd->Prop}(hw:SF all fr o=some false)(h:bO E ms all (st+1) os (fr.put o.dst Q6) Y (fs++[aT E all fr o false]) Q):bO E ms all st (o::os) fr Y fs Q:=by
 obtain⟨n,fs',fr',Y',h1,h2,h3⟩:=h;exact⟨n,aT E all fr o false::fs',fr',Y',by simp only[dU,hw,Option.bind_some,PN,if_false,h1,Option.map_some],by simpa using h2,h3⟩
theorem bO.call {ms:List Nat}{all:List Oper}{st:Nat}{o:Oper}{os:List Oper}{v:V}{fs:List R6}{Q:Fr->qd->Prop}{c:Call}{f:Operand}{g:FuncId}{a b az:List V}(hw:SF all fr o=some true)(ho:o.op= .call c)(bD:c.callee= .value f)(hf:fr.ev E f= .fn (.func g) a b)(hi:E.imp g=false)(has:(a++c.args.toList.map (fr.ev E)++b).mapM (Rm 20 Y)=some az)(hp:Pure E g az v)(hc:((a++c.args.toList.map (fr.ev E)++b).all (fun x=>Rf (er x))||flat v)=true)(h:bO E ms all (st+1) os (fr.put o.dst v) Y (fs++[aT E all fr o true]) Q)(aS:∀d,o.dst=some d->E.own g d=false:=by intros;rfl):bO E ms all st (o::os) fr Y fs Q:=by
 obtain⟨n,fs',fr',Y',h1,h2,h3⟩:=h;obtain⟨m,hm⟩:=hp;have hm':=vT (bN (Qi n m)) hm;have h1':=vW (bN (QD n m)) _ _ _ _ _ _ h1;refine⟨max n m,aT E all fr o true::fs',fr',Y',?_,by simpa using h2,h3⟩;simp only[dU,hw,Option.bind_some,if_true,opC,ho,bD,pJ hf aS,PN,if_false,hf,vX hi has hm' hc,Option.map_some,h1']
theorem bO.acT {ms:List Nat}{all:List Oper}{st:Nat}{o:Oper}{os:List Oper}{fs:List R6}{Q:Fr->qd->Prop}{c:Call}{f:Operand}{g:FuncId}{a b:List V}(hw:SF all fr o=some true)(ho:o.op= .call c)(bD:c.callee= .value f)(hf:fr.ev E f= .fn (.func g) a b)(hi:E.imp g=true)(hp:VF E g (a++c.args.toList.map (fr.ev E)++b) (fr.d+1) Y (fun v Y1=>bO E ms all (st+1) os (fr.put o.dst v) Y1 (fs++[aT E all fr o true]) Q))(aS:∀d,o.dst=some d->E.own g d=false:=by intros;rfl):bO E ms all st (o::os) fr Y fs Q:=by
 obtain⟨m,v,Y1,hm,n,fs',fr',Y',h1,h2,h3⟩:=hp;have hm':=(bN (Qi n m)).2 _ _ _ _ _ hm;have h1':=vW (bN (QD n m)) _ _ _ _ _ _ h1;refine⟨max n m,aT E all fr o true::fs',fr',Y',?_,by simpa using h2,h3⟩;have:bG E (Rn E (max n m)) fr.d Y (.fn (.func g) a b) (c.args.toList.map (fr.ev E))=some (v,Y1):=by unfold bG;simp only[hi,if_true];exact hm'
 simp only[dU,hw,Option.bind_some,if_true,opC,ho,bD,pJ hf aS,PN,if_false,hf,this,Option.map_some,h1']
end
def qd.bump (Y:qd)(k:Nat):qd:={Y with next:=Y.next+k}
section
variable {E:Env}{fr:Fr}{Y:qd}
theorem CW.region {id:Nat}{ops:Array Oper}{Q:Ex->Fr->qd->Prop}(h:OW E ops.toList Y.next ops.toList fr (Y.bump ops.toList.length) (fun fr Y=>Q .normal fr Y)):CW E (.region id ops false) fr Y Q:=by obtain⟨n,fr',Y',h1,h2⟩:=h;exact⟨n,.normal,fr',Y',by simp only[RQ,PN,if_false];rw[show opsE E (Rn E n) ops.toList Y.next ops.toList fr {Y with next:=Y.next+ops.toList.length}=some (fr',Y') from h1];rfl,h2⟩
theorem CW.draw {id:Nat}{ops:Array Oper}{Q:Ex->Fr->qd->Prop}(he:V6 ops.toList=true)(h:bO E (VT ops.toList) ops.toList Y.next ops.toList fr (Y.bump ops.toList.length) [] (fun fr Y=>Q .normal fr Y)):CW E (.region id ops true) fr Y Q:=by
 obtain⟨n,fs,fr',Y',h1,h2,h3⟩:=h;refine⟨n,.normal,fr',Y',?_,h3⟩;simp only[RQ,if_true];rw[show dU E (Rn E n) ops.toList Y.next ops.toList fr {Y with next:=Y.next+ops.toList.length}=some (fs,fr',Y') from h1];simp only[Option.bind_some,he,Bool.true_and];rw[if_pos (by simpa using h2)]
def SY (E:Env)(b:Code)(Q:Ex->Fr->qd->Prop)(e:Ex)(fr:Fr)(Y:qd):Prop:=match e with
 |.normal=>CW E b fr Y Q|e=>Q e fr Y
theorem CW.seq {a b:Code}{Q:Ex->Fr->qd->Prop}(h:CW E a fr Y (SY E b Q)):CW E (.seq a b) fr Y Q:=by
 obtain⟨n,e,Ri,Y1,h1,h2⟩:=h;cases e with
 |normal=>obtain⟨m,e,fr',Y',h3,h4⟩:=h2;refine⟨max n m,e,fr',Y',?_,h4⟩;simp only[RQ,iL (bN (QD n m)) _ _ _ _ h1,Option.bind_some,iL (bN (Qi n m)) _ _ _ _ h3]
 |exit i=>exact⟨n,.exit i,Ri,Y1,by simp only[RQ,h1,Option.bind_some],h2⟩|ret=>exact⟨n,.ret,Ri,Y1,by simp only[RQ,h1,Option.bind_some],h2⟩
theorem CW.skip {Q:Ex->Fr->qd->Prop}(h:Q .normal fr Y):CW E .skip fr Y Q:=⟨0,.normal,fr,Y,rfl,h⟩
theorem CW.ret {Q:Ex->Fr->qd->Prop}(h:Q .ret fr Y):CW E .ret fr Y Q:=⟨0,.ret,fr,Y,rfl,h⟩
theorem CW.exit {i:Nat}{Q:Ex->Fr->qd->Prop}(h:Q (.exit i) fr Y):CW E (.exit i) fr Y Q:=⟨0,.exit i,fr,Y,rfl,h⟩
theorem CW.cond {c:Operand}{a b:Code}{t:Bool}{Q:Ex->Fr->qd->Prop}(hc:fr.ev E c= .bool t)(ht:t=true->CW E a fr Y Q)(hf:t=false->CW E b fr Y Q):CW E (.cond c a b) fr Y Q:=by
 cases t with
 |true=>obtain⟨n,e,fr',Y',h1,h2⟩:=ht rfl;exact⟨n,e,fr',Y',by simp only[RQ,hc,dI,Option.bind_some,if_true,h1],h2⟩
 |false=>obtain⟨n,e,fr',Y',h1,h2⟩:=hf rfl;exact⟨n,e,fr',Y',by simp only[RQ,hc,dI,Option.bind_some,PN,if_false,h1],h2⟩
def Vj (id:Nat)(Q:Ex->Fr->qd->Prop)(e:Ex)(fr:Fr)(Y:qd):Prop:=match e with
 |.exit i=>if i=id then Q .normal fr Y else Q (.exit i) fr Y|e=>Q e fr Y
theorem CW.block {id:Nat}{c:Code}{Q:Ex->Fr->qd->Prop}(h:CW E c fr Y (Vj id Q)):CW E (.block id c) fr Y Q:=by
 obtain⟨n,e,fr',Y',h1,h2⟩:=h;cases e with
 |normal=>exact⟨n,.normal,fr',Y',by simp only[RQ,h1,Option.map_some],h2⟩|ret=>exact⟨n,.ret,fr',Y',by simp only[RQ,h1,Option.map_some],h2⟩|exit i=>
  simp only[Vj] at h2;split at h2
  .rename_i hi;exact⟨n,.normal,fr',Y',by simp only[RQ,h1,Option.map_some,if_pos hi],h2⟩
  .rename_i hi;exact⟨n,.exit i,fr',Y',by simp only[RQ,h1,Option.map_some,if_neg hi],h2⟩
theorem CW.scope {c:Code}{Q:Ex->Fr->qd->Prop}(h:CW E c fr Y Q):CW E (.scope c) fr Y Q:=by obtain⟨n,e,fr',Y',h1,h2⟩:=h;exact⟨n,e,fr',Y',by simp only[RQ,h1],h2⟩
theorem CW.label {l:Nat}{Q:Ex->Fr->qd->Prop}(h:Q .normal fr Y):CW E (.label l) fr Y Q:=⟨0,.normal,fr,Y,by simp only[RQ],h⟩
def YL (E:Env)(c:Code)(Q:Ex->Fr->qd->Prop)(e:Ex)(fr:Fr)(Y:qd):Prop:=match e with
 |.normal=>CW E (.loop c) fr Y Q|e=>Q e fr Y
theorem CW.loop {c:Code}{Q:Ex->Fr->qd->Prop}(h:CW E c fr Y (YL E c Q)):CW E (.loop c) fr Y Q:=by
 obtain⟨n,e,Ri,Y1,h1,h2⟩:=h;cases e with
 |normal=>obtain⟨m,e,fr',Y',h3,h4⟩:=h2;refine⟨max n m+1,e,fr',Y',?_,h4⟩;simp only[RQ,iL (bN (show n<=max n m+1 by omega)) _ _ _ _ h1,Option.bind_some];exact iL (bN (Qi n m)) _ _ _ _ h3
 |exit i=>exact⟨n,.exit i,Ri,Y1,by simp only[RQ,h1,Option.bind_some],h2⟩|ret=>exact⟨n,.ret,Ri,Y1,by simp only[RQ,h1,Option.bind_some],h2⟩
def YM (E:Env)(rs:List ResultVar)(R:V->qd->Prop)(e:Ex)(fr:Fr)(Y:qd):Prop:=match e with
 |.exit _=>False|_=>∃vs,rs.mapM (Uf E fr Y)=some vs/\R (match vs with| [v]=>v|vs=>.Rw vs) Y
theorem VF.of {f:FuncId}{args:List V}{d:Nat}{fn:Func}{c:Code}{R:V->qd->Prop}(hf:E.P.funcs[f]? =some fn)(hb:fn.body=some c)(hok:(decide (args.length<=fn.ntmps)&& aK fn.ntmps c)=true)(h:CW E c {d:=d,om:=E.om f,tm:=fun i=>args.getD i Q6} Y (YM E fn.results.toList R)):VF E f args d Y R:=by
 obtain⟨n,e,fr',Y',h1,h2⟩:=h;have hok':args.length<=fn.ntmps/\aK fn.ntmps c=true:=by simpa using hok
 have key:∀vs,fn.results.toList.mapM (Uf E fr' Y')=some vs->(e= .normal\/e= .ret)->(Rn E (n+2)).call f args d Y=some ((match vs with| [v]=>v|vs=>.Rw vs),Y'):=by intro vs hvs he;show jT E (Rn E (n+1)) f args d Y=_;have h3:(Rn E (n+1)).code c {d:=d,om:=E.om f,tm:=fun i=>args.getD i Q6} Y=some (e,fr',Y'):=h1;simp only[jT,hf,hb,Option.bind_some,if_pos hok',h3];rcases he with rfl|rfl<;>simp only[hvs,Option.map_some]<;>rcases vs with _| ⟨x,_| ⟨y,l⟩⟩<;>rfl
 cases e with
 |normal=>obtain⟨vs,h3,h4⟩:=h2;exact⟨n+2,_,Y',key vs h3 (.inl rfl),h4⟩
 |ret=>obtain⟨vs,h3,h4⟩:=h2;exact⟨n+2,_,Y',key vs h3 (.inr rfl),h4⟩
 |exit i=>exact h2.elim
theorem Pure.of {f:FuncId}{args:List V}{v:V}{fn:Func}{c:Code}(hs:E.W9 f=none)(hf:E.P.funcs[f]? =some fn)(hb:fn.body=some c)(hok:(decide (args.length<=fn.ntmps)&& aK fn.ntmps c)=true)(h:CW E c {d:=1,om:=E.om f,tm:=fun i=>args.getD i Q6} qd.init (YM E fn.results.toList (fun v0 Y=>Rm 20 Y v0=some v))):Pure E f args v:=by
 obtain⟨n,v0,Y',h1,h2⟩:=VF.of hf hb hok h;exact⟨n,by simp only[WH,hs,h1,Option.bind_some,h2]⟩
theorem aeN (fr:Fr)(d:Nat)(v:V):fr.put (some d) v=fr.set d v:=rfl
theorem JN (fr:Fr)(v:V):fr.put none v=fr:=rfl
theorem V7 (fr:Fr)(d:Nat)(v:V):(fr.set d v).tm d=v:=by simp[Fr.set,upd]
theorem aaP (fr:Fr){d t:Nat}(v:V)(h:(t==d)=false):(fr.set d v).tm t=fr.tm t:=by
 have h':¬t=d:=by simpa using h
 simp[Fr.set,upd,h']
theorem Z9 (fr:Fr)(d:Nat)(v:V):(fr.set d v).d=fr.d:=rfl
theorem aoZ (fr:Fr)(d:Nat)(v:V):(fr.set d v).om=fr.om:=rfl
theorem pK (fr:Fr)(t:Nat):fr.ev E (.tmp t)=fr.tm t:=rfl
theorem AY (fr:Fr)(v:Value):fr.ev E (.const v)=(ofValue v).getD (.raw v):=rfl
theorem AZ (fr:Fr)(f:FuncId):fr.ev E (.func f)= .fn (.func f) [] []:=rfl
theorem JO (Y:qd)(k:Nat):(Y.bump k).next=Y.next+k:=rfl
theorem JQ (Y:qd)(l:Aq.Loc)(s:Nat)(o:TD):(Y.setObj l s o).next=Y.next:=rfl
theorem JR (Y:qd)(s n:Nat):(Y.SA s n).next=Y.next:=rfl
theorem agr (Y:qd)(s n:Nat):(Y.SA s n).top s=n:=by simp[qd.SA,upd]
theorem aeO (Y:qd){s t:Nat}(n:Nat)(h:t≠s):(Y.SA s n).top t=Y.top t:=by simp[qd.SA,upd,h]
theorem JU (Y:qd)(k:Nat):(Y.bump k).top=Y.top:=rfl
theorem JV (Y:qd)(l:Aq.Loc)(s:Nat)(o:TD):(Y.setObj l s o).top=Y.top:=rfl
theorem A8 {l l':Aq.Loc}(h:fQ l l'=false):¬l=l':=by rintro rfl;simp[fQ] at h
theorem vY (a b c d:Nat):fQ (a,b) (c,d)=(b==d&& a==c):=rfl
theorem abw (Y:qd)(l:Aq.Loc)(s:Nat)(cs:List V):(Y.setObj l s (.cells cs)).Rz l s=some cs:=by simp[qd.setObj,qd.Rz,upd]
theorem A9 (Y:qd){l l':Aq.Loc}(s s':Nat)(o:TD)(h:fQ l l'=false):(Y.setObj l' s' o).Rz l s=Y.Rz l s:=by have h':=A8 h;simp[qd.setObj,qd.Rz,upd,h']
theorem JW (Y:qd)(k:Nat)(l:Aq.Loc)(s:Nat):(Y.bump k).Rz l s=Y.Rz l s:=rfl
theorem JX (Y:qd)(t n:Nat)(l:Aq.Loc)(s:Nat):(Y.SA t n).Rz l s=Y.Rz l s:=rfl
theorem map_eq (Y:qd)(l:Aq.Loc)(s:Nat)(ks vs:List V):(Y.setObj l s (.map ks vs)).aW l s=some (ks,vs):=by simp[qd.setObj,qd.aW,upd]
theorem Ba (Y:qd){l l':Aq.Loc}(s s':Nat)(o:TD)(h:fQ l l'=false):(Y.setObj l' s' o).aW l s=Y.aW l s:=by have h':=A8 h;simp[qd.setObj,qd.aW,upd,h']
theorem JY (Y:qd)(k:Nat)(l:Aq.Loc)(s:Nat):(Y.bump k).aW l s=Y.aW l s:=rfl
theorem JZ (Y:qd)(t n:Nat)(l:Aq.Loc)(s:Nat):(Y.SA t n).aW l s=Y.aW l s:=rfl
end
def Is {U:Type}(a b:U):Prop:=a=b
theorem Is.rfl {U:Type}{a:U}:Is a a:=Eq.refl a
def iv (n:Int):V:=.int .i64 n
def lv {U:Type}(f:U->V)(l:List U):V:=.tX .sh (l.map f)
theorem Bb {U:Type}{f:U->V}(h:∀x,Rf (f x)=true):∀l:List U,RJ (l.map f)=true
 | []=>by simp[RJ]|a::l=>by simp[RJ,h a,Bb h l]
theorem rF {U:Type}{f:U->V}(h:∀x,Rf (f x)=true)(l:List U):Rf (.tX .sh (l.map f))=true:=by simp only[Rf];exact Bb h l
theorem aac {U:Type}{f:U->V}(h:∀x,Rf (f x)=true)(l:List U):Rf (lv f l)=true:=rF h l
theorem J2 (n:Int):Rf (iv n)=true:=by simp[iv,Rf]
theorem abx (l:List (List UInt8)):Rf (lv V.str l)=true:=aac (fun _=>by simp[Rf]) l
theorem aby (l:List Int):Rf (lv iv l)=true:=aac J2 l
theorem ab3 (k:IntKind)(l:List Int):Rf (lv (V.int k) l)=true:=aac (fun _=>by simp[Rf]) l
theorem ab4 (l:List Bool):Rf (lv V.bool l)=true:=aac (fun _=>by simp[Rf]) l
attribute [go_sem] abx aby ab3 ab4
def Q5 {U:Type}(l:List U)(i:Int):Option U:=if 0<=i/\i<l.length then l[i.toNat]? else none
def YP (P:Program)(t:TypeId):Bool:=match P.underlying t with
 |some (.slice _)=>true|_=>false
def ail (P:Program)(t:TypeId):Bool:=match P.underlying t with
 |some .string=>true|_=>false
section
variable {E:Env}{fr:Fr}{Y:qd}
def NQ (Q:Ex->Fr->qd->Prop)(fr:Fr)(Y:qd):Prop:=Q .normal fr Y
theorem NQ.i {Q:Ex->Fr->qd->Prop}(h:Q .normal fr Y):NQ Q fr Y:=h
theorem SY.n {b:Code}{Q:Ex->Fr->qd->Prop}(h:CW E b fr Y Q):SY E b Q .normal fr Y:=h
theorem SY.x {b:Code}{i:Nat}{Q:Ex->Fr->qd->Prop}(h:Q (.exit i) fr Y):SY E b Q (.exit i) fr Y:=h
theorem SY.r {b:Code}{Q:Ex->Fr->qd->Prop}(h:Q .ret fr Y):SY E b Q .ret fr Y:=h
theorem Vj.n {id:Nat}{Q:Ex->Fr->qd->Prop}(h:Q .normal fr Y):Vj id Q .normal fr Y:=h
theorem Vj.r {id:Nat}{Q:Ex->Fr->qd->Prop}(h:Q .ret fr Y):Vj id Q .ret fr Y:=h
theorem Vj.hit {id:Nat}{Q:Ex->Fr->qd->Prop}(h:Q .normal fr Y):Vj id Q (.exit id) fr Y:=by simp only[Vj,if_true];exact h
theorem YL.n {c:Code}{Q:Ex->Fr->qd->Prop}(h:CW E (.loop c) fr Y Q):YL E c Q .normal fr Y:=h
theorem YL.x {c:Code}{i:Nat}{Q:Ex->Fr->qd->Prop}(h:Q (.exit i) fr Y):YL E c Q (.exit i) fr Y:=h
theorem YL.r {c:Code}{Q:Ex->Fr->qd->Prop}(h:Q .ret fr Y):YL E c Q .ret fr Y:=h
theorem CW.ab5 {c:Operand}{a b:Code}{Q:Ex->Fr->qd->Prop}(hc:Is (fr.ev E c) (.bool true))(h:CW E a fr Y Q):CW E (.cond c a b) fr Y Q:=CW.cond hc (fun _=>h) (fun h=>by cases h)
theorem CW.ab6 {c:Operand}{a b:Code}{Q:Ex->Fr->qd->Prop}(hc:Is (fr.ev E c) (.bool false))(h:CW E b fr Y Q):CW E (.cond c a b) fr Y Q:=CW.cond hc (fun h=>by cases h) (fun _=>h)
theorem OW.o1 {all:List Oper}{st:Nat}{d:Tmp}{op:Op}{ty:TypeId}{pos:String}{TU:Array Edge}{gd:Option (Nat×Bool)}{os:List Oper}{v:V}{Y1:qd}{Q:Fr->qd->Prop}(hw:Is (SF all fr ⟨some d,op,ty,pos,TU,gd⟩) (some true))(hop:∀S,Is (opC E S fr Y st ⟨some d,op,ty,pos,TU,gd⟩) (some (v,fr,Y1)))(h:OW E all (st+1) os (fr.set d v) Y1 Q):OW E all st (⟨some d,op,ty,pos,TU,gd⟩::os) fr Y Q:=OW.op hw hop h
theorem OW.o0 {all:List Oper}{st:Nat}{op:Op}{ty:TypeId}{pos:String}{TU:Array Edge}{gd:Option (Nat×Bool)}{os:List Oper}{v:V}{Y1:qd}{Q:Fr->qd->Prop}(hw:Is (SF all fr ⟨none,op,ty,pos,TU,gd⟩) (some true))(hop:∀S,Is (opC E S fr Y st ⟨none,op,ty,pos,TU,gd⟩) (some (v,fr,Y1)))(h:OW E all (st+1) os fr Y1 Q):OW E all st (⟨none,op,ty,pos,TU,gd⟩::os) fr Y Q:=OW.op hw hop h
theorem OW.abz {all:List Oper}{st:Nat}{d:Option Tmp}{f:Operand}{args:Array Operand}{tys:Array TypeId}{ty:TypeId}{pos:String}{TU:Array Edge}{gd:Option (Nat×Bool)}{os:List Oper}{Q:Fr->qd->Prop}{g:FuncId}{a b az:List V}{v:V}(hp:Pure E g az v)(hf:Is (fr.ev E f) (.fn (.func g) a b))(has:Is ((a++args.toList.map (fr.ev E)++b).mapM (Rm 20 Y)) (some az))(hc:Is ((a++args.toList.map (fr.ev E)++b).all (fun x=>Rf (er x))||flat v) true)(hw:Is (SF all fr ⟨d,.call ⟨.value f,args,tys⟩,ty,pos,TU,gd⟩) (some true))(h:OW E all (st+1) os (fr.put d v) Y Q)(hi:E.imp g=false:=by rfl)(aS:∀d',d=some d'->E.own g d'=false:=by intros;rfl):OW E all st (⟨d,.call ⟨.value f,args,tys⟩,ty,pos,TU,gd⟩::os) fr Y Q:=
 OW.call hw rfl rfl hf hi has hp hc h aS
theorem YM.one {r:ResultVar}{e:Ex}{v0:V}{R:V->qd->Prop}(he:∀i,e≠ .exit i)(hv:Is (Uf E fr Y r) (some v0))(hr:R v0 Y):YM E [r] R e fr Y:=by
 have h1:[r].mapM (Uf E fr Y)=some [v0]:=by rw[PY,hv];rfl
 cases e with
 |exit i=>exact absurd rfl (he i)|normal=>exact⟨[v0],h1,hr⟩|ret=>exact⟨[v0],h1,hr⟩
theorem YM.Rw {rs:List ResultVar}{e:Ex}{v1 v2:V}{vs:List V}{R:V->qd->Prop}(he:∀i,e≠ .exit i)(hv:Is (rs.mapM (Uf E fr Y)) (some (v1::v2::vs)))(hr:R (.Rw (v1::v2::vs)) Y):YM E rs R e fr Y:=by
 cases e with
 |exit i=>exact absurd rfl (he i)|normal=>exact⟨_,hv,hr⟩|ret=>exact⟨_,hv,hr⟩
theorem Pure.of' {f:FuncId}{args:List V}{v:V}{fn:Func}{c:Code}(rs:List ResultVar)(hf:E.P.funcs[f]? =some fn)(hb:fn.body=some c)(h:∀fr Y,fr.d=1->fr.om=E.om f->(∀i,fr.tm i=args.getD i Q6)->CW E c fr Y (YM E rs (fun v0 Y=>Rm 20 Y v0=some v)))(hrs:fn.results.toList=rs:=by rfl)(hok:(decide (args.length<=fn.ntmps)&& aK fn.ntmps c)=true:=by rfl)(hs:E.W9 f=none:=by rfl):Pure E f args v:=
 Pure.of hs hf hb hok (by rw[hrs];exact h _ _ rfl rfl (fun _=>rfl))
theorem UZ {n:Nat}{x:V}(h:Rf x=true):Rm (n+1) Y x=some x:=by unfold Rm;simp only[h,if_true]
theorem vZ (n:Nat)(k:IntKind)(i:Int):Rm (n+1) Y (.int k i)=some (.int k i):=UZ (by simp[Rf])
theorem ags (n:Nat)(b:Bool):Rm (n+1) Y (.bool b)=some (.bool b):=UZ (by simp[Rf])
theorem wh (n:Nat)(s:List UInt8):Rm (n+1) Y (.str s)=some (.str s):=UZ (by simp[Rf])
theorem aaQ {n:Nat}{U:Type}{f:U->V}(c:Cap)(l:List U)(h:∀x,Rf (f x)=true):Rm (n+2) Y (.tX c (l.map f))=some (lv f l):=by
 by_cases hp:Rf (.tX c (l.map f))=true
 .rw[UZ hp];cases c<;>simp only[Rf,PN] at hp;rfl
 .unfold Rm;simp only[hp,if_false,PN];have:(l.map f).mapM (Rm (n+1) Y)=some (l.map f):=by
   induction l with
   |nil=>simp|cons a l ih=>simp[h a,UZ,ih (by cases c<;>simp_all[Rf,RJ])]
  rw[this];rfl
theorem J3 (k:IntKind)(i:Int):er (.int k i)= .int k i:=rfl
theorem J4 (b:Bool):er (.bool b)= .bool b:=rfl
theorem J5 (s:List UInt8):er (.str s)= .str s:=rfl
theorem J6 {U:Type}(f:U->V)(l:List U):er (lv f l)=lv f l:=rfl
theorem J7 (c:Cap)(l:List V):er (.tX c l)= .tX .sh l:=rfl
theorem J8 (n:Int):iv n= .int .i64 n:=rfl
theorem wm (k:IntKind)(i:Int):Rf (.int k i)=true:=by simp[Rf]
theorem wo (b:Bool):Rf (.bool b)=true:=by simp[Rf]
theorem Bc (s:List UInt8):Rf (.str s)=true:=by simp[Rf]
theorem wu {P:Program}{U:Type}{t:TypeId}{c:Cap}{l:List U}{f:U->V}{k:IntKind}{i:Int}:
 VQ P t (.tX c (l.map f)) (.int k i)=if YP P t then (U8 P t).bind fun e=>(RY P e).bind fun sz=>(Q5 l i).bind fun x=>if (f x).cells.length=sz then some (.Q9 (f x).cells 0) else none else none:=by
 unfold VQ YP U8;cases hu:P.underlying t with
 |none=>rfl|some u=>
  cases u<;>try rfl
  rename_i e;simp only[if_true,Option.bind_some];cases RY P e with
  |none=>rfl|some sz=>
   simp only[Option.bind_some,idx,fu,PX,Q5];split
   .rename_i h;simp only[Option.bind_some,List.getElem?_map];cases l[i.toNat]? with
    |none=>rfl|some x=>rfl
   .rfl
theorem agt {P:Program}{U:Type}{t:TypeId}{l:List U}{f:U->V}{k:IntKind}{i:Int}:
 VQ P t (lv f l) (.int k i)=if YP P t then (U8 P t).bind fun e=>(RY P e).bind fun sz=>(Q5 l i).bind fun x=>if (f x).cells.length=sz then some (.Q9 (f x).cells 0) else none else none:=wu
theorem J9 {P:Program}{t:TypeId}{v:V}(h1:VD P t=some false)(h2:RY P t=some 1):Ub P t [v] 0=some v:=by simp[Ub,h1,h2,jm]
theorem Ka {t:TypeId}{U:Type}(f:U->V)(l:List U)(h:YP E.P t=true):fP E Y t (lv f l)=some l.length:=by
 unfold YP at h;unfold fP;split at h
 .rename_i e he;rw[he];simp[lv]
 .simp at h
end
section
variable {E:Env}{S:Sv}{fr:Fr}{Y:qd}{st:Nat}{d:Option Tmp}{ty:TypeId}{pos:String}{TU:Array Edge}{gd:Option (Nat×Bool)}
theorem Kc (all:List Oper)(op:Op):SF all fr ⟨d,op,ty,pos,TU,none⟩=some true:=rfl
def Bd (want:Bool):V->Option Bool
 |.bool b=>some (b==want)|.raw _=>none|_=>some false
theorem Ke (w b:Bool):Bd w (.bool b)=some (b==w):=rfl
theorem Kg (w:Bool):Bd w Q6=some false:=rfl
theorem Kh (cs:List V):V.cells (.agg cs)=cs:=rfl
theorem Ki (k:IntKind)(n:Int):V.cells (.int k n)=[.int k n]:=rfl
theorem Kj (k:IntKind)(n:Int):Te (.int k n)=true:=rfl
theorem Kk (b:Bool):V.cells (.bool b)=[.bool b]:=rfl
theorem Kl (b:Bool):Te (.bool b)=true:=rfl
theorem Km (s:List UInt8):V.cells (.str s)=[.str s]:=rfl
theorem Kn (s:List UInt8):Te (.str s)=true:=rfl
theorem Ko (c:Cap)(l:List V):V.cells (.tX c l)=[.tX c l]:=rfl
theorem Kq (c:Cap)(l:List V):Te (.tX c l)=true:=rfl
theorem Kr (l:Aq.Loc)(s o:Nat):V.cells (.ref l s o)=[.ref l s o]:=rfl
theorem Kt (l:Aq.Loc)(s o:Nat):Te (.ref l s o)=true:=rfl
theorem Ku (cs:List V)(o:Nat):V.cells (.Q9 cs o)=[.Q9 cs o]:=rfl
theorem Kv (cs:List V)(o:Nat):Te (.Q9 cs o)=true:=rfl
theorem Kw (f:Fn)(a b:List V):V.cells (.fn f a b)=[.fn f a b]:=rfl
theorem Ky (f:Fn)(a b:List V):Te (.fn f a b)=true:=rfl
theorem Kz {U:Type}(f:U->V)(l:List U):V.cells (lv f l)=[lv f l]:=rfl
theorem KC:RZ []=true:=rfl
theorem Bf (x:V)(l:List V):RZ (x::l)=(oneCell x&& RZ l):=rfl
theorem KE (k:IntKind)(n:Int):oneCell (.int k n)=true:=rfl
theorem KF (b:Bool):oneCell (.bool b)=true:=rfl
theorem KG (s:List UInt8):oneCell (.str s)=true:=rfl
theorem KH {U:Type}(f:U->V)(l:List U):oneCell (lv f l)=true:=rfl
theorem KJ (c:Cap)(l:List V):oneCell (.tX c l)=true:=rfl
theorem KL (l:Aq.Loc)(s o:Nat):oneCell (.ref l s o)=true:=rfl
theorem KM (cs:List V)(o:Nat):oneCell (.Q9 cs o)=true:=rfl
theorem KN (cs:List V):Te (.agg cs)=true:=rfl
theorem KO {U:Type}(f:U->V)(l:List U):Te (lv f l)=true:=rfl
theorem KQ (x:Operand)(h:fzM E d=false):opC E S fr Y st ⟨d,.move x,ty,pos,TU,gd⟩=some (fr.ev E x,fr,Y):=by show Option.map _ (if fzM E d=true then iq Y (fr.ev E x) else some (fr.ev E x,Y))=_;rw[if_neg (by rw[h];simp)];rfl
theorem KR (x:Operand):opC E S fr Y st ⟨d,.assign x,ty,pos,TU,gd⟩=some (fr.ev E x,fr,Y):=rfl
theorem ao0 (op:BinOp)(t u:TypeId)(x y:Operand):opC E S fr Y st ⟨d,.binOp op t x y u,ty,pos,TU,gd⟩=(WG E.P op t (fr.ev E x) (fr.ev E y)).map fun v=>(v,fr,Y):=by simp only[opC,aH];cases WG E.P op t (fr.ev E x) (fr.ev E y)<;>rfl
theorem KS (op:UnOp)(t:TypeId)(x:Operand):opC E S fr Y st ⟨d,.unOp op t x,ty,pos,TU,gd⟩=(kS op (fr.ev E x)).map fun v=>(v,fr,Y):=by simp only[opC,aH];cases kS op (fr.ev E x)<;>rfl
theorem KT (t:TypeId)(x:Operand)(f:Nat):opC E S fr Y st ⟨d,.fieldAddr t x f,ty,pos,TU,gd⟩=(YG E.P t f).bind fun p=>match fr.ev E x with
 |.ref loc s off=>some (.ref loc s (off+p.1),fr,Y)|.Q9 cs off=>some (.Q9 cs (off+p.1),fr,Y)|_=>none:=by
 simp only[opC,aH];cases YG E.P t f with
 |none=>rfl|some p=>obtain⟨o,u⟩:=p;simp only[Option.bind_some];cases fr.ev E x<;>rfl
theorem KU (t:TypeId)(x:Operand):opC E S fr Y st ⟨d,.load t x,ty,pos,TU,gd⟩=(match fr.ev E x with
 |.ref loc s off=>(Y.Rz loc s).bind fun cs=>(Ub E.P t cs off).map fun v=>(v,fr,Y)
 |.Q9 cs off=>(Ub E.P t cs off).map fun v=>(v,fr,Y)
 |_=>none):=by
 simp only[opC,aH];cases fr.ev E x with
 |ref loc s off=>
  simp only;cases Y.Rz loc s with
  |none=>rfl|some cs=>simp only[Option.bind_some];cases Ub E.P t cs off<;>rfl
 |Q9 cs off=>simp only;cases Ub E.P t cs off<;>rfl|_=>rfl
theorem agu (t:TypeId)(x:Operand)(i:Nat):opC E S fr Y st ⟨some i,.box t x,ty,pos,TU,gd⟩=if YJ E t (some i)=true then (if Rf (er (fr.ev E x))=true/\Te (fr.ev E x)=true then some (.Q9 (er (fr.ev E x)).cells 0,fr,Y) else none) else if RZ (fr.ev E x).cells/\Te (fr.ev E x) then some (.ref (fr.d,i) st 0,fr,Y.setObj (fr.d,i) st (.cells (fr.ev E x).cells)) else none:=by
 show Option.map _ (if YJ E t (some i)=true then _ else (some (fr.d,i)).bind _)=_;by_cases hz:YJ E t (some i)=true
 .simp only[hz,if_true];split<;>rfl
 .simp only[hz,PN,if_false,Option.bind_some];split<;>rfl
theorem KV (t:TypeId)(i:Nat):opC E S fr Y st ⟨some i,.alloc t,ty,pos,TU,gd⟩=(Ut E.P t).bind fun z=>if RZ z.cells then some (.ref (fr.d,i) st 0,fr,Y.setObj (fr.d,i) st (.cells z.cells)) else none:=by
 simp only[opC,aH,Option.map_some,Option.bind_some];cases Ut E.P t with
 |none=>rfl|some z=>simp only[Option.bind_some];split<;>rfl
theorem agv (t:TypeId)(a x:Operand):opC E S fr Y st ⟨d,.store t a x,ty,pos,TU,gd⟩=(match fr.ev E a with
 |.ref loc s off=>(Y.Rz loc s).bind fun cs=>
  if some (fr.ev E x).cells.length=RY E.P t/\off+(fr.ev E x).cells.length<=cs.length/\RZ (fr.ev E x).cells then some (Q6,fr,Y.setObj loc s (.cells (TF cs off (fr.ev E x).cells))) else none
 |_=>none):=by
 simp only[opC,aH];cases fr.ev E a with
 |ref loc s off=>
  simp only;cases Y.Rz loc s with
  |none=>rfl|some cs=>simp only[Option.bind_some];split<;>rfl
 |_=>rfl
theorem KW (t:TypeId)(x i:Operand):opC E S fr Y st ⟨d,.indexAddr t x i,ty,pos,TU,gd⟩=(VQ E.P t (fr.ev E x) (fr.ev E i)).map fun v=>(v,fr,Y):=by simp only[opC,aH];cases VQ E.P t (fr.ev E x) (fr.ev E i)<;>rfl
theorem KX (x:Operand)(i:Nat):opC E S fr Y st ⟨d,.extract x i,ty,pos,TU,gd⟩=(match fr.ev E x with
 |.Rw vs=>(vs[i]?).map fun v=>(v,fr,Y)
 |_=>none):=by
 simp only[opC,aH];cases fr.ev E x with
 |Rw vs=>simp only;cases vs[i]? <;>rfl|_=>rfl
theorem KY (x:Operand)(t:TypeId):opC E S fr Y st ⟨d,.call ⟨.builtin .len, #[x], #[t]⟩,ty,pos,TU,gd⟩=(fP E Y t (fr.ev E x)).map fun n=>(.int .i64 (n:Nat),fr,Y):=by show (Option.map _ (((#[t]:Array TypeId)[0]?).bind fun t=>(fP E Y t (fr.ev E x)).map fun n=>(V.int .i64 (n:Nat),Y)))=_;rw[show (#[t]:Array TypeId)[0]? =some t from rfl,Option.bind_some];cases fP E Y t (fr.ev E x)<;>rfl
end
attribute [go_sem] PN WG Uk jQ kS decide_true decide_false List.getElem?_cons_succ List.getElem?_cons_zero beq_true beq_false Bool.not_true Bool.not_false vY Bool.false_and Bool.and_false Bool.true_and Bool.and_true Kc Ke Kg KQ KR ao0 KS KT KU agu KV agv KW KX KY pK AY AZ V7 aaP aeN JN Z9 aoZ JO JQ JR abw A9 JW JX map_eq Ba JY JZ agr aeO JU JV J8 J9 Ka wu PX agt vZ ags wh J3 J4 J5 J6 J7 wm wo Bc Option.bind_some Option.map_some Option.getD_some dI ofValue bP if_true if_false Kh Ki Kk Km Kz Ko Kr Ku Kw Kj Kl Kn Kq Kt Kv Ky KC Bf KE KF KG KH KJ KL KM KN KO and_self and_true true_and
def jd:Code->List Nat->Option Code
 |c,[]=>some c|.seq a b,i::l=>if i=0 then jd a l else jd b l|.cond _ a b,i::l=>if i=0 then jd a l else jd b l|.block _ a,_::l=>jd a l|.loop a,_::l=>jd a l|.scope a,_::l=>jd a l|.rangeFunc _ _ a b,i::l=>if i=0 then jd a l else jd b l|_,_=>none
def TM (b:Option Code)(l:List Nat):Option Code:=b.bind fun c=>jd c l
section
variable {E:Env}{fr:Fr}{Y:qd}
def rG (E:Env)(c:Code)(fr:Fr)(Y:qd)(Q:Ex->Fr->qd->Prop):Prop:=CW E (.loop c) fr Y Q
theorem CW.lp {c:Code}{Q:Ex->Fr->qd->Prop}(h:rG E c fr Y Q):CW E (.loop c) fr Y Q:=h
def pO:Code->Nat
 |.region i _ _=>i|.seq a _=>pO a|.loop a=>pO a|.scope a=>pO a|.block _ a=>pO a|_=>0
theorem rG.at (k:Nat){c:Code}{Q:Ex->Fr->qd->Prop}(_h:Is (pO c) k)(h:rG E c fr Y Q):rG E c fr Y Q:=h
theorem Bg {n:Nat}(cs:List V):Rm (n+2) Y (.agg cs)=(cs.mapM (Rm (n+1) Y)).map .agg:=by
 by_cases hp:Rf (.agg cs)=true
 .rw[UZ hp];have:∀cs:List V,RJ cs=true->cs.mapM (Rm (n+1) Y)=some cs:=by
   intro cs;induction cs with
   |nil=>intro _;rfl|cons a l ih=>intro h;simp only[RJ,PD] at h;rw[PY,UZ h.1,ih h.2];rfl
  rw[this cs (by simpa [Rf] using hp)];rfl
 .conv=>lhs;unfold Rm
  simp only[hp,if_false,PN]
theorem agw {n:Nat}(cs:List V):Rm (n+2) Y (.Rw cs)=(cs.mapM (Rm (n+1) Y)).map .Rw:=by
 by_cases hp:Rf (.Rw cs)=true
 .rw[UZ hp];have:∀cs:List V,RJ cs=true->cs.mapM (Rm (n+1) Y)=some cs:=by
   intro cs;induction cs with
   |nil=>intro _;rfl|cons a l ih=>intro h;simp only[RJ,PD] at h;rw[PY,UZ h.1,ih h.2];rfl
  rw[this cs (by simpa [Rf] using hp)];rfl
 .conv=>lhs;unfold Rm
  simp only[hp,if_false,PN]
end
def ab7 (P:Program)(Y:qd)(st:Nat)(t u:TypeId)(x y:V):Option (V×qd):=
 match P.underlying u with
 |some (.int _)=>bT P false true Y st none t x y|some (.slice _)|some .string=>bT P false false Y st none t x y|_=>none
theorem KZ {P:Program}{z:Bool}{Y:qd}{st:Nat}{loc:Option Loc}{t:TypeId}{c:Cap}{l:List V}{y:V}:bT P false z Y st loc t (.tX c l) y=bT P false z Y st none t (.tX c l) y:=by
 unfold bT;cases U8 P t with
 |none=>rfl|some e=>cases c<;>rfl
section
variable {E:Env}{S:Sv}{fr:Fr}{Y:qd}{st:Nat}{d:Option Tmp}{ty:TypeId}{pos:String}{TU:Array Edge}{gd:Option (Nat×Bool)}
theorem ao1 {t u:TypeId}{x y:Operand}{c:Cap}{l:List V}(ho:fr.om=false)(hx:fr.ev E x= .tX c l):opC E S fr Y st ⟨d,.call ⟨.builtin .append, #[x,y], #[t,u]⟩,ty,pos,TU,gd⟩=(ab7 E.P Y st t u (.tX c l) (fr.ev E y)).map fun p=>(p.1,fr,p.2):=by
 show Option.map _ ((((#[t,u]:Array TypeId)[0]?).bind fun t=>(((#[t,u]:Array TypeId)[1]?).bind E.P.underlying).bind fun u=>match u with
  |.int _=>bT E.P fr.om true Y st (d.map fun t=>(fr.d,E.cn t)) t (fr.ev E x) (fr.ev E y)
  |.slice _|.string=>bT E.P fr.om false Y st (d.map fun t=>(fr.d,E.cn t)) t (fr.ev E x) (fr.ev E y)
  |_=>none))=_
 show Option.map _ ((E.P.underlying u).bind _)=_;rw[ho,hx];unfold ab7;cases E.P.underlying u with
 |none=>rfl|some u=>
  cases u<;>try rfl
  all_goals (simp only[Option.bind_some];rw[KZ];first|rfl| (generalize bT _ _ _ _ _ _ _ _ _=o;cases o<;>rfl))
end
def acU (P:Program)(t u:TypeId)(sz SQ:Nat)(z:V):Prop:=∃e ag,U8 P t=some e/\RY P e=some sz/\aaM P e=some SQ/\VD P e=some ag/\Ut P e=some z/\z.cells.length=sz/\0<sz/\(ag||sz==1)=true/\YP P u=true
theorem acU.mk {P:Program}{t u:TypeId}{sz SQ:Nat}{z:V}(e:TypeId)(ag:Bool)(h1:U8 P t=some e)(h2:RY P e=some sz)(h3:aaM P e=some SQ)(h4:VD P e=some ag)(h5:Ut P e=some z)(h6:z.cells.length=sz)(h7:0<sz)(h8:(ag||sz==1)=true)(h9:YP P u=true):acU P t u sz SQ z:=⟨e,ag,h1,h2,h3,h4,h5,h6,h7,h8,h9⟩
def YQ (sz:Nat)(l:List V):Bool:=l.all fun v=>v.cells.length==sz&& RZ v.cells
theorem auG {U:Type}{f:U->V}{sz:Nat}(h:∀x,(f x).cells.length=sz/\RZ (f x).cells=true)(l:List U):YQ sz (l.map f)=true:=by simp[YQ,h]
theorem wB {sz:Nat}{l:List V}(h:YQ sz l=true):dH sz l=true:=by
 cases l with
 |nil=>rfl|cons a l=>simp[YQ] at h;simp[dH,h.1.1]
theorem K4 {sz:Nat}{l:List V}(h:YQ sz l=true):l.all (fun v=>RZ v.cells)=true:=by simp[YQ] at h;simpa using fun x hx=>(h x hx).2
theorem Bh {P:Program}{Y:qd}{st t u sz SQ:Nat}{z:V}{x:V}{c2:Cap}{ys:List V}(ha:acU P t u sz SQ z)(hy:YQ sz ys=true):
 ab7 P Y st t u x (.tX c2 ys)=match x with
 |.tX c l=>if SB (l.length+ys.length) SQ=true/\dH sz l=true then match c with
  |.own n s=>if n=sz/\Y.top s=l.length then some (.tX (.own n s) (l++ys),Y.SA s (l.length+ys.length)) else none|.nil|.full=>some (.tX (.own sz st) (l++ys),Y.SA st (l.length+ys.length))|_=>none else none
 |_=>ab7 P Y st t u x (.tX c2 ys):=by
 obtain⟨e,ag,h1,h2,h3,h4,h5,h6,h7,h8,h9⟩:=ha;cases x<;>try rfl
 rename_i c l;unfold YP at h9;split at h9
 .rename_i e' he;simp only[ab7,he,bT,h1,h2,h3,h4,h5,Option.bind_some,mh,true_and,if_pos (show z.cells.length=sz/\0<sz/\(ag||sz==1)=true from ⟨h6,h7,h8⟩),fE,wB hy,if_true,K4 hy];cases c<;>rfl
 .simp at h9
theorem auH {P:Program}{Y:qd}{st t u s sz SQ:Nat}{z:V}{l:List V}{c2:Cap}{ys:List V}(ha:acU P t u sz SQ z)(hy:YQ sz ys=true)(hl:YQ sz l=true)(hr:SB (l.length+ys.length) SQ=true)(ht:Y.top s=l.length):ab7 P Y st t u (.tX (.own sz s) l) (.tX c2 ys)=some (.tX (.own sz s) (l++ys),Y.SA s (l.length+ys.length)):=by
 rw[Bh ha hy];simp only[hr,wB hl,and_self,if_true,ht]
theorem auI {P:Program}{Y:qd}{st t u sz SQ:Nat}{z:V}{l:List V}{c2:Cap}{ys:List V}(ha:acU P t u sz SQ z)(hy:YQ sz ys=true)(hl:YQ sz l=true)(hr:SB (l.length+ys.length) SQ=true):ab7 P Y st t u (.tX .nil l) (.tX c2 ys)=some (.tX (.own sz st) (l++ys),Y.SA st (l.length+ys.length)):=by
 rw[Bh ha hy];simp only[hr,wB hl,and_self,if_true]
section
variable {E:Env}{S:Sv}{fr:Fr}{Y:qd}{st:Nat}{d:Option Tmp}{ty:TypeId}{pos:String}{TU:Array Edge}{gd:Option (Nat×Bool)}
theorem ao2 (t:TypeId)(n:Nat)(l:List (Nat×Operand))(h:bsM E d=false):opC E S fr Y st ⟨d,.buildSlice t n l.toArray,ty,pos,TU,gd⟩=(ab1 E t n (l.map fun p=>(p.1,fr.ev E p.2))).map fun v=>(v,fr,Y):=by unfold opC;dsimp only;unfold aH;dsimp only;rw[h,if_neg (by simp)];cases ab1 E t n (l.map fun p=>(p.1,fr.ev E p.2))<;>rfl
end
section
variable {E:Env}{S:Sv}{fr:Fr}{Y:qd}{st:Nat}{d:Option Tmp}{ty:TypeId}{pos:String}{TU:Array Edge}{gd:Option (Nat×Bool)}
theorem Bj {P:Program}{t:TypeId}{s:List UInt8}{k:IntKind}{i:Int}(h:ail P t=true):mg P t (.str s) (.int k i)=(Q5 s i).map fun b=>.int .u8 (b.toNat:Nat):=by
 unfold ail at h;unfold mg;split at h
 .rename_i he;rw[he];simp only[idx,fu,Option.bind_some,Q5];split
  .simp only[Option.bind_some];rfl
  .rfl
 .simp at h
end
theorem len1 (v:V):[v].length=1:=rfl
attribute [go_sem] Bj Bg agw ao2 PS List.map_nil len1 ao1 aaQ implies_true eq_self
inductive Ty where
 |int (k:IntKind)
 |bool
 |str
 |slice (t:Ty)
 |st (n:Nat)
 deriving DecidableEq
inductive Cp where
 |any
 |sh
 |nil
 |full
 |own (t:Nat)
structure Vec (n:Nat) where
 l:List Int
 h:l.length=n
def Vec.set {n:Nat}(v:Vec n)(i y:Int):Vec n:=⟨v.l.set i.toNat y,by rw[List.length_set,v.h]⟩
def Vec.rep (n:Nat)(y:Int):Vec n:=⟨List.replicate n y,List.length_replicate⟩
def Vec.lit (n:Nat)(l:List Int):Vec n:=if h:l.length=n then ⟨l,h⟩ else Vec.rep n 0
inductive YS where
 |i (k:IntKind)
 |a (k:IntKind) (n:Nat)
inductive Sg where
 |i (k:IntKind) (x:Int)
 |a (k:IntKind) (n:Nat) (v:Vec n)
def Sg.w:Sg->Nat
 |.i _ _=>1|.a _ n _=>n
def Sg.vs:Sg->List V
 |.i k x=>[.int k x]|.a k _ v=>v.l.map (V.int k)
def UW:List Sg->List V
 | []=>[]|s::l=>s.vs++UW l
def adI:YS->Type
 |.i _=>Int|.a _ n=>Vec n
def acV:List YS->Type
 | []=>Unit| [k]=>adI k|k::h::l=>adI k×acV (h::l)
def up1:(k:YS)->adI k->Sg
 |.i k,x=>.i k x|.a k n,x=>.a k n x
def upG:(l:List YS)->acV l->List Sg
 | [],_=>[]| [k],x=>[up1 k x]|k::h::l,p=>up1 k p.1::upG (h::l) p.2
def agx {n m:Nat}(v:Vec n):Option (Vec m):=if h:n=m then some (h▸v) else none
def pk1:(k:YS)->Sg->Option (adI k)
 |.i k,.i k' x=>if k'=k then some x else none|.a k n,.a k' _ v=>if k'=k then agx (m:=n) v else none|_,_=>none
def RX:(l:List YS)->List Sg->Option (acV l)
 | []=>fun vs=>match vs with
   | []=>some ()|_::_=>none
 | [k]=>fun vs=>match vs with
   | [v]=>pk1 k v|_=>none
 |k::h::l=>fun vs=>match vs with
  | []=>none|v::vs=>match pk1 k v with
   |some x=>match RX (h::l) vs with
    |some p=>some (x,p)|none=>none
   |none=>none
section
variable (T:Nat->Type)
def Den:Ty->Type
 |.int _=>Int|.bool=>Bool|.str=>List UInt8|.slice t=>List (Den t)|.st n=>T n
def VU:List Ty->Type
 | []=>Unit| [t]=>Den T t|t::u::l=>Den T t×VU (u::l)
inductive TV where
 |int (k:IntKind) (n:Int)
 |bool (b:Bool)
 |TN (b:Bool)
 |str (s:List UInt8)
 |Tq
 |Tm
 |S9
 |SN
 |Uc
 |agg (cs:List TV)
 |Rw (cs:List TV)
 |tX (c:Cp) (t:Ty) (l:List (Den T t))
 |ref (o off:Nat)
 |Q9 (cs:List TV) (off:Nat)
 |RP (o:Nat)
 |Si (k e:Ty) (m:List (Den T k×Den T e))
 |fn (f:Nat) (a b:List TV)
 |opt (j:Nat) (w:Bool) (v:TV)
 |vw (o:Nat) (t:Ty)
 |sub (o:Nat) (t:Ty) (a b:Int)
 |UK (o:Nat) (t:Ty) (i:Int) (off:Nat)
 |sg (ss:List Sg)
 |sv (o off:Nat) (k:IntKind) (n:Nat) (lo hi:Option Int)
 |sel (o off:Nat) (k:IntKind) (n:Nat) (i:Int) (m:Nat)
 |gel (k:IntKind) (n:Nat) (v:Vec n) (i:Int)
 |undef
 |gone
inductive Ob where
 |cells (cs:List (TV T))
 |map (k e:Ty) (m:List (Den T k×Den T e))
 |smap (ks vs:List (TV T))
 |arr (t:Ty) (l:List (Den T t))
 |sg (ss:List Sg)
 |gone
 |ro (b:Ob)
structure MS where
 fr:List (Nat×TV T)
 ob:List (Nat×Ob T)
inductive Sk where
 |d (t:Ty)
 |l (c:Cp) (t:Ty)
 |agg (l:List Sk)
 |ref (o off:Nat)
 |Q9 (l:List Sk) (off:Nat)
 |RP (o:Nat)
 |Si (k e:Ty)
 |fn (f:Nat) (a b:List Sk)
 |Uc
 |vw (o:Nat) (t:Ty)
 |sub (o:Nat) (t:Ty)
 |sg (l:List YS)
 |undef
mutual
def WI:Sk->Type
 |.d t=>Den T t|.l _ t=>List (Den T t)|.agg l=>FN l|.ref _ _=>Unit|.Q9 l _=>FN l|.RP _=>Unit|.Si k e=>List (Den T k×Den T e)|.fn _ a b=>FN a×FN b|.Uc=>Unit|.vw _ _=>Unit|.sub _ _=>Int×Int|.sg l=>acV l|.undef=>Unit
def FN:List Sk->Type
 | []=>Unit| [k]=>WI k|k::h::l=>WI k×FN (h::l)
end
inductive R8 where
 |cells (l:List Sk)
 |st (n:Nat)
 |map (k e:Ty)
 |arr (t:Ty)
 |sg (l:List YS)
def ab8:R8->Type
 |.cells l=>FN T l|.st n=>T n|.map k e=>List (Den T k×Den T e)|.arr t=>List (Den T t)|.sg l=>acV l
def TP:List (Nat×R8)->Type
 | []=>Unit| [(_,k)]=>ab8 T k| (_,k)::h::l=>ab8 T k×TP (h::l)
def acW:List (Nat×Sk)->Type
 | []=>Unit| [(_,k)]=>WI T k| (_,k)::h::l=>WI T k×acW (h::l)
structure Shape where
 sl:List (Nat×Sk)
 ob:List (Nat×R8)
def WJ:Shape->Type
 | ⟨s,[]⟩=>acW T s| ⟨s,o::os⟩=>acW T s×TP T (o::os)
def Out:List (Ex×Shape)->Type
 | []=>Empty| [(_,s)]=>WJ T s| (_,s)::h::l=>WJ T s⊕Out (h::l)
end
structure TQ where
 T:Nat->Type
 d:(n:Nat)->T n
 lf:Nat->List Ty
 to:(n:Nat)->VU T (lf n)->T n
 of:(n:Nat)->T n->VU T (lf n)
 enc:(n:Nat)->T n->V
 ty:TypeId->Option Ty
 gl:Nat->Option ((k:IntKind)×(n:Nat)×Vec n)
structure FR (R:TQ) where
 args:List Sk
 res:List Sk
 F:FN R.T args->Option (FN R.T res)
 d:FN R.T res
 own:Bool:=false
structure FI (R:TQ) where
 a:List Sk
 b:List Sk
 el:List Sk
 F:FN R.T a->FN R.T b->Option (List (FN R.T el))
def F0:Nat:=1000000
structure FM (R:TQ) where
 args:List Sk
 obs:List (Nat×R8)
 res:List Sk
 F:FN R.T args->TP R.T obs->Option (FN R.T res×TP R.T obs)
structure IR (R:TQ) where
 it:Nat->List (FI R)
 im:Nat->List (FM R)
structure Note where
 K:List Nat
 O:List Nat
 sh:Shape
 outs:List (Ex×Shape)
structure Rs where
 loops:List (Nat×Note)
 joins:List (Nat×Note)
def look {U:Type}:List (Nat×U)->Nat->Option U
 | [],_=>none| (j,x)::l,i=>bif Nat.beq j i then some x else look l i
section
variable (R:TQ)
def Rc:(t:Ty)->Den R.T t->V
 |.int k=>fun n=>.int k n
 |.bool=>fun b=>.bool b
 |.str=>fun s=>.str s
 |.slice t=>fun l=>.tX .sh (l.map (Rc t))
 |.st n=>fun x=>R.enc n x
def encs:(l:List Ty)->VU R.T l->List V
 | [],_=>[]| [t],x=>[Rc R t x]|t::u::l,p=>Rc R t p.1::encs (u::l) p.2
def RU:Ty->Nat
 |.st n=>(R.lf n).length|_=>1
def dfl:(t:Ty)->Den R.T t
 |.int _=>(0:Int)|.bool=>false|.str=>([]:List UInt8)|.slice t=>([]:List (Den R.T t))|.st n=>R.d n
def tv1 (c:Cp):(t:Ty)->Den R.T t->TV R.T
 |.int k=>fun n=>.int k n
 |.bool=>fun b=>.bool b
 |.str=>fun s=>.str s
 |.slice t=>fun l=>.tX c t l
 |.st _=>fun _=>.undef
def Um (c:Cp):(l:List Ty)->VU R.T l->List (TV R.T)
 | [],_=>[]| [t],x=>[tv1 R c t x]|t::u::l,p=>tv1 R c t p.1::Um c (u::l) p.2
def Tn (c:Cp):(t:Ty)->Den R.T t->TV R.T
 |.st n=>fun x=>.agg (Um R c (R.lf n) (R.of n x))
 |.int k=>fun n=>.int k n
 |.bool=>fun b=>.bool b
 |.str=>fun s=>.str s
 |.slice t=>fun l=>.tX c t l
def WK {t u:Ty}(l:List (Den R.T t)):Option (List (Den R.T u)):=if h:t=u then some (h▸l) else none
def agy (k:IntKind):TV R.T->Option Int
 |.int k' n=>if k=k' then some n else none|_=>none
def agz:TV R.T->Option Bool
 |.bool b=>some b|.TN b=>some b|_=>none
def agA:TV R.T->Option (List UInt8)
 |.str s=>some s|_=>none
def agB (t:Ty):TV R.T->Option (List (Den R.T t))
 |.tX _ _ l=>WK R l|.Uc=>some []|_=>none
def X0:(t:Ty)->TV R.T->Option (Den R.T t)
 |.int k=>fun v=>agy R k v
 |.bool=>fun v=>agz R v
 |.str=>fun v=>agA R v
 |.slice t=>fun v=>agB R t v
 |.st _=>fun _=>none
def hd1:List (TV R.T)->TV R.T
 | [v]=>v|_=>.gone
def uns:(l:List Ty)->List (TV R.T)->Option (VU R.T l)
 | []=>fun vs=>match vs with
   | []=>some ()|_::_=>none
 | [t]=>fun vs=>X0 R t (hd1 R vs)
 |t::u::l=>fun vs=>match vs with
  | []=>none|v::vs=>match X0 R t v with
   |some x=>match uns (u::l) vs with
    |some p=>some (x,p)|none=>none
   |none=>none
def acX (n:Nat):TV R.T->Option (R.T n)
 |.agg cs=>match uns R (R.lf n) cs with
  |some p=>some (R.to n p)|none=>none
 |_=>none
def WL:(t:Ty)->TV R.T->Option (Den R.T t)
 |.st n=>fun v=>acX R n v
 |.int k=>fun v=>agy R k v
 |.bool=>fun v=>agz R v
 |.str=>fun v=>agA R v
 |.slice t=>fun v=>agB R t v
def TV.cells {T:Nat->Type}:TV T->List (TV T)
 |.agg cs=>cs|v=>[v]
mutual
def UL {T:Nat->Type}(o:Nat):TV T->Bool
 |.ref p _=>Nat.beq p o|.RP p=>Nat.beq p o|.agg cs=>VW o cs|.Rw cs=>VW o cs|.Q9 cs _=>VW o cs|.fn _ a b=>VW o a||VW o b|.opt _ _ v=>UL o v|.vw p _=>Nat.beq p o|.sub p _ _ _=>Nat.beq p o|.UK p _ _ _=>Nat.beq p o|.sv p _ _ _ _ _=>Nat.beq p o|.sel p _ _ _ _ _=>Nat.beq p o|_=>false
def VW {T:Nat->Type}(o:Nat):List (TV T)->Bool
 | []=>false|v::l=>UL o v||VW o l
end
def Ob.UL {T:Nat->Type}(o:Nat):Ob T->Bool
 |.cells cs=>VW o cs|.smap ks vs=>VW o ks||VW o vs|.ro b=>Ob.UL o b|_=>false
mutual
def wk {T:Nat->Type}(t:Nat):TV T->TV T
 |.tX (.own u) ty l=>bif Nat.beq u t then .tX .any ty l else .tX (.own u) ty l|.agg cs=>.agg (wkL t cs)|.Rw cs=>.Rw (wkL t cs)|.Q9 cs off=>.Q9 (wkL t cs) off|.fn f a b=>.fn f (wkL t a) (wkL t b)|.opt j w v=>.opt j w (wk t v)|v=>v
def wkL {T:Nat->Type}(t:Nat):List (TV T)->List (TV T)
 | []=>[]|v::l=>wk t v::wkL t l
end
def Ob.wk {T:Nat->Type}(t:Nat):Ob T->Ob T
 |.cells cs=>.cells (wkL t cs)|.smap ks vs=>.smap (wkL t ks) (wkL t vs)|.ro b=>.ro (Ob.wk t b)|o=>o
def Vs {U:Type}(f:U->U):List (Nat×U)->List (Nat×U)
 | []=>[]| (i,x)::l=>(i,f x)::Vs f l
def TW {U:Type}(i:Nat):List (Nat×U)->List (Nat×U)
 | []=>[]| (j,x)::l=>bif Nat.beq j i then TW i l else (j,x)::TW i l
def MS.wk {T:Nat->Type}(t:Nat)(st:MS T):MS T:=⟨Vs (Aq.wk t) st.fr,Vs (Ob.wk t) st.ob⟩
def ain {T:Nat->Type}(j:Nat):TV T->TV T
 |.opt i w v=>bif Nat.beq i j then .gone else .opt i w v|v=>v
def MS.put {T:Nat->Type}(st:MS T)(i:Nat)(v:TV T):MS T:={st with fr:=(i,v)::Vs (ain i) (TW i st.fr)}
def MS.Ti {T:Nat->Type}(st:MS T)(d:Option Nat)(v:TV T):MS T:=match d with
 |some i=>st.put i v|none=>st
def lrn {T:Nat->Type}(j:Nat)(b:Bool):TV T->TV T
 |.opt i w v=>bif Nat.beq i j then (bif (b==w) then v else .undef) else .opt i w v|v=>v
def MS.learn {T:Nat->Type}(st:MS T)(j:Nat)(b:Bool):MS T:={st with fr:=(j,.TN b)::Vs (lrn j b) (TW j st.fr)}
def MS.adL {T:Nat->Type}(st:MS T)(c:Operand)(b:Bool):MS T:=match c with
 |.tmp j=>st.learn j b|_=>st
def acY {T:Nat->Type}(o:Nat)(v:TV T):TV T:=bif UL o v then .gone else v
def acZ {T:Nat->Type}(o:Nat):List (TV T)->List (TV T)
 | []=>[]|v::l=>acY o v::acZ o l
def Ob.kill {T:Nat->Type}(o:Nat):Ob T->Ob T
 |.cells cs=>.cells (acZ o cs)|v=>bif Ob.UL o v then .gone else v
def MS.new {T:Nat->Type}(st:MS T)(o:Nat)(b:Ob T):MS T:=⟨Vs (acY o) st.fr,(o,b)::Vs (Ob.kill o) (TW o st.ob)⟩
def MS.set {T:Nat->Type}(st:MS T)(o:Nat)(b:Ob T):MS T:={st with ob:=(o,b)::TW o st.ob}
def MS.del {T:Nat->Type}(st:MS T)(o:Nat):MS T:={st with ob:=TW o st.ob}
def aip {T:Nat->Type}:Ob T->Ob T
 |.ro b=>aip b|b=>b
def WM {T:Nat->Type}(st:MS T)(o:Nat):Option (Ob T):=match look st.ob o with
 |some b=>some (aip b)|none=>none
def VX {T:Nat->Type}:Ob T->Bool
 |.ro _=>true|.gone=>true|_=>false
def Ru (i:Nat):List Nat->Bool
 | []=>false|j::l=>Nat.beq i j||Ru i l
mutual
def solid {T:Nat->Type}(W:List Nat):TV T->Bool
 |.tX (.own _) _ _=>false|.ref o _=>!(Ru o W)|.RP o=>!(Ru o W)|.agg cs=>Yj W cs|.Rw cs=>Yj W cs|.Q9 cs _=>Yj W cs|.fn _ a b=>Yj W a&& Yj W b|.opt _ _ _=>false|.vw o _=>!(Ru o W)|.sub o _ _ _=>!(Ru o W)|.UK o _ _ _=>!(Ru o W)|.sv o _ _ _ _ _=>!(Ru o W)|.sel o _ _ _ _ _=>!(Ru o W)|.gone=>false|_=>true
def Yj {T:Nat->Type}(W:List Nat):List (TV T)->Bool
 | []=>true|v::l=>solid W v&& Yj W l
end
def VY {T:Nat->Type}(W:List Nat):Ob T->Bool
 |.cells cs=>Yj W cs|.map _ _ _=>true|.smap ks vs=>Yj W ks&& Yj W vs|.arr _ _=>true|.sg _=>true|.ro b=>VY W b|.gone=>false
def V8 {U:Type}(p:Nat->U->Bool)(f:U->U)(l:List (Nat×U)):List Nat->List (Nat×U)
 | []=>[]|i::is=>match look l i with
  |some x=>bif p i x then (i,f x)::V8 p f l is else V8 p f l is|none=>V8 p f l is
def wkA {T:Nat->Type}:TV T->TV T
 |.tX (.own _) t l=>.tX .any t l|v=>v
def base {T:Nat->Type}(W K O:List Nat)(mark:Ob T->Ob T)(st:MS T):MS T:=
 ⟨V8 (fun i v=>!(Ru i W)&& solid W (wkA v)) wkA st.fr K,V8 (fun o b=>!(Ru o W)&& VY W b) mark st.ob O⟩
def MS.over {T:Nat->Type}(st b:MS T):MS T:=⟨st.fr++b.fr,st.ob++b.ob⟩
def ac0 {T:Nat->Type}:Value->Option (TV T)
 |.bool b=>some (.TN b)|.int k n=>some (.int k n)|.string s=>some (.str s.data.toList)|.pointer none=>some .Tq|.slice none 0 0=>some .Uc|.map none=>some .S9|.nilFunc=>some .Tm|.nilIface=>some .SN|_=>none
def adM {T:Nat->Type}:List Value->Option (List (TV T))
 | []=>some []|v::l=>match ac0 v with
  |some x=>match adM l with
   |some y=>some (x::y)|none=>none
  |none=>none
def adN {T:Nat->Type}:Value->Option (TV T)
 |.agg cs=>match adM cs.toList with
  |some l=>some (.agg l)|none=>none
 |v=>ac0 v
def agC {T:Nat->Type}(g:List (Nat×Bool)):TV T->Option (TV T)
 |.opt j w v=>match look g j with
  |some u=>some (bif u==w then v else .undef)|none=>none
 |v=>some v
def RV {T:Nat->Type}(g:List (Nat×Bool))(st:MS T):Operand->Option (TV T)
 |.tmp t=>match look st.fr t with
  |some v=>agC g v|none=>none
 |.const v=>adN v|.func f=>some (.fn f [] [])|.global _=>none
def WO {T:Nat->Type}(g:List (Nat×Bool))(st:MS T):List Operand->Option (List (TV T))
 | []=>some []|x::l=>match RV g st x with
  |some v=>match WO g st l with
   |some vs=>some (v::vs)|none=>none
  |none=>none
def adO {T:Nat->Type}(g:List (Nat×Bool))(st:MS T):List (Nat×Operand)->Option (List (Nat×TV T))
 | []=>some []| (i,x)::l=>match RV g st x with
   |some v=>match adO g st l with
    |some vs=>some ((i,v)::vs)|none=>none
   |none=>none
def V9 {U:Type}(l:List U)(a b:Int):List U:=(l.take b.toNat).drop a.toNat
def abB {T:Nat->Type}(st:MS T):TV T->TV T
 |.ref o off=>match WM st o with
  |some (.cells cs)=>.Q9 cs off|_=>.ref o off
 |.RP o=>match WM st o with
  |some (.map k e m)=>.Si k e m|_=>.RP o
 |.vw o t=>match WM st o with
  |some (.arr t' l)=>if t'=t then .tX .sh t' l else .vw o t|_=>.vw o t
 |.sub o t a b=>match WM st o with
  |some (.arr t' l)=>if t'=t then .tX .sh t' (V9 l a b) else .sub o t a b|_=>.sub o t a b
 |v=>v
def aeQ {T:Nat->Type}(st:MS T):List (TV T)->List (TV T)
 | []=>[]|v::l=>abB st v::aeQ st l
def agD {T:Nat->Type}(st:MS T):TV T->TV T
 |.fn f a b=>.fn f (aeQ st a) (aeQ st b)|.agg cs=>.agg (aeQ st cs)|v=>abB st v
def abC {T:Nat->Type}(st:MS T):List (TV T)->List (TV T)
 | []=>[]|v::l=>agD st v::abC st l
def air {T:Nat->Type}:TV T->Bool
 |.agg _=>false|.sg _=>false|.Rw _=>false|.gone=>false|.undef=>false|.opt _ _ _=>false|_=>true
def abD {T:Nat->Type}:List (TV T)->Bool
 | []=>true|v::l=>air v&& abD l
def Yk {T:Nat->Type}:TV T->Bool
 |.gone=>false|.sg _=>false|.opt _ _ _=>false|_=>true
mutual
def Un {T:Nat->Type}:TV T->Bool
 |.int _ _=>true|.bool _=>true|.TN _=>true|.str _=>true|.Tq=>true|.Tm=>true|.S9=>true|.SN=>true|.tX .sh _ _=>true|.agg cs=>Wp cs|.Rw cs=>Wp cs|.Si _ _ _=>true|.Q9 cs _=>Wp cs|.fn _ a b=>Wp a&& Wp b|.sg _=>true|_=>false
def Wp {T:Nat->Type}:List (TV T)->Bool
 | []=>true|v::l=>Un v&& Wp l
end
def YT {T:Nat->Type}:TV T->TV T
 |.tX _ t l=>.tX .sh t l|v=>v
def aeR {T:Nat->Type}:List (TV T)->List (TV T)
 | []=>[]|v::l=>YT v::aeR l
def erM {T:Nat->Type}:TV T->TV T
 |.tX _ t l=>.tX .sh t l|.agg cs=>.agg (aeR cs)|v=>v
def cl1 {T:Nat->Type}:TV T->Bool
 |.tX _ _ _=>true|.Uc=>true|v=>Un v
def agE {T:Nat->Type}:List (TV T)->Bool
 | []=>true|v::l=>cl1 v&& agE l
def clV {T:Nat->Type}:TV T->Bool
 |.agg cs=>agE cs|v=>cl1 v
def ac1 {T:Nat->Type}:List (TV T)->Bool
 | []=>true|v::l=>clV v&& ac1 l
mutual
def Va:Sk->Bool
 |.d _=>true|.l c _=>match c with
  |.any=>true|.sh=>true|_=>false
 |.agg l=>UM l|.Q9 l _=>UM l|.Si _ _=>true|.fn _ a b=>UM a&& UM b|.sg _=>true|_=>false
def UM:List Sk->Bool
 | []=>true|k::l=>Va k&& UM l
def dep:Sk->Nat
 |.agg l=>Yl l+3|.Q9 l _=>Yl l+3|.fn _ a b=>max (Yl a) (Yl b)+3|_=>3
def Yl:List Sk->Nat
 | []=>0|k::l=>max (dep k) (Yl l)
end
def ais:Ty->Bool
 |.int _=>true|.bool=>true|.str=>true|_=>false
def adP:List Sk->Bool
 | []=>true|.d t::l=>ais t&& adP l|.sg _::l=>adP l|_=>false
mutual
def encS:(k:Sk)->WI R.T k->V
 |.d t,x=>Rc R t x|.l _ t,x=>Rc R (.slice t) x|.agg l,x=>.agg (Rj l x)|.Q9 l off,x=>.Q9 (Rj l x) off|.Si k e,x=>.Si (List.map (fun p=>Rc R k p.1) x) (List.map (fun p=>Rc R e p.2) x)
 |.fn f a b,x=>.fn (.func f) (Rj a x.1) (Rj b x.2)|.Uc,_=>.tX .sh []|.ref _ _,_=>Q6|.RP _,_=>Q6|.vw _ _,_=>Q6|.sub _ _,_=>Q6|.sg l,x=>.agg (UW (upG l x))|.undef,_=>Q6
def Rj:(l:List Sk)->FN R.T l->List V
 | [],_=>[]| [k],x=>[encS k x]|k::h::l,p=>encS k p.1::Rj (h::l) p.2
end
def R9:List V->V
 | [v]=>v|vs=>.Rw vs
def adQ:Cp->Cp->Bool
 |_,.any=>true|.sh,.sh=>true|.nil,.nil=>true|.nil,.own _=>true|.full,.own _=>true|.full,.full=>true|.own t,.own u=>Nat.beq t u|_,_=>false
def agF (c:Cp)(t:Ty):TV R.T->Option (List (Den R.T t))
 |.tX c' _ l=>bif adQ c' c then WK R l else none|.Uc=>bif adQ .nil c then some [] else none|_=>none
def adR {k e k' e':Ty}(m:List (Den R.T k'×Den R.T e')):Option (List (Den R.T k×Den R.T e)):=if h:k'=k/\e'=e then some (by rw[<-h.1,<-h.2];exact m) else none
mutual
def pk:(k:Sk)->TV R.T->Option (WI R.T k)
 |.d t=>fun v=>WL R t v
 |.l c t=>fun v=>agF R c t v
 |.agg l=>fun v=>match v with
  |.agg cs=>Ug l cs|_=>none
 |.ref o off=>fun v=>match v with
  |.ref p off'=>bif Nat.beq p o&& Nat.beq off' off then some () else none|_=>none
 |.Q9 l off=>fun v=>match v with
  |.Q9 cs off'=>bif Nat.beq off' off then Ug l cs else none|_=>none
 |.RP o=>fun v=>match v with
  |.RP p=>bif Nat.beq p o then some () else none|_=>none
 |.Si k e=>fun v=>match v with
  |.Si _ _ m=>adR R m|_=>none
 |.fn f a b=>fun v=>match v with
  |.fn f' a' b'=>bif Nat.beq f' f then (match Ug a a' with
   |some x=>match Ug b b' with
    |some y=>some (x,y)|none=>none
   |none=>none) else none
  |_=>none
 |.Uc=>fun v=>match v with
  |.Uc=>some ()|_=>none
 |.vw o t=>fun v=>match v with
  |.vw p t'=>bif Nat.beq p o then (if t'=t then some () else none) else none|_=>none
 |.sub o t=>fun v=>match v with
  |.sub p t' a b=>bif Nat.beq p o then (if t'=t then some (a,b) else none) else none|_=>none
 |.sg l=>fun v=>match v with
  |.sg ss=>RX l ss|_=>none
 |.undef=>fun v=>match v with
  |.undef=>some ()|_=>none
def Ug:(l:List Sk)->List (TV R.T)->Option (FN R.T l)
 | []=>fun vs=>match vs with
   | []=>some ()|_::_=>none
 | [k]=>fun vs=>match vs with
   | [v]=>pk k v|_=>none
 |k::h::l=>fun vs=>match vs with
  | []=>none|v::vs=>match pk k v with
   |some x=>match Ug (h::l) vs with
    |some p=>some (x,p)|none=>none
   |none=>none
end
mutual
def up (c:Cp):(k:Sk)->WI R.T k->TV R.T
 |.d t,x=>Tn R c t x|.l c t,x=>.tX c t x|.agg l,x=>.agg (TH c l x)|.ref o off,_=>.ref o off|.Q9 l off,x=>.Q9 (TH c l x) off|.RP o,_=>.RP o|.Si k e,x=>.Si k e x|.fn f a b,x=>.fn f (TH c a x.1) (TH c b x.2)|.Uc,_=>.Uc|.vw o t,_=>.vw o t|.sub o t,x=>.sub o t x.1 x.2|.sg l,x=>.sg (upG l x)|.undef,_=>.undef
def TH (c:Cp):(l:List Sk)->FN R.T l->List (TV R.T)
 | [],_=>[]| [k],x=>[up c k x]|k::h::l,p=>up c k p.1::TH c (h::l) p.2
end
def pkO:(k:R8)->Ob R.T->Option (ab8 R.T k)
 |.cells l=>fun o=>match o with
  |.cells cs=>Ug R l cs|_=>none
 |.st n=>fun o=>match o with
  |.cells cs=>acX R n (.agg cs)|_=>none
 |.map k e=>fun o=>match o with
  |.map _ _ m=>adR R m|_=>none
 |.arr t=>fun o=>match o with
  |.arr _ l=>WK R l|_=>none
 |.sg l=>fun o=>match o with
  |.sg ss=>RX l ss|_=>none
def U0:(k:R8)->ab8 R.T k->Ob R.T
 |.cells l,x=>.cells (TH R .any l x)|.st n,x=>.cells (Um R .any (R.lf n) (R.of n x))|.map k e,x=>.map k e x|.arr t,x=>.arr t x|.sg l,x=>.sg (upG l x)
def Ym (st:List (Nat×TV R.T)):(l:List (Nat×Sk))->Option (acW R.T l)
 | []=>some ()| [(i,k)]=>match look st i with
   |some v=>pk R k v|none=>none
 | (i,k)::h::l=>match look st i with
   |some v=>match pk R k v with
    |some x=>match Ym st (h::l) with
     |some p=>some (x,p)|none=>none
    |none=>none
   |none=>none
def aeT:(l:List (Nat×Sk))->acW R.T l->List (Nat×TV R.T)
 | [],_=>[]| [(i,k)],x=>[(i,up R .any k x)]| (i,k)::h::l,p=>(i,up R .any k p.1)::aeT (h::l) p.2
def Vt (st:List (Nat×Ob R.T)):(l:List (Nat×R8))->Option (TP R.T l)
 | []=>some ()| [(i,k)]=>match look st i with
   |some v=>pkO R k v|none=>none
 | (i,k)::h::l=>match look st i with
   |some v=>match pkO R k v with
    |some x=>match Vt st (h::l) with
     |some p=>some (x,p)|none=>none
    |none=>none
   |none=>none
def Uy:(l:List (Nat×R8))->TP R.T l->List (Nat×Ob R.T)
 | [],_=>[]| [(i,k)],x=>[(i,U0 R k x)]| (i,k)::h::l,p=>(i,U0 R k p.1)::Uy (h::l) p.2
def pack (st:MS R.T):(s:Shape)->Option (WJ R.T s)
 | ⟨s,[]⟩=>Ym R st.fr s| ⟨s,o::os⟩=>match Ym R st.fr s with
   |some x=>match Vt R st.ob (o::os) with
    |some y=>some (x,y)|none=>none
   |none=>none
def isE {T:Nat->Type}:TV T->Bool
 |.Uc=>true|.tX .nil _ l=>l.isEmpty|.tX .full _ l=>l.isEmpty|_=>false
def X3 {T:Nat->Type}(W:List Nat):List (Nat×Sk)->MS T->MS T
 | [],st=>st| (i,.vw o t)::l,st=>match look st.fr i with
   |some v=>bif isE v&& Ru o W then X3 W l ⟨(i,.vw o t)::(st.new o (.arr t [])).fr,(st.new o (.arr t [])).ob⟩ else X3 W l st|none=>X3 W l st
 |_::l,st=>X3 W l st
def Vk (W:List Nat)(st:MS R.T)(s:Shape):Option (WJ R.T s):=pack R (X3 W s.sl st) s
def unpack:(s:Shape)->WJ R.T s->MS R.T
 | ⟨s,[]⟩,x=>⟨aeT R s x,[]⟩| ⟨s,o::os⟩,x=>⟨aeT R s x.1,Uy R (o::os) x.2⟩
def ac2:Ex->Ex->Bool
 |.normal,.normal=>true|.ret,.ret=>true|.exit i,.exit j=>Nat.beq i j|_,_=>false
def YU (W:List Nat)(e:Ex)(st:MS R.T):(l:List (Ex×Shape))->Option (Out R.T l)
 | []=>none| [(x,s)]=>bif ac2 e x then Vk R W st s else none| (x,s)::h::l=>bif ac2 e x then (match Vk R W st s with
   |some p=>some (.inl p)|none=>none) else (match YU W e st (h::l) with
   |some p=>some (.inr p)|none=>none)
def aaS {β:Type}(b:MS R.T)(k:Ex->MS R.T->Option β):(l:List (Ex×Shape))->Out R.T l->Option β
 | [],_=>none| [(x,s)],p=>k x (b.over (unpack R s p))| (x,s)::h::l,p=>Sum.elim (fun q=>k x (b.over (unpack R s q))) (fun q=>aaS b k (h::l) q) p
end
end Aq
end
