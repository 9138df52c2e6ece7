import Derived.Test.YtgdialomgeijcaaGreatF3904
set_option linter.all false
section
namespace Aq
open Go
section
variable {E:Env}
def cK (S T:R7):Prop:=(∀c fr Y r,S.code c fr Y=some r->T.code c fr Y=some r)/\∀f args d Y r,S.call f args d Y=some r->T.call f args d Y=some r
variable {S T:R7}
theorem vT (h:cK S T){f:FuncId}{args:List V}{v:V}(hc:V4 E S f args=some v):V4 E T f args=some v:=by
 unfold V4 at hc⊢;cases hg:E.Wp f with
 |some g=>simp only[hg] at hc⊢;exact hc|none=>simp only[hg,iP] at hc⊢;obtain⟨x,h1,h2⟩:=hc;exact⟨x,h.2 _ _ _ _ _ h1,h2⟩
theorem AX (h:cK S T){l:Nat}{args:List V}{Y:qd}{r:V×qd}(hc:fF S l args Y=some r):fF T l args Y=some r:=by
 unfold fF at hc⊢;simp only[iP] at hc⊢;obtain⟨r0,hl,hc⟩:=hc;refine⟨r0,hl,?_⟩;split at hc
 .rename_i hst;rw[if_pos hst];simp only[iP] at hc⊢;obtain⟨⟨e1,Rb,Y1⟩,jC,hc⟩:=hc;refine⟨(e1,Rb,Y1),h.1 _ _ _ _ jC,?_⟩;cases e1 with
  |normal=>
   simp only[iP] at hc⊢;obtain⟨r1,hl1,hc⟩:=hc;refine⟨r1,hl1,?_⟩;split at hc
   .rename_i iZ;rw[if_pos iZ];simp only[iP] at hc⊢;obtain⟨x,hb,y,hy,hc⟩:=hc;exact⟨x,h.1 _ _ _ _ hb,y,hy,hc⟩
   .simp at hc
  |exit i=>simp at hc|ret=>simp at hc
 .simp at hc
theorem vU (h:cK S T){d:Nat}{Y:qd}{fv:V}{args:List V}{r:V×qd}(hc:bG E S d Y fv args=some r):bG E T d Y fv args=some r:=by
 unfold bG at hc⊢;split at hc
 .split at hc
  .rename_i hi;simp only[hi,if_true];exact h.2 _ _ _ _ _ hc
  .rename_i hi;simp only[iP] at hc;obtain⟨az,h1,v,h2,h3⟩:=hc;simp only[hi,h1,Option.bind_some,vT h h2];exact h3
 .exact AX h hc
 .simp at hc
theorem JJ (h:cK S T){Y:qd}{st:Nat}{fv:V}{args:List V}{r:V×qd}(hc:iw E S Y st fv args=some r):iw E T Y st fv args=some r:=by unfold iw at hc;cases hc
theorem vV (h:cK S T){fr:Fr}{Y:qd}{st:Nat}{o:Oper}{r:V×Fr×qd}(hc:opC E S fr Y st o=some r):opC E T fr Y st o=some r:=by
 unfold opC at hc⊢;split at hc
 .rename_i c ho;simp only[ho] at hc⊢;split at hc
  .exact hc
  .rename_i f hf;split at hc
   .rename_i aS;simp only[aS,if_true];simp only[Py] at hc⊢;obtain⟨x,h1,h2⟩:=hc;exact⟨x,JJ h h1,h2⟩
   rename_i aS;simp only[aS,if_false,PE];simp only[Py] at hc⊢;obtain⟨x,h1,h2⟩:=hc;exact⟨x,vU h h1,h2⟩
  .simp at hc
 .simp at hc
 .exact hc
theorem rD (h:cK S T)(all:List Oper):∀(os:List Oper)(st:Nat)(fr:Fr)(Y:qd)(r:Fr×qd),opsE E S all st os fr Y=some r->opsE E T all st os fr Y=some r:=by
 intro os;induction os with
 |nil=>intro st fr Y r hc;exact hc|cons o os ih=>
  intro st fr Y r hc;simp only[opsE,iP] at hc⊢;obtain⟨t,h1,h2⟩:=hc;refine⟨t,h1,?_⟩;cases t with
  |true=>simp only[if_true,iP] at h2⊢;obtain⟨x,h3,h4⟩:=h2;exact⟨x,vV h h3,ih _ _ _ _ h4⟩
  |false=>simp only[PE,if_false] at h2⊢;exact ih _ _ _ _ h2
theorem vW (h:cK S T)(all:List Oper):∀(os:List Oper)(st:Nat)(fr:Fr)(Y:qd)(r:List RV×Fr×qd),dU E S all st os fr Y=some r->dU E T all st os fr Y=some r:=by
 intro os;induction os with
 |nil=>intro st fr Y r hc;exact hc|cons o os ih=>
  intro st fr Y r hc;simp only[dU,iP] at hc⊢;obtain⟨t,h1,h2⟩:=hc;refine⟨t,h1,?_⟩;cases t with
  |true=>simp only[if_true,iP,Py] at h2⊢;obtain⟨x,h3,y,h4,h5⟩:=h2;exact⟨x,vV h h3,y,ih _ _ _ _ h4,h5⟩
  |false=>simp only[PE,if_false,Py] at h2⊢;obtain⟨y,h4,h5⟩:=h2;exact⟨y,ih _ _ _ _ h4,h5⟩
theorem pI (h:cK S T){ops:List Oper}{base i:Nat}{fr:Fr}{Y:qd}{r:Fr×qd}(hc:Tf E S ops base i fr Y=some r):Tf E T ops base i fr Y=some r:=by
 unfold Tf at hc⊢;split at hc
 .exact hc
 .simp only[iP] at hc⊢;obtain⟨t,h1,h2⟩:=hc;refine⟨t,h1,?_⟩;cases t with
  |true=>simp only[if_true,Py] at h2⊢;obtain⟨x,h3,h4⟩:=h2;exact⟨x,vV h h3,h4⟩
  |false=>simpa using h2
theorem JK (h:cK S T){ms:List Nat}{ops:List Oper}{base:Nat}{x y:Fr×qd}(hf:Free E S ms ops base x y):Free E T ms ops base x y:=by obtain⟨s,T',W,h0,hn,oV,hloc,hr⟩:=hf;refine⟨s,T',W,h0,hn,oV,fun i hi x hx=>?_,hr⟩;obtain⟨y,h1,h2⟩:=hloc i hi x hx;exact⟨y,pI h h1,h2⟩
theorem iL (h:cK S T):∀(c:Code)(fr:Fr)(Y:qd)(r:Ex×Fr×qd),RB E S c fr Y=some r->RB E T c fr Y=some r:=by
 intro c;induction c with
 |region id ops dr=>
  intro fr Y r hc;simp only[RB] at hc⊢;split at hc
  .rename_i hd;simp only[hd,if_true,iP] at hc⊢;obtain⟨x,h1,h2⟩:=hc;refine⟨x,vW h _ _ _ _ _ _ h1,?_⟩;split at h2
   .rename_i hp;rw[if_pos hp];exact h2
   .rename_i hp;rw[if_neg hp];unfold tO at h2⊢;split at h2
    .rename_i hf;rw[if_pos ⟨hf.1,JK h hf.2⟩];exact h2
    .cases h2
  .rename_i hd;simp only[hd,PE,if_false,Py] at hc⊢;obtain⟨x,h1,h2⟩:=hc;exact⟨x,rD h _ _ _ _ _ _ h1,h2⟩
 |seq a b iha ihb=>
  intro fr Y r hc;simp only[RB,iP] at hc⊢;obtain⟨⟨e,Rb,Y1⟩,h1,h2⟩:=hc;refine⟨(e,Rb,Y1),iha _ _ _ h1,?_⟩;cases e with
  |normal=>exact ihb _ _ _ h2|exit i=>exact h2|ret=>exact h2
 |cond c a b iha ihb=>
  intro fr Y r hc;simp only[RB,iP] at hc⊢;obtain⟨t,h1,h2⟩:=hc;refine⟨t,h1,?_⟩;cases t with
  |true=>simp only[if_true] at h2⊢;exact iha _ _ _ h2|false=>simp only[PE,if_false] at h2⊢;exact ihb _ _ _ h2
 |block id c ih=>intro fr Y r hc;simp only[RB,Py] at hc⊢;obtain⟨x,h1,h2⟩:=hc;exact⟨x,ih _ _ _ h1,h2⟩
 |loop c ih=>
  intro fr Y r hc;simp only[RB,iP] at hc⊢;obtain⟨⟨e,Rb,Y1⟩,h1,h2⟩:=hc;refine⟨(e,Rb,Y1),ih _ _ _ h1,?_⟩;cases e with
  |normal=>exact h.1 _ _ _ _ h2|exit i=>exact h2|ret=>exact h2
 |rangeFunc f ps a b iha ihb=>
  intro fr Y r hc;simp only[RB] at hc⊢;split at hc
  .rename_i hf;rw[if_pos hf];simp only[iP] at hc⊢;obtain⟨x,h1,h2⟩:=hc;exact⟨x,vU h h1,h2⟩
  .simp at hc
 |scope c ih=>intro fr Y r hc;simp only[RB] at hc⊢;exact ih _ _ _ hc|_=>intro fr Y r hc;simpa [RB] using hc
theorem JL (h:cK S T){f:FuncId}{args:List V}{d:Nat}{Y:qd}{r:V×qd}(hc:jT E S f args d Y=some r):jT E T f args d Y=some r:=by
 simp only[jT,iP] at hc⊢;obtain⟨fn,h1,c,h2,h3⟩:=hc;refine⟨fn,h1,c,h2,?_⟩;split at h3
 .rename_i hok;rw[if_pos hok];simp only[iP] at h3⊢;obtain⟨x,h4,h5⟩:=h3;exact⟨x,h.1 _ _ _ _ h4,h5⟩
 .simp at h3
theorem JM:∀n,cK (Rh E n) (Rh E (n+1)):=by
 intro n;induction n with
 |zero=>exact⟨(fun _ _ _ _ h=>by cases h),(fun _ _ _ _ _ h=>by cases h)⟩
 |succ n ih=>exact⟨fun c fr Y r h=>iL ih c fr Y r h,fun f args d Y r h=>JL ih h⟩
theorem cK.refl (S:R7):cK S S:=⟨fun _ _ _ _ h=>h,fun _ _ _ _ _ h=>h⟩
theorem cK.trans {S T UU:R7}(h:cK S T)(g:cK T UU):cK S UU:=⟨fun _ _ _ _ x=>g.1 _ _ _ _ (h.1 _ _ _ _ x),fun _ _ _ _ _ x=>g.2 _ _ _ _ _ (h.2 _ _ _ _ _ x)⟩
theorem bN {n m:Nat}(h:n<=m):cK (Rh E n) (Rh E m):=by
 induction m with
 |zero=>obtain rfl:n=0:=by omega
        exact .refl _
 |succ m ih=>
  by_cases e:n=m+1
  .subst e;exact .refl _
  .exact(ih (by omega)).trans (JM m)
end
section
variable (E:Env)
def OW (all:List Oper)(st:Nat)(os:List Oper)(fr:Fr)(Y:qd)(Q:Fr->qd->Prop):Prop:=
 ∃n fr' Y',opsE E (Rh E n) all st os fr Y=some (fr',Y')/\Q fr' Y'
def bO (ms:List Nat)(all:List Oper)(st:Nat)(os:List Oper)(fr:Fr)(Y:qd)(fs:List RV)(Q:Fr->qd->Prop):Prop:=
 ∃n fs' fr' Y',dU E (Rh E n) all st os fr Y=some (fs',fr',Y')/\Z8 ms (fs++fs')=true/\Q fr' Y'
def CW (c:Code)(fr:Fr)(Y:qd)(Q:Ex->Fr->qd->Prop):Prop:=
 ∃n e fr' Y',RB E (Rh E n) c fr Y=some (e,fr',Y')/\Q e fr' Y'
def Pure (f:FuncId)(args:List V)(v:V):Prop:=∃n,V4 E (Rh E n) f args=some v
def Vb (f:FuncId)(args:List V)(d:Nat)(Y:qd)(Q:V->qd->Prop):Prop:=∃n v Y',(Rh E n).call f args d Y=some (v,Y')/\Q v Y'
end
section
variable {E:Env}{fr:Fr}{Y:qd}
theorem Pure.ok (hE:TR E){f:FuncId}{args:List V}{v:V}(h:Pure E f args v):Uo E f args v:=h.elim fun _ h=>JI hE h
theorem OW.mono {all:List Oper}{st:Nat}{os:List Oper}{Q Q':Fr->qd->Prop}(h:OW E all st os fr Y Q)(hq:∀fr Y,Q fr Y->Q' fr Y):OW E all st os fr Y Q':=
 let ⟨n,fr',Y',h1,h2⟩:=h;⟨n,fr',Y',h1,hq _ _ h2⟩
theorem CW.mono {c:Code}{Q Q':Ex->Fr->qd->Prop}(h:CW E c fr Y Q)(hq:∀e fr Y,Q e fr Y->Q' e fr Y):CW E c fr Y Q':=
 let ⟨n,e,fr',Y',h1,h2⟩:=h;⟨n,e,fr',Y',h1,hq _ _ _ h2⟩
theorem OW.nil {all:List Oper}{st:Nat}{Q:Fr->qd->Prop}(h:Q fr Y):OW E all st [] fr Y Q:=⟨0,fr,Y,rfl,h⟩
theorem OW.op {all:List Oper}{st:Nat}{o:Oper}{os:List Oper}{v:V}{Y1:qd}{Q:Fr->qd->Prop}(hw:Sn all fr o=some true)(hop:∀S,opC E S fr Y st o=some (v,fr,Y1))(h:OW E all (st+1) os (fr.put o.dst v) Y1 Q):OW E all st (o::os) fr Y Q:=by
 obtain⟨n,fr',Y',h1,h2⟩:=h;exact⟨n,fr',Y',by simp only[opsE,hw,Option.bind_some,if_true,hop,h1],h2⟩
theorem OW.skip {all:List Oper}{st:Nat}{o:Oper}{os:List Oper}{Q:Fr->qd->Prop}(hw:Sn all fr o=some false)(h:OW E all (st+1) os (fr.put o.dst FN) Y Q):OW E all st (o::os) fr Y Q:=by obtain⟨n,fr',Y',h1,h2⟩:=h;exact⟨n,fr',Y',by simp only[opsE,hw,Option.bind_some,PE,if_false,h1],h2⟩
theorem vX {d:Nat}{g:FuncId}{a b args az:List V}{v:V}{n:Nat}(hi:E.imp g=false)(has:(a++args++b).mapM (Rf 20 Y)=some az)(hp:V4 E (Rh E n) g az=some v)(hc:((a++args++b).all (fun x=>Q9 (er x))||flat v)=true):bG E (Rh E n) d Y (.fn (.func g) a b) args=some (v,Y):=by
 unfold bG;simp only[hi,PE,if_false,has,Option.bind_some,hp,hc,if_true]
theorem pJ {o:Oper}{f:Operand}{g:FuncId}{a b:List V}(hf:fr.ev E f= .fn (.func g) a b)(h:∀d,o.dst=some d->E.own g d=false):Vl E fr o f=false:=by
 unfold Vl;rw[hf];cases hd:o.dst with
 |none=>rfl|some d=>exact h d hd
def rE (E:Env)(f:FuncId)(az:List V)(sz:Nat)(l:List V):Prop:=∃n v Y1,(Rh E n).call f az 1 qd.init=some (v,Y1)/\∀st Y,(∃c,(c= .nil\/c= .full)/\nX Y st Y1 v=some (.tX c l,Y))\/nX Y st Y1 v=some (.tX (.own sz st) l,Y.R9 st l.length)
theorem rE.of {f:FuncId}{az:List V}{sz:Nat}{l:List V}{n:Nat}{c:Cap}{Y1:qd}(h:(Rh E n).call f az 1 qd.init=some (.tX c l,Y1))(hp:Rz l=true)(hc:c= .nil\/c= .full\/∃s,c= .own sz s/\Y1.top s=l.length):rE E f az sz l:=by
 refine⟨n,_,Y1,h,fun st Y=>?_⟩;rcases hc with rfl|rfl| ⟨s,rfl,ht⟩
 .exact .inl ⟨.nil,.inl rfl,by unfold nX;dsimp only;rw[if_pos hp]⟩
 .exact .inl ⟨.full,.inr rfl,by unfold nX;dsimp only;rw[if_pos hp]⟩
 .exact .inr (by unfold nX;dsimp only;rw[if_pos hp,if_pos ht])
theorem OW.call {all:List Oper}{st:Nat}{o:Oper}{os:List Oper}{v:V}{Q:Fr->qd->Prop}{c:Call}{f:Operand}{g:FuncId}{a b az:List V}(hw:Sn all fr o=some true)(ho:o.op= .call c)(bD:c.callee= .value f)(hf:fr.ev E f= .fn (.func g) a b)(hi:E.imp g=false)(has:(a++c.args.toList.map (fr.ev E)++b).mapM (Rf 20 Y)=some az)(hp:Pure E g az v)(hc:((a++c.args.toList.map (fr.ev E)++b).all (fun x=>Q9 (er x))||flat v)=true)(h:OW E all (st+1) os (fr.put o.dst v) Y Q)(aS:∀d,o.dst=some d->E.own g d=false:=by intros;rfl):OW E all st (o::os) fr Y Q:=by
 obtain⟨n,fr',Y',h1,h2⟩:=h;obtain⟨m,hm⟩:=hp;have hm':=vT (bN (Qg n m)) hm;have h1':=rD (bN (QC n m)) _ _ _ _ _ _ h1;refine⟨max n m,fr',Y',?_,h2⟩;simp only[opsE,hw,Option.bind_some,if_true,opC,ho,bD,pJ hf aS,PE,if_false,hf,vX hi has hm' hc,Option.map_some,h1']
theorem OW.abj {all:List Oper}{st:Nat}{o:Oper}{os:List Oper}{Q:Fr->qd->Prop}{c:Call}{f:Operand}{g:FuncId}{a b:List V}(hw:Sn all fr o=some true)(ho:o.op= .call c)(bD:c.callee= .value f)(hf:fr.ev E f= .fn (.func g) a b)(hi:E.imp g=true)(hp:Vb E g (a++c.args.toList.map (fr.ev E)++b) (fr.d+1) Y (fun v Y1=>OW E all (st+1) os (fr.put o.dst v) Y1 Q))(aS:∀d,o.dst=some d->E.own g d=false:=by intros;rfl):OW E all st (o::os) fr Y Q:=by
 obtain⟨m,v,Y1,hm,n,fr',Y',h1,h2⟩:=hp;have hm':=(bN (Qg n m)).2 _ _ _ _ _ hm;have h1':=rD (bN (QC n m)) _ _ _ _ _ _ h1;refine⟨max n m,fr',Y',?_,h2⟩;have:bG E (Rh E (max n m)) fr.d Y (.fn (.func g) a b) (c.args.toList.map (fr.ev E))=some (v,Y1):=by unfold bG;simp only[hi,if_true];exact hm'
 simp only[opsE,hw,Option.bind_some,if_true,opC,ho,bD,pJ hf aS,PE,if_false,hf,this,Option.map_some,h1']
theorem bO.nil {ms:List Nat}{all:List Oper}{st:Nat}{fs:List RV}{Q:Fr->qd->Prop}(hp:Z8 ms fs=true)(h:Q fr Y):bO E ms all st [] fr Y fs Q:=⟨0,[],fr,Y,rfl,by simpa using hp,h⟩
theorem bO.op {ms:List Nat}{all:List Oper}{st:Nat}{o:Oper}{os:List Oper}{v:V}{Y1:qd}{fs:List RV}{Q:Fr->qd->Prop}(hw:Sn all fr o=some true)(hop:∀S,opC E S fr Y st o=some (v,fr,Y1))(h:bO E ms all (st+1) os (fr.put o.dst v) Y1 (fs++[aU E all fr o true]) Q):bO E ms all st (o::os) fr Y fs Q:=by
 obtain⟨n,fs',fr',Y',h1,h2,h3⟩:=h;exact⟨n,aU E all fr o true::fs',fr',Y',by simp only[dU,hw,Option.bind_some,if_true,hop,h1,Option.map_some],by simpa using h2,h3⟩
theorem bO.skip {ms:List Nat}{all:List Oper}{st:Nat}{o:Oper}{os:List Oper}{fs:List RV}{Q:Fr->qd->Prop}(hw:Sn all fr o=some false)(h:bO E ms all (st+1) os (fr.put o.dst FN) Y (fs++[aU E all fr o false]) Q):bO E ms all st (o::os) fr Y fs Q:=by
 obtain⟨n,fs',fr',Y',h1,h2,h3⟩:=h;exact⟨n,aU E all fr o false::fs',fr',Y',by simp only[dU,hw,Option.bind_some,PE,if_false,h1,Option.map_some],by simpa using h2,h3⟩
theorem bO.call {ms:List Nat}{all:List Oper}{st:Nat}{o:Oper}{os:List Oper}{v:V}{fs:List RV}{Q:Fr->qd->Prop}{c:Call}{f:Operand}{g:FuncId}{a b az:List V}(hw:Sn all fr o=some true)(ho:o.op= .call c)(bD:c.callee= .value f)(hf:fr.ev E f= .fn (.func g) a b)(hi:E.imp g=false)(has:(a++c.args.toList.map (fr.ev E)++b).mapM (Rf 20 Y)=some az)(hp:Pure E g az v)(hc:((a++c.args.toList.map (fr.ev E)++b).all (fun x=>Q9 (er x))||flat v)=true)(h:bO E ms all (st+1) os (fr.put o.dst v) Y (fs++[aU E all fr o true]) Q)(aS:∀d,o.dst=some d->E.own g d=false:=by intros;rfl):bO E ms all st (o::os) fr Y fs Q:=by
 obtain⟨n,fs',fr',Y',h1,h2,h3⟩:=h;obtain⟨m,hm⟩:=hp;have hm':=vT (bN (Qg n m)) hm;have h1':=vW (bN (QC n m)) _ _ _ _ _ _ h1;refine⟨max n m,aU E all fr o true::fs',fr',Y',?_,by simpa using h2,h3⟩;simp only[dU,hw,Option.bind_some,if_true,opC,ho,bD,pJ hf aS,PE,if_false,hf,vX hi has hm' hc,Option.map_some,h1']
theorem bO.abj {ms:List Nat}{all:List Oper}{st:Nat}{o:Oper}{os:List Oper}{fs:List RV}{Q:Fr->qd->Prop}{c:Call}{f:Operand}{g:FuncId}{a b:List V}(hw:Sn all fr o=some true)(ho:o.op= .call c)(bD:c.callee= .value f)(hf:fr.ev E f= .fn (.func g) a b)(hi:E.imp g=true)(hp:Vb E g (a++c.args.toList.map (fr.ev E)++b) (fr.d+1) Y (fun v Y1=>bO E ms all (st+1) os (fr.put o.dst v) Y1 (fs++[aU E all fr o true]) Q))(aS:∀d,o.dst=some d->E.own g d=false:=by intros;rfl):bO E ms all st (o::os) fr Y fs Q:=by
 obtain⟨m,v,Y1,hm,n,fs',fr',Y',h1,h2,h3⟩:=hp;have hm':=(bN (Qg n m)).2 _ _ _ _ _ hm;have h1':=vW (bN (QC n m)) _ _ _ _ _ _ h1;refine⟨max n m,aU E all fr o true::fs',fr',Y',?_,by simpa using h2,h3⟩;have:bG E (Rh E (max n m)) fr.d Y (.fn (.func g) a b) (c.args.toList.map (fr.ev E))=some (v,Y1):=by unfold bG;simp only[hi,if_true];exact hm'
 simp only[dU,hw,Option.bind_some,if_true,opC,ho,bD,pJ hf aS,PE,if_false,hf,this,Option.map_some,h1']
end
def qd.bump (Y:qd)(k:Nat):qd:={Y with next:=Y.next+k}
section
variable {E:Env}{fr:Fr}{Y:qd}
theorem CW.region {id:Nat}{ops:Array Oper}{Q:Ex->Fr->qd->Prop}(h:OW E ops.toList Y.next ops.toList fr (Y.bump ops.toList.length) (fun fr Y=>Q .normal fr Y)):CW E (.region id ops false) fr Y Q:=by obtain⟨n,fr',Y',h1,h2⟩:=h;exact⟨n,.normal,fr',Y',by simp only[RB,PE,if_false];rw[show opsE E (Rh E n) ops.toList Y.next ops.toList fr {Y with next:=Y.next+ops.toList.length}=some (fr',Y') from h1];rfl,h2⟩
theorem CW.draw {id:Nat}{ops:Array Oper}{Q:Ex->Fr->qd->Prop}(he:Vw ops.toList=true)(h:bO E (Vm ops.toList) ops.toList Y.next ops.toList fr (Y.bump ops.toList.length) [] (fun fr Y=>Q .normal fr Y)):CW E (.region id ops true) fr Y Q:=by
 obtain⟨n,fs,fr',Y',h1,h2,h3⟩:=h;refine⟨n,.normal,fr',Y',?_,h3⟩;simp only[RB,if_true];rw[show dU E (Rh E n) ops.toList Y.next ops.toList fr {Y with next:=Y.next+ops.toList.length}=some (fs,fr',Y') from h1];simp only[Option.bind_some,he,Bool.true_and];rw[if_pos (by simpa using h2)]
def SE (E:Env)(b:Code)(Q:Ex->Fr->qd->Prop)(e:Ex)(fr:Fr)(Y:qd):Prop:=match e with
 |.normal=>CW E b fr Y Q|e=>Q e fr Y
theorem CW.seq {a b:Code}{Q:Ex->Fr->qd->Prop}(h:CW E a fr Y (SE E b Q)):CW E (.seq a b) fr Y Q:=by
 obtain⟨n,e,Rb,Y1,h1,h2⟩:=h;cases e with
 |normal=>obtain⟨m,e,fr',Y',h3,h4⟩:=h2;refine⟨max n m,e,fr',Y',?_,h4⟩;simp only[RB,iL (bN (QC n m)) _ _ _ _ h1,Option.bind_some,iL (bN (Qg n m)) _ _ _ _ h3]
 |exit i=>exact⟨n,.exit i,Rb,Y1,by simp only[RB,h1,Option.bind_some],h2⟩|ret=>exact⟨n,.ret,Rb,Y1,by simp only[RB,h1,Option.bind_some],h2⟩
theorem CW.skip {Q:Ex->Fr->qd->Prop}(h:Q .normal fr Y):CW E .skip fr Y Q:=⟨0,.normal,fr,Y,rfl,h⟩
theorem CW.ret {Q:Ex->Fr->qd->Prop}(h:Q .ret fr Y):CW E .ret fr Y Q:=⟨0,.ret,fr,Y,rfl,h⟩
theorem CW.exit {i:Nat}{Q:Ex->Fr->qd->Prop}(h:Q (.exit i) fr Y):CW E (.exit i) fr Y Q:=⟨0,.exit i,fr,Y,rfl,h⟩
theorem CW.cond {c:Operand}{a b:Code}{t:Bool}{Q:Ex->Fr->qd->Prop}(hc:fr.ev E c= .bool t)(ht:t=true->CW E a fr Y Q)(hf:t=false->CW E b fr Y Q):CW E (.cond c a b) fr Y Q:=by
 cases t with
 |true=>obtain⟨n,e,fr',Y',h1,h2⟩:=ht rfl;exact⟨n,e,fr',Y',by simp only[RB,hc,dI,Option.bind_some,if_true,h1],h2⟩
 |false=>obtain⟨n,e,fr',Y',h1,h2⟩:=hf rfl;exact⟨n,e,fr',Y',by simp only[RB,hc,dI,Option.bind_some,PE,if_false,h1],h2⟩
def UN (id:Nat)(Q:Ex->Fr->qd->Prop)(e:Ex)(fr:Fr)(Y:qd):Prop:=match e with
 |.exit i=>if i=id then Q .normal fr Y else Q (.exit i) fr Y|e=>Q e fr Y
theorem CW.block {id:Nat}{c:Code}{Q:Ex->Fr->qd->Prop}(h:CW E c fr Y (UN id Q)):CW E (.block id c) fr Y Q:=by
 obtain⟨n,e,fr',Y',h1,h2⟩:=h;cases e with
 |normal=>exact⟨n,.normal,fr',Y',by simp only[RB,h1,Option.map_some],h2⟩|ret=>exact⟨n,.ret,fr',Y',by simp only[RB,h1,Option.map_some],h2⟩|exit i=>
  simp only[UN] at h2;split at h2
  .rename_i hi;exact⟨n,.normal,fr',Y',by simp only[RB,h1,Option.map_some,if_pos hi],h2⟩
  .rename_i hi;exact⟨n,.exit i,fr',Y',by simp only[RB,h1,Option.map_some,if_neg hi],h2⟩
theorem CW.scope {c:Code}{Q:Ex->Fr->qd->Prop}(h:CW E c fr Y Q):CW E (.scope c) fr Y Q:=by obtain⟨n,e,fr',Y',h1,h2⟩:=h;exact⟨n,e,fr',Y',by simp only[RB,h1],h2⟩
theorem CW.label {l:Nat}{Q:Ex->Fr->qd->Prop}(h:Q .normal fr Y):CW E (.label l) fr Y Q:=⟨0,.normal,fr,Y,by simp only[RB],h⟩
def XE (E:Env)(c:Code)(Q:Ex->Fr->qd->Prop)(e:Ex)(fr:Fr)(Y:qd):Prop:=match e with
 |.normal=>CW E (.loop c) fr Y Q|e=>Q e fr Y
theorem CW.loop {c:Code}{Q:Ex->Fr->qd->Prop}(h:CW E c fr Y (XE E c Q)):CW E (.loop c) fr Y Q:=by
 obtain⟨n,e,Rb,Y1,h1,h2⟩:=h;cases e with
 |normal=>obtain⟨m,e,fr',Y',h3,h4⟩:=h2;refine⟨max n m+1,e,fr',Y',?_,h4⟩;simp only[RB,iL (bN (show n<=max n m+1 by omega)) _ _ _ _ h1,Option.bind_some];exact iL (bN (Qg n m)) _ _ _ _ h3
 |exit i=>exact⟨n,.exit i,Rb,Y1,by simp only[RB,h1,Option.bind_some],h2⟩|ret=>exact⟨n,.ret,Rb,Y1,by simp only[RB,h1,Option.bind_some],h2⟩
def XF (E:Env)(rs:List ResultVar)(R:V->qd->Prop)(e:Ex)(fr:Fr)(Y:qd):Prop:=match e with
 |.exit _=>False|_=>∃vs,rs.mapM (TJ E fr Y)=some vs/\R (match vs with| [v]=>v|vs=>.Rm vs) Y
theorem Vb.of {f:FuncId}{args:List V}{d:Nat}{fn:Func}{c:Code}{R:V->qd->Prop}(hf:E.P.funcs[f]? =some fn)(hb:fn.body=some c)(hok:(decide (args.length<=fn.ntmps)&& aK fn.ntmps c)=true)(h:CW E c {d:=d,om:=E.om f,tm:=fun i=>args.getD i FN} Y (XF E fn.results.toList R)):Vb E f args d Y R:=by
 obtain⟨n,e,fr',Y',h1,h2⟩:=h;have hok':args.length<=fn.ntmps/\aK fn.ntmps c=true:=by simpa using hok
 have key:∀vs,fn.results.toList.mapM (TJ E fr' Y')=some vs->(e= .normal\/e= .ret)->(Rh E (n+2)).call f args d Y=some ((match vs with| [v]=>v|vs=>.Rm vs),Y'):=by intro vs hvs he;show jT E (Rh E (n+1)) f args d Y=_;have h3:(Rh E (n+1)).code c {d:=d,om:=E.om f,tm:=fun i=>args.getD i FN} Y=some (e,fr',Y'):=h1;simp only[jT,hf,hb,Option.bind_some,if_pos hok',h3];rcases he with rfl|rfl<;>simp only[hvs,Option.map_some]<;>rcases vs with _| ⟨x,_| ⟨y,l⟩⟩<;>rfl
 cases e with
 |normal=>obtain⟨vs,h3,h4⟩:=h2;exact⟨n+2,_,Y',key vs h3 (.inl rfl),h4⟩
 |ret=>obtain⟨vs,h3,h4⟩:=h2;exact⟨n+2,_,Y',key vs h3 (.inr rfl),h4⟩
 |exit i=>exact h2.elim
theorem Pure.of {f:FuncId}{args:List V}{v:V}{fn:Func}{c:Code}(hs:E.Wp f=none)(hf:E.P.funcs[f]? =some fn)(hb:fn.body=some c)(hok:(decide (args.length<=fn.ntmps)&& aK fn.ntmps c)=true)(h:CW E c {d:=1,om:=E.om f,tm:=fun i=>args.getD i FN} qd.init (XF E fn.results.toList (fun v0 Y=>Rf 20 Y v0=some v))):Pure E f args v:=by
 obtain⟨n,v0,Y',h1,h2⟩:=Vb.of hf hb hok h;exact⟨n,by simp only[V4,hs,h1,Option.bind_some,h2]⟩
theorem ac2 (fr:Fr)(d:Nat)(v:V):fr.put (some d) v=fr.set d v:=rfl
theorem JN (fr:Fr)(v:V):fr.put none v=fr:=rfl
theorem Vx (fr:Fr)(d:Nat)(v:V):(fr.set d v).tm d=v:=by simp[Fr.set,upd]
theorem Yu (fr:Fr){d t:Nat}(v:V)(h:(t==d)=false):(fr.set d v).tm t=fr.tm t:=by
 have h':¬t=d:=by simpa using h
 simp[Fr.set,upd,h']
theorem X0 (fr:Fr)(d:Nat)(v:V):(fr.set d v).d=fr.d:=rfl
theorem ald (fr:Fr)(d:Nat)(v:V):(fr.set d v).om=fr.om:=rfl
theorem pK (fr:Fr)(t:Nat):fr.ev E (.tmp t)=fr.tm t:=rfl
theorem AY (fr:Fr)(v:Value):fr.ev E (.const v)=(ofValue v).getD (.raw v):=rfl
theorem AZ (fr:Fr)(f:FuncId):fr.ev E (.func f)= .fn (.func f) [] []:=rfl
theorem JO (Y:qd)(k:Nat):(Y.bump k).next=Y.next+k:=rfl
theorem JQ (Y:qd)(l:Aq.Loc)(s:Nat)(o:Tg):(Y.setObj l s o).next=Y.next:=rfl
theorem JR (Y:qd)(s n:Nat):(Y.R9 s n).next=Y.next:=rfl
theorem aex (Y:qd)(s n:Nat):(Y.R9 s n).top s=n:=by simp[qd.R9,upd]
theorem ac3 (Y:qd){s t:Nat}(n:Nat)(h:t≠s):(Y.R9 s n).top t=Y.top t:=by simp[qd.R9,upd,h]
theorem JU (Y:qd)(k:Nat):(Y.bump k).top=Y.top:=rfl
theorem JV (Y:qd)(l:Aq.Loc)(s:Nat)(o:Tg):(Y.setObj l s o).top=Y.top:=rfl
theorem A8 {l l':Aq.Loc}(h:fQ l l'=false):¬l=l':=by rintro rfl;simp[fQ] at h
theorem vY (a b c d:Nat):fQ (a,b) (c,d)=(b==d&& a==c):=rfl
theorem aac (Y:qd)(l:Aq.Loc)(s:Nat)(cs:List V):(Y.setObj l s (.cells cs)).Rs l s=some cs:=by simp[qd.setObj,qd.Rs,upd]
theorem A9 (Y:qd){l l':Aq.Loc}(s s':Nat)(o:Tg)(h:fQ l l'=false):(Y.setObj l' s' o).Rs l s=Y.Rs l s:=by have h':=A8 h;simp[qd.setObj,qd.Rs,upd,h']
theorem JW (Y:qd)(k:Nat)(l:Aq.Loc)(s:Nat):(Y.bump k).Rs l s=Y.Rs l s:=rfl
theorem JX (Y:qd)(t n:Nat)(l:Aq.Loc)(s:Nat):(Y.R9 t n).Rs l s=Y.Rs l s:=rfl
theorem map_eq (Y:qd)(l:Aq.Loc)(s:Nat)(ks vs:List V):(Y.setObj l s (.map ks vs)).aW l s=some (ks,vs):=by simp[qd.setObj,qd.aW,upd]
theorem Ba (Y:qd){l l':Aq.Loc}(s s':Nat)(o:Tg)(h:fQ l l'=false):(Y.setObj l' s' o).aW l s=Y.aW l s:=by have h':=A8 h;simp[qd.setObj,qd.aW,upd,h']
theorem JY (Y:qd)(k:Nat)(l:Aq.Loc)(s:Nat):(Y.bump k).aW l s=Y.aW l s:=rfl
theorem JZ (Y:qd)(t n:Nat)(l:Aq.Loc)(s:Nat):(Y.R9 t n).aW l s=Y.aW l s:=rfl
end
def Is {U:Type}(a b:U):Prop:=a=b
theorem Is.rfl {U:Type}{a:U}:Is a a:=Eq.refl a
def iv (n:Int):V:=.int .i64 n
def lv {U:Type}(f:U->V)(l:List U):V:=.tX .sh (l.map f)
theorem Bb {U:Type}{f:U->V}(h:∀x,Q9 (f x)=true):∀l:List U,Rz (l.map f)=true
 | []=>by simp[Rz]|a::l=>by simp[Rz,h a,Bb h l]
theorem rF {U:Type}{f:U->V}(h:∀x,Q9 (f x)=true)(l:List U):Q9 (.tX .sh (l.map f))=true:=by simp only[Q9];exact Bb h l
theorem X3 {U:Type}{f:U->V}(h:∀x,Q9 (f x)=true)(l:List U):Q9 (lv f l)=true:=rF h l
theorem J2 (n:Int):Q9 (iv n)=true:=by simp[iv,Q9]
theorem aad (l:List (List UInt8)):Q9 (lv V.str l)=true:=X3 (fun _=>by simp[Q9]) l
theorem aae (l:List Int):Q9 (lv iv l)=true:=X3 J2 l
theorem aaI (k:IntKind)(l:List Int):Q9 (lv (V.int k) l)=true:=X3 (fun _=>by simp[Q9]) l
theorem aaJ (l:List Bool):Q9 (lv V.bool l)=true:=X3 (fun _=>by simp[Q9]) l
attribute [go_sem] aad aae aaI aaJ
def Fb {U:Type}(l:List U)(i:Int):Option U:=if 0<=i/\i<l.length then l[i.toNat]? else none
def XG (P:Program)(t:TypeId):Bool:=match P.underlying t with
 |some (.slice _)=>true|_=>false
def af4 (P:Program)(t:TypeId):Bool:=match P.underlying t with
 |some .string=>true|_=>false
section
variable {E:Env}{fr:Fr}{Y:qd}
def NQ (Q:Ex->Fr->qd->Prop)(fr:Fr)(Y:qd):Prop:=Q .normal fr Y
theorem NQ.i {Q:Ex->Fr->qd->Prop}(h:Q .normal fr Y):NQ Q fr Y:=h
theorem SE.n {b:Code}{Q:Ex->Fr->qd->Prop}(h:CW E b fr Y Q):SE E b Q .normal fr Y:=h
theorem SE.x {b:Code}{i:Nat}{Q:Ex->Fr->qd->Prop}(h:Q (.exit i) fr Y):SE E b Q (.exit i) fr Y:=h
theorem SE.r {b:Code}{Q:Ex->Fr->qd->Prop}(h:Q .ret fr Y):SE E b Q .ret fr Y:=h
theorem UN.n {id:Nat}{Q:Ex->Fr->qd->Prop}(h:Q .normal fr Y):UN id Q .normal fr Y:=h
theorem UN.r {id:Nat}{Q:Ex->Fr->qd->Prop}(h:Q .ret fr Y):UN id Q .ret fr Y:=h
theorem UN.hit {id:Nat}{Q:Ex->Fr->qd->Prop}(h:Q .normal fr Y):UN id Q (.exit id) fr Y:=by simp only[UN,if_true];exact h
theorem XE.n {c:Code}{Q:Ex->Fr->qd->Prop}(h:CW E (.loop c) fr Y Q):XE E c Q .normal fr Y:=h
theorem XE.x {c:Code}{i:Nat}{Q:Ex->Fr->qd->Prop}(h:Q (.exit i) fr Y):XE E c Q (.exit i) fr Y:=h
theorem XE.r {c:Code}{Q:Ex->Fr->qd->Prop}(h:Q .ret fr Y):XE E c Q .ret fr Y:=h
theorem CW.aaK {c:Operand}{a b:Code}{Q:Ex->Fr->qd->Prop}(hc:Is (fr.ev E c) (.bool true))(h:CW E a fr Y Q):CW E (.cond c a b) fr Y Q:=CW.cond hc (fun _=>h) (fun h=>by cases h)
theorem CW.aaL {c:Operand}{a b:Code}{Q:Ex->Fr->qd->Prop}(hc:Is (fr.ev E c) (.bool false))(h:CW E b fr Y Q):CW E (.cond c a b) fr Y Q:=CW.cond hc (fun h=>by cases h) (fun _=>h)
theorem OW.o1 {all:List Oper}{st:Nat}{d:Tmp}{op:Op}{ty:TypeId}{pos:String}{Tz:Array Edge}{gd:Option (Nat×Bool)}{os:List Oper}{v:V}{Y1:qd}{Q:Fr->qd->Prop}(hw:Is (Sn all fr ⟨some d,op,ty,pos,Tz,gd⟩) (some true))(hop:∀S,Is (opC E S fr Y st ⟨some d,op,ty,pos,Tz,gd⟩) (some (v,fr,Y1)))(h:OW E all (st+1) os (fr.set d v) Y1 Q):OW E all st (⟨some d,op,ty,pos,Tz,gd⟩::os) fr Y Q:=OW.op hw hop h
theorem OW.o0 {all:List Oper}{st:Nat}{op:Op}{ty:TypeId}{pos:String}{Tz:Array Edge}{gd:Option (Nat×Bool)}{os:List Oper}{v:V}{Y1:qd}{Q:Fr->qd->Prop}(hw:Is (Sn all fr ⟨none,op,ty,pos,Tz,gd⟩) (some true))(hop:∀S,Is (opC E S fr Y st ⟨none,op,ty,pos,Tz,gd⟩) (some (v,fr,Y1)))(h:OW E all (st+1) os fr Y1 Q):OW E all st (⟨none,op,ty,pos,Tz,gd⟩::os) fr Y Q:=OW.op hw hop h
theorem OW.aaf {all:List Oper}{st:Nat}{d:Option Tmp}{f:Operand}{args:Array Operand}{tys:Array TypeId}{ty:TypeId}{pos:String}{Tz:Array Edge}{gd:Option (Nat×Bool)}{os:List Oper}{Q:Fr->qd->Prop}{g:FuncId}{a b az:List V}{v:V}(hp:Pure E g az v)(hf:Is (fr.ev E f) (.fn (.func g) a b))(has:Is ((a++args.toList.map (fr.ev E)++b).mapM (Rf 20 Y)) (some az))(hc:Is ((a++args.toList.map (fr.ev E)++b).all (fun x=>Q9 (er x))||flat v) true)(hw:Is (Sn all fr ⟨d,.call ⟨.value f,args,tys⟩,ty,pos,Tz,gd⟩) (some true))(h:OW E all (st+1) os (fr.put d v) Y Q)(hi:E.imp g=false:=by rfl)(aS:∀d',d=some d'->E.own g d'=false:=by intros;rfl):OW E all st (⟨d,.call ⟨.value f,args,tys⟩,ty,pos,Tz,gd⟩::os) fr Y Q:=
 OW.call hw rfl rfl hf hi has hp hc h aS
theorem XF.one {r:ResultVar}{e:Ex}{v0:V}{R:V->qd->Prop}(he:∀i,e≠ .exit i)(hv:Is (TJ E fr Y r) (some v0))(hr:R v0 Y):XF E [r] R e fr Y:=by
 have h1:[r].mapM (TJ E fr Y)=some [v0]:=by rw[PW,hv];rfl
 cases e with
 |exit i=>exact absurd rfl (he i)|normal=>exact⟨[v0],h1,hr⟩|ret=>exact⟨[v0],h1,hr⟩
theorem XF.Rm {rs:List ResultVar}{e:Ex}{v1 v2:V}{vs:List V}{R:V->qd->Prop}(he:∀i,e≠ .exit i)(hv:Is (rs.mapM (TJ E fr Y)) (some (v1::v2::vs)))(hr:R (.Rm (v1::v2::vs)) Y):XF E rs R e fr Y:=by
 cases e with
 |exit i=>exact absurd rfl (he i)|normal=>exact⟨_,hv,hr⟩|ret=>exact⟨_,hv,hr⟩
theorem Pure.of' {f:FuncId}{args:List V}{v:V}{fn:Func}{c:Code}(rs:List ResultVar)(hf:E.P.funcs[f]? =some fn)(hb:fn.body=some c)(h:∀fr Y,fr.d=1->fr.om=E.om f->(∀i,fr.tm i=args.getD i FN)->CW E c fr Y (XF E rs (fun v0 Y=>Rf 20 Y v0=some v)))(hrs:fn.results.toList=rs:=by rfl)(hok:(decide (args.length<=fn.ntmps)&& aK fn.ntmps c)=true:=by rfl)(hs:E.Wp f=none:=by rfl):Pure E f args v:=
 Pure.of hs hf hb hok (by rw[hrs];exact h _ _ rfl rfl (fun _=>rfl))
theorem Ux {n:Nat}{x:V}(h:Q9 x=true):Rf (n+1) Y x=some x:=by unfold Rf;simp only[h,if_true]
theorem vZ (n:Nat)(k:IntKind)(i:Int):Rf (n+1) Y (.int k i)=some (.int k i):=Ux (by simp[Q9])
theorem aey (n:Nat)(b:Bool):Rf (n+1) Y (.bool b)=some (.bool b):=Ux (by simp[Q9])
theorem wh (n:Nat)(s:List UInt8):Rf (n+1) Y (.str s)=some (.str s):=Ux (by simp[Q9])
theorem Yv {n:Nat}{U:Type}{f:U->V}(c:Cap)(l:List U)(h:∀x,Q9 (f x)=true):Rf (n+2) Y (.tX c (l.map f))=some (lv f l):=by
 by_cases hp:Q9 (.tX c (l.map f))=true
 .rw[Ux hp];cases c<;>simp only[Q9,PE] at hp;rfl
 .unfold Rf;simp only[hp,if_false,PE];have:(l.map f).mapM (Rf (n+1) Y)=some (l.map f):=by
   induction l with
   |nil=>simp|cons a l ih=>simp[h a,Ux,ih (by cases c<;>simp_all[Q9,Rz])]
  rw[this];rfl
theorem J3 (k:IntKind)(i:Int):er (.int k i)= .int k i:=rfl
theorem J4 (b:Bool):er (.bool b)= .bool b:=rfl
theorem J5 (s:List UInt8):er (.str s)= .str s:=rfl
theorem J6 {U:Type}(f:U->V)(l:List U):er (lv f l)=lv f l:=rfl
theorem J7 (c:Cap)(l:List V):er (.tX c l)= .tX .sh l:=rfl
theorem J8 (n:Int):iv n= .int .i64 n:=rfl
theorem wm (k:IntKind)(i:Int):Q9 (.int k i)=true:=by simp[Q9]
theorem wo (b:Bool):Q9 (.bool b)=true:=by simp[Q9]
theorem Bc (s:List UInt8):Q9 (.str s)=true:=by simp[Q9]
theorem wu {P:Program}{U:Type}{t:TypeId}{c:Cap}{l:List U}{f:U->V}{k:IntKind}{i:Int}:
 Vk P t (.tX c (l.map f)) (.int k i)=if XG P t then (UE P t).bind fun e=>(RN P e).bind fun sz=>(Fb l i).bind fun x=>if (f x).cells.length=sz then some (.Q5 (f x).cells 0) else none else none:=by
 unfold Vk XG UE;cases hu:P.underlying t with
 |none=>rfl|some u=>
  cases u<;>try rfl
  rename_i e;simp only[if_true,Option.bind_some];cases RN P e with
  |none=>rfl|some sz=>
   simp only[Option.bind_some,idx,fu,PY,Fb];split
   .rename_i h;simp only[Option.bind_some,List.getElem?_map];cases l[i.toNat]? with
    |none=>rfl|some x=>rfl
   .rfl
theorem aez {P:Program}{U:Type}{t:TypeId}{l:List U}{f:U->V}{k:IntKind}{i:Int}:
 Vk P t (lv f l) (.int k i)=if XG P t then (UE P t).bind fun e=>(RN P e).bind fun sz=>(Fb l i).bind fun x=>if (f x).cells.length=sz then some (.Q5 (f x).cells 0) else none else none:=wu
theorem J9 {P:Program}{t:TypeId}{v:V}(h1:U9 P t=some false)(h2:RN P t=some 1):TF P t [v] 0=some v:=by simp[TF,h1,h2,jm]
theorem Ka {t:TypeId}{U:Type}(f:U->V)(l:List U)(h:XG E.P t=true):fP E Y t (lv f l)=some l.length:=by
 unfold XG at h;unfold fP;split at h
 .rename_i e he;rw[he];simp[lv]
 .simp at h
end
section
variable {E:Env}{S:R7}{fr:Fr}{Y:qd}{st:Nat}{d:Option Tmp}{ty:TypeId}{pos:String}{Tz:Array Edge}{gd:Option (Nat×Bool)}
theorem Kc (all:List Oper)(op:Op):Sn all fr ⟨d,op,ty,pos,Tz,none⟩=some true:=rfl
def Bd (want:Bool):V->Option Bool
 |.bool b=>some (b==want)|.raw _=>none|_=>some false
theorem Ke (w b:Bool):Bd w (.bool b)=some (b==w):=rfl
theorem Kg (w:Bool):Bd w FN=some false:=rfl
theorem Kh (cs:List V):V.cells (.agg cs)=cs:=rfl
theorem Ki (k:IntKind)(n:Int):V.cells (.int k n)=[.int k n]:=rfl
theorem Kj (k:IntKind)(n:Int):SK (.int k n)=true:=rfl
theorem Kk (b:Bool):V.cells (.bool b)=[.bool b]:=rfl
theorem Kl (b:Bool):SK (.bool b)=true:=rfl
theorem Km (s:List UInt8):V.cells (.str s)=[.str s]:=rfl
theorem Kn (s:List UInt8):SK (.str s)=true:=rfl
theorem Ko (c:Cap)(l:List V):V.cells (.tX c l)=[.tX c l]:=rfl
theorem Kq (c:Cap)(l:List V):SK (.tX c l)=true:=rfl
theorem Kr (l:Aq.Loc)(s o:Nat):V.cells (.ref l s o)=[.ref l s o]:=rfl
theorem Kt (l:Aq.Loc)(s o:Nat):SK (.ref l s o)=true:=rfl
theorem Ku (cs:List V)(o:Nat):V.cells (.Q5 cs o)=[.Q5 cs o]:=rfl
theorem Kv (cs:List V)(o:Nat):SK (.Q5 cs o)=true:=rfl
theorem Kw (f:Fn)(a b:List V):V.cells (.fn f a b)=[.fn f a b]:=rfl
theorem Ky (f:Fn)(a b:List V):SK (.fn f a b)=true:=rfl
theorem Kz {U:Type}(f:U->V)(l:List U):V.cells (lv f l)=[lv f l]:=rfl
theorem KC:RP []=true:=rfl
theorem Bf (x:V)(l:List V):RP (x::l)=(oneCell x&& RP l):=rfl
theorem KE (k:IntKind)(n:Int):oneCell (.int k n)=true:=rfl
theorem KF (b:Bool):oneCell (.bool b)=true:=rfl
theorem KG (s:List UInt8):oneCell (.str s)=true:=rfl
theorem KH {U:Type}(f:U->V)(l:List U):oneCell (lv f l)=true:=rfl
theorem KJ (c:Cap)(l:List V):oneCell (.tX c l)=true:=rfl
theorem KL (l:Aq.Loc)(s o:Nat):oneCell (.ref l s o)=true:=rfl
theorem KM (cs:List V)(o:Nat):oneCell (.Q5 cs o)=true:=rfl
theorem KN (cs:List V):SK (.agg cs)=true:=rfl
theorem KO {U:Type}(f:U->V)(l:List U):SK (lv f l)=true:=rfl
theorem KQ (x:Operand)(h:Yr E d=false):opC E S fr Y st ⟨d,.move x,ty,pos,Tz,gd⟩=some (fr.ev E x,fr,Y):=by show Option.map _ (if Yr E d=true then iq Y (fr.ev E x) else some (fr.ev E x,Y))=_;rw[if_neg (by rw[h];simp)];rfl
theorem KR (x:Operand):opC E S fr Y st ⟨d,.assign x,ty,pos,Tz,gd⟩=some (fr.ev E x,fr,Y):=rfl
theorem ale (op:BinOp)(t u:TypeId)(x y:Operand):opC E S fr Y st ⟨d,.binOp op t x y u,ty,pos,Tz,gd⟩=(V3 E.P op t (fr.ev E x) (fr.ev E y)).map fun v=>(v,fr,Y):=by simp only[opC,aH];cases V3 E.P op t (fr.ev E x) (fr.ev E y)<;>rfl
theorem KS (op:UnOp)(t:TypeId)(x:Operand):opC E S fr Y st ⟨d,.unOp op t x,ty,pos,Tz,gd⟩=(kS op (fr.ev E x)).map fun v=>(v,fr,Y):=by simp only[opC,aH];cases kS op (fr.ev E x)<;>rfl
theorem KT (t:TypeId)(x:Operand)(f:Nat):opC E S fr Y st ⟨d,.fieldAddr t x f,ty,pos,Tz,gd⟩=(W9 E.P t f).bind fun p=>match fr.ev E x with
 |.ref loc s off=>some (.ref loc s (off+p.1),fr,Y)|.Q5 cs off=>some (.Q5 cs (off+p.1),fr,Y)|_=>none:=by
 simp only[opC,aH];cases W9 E.P t f with
 |none=>rfl|some p=>obtain⟨o,u⟩:=p;simp only[Option.bind_some];cases fr.ev E x<;>rfl
theorem KU (t:TypeId)(x:Operand):opC E S fr Y st ⟨d,.load t x,ty,pos,Tz,gd⟩=(match fr.ev E x with
 |.ref loc s off=>(Y.Rs loc s).bind fun cs=>(TF E.P t cs off).map fun v=>(v,fr,Y)
 |.Q5 cs off=>(TF E.P t cs off).map fun v=>(v,fr,Y)
 |_=>none):=by
 simp only[opC,aH];cases fr.ev E x with
 |ref loc s off=>
  simp only;cases Y.Rs loc s with
  |none=>rfl|some cs=>simp only[Option.bind_some];cases TF E.P t cs off<;>rfl
 |Q5 cs off=>simp only;cases TF E.P t cs off<;>rfl|_=>rfl
theorem aeA (t:TypeId)(x:Operand)(i:Nat):opC E S fr Y st ⟨some i,.box t x,ty,pos,Tz,gd⟩=if XC E t (some i)=true then (if Q9 (er (fr.ev E x))=true/\SK (fr.ev E x)=true then some (.Q5 (er (fr.ev E x)).cells 0,fr,Y) else none) else if RP (fr.ev E x).cells/\SK (fr.ev E x) then some (.ref (fr.d,i) st 0,fr,Y.setObj (fr.d,i) st (.cells (fr.ev E x).cells)) else none:=by
 show Option.map _ (if XC E t (some i)=true then _ else (some (fr.d,i)).bind _)=_;by_cases hz:XC E t (some i)=true
 .simp only[hz,if_true];split<;>rfl
 .simp only[hz,PE,if_false,Option.bind_some];split<;>rfl
theorem KV (t:TypeId)(i:Nat):opC E S fr Y st ⟨some i,.alloc t,ty,pos,Tz,gd⟩=(Ua E.P t).bind fun z=>if RP z.cells then some (.ref (fr.d,i) st 0,fr,Y.setObj (fr.d,i) st (.cells z.cells)) else none:=by
 simp only[opC,aH,Option.map_some,Option.bind_some];cases Ua E.P t with
 |none=>rfl|some z=>simp only[Option.bind_some];split<;>rfl
theorem aeB (t:TypeId)(a x:Operand):opC E S fr Y st ⟨d,.store t a x,ty,pos,Tz,gd⟩=(match fr.ev E a with
 |.ref loc s off=>(Y.Rs loc s).bind fun cs=>
  if some (fr.ev E x).cells.length=RN E.P t/\off+(fr.ev E x).cells.length<=cs.length/\RP (fr.ev E x).cells then some (FN,fr,Y.setObj loc s (.cells (Ti cs off (fr.ev E x).cells))) else none
 |_=>none):=by
 simp only[opC,aH];cases fr.ev E a with
 |ref loc s off=>
  simp only;cases Y.Rs loc s with
  |none=>rfl|some cs=>simp only[Option.bind_some];split<;>rfl
 |_=>rfl
theorem KW (t:TypeId)(x i:Operand):opC E S fr Y st ⟨d,.indexAddr t x i,ty,pos,Tz,gd⟩=(Vk E.P t (fr.ev E x) (fr.ev E i)).map fun v=>(v,fr,Y):=by simp only[opC,aH];cases Vk E.P t (fr.ev E x) (fr.ev E i)<;>rfl
theorem KX (x:Operand)(i:Nat):opC E S fr Y st ⟨d,.extract x i,ty,pos,Tz,gd⟩=(match fr.ev E x with
 |.Rm vs=>(vs[i]?).map fun v=>(v,fr,Y)
 |_=>none):=by
 simp only[opC,aH];cases fr.ev E x with
 |Rm vs=>simp only;cases vs[i]? <;>rfl|_=>rfl
theorem KY (x:Operand)(t:TypeId):opC E S fr Y st ⟨d,.call ⟨.builtin .len, #[x], #[t]⟩,ty,pos,Tz,gd⟩=(fP E Y t (fr.ev E x)).map fun n=>(.int .i64 (n:Nat),fr,Y):=by show (Option.map _ (((#[t]:Array TypeId)[0]?).bind fun t=>(fP E Y t (fr.ev E x)).map fun n=>(V.int .i64 (n:Nat),Y)))=_;rw[show (#[t]:Array TypeId)[0]? =some t from rfl,Option.bind_some];cases fP E Y t (fr.ev E x)<;>rfl
end
attribute [go_sem] PE V3 TQ jQ kS decide_true decide_false List.getElem?_cons_succ List.getElem?_cons_zero beq_true beq_false Bool.not_true Bool.not_false vY Bool.false_and Bool.and_false Bool.true_and Bool.and_true Kc Ke Kg KQ KR ale KS KT KU aeA KV aeB KW KX KY pK AY AZ Vx Yu ac2 JN X0 ald JO JQ JR aac A9 JW JX map_eq Ba JY JZ aex ac3 JU JV J8 J9 Ka wu PY aez vZ aey wh J3 J4 J5 J6 J7 wm wo Bc Option.bind_some Option.map_some Option.getD_some dI ofValue bP if_true if_false Kh Ki Kk Km Kz Ko Kr Ku Kw Kj Kl Kn Kq Kt Kv Ky KC Bf KE KF KG KH KJ KL KM KN KO and_self and_true true_and
def jd:Code->List Nat->Option Code
 |c,[]=>some c|.seq a b,i::l=>if i=0 then jd a l else jd b l|.cond _ a b,i::l=>if i=0 then jd a l else jd b l|.block _ a,_::l=>jd a l|.loop a,_::l=>jd a l|.scope a,_::l=>jd a l|.rangeFunc _ _ a b,i::l=>if i=0 then jd a l else jd b l|_,_=>none
def TG (b:Option Code)(l:List Nat):Option Code:=b.bind fun c=>jd c l
section
variable {E:Env}{fr:Fr}{Y:qd}
def rG (E:Env)(c:Code)(fr:Fr)(Y:qd)(Q:Ex->Fr->qd->Prop):Prop:=CW E (.loop c) fr Y Q
theorem CW.lp {c:Code}{Q:Ex->Fr->qd->Prop}(h:rG E c fr Y Q):CW E (.loop c) fr Y Q:=h
def pO:Code->Nat
 |.region i _ _=>i|.seq a _=>pO a|.loop a=>pO a|.scope a=>pO a|.block _ a=>pO a|_=>0
theorem rG.at (k:Nat){c:Code}{Q:Ex->Fr->qd->Prop}(_h:Is (pO c) k)(h:rG E c fr Y Q):rG E c fr Y Q:=h
theorem Bg {n:Nat}(cs:List V):Rf (n+2) Y (.agg cs)=(cs.mapM (Rf (n+1) Y)).map .agg:=by
 by_cases hp:Q9 (.agg cs)=true
 .rw[Ux hp];have:∀cs:List V,Rz cs=true->cs.mapM (Rf (n+1) Y)=some cs:=by
   intro cs;induction cs with
   |nil=>intro _;rfl|cons a l ih=>intro h;simp only[Rz,Pz] at h;rw[PW,Ux h.1,ih h.2];rfl
  rw[this cs (by simpa [Q9] using hp)];rfl
 .conv=>lhs;unfold Rf
  simp only[hp,if_false,PE]
theorem aeC {n:Nat}(cs:List V):Rf (n+2) Y (.Rm cs)=(cs.mapM (Rf (n+1) Y)).map .Rm:=by
 by_cases hp:Q9 (.Rm cs)=true
 .rw[Ux hp];have:∀cs:List V,Rz cs=true->cs.mapM (Rf (n+1) Y)=some cs:=by
   intro cs;induction cs with
   |nil=>intro _;rfl|cons a l ih=>intro h;simp only[Rz,Pz] at h;rw[PW,Ux h.1,ih h.2];rfl
  rw[this cs (by simpa [Q9] using hp)];rfl
 .conv=>lhs;unfold Rf
  simp only[hp,if_false,PE]
end
def aaM (P:Program)(Y:qd)(st:Nat)(t u:TypeId)(x y:V):Option (V×qd):=
 match P.underlying u with
 |some (.int _)=>bT P false true Y st none t x y|some (.slice _)|some .string=>bT P false false Y st none t x y|_=>none
theorem KZ {P:Program}{z:Bool}{Y:qd}{st:Nat}{loc:Option Loc}{t:TypeId}{c:Cap}{l:List V}{y:V}:bT P false z Y st loc t (.tX c l) y=bT P false z Y st none t (.tX c l) y:=by
 unfold bT;cases UE P t with
 |none=>rfl|some e=>cases c<;>rfl
section
variable {E:Env}{S:R7}{fr:Fr}{Y:qd}{st:Nat}{d:Option Tmp}{ty:TypeId}{pos:String}{Tz:Array Edge}{gd:Option (Nat×Bool)}
theorem alf {t u:TypeId}{x y:Operand}{c:Cap}{l:List V}(ho:fr.om=false)(hx:fr.ev E x= .tX c l):opC E S fr Y st ⟨d,.call ⟨.builtin .append, #[x,y], #[t,u]⟩,ty,pos,Tz,gd⟩=(aaM E.P Y st t u (.tX c l) (fr.ev E y)).map fun p=>(p.1,fr,p.2):=by
 show Option.map _ ((((#[t,u]:Array TypeId)[0]?).bind fun t=>(((#[t,u]:Array TypeId)[1]?).bind E.P.underlying).bind fun u=>match u with
  |.int _=>bT E.P fr.om true Y st (d.map fun t=>(fr.d,E.cn t)) t (fr.ev E x) (fr.ev E y)
  |.slice _|.string=>bT E.P fr.om false Y st (d.map fun t=>(fr.d,E.cn t)) t (fr.ev E x) (fr.ev E y)
  |_=>none))=_
 show Option.map _ ((E.P.underlying u).bind _)=_;rw[ho,hx];unfold aaM;cases E.P.underlying u with
 |none=>rfl|some u=>
  cases u<;>try rfl
  all_goals (simp only[Option.bind_some];rw[KZ];first|rfl| (generalize bT _ _ _ _ _ _ _ _ _=o;cases o<;>rfl))
end
def abk (P:Program)(t u:TypeId)(sz SA:Nat)(z:V):Prop:=∃e ag,UE P t=some e/\RN P e=some sz/\Yq P e=some SA/\U9 P e=some ag/\Ua P e=some z/\z.cells.length=sz/\0<sz/\(ag||sz==1)=true/\XG P u=true
theorem abk.mk {P:Program}{t u:TypeId}{sz SA:Nat}{z:V}(e:TypeId)(ag:Bool)(h1:UE P t=some e)(h2:RN P e=some sz)(h3:Yq P e=some SA)(h4:U9 P e=some ag)(h5:Ua P e=some z)(h6:z.cells.length=sz)(h7:0<sz)(h8:(ag||sz==1)=true)(h9:XG P u=true):abk P t u sz SA z:=⟨e,ag,h1,h2,h3,h4,h5,h6,h7,h8,h9⟩
def XH (sz:Nat)(l:List V):Bool:=l.all fun v=>v.cells.length==sz&& RP v.cells
theorem apm {U:Type}{f:U->V}{sz:Nat}(h:∀x,(f x).cells.length=sz/\RP (f x).cells=true)(l:List U):XH sz (l.map f)=true:=by simp[XH,h]
theorem wB {sz:Nat}{l:List V}(h:XH sz l=true):dH sz l=true:=by
 cases l with
 |nil=>rfl|cons a l=>simp[XH] at h;simp[dH,h.1.1]
theorem K4 {sz:Nat}{l:List V}(h:XH sz l=true):l.all (fun v=>RP v.cells)=true:=by simp[XH] at h;simpa using fun x hx=>(h x hx).2
theorem Bh {P:Program}{Y:qd}{st t u sz SA:Nat}{z:V}{x:V}{c2:Cap}{ys:List V}(ha:abk P t u sz SA z)(hy:XH sz ys=true):
 aaM P Y st t u x (.tX c2 ys)=match x with
 |.tX c l=>if Sl (l.length+ys.length) SA=true/\dH sz l=true then match c with
  |.own n s=>if n=sz/\Y.top s=l.length then some (.tX (.own n s) (l++ys),Y.R9 s (l.length+ys.length)) else none|.nil|.full=>some (.tX (.own sz st) (l++ys),Y.R9 st (l.length+ys.length))|_=>none else none
 |_=>aaM P Y st t u x (.tX c2 ys):=by
 obtain⟨e,ag,h1,h2,h3,h4,h5,h6,h7,h8,h9⟩:=ha;cases x<;>try rfl
 rename_i c l;unfold XG at h9;split at h9
 .rename_i e' he;simp only[aaM,he,bT,h1,h2,h3,h4,h5,Option.bind_some,mh,true_and,if_pos (show z.cells.length=sz/\0<sz/\(ag||sz==1)=true from ⟨h6,h7,h8⟩),fE,wB hy,if_true,K4 hy];cases c<;>rfl
 .simp at h9
theorem apn {P:Program}{Y:qd}{st t u s sz SA:Nat}{z:V}{l:List V}{c2:Cap}{ys:List V}(ha:abk P t u sz SA z)(hy:XH sz ys=true)(hl:XH sz l=true)(hr:Sl (l.length+ys.length) SA=true)(ht:Y.top s=l.length):aaM P Y st t u (.tX (.own sz s) l) (.tX c2 ys)=some (.tX (.own sz s) (l++ys),Y.R9 s (l.length+ys.length)):=by
 rw[Bh ha hy];simp only[hr,wB hl,and_self,if_true,ht]
theorem apo {P:Program}{Y:qd}{st t u sz SA:Nat}{z:V}{l:List V}{c2:Cap}{ys:List V}(ha:abk P t u sz SA z)(hy:XH sz ys=true)(hl:XH sz l=true)(hr:Sl (l.length+ys.length) SA=true):aaM P Y st t u (.tX .nil l) (.tX c2 ys)=some (.tX (.own sz st) (l++ys),Y.R9 st (l.length+ys.length)):=by
 rw[Bh ha hy];simp only[hr,wB hl,and_self,if_true]
section
variable {E:Env}{S:R7}{fr:Fr}{Y:qd}{st:Nat}{d:Option Tmp}{ty:TypeId}{pos:String}{Tz:Array Edge}{gd:Option (Nat×Bool)}
theorem alg (t:TypeId)(n:Nat)(l:List (Nat×Operand))(h:bsM E d=false):opC E S fr Y st ⟨d,.buildSlice t n l.toArray,ty,pos,Tz,gd⟩=(aaG E t n (l.map fun p=>(p.1,fr.ev E p.2))).map fun v=>(v,fr,Y):=by unfold opC;dsimp only;unfold aH;dsimp only;rw[h,if_neg (by simp)];cases aaG E t n (l.map fun p=>(p.1,fr.ev E p.2))<;>rfl
end
section
variable {E:Env}{S:R7}{fr:Fr}{Y:qd}{st:Nat}{d:Option Tmp}{ty:TypeId}{pos:String}{Tz:Array Edge}{gd:Option (Nat×Bool)}
theorem Bj {P:Program}{t:TypeId}{s:List UInt8}{k:IntKind}{i:Int}(h:af4 P t=true):mg P t (.str s) (.int k i)=(Fb s i).map fun b=>.int .u8 (b.toNat:Nat):=by
 unfold af4 at h;unfold mg;split at h
 .rename_i he;rw[he];simp only[idx,fu,Option.bind_some,Fb];split
  .simp only[Option.bind_some];rfl
  .rfl
 .simp at h
end
theorem len1 (v:V):[v].length=1:=rfl
attribute [go_sem] Bj Bg aeC alg PO List.map_nil len1 alf Yv implies_true eq_self
inductive Ty where
 |int (k:IntKind)
 |bool
 |str
 |slice (t:Ty)
 |st (n:Nat)
 deriving DecidableEq
inductive Cp where
 |any
 |sh
 |nil
 |full
 |own (t:Nat)
structure Vec (n:Nat) where
 l:List Int
 h:l.length=n
def Vec.set {n:Nat}(v:Vec n)(i y:Int):Vec n:=⟨v.l.set i.toNat y,by rw[List.length_set,v.h]⟩
def Vec.rep (n:Nat)(y:Int):Vec n:=⟨List.replicate n y,List.length_replicate⟩
def Vec.lit (n:Nat)(l:List Int):Vec n:=if h:l.length=n then ⟨l,h⟩ else Vec.rep n 0
inductive XI where
 |i (k:IntKind)
 |a (k:IntKind) (n:Nat)
inductive Sg where
 |i (k:IntKind) (x:Int)
 |a (k:IntKind) (n:Nat) (v:Vec n)
def Sg.w:Sg->Nat
 |.i _ _=>1|.a _ n _=>n
def Sg.vs:Sg->List V
 |.i k x=>[.int k x]|.a k _ v=>v.l.map (V.int k)
def Uv:List Sg->List V
 | []=>[]|s::l=>s.vs++Uv l
def abX:XI->Type
 |.i _=>Int|.a _ n=>Vec n
def abl:List XI->Type
 | []=>Unit| [k]=>abX k|k::h::l=>abX k×abl (h::l)
def up1:(k:XI)->abX k->Sg
 |.i k,x=>.i k x|.a k n,x=>.a k n x
def X4:(l:List XI)->abl l->List Sg
 | [],_=>[]| [k],x=>[up1 k x]|k::h::l,p=>up1 k p.1::X4 (h::l) p.2
def aeD {n m:Nat}(v:Vec n):Option (Vec m):=if h:n=m then some (h▸v) else none
def pk1:(k:XI)->Sg->Option (abX k)
 |.i k,.i k' x=>if k'=k then some x else none|.a k n,.a k' _ v=>if k'=k then aeD (m:=n) v else none|_,_=>none
def RY:(l:List XI)->List Sg->Option (abl l)
 | []=>fun vs=>match vs with
   | []=>some ()|_::_=>none
 | [k]=>fun vs=>match vs with
   | [v]=>pk1 k v|_=>none
 |k::h::l=>fun vs=>match vs with
  | []=>none|v::vs=>match pk1 k v with
   |some x=>match RY (h::l) vs with
    |some p=>some (x,p)|none=>none
   |none=>none
section
variable (T:Nat->Type)
def Den:Ty->Type
 |.int _=>Int|.bool=>Bool|.str=>List UInt8|.slice t=>List (Den t)|.st n=>T n
def Vn:List Ty->Type
 | []=>Unit| [t]=>Den T t|t::u::l=>Den T t×Vn (u::l)
inductive TV where
 |int (k:IntKind) (n:Int)
 |bool (b:Bool)
 |Tt (b:Bool)
 |str (s:List UInt8)
 |S9
 |SV
 |SG
 |Sy
 |TK
 |agg (cs:List TV)
 |Rm (cs:List TV)
 |tX (c:Cp) (t:Ty) (l:List (Den T t))
 |ref (o off:Nat)
 |Q5 (cs:List TV) (off:Nat)
 |RA (o:Nat)
 |R3 (k e:Ty) (m:List (Den T k×Den T e))
 |fn (f:Nat) (a b:List TV)
 |opt (j:Nat) (w:Bool) (v:TV)
 |vw (o:Nat) (t:Ty)
 |sub (o:Nat) (t:Ty) (a b:Int)
 |Uq (o:Nat) (t:Ty) (i:Int) (off:Nat)
 |sg (ss:List Sg)
 |sv (o off:Nat) (k:IntKind) (n:Nat) (lo hi:Option Int)
 |sel (o off:Nat) (k:IntKind) (n:Nat) (i:Int) (m:Nat)
 |X5 (k:IntKind) (n:Nat) (v:Vec n) (i:Int)
 |undef
 |gone
inductive Ob where
 |cells (cs:List (TV T))
 |map (k e:Ty) (m:List (Den T k×Den T e))
 |smap (ks vs:List (TV T))
 |arr (t:Ty) (l:List (Den T t))
 |sg (ss:List Sg)
 |gone
 |ro (b:Ob)
structure MS where
 fr:List (Nat×TV T)
 ob:List (Nat×Ob T)
inductive Sk where
 |d (t:Ty)
 |l (c:Cp) (t:Ty)
 |agg (l:List Sk)
 |ref (o off:Nat)
 |Q5 (l:List Sk) (off:Nat)
 |RA (o:Nat)
 |R3 (k e:Ty)
 |fn (f:Nat) (a b:List Sk)
 |TK
 |vw (o:Nat) (t:Ty)
 |sub (o:Nat) (t:Ty)
 |sg (l:List XI)
 |undef
mutual
def V5:Sk->Type
 |.d t=>Den T t|.l _ t=>List (Den T t)|.agg l=>Lv l|.ref _ _=>Unit|.Q5 l _=>Lv l|.RA _=>Unit|.R3 k e=>List (Den T k×Den T e)|.fn _ a b=>Lv a×Lv b|.TK=>Unit|.vw _ _=>Unit|.sub _ _=>Int×Int|.sg l=>abl l|.undef=>Unit
def Lv:List Sk->Type
 | []=>Unit| [k]=>V5 k|k::h::l=>V5 k×Lv (h::l)
end
inductive Sz where
 |cells (l:List Sk)
 |st (n:Nat)
 |map (k e:Ty)
 |arr (t:Ty)
 |sg (l:List XI)
def aaN:Sz->Type
 |.cells l=>Lv T l|.st n=>T n|.map k e=>List (Den T k×Den T e)|.arr t=>List (Den T t)|.sg l=>abl l
def Ue:List (Nat×Sz)->Type
 | []=>Unit| [(_,k)]=>aaN T k| (_,k)::h::l=>aaN T k×Ue (h::l)
def abm:List (Nat×Sk)->Type
 | []=>Unit| [(_,k)]=>V5 T k| (_,k)::h::l=>V5 T k×abm (h::l)
structure Shape where
 sl:List (Nat×Sk)
 ob:List (Nat×Sz)
def V6:Shape->Type
 | ⟨s,[]⟩=>abm T s| ⟨s,o::os⟩=>abm T s×Ue T (o::os)
def Out:List (Ex×Shape)->Type
 | []=>Empty| [(_,s)]=>V6 T s| (_,s)::h::l=>V6 T s⊕Out (h::l)
end
structure Tv where
 T:Nat->Type
 d:(n:Nat)->T n
 lf:Nat->List Ty
 to:(n:Nat)->Vn T (lf n)->T n
 of:(n:Nat)->T n->Vn T (lf n)
 enc:(n:Nat)->T n->V
 ty:TypeId->Option Ty
 gl:Nat->Option ((k:IntKind)×(n:Nat)×Vec n)
structure FR (R:Tv) where
 args:List Sk
 res:List Sk
 F:Lv R.T args->Option (Lv R.T res)
 d:Lv R.T res
 own:Bool:=false
structure FI (R:Tv) where
 a:List Sk
 b:List Sk
 el:List Sk
 F:Lv R.T a->Lv R.T b->Option (List (Lv R.T el))
def F0:Nat:=1000000
structure FM (R:Tv) where
 args:List Sk
 obs:List (Nat×Sz)
 res:List Sk
 F:Lv R.T args->Ue R.T obs->Option (Lv R.T res×Ue R.T obs)
structure IR (R:Tv) where
 it:Nat->List (FI R)
 im:Nat->List (FM R)
structure Note where
 K:List Nat
 O:List Nat
 sh:Shape
 outs:List (Ex×Shape)
structure Rt where
 loops:List (Nat×Note)
 joins:List (Nat×Note)
def look {U:Type}:List (Nat×U)->Nat->Option U
 | [],_=>none| (j,x)::l,i=>bif Nat.beq j i then some x else look l i
section
variable (R:Tv)
def Q8:(t:Ty)->Den R.T t->V
 |.int k=>fun n=>.int k n
 |.bool=>fun b=>.bool b
 |.str=>fun s=>.str s
 |.slice t=>fun l=>.tX .sh (l.map (Q8 t))
 |.st n=>fun x=>R.enc n x
def encs:(l:List Ty)->Vn R.T l->List V
 | [],_=>[]| [t],x=>[Q8 R t x]|t::u::l,p=>Q8 R t p.1::encs (u::l) p.2
def RD:Ty->Nat
 |.st n=>(R.lf n).length|_=>1
def dfl:(t:Ty)->Den R.T t
 |.int _=>(0:Int)|.bool=>false|.str=>([]:List UInt8)|.slice t=>([]:List (Den R.T t))|.st n=>R.d n
def tv1 (c:Cp):(t:Ty)->Den R.T t->TV R.T
 |.int k=>fun n=>.int k n
 |.bool=>fun b=>.bool b
 |.str=>fun s=>.str s
 |.slice t=>fun l=>.tX c t l
 |.st _=>fun _=>.undef
def TS (c:Cp):(l:List Ty)->Vn R.T l->List (TV R.T)
 | [],_=>[]| [t],x=>[tv1 R c t x]|t::u::l,p=>tv1 R c t p.1::TS c (u::l) p.2
def SY (c:Cp):(t:Ty)->Den R.T t->TV R.T
 |.st n=>fun x=>.agg (TS R c (R.lf n) (R.of n x))
 |.int k=>fun n=>.int k n
 |.bool=>fun b=>.bool b
 |.str=>fun s=>.str s
 |.slice t=>fun l=>.tX c t l
def V7 {t u:Ty}(l:List (Den R.T t)):Option (List (Den R.T u)):=if h:t=u then some (h▸l) else none
def aeE (k:IntKind):TV R.T->Option Int
 |.int k' n=>if k=k' then some n else none|_=>none
def aeF:TV R.T->Option Bool
 |.bool b=>some b|.Tt b=>some b|_=>none
def aeG:TV R.T->Option (List UInt8)
 |.str s=>some s|_=>none
def aeH (t:Ty):TV R.T->Option (List (Den R.T t))
 |.tX _ _ l=>V7 R l|.TK=>some []|_=>none
def Wq:(t:Ty)->TV R.T->Option (Den R.T t)
 |.int k=>fun v=>aeE R k v
 |.bool=>fun v=>aeF R v
 |.str=>fun v=>aeG R v
 |.slice t=>fun v=>aeH R t v
 |.st _=>fun _=>none
def hd1:List (TV R.T)->TV R.T
 | [v]=>v|_=>.gone
def uns:(l:List Ty)->List (TV R.T)->Option (Vn R.T l)
 | []=>fun vs=>match vs with
   | []=>some ()|_::_=>none
 | [t]=>fun vs=>Wq R t (hd1 R vs)
 |t::u::l=>fun vs=>match vs with
  | []=>none|v::vs=>match Wq R t v with
   |some x=>match uns (u::l) vs with
    |some p=>some (x,p)|none=>none
   |none=>none
def abn (n:Nat):TV R.T->Option (R.T n)
 |.agg cs=>match uns R (R.lf n) cs with
  |some p=>some (R.to n p)|none=>none
 |_=>none
def V8:(t:Ty)->TV R.T->Option (Den R.T t)
 |.st n=>fun v=>abn R n v
 |.int k=>fun v=>aeE R k v
 |.bool=>fun v=>aeF R v
 |.str=>fun v=>aeG R v
 |.slice t=>fun v=>aeH R t v
def TV.cells {T:Nat->Type}:TV T->List (TV T)
 |.agg cs=>cs|v=>[v]
mutual
def Ur {T:Nat->Type}(o:Nat):TV T->Bool
 |.ref p _=>Nat.beq p o|.RA p=>Nat.beq p o|.agg cs=>Vo o cs|.Rm cs=>Vo o cs|.Q5 cs _=>Vo o cs|.fn _ a b=>Vo o a||Vo o b|.opt _ _ v=>Ur o v|.vw p _=>Nat.beq p o|.sub p _ _ _=>Nat.beq p o|.Uq p _ _ _=>Nat.beq p o|.sv p _ _ _ _ _=>Nat.beq p o|.sel p _ _ _ _ _=>Nat.beq p o|_=>false
def Vo {T:Nat->Type}(o:Nat):List (TV T)->Bool
 | []=>false|v::l=>Ur o v||Vo o l
end
def Ob.Ur {T:Nat->Type}(o:Nat):Ob T->Bool
 |.cells cs=>Vo o cs|.smap ks vs=>Vo o ks||Vo o vs|.ro b=>Ob.Ur o b|_=>false
mutual
def wk {T:Nat->Type}(t:Nat):TV T->TV T
 |.tX (.own u) ty l=>bif Nat.beq u t then .tX .any ty l else .tX (.own u) ty l|.agg cs=>.agg (Yw t cs)|.Rm cs=>.Rm (Yw t cs)|.Q5 cs off=>.Q5 (Yw t cs) off|.fn f a b=>.fn f (Yw t a) (Yw t b)|.opt j w v=>.opt j w (wk t v)|v=>v
def Yw {T:Nat->Type}(t:Nat):List (TV T)->List (TV T)
 | []=>[]|v::l=>wk t v::Yw t l
end
def Ob.wk {T:Nat->Type}(t:Nat):Ob T->Ob T
 |.cells cs=>.cells (Yw t cs)|.smap ks vs=>.smap (Yw t ks) (Yw t vs)|.ro b=>.ro (Ob.wk t b)|o=>o
def U3 {U:Type}(f:U->U):List (Nat×U)->List (Nat×U)
 | []=>[]| (i,x)::l=>(i,f x)::U3 f l
def TA {U:Type}(i:Nat):List (Nat×U)->List (Nat×U)
 | []=>[]| (j,x)::l=>bif Nat.beq j i then TA i l else (j,x)::TA i l
def MS.wk {T:Nat->Type}(t:Nat)(st:MS T):MS T:=⟨U3 (Aq.wk t) st.fr,U3 (Ob.wk t) st.ob⟩
def af5 {T:Nat->Type}(j:Nat):TV T->TV T
 |.opt i w v=>bif Nat.beq i j then .gone else .opt i w v|v=>v
def MS.put {T:Nat->Type}(st:MS T)(i:Nat)(v:TV T):MS T:={st with fr:=(i,v)::U3 (af5 i) (TA i st.fr)}
def MS.SL {T:Nat->Type}(st:MS T)(d:Option Nat)(v:TV T):MS T:=match d with
 |some i=>st.put i v|none=>st
def lrn {T:Nat->Type}(j:Nat)(b:Bool):TV T->TV T
 |.opt i w v=>bif Nat.beq i j then (bif (b==w) then v else .undef) else .opt i w v|v=>v
def MS.learn {T:Nat->Type}(st:MS T)(j:Nat)(b:Bool):MS T:={st with fr:=(j,.Tt b)::U3 (lrn j b) (TA j st.fr)}
def MS.ab0 {T:Nat->Type}(st:MS T)(c:Operand)(b:Bool):MS T:=match c with
 |.tmp j=>st.learn j b|_=>st
def abo {T:Nat->Type}(o:Nat)(v:TV T):TV T:=bif Ur o v then .gone else v
def abp {T:Nat->Type}(o:Nat):List (TV T)->List (TV T)
 | []=>[]|v::l=>abo o v::abp o l
def Ob.kill {T:Nat->Type}(o:Nat):Ob T->Ob T
 |.cells cs=>.cells (abp o cs)|v=>bif Ob.Ur o v then .gone else v
def MS.new {T:Nat->Type}(st:MS T)(o:Nat)(b:Ob T):MS T:=⟨U3 (abo o) st.fr,(o,b)::U3 (Ob.kill o) (TA o st.ob)⟩
def MS.set {T:Nat->Type}(st:MS T)(o:Nat)(b:Ob T):MS T:={st with ob:=(o,b)::TA o st.ob}
def MS.del {T:Nat->Type}(st:MS T)(o:Nat):MS T:={st with ob:=TA o st.ob}
def af7 {T:Nat->Type}:Ob T->Ob T
 |.ro b=>af7 b|b=>b
def V9 {T:Nat->Type}(st:MS T)(o:Nat):Option (Ob T):=match look st.ob o with
 |some b=>some (af7 b)|none=>none
def Vp {T:Nat->Type}:Ob T->Bool
 |.ro _=>true|.gone=>true|_=>false
def Rk (i:Nat):List Nat->Bool
 | []=>false|j::l=>Nat.beq i j||Rk i l
mutual
def solid {T:Nat->Type}(W:List Nat):TV T->Bool
 |.tX (.own _) _ _=>false|.ref o _=>!(Rk o W)|.RA o=>!(Rk o W)|.agg cs=>WE W cs|.Rm cs=>WE W cs|.Q5 cs _=>WE W cs|.fn _ a b=>WE W a&& WE W b|.opt _ _ _=>false|.vw o _=>!(Rk o W)|.sub o _ _ _=>!(Rk o W)|.Uq o _ _ _=>!(Rk o W)|.sv o _ _ _ _ _=>!(Rk o W)|.sel o _ _ _ _ _=>!(Rk o W)|.gone=>false|_=>true
def WE {T:Nat->Type}(W:List Nat):List (TV T)->Bool
 | []=>true|v::l=>solid W v&& WE W l
end
def Vq {T:Nat->Type}(W:List Nat):Ob T->Bool
 |.cells cs=>WE W cs|.map _ _ _=>true|.smap ks vs=>WE W ks&& WE W vs|.arr _ _=>true|.sg _=>true|.ro b=>Vq W b|.gone=>false
def Vy {U:Type}(p:Nat->U->Bool)(f:U->U)(l:List (Nat×U)):List Nat->List (Nat×U)
 | []=>[]|i::is=>match look l i with
  |some x=>bif p i x then (i,f x)::Vy p f l is else Vy p f l is|none=>Vy p f l is
def wkA {T:Nat->Type}:TV T->TV T
 |.tX (.own _) t l=>.tX .any t l|v=>v
def base {T:Nat->Type}(W K O:List Nat)(mark:Ob T->Ob T)(st:MS T):MS T:=
 ⟨Vy (fun i v=>!(Rk i W)&& solid W (wkA v)) wkA st.fr K,Vy (fun o b=>!(Rk o W)&& Vq W b) mark st.ob O⟩
def MS.over {T:Nat->Type}(st b:MS T):MS T:=⟨st.fr++b.fr,st.ob++b.ob⟩
def abq {T:Nat->Type}:Value->Option (TV T)
 |.bool b=>some (.Tt b)|.int k n=>some (.int k n)|.string s=>some (.str s.data.toList)|.pointer none=>some .S9|.slice none 0 0=>some .TK|.map none=>some .SG|.nilFunc=>some .SV|.nilIface=>some .Sy|_=>none
def ab1 {T:Nat->Type}:List Value->Option (List (TV T))
 | []=>some []|v::l=>match abq v with
  |some x=>match ab1 l with
   |some y=>some (x::y)|none=>none
  |none=>none
def ab2 {T:Nat->Type}:Value->Option (TV T)
 |.agg cs=>match ab1 cs.toList with
  |some l=>some (.agg l)|none=>none
 |v=>abq v
def aeI {T:Nat->Type}(g:List (Nat×Bool)):TV T->Option (TV T)
 |.opt j w v=>match look g j with
  |some u=>some (bif u==w then v else .undef)|none=>none
 |v=>some v
def RH {T:Nat->Type}(g:List (Nat×Bool))(st:MS T):Operand->Option (TV T)
 |.tmp t=>match look st.fr t with
  |some v=>aeI g v|none=>none
 |.const v=>ab2 v|.func f=>some (.fn f [] [])|.global _=>none
def Wd {T:Nat->Type}(g:List (Nat×Bool))(st:MS T):List Operand->Option (List (TV T))
 | []=>some []|x::l=>match RH g st x with
  |some v=>match Wd g st l with
   |some vs=>some (v::vs)|none=>none
  |none=>none
def ab3 {T:Nat->Type}(g:List (Nat×Bool))(st:MS T):List (Nat×Operand)->Option (List (Nat×TV T))
 | []=>some []| (i,x)::l=>match RH g st x with
   |some v=>match ab3 g st l with
    |some vs=>some ((i,v)::vs)|none=>none
   |none=>none
def Yx {U:Type}(l:List U)(a b:Int):List U:=(l.take b.toNat).drop a.toNat
def aah {T:Nat->Type}(st:MS T):TV T->TV T
 |.ref o off=>match V9 st o with
  |some (.cells cs)=>.Q5 cs off|_=>.ref o off
 |.RA o=>match V9 st o with
  |some (.map k e m)=>.R3 k e m|_=>.RA o
 |.vw o t=>match V9 st o with
  |some (.arr t' l)=>if t'=t then .tX .sh t' l else .vw o t|_=>.vw o t
 |.sub o t a b=>match V9 st o with
  |some (.arr t' l)=>if t'=t then .tX .sh t' (Yx l a b) else .sub o t a b|_=>.sub o t a b
 |v=>v
def ac5 {T:Nat->Type}(st:MS T):List (TV T)->List (TV T)
 | []=>[]|v::l=>aah st v::ac5 st l
def aeJ {T:Nat->Type}(st:MS T):TV T->TV T
 |.fn f a b=>.fn f (ac5 st a) (ac5 st b)|.agg cs=>.agg (ac5 st cs)|v=>aah st v
def aai {T:Nat->Type}(st:MS T):List (TV T)->List (TV T)
 | []=>[]|v::l=>aeJ st v::aai st l
def af9 {T:Nat->Type}:TV T->Bool
 |.agg _=>false|.sg _=>false|.Rm _=>false|.gone=>false|.undef=>false|.opt _ _ _=>false|_=>true
def aaj {T:Nat->Type}:List (TV T)->Bool
 | []=>true|v::l=>af9 v&& aaj l
def WG {T:Nat->Type}:TV T->Bool
 |.gone=>false|.sg _=>false|.opt _ _ _=>false|_=>true
mutual
def TT {T:Nat->Type}:TV T->Bool
 |.int _ _=>true|.bool _=>true|.Tt _=>true|.str _=>true|.S9=>true|.SV=>true|.SG=>true|.Sy=>true|.tX .sh _ _=>true|.agg cs=>VG cs|.Rm cs=>VG cs|.R3 _ _ _=>true|.Q5 cs _=>VG cs|.fn _ a b=>VG a&& VG b|.sg _=>true|_=>false
def VG {T:Nat->Type}:List (TV T)->Bool
 | []=>true|v::l=>TT v&& VG l
end
def XJ {T:Nat->Type}:TV T->TV T
 |.tX _ t l=>.tX .sh t l|v=>v
def ac6 {T:Nat->Type}:List (TV T)->List (TV T)
 | []=>[]|v::l=>XJ v::ac6 l
def erM {T:Nat->Type}:TV T->TV T
 |.tX _ t l=>.tX .sh t l|.agg cs=>.agg (ac6 cs)|v=>v
def cl1 {T:Nat->Type}:TV T->Bool
 |.tX _ _ _=>true|.TK=>true|v=>TT v
def aeK {T:Nat->Type}:List (TV T)->Bool
 | []=>true|v::l=>cl1 v&& aeK l
def clV {T:Nat->Type}:TV T->Bool
 |.agg cs=>aeK cs|v=>cl1 v
def abr {T:Nat->Type}:List (TV T)->Bool
 | []=>true|v::l=>clV v&& abr l
mutual
def UG:Sk->Bool
 |.d _=>true|.l c _=>match c with
  |.any=>true|.sh=>true|_=>false
 |.agg l=>Us l|.Q5 l _=>Us l|.R3 _ _=>true|.fn _ a b=>Us a&& Us b|.sg _=>true|_=>false
def Us:List Sk->Bool
 | []=>true|k::l=>UG k&& Us l
def dep:Sk->Nat
 |.agg l=>WH l+3|.Q5 l _=>WH l+3|.fn _ a b=>max (WH a) (WH b)+3|_=>3
def WH:List Sk->Nat
 | []=>0|k::l=>max (dep k) (WH l)
end
def aga:Ty->Bool
 |.int _=>true|.bool=>true|.str=>true|_=>false
def ab4:List Sk->Bool
 | []=>true|.d t::l=>aga t&& ab4 l|.sg _::l=>ab4 l|_=>false
mutual
def encS:(k:Sk)->V5 R.T k->V
 |.d t,x=>Q8 R t x|.l _ t,x=>Q8 R (.slice t) x|.agg l,x=>.agg (Rj l x)|.Q5 l off,x=>.Q5 (Rj l x) off|.R3 k e,x=>.R3 (List.map (fun p=>Q8 R k p.1) x) (List.map (fun p=>Q8 R e p.2) x)
 |.fn f a b,x=>.fn (.func f) (Rj a x.1) (Rj b x.2)|.TK,_=>.tX .sh []|.ref _ _,_=>FN|.RA _,_=>FN|.vw _ _,_=>FN|.sub _ _,_=>FN|.sg l,x=>.agg (Uv (X4 l x))|.undef,_=>FN
def Rj:(l:List Sk)->Lv R.T l->List V
 | [],_=>[]| [k],x=>[encS k x]|k::h::l,p=>encS k p.1::Rj (h::l) p.2
end
def SB:List V->V
 | [v]=>v|vs=>.Rm vs
def ab5:Cp->Cp->Bool
 |_,.any=>true|.sh,.sh=>true|.nil,.nil=>true|.nil,.own _=>true|.full,.own _=>true|.full,.full=>true|.own t,.own u=>Nat.beq t u|_,_=>false
def aeL (c:Cp)(t:Ty):TV R.T->Option (List (Den R.T t))
 |.tX c' _ l=>bif ab5 c' c then V7 R l else none|.TK=>bif ab5 .nil c then some [] else none|_=>none
def ab6 {k e k' e':Ty}(m:List (Den R.T k'×Den R.T e')):Option (List (Den R.T k×Den R.T e)):=if h:k'=k/\e'=e then some (by rw[<-h.1,<-h.2];exact m) else none
mutual
def pk:(k:Sk)->TV R.T->Option (V5 R.T k)
 |.d t=>fun v=>V8 R t v
 |.l c t=>fun v=>aeL R c t v
 |.agg l=>fun v=>match v with
  |.agg cs=>TL l cs|_=>none
 |.ref o off=>fun v=>match v with
  |.ref p off'=>bif Nat.beq p o&& Nat.beq off' off then some () else none|_=>none
 |.Q5 l off=>fun v=>match v with
  |.Q5 cs off'=>bif Nat.beq off' off then TL l cs else none|_=>none
 |.RA o=>fun v=>match v with
  |.RA p=>bif Nat.beq p o then some () else none|_=>none
 |.R3 k e=>fun v=>match v with
  |.R3 _ _ m=>ab6 R m|_=>none
 |.fn f a b=>fun v=>match v with
  |.fn f' a' b'=>bif Nat.beq f' f then (match TL a a' with
   |some x=>match TL b b' with
    |some y=>some (x,y)|none=>none
   |none=>none) else none
  |_=>none
 |.TK=>fun v=>match v with
  |.TK=>some ()|_=>none
 |.vw o t=>fun v=>match v with
  |.vw p t'=>bif Nat.beq p o then (if t'=t then some () else none) else none|_=>none
 |.sub o t=>fun v=>match v with
  |.sub p t' a b=>bif Nat.beq p o then (if t'=t then some (a,b) else none) else none|_=>none
 |.sg l=>fun v=>match v with
  |.sg ss=>RY l ss|_=>none
 |.undef=>fun v=>match v with
  |.undef=>some ()|_=>none
def TL:(l:List Sk)->List (TV R.T)->Option (Lv R.T l)
 | []=>fun vs=>match vs with
   | []=>some ()|_::_=>none
 | [k]=>fun vs=>match vs with
   | [v]=>pk k v|_=>none
 |k::h::l=>fun vs=>match vs with
  | []=>none|v::vs=>match pk k v with
   |some x=>match TL (h::l) vs with
    |some p=>some (x,p)|none=>none
   |none=>none
end
mutual
def up (c:Cp):(k:Sk)->V5 R.T k->TV R.T
 |.d t,x=>SY R c t x|.l c t,x=>.tX c t x|.agg l,x=>.agg (Tm c l x)|.ref o off,_=>.ref o off|.Q5 l off,x=>.Q5 (Tm c l x) off|.RA o,_=>.RA o|.R3 k e,x=>.R3 k e x|.fn f a b,x=>.fn f (Tm c a x.1) (Tm c b x.2)|.TK,_=>.TK|.vw o t,_=>.vw o t|.sub o t,x=>.sub o t x.1 x.2|.sg l,x=>.sg (X4 l x)|.undef,_=>.undef
def Tm (c:Cp):(l:List Sk)->Lv R.T l->List (TV R.T)
 | [],_=>[]| [k],x=>[up c k x]|k::h::l,p=>up c k p.1::Tm c (h::l) p.2
end
def pkO:(k:Sz)->Ob R.T->Option (aaN R.T k)
 |.cells l=>fun o=>match o with
  |.cells cs=>TL R l cs|_=>none
 |.st n=>fun o=>match o with
  |.cells cs=>abn R n (.agg cs)|_=>none
 |.map k e=>fun o=>match o with
  |.map _ _ m=>ab6 R m|_=>none
 |.arr t=>fun o=>match o with
  |.arr _ l=>V7 R l|_=>none
 |.sg l=>fun o=>match o with
  |.sg ss=>RY l ss|_=>none
def Uy:(k:Sz)->aaN R.T k->Ob R.T
 |.cells l,x=>.cells (Tm R .any l x)|.st n,x=>.cells (TS R .any (R.lf n) (R.of n x))|.map k e,x=>.map k e x|.arr t,x=>.arr t x|.sg l,x=>.sg (X4 l x)
def WI (st:List (Nat×TV R.T)):(l:List (Nat×Sk))->Option (abm R.T l)
 | []=>some ()| [(i,k)]=>match look st i with
   |some v=>pk R k v|none=>none
 | (i,k)::h::l=>match look st i with
   |some v=>match pk R k v with
    |some x=>match WI st (h::l) with
     |some p=>some (x,p)|none=>none
    |none=>none
   |none=>none
def ac8:(l:List (Nat×Sk))->abm R.T l->List (Nat×TV R.T)
 | [],_=>[]| [(i,k)],x=>[(i,up R .any k x)]| (i,k)::h::l,p=>(i,up R .any k p.1)::ac8 (h::l) p.2
def U4 (st:List (Nat×Ob R.T)):(l:List (Nat×Sz))->Option (Ue R.T l)
 | []=>some ()| [(i,k)]=>match look st i with
   |some v=>pkO R k v|none=>none
 | (i,k)::h::l=>match look st i with
   |some v=>match pkO R k v with
    |some x=>match U4 st (h::l) with
     |some p=>some (x,p)|none=>none
    |none=>none
   |none=>none
def Uf:(l:List (Nat×Sz))->Ue R.T l->List (Nat×Ob R.T)
 | [],_=>[]| [(i,k)],x=>[(i,Uy R k x)]| (i,k)::h::l,p=>(i,Uy R k p.1)::Uf (h::l) p.2
def pack (st:MS R.T):(s:Shape)->Option (V6 R.T s)
 | ⟨s,[]⟩=>WI R st.fr s| ⟨s,o::os⟩=>match WI R st.fr s with
   |some x=>match U4 R st.ob (o::os) with
    |some y=>some (x,y)|none=>none
   |none=>none
def isE {T:Nat->Type}:TV T->Bool
 |.TK=>true|.tX .nil _ l=>l.isEmpty|.tX .full _ l=>l.isEmpty|_=>false
def Ws {T:Nat->Type}(W:List Nat):List (Nat×Sk)->MS T->MS T
 | [],st=>st| (i,.vw o t)::l,st=>match look st.fr i with
   |some v=>bif isE v&& Rk o W then Ws W l ⟨(i,.vw o t)::(st.new o (.arr t [])).fr,(st.new o (.arr t [])).ob⟩ else Ws W l st|none=>Ws W l st
 |_::l,st=>Ws W l st
def UO (W:List Nat)(st:MS R.T)(s:Shape):Option (V6 R.T s):=pack R (Ws W s.sl st) s
def unpack:(s:Shape)->V6 R.T s->MS R.T
 | ⟨s,[]⟩,x=>⟨ac8 R s x,[]⟩| ⟨s,o::os⟩,x=>⟨ac8 R s x.1,Uf R (o::os) x.2⟩
def abt:Ex->Ex->Bool
 |.normal,.normal=>true|.ret,.ret=>true|.exit i,.exit j=>Nat.beq i j|_,_=>false
def XK (W:List Nat)(e:Ex)(st:MS R.T):(l:List (Ex×Shape))->Option (Out R.T l)
 | []=>none| [(x,s)]=>bif abt e x then UO R W st s else none| (x,s)::h::l=>bif abt e x then (match UO R W st s with
   |some p=>some (.inl p)|none=>none) else (match XK W e st (h::l) with
   |some p=>some (.inr p)|none=>none)
def Yy {β:Type}(b:MS R.T)(k:Ex->MS R.T->Option β):(l:List (Ex×Shape))->Out R.T l->Option β
 | [],_=>none| [(x,s)],p=>k x (b.over (unpack R s p))| (x,s)::h::l,p=>Sum.elim (fun q=>k x (b.over (unpack R s q))) (fun q=>Yy b k (h::l) q) p
end
end Aq
end
