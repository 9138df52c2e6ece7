import Derived.Test.YthadiihdjhakdaaGreatF2205
set_option linter.all false
section
namespace aR
open Go
section
variable {E:Env}
def oN (S T:kH):Prop:=(∀c fr σ r,S.code c fr σ=some r->T.code c fr σ=some r)/\∀f args d σ r,S.call f args d σ=some r->T.call f args d σ=some r
variable {S T:kH}
theorem Zk (h:oN S T){f:FuncId}{args:List V}{v:V}(hc:wD E S f args=some v):wD E T f args=some v:=by
 unfold wD at hc⊢;cases hg:E.rU f with
 |some g=>simp only[hg] at hc⊢;exact hc|none=>simp only[hg,iR] at hc⊢;obtain⟨x,h1,h2⟩:=hc;exact⟨x,h.2 _ _ _ _ _ h1,h2⟩
theorem afG (h:oN S T){l:Nat}{args:List V}{σ:ak}{r:V×ak}(hc:xV S l args σ=some r):xV T l args σ=some r:=by
 unfold xV at hc⊢;simp only[iR] at hc⊢;obtain⟨r0,hl,hc⟩:=hc;refine⟨r0,hl,?_⟩;split at hc
 ·rename_i hst
  rw[if_pos hst];simp only[iR] at hc⊢;obtain⟨⟨e1,bM,σ1⟩,NI,hc⟩:=hc;refine⟨(e1,bM,σ1),h.1 _ _ _ _ NI,?_⟩;cases e1 with
  |normal=>
   simp only[iR] at hc⊢;obtain⟨r1,hl1,hc⟩:=hc;refine⟨r1,hl1,?_⟩;split at hc
   ·rename_i Db
    rw[if_pos Db];simp only[iR] at hc⊢;obtain⟨x,hb,y,hy,hc⟩:=hc;exact⟨x,h.1 _ _ _ _ hb,y,hy,hc⟩
   ·simp at hc
  |exit i=>simp at hc|ret=>simp at hc
 ·simp at hc
theorem afH (h:oN S T){d:Nat}{dst:Option Nat}{σ:ak}{fv:V}{args:List V}{r:V×ak}(hc:lg E S d dst σ fv args=some r):lg E T d dst σ fv args=some r:=by
 unfold lg at hc⊢;split at hc
 ·split at hc
  ·rename_i hi;simp only[hi,if_true]
   obtain⟨x,h1,h2⟩:=bf.1 hc;exact bf.2 ⟨x,h.2 _ _ _ _ _ h1,h2⟩
  ·rename_i hi
   simp only[iR] at hc;obtain⟨dz,h1,v,h2,h3⟩:=hc;simp only[hi,h1,Option.bind_some,Zk h h2];exact h3
 ·exact afG h hc
 ·simp at hc
theorem arP (h:oN S T){σ:ak}{st:Nat}{loc:Option Loc}{fv:V}{args:List V}{r:V×ak}(hc:qo E S σ st loc fv args=some r):qo E T σ st loc fv args=some r:=by
 unfold qo at hc⊢;split at hc
 ·split at hc
  ·rename_i hi
   simp only[iR] at hc;obtain⟨dz,h1,v,h2,h3⟩:=hc;simp only[hi,if_true,h1,Option.bind_some,h.2 _ _ _ _ _ h2];exact h3
  ·cases hc
 ·cases hc
theorem Zl (h:oN S T){fr:Fr}{σ:ak}{st:Nat}{o:Oper}{r:V×Fr×ak}(hc:opC E S fr σ st o=some r):opC E T fr σ st o=some r:=by
 unfold opC at hc⊢;split at hc
 ·rename_i c ho
  simp only[ho] at hc⊢;split at hc
  ·exact hc
  ·rename_i f hf
   split at hc
   ·rename_i fT
    simp only[fT,if_true];simp only[bf] at hc⊢;obtain⟨x,h1,h2⟩:=hc;exact⟨x,arP h h1,h2⟩
   rename_i fT;simp only[fT,if_false,dL];simp only[bf] at hc⊢;obtain⟨x,h1,h2⟩:=hc;exact⟨x,afH h h1,h2⟩
  ·simp at hc
 ·simp at hc
 ·exact hc
theorem Oa (h:oN S T)(all:List Oper):∀(os:List Oper)(st:Nat)(fr:Fr)(σ:ak)(r:Fr×ak),opsE E S all st os fr σ=some r->opsE E T all st os fr σ=some r:=by
 intro os;induction os with
 |nil=>intro st fr σ r hc;exact hc|cons o os ih=>
  intro st fr σ r hc;simp only[opsE,iR] at hc⊢;obtain⟨t,h1,h2⟩:=hc;refine⟨t,h1,?_⟩;cases t with
  |true=>simp only[if_true,iR] at h2⊢;obtain⟨x,h3,h4⟩:=h2;exact⟨x,Zl h h3,ih _ _ _ _ h4⟩
  |false=>simp only[dL,if_false] at h2⊢;exact ih _ _ _ _ h2
theorem Ob (h:oN S T)(all:List Oper):∀(os:List Oper)(st:Nat)(fr:Fr)(σ:ak)(r:List dO×Fr×ak),oI E S all st os fr σ=some r->oI E T all st os fr σ=some r:=by
 intro os;induction os with
 |nil=>intro st fr σ r hc;exact hc|cons o os ih=>
  intro st fr σ r hc;simp only[oI,iR] at hc⊢;obtain⟨t,h1,h2⟩:=hc;refine⟨t,h1,?_⟩;cases t with
  |true=>simp only[if_true,iR,bf] at h2⊢;obtain⟨x,h3,y,h4,h5⟩:=h2;exact⟨x,Zl h h3,y,ih _ _ _ _ h4,h5⟩
  |false=>simp only[dL,if_false,bf] at h2⊢;obtain⟨y,h4,h5⟩:=h2;exact⟨y,ih _ _ _ _ h4,h5⟩
theorem arQ (h:oN S T){ops:List Oper}{base i:Nat}{fr:Fr}{σ:ak}{r:Fr×ak}(hc:lQ E S ops base i fr σ=some r):lQ E T ops base i fr σ=some r:=by
 unfold lQ at hc⊢;split at hc
 ·exact hc
 ·simp only[iR] at hc⊢
  obtain⟨t,h1,h2⟩:=hc;refine⟨t,h1,?_⟩;cases t with
  |true=>simp only[if_true,bf] at h2⊢;obtain⟨x,h3,h4⟩:=h2;exact⟨x,Zl h h3,h4⟩
  |false=>simpa using h2
theorem arR (h:oN S T){ms:List Nat}{ops:List Oper}{base:Nat}{x y:Fr×ak}(hf:Free E S ms ops base x y):Free E T ms ops base x y:=by obtain⟨s,T',W,h0,hn,NS,hloc,hr⟩:=hf;refine⟨s,T',W,h0,hn,NS,fun i hi x hx=>?_,hr⟩;obtain⟨y,h1,h2⟩:=hloc i hi x hx;exact⟨y,arQ h h1,h2⟩
theorem EM (h:oN S T):∀(c:Code)(fr:Fr)(σ:ak)(r:Ex×Fr×ak),fH E S c fr σ=some r->fH E T c fr σ=some r:=by
 intro c;induction c with
 |region id ops dr=>
  intro fr σ r hc;simp only[fH] at hc⊢;split at hc
  ·rename_i hd
   simp only[hd,if_true,iR] at hc⊢;obtain⟨x,h1,h2⟩:=hc;refine⟨x,Ob h _ _ _ _ _ _ h1,?_⟩;split at h2
   ·rename_i hp;rw[if_pos hp];exact h2
   ·rename_i hp
    rw[if_neg hp];unfold Yn at h2⊢;split at h2
    ·rename_i hf
     rw[if_pos ⟨hf.1,arR h hf.2⟩];exact h2
    ·cases h2
  ·rename_i hd
   simp only[hd,dL,if_false,bf] at hc⊢;obtain⟨x,h1,h2⟩:=hc;exact⟨x,Oa h _ _ _ _ _ _ h1,h2⟩
 |seq a b iha ihb=>
  intro fr σ r hc;simp only[fH,iR] at hc⊢;obtain⟨⟨e,bM,σ1⟩,h1,h2⟩:=hc;refine⟨(e,bM,σ1),iha _ _ _ h1,?_⟩;cases e with
  |normal=>exact ihb _ _ _ h2|exit i=>exact h2|ret=>exact h2
 |cond c a b iha ihb=>
  intro fr σ r hc;simp only[fH,iR] at hc⊢;obtain⟨t,h1,h2⟩:=hc;refine⟨t,h1,?_⟩;cases t with
  |true=>simp only[if_true] at h2⊢;exact iha _ _ _ h2|false=>simp only[dL,if_false] at h2⊢;exact ihb _ _ _ h2
 |block id c ih=>intro fr σ r hc;simp only[fH,bf] at hc⊢;obtain⟨x,h1,h2⟩:=hc;exact⟨x,ih _ _ _ h1,h2⟩
 |loop c ih=>
  intro fr σ r hc;simp only[fH,iR] at hc⊢;obtain⟨⟨e,bM,σ1⟩,h1,h2⟩:=hc;refine⟨(e,bM,σ1),ih _ _ _ h1,?_⟩;cases e with
  |normal=>exact h.1 _ _ _ _ h2|exit i=>exact h2|ret=>exact h2
 |rangeFunc f ps a b iha ihb=>
  intro fr σ r hc;simp only[fH] at hc⊢;split at hc
  ·rename_i hf
   rw[if_pos hf];simp only[iR] at hc⊢;obtain⟨x,h1,h2⟩:=hc;exact⟨x,afH h h1,h2⟩
  ·simp at hc
 |scope c ih=>intro fr σ r hc;simp only[fH] at hc⊢;exact ih _ _ _ hc|_=>intro fr σ r hc;simpa [fH] using hc
theorem arS (h:oN S T){f:FuncId}{args:List V}{d:Nat}{σ:ak}{r:V×ak}(hc:CU E S f args d σ=some r):CU E T f args d σ=some r:=by
 simp only[CU,iR] at hc⊢;obtain⟨fn,h1,c,h2,h3⟩:=hc;refine⟨fn,h1,c,h2,?_⟩;split at h3
 ·rename_i hok
  rw[if_pos hok];simp only[iR] at h3⊢;obtain⟨x,h4,h5⟩:=h3;exact⟨x,h.1 _ _ _ _ h4,h5⟩
 ·simp at h3
theorem arT:∀n,oN (dX E n) (dX E (n+1)):=by
 intro n;induction n with
 |zero=>exact⟨(fun _ _ _ _ h=>bL),(fun _ _ _ _ _ h=>bL)⟩
 |succ n ih=>exact⟨fun c fr σ r h=>EM ih c fr σ r h,fun f args d σ r h=>by
   have h':CW E (dX E n) f args d σ=some r:=h;show CW E (dX E (n+1)) f args d σ=some r;unfold CW at h'⊢;split at h'
   ·exact h'
   ·exact arS ih h'⟩
theorem oN.refl (S:kH):oN S S:=⟨fun _ _ _ _ h=>h,fun _ _ _ _ _ h=>h⟩
theorem oN.trans {S T U:kH}(h:oN S T)(g:oN T U):oN S U:=⟨fun _ _ _ _ x=>g.1 _ _ _ _ (h.1 _ _ _ _ x),fun _ _ _ _ _ x=>g.2 _ _ _ _ _ (h.2 _ _ _ _ _ x)⟩
theorem mW {n m:Nat}(h:n<=m):oN (dX E n) (dX E m):=by
 induction m with
 |zero=>obtain rfl:n=0:=ah
        exact .refl _
 |succ m ih=>
  by_cases e:n=m+1
  ·subst e;exact .refl _
  ·exact(ih ah).trans (arT m)
end
section
variable (E:Env)
def bW (all:List Oper)(st:Nat)(os:List Oper)(fr:Fr)(σ:ak)(Q:Fr->ak->Prop):Prop:=
 ∃n fr' σ',opsE E (dX E n) all st os fr σ=some (fr',σ')/\Q fr' σ'
def je (ms:List Nat)(all:List Oper)(st:Nat)(os:List Oper)(fr:Fr)(σ:ak)(fs:List dO)(Q:Fr->ak->Prop):Prop:=
 ∃n fs' fr' σ',oI E (dX E n) all st os fr σ=some (fs',fr',σ')/\wG ms (fs++fs')=true/\Q fr' σ'
def bH (c:Code)(fr:Fr)(σ:ak)(Q:Ex->Fr->ak->Prop):Prop:=
 ∃n e fr' σ',fH E (dX E n) c fr σ=some (e,fr',σ')/\Q e fr' σ'
def Pure (f:FuncId)(args:List V)(v:V):Prop:=∃n,wD E (dX E n) f args=some v
def mX (f:FuncId)(args:List V)(d:Nat)(σ:ak)(Q:V->ak->Prop):Prop:=∃n v σ',(dX E n).call f args d σ=some (v,σ')/\Q v σ'
end
section
variable {E:Env}{fr:Fr}{σ:ak}
theorem Pure.ok (hE:kQ E){f:FuncId}{args:List V}{v:V}(h:Pure E f args v):oK E f args v:=h.elim fun _ h=>arO hE h
theorem bW.mono {all:List Oper}{st:Nat}{os:List Oper}{Q Q':Fr->ak->Prop}(h:bW E all st os fr σ Q)(hq:∀fr σ,Q fr σ->Q' fr σ):bW E all st os fr σ Q':=
 let ⟨n,fr',σ',h1,h2⟩:=h;⟨n,fr',σ',h1,hq _ _ h2⟩
theorem bH.mono {c:Code}{Q Q':Ex->Fr->ak->Prop}(h:bH E c fr σ Q)(hq:∀e fr σ,Q e fr σ->Q' e fr σ):bH E c fr σ Q':=
 let ⟨n,e,fr',σ',h1,h2⟩:=h;⟨n,e,fr',σ',h1,hq _ _ _ h2⟩
theorem bW.nil {all:List Oper}{st:Nat}{Q:Fr->ak->Prop}(h:Q fr σ):bW E all st [] fr σ Q:=⟨0,fr,σ,rfl,h⟩
theorem bW.op {all:List Oper}{st:Nat}{o:Oper}{os:List Oper}{v:V}{σ1:ak}{Q:Fr->ak->Prop}(hw:iU all fr o=some true)(hop:∀S,opC E S fr σ st o=some (v,fr,σ1))(h:bW E all (st+1) os (fr.put o.dst v) σ1 Q):bW E all st (o::os) fr σ Q:=by
 obtain⟨n,fr',σ',h1,h2⟩:=h;exact⟨n,fr',σ',by simp only[opsE,hw,Option.bind_some,if_true,hop,h1],h2⟩
theorem bW.skip {all:List Oper}{st:Nat}{o:Oper}{os:List Oper}{Q:Fr->ak->Prop}(hw:iU all fr o=some false)(h:bW E all (st+1) os (fr.put o.dst aL) σ Q):bW E all st (o::os) fr σ Q:=by obtain⟨n,fr',σ',h1,h2⟩:=h;exact⟨n,fr',σ',by simp only[opsE,hw,Option.bind_some,dL,if_false,h1],h2⟩
theorem afI {d:Nat}{dst:Option Nat}{g:FuncId}{a b args dz:List V}{v:V}{n:Nat}(hi:E.imp g=false)(has:(a++args++b).mapM (bG 20 σ)=some dz)(hp:wD E (dX E n) g dz=some v)(hc:((a++args++b).all (fun x=>aW (er x))||flat v)=true):lg E (dX E n) d dst σ (.fn (.func g) a b) args=some (v,σ):=by
 unfold lg;simp only[hi,dL,if_false,has,Option.bind_some,hp,hc,if_true]
theorem Va {o:Oper}{f:Operand}{g:FuncId}{a b:List V}(hf:fr.ev E f= .fn (.func g) a b)(h:∀d,o.dst=some d->E.own g d=false):lq E fr o f=false:=by
 unfold lq;rw[hf];cases hd:o.dst with
 |none=>rfl|some d=>exact h d hd
def wO (E:Env)(f:FuncId)(dz:List V)(sz:Nat)(l:List V):Prop:=∃n v σ1,(dX E n).call f dz 1 ak.init=some (v,σ1)/\∀st σ,(∃c,(c= .nil\/c= .full)/\rW σ st σ1 v=some (.ay c l,σ))\/rW σ st σ1 v=some (.ay (.own sz st) l,σ.dR st l.length)
theorem wO.of {f:FuncId}{dz:List V}{sz:Nat}{l:List V}{n:Nat}{c:Cap}{σ1:ak}(h:(dX E n).call f dz 1 ak.init=some (.ay c l,σ1))(hp:cB l=true)(hc:c= .nil\/c= .full\/∃s,c= .own sz s/\σ1.top s=l.length):wO E f dz sz l:=by
 refine⟨n,_,σ1,h,fun st σ=>?_⟩;rcases hc with rfl|rfl| ⟨s,rfl,ht⟩
 ·exact .inl ⟨.nil,.inl rfl,by unfold rW;dsimp only;rw[if_pos hp]⟩
 ·exact .inl ⟨.full,.inr rfl,by unfold rW;dsimp only;rw[if_pos hp]⟩
 ·exact .inr (by unfold rW;dsimp only;rw[if_pos hp,if_pos ht])
theorem bW.own {all:List Oper}{st:Nat}{o:Oper}{os:List Oper}{Q:Fr->ak->Prop}{c:Call}{f:Operand}{g:FuncId}{a b dz l:List V}{d sz:Nat}(hw:iU all fr o=some true)(ho:o.op= .call c)(fE:c.callee= .value f)(hf:fr.ev E f= .fn (.func g) a b)(hd:o.dst=some d)(hown:E.own g d=true)(has:rX (E.zC g) σ (a++c.args.toList.map (fr.ev E)++b)=some dz)(hp:wO E g dz sz l)(hc:(a++c.args.toList.map (fr.ev E)++b).all (fun x=>aW (er x))=true)(h1:∀c,c= .nil\/c= .full->bW E all (st+1) os (fr.put o.dst (.ay c l)) σ Q)(h2:bW E all (st+1) os (fr.put o.dst (.ay (.own sz st) l)) (σ.dR st l.length) Q)(hgi:E.imp g=false:=by intros;rfl):bW E all st (o::os) fr σ Q:=by
 obtain⟨m,v0,σ1,hm,hcp⟩:=hp;have fT:lq E fr o f=true:=by unfold lq;rw[hf,hd];exact hown
 have go:∀(v:V)(σ2:ak),rW σ st σ1 v0=some (v,σ2)->bW E all (st+1) os (fr.put o.dst v) σ2 Q->bW E all st (o::os) fr σ Q:=by
  rintro v σ2 hr ⟨n,fr',σ',g1,g2⟩;have hm':=(mW (xO n m)).2 _ _ _ _ _ hm;have g1':=Oa (mW (zw n m)) _ _ _ _ _ _ g1;refine⟨max n m,fr',σ',?_,g2⟩;have hov:qo E (dX E (max n m)) σ st (o.dst.map fun t=>(fr.d,E.cn t)) (.fn (.func g) a b) (c.args.toList.map (fr.ev E))=some (v,σ2):=by unfold qo;dsimp only;rw[if_pos hc,has,Option.bind_some,hm',Option.bind_some];show (if E.imp g=true then _ else _)=_;rw[if_neg (by rw[hgi];exact Bool.false_ne_true)];exact hr
  simp only[opsE,hw,Option.bind_some,if_true,opC,ho,fE,fT];rw[hf,hov];simp only[Option.map_some,Option.bind_some,g1']
 rcases hcp st σ with ⟨c,hc,hr⟩|hr
 ·exact go _ _ hr (h1 c hc)
 ·exact go _ _ hr h2
theorem bW.call {all:List Oper}{st:Nat}{o:Oper}{os:List Oper}{v:V}{Q:Fr->ak->Prop}{c:Call}{f:Operand}{g:FuncId}{a b dz:List V}(hw:iU all fr o=some true)(ho:o.op= .call c)(fE:c.callee= .value f)(hf:fr.ev E f= .fn (.func g) a b)(hi:E.imp g=false)(has:(a++c.args.toList.map (fr.ev E)++b).mapM (bG 20 σ)=some dz)(hp:Pure E g dz v)(hc:((a++c.args.toList.map (fr.ev E)++b).all (fun x=>aW (er x))||flat v)=true)(h:bW E all (st+1) os (fr.put o.dst v) σ Q)(fT:∀d,o.dst=some d->E.own g d=false:=by intros;rfl):bW E all st (o::os) fr σ Q:=by
 obtain⟨n,fr',σ',h1,h2⟩:=h;obtain⟨m,hm⟩:=hp;have hm':=Zk (mW (xO n m)) hm;have h1':=Oa (mW (zw n m)) _ _ _ _ _ _ h1;refine⟨max n m,fr',σ',?_,h2⟩;simp only[opsE,hw,Option.bind_some,if_true,opC,ho,fE,Va hf fT,dL,if_false,hf,afI hi has hm' hc,Option.map_some,h1']
def qz (E:Env)(d:Nat)(dst:Option Nat):Option Loc:=(dst.map E.cn).map fun t=>(d,t)
theorem bW.H7 {all:List Oper}{st:Nat}{o:Oper}{os:List Oper}{Q:Fr->ak->Prop}{c:Call}{f:Operand}{g:FuncId}{a b:List V}(hw:iU all fr o=some true)(ho:o.op= .call c)(fE:c.callee= .value f)(hf:fr.ev E f= .fn (.func g) a b)(hi:E.imp g=true)(hp:mX E g (a++c.args.toList.map (fr.ev E)++b) (fr.d+1) σ (fun v σ1=>bW E all (st+1) os (fr.put o.dst (jD (qz E fr.d o.dst) σ1 v).1) (jD (qz E fr.d o.dst) σ1 v).2 Q))(fT:∀d,o.dst=some d->E.own g d=false:=by intros;rfl):bW E all st (o::os) fr σ Q:=by
 obtain⟨m,v,σ1,hm,n,fr',σ',h1,h2⟩:=hp;have hm':=(mW (xO n m)).2 _ _ _ _ _ hm;have h1':=Oa (mW (zw n m)) _ _ _ _ _ _ h1;refine⟨max n m,fr',σ',?_,h2⟩;have:lg E (dX E (max n m)) fr.d (o.dst.map E.cn) σ (.fn (.func g) a b) (c.args.toList.map (fr.ev E))=some (jD (qz E fr.d o.dst) σ1 v):=by unfold lg;simp only[hi,if_true];rw[hm'];rfl
 simp only[opsE,hw,Option.bind_some,if_true,opC,ho,fE,Va hf fT,dL,if_false,hf,this,Option.map_some,h1']
theorem je.nil {ms:List Nat}{all:List Oper}{st:Nat}{fs:List dO}{Q:Fr->ak->Prop}(hp:wG ms fs=true)(h:Q fr σ):je E ms all st [] fr σ fs Q:=⟨0,[],fr,σ,rfl,by simpa using hp,h⟩
theorem je.op {ms:List Nat}{all:List Oper}{st:Nat}{o:Oper}{os:List Oper}{v:V}{σ1:ak}{fs:List dO}{Q:Fr->ak->Prop}(hw:iU all fr o=some true)(hop:∀S,opC E S fr σ st o=some (v,fr,σ1))(h:je E ms all (st+1) os (fr.put o.dst v) σ1 (fs++[iD E all fr o true]) Q):je E ms all st (o::os) fr σ fs Q:=by
 obtain⟨n,fs',fr',σ',h1,h2,h3⟩:=h;exact⟨n,iD E all fr o true::fs',fr',σ',by simp only[oI,hw,Option.bind_some,if_true,hop,h1,Option.map_some],pq,h3⟩
theorem je.skip {ms:List Nat}{all:List Oper}{st:Nat}{o:Oper}{os:List Oper}{fs:List dO}{Q:Fr->ak->Prop}(hw:iU all fr o=some false)(h:je E ms all (st+1) os (fr.put o.dst aL) σ (fs++[iD E all fr o false]) Q):je E ms all st (o::os) fr σ fs Q:=by
 obtain⟨n,fs',fr',σ',h1,h2,h3⟩:=h;exact⟨n,iD E all fr o false::fs',fr',σ',by simp only[oI,hw,Option.bind_some,dL,if_false,h1,Option.map_some],pq,h3⟩
theorem je.call {ms:List Nat}{all:List Oper}{st:Nat}{o:Oper}{os:List Oper}{v:V}{fs:List dO}{Q:Fr->ak->Prop}{c:Call}{f:Operand}{g:FuncId}{a b dz:List V}(hw:iU all fr o=some true)(ho:o.op= .call c)(fE:c.callee= .value f)(hf:fr.ev E f= .fn (.func g) a b)(hi:E.imp g=false)(has:(a++c.args.toList.map (fr.ev E)++b).mapM (bG 20 σ)=some dz)(hp:Pure E g dz v)(hc:((a++c.args.toList.map (fr.ev E)++b).all (fun x=>aW (er x))||flat v)=true)(h:je E ms all (st+1) os (fr.put o.dst v) σ (fs++[iD E all fr o true]) Q)(fT:∀d,o.dst=some d->E.own g d=false:=by intros;rfl):je E ms all st (o::os) fr σ fs Q:=by
 obtain⟨n,fs',fr',σ',h1,h2,h3⟩:=h;obtain⟨m,hm⟩:=hp;have hm':=Zk (mW (xO n m)) hm;have h1':=Ob (mW (zw n m)) _ _ _ _ _ _ h1;refine⟨max n m,iD E all fr o true::fs',fr',σ',?_,pq,h3⟩;simp only[oI,hw,Option.bind_some,if_true,opC,ho,fE,Va hf fT,dL,if_false,hf,afI hi has hm' hc,Option.map_some,h1']
theorem je.own {ms:List Nat}{all:List Oper}{st:Nat}{o:Oper}{os:List Oper}{fs:List dO}{Q:Fr->ak->Prop}{c:Call}{f:Operand}{g:FuncId}{a b dz l:List V}{d sz:Nat}(hw:iU all fr o=some true)(ho:o.op= .call c)(fE:c.callee= .value f)(hf:fr.ev E f= .fn (.func g) a b)(hd:o.dst=some d)(hown:E.own g d=true)(has:rX (E.zC g) σ (a++c.args.toList.map (fr.ev E)++b)=some dz)(hp:wO E g dz sz l)(hc:(a++c.args.toList.map (fr.ev E)++b).all (fun x=>aW (er x))=true)(h1:∀c,c= .nil\/c= .full->je E ms all (st+1) os (fr.put o.dst (.ay c l)) σ (fs++[iD E all fr o true]) Q)(h2:je E ms all (st+1) os (fr.put o.dst (.ay (.own sz st) l)) (σ.dR st l.length) (fs++[iD E all fr o true]) Q)(hgi:E.imp g=false:=by intros;rfl):je E ms all st (o::os) fr σ fs Q:=by
 obtain⟨m,v0,σ1,hm,hcp⟩:=hp;have fT:lq E fr o f=true:=by unfold lq;rw[hf,hd];exact hown
 have go:∀(v:V)(σ2:ak),rW σ st σ1 v0=some (v,σ2)->je E ms all (st+1) os (fr.put o.dst v) σ2 (fs++[iD E all fr o true]) Q->je E ms all st (o::os) fr σ fs Q:=by
  rintro v σ2 hr ⟨n,fs',fr',σ',g1,g2,g3⟩;have hm':=(mW (xO n m)).2 _ _ _ _ _ hm;have g1':=Ob (mW (zw n m)) _ _ _ _ _ _ g1;refine⟨max n m,iD E all fr o true::fs',fr',σ',?_,by simpa using g2,g3⟩;have hov:qo E (dX E (max n m)) σ st (o.dst.map fun t=>(fr.d,E.cn t)) (.fn (.func g) a b) (c.args.toList.map (fr.ev E))=some (v,σ2):=by unfold qo;dsimp only;rw[if_pos hc,has,Option.bind_some,hm',Option.bind_some];show (if E.imp g=true then _ else _)=_;rw[if_neg (by rw[hgi];exact Bool.false_ne_true)];exact hr
  simp only[oI,hw,Option.bind_some,if_true,opC,ho,fE,fT];rw[hf,hov];simp only[Option.map_some,Option.bind_some,g1']
 rcases hcp st σ with ⟨c,hc,hr⟩|hr
 ·exact go _ _ hr (h1 c hc)
 ·exact go _ _ hr h2
theorem je.arU {ms:List Nat}{all:List Oper}{st:Nat}{o:Oper}{os:List Oper}{fs:List dO}{Q:Fr->ak->Prop}{c:Call}{f:Operand}{g:FuncId}{a b dz:List V}{d m:Nat}{v0 v:V}{σ1 σ2:ak}(hw:iU all fr o=some true)(ho:o.op= .call c)(fE:c.callee= .value f)(hf:fr.ev E f= .fn (.func g) a b)(hd:o.dst=some d)(hown:E.own g d=true)(hgi:E.imp g=true)(has:rX (E.zC g) σ (a++c.args.toList.map (fr.ev E)++b)=some dz)(hc:(a++c.args.toList.map (fr.ev E)++b).all (fun x=>aW (er x))=true)(hm:(dX E m).call g dz 1 ak.init=some (v0,σ1))(hr:zH σ st (some (fr.d,E.cn d)) σ1 v0=some (v,σ2))(h:je E ms all (st+1) os (fr.put o.dst v) σ2 (fs++[iD E all fr o true]) Q):je E ms all st (o::os) fr σ fs Q:=by
 have fT:lq E fr o f=true:=by unfold lq;rw[hf,hd];exact hown
 obtain⟨n,fs',fr',σ',g1,g2,g3⟩:=h;have hm':=(mW (xO n m)).2 _ _ _ _ _ hm;have g1':=Ob (mW (zw n m)) _ _ _ _ _ _ g1;refine⟨max n m,iD E all fr o true::fs',fr',σ',?_,by simpa using g2,g3⟩;have hov:qo E (dX E (max n m)) σ st (o.dst.map fun t=>(fr.d,E.cn t)) (.fn (.func g) a b) (c.args.toList.map (fr.ev E))=some (v,σ2):=by unfold qo;dsimp only;rw[if_pos hc,has,Option.bind_some,hm',Option.bind_some];show (if E.imp g=true then _ else _)=_;rw[if_pos hgi,hd];exact hr
 simp only[oI,hw,Option.bind_some,if_true,opC,ho,fE,fT];rw[hf,hov];simp only[Option.map_some,Option.bind_some,g1']
theorem je.H7 {ms:List Nat}{all:List Oper}{st:Nat}{o:Oper}{os:List Oper}{fs:List dO}{Q:Fr->ak->Prop}{c:Call}{f:Operand}{g:FuncId}{a b:List V}(hw:iU all fr o=some true)(ho:o.op= .call c)(fE:c.callee= .value f)(hf:fr.ev E f= .fn (.func g) a b)(hi:E.imp g=true)(hp:mX E g (a++c.args.toList.map (fr.ev E)++b) (fr.d+1) σ (fun v σ1=>je E ms all (st+1) os (fr.put o.dst (jD (qz E fr.d o.dst) σ1 v).1) (jD (qz E fr.d o.dst) σ1 v).2 (fs++[iD E all fr o true]) Q))(fT:∀d,o.dst=some d->E.own g d=false:=by intros;rfl):je E ms all st (o::os) fr σ fs Q:=by
 obtain⟨m,v,σ1,hm,n,fs',fr',σ',h1,h2,h3⟩:=hp;have hm':=(mW (xO n m)).2 _ _ _ _ _ hm;have h1':=Ob (mW (zw n m)) _ _ _ _ _ _ h1;refine⟨max n m,iD E all fr o true::fs',fr',σ',?_,pq,h3⟩;have:lg E (dX E (max n m)) fr.d (o.dst.map E.cn) σ (.fn (.func g) a b) (c.args.toList.map (fr.ev E))=some (jD (qz E fr.d o.dst) σ1 v):=by unfold lg;simp only[hi,if_true];rw[hm'];rfl
 simp only[oI,hw,Option.bind_some,if_true,opC,ho,fE,Va hf fT,dL,if_false,hf,this,Option.map_some,h1']
end
def ak.bump (σ:ak)(k:Nat):ak:={σ with next:=σ.next+k}
section
variable {E:Env}{fr:Fr}{σ:ak}
theorem bH.region {id:Nat}{ops:Array Oper}{Q:Ex->Fr->ak->Prop}(h:bW E ops.toList σ.next ops.toList fr (σ.bump ops.toList.length) (fun fr σ=>Q .normal fr σ)):bH E (.region id ops false) fr σ Q:=by obtain⟨n,fr',σ',h1,h2⟩:=h;exact⟨n,.normal,fr',σ',by simp only[fH,dL,if_false];rw[show opsE E (dX E n) ops.toList σ.next ops.toList fr {σ with next:=σ.next+ops.toList.length}=some (fr',σ') from h1];rfl,h2⟩
theorem bH.draw {id:Nat}{ops:Array Oper}{Q:Ex->Fr->ak->Prop}(he:rZ ops.toList=true)(h:je E (tH ops.toList) ops.toList σ.next ops.toList fr (σ.bump ops.toList.length) [] (fun fr σ=>Q .normal fr σ)):bH E (.region id ops true) fr σ Q:=by
 obtain⟨n,fs,fr',σ',h1,h2,h3⟩:=h;refine⟨n,.normal,fr',σ',?_,h3⟩;simp only[fH,if_true];rw[show oI E (dX E n) ops.toList σ.next ops.toList fr {σ with next:=σ.next+ops.toList.length}=some (fs,fr',σ') from h1];simp only[Option.bind_some,he,Bool.true_and];rw[if_pos pq]
def kR (E:Env)(b:Code)(Q:Ex->Fr->ak->Prop)(e:Ex)(fr:Fr)(σ:ak):Prop:=match e with
 |.normal=>bH E b fr σ Q|e=>Q e fr σ
theorem bH.seq {a b:Code}{Q:Ex->Fr->ak->Prop}(h:bH E a fr σ (kR E b Q)):bH E (.seq a b) fr σ Q:=by
 obtain⟨n,e,bM,σ1,h1,h2⟩:=h;cases e with
 |normal=>obtain⟨m,e,fr',σ',h3,h4⟩:=h2;refine⟨max n m,e,fr',σ',?_,h4⟩;simp only[fH,EM (mW (zw n m)) _ _ _ _ h1,Option.bind_some,EM (mW (xO n m)) _ _ _ _ h3]
 |exit i=>exact⟨n,.exit i,bM,σ1,Ue,h2⟩|ret=>exact⟨n,.ret,bM,σ1,Ue,h2⟩
theorem bH.skip {Q:Ex->Fr->ak->Prop}(h:Q .normal fr σ):bH E .skip fr σ Q:=⟨0,.normal,fr,σ,rfl,h⟩
theorem bH.ret {Q:Ex->Fr->ak->Prop}(h:Q .ret fr σ):bH E .ret fr σ Q:=⟨0,.ret,fr,σ,rfl,h⟩
theorem bH.exit {i:Nat}{Q:Ex->Fr->ak->Prop}(h:Q (.exit i) fr σ):bH E (.exit i) fr σ Q:=⟨0,.exit i,fr,σ,rfl,h⟩
theorem bH.cond {c:Operand}{a b:Code}{t:Bool}{Q:Ex->Fr->ak->Prop}(hc:fr.ev E c= .bool t)(ht:t=true->bH E a fr σ Q)(hf:t=false->bH E b fr σ Q):bH E (.cond c a b) fr σ Q:=by
 cases t with
 |true=>obtain⟨n,e,fr',σ',h1,h2⟩:=ht rfl;exact⟨n,e,fr',σ',by simp only[fH,hc,zD,Option.bind_some,if_true,h1],h2⟩
 |false=>obtain⟨n,e,fr',σ',h1,h2⟩:=hf rfl;exact⟨n,e,fr',σ',by simp only[fH,hc,zD,Option.bind_some,dL,if_false,h1],h2⟩
def tT (id:Nat)(Q:Ex->Fr->ak->Prop)(e:Ex)(fr:Fr)(σ:ak):Prop:=match e with
 |.exit i=>if i=id then Q .normal fr σ else Q (.exit i) fr σ|e=>Q e fr σ
theorem bH.block {id:Nat}{c:Code}{Q:Ex->Fr->ak->Prop}(h:bH E c fr σ (tT id Q)):bH E (.block id c) fr σ Q:=by
 obtain⟨n,e,fr',σ',h1,h2⟩:=h;cases e with
 |normal=>exact⟨n,.normal,fr',σ',by simp only[fH,h1,Option.map_some],h2⟩|ret=>exact⟨n,.ret,fr',σ',by simp only[fH,h1,Option.map_some],h2⟩|exit i=>
  simp only[tT] at h2;split at h2
  ·rename_i hi
   exact⟨n,.normal,fr',σ',by simp only[fH,h1,Option.map_some,if_pos hi],h2⟩
  ·rename_i hi
   exact⟨n,.exit i,fr',σ',by simp only[fH,h1,Option.map_some,if_neg hi],h2⟩
theorem bH.scope {c:Code}{Q:Ex->Fr->ak->Prop}(h:bH E c fr σ Q):bH E (.scope c) fr σ Q:=by obtain⟨n,e,fr',σ',h1,h2⟩:=h;exact⟨n,e,fr',σ',by simp only[fH,h1],h2⟩
theorem bH.label {l:Nat}{Q:Ex->Fr->ak->Prop}(h:Q .normal fr σ):bH E (.label l) fr σ Q:=⟨0,.normal,fr,σ,by simp only[fH],h⟩
def zN (E:Env)(c:Code)(Q:Ex->Fr->ak->Prop)(e:Ex)(fr:Fr)(σ:ak):Prop:=match e with
 |.normal=>bH E (.loop c) fr σ Q|e=>Q e fr σ
theorem bH.loop {c:Code}{Q:Ex->Fr->ak->Prop}(h:bH E c fr σ (zN E c Q)):bH E (.loop c) fr σ Q:=by
 obtain⟨n,e,bM,σ1,h1,h2⟩:=h;cases e with
 |normal=>obtain⟨m,e,fr',σ',h3,h4⟩:=h2;refine⟨max n m+1,e,fr',σ',?_,h4⟩;simp only[fH,EM (mW (show n<=max n m+1 by omega)) _ _ _ _ h1,Option.bind_some];exact EM (mW (xO n m)) _ _ _ _ h3
 |exit i=>exact⟨n,.exit i,bM,σ1,Ue,h2⟩|ret=>exact⟨n,.ret,bM,σ1,Ue,h2⟩
def zO (E:Env)(rs:List ResultVar)(R:V->ak->Prop)(e:Ex)(fr:Fr)(σ:ak):Prop:=match e with
 |.exit _=>False|_=>∃vs,rs.mapM (lu E fr σ)=some vs/\R (match vs with| [v]=>v|vs=>.bB vs) σ
theorem mX.of {f:FuncId}{args:List V}{d:Nat}{fn:Func}{c:Code}{R:V->ak->Prop}(hf:E.P.funcs[f]? =some fn)(hb:fn.body=some c)(hok:(decide (args.length<=fn.ntmps)&& jy fn.ntmps c)=true)(h:bH E c {d:=d,aj:=E.aj f,tm:=fun i=>args.getD i aL} σ (zO E fn.results.toList R))(hcl:CV E f args=none:=by rfl):mX E f args d σ R:=by
 obtain⟨n,e,fr',σ',h1,h2⟩:=h;have hok':args.length<=fn.ntmps/\jy fn.ntmps c=true:=by simpa using hok
 have key:∀vs,fn.results.toList.mapM (lu E fr' σ')=some vs->(e= .normal\/e= .ret)->(dX E (n+2)).call f args d σ=some ((match vs with| [v]=>v|vs=>.bB vs),σ'):=by intro vs hvs he;show CW E (dX E (n+1)) f args d σ=_;unfold CW;rw[hcl];show CU E (dX E (n+1)) f args d σ=_;have h3:(dX E (n+1)).code c {d:=d,aj:=E.aj f,tm:=fun i=>args.getD i aL} σ=some (e,fr',σ'):=h1;simp only[CU,hf,hb,Option.bind_some,if_pos hok',h3];rcases he with rfl|rfl<;>simp only[hvs,Option.map_some]<;>rcases vs with _| ⟨x,_| ⟨y,l⟩⟩<;>rfl
 cases e with
 |normal=>obtain⟨vs,h3,h4⟩:=h2;exact⟨n+2,_,σ',key vs h3 (.inl rfl),h4⟩
 |ret=>obtain⟨vs,h3,h4⟩:=h2;exact⟨n+2,_,σ',key vs h3 (.inr rfl),h4⟩
 |exit i=>exact h2.elim
theorem Pure.of {f:FuncId}{args:List V}{v:V}{fn:Func}{c:Code}(hs:E.rU f=none)(hf:E.P.funcs[f]? =some fn)(hb:fn.body=some c)(hok:(decide (args.length<=fn.ntmps)&& jy fn.ntmps c)=true)(h:bH E c {d:=1,aj:=E.aj f,tm:=fun i=>args.getD i aL} ak.init (zO E fn.results.toList (fun v0 σ=>bG 20 σ v0=some v)))(hcl:CV E f args=none:=by rfl):Pure E f args v:=by
 obtain⟨n,v0,σ',h1,h2⟩:=mX.of hf hb hok h hcl;exact⟨n,by simp only[wD,hs,h1,Option.bind_some,h2]⟩
theorem Oc (fr:Fr)(d:Nat)(v:V):fr.put (some d) v=fr.set d v:=rfl
theorem arV (fr:Fr)(v:V):fr.put none v=fr:=rfl
theorem afJ (fr:Fr)(d:Nat)(v:V):(fr.set d v).tm d=v:=by simp[Fr.set,upd]
theorem fZ (fr:Fr){d t:Nat}(v:V)(h:(t==d)=false):(fr.set d v).tm t=fr.tm t:=by
 have h':¬t=d:=xJ
 simp[Fr.set,upd,h']
theorem Bh (fr:Fr)(d:Nat)(v:V):(fr.set d v).d=fr.d:=rfl
theorem arW (fr:Fr)(d:Nat)(v:V):(fr.set d v).aj=fr.aj:=rfl
theorem Od (fr:Fr)(t:Nat):fr.ev E (.tmp t)=fr.tm t:=rfl
theorem afK (fr:Fr)(v:Value):fr.ev E (.const v)=(ofValue v).getD (.raw v):=rfl
theorem afL (fr:Fr)(f:FuncId):fr.ev E (.func f)= .fn (.func f) [] []:=rfl
theorem arX (σ:ak)(k:Nat):(σ.bump k).next=σ.next+k:=rfl
theorem arY (σ:ak)(l:aR.Loc)(s:Nat)(o:iN):(σ.setObj l s o).next=σ.next:=rfl
theorem arZ (σ:ak)(s n:Nat):(σ.dR s n).next=σ.next:=rfl
theorem Oe (σ:ak)(s n:Nat):(σ.dR s n).top s=n:=by simp[ak.dR,upd]
theorem Vb (σ:ak){s t:Nat}(n:Nat)(h:t≠s):(σ.dR s n).top t=σ.top t:=by simp[ak.dR,upd,h]
theorem ar0 (σ:ak)(k:Nat):(σ.bump k).top=σ.top:=rfl
theorem ar1 (σ:ak)(l:aR.Loc)(s:Nat)(o:iN):(σ.setObj l s o).top=σ.top:=rfl
theorem afM {l l':aR.Loc}(h:uQ l l'=false):¬l=l':=by rintro rfl;simp[uQ] at h
theorem Zm (a b c d:Nat):uQ (a,b) (c,d)=(b==d&& a==c):=rfl
theorem zP (σ:ak)(l:aR.Loc)(s:Nat)(cs:List V):(σ.setObj l s (.cells cs)).bQ l s=some cs:=by simp[ak.setObj,ak.bQ,upd]
theorem afN (σ:ak){l l':aR.Loc}(s s':Nat)(o:iN)(h:uQ l l'=false):(σ.setObj l' s' o).bQ l s=σ.bQ l s:=by have h':=afM h;simp[ak.setObj,ak.bQ,upd,h']
theorem ar2 (σ:ak)(k:Nat)(l:aR.Loc)(s:Nat):(σ.bump k).bQ l s=σ.bQ l s:=rfl
theorem ar3 (σ:ak)(t n:Nat)(l:aR.Loc)(s:Nat):(σ.dR t n).bQ l s=σ.bQ l s:=rfl
theorem map_eq (σ:ak)(l:aR.Loc)(s:Nat)(ks vs:List V):(σ.setObj l s (.map ks vs)).gB l s=some (ks,vs):=by simp[ak.setObj,ak.gB,upd]
theorem afO (σ:ak){l l':aR.Loc}(s s':Nat)(o:iN)(h:uQ l l'=false):(σ.setObj l' s' o).gB l s=σ.gB l s:=by have h':=afM h;simp[ak.setObj,ak.gB,upd,h']
theorem ar4 (σ:ak)(k:Nat)(l:aR.Loc)(s:Nat):(σ.bump k).gB l s=σ.gB l s:=rfl
theorem ar5 (σ:ak)(t n:Nat)(l:aR.Loc)(s:Nat):(σ.dR t n).gB l s=σ.gB l s:=rfl
end
def Is {α:Type}(a b:α):Prop:=a=b
theorem Is.rfl {α:Type}{a:α}:Is a a:=Eq.refl a
def iv (n:Int):V:=.int .i64 n
def lv {α:Type}(f:α->V)(l:List α):V:=.ay .sh (l.map f)
theorem afP {α:Type}{f:α->V}(h:∀x,aW (f x)=true):∀l:List α,cB (l.map f)=true
 | []=>by simp[cB]|a::l=>by simp[cB,h a,afP h l]
theorem Og {α:Type}{f:α->V}(h:∀x,aW (f x)=true)(l:List α):aW (.ay .sh (l.map f))=true:=by simp only[aW];exact afP h l
theorem nL {α:Type}{f:α->V}(h:∀x,aW (f x)=true)(l:List α):aW (lv f l)=true:=Og h l
theorem ar6 (n:Int):aW (iv n)=true:=by simp[iv,aW]
theorem oO (l:List (List UInt8)):aW (lv V.str l)=true:=nL (fun _=>vX) l
theorem oP (l:List Int):aW (lv iv l)=true:=nL ar6 l
theorem pR (k:IntKind)(l:List Int):aW (lv (V.int k) l)=true:=nL (fun _=>vX) l
theorem pU (l:List Bool):aW (lv V.bool l)=true:=nL (fun _=>vX) l
attribute [go_sem] oO oP pR pU
def aN {α:Type}(l:List α)(i:Int):Option α:=if 0<=i/\i<l.length then l[i.toNat]? else none
def Bj (P:Program)(t:TypeId):Bool:=match P.underlying t with
 |some (.slice _)=>true|_=>false
def Zn (P:Program)(t:TypeId):Bool:=match P.underlying t with
 |some .string=>true|_=>false
section
variable {E:Env}{fr:Fr}{σ:ak}
def Vd (Q:Ex->Fr->ak->Prop)(fr:Fr)(σ:ak):Prop:=Q .normal fr σ
theorem Vd.i {Q:Ex->Fr->ak->Prop}(h:Q .normal fr σ):Vd Q fr σ:=h
theorem kR.n {b:Code}{Q:Ex->Fr->ak->Prop}(h:bH E b fr σ Q):kR E b Q .normal fr σ:=h
theorem kR.x {b:Code}{i:Nat}{Q:Ex->Fr->ak->Prop}(h:Q (.exit i) fr σ):kR E b Q (.exit i) fr σ:=h
theorem kR.r {b:Code}{Q:Ex->Fr->ak->Prop}(h:Q .ret fr σ):kR E b Q .ret fr σ:=h
theorem tT.n {id:Nat}{Q:Ex->Fr->ak->Prop}(h:Q .normal fr σ):tT id Q .normal fr σ:=h
theorem tT.r {id:Nat}{Q:Ex->Fr->ak->Prop}(h:Q .ret fr σ):tT id Q .ret fr σ:=h
theorem tT.hit {id:Nat}{Q:Ex->Fr->ak->Prop}(h:Q .normal fr σ):tT id Q (.exit id) fr σ:=by simp only[tT,if_true];exact h
theorem zN.n {c:Code}{Q:Ex->Fr->ak->Prop}(h:bH E (.loop c) fr σ Q):zN E c Q .normal fr σ:=h
theorem zN.x {c:Code}{i:Nat}{Q:Ex->Fr->ak->Prop}(h:Q (.exit i) fr σ):zN E c Q (.exit i) fr σ:=h
theorem zN.r {c:Code}{Q:Ex->Fr->ak->Prop}(h:Q .ret fr σ):zN E c Q .ret fr σ:=h
theorem bH.Zo {c:Operand}{a b:Code}{Q:Ex->Fr->ak->Prop}(hc:Is (fr.ev E c) (.bool true))(h:bH E a fr σ Q):bH E (.cond c a b) fr σ Q:=bH.cond hc (fun _=>h) (fun h=>bL)
theorem bH.Zp {c:Operand}{a b:Code}{Q:Ex->Fr->ak->Prop}(hc:Is (fr.ev E c) (.bool false))(h:bH E b fr σ Q):bH E (.cond c a b) fr σ Q:=bH.cond hc (fun h=>bL) (fun _=>h)
theorem bW.o1 {all:List Oper}{st:Nat}{d:Tmp}{op:Op}{ty:TypeId}{pos:String}{gG:Array Edge}{gd:Option (Nat×Bool)}{os:List Oper}{v:V}{σ1:ak}{Q:Fr->ak->Prop}(hw:Is (iU all fr ⟨some d,op,ty,pos,gG,gd⟩) (some true))(hop:∀S,Is (opC E S fr σ st ⟨some d,op,ty,pos,gG,gd⟩) (some (v,fr,σ1)))(h:bW E all (st+1) os (fr.set d v) σ1 Q):bW E all st (⟨some d,op,ty,pos,gG,gd⟩::os) fr σ Q:=bW.op hw hop h
theorem bW.a1 {all:List Oper}{st:Nat}{d:Tmp}{op:Op}{ty:TypeId}{pos:String}{gG:Array Edge}{gd:Option (Nat×Bool)}{os:List Oper}{v:V}{σ1:ak}{Q:Fr->ak->Prop}(h:bW E all (st+1) os (fr.set d v) σ1 Q)(hw:Is (iU all fr ⟨some d,op,ty,pos,gG,gd⟩) (some true):=by rfl)(hop:∀S,Is (opC E S fr σ st ⟨some d,op,ty,pos,gG,gd⟩) (some (v,fr,σ1)):=by intro S;simp only[go_sem,Nat.reduceBEq,Nat.reduceAdd, *];with_reducible exact Is.rfl):bW E all st (⟨some d,op,ty,pos,gG,gd⟩::os) fr σ Q:=bW.o1 hw hop h
theorem bW.o0 {all:List Oper}{st:Nat}{op:Op}{ty:TypeId}{pos:String}{gG:Array Edge}{gd:Option (Nat×Bool)}{os:List Oper}{v:V}{σ1:ak}{Q:Fr->ak->Prop}(hw:Is (iU all fr ⟨none,op,ty,pos,gG,gd⟩) (some true))(hop:∀S,Is (opC E S fr σ st ⟨none,op,ty,pos,gG,gd⟩) (some (v,fr,σ1)))(h:bW E all (st+1) os fr σ1 Q):bW E all st (⟨none,op,ty,pos,gG,gd⟩::os) fr σ Q:=bW.op hw hop h
theorem zO.one {r:ResultVar}{e:Ex}{v0:V}{R:V->ak->Prop}(he:∀i,e≠ .exit i)(hv:Is (lu E fr σ r) (some v0))(hr:R v0 σ):zO E [r] R e fr σ:=by
 have h1:[r].mapM (lu E fr σ)=some [v0]:=by rw[j5,hv];rfl
 cases e with
 |exit i=>exact absurd rfl (he i)|normal=>exact⟨[v0],h1,hr⟩|ret=>exact⟨[v0],h1,hr⟩
theorem zO.bB {rs:List ResultVar}{e:Ex}{v1 v2:V}{vs:List V}{R:V->ak->Prop}(he:∀i,e≠ .exit i)(hv:Is (rs.mapM (lu E fr σ)) (some (v1::v2::vs)))(hr:R (.bB (v1::v2::vs)) σ):zO E rs R e fr σ:=by
 cases e with
 |exit i=>exact absurd rfl (he i)|normal=>exact⟨_,hv,hr⟩|ret=>exact⟨_,hv,hr⟩
theorem Pure.of' {f:FuncId}{args:List V}{v:V}{fn:Func}{c:Code}(rs:List ResultVar)(hf:E.P.funcs[f]? =some fn)(hb:fn.body=some c)(h:∀fr σ,fr.d=1->fr.aj=E.aj f->(∀i,fr.tm i=args.getD i aL)->bH E c fr σ (zO E rs (fun v0 σ=>bG 20 σ v0=some v)))(hrs:fn.results.toList=rs:=by rfl)(hok:(decide (args.length<=fn.ntmps)&& jy fn.ntmps c)=true:=by rfl)(hs:E.rU f=none:=by rfl)(hcl:CV E f args=none:=by rfl):Pure E f args v:=
 Pure.of hs hf hb hok (by rw[hrs];exact h _ _ rfl rfl (fun _=>rfl)) hcl
theorem mY {n:Nat}{x:V}(h:aW x=true):bG (n+1) σ x=some x:=by unfold bG;simp only[h,if_true]
theorem Zq (n:Nat)(k:IntKind)(i:Int):bG (n+1) σ (.int k i)=some (.int k i):=mY vX
theorem Zr (n:Nat)(b:Bool):bG (n+1) σ (.bool b)=some (.bool b):=mY vX
theorem Zt (n:Nat)(s:List UInt8):bG (n+1) σ (.str s)=some (.str s):=mY vX
theorem Bl {n:Nat}{α:Type}{f:α->V}(c:Cap)(l:List α)(h:∀x,aW (f x)=true):bG (n+2) σ (.ay c (l.map f))=some (lv f l):=by
 by_cases hp:aW (.ay c (l.map f))=true
 ·rw[mY hp]
  cases c<;>simp only[aW,dL] at hp;rfl
 ·unfold bG
  simp only[hp,if_false,dL];have:(l.map f).mapM (bG (n+1) σ)=some (l.map f):=by
   induction l with
   |nil=>simp|cons a l ih=>simp[h a,mY,ih (by cases c<;>simp_all[aW,cB])]
  rw[this];rfl
theorem ar7 (k:IntKind)(i:Int):er (.int k i)= .int k i:=rfl
theorem ar8 (b:Bool):er (.bool b)= .bool b:=rfl
theorem ar9 (s:List UInt8):er (.str s)= .str s:=rfl
theorem asa {α:Type}(f:α->V)(l:List α):er (lv f l)=lv f l:=rfl
theorem asb (c:Cap)(l:List V):er (.ay c l)= .ay .sh l:=rfl
theorem asc (n:Int):iv n= .int .i64 n:=rfl
theorem Zu (k:IntKind)(i:Int):aW (.int k i)=true:=vX
theorem Zv (b:Bool):aW (.bool b)=true:=vX
theorem afQ (s:List UInt8):aW (.str s)=true:=vX
theorem Zw {P:Program}{α:Type}{t:TypeId}{c:Cap}{l:List α}{f:α->V}{k:IntKind}{i:Int}:
 qU P t (.ay c (l.map f)) (.int k i)=if Bj P t then (nW P t).bind fun e=>(fq P e).bind fun sz=>(aN l i).bind fun x=>if (f x).cells.length=sz then some (.aY (f x).cells 0) else none else none:=by
 unfold qU Bj nW;cases hu:P.underlying t with
 |none=>rfl|some u=>
  cases u<;>try rfl
  rename_i e;simp only[if_true,Option.bind_some];cases fq P e with
  |none=>rfl|some sz=>
   simp only[Option.bind_some,idx,oG,iG,aN];split
   ·rename_i h
    simp only[Option.bind_some,List.getElem?_map];cases l[i.toNat]? with
    |none=>rfl|some x=>rfl
   ·rfl
theorem afR {P:Program}{α:Type}{t:TypeId}{l:List α}{f:α->V}{k:IntKind}{i:Int}:
 qU P t (lv f l) (.int k i)=if Bj P t then (nW P t).bind fun e=>(fq P e).bind fun sz=>(aN l i).bind fun x=>if (f x).cells.length=sz then some (.aY (f x).cells 0) else none else none:=Zw
theorem ase {t:TypeId}{α:Type}(f:α->V)(l:List α)(h:Bj E.P t=true):rV E σ t (lv f l)=some l.length:=by
 unfold Bj at h;unfold rV;split at h
 ·rename_i e he;rw[he];simp[lv]
 ·simp at h
end
section
variable {E:Env}{S:kH}{fr:Fr}{σ:ak}{st:Nat}{d:Option Tmp}{ty:TypeId}{pos:String}{gG:Array Edge}{gd:Option (Nat×Bool)}
theorem asf (all:List Oper)(op:Op):iU all fr ⟨d,op,ty,pos,gG,none⟩=some true:=rfl
def afS (want:Bool):V->Option Bool
 |.bool b=>some (b==want)|.raw _=>none|_=>some false
theorem asg (w b:Bool):afS w (.bool b)=some (b==w):=rfl
theorem ash (w:Bool):afS w aL=some false:=rfl
theorem asi (cs:List V):V.cells (.agg cs)=cs:=rfl
theorem asj (k:IntKind)(n:Int):V.cells (.int k n)=[.int k n]:=rfl
theorem asl (k:IntKind)(n:Int):fM (.int k n)=true:=rfl
theorem asn (b:Bool):V.cells (.bool b)=[.bool b]:=rfl
theorem aso (b:Bool):fM (.bool b)=true:=rfl
theorem asq (s:List UInt8):V.cells (.str s)=[.str s]:=rfl
theorem asr (s:List UInt8):fM (.str s)=true:=rfl
theorem asu (c:Cap)(l:List V):V.cells (.ay c l)=[.ay c l]:=rfl
theorem asv (c:Cap)(l:List V):fM (.ay c l)=true:=rfl
theorem asw (l:aR.Loc)(s o:Nat):V.cells (.ref l s o)=[.ref l s o]:=rfl
theorem asx (l:aR.Loc)(s o:Nat):fM (.ref l s o)=true:=rfl
theorem asy (cs:List V)(o:Nat):V.cells (.aY cs o)=[.aY cs o]:=rfl
theorem asz (cs:List V)(o:Nat):fM (.aY cs o)=true:=rfl
theorem asA (f:Fn)(a b:List V):V.cells (.fn f a b)=[.fn f a b]:=rfl
theorem asB (f:Fn)(a b:List V):fM (.fn f a b)=true:=rfl
theorem asC {α:Type}(f:α->V)(l:List α):V.cells (lv f l)=[lv f l]:=rfl
theorem asD:dU []=true:=rfl
theorem afT (x:V)(l:List V):dU (x::l)=(oneCell x&& dU l):=rfl
theorem asE (k:IntKind)(n:Int):oneCell (.int k n)=true:=rfl
theorem asF (b:Bool):oneCell (.bool b)=true:=rfl
theorem asG (s:List UInt8):oneCell (.str s)=true:=rfl
theorem asH {α:Type}(f:α->V)(l:List α):oneCell (lv f l)=true:=rfl
theorem asI (c:Cap)(l:List V):oneCell (.ay c l)=true:=rfl
theorem asJ (l:aR.Loc)(s o:Nat):oneCell (.ref l s o)=true:=rfl
theorem asK (cs:List V)(o:Nat):oneCell (.aY cs o)=true:=rfl
theorem asL (cs:List V):fM (.agg cs)=true:=rfl
theorem asM {α:Type}(f:α->V)(l:List α):fM (lv f l)=true:=rfl
theorem Oh (x:Operand)(h:zG E d=false):opC E S fr σ st ⟨d,.move x,ty,pos,gG,gd⟩=some (fr.ev E x,fr,σ):=by show Option.map _ (if zG E d=true then xU σ (fr.ev E x) else some (fr.ev E x,σ))=_;rw[if_neg (by rw[h];simp)];rfl
theorem Zx (x:Operand):opC E S fr σ st ⟨d,.assign x,ty,pos,gG,gd⟩=some (fr.ev E x,fr,σ):=rfl
theorem asN (op:BinOp)(t u:TypeId)(x y:Operand):opC E S fr σ st ⟨d,.binOp op t x y u,ty,pos,gG,gd⟩=(tu E.P op t (fr.ev E x) (fr.ev E y)).map fun v=>(v,fr,σ):=by simp only[opC,d9];cases tu E.P op t (fr.ev E x) (fr.ev E y)<;>rfl
theorem asO (op:UnOp)(t:TypeId)(x:Operand):opC E S fr σ st ⟨d,.unOp op t x,ty,pos,gG,gd⟩=(Ew op (fr.ev E x)).map fun v=>(v,fr,σ):=by simp only[opC,d9];cases Ew op (fr.ev E x)<;>rfl
theorem afU (t:TypeId)(x:Operand)(f:Nat):opC E S fr σ st ⟨d,.fieldAddr t x f,ty,pos,gG,gd⟩=(xR E.P t f).bind fun p=>match fr.ev E x with
 |.ref loc s off=>some (.ref loc s (off+p.1),fr,σ)|.aY cs off=>some (.aY cs (off+p.1),fr,σ)|_=>none:=by
 simp only[opC,d9];cases xR E.P t f with
 |none=>rfl|some p=>obtain⟨o,u⟩:=p;simp only[Option.bind_some];cases fr.ev E x<;>rfl
theorem Zy (t:TypeId)(x:Operand):opC E S fr σ st ⟨d,.load t x,ty,pos,gG,gd⟩=(match fr.ev E x with
 |.ref loc s off=>(σ.bQ loc s).bind fun cs=>(kN E.P t cs off).map fun v=>(v,fr,σ)
 |.aY cs off=>(kN E.P t cs off).map fun v=>(v,fr,σ)
 |_=>none):=by
 simp only[opC,d9];cases fr.ev E x with
 |ref loc s off=>
  simp only;cases σ.bQ loc s with
  |none=>rfl|some cs=>simp only[Option.bind_some];cases kN E.P t cs off<;>rfl
 |aY cs off=>simp only;cases kN E.P t cs off<;>rfl|_=>rfl
theorem asP (t:TypeId)(x:Operand)(i:Nat):opC E S fr σ st ⟨some i,.box t x,ty,pos,gG,gd⟩=if AZ E t (some i)=true then (if aW (er (fr.ev E x))=true/\fM (fr.ev E x)=true then some (.aY (er (fr.ev E x)).cells 0,fr,σ) else none) else if dU (fr.ev E x).cells/\fM (fr.ev E x) then some (.ref (fr.d,i) st 0,fr,σ.setObj (fr.d,i) st (.cells (fr.ev E x).cells)) else none:=by
 show Option.map _ (if AZ E t (some i)=true then _ else (some (fr.d,i)).bind _)=_;by_cases hz:AZ E t (some i)=true
 ·simp only[hz,if_true]
  split<;>rfl
 ·simp only[hz,dL,if_false,Option.bind_some]
  split<;>rfl
theorem afV (t:TypeId)(i:Nat):opC E S fr σ st ⟨some i,.alloc t,ty,pos,gG,gd⟩=(kC E.P t).bind fun z=>if dU z.cells then some (.ref (fr.d,i) st 0,fr,σ.setObj (fr.d,i) st (.cells z.cells)) else none:=by
 simp only[opC,d9,Option.map_some,Option.bind_some];cases kC E.P t with
 |none=>rfl|some z=>simp only[Option.bind_some];split<;>rfl
theorem Zz (t:TypeId)(a x:Operand):opC E S fr σ st ⟨d,.store t a x,ty,pos,gG,gd⟩=(match fr.ev E a with
 |.ref loc s off=>(σ.bQ loc s).bind fun cs=>
  if some (fr.ev E x).cells.length=fq E.P t/\off+(fr.ev E x).cells.length<=cs.length/\dU (fr.ev E x).cells then some (aL,fr,σ.setObj loc s (.cells (iT cs off (fr.ev E x).cells))) else none
 |_=>none):=by
 simp only[opC,d9];cases fr.ev E a with
 |ref loc s off=>
  simp only;cases σ.bQ loc s with
  |none=>rfl|some cs=>simp only[Option.bind_some];split<;>rfl
 |_=>rfl
theorem asQ (t:TypeId)(x i:Operand):opC E S fr σ st ⟨d,.indexAddr t x i,ty,pos,gG,gd⟩=(qU E.P t (fr.ev E x) (fr.ev E i)).map fun v=>(v,fr,σ):=by simp only[opC,d9];cases qU E.P t (fr.ev E x) (fr.ev E i)<;>rfl
theorem ZA (x:Operand)(i:Nat):opC E S fr σ st ⟨d,.extract x i,ty,pos,gG,gd⟩=(match fr.ev E x with
 |.bB vs=>(vs[i]?).map fun v=>(v,fr,σ)
 |_=>none):=by
 simp only[opC,d9];cases fr.ev E x with
 |bB vs=>simp only;cases vs[i]? <;>rfl|_=>rfl
theorem afW (x:Operand)(t:TypeId):opC E S fr σ st ⟨d,.call ⟨.builtin .len, #[x], #[t]⟩,ty,pos,gG,gd⟩=(rV E σ t (fr.ev E x)).map fun n=>(.int .i64 (n:Nat),fr,σ):=by show (Option.map _ (((#[t]:Array TypeId)[0]?).bind fun t=>(rV E σ t (fr.ev E x)).map fun n=>(V.int .i64 (n:Nat),σ)))=_;rw[show (#[t]:Array TypeId)[0]? =some t from rfl,Option.bind_some];cases rV E σ t (fr.ev E x)<;>rfl
end
attribute [go_sem] dL tu lY CO Ew decide_true decide_false List.getElem?_cons_succ List.getElem?_cons_zero beq_true beq_false Bool.not_true Bool.not_false Zm Bool.false_and Bool.and_false Bool.true_and Bool.and_true asf asg ash Oh Zx asN asO afU Zy asP afV Zz asQ ZA afW Od afK afL afJ fZ Oc arV Bh arW arX arY arZ zP afN ar2 ar3 map_eq afO ar4 ar5 Oe Vb ar0 ar1 asc ase Zw iG afR Zq Zr Zt ar7 ar8 ar9 asa asb Zu Zv afQ Option.bind_some Option.map_some Option.getD_some zD ofValue kL if_true if_false asi asj asn asq asC asu asw asy asA asl aso asr asv asx asz asB asD afT asE asF asG asH asI asJ asK asL asM and_self and_true true_and
def zQ:Code->List Nat->Option Code
 |c,[]=>some c|.seq a b,i::l=>if i=0 then zQ a l else zQ b l|.cond _ a b,i::l=>if i=0 then zQ a l else zQ b l|.block _ a,_::l=>zQ a l|.loop a,_::l=>zQ a l|.scope a,_::l=>zQ a l|.rangeFunc _ _ a b,i::l=>if i=0 then zQ a l else zQ b l|_,_=>none
def oQ (b:Option Code)(l:List Nat):Option Code:=b.bind fun c=>zQ c l
section
variable {E:Env}{fr:Fr}{σ:ak}
def Ve (E:Env)(c:Code)(fr:Fr)(σ:ak)(Q:Ex->Fr->ak->Prop):Prop:=bH E (.loop c) fr σ Q
theorem bH.lp {c:Code}{Q:Ex->Fr->ak->Prop}(h:Ve E c fr σ Q):bH E (.loop c) fr σ Q:=h
def Oi:Code->Nat
 |.region i _ _=>i|.seq a _=>Oi a|.loop a=>Oi a|.scope a=>Oi a|.block _ a=>Oi a|_=>0
theorem Ve.at (k:Nat){c:Code}{Q:Ex->Fr->ak->Prop}(_h:Is (Oi c) k)(h:Ve E c fr σ Q):Ve E c fr σ Q:=h
theorem afX {n:Nat}(cs:List V):bG (n+2) σ (.agg cs)=(cs.mapM (bG (n+1) σ)).map .agg:=by
 by_cases hp:aW (.agg cs)=true
 ·rw[mY hp]
  have:∀cs:List V,cB cs=true->cs.mapM (bG (n+1) σ)=some cs:=by
   intro cs;induction cs with
   |nil=>intro _;rfl|cons a l ih=>intro h;simp only[cB,aT] at h;rw[j5,mY h.1,ih h.2];rfl
  rw[this cs Cq];rfl
 ·conv=>lhs;unfold bG
  simp only[hp,if_false,dL]
theorem ZB {n:Nat}(cs:List V):bG (n+2) σ (.bB cs)=(cs.mapM (bG (n+1) σ)).map .bB:=by
 by_cases hp:aW (.bB cs)=true
 ·rw[mY hp]
  have:∀cs:List V,cB cs=true->cs.mapM (bG (n+1) σ)=some cs:=by
   intro cs;induction cs with
   |nil=>intro _;rfl|cons a l ih=>intro h;simp only[cB,aT] at h;rw[j5,mY h.1,ih h.2];rfl
  rw[this cs Cq];rfl
 ·conv=>lhs;unfold bG
  simp only[hp,if_false,dL]
def afY (sz:Nat)(σ:ak)(c:Cap)(n:Nat):Prop:=c= .nil\/∃s,c= .own sz s/\σ.top s=n/\s<σ.next
theorem afY.o {sz s n:Nat}(h1:Is (σ.top s) n)(h2:s<σ.next):afY sz σ (.own sz s) n:=.inr ⟨s,rfl,h1,h2⟩
end
section
variable {E:Env}{S:kH}{fr:Fr}{σ:ak}{st:Nat}{d:Option Tmp}{ty:TypeId}{pos:String}{gG:Array Edge}{gd:Option (Nat×Bool)}
end
def afZ (P:Program)(t u:TypeId)(sz iO:Nat)(z:V):Prop:=∃e ag,nW P t=some e/\fq P e=some sz/\xQ P e=some iO/\pI P e=some ag/\kC P e=some z/\z.cells.length=sz/\0<sz/\(ag||sz==1)=true/\Bj P u=true
theorem afZ.mk {P:Program}{t u:TypeId}{sz iO:Nat}{z:V}(e:TypeId)(ag:Bool)(h1:nW P t=some e)(h2:fq P e=some sz)(h3:xQ P e=some iO)(h4:pI P e=some ag)(h5:kC P e=some z)(h6:z.cells.length=sz)(h7:0<sz)(h8:(ag||sz==1)=true)(h9:Bj P u=true):afZ P t u sz iO z:=⟨e,ag,h1,h2,h3,h4,h5,h6,h7,h8,h9⟩
section
variable {E:Env}{S:kH}{fr:Fr}{σ:ak}{st:Nat}{d:Option Tmp}{ty:TypeId}{pos:String}{gG:Array Edge}{gd:Option (Nat×Bool)}
theorem af0 (t:TypeId)(n:Nat)(l:List (Nat×Operand))(h:CQ E d=false):opC E S fr σ st ⟨d,.buildSlice t n l.toArray,ty,pos,gG,gd⟩=(zF E t n (l.map fun p=>(p.1,fr.ev E p.2))).map fun v=>(v,fr,σ):=by unfold opC;dsimp only;unfold d9;dsimp only;rw[h,if_neg aD];cases zF E t n (l.map fun p=>(p.1,fr.ev E p.2))<;>rfl
end
section
variable {E:Env}{S:kH}{fr:Fr}{σ:ak}{st:Nat}{d:Option Tmp}{ty:TypeId}{pos:String}{gG:Array Edge}{gd:Option (Nat×Bool)}
theorem af2 {P:Program}{t:TypeId}{s:List UInt8}{k:IntKind}{i:Int}(h:Zn P t=true):GU P t (.str s) (.int k i)=(aN s i).map fun b=>.int .u8 (b.toNat:Nat):=by
 unfold Zn at h;unfold GU;split at h
 ·rename_i he
  rw[he];simp only[idx,oG,Option.bind_some,aN];split
  ·simp only[Option.bind_some];rfl
  ·rfl
 ·simp at h
def imax (a b:Int):Int:=if b>a then b else a
def tV (a b:Int):Int:=if b<a then b else a
end
theorem len1 (v:V):[v].length=1:=rfl
attribute [go_sem] af2 afX ZB af0 fQ List.map_nil len1 Bl implies_true eq_self
inductive Ty where
 |int (k:IntKind)
 |bool
 |str
 |slice (t:Ty)
 |st (n:Nat)
 deriving DecidableEq
inductive Cp where
 |any
 |sh
 |nil
 |full
 |own (t:Nat)
structure Vec (n:Nat) where
 l:List Int
 h:l.length=n
def Vec.set {n:Nat}(v:Vec n)(i y:Int):Vec n:=⟨v.l.set i.toNat y,by rw[List.length_set,v.h]⟩
def Vec.rep (n:Nat)(y:Int):Vec n:=⟨List.replicate n y,List.length_replicate⟩
def Vec.lit (n:Nat)(l:List Int):Vec n:=if h:l.length=n then ⟨l,h⟩ else Vec.rep n 0
inductive wP where
 |i (k:IntKind)
 |a (k:IntKind) (n:Nat)
inductive nM where
 |i (k:IntKind) (x:Int)
 |a (k:IntKind) (n:Nat) (v:Vec n)
def nM.w:nM->Nat
 |.i _ _=>1|.a _ n _=>n
def nM.vs:nM->List V
 |.i k x=>[.int k x]|.a k _ v=>v.l.map (V.int k)
def l6:List nM->List V
 | []=>[]|s::l=>s.vs++l6 l
def H8:wP->Type
 |.i _=>Int|.a _ n=>Vec n
def EN:List wP->Type
 | []=>Unit| [k]=>H8 k|k::h::l=>H8 k×EN (h::l)
def Oj:(k:wP)->H8 k->nM
 |.i k,x=>.i k x|.a k n,x=>.a k n x
def yw:(l:List wP)->EN l->List nM
 | [],_=>[]| [k],x=>[Oj k x]|k::h::l,p=>Oj k p.1::yw (h::l) p.2
def Vf {n m:Nat}(v:Vec n):Option (Vec m):=if h:n=m then some (h▸v) else none
def H9:(k:wP)->nM->Option (H8 k)
 |.i k,.i k' x=>if k'=k then some x else none|.a k n,.a k' _ v=>if k'=k then Vf (m:=n) v else none|_,_=>none
def Bn:(l:List wP)->List nM->Option (EN l)
 | []=>fun vs=>match vs with
   | []=>some ()|_::_=>none
 | [k]=>fun vs=>match vs with
   | [v]=>H9 k v|_=>none
 |k::h::l=>fun vs=>match vs with
  | []=>none|v::vs=>match H9 k v with
   |some x=>match Bn (h::l) vs with
    |some p=>some (x,p)|none=>none
   |none=>none
section
variable (T:Nat->Type)
def Den:Ty->Type
 |.int _=>Int|.bool=>Bool|.str=>List UInt8|.slice t=>List (Den t)|.st n=>T n
def pV:List Ty->Type
 | []=>Unit| [t]=>Den T t|t::u::l=>Den T t×pV (u::l)
inductive au where
 |int (k:IntKind) (n:Int)
 |bool (b:Bool)
 |jA (b:Bool)
 |str (s:List UInt8)
 |iC
 |gQ
 |gD
 |iH
 |fF
 |agg (cs:List au)
 |bB (cs:List au)
 |ay (c:Cp) (t:Ty) (l:List (Den T t))
 |ref (o off:Nat)
 |aY (cs:List au) (off:Nat)
 |cu (o:Nat)
 |dV (k e:Ty) (m:List (Den T k×Den T e))
 |fn (f:Nat) (a b:List au)
 |opt (j:Nat) (w:Bool) (v:au)
 |aM (o:Nat) (t:Ty)
 |sub (o:Nat) (t:Ty) (a b:Int)
 |lT (o:Nat) (t:Ty) (i:Int) (off:Nat)
 |sg (ss:List nM)
 |sv (o off:Nat) (k:IntKind) (n:Nat) (lo hi:Option Int)
 |sel (o off:Nat) (k:IntKind) (n:Nat) (i:Int) (m:Nat)
 |yx (k:IntKind) (n:Nat) (v:Vec n) (i:Int)
 |undef
 |gone
inductive bA where
 |cells (cs:List (au T))
 |map (k e:Ty) (m:List (Den T k×Den T e))
 |smap (ks vs:List (au T))
 |arr (t:Ty) (l:List (Den T t))
 |sg (ss:List nM)
 |gone
 |ro (b:bA)
structure aH where
 fr:List (Nat×au T)
 ob:List (Nat×bA T)
inductive aC where
 |d (t:Ty)
 |l (c:Cp) (t:Ty)
 |agg (l:List aC)
 |ref (o off:Nat)
 |aY (l:List aC) (off:Nat)
 |cu (o:Nat)
 |dV (k e:Ty)
 |fn (f:Nat) (a b:List aC)
 |fF
 |aM (o:Nat) (t:Ty)
 |sub (o:Nat) (t:Ty)
 |sg (l:List wP)
 |undef
mutual
def qA:aC->Type
 |.d t=>Den T t|.l _ t=>List (Den T t)|.agg l=>av l|.ref _ _=>Unit|.aY l _=>av l|.cu _=>Unit|.dV k e=>List (Den T k×Den T e)|.fn _ a b=>av a×av b|.fF=>Unit|.aM _ _=>Unit|.sub _ _=>Int×Int|.sg l=>EN l|.undef=>Unit
def av:List aC->Type
 | []=>Unit| [k]=>qA k|k::h::l=>qA k×av (h::l)
end
inductive fA where
 |cells (l:List aC)
 |st (n:Nat)
 |map (k e:Ty)
 |arr (t:Ty)
 |sg (l:List wP)
def Dj:fA->Type
 |.cells l=>av T l|.st n=>T n|.map k e=>List (Den T k×Den T e)|.arr t=>List (Den T t)|.sg l=>EN l
def eD:List (Nat×fA)->Type
 | []=>Unit| [(_,k)]=>Dj T k| (_,k)::h::l=>Dj T k×eD (h::l)
def EO:List (Nat×aC)->Type
 | []=>Unit| [(_,k)]=>qA T k| (_,k)::h::l=>qA T k×EO (h::l)
structure Shape where
 sl:List (Nat×aC)
 ob:List (Nat×fA)
def qY:Shape->Type
 | ⟨s,[]⟩=>EO T s| ⟨s,o::os⟩=>EO T s×eD T (o::os)
def Out:List (Ex×Shape)->Type
 | []=>Empty| [(_,s)]=>qY T s| (_,s)::h::l=>qY T s⊕Out (h::l)
end
structure iI where
 T:Nat->Type
 d:(n:Nat)->T n
 lf:Nat->List Ty
 to:(n:Nat)->pV T (lf n)->T n
 of:(n:Nat)->T n->pV T (lf n)
 enc:(n:Nat)->T n->V
 ty:TypeId->Option Ty
 gl:Nat->Option ((k:IntKind)×(n:Nat)×Vec n)
structure fC (R:iI) where
 args:List aC
 res:List aC
 F:av R.T args->Option (av R.T res)
 d:av R.T res
 own:Bool:=false
 alt:Bool:=false
structure Ol (R:iI) where
 a:List aC
 b:List aC
 el:List aC
 F:av R.T a->av R.T b->Option (List (av R.T el))
def F0:Nat:=1000000
inductive sw where
 |no
 |arr (t:Ty)
 |Ia (g:Nat) (a b cs:List aC)
def tX (T:Nat->Type):sw->Type
 |.no=>Unit|.arr t=>List (Den T t)|.Ia _ a b cs=>av T a×av T b×av T cs
def sw.is:sw->Bool
 |.no=>false|_=>true
structure mD (R:iI) where
 args:List aC
 obs:List (Nat×fA)
 res:List aC
 F:av R.T args->eD R.T obs->Option (av R.T res×eD R.T obs)
 jB:sw
 gV:List (Nat×fA)
 G:av R.T args->eD R.T obs->Option (tX R.T jB×eD R.T gV)
def nN {R:iI}(args:List aC)(obs:List (Nat×fA))(res:List aC)(F:av R.T args->eD R.T obs->Option (av R.T res×eD R.T obs)):mD R:=⟨args,obs,res,F,.no,[],fun _ _=>none⟩
def ZC {R:iI}(args:List aC)(obs:List (Nat×fA))(jB:sw)(gV:List (Nat×fA))(G:av R.T args->eD R.T obs->Option (tX R.T jB×eD R.T gV)):mD R:=⟨args,obs,[],fun _ _=>none,jB,gV,G⟩
structure FO (R:iI) where
 a:List aC
 b:List aC
 cs:List aC
 el:List aC
 F:av R.T a->av R.T b->av R.T cs->Option (List (av R.T el))
 q:Bool
structure IR (R:iI) where
 it:Nat->List (Ol R)
 im:Nat->List (mD R)
 io:Nat->List (FO R)
structure Note where
 K:List Nat
 O:List Nat
 sh:Shape
 outs:List (Ex×Shape)
structure bC where
 loops:List (Nat×Note)
 joins:List (Nat×Note)
def look {α:Type}:List (Nat×α)->Nat->Option α
 | [],_=>none| (j,x)::l,i=>bif Nat.beq j i then some x else look l i
section
variable (R:iI)
def aP:(t:Ty)->Den R.T t->V
 |.int k=>fun n=>.int k n
 |.bool=>fun b=>.bool b
 |.str=>fun s=>.str s
 |.slice t=>fun l=>.ay .sh (l.map (aP t))
 |.st n=>fun x=>R.enc n x
def encs:(l:List Ty)->pV R.T l->List V
 | [],_=>[]| [t],x=>[aP R t x]|t::u::l,p=>aP R t p.1::encs (u::l) p.2
def dA:Ty->Nat
 |.st n=>(R.lf n).length|_=>1
def Ib:(t:Ty)->Den R.T t
 |.int _=>(0:Int)|.bool=>false|.str=>([]:List UInt8)|.slice t=>([]:List (Den R.T t))|.st n=>R.d n
def Bo (c:Cp):(t:Ty)->Den R.T t->au R.T
 |.int k=>fun n=>.int k n
 |.bool=>fun b=>.bool b
 |.str=>fun s=>.str s
 |.slice t=>fun l=>.ay c t l
 |.st _=>fun _=>.undef
def fJ (c:Cp):(l:List Ty)->pV R.T l->List (au R.T)
 | [],_=>[]| [t],x=>[Bo R c t x]|t::u::l,p=>Bo R c t p.1::fJ c (u::l) p.2
def iJ (c:Cp):(t:Ty)->Den R.T t->au R.T
 |.st n=>fun x=>.agg (fJ R c (R.lf n) (R.of n x))
 |.int k=>fun n=>.int k n
 |.bool=>fun b=>.bool b
 |.str=>fun s=>.str s
 |.slice t=>fun l=>.ay c t l
def pW {t u:Ty}(l:List (Den R.T t)):Option (List (Den R.T u)):=if h:t=u then some (h▸l) else none
def Vg (k:IntKind):au R.T->Option Int
 |.int k' n=>if k=k' then some n else none|_=>none
def Vh:au R.T->Option Bool
 |.bool b=>some b|.jA b=>some b|_=>none
def Vi:au R.T->Option (List UInt8)
 |.str s=>some s|_=>none
def EP (t:Ty):au R.T->Option (List (Den R.T t))
 |.ay _ _ l=>pW R l|.fF=>some []|_=>none
def tY:(t:Ty)->au R.T->Option (Den R.T t)
 |.int k=>fun v=>Vg R k v
 |.bool=>fun v=>Vh R v
 |.str=>fun v=>Vi R v
 |.slice t=>fun v=>EP R t v
 |.st _=>fun _=>none
def hd1:List (au R.T)->au R.T
 | [v]=>v|_=>.gone
def Dk:(l:List Ty)->List (au R.T)->Option (pV R.T l)
 | []=>fun vs=>match vs with
   | []=>some ()|_::_=>none
 | [t]=>fun vs=>tY R t (hd1 R vs)
 |t::u::l=>fun vs=>match vs with
  | []=>none|v::vs=>match tY R t v with
   |some x=>match Dk (u::l) vs with
    |some p=>some (x,p)|none=>none
   |none=>none
def ER (n:Nat):au R.T->Option (R.T n)
 |.agg cs=>match Dk R (R.lf n) cs with
  |some p=>some (R.to n p)|none=>none
 |_=>none
def tZ:(t:Ty)->au R.T->Option (Den R.T t)
 |.st n=>fun v=>ER R n v
 |.int k=>fun v=>Vg R k v
 |.bool=>fun v=>Vh R v
 |.str=>fun v=>Vi R v
 |.slice t=>fun v=>EP R t v
def au.cells {T:Nat->Type}:au T->List (au T)
 |.agg cs=>cs|v=>[v]
mutual
def nE {T:Nat->Type}(o:Nat):au T->Bool
 |.ref p _=>Nat.beq p o|.cu p=>Nat.beq p o|.agg cs=>nO o cs|.bB cs=>nO o cs|.aY cs _=>nO o cs|.fn _ a b=>nO o a||nO o b|.opt _ _ v=>nE o v|.aM p _=>Nat.beq p o|.sub p _ _ _=>Nat.beq p o|.lT p _ _ _=>Nat.beq p o|.sv p _ _ _ _ _=>Nat.beq p o|.sel p _ _ _ _ _=>Nat.beq p o|_=>false
def nO {T:Nat->Type}(o:Nat):List (au T)->Bool
 | []=>false|v::l=>nE o v||nO o l
end
def bA.nE {T:Nat->Type}(o:Nat):bA T->Bool
 |.cells cs=>nO o cs|.smap ks vs=>nO o ks||nO o vs|.ro b=>bA.nE o b|_=>false
mutual
def wk {T:Nat->Type}(t:Nat):au T->au T
 |.ay (.own u) ty l=>bif Nat.beq u t then .ay .any ty l else .ay (.own u) ty l|.agg cs=>.agg (zR t cs)|.bB cs=>.bB (zR t cs)|.aY cs off=>.aY (zR t cs) off|.fn f a b=>.fn f (zR t a) (zR t b)|.opt j w v=>.opt j w (wk t v)|v=>v
def zR {T:Nat->Type}(t:Nat):List (au T)->List (au T)
 | []=>[]|v::l=>wk t v::zR t l
end
def bA.wk {T:Nat->Type}(t:Nat):bA T->bA T
 |.cells cs=>.cells (zR t cs)|.smap ks vs=>.smap (zR t ks) (zR t vs)|.ro b=>.ro (bA.wk t b)|o=>o
def l7 {α:Type}(f:α->α):List (Nat×α)->List (Nat×α)
 | []=>[]| (i,x)::l=>(i,f x)::l7 f l
def jE {α:Type}(i:Nat):List (Nat×α)->List (Nat×α)
 | []=>[]| (j,x)::l=>bif Nat.beq j i then jE i l else (j,x)::jE i l
def aH.wk {T:Nat->Type}(t:Nat)(st:aH T):aH T:=⟨l7 (aR.wk t) st.fr,l7 (bA.wk t) st.ob⟩
def ZE {T:Nat->Type}(j:Nat):au T->au T
 |.opt i w v=>bif Nat.beq i j then .gone else .opt i w v|v=>v
def aH.put {T:Nat->Type}(st:aH T)(i:Nat)(v:au T):aH T:={st with fr:=(i,v)::l7 (ZE i) (jE i st.fr)}
def aH.gN {T:Nat->Type}(st:aH T)(d:Option Nat)(v:au T):aH T:=match d with
 |some i=>st.put i v|none=>st
def ZF {T:Nat->Type}(j:Nat)(b:Bool):au T->au T
 |.opt i w v=>bif Nat.beq i j then (bif (b==w) then v else .undef) else .opt i w v|v=>v
def aH.learn {T:Nat->Type}(st:aH T)(j:Nat)(b:Bool):aH T:={st with fr:=(j,.jA b)::l7 (ZF j b) (jE j st.fr)}
def aH.Ic {T:Nat->Type}(st:aH T)(c:Operand)(b:Bool):aH T:=match c with
 |.tmp j=>st.learn j b|_=>st
def Bp {T:Nat->Type}(o:Nat)(v:au T):au T:=bif nE o v then .gone else v
def ES {T:Nat->Type}(o:Nat):List (au T)->List (au T)
 | []=>[]|v::l=>Bp o v::ES o l
def bA.kill {T:Nat->Type}(o:Nat):bA T->bA T
 |.cells cs=>.cells (ES o cs)|v=>bif bA.nE o v then .gone else v
def aH.new {T:Nat->Type}(st:aH T)(o:Nat)(b:bA T):aH T:=⟨l7 (Bp o) st.fr,(o,b)::l7 (bA.kill o) (jE o st.ob)⟩
def aH.set {T:Nat->Type}(st:aH T)(o:Nat)(b:bA T):aH T:={st with ob:=(o,b)::jE o st.ob}
def aH.del {T:Nat->Type}(st:aH T)(o:Nat):aH T:={st with ob:=jE o st.ob}
def ZG {T:Nat->Type}:bA T->bA T
 |.ro b=>ZG b|b=>b
def mE {T:Nat->Type}(st:aH T)(o:Nat):Option (bA T):=match look st.ob o with
 |some b=>some (ZG b)|none=>none
def qZ {T:Nat->Type}:bA T->Bool
 |.ro _=>true|.gone=>true|_=>false
def bg (i:Nat):List Nat->Bool
 | []=>false|j::l=>Nat.beq i j||bg i l
mutual
def solid {T:Nat->Type}(W:List Nat):au T->Bool
 |.ay (.own _) _ _=>false|.ref o _=>!(bg o W)|.cu o=>!(bg o W)|.agg cs=>uY W cs|.bB cs=>uY W cs|.aY cs _=>uY W cs|.fn _ a b=>uY W a&& uY W b|.opt _ _ _=>false|.aM o _=>!(bg o W)|.sub o _ _ _=>!(bg o W)|.lT o _ _ _=>!(bg o W)|.sv o _ _ _ _ _=>!(bg o W)|.sel o _ _ _ _ _=>!(bg o W)|.gone=>false|_=>true
def uY {T:Nat->Type}(W:List Nat):List (au T)->Bool
 | []=>true|v::l=>solid W v&& uY W l
end
def pX {T:Nat->Type}(W:List Nat):bA T->Bool
 |.cells cs=>uY W cs|.map _ _ _=>true|.smap ks vs=>uY W ks&& uY W vs|.arr _ _=>true|.sg _=>true|.ro b=>pX W b|.gone=>false
def qB {α:Type}(p:Nat->α->Bool)(f:α->α)(l:List (Nat×α)):List Nat->List (Nat×α)
 | []=>[]|i::is=>match look l i with
  |some x=>bif p i x then (i,f x)::qB p f l is else qB p f l is|none=>qB p f l is
def ZH {T:Nat->Type}:au T->au T
 |.ay (.own _) t l=>.ay .any t l|v=>v
def base {T:Nat->Type}(W K O:List Nat)(mark:bA T->bA T)(st:aH T):aH T:=
 ⟨qB (fun i v=>!(bg i W)&& solid W (ZH v)) ZH st.fr K,qB (fun o b=>!(bg o W)&& pX W b) mark st.ob O⟩
def aH.over {T:Nat->Type}(st b:aH T):aH T:=⟨st.fr++b.fr,st.ob++b.ob⟩
def ET {T:Nat->Type}:Value->Option (au T)
 |.bool b=>some (.jA b)|.int k n=>some (.int k n)|.string s=>some (.str s.data.toList)|.pointer none=>some .iC|.slice none 0 0=>some .fF|.map none=>some .gD|.nilFunc=>some .gQ|.nilIface=>some .iH|_=>none
def Ie {T:Nat->Type}:List Value->Option (List (au T))
 | []=>some []|v::l=>match ET v with
  |some x=>match Ie l with
   |some y=>some (x::y)|none=>none
  |none=>none
def Ig {T:Nat->Type}:Value->Option (au T)
 |.agg cs=>match Ie cs.toList with
  |some l=>some (.agg l)|none=>none
 |v=>ET v
def Vj {T:Nat->Type}(g:List (Nat×Bool)):au T->Option (au T)
 |.opt j w v=>match look g j with
  |some u=>some (bif u==w then v else .undef)|none=>none
 |v=>some v
def dF {T:Nat->Type}(g:List (Nat×Bool))(st:aH T):Operand->Option (au T)
 |.tmp t=>match look st.fr t with
  |some v=>Vj g v|none=>none
 |.const v=>Ig v|.func f=>some (.fn f [] [])|.global _=>none
def mZ {T:Nat->Type}(g:List (Nat×Bool))(st:aH T):List Operand->Option (List (au T))
 | []=>some []|x::l=>match dF g st x with
  |some v=>match mZ g st l with
   |some vs=>some (v::vs)|none=>none
  |none=>none
def Ih {T:Nat->Type}(g:List (Nat×Bool))(st:aH T):List (Nat×Operand)->Option (List (Nat×au T))
 | []=>some []| (i,x)::l=>match dF g st x with
   |some v=>match Ih g st l with
    |some vs=>some ((i,v)::vs)|none=>none
   |none=>none
def Bq {α:Type}(l:List α)(a b:Int):List α:=(l.take b.toNat).drop a.toNat
def zS {T:Nat->Type}(st:aH T):au T->au T
 |.ref o off=>match mE st o with
  |some (.cells cs)=>.aY cs off|_=>.ref o off
 |.cu o=>match mE st o with
  |some (.map k e m)=>.dV k e m|_=>.cu o
 |.aM o t=>match mE st o with
  |some (.arr t' l)=>if t'=t then .ay .sh t' l else .aM o t|_=>.aM o t
 |.sub o t a b=>match mE st o with
  |some (.arr t' l)=>if t'=t then .ay .sh t' (Bq l a b) else .sub o t a b|_=>.sub o t a b
 |v=>v
def Om {T:Nat->Type}(st:aH T):List (au T)->List (au T)
 | []=>[]|v::l=>zS st v::Om st l
def EU {T:Nat->Type}(st:aH T):au T->au T
 |.fn f a b=>.fn f (Om st a) (Om st b)|.agg cs=>.agg (Om st cs)|v=>zS st v
def ng {T:Nat->Type}(st:aH T):List (au T)->List (au T)
 | []=>[]|v::l=>EU st v::ng st l
def ZI {T:Nat->Type}:au T->Bool
 |.agg _=>false|.sg _=>false|.bB _=>false|.gone=>false|.undef=>false|.opt _ _ _=>false|_=>true
def Dl {T:Nat->Type}:List (au T)->Bool
 | []=>true|v::l=>ZI v&& Dl l
def wQ {T:Nat->Type}:au T->Bool
 |.gone=>false|.sg _=>false|.opt _ _ _=>false|_=>true
mutual
def nT {T:Nat->Type}:au T->Bool
 |.int _ _=>true|.bool _=>true|.jA _=>true|.str _=>true|.iC=>true|.gQ=>true|.gD=>true|.iH=>true|.ay .sh _ _=>true|.agg cs=>ni cs|.bB cs=>ni cs|.dV _ _ _=>true|.aY cs _=>ni cs|.fn _ a b=>ni a&& ni b|.sg _=>true|_=>false
def ni {T:Nat->Type}:List (au T)->Bool
 | []=>true|v::l=>nT v&& ni l
end
def wR {T:Nat->Type}:au T->au T
 |.ay _ t l=>.ay .sh t l|v=>v
def Oo {T:Nat->Type}:List (au T)->List (au T)
 | []=>[]|v::l=>wR v::Oo l
def Dm {T:Nat->Type}:au T->au T
 |.ay _ t l=>.ay .sh t l|.agg cs=>.agg (Oo cs)|v=>v
def Oq {T:Nat->Type}:au T->Bool
 |.ay _ _ _=>true|.fF=>true|v=>nT v
def Vk {T:Nat->Type}:List (au T)->Bool
 | []=>true|v::l=>Oq v&& Vk l
def af3 {T:Nat->Type}:au T->Bool
 |.agg cs=>Vk cs|v=>Oq v
def yA {T:Nat->Type}:List (au T)->Bool
 | []=>true|v::l=>af3 v&& yA l
mutual
def vW:aC->Bool
 |.d _=>true|.l c _=>match c with
  |.any=>true|.sh=>true|_=>false
 |.agg l=>gP l|.aY l _=>gP l|.dV _ _=>true|.fn _ a b=>gP a&& gP b|.sg _=>true|_=>false
def gP:List aC->Bool
 | []=>true|k::l=>vW k&& gP l
def dep:aC->Nat
 |.agg l=>l8 l+3|.aY l _=>l8 l+3|.fn _ a b=>max (l8 a) (l8 b)+3|_=>3
def l8:List aC->Nat
 | []=>0|k::l=>max (dep k) (l8 l)
end
def ZJ:Ty->Bool
 |.int _=>true|.bool=>true|.str=>true|_=>false
def Br:List aC->Bool
 | []=>true|.d t::l=>ZJ t&& Br l|.sg _::l=>Br l|_=>false
mutual
def encS:(k:aC)->qA R.T k->V
 |.d t,x=>aP R t x|.l _ t,x=>aP R (.slice t) x|.agg l,x=>.agg (aF l x)|.aY l off,x=>.aY (aF l x) off|.dV k e,x=>.dV (List.map (fun p=>aP R k p.1) x) (List.map (fun p=>aP R e p.2) x)
 |.fn f a b,x=>.fn (.func f) (aF a x.1) (aF b x.2)|.fF,_=>.ay .sh []|.ref _ _,_=>aL|.cu _,_=>aL|.aM _ _,_=>aL|.sub _ _,_=>aL|.sg l,x=>.agg (l6 (yw l x))|.undef,_=>aL
def aF:(l:List aC)->av R.T l->List V
 | [],_=>[]| [k],x=>[encS k x]|k::h::l,p=>encS k p.1::aF (h::l) p.2
end
def bq:List V->V
 | [v]=>v|vs=>.bB vs
def Ii:Cp->Cp->Bool
 |_,.any=>true|.sh,.sh=>true|.nil,.nil=>true|.nil,.own _=>true|.full,.own _=>true|.full,.full=>true|.own t,.own u=>Nat.beq t u|_,_=>false
def Vl (c:Cp)(t:Ty):au R.T->Option (List (Den R.T t))
 |.ay c' _ l=>bif Ii c' c then pW R l else none|.fF=>bif Ii .nil c then some [] else none|_=>none
def Ij {k e k' e':Ty}(m:List (Den R.T k'×Den R.T e')):Option (List (Den R.T k×Den R.T e)):=if h:k'=k/\e'=e then some (by rw[<-h.1,<-h.2];exact m) else none
mutual
def pk:(k:aC)->au R.T->Option (qA R.T k)
 |.d t=>fun v=>tZ R t v
 |.l c t=>fun v=>Vl R c t v
 |.agg l=>fun v=>match v with
  |.agg cs=>dQ l cs|_=>none
 |.ref o off=>fun v=>match v with
  |.ref p off'=>bif Nat.beq p o&& Nat.beq off' off then some () else none|_=>none
 |.aY l off=>fun v=>match v with
  |.aY cs off'=>bif Nat.beq off' off then dQ l cs else none|_=>none
 |.cu o=>fun v=>match v with
  |.cu p=>bif Nat.beq p o then some () else none|_=>none
 |.dV k e=>fun v=>match v with
  |.dV _ _ m=>Ij R m|_=>none
 |.fn f a b=>fun v=>match v with
  |.fn f' a' b'=>bif Nat.beq f' f then (match dQ a a' with
   |some x=>match dQ b b' with
    |some y=>some (x,y)|none=>none
   |none=>none) else none
  |_=>none
 |.fF=>fun v=>match v with
  |.fF=>some ()|_=>none
 |.aM o t=>fun v=>match v with
  |.aM p t'=>bif Nat.beq p o then (if t'=t then some () else none) else none|_=>none
 |.sub o t=>fun v=>match v with
  |.sub p t' a b=>bif Nat.beq p o then (if t'=t then some (a,b) else none) else none|_=>none
 |.sg l=>fun v=>match v with
  |.sg ss=>Bn l ss|_=>none
 |.undef=>fun v=>match v with
  |.undef=>some ()|_=>none
def dQ:(l:List aC)->List (au R.T)->Option (av R.T l)
 | []=>fun vs=>match vs with
   | []=>some ()|_::_=>none
 | [k]=>fun vs=>match vs with
   | [v]=>pk k v|_=>none
 |k::h::l=>fun vs=>match vs with
  | []=>none|v::vs=>match pk k v with
   |some x=>match dQ (h::l) vs with
    |some p=>some (x,p)|none=>none
   |none=>none
end
mutual
def up (c:Cp):(k:aC)->qA R.T k->au R.T
 |.d t,x=>iJ R c t x|.l c t,x=>.ay c t x|.agg l,x=>.agg (eF c l x)|.ref o off,_=>.ref o off|.aY l off,x=>.aY (eF c l x) off|.cu o,_=>.cu o|.dV k e,x=>.dV k e x|.fn f a b,x=>.fn f (eF c a x.1) (eF c b x.2)|.fF,_=>.fF|.aM o t,_=>.aM o t|.sub o t,x=>.sub o t x.1 x.2|.sg l,x=>.sg (yw l x)|.undef,_=>.undef
def eF (c:Cp):(l:List aC)->av R.T l->List (au R.T)
 | [],_=>[]| [k],x=>[up c k x]|k::h::l,p=>up c k p.1::eF c (h::l) p.2
end
def Dn:(k:fA)->bA R.T->Option (Dj R.T k)
 |.cells l=>fun o=>match o with
  |.cells cs=>dQ R l cs|_=>none
 |.st n=>fun o=>match o with
  |.cells cs=>ER R n (.agg cs)|_=>none
 |.map k e=>fun o=>match o with
  |.map _ _ m=>Ij R m|_=>none
 |.arr t=>fun o=>match o with
  |.arr _ l=>pW R l|_=>none
 |.sg l=>fun o=>match o with
  |.sg ss=>Bn l ss|_=>none
def mG:(k:fA)->Dj R.T k->bA R.T
 |.cells l,x=>.cells (eF R .any l x)|.st n,x=>.cells (fJ R .any (R.lf n) (R.of n x))|.map k e,x=>.map k e x|.arr t,x=>.arr t x|.sg l,x=>.sg (yw l x)
def uZ (st:List (Nat×au R.T)):(l:List (Nat×aC))->Option (EO R.T l)
 | []=>some ()| [(i,k)]=>match look st i with
   |some v=>pk R k v|none=>none
 | (i,k)::h::l=>match look st i with
   |some v=>match pk R k v with
    |some x=>match uZ st (h::l) with
     |some p=>some (x,p)|none=>none
    |none=>none
   |none=>none
def Ot:(l:List (Nat×aC))->EO R.T l->List (Nat×au R.T)
 | [],_=>[]| [(i,k)],x=>[(i,up R .any k x)]| (i,k)::h::l,p=>(i,up R .any k p.1)::Ot (h::l) p.2
def lF (st:List (Nat×bA R.T)):(l:List (Nat×fA))->Option (eD R.T l)
 | []=>some ()| [(i,k)]=>match look st i with
   |some v=>Dn R k v|none=>none
 | (i,k)::h::l=>match look st i with
   |some v=>match Dn R k v with
    |some x=>match lF st (h::l) with
     |some p=>some (x,p)|none=>none
    |none=>none
   |none=>none
def iF:(l:List (Nat×fA))->eD R.T l->List (Nat×bA R.T)
 | [],_=>[]| [(i,k)],x=>[(i,mG R k x)]| (i,k)::h::l,p=>(i,mG R k p.1)::iF (h::l) p.2
def pack (st:aH R.T):(s:Shape)->Option (qY R.T s)
 | ⟨s,[]⟩=>uZ R st.fr s| ⟨s,o::os⟩=>match uZ R st.fr s with
   |some x=>match lF R st.ob (o::os) with
    |some y=>some (x,y)|none=>none
   |none=>none
def uf {T:Nat->Type}:au T->Bool
 |.fF=>true|.ay .nil _ l=>l.isEmpty|.ay .full _ l=>l.isEmpty|_=>false
def ug {T:Nat->Type}(W:List Nat):List (Nat×aC)->aH T->aH T
 | [],st=>st| (i,.aM o t)::l,st=>match look st.fr i with
   |some v=>bif uf v&& bg o W then ug W l ⟨(i,.aM o t)::(st.new o (.arr t [])).fr,(st.new o (.arr t [])).ob⟩ else ug W l st|none=>ug W l st
 |_::l,st=>ug W l st
def Ik {T:Nat->Type}(W:List Nat)(o:Nat)(k:fA)(st:aH T):aH T:=match k with
 |.cells l=>match l with
  | [.aM p t]=>match look st.ob o with
    |some (.cells cs)=>match cs with
     | [v]=>bif uf v&& bg p W&& !(Nat.beq o p) then ⟨(st.new p (.arr t [])).fr,(o,.cells [.aM p t])::(st.new p (.arr t [])).ob⟩ else st|_=>st
    |_=>st
  | [.sub p t]=>match look st.ob o with
    |some (.cells cs)=>match cs with
     | [v]=>bif uf v&& bg p W&& !(Nat.beq o p) then ⟨(st.new p (.arr t [])).fr,(o,.cells [.sub p t 0 0])::(st.new p (.arr t [])).ob⟩ else st|_=>st
    |_=>st
  |_=>st
 |_=>st
def Il {T:Nat->Type}(W:List Nat):List (Nat×fA)->aH T->aH T
 | [],st=>st| (o,k)::l,st=>Il W l (Ik W o k st)
def nP (W:List Nat)(st:aH R.T)(s:Shape):Option (qY R.T s):=pack R (ug W s.sl (Il W s.ob st)) s
def unpack:(s:Shape)->qY R.T s->aH R.T
 | ⟨s,[]⟩,x=>⟨Ot R s x,[]⟩| ⟨s,o::os⟩,x=>⟨Ot R s x.1,iF R (o::os) x.2⟩
def EW:Ex->Ex->Bool
 |.normal,.normal=>true|.ret,.ret=>true|.exit i,.exit j=>Nat.beq i j|_,_=>false
def wS (W:List Nat)(e:Ex)(st:aH R.T):(l:List (Ex×Shape))->Option (Out R.T l)
 | []=>none| [(x,s)]=>bif EW e x then nP R W st s else none| (x,s)::h::l=>bif EW e x then (match nP R W st s with
   |some p=>some (.inl p)|none=>none) else (match wS W e st (h::l) with
   |some p=>some (.inr p)|none=>none)
def zT {β:Type}(b:aH R.T)(k:Ex->aH R.T->Option β):(l:List (Ex×Shape))->Out R.T l->Option β
 | [],_=>none| [(x,s)],p=>k x (b.over (unpack R s p))| (x,s)::h::l,p=>Sum.elim (fun q=>k x (b.over (unpack R s q))) (fun q=>zT b k (h::l) q) p
end
end aR
end
