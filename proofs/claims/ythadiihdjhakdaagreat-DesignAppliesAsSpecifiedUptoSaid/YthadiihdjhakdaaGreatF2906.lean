import Derived.Test.YthadiihdjhakdaaGreatF2905
set_option linter.all false
section
namespace aY
open Go
section
variable {E:Env}
def pE (S T:l5):Prop:=(∀c fr σ r,S.code c fr σ=some r->T.code c fr σ=some r)/\∀f args d σ r,S.call f args d σ=some r->T.call f args d σ=some r
variable {S T:l5}
theorem YN (h:pE S T){f:FuncId}{args:List V}{v:V}(hc:xK E S f args=some v):xK E T f args=some v:=by
 unfold xK at hc⊢;cases hg:E.qV f with
 |some g=>simp only[hg] at hc⊢;exact hc|none=>simp only[hg,iR] at hc⊢;obtain⟨x,h1,h2⟩:=hc;exact⟨x,h.2 _ _ _ _ _ h1,h2⟩
theorem afg (h:pE S T){l:Nat}{args:List V}{σ:au}{r:V×au}(hc:yT S l args σ=some r):yT T l args σ=some r:=by
 unfold yT at hc⊢;simp only[iR] at hc⊢;obtain⟨r0,hl,hc⟩:=hc;refine⟨r0,hl,?_⟩;split at hc
 ·rename_i hst
  rw[if_pos hst];simp only[iR] at hc⊢;obtain⟨⟨e1,bT,σ1⟩,Mf,hc⟩:=hc;refine⟨(e1,bT,σ1),h.1 _ _ _ _ Mf,?_⟩;cases e1 with
  |normal=>
   simp only[iR] at hc⊢;obtain⟨r1,hl1,hc⟩:=hc;refine⟨r1,hl1,?_⟩;split at hc
   ·rename_i Dh
    rw[if_pos Dh];simp only[iR] at hc⊢;obtain⟨x,hb,y,hy,hc⟩:=hc;exact⟨x,h.1 _ _ _ _ hb,y,hy,hc⟩
   ·simp at hc
  |exit i=>simp at hc|ret=>simp at hc
 ·simp at hc
theorem afh (h:pE S T){d:Nat}{dst:Option Nat}{σ:au}{fv:V}{args:List V}{r:V×au}(hc:lH E S d dst σ fv args=some r):lH E T d dst σ fv args=some r:=by
 unfold lH at hc⊢;split at hc
 ·split at hc
  ·rename_i hi;simp only[hi,if_true]
   obtain⟨x,h1,h2⟩:=aZ.1 hc;exact aZ.2 ⟨x,h.2 _ _ _ _ _ h1,h2⟩
  ·rename_i hi
   simp only[iR] at hc;obtain⟨bQ,h1,v,h2,h3⟩:=hc;simp only[hi,h1,Option.bind_some,YN h h2];exact h3
 ·exact afg h hc
 ·simp at hc
theorem aoQ (h:pE S T){σ:au}{st:Nat}{loc:Option Loc}{fv:V}{args:List V}{r:V×au}(hc:qX E S σ st loc fv args=some r):qX E T σ st loc fv args=some r:=by
 unfold qX at hc⊢;split at hc
 ·split at hc
  ·rename_i hi
   simp only[iR] at hc;obtain⟨bQ,h1,v,h2,h3⟩:=hc;simp only[hi,if_true,h1,Option.bind_some,h.2 _ _ _ _ _ h2];exact h3
  ·cases hc
 ·cases hc
theorem YO (h:pE S T){fr:Fr}{σ:au}{st:Nat}{o:Oper}{r:V×Fr×au}(hc:opC E S fr σ st o=some r):opC E T fr σ st o=some r:=by
 unfold opC at hc⊢;split at hc
 ·rename_i c ho
  simp only[ho] at hc⊢;split at hc
  ·exact hc
  ·rename_i f hf
   split at hc
   ·rename_i fZ
    simp only[fZ,if_true];simp only[aZ] at hc⊢;obtain⟨x,h1,h2⟩:=hc;exact⟨x,aoQ h h1,h2⟩
   rename_i fZ;simp only[fZ,if_false,dO];simp only[aZ] at hc⊢;obtain⟨x,h1,h2⟩:=hc;exact⟨x,afh h h1,h2⟩
  ·simp at hc
 ·simp at hc
 ·exact hc
theorem MC (h:pE S T)(all:List Oper):∀(os:List Oper)(st:Nat)(fr:Fr)(σ:au)(r:Fr×au),opsE E S all st os fr σ=some r->opsE E T all st os fr σ=some r:=by
 intro os;induction os with
 |nil=>intro st fr σ r hc;exact hc|cons o os ih=>
  intro st fr σ r hc;simp only[opsE,iR] at hc⊢;obtain⟨t,h1,h2⟩:=hc;refine⟨t,h1,?_⟩;cases t with
  |true=>simp only[if_true,iR] at h2⊢;obtain⟨x,h3,h4⟩:=h2;exact⟨x,YO h h3,ih _ _ _ _ h4⟩
  |false=>simp only[dO,if_false] at h2⊢;exact ih _ _ _ _ h2
theorem ME (h:pE S T)(all:List Oper):∀(os:List Oper)(st:Nat)(fr:Fr)(σ:au)(r:List dS×Fr×au),o7 E S all st os fr σ=some r->o7 E T all st os fr σ=some r:=by
 intro os;induction os with
 |nil=>intro st fr σ r hc;exact hc|cons o os ih=>
  intro st fr σ r hc;simp only[o7,iR] at hc⊢;obtain⟨t,h1,h2⟩:=hc;refine⟨t,h1,?_⟩;cases t with
  |true=>simp only[if_true,iR,aZ] at h2⊢;obtain⟨x,h3,y,h4,h5⟩:=h2;exact⟨x,YO h h3,y,ih _ _ _ _ h4,h5⟩
  |false=>simp only[dO,if_false,aZ] at h2⊢;obtain⟨y,h4,h5⟩:=h2;exact⟨y,ih _ _ _ _ h4,h5⟩
theorem aoR (h:pE S T){ops:List Oper}{base i:Nat}{fr:Fr}{σ:au}{r:Fr×au}(hc:nA E S ops base i fr σ=some r):nA E T ops base i fr σ=some r:=by
 unfold nA at hc⊢;split at hc
 ·exact hc
 ·simp only[iR] at hc⊢
  obtain⟨t,h1,h2⟩:=hc;refine⟨t,h1,?_⟩;cases t with
  |true=>simp only[if_true,aZ] at h2⊢;obtain⟨x,h3,h4⟩:=h2;exact⟨x,YO h h3,h4⟩
  |false=>simpa using h2
theorem aoS (h:pE S T){ms:List Nat}{ops:List Oper}{base:Nat}{x y:Fr×au}(hf:Free E S ms ops base x y):Free E T ms ops base x y:=by obtain⟨s,T',W,h0,hn,Ml,hloc,hr⟩:=hf;refine⟨s,T',W,h0,hn,Ml,fun i hi x hx=>?_,hr⟩;obtain⟨y,h1,h2⟩:=hloc i hi x hx;exact⟨y,aoR h h1,h2⟩
theorem EZ (h:pE S T):∀(c:Code)(fr:Fr)(σ:au)(r:Ex×Fr×au),fB E S c fr σ=some r->fB E T c fr σ=some r:=by
 intro c;induction c with
 |region id ops dr=>
  intro fr σ r hc;simp only[fB] at hc⊢;split at hc
  ·rename_i hd
   simp only[hd,if_true,iR] at hc⊢;obtain⟨x,h1,h2⟩:=hc;refine⟨x,ME h _ _ _ _ _ _ h1,?_⟩;split at h2
   ·rename_i hp;rw[if_pos hp];exact h2
   ·rename_i hp
    rw[if_neg hp];unfold XG at h2⊢;split at h2
    ·rename_i hf
     rw[if_pos ⟨hf.1,aoS h hf.2⟩];exact h2
    ·cases h2
  ·rename_i hd
   simp only[hd,dO,if_false,aZ] at hc⊢;obtain⟨x,h1,h2⟩:=hc;exact⟨x,MC h _ _ _ _ _ _ h1,h2⟩
 |seq a b iha ihb=>
  intro fr σ r hc;simp only[fB,iR] at hc⊢;obtain⟨⟨e,bT,σ1⟩,h1,h2⟩:=hc;refine⟨(e,bT,σ1),iha _ _ _ h1,?_⟩;cases e with
  |normal=>exact ihb _ _ _ h2|exit i=>exact h2|ret=>exact h2
 |cond c a b iha ihb=>
  intro fr σ r hc;simp only[fB,iR] at hc⊢;obtain⟨t,h1,h2⟩:=hc;refine⟨t,h1,?_⟩;cases t with
  |true=>simp only[if_true] at h2⊢;exact iha _ _ _ h2|false=>simp only[dO,if_false] at h2⊢;exact ihb _ _ _ h2
 |block id c ih=>intro fr σ r hc;simp only[fB,aZ] at hc⊢;obtain⟨x,h1,h2⟩:=hc;exact⟨x,ih _ _ _ h1,h2⟩
 |loop c ih=>
  intro fr σ r hc;simp only[fB,iR] at hc⊢;obtain⟨⟨e,bT,σ1⟩,h1,h2⟩:=hc;refine⟨(e,bT,σ1),ih _ _ _ h1,?_⟩;cases e with
  |normal=>exact h.1 _ _ _ _ h2|exit i=>exact h2|ret=>exact h2
 |rangeFunc f ps a b iha ihb=>
  intro fr σ r hc;simp only[fB] at hc⊢;split at hc
  ·rename_i hf
   rw[if_pos hf];simp only[iR] at hc⊢;obtain⟨x,h1,h2⟩:=hc;exact⟨x,afh h h1,h2⟩
  ·simp at hc
 |scope c ih=>intro fr σ r hc;simp only[fB] at hc⊢;exact ih _ _ _ hc|_=>intro fr σ r hc;simpa [fB] using hc
theorem aoT (h:pE S T){f:FuncId}{args:List V}{d:Nat}{σ:au}{r:V×au}(hc:CY E S f args d σ=some r):CY E T f args d σ=some r:=by
 simp only[CY,iR] at hc⊢;obtain⟨fn,h1,c,h2,h3⟩:=hc;refine⟨fn,h1,c,h2,?_⟩;split at h3
 ·rename_i hok
  rw[if_pos hok];simp only[iR] at h3⊢;obtain⟨x,h4,h5⟩:=h3;exact⟨x,h.1 _ _ _ _ h4,h5⟩
 ·simp at h3
theorem aoU:∀n,pE (dX E n) (dX E (n+1)):=by
 intro n;induction n with
 |zero=>exact⟨(fun _ _ _ _ h=>bC),(fun _ _ _ _ _ h=>bC)⟩
 |succ n ih=>exact⟨fun c fr σ r h=>EZ ih c fr σ r h,fun f args d σ r h=>by
   have h':Al E (dX E n) f args d σ=some r:=h;show Al E (dX E (n+1)) f args d σ=some r;unfold Al at h'⊢;split at h'
   ·exact h'
   ·exact aoT ih h'⟩
theorem pE.refl (S:l5):pE S S:=⟨fun _ _ _ _ h=>h,fun _ _ _ _ _ h=>h⟩
theorem pE.trans {S T U:l5}(h:pE S T)(g:pE T U):pE S U:=⟨fun _ _ _ _ x=>g.1 _ _ _ _ (h.1 _ _ _ _ x),fun _ _ _ _ _ x=>g.2 _ _ _ _ _ (h.2 _ _ _ _ _ x)⟩
theorem nD {n m:Nat}(h:n<=m):pE (dX E n) (dX E m):=by
 induction m with
 |zero=>obtain rfl:n=0:=ah
        exact .refl _
 |succ m ih=>
  by_cases e:n=m+1
  ·subst e;exact .refl _
  ·exact(ih ah).trans (aoU m)
end
section
variable (E:Env)
def bL (all:List Oper)(st:Nat)(os:List Oper)(fr:Fr)(σ:au)(Q:Fr->au->Prop):Prop:=
 ∃n fr' σ',opsE E (dX E n) all st os fr σ=some (fr',σ')/\Q fr' σ'
def iZ (ms:List Nat)(all:List Oper)(st:Nat)(os:List Oper)(fr:Fr)(σ:au)(fs:List dS)(Q:Fr->au->Prop):Prop:=
 ∃n fs' fr' σ',o7 E (dX E n) all st os fr σ=some (fs',fr',σ')/\xO ms (fs++fs')=true/\Q fr' σ'
def bM (c:Code)(fr:Fr)(σ:au)(Q:Ex->Fr->au->Prop):Prop:=
 ∃n e fr' σ',fB E (dX E n) c fr σ=some (e,fr',σ')/\Q e fr' σ'
def Pure (f:FuncId)(args:List V)(v:V):Prop:=∃n,xK E (dX E n) f args=some v
def oI (f:FuncId)(args:List V)(d:Nat)(σ:au)(Q:V->au->Prop):Prop:=∃n v σ',(dX E n).call f args d σ=some (v,σ')/\Q v σ'
end
section
variable {E:Env}{fr:Fr}{σ:au}
theorem Pure.ok (hE:kX E){f:FuncId}{args:List V}{v:V}(h:Pure E f args v):qY E f args v:=h.elim fun _ h=>aoP hE h
theorem bL.mono {all:List Oper}{st:Nat}{os:List Oper}{Q Q':Fr->au->Prop}(h:bL E all st os fr σ Q)(hq:∀fr σ,Q fr σ->Q' fr σ):bL E all st os fr σ Q':=
 let ⟨n,fr',σ',h1,h2⟩:=h;⟨n,fr',σ',h1,hq _ _ h2⟩
theorem bM.mono {c:Code}{Q Q':Ex->Fr->au->Prop}(h:bM E c fr σ Q)(hq:∀e fr σ,Q e fr σ->Q' e fr σ):bM E c fr σ Q':=
 let ⟨n,e,fr',σ',h1,h2⟩:=h;⟨n,e,fr',σ',h1,hq _ _ _ h2⟩
theorem bL.nil {all:List Oper}{st:Nat}{Q:Fr->au->Prop}(h:Q fr σ):bL E all st [] fr σ Q:=⟨0,fr,σ,rfl,h⟩
theorem bL.op {all:List Oper}{st:Nat}{o:Oper}{os:List Oper}{v:V}{σ1:au}{Q:Fr->au->Prop}(hw:iw all fr o=some true)(hop:∀S,opC E S fr σ st o=some (v,fr,σ1))(h:bL E all (st+1) os (fr.put o.dst v) σ1 Q):bL E all st (o::os) fr σ Q:=by
 obtain⟨n,fr',σ',h1,h2⟩:=h;exact⟨n,fr',σ',by simp only[opsE,hw,Option.bind_some,if_true,hop,h1],h2⟩
theorem bL.skip {all:List Oper}{st:Nat}{o:Oper}{os:List Oper}{Q:Fr->au->Prop}(hw:iw all fr o=some false)(h:bL E all (st+1) os (fr.put o.dst aK) σ Q):bL E all st (o::os) fr σ Q:=by obtain⟨n,fr',σ',h1,h2⟩:=h;exact⟨n,fr',σ',by simp only[opsE,hw,Option.bind_some,dO,if_false,h1],h2⟩
theorem afi {d:Nat}{dst:Option Nat}{g:FuncId}{a b args bQ:List V}{v:V}{n:Nat}(hi:E.imp g=false)(has:(a++args++b).mapM (bn 20 σ)=some bQ)(hp:xK E (dX E n) g bQ=some v)(hc:((a++args++b).all (fun x=>aU (er x))||flat v)=true):lH E (dX E n) d dst σ (.fn (.func g) a b) args=some (v,σ):=by
 unfold lH;simp only[hi,dO,if_false,has,Option.bind_some,hp,hc,if_true]
theorem Sz {o:Oper}{f:Operand}{g:FuncId}{a b:List V}(hf:fr.ev E f= .fn (.func g) a b)(h:∀d,o.dst=some d->E.own g d=false):lI E fr o f=false:=by
 unfold lI;rw[hf];cases hd:o.dst with
 |none=>rfl|some d=>exact h d hd
def xY (E:Env)(f:FuncId)(bQ:List V)(sz:Nat)(l:List V):Prop:=∃n v σ1,(dX E n).call f bQ 1 au.init=some (v,σ1)/\∀st σ,(∃c,(c= .nil\/c= .full)/\tQ σ st σ1 v=some (.ay c l,σ))\/tQ σ st σ1 v=some (.ay (.own sz st) l,σ.dZ st l.length)
theorem xY.of {f:FuncId}{bQ:List V}{sz:Nat}{l:List V}{n:Nat}{c:Cap}{σ1:au}(h:(dX E n).call f bQ 1 au.init=some (.ay c l,σ1))(hp:bN l=true)(hc:c= .nil\/c= .full\/∃s,c= .own sz s/\σ1.top s=l.length):xY E f bQ sz l:=by
 refine⟨n,_,σ1,h,fun st σ=>?_⟩;rcases hc with rfl|rfl| ⟨s,rfl,ht⟩
 ·exact .inl ⟨.nil,.inl rfl,by unfold tQ;dsimp only;rw[if_pos hp]⟩
 ·exact .inl ⟨.full,.inr rfl,by unfold tQ;dsimp only;rw[if_pos hp]⟩
 ·exact .inr (by unfold tQ;dsimp only;rw[if_pos hp,if_pos ht])
theorem bL.own {all:List Oper}{st:Nat}{o:Oper}{os:List Oper}{Q:Fr->au->Prop}{c:Call}{f:Operand}{g:FuncId}{a b bQ l:List V}{d sz:Nat}(hw:iw all fr o=some true)(ho:o.op= .call c)(fC:c.callee= .value f)(hf:fr.ev E f= .fn (.func g) a b)(hd:o.dst=some d)(hown:E.own g d=true)(has:qW (E.vU g) σ (a++c.args.toList.map (fr.ev E)++b)=some bQ)(hp:xY E g bQ sz l)(hc:(a++c.args.toList.map (fr.ev E)++b).all (fun x=>aU (er x))=true)(h1:∀c,c= .nil\/c= .full->bL E all (st+1) os (fr.put o.dst (.ay c l)) σ Q)(h2:bL E all (st+1) os (fr.put o.dst (.ay (.own sz st) l)) (σ.dZ st l.length) Q)(hgi:E.imp g=false:=by intros;rfl):bL E all st (o::os) fr σ Q:=by
 obtain⟨m,v0,σ1,hm,hcp⟩:=hp;have fZ:lI E fr o f=true:=by unfold lI;rw[hf,hd];exact hown
 have go:∀(v:V)(σ2:au),tQ σ st σ1 v0=some (v,σ2)->bL E all (st+1) os (fr.put o.dst v) σ2 Q->bL E all st (o::os) fr σ Q:=by
  rintro v σ2 hr ⟨n,fr',σ',g1,g2⟩;have hm':=(nD (yQ n m)).2 _ _ _ _ _ hm;have g1':=MC (nD (Ae n m)) _ _ _ _ _ _ g1;refine⟨max n m,fr',σ',?_,g2⟩;have hov:qX E (dX E (max n m)) σ st (o.dst.map fun t=>(fr.d,E.cn t)) (.fn (.func g) a b) (c.args.toList.map (fr.ev E))=some (v,σ2):=by unfold qX;dsimp only;rw[if_pos hc,has,Option.bind_some,hm',Option.bind_some];show (if E.imp g=true then _ else _)=_;rw[if_neg (by rw[hgi];exact Bool.false_ne_true)];exact hr
  simp only[opsE,hw,Option.bind_some,if_true,opC,ho,fC,fZ];rw[hf,hov];simp only[Option.map_some,Option.bind_some,g1']
 rcases hcp st σ with ⟨c,hc,hr⟩|hr
 ·exact go _ _ hr (h1 c hc)
 ·exact go _ _ hr h2
theorem bL.call {all:List Oper}{st:Nat}{o:Oper}{os:List Oper}{v:V}{Q:Fr->au->Prop}{c:Call}{f:Operand}{g:FuncId}{a b bQ:List V}(hw:iw all fr o=some true)(ho:o.op= .call c)(fC:c.callee= .value f)(hf:fr.ev E f= .fn (.func g) a b)(hi:E.imp g=false)(has:(a++c.args.toList.map (fr.ev E)++b).mapM (bn 20 σ)=some bQ)(hp:Pure E g bQ v)(hc:((a++c.args.toList.map (fr.ev E)++b).all (fun x=>aU (er x))||flat v)=true)(h:bL E all (st+1) os (fr.put o.dst v) σ Q)(fZ:∀d,o.dst=some d->E.own g d=false:=by intros;rfl):bL E all st (o::os) fr σ Q:=by
 obtain⟨n,fr',σ',h1,h2⟩:=h;obtain⟨m,hm⟩:=hp;have hm':=YN (nD (yQ n m)) hm;have h1':=MC (nD (Ae n m)) _ _ _ _ _ _ h1;refine⟨max n m,fr',σ',?_,h2⟩;simp only[opsE,hw,Option.bind_some,if_true,opC,ho,fC,Sz hf fZ,dO,if_false,hf,afi hi has hm' hc,Option.map_some,h1']
def q9 (E:Env)(d:Nat)(dst:Option Nat):Option Loc:=(dst.map E.cn).map fun t=>(d,t)
theorem bL.SA {all:List Oper}{st:Nat}{o:Oper}{os:List Oper}{Q:Fr->au->Prop}{c:Call}{f:Operand}{g:FuncId}{a b:List V}(hw:iw all fr o=some true)(ho:o.op= .call c)(fC:c.callee= .value f)(hf:fr.ev E f= .fn (.func g) a b)(hi:E.imp g=true)(hp:oI E g (a++c.args.toList.map (fr.ev E)++b) (fr.d+1) σ (fun v σ1=>bL E all (st+1) os (fr.put o.dst (jP (q9 E fr.d o.dst) σ1 v).1) (jP (q9 E fr.d o.dst) σ1 v).2 Q))(fZ:∀d,o.dst=some d->E.own g d=false:=by intros;rfl):bL E all st (o::os) fr σ Q:=by
 obtain⟨m,v,σ1,hm,n,fr',σ',h1,h2⟩:=hp;have hm':=(nD (yQ n m)).2 _ _ _ _ _ hm;have h1':=MC (nD (Ae n m)) _ _ _ _ _ _ h1;refine⟨max n m,fr',σ',?_,h2⟩;have:lH E (dX E (max n m)) fr.d (o.dst.map E.cn) σ (.fn (.func g) a b) (c.args.toList.map (fr.ev E))=some (jP (q9 E fr.d o.dst) σ1 v):=by unfold lH;simp only[hi,if_true];rw[hm'];rfl
 simp only[opsE,hw,Option.bind_some,if_true,opC,ho,fC,Sz hf fZ,dO,if_false,hf,this,Option.map_some,h1']
theorem iZ.nil {ms:List Nat}{all:List Oper}{st:Nat}{fs:List dS}{Q:Fr->au->Prop}(hp:xO ms fs=true)(h:Q fr σ):iZ E ms all st [] fr σ fs Q:=⟨0,[],fr,σ,rfl,by simpa using hp,h⟩
theorem iZ.op {ms:List Nat}{all:List Oper}{st:Nat}{o:Oper}{os:List Oper}{v:V}{σ1:au}{fs:List dS}{Q:Fr->au->Prop}(hw:iw all fr o=some true)(hop:∀S,opC E S fr σ st o=some (v,fr,σ1))(h:iZ E ms all (st+1) os (fr.put o.dst v) σ1 (fs++[iy E all fr o true]) Q):iZ E ms all st (o::os) fr σ fs Q:=by
 obtain⟨n,fs',fr',σ',h1,h2,h3⟩:=h;exact⟨n,iy E all fr o true::fs',fr',σ',by simp only[o7,hw,Option.bind_some,if_true,hop,h1,Option.map_some],qN,h3⟩
theorem iZ.skip {ms:List Nat}{all:List Oper}{st:Nat}{o:Oper}{os:List Oper}{fs:List dS}{Q:Fr->au->Prop}(hw:iw all fr o=some false)(h:iZ E ms all (st+1) os (fr.put o.dst aK) σ (fs++[iy E all fr o false]) Q):iZ E ms all st (o::os) fr σ fs Q:=by
 obtain⟨n,fs',fr',σ',h1,h2,h3⟩:=h;exact⟨n,iy E all fr o false::fs',fr',σ',by simp only[o7,hw,Option.bind_some,dO,if_false,h1,Option.map_some],qN,h3⟩
theorem iZ.call {ms:List Nat}{all:List Oper}{st:Nat}{o:Oper}{os:List Oper}{v:V}{fs:List dS}{Q:Fr->au->Prop}{c:Call}{f:Operand}{g:FuncId}{a b bQ:List V}(hw:iw all fr o=some true)(ho:o.op= .call c)(fC:c.callee= .value f)(hf:fr.ev E f= .fn (.func g) a b)(hi:E.imp g=false)(has:(a++c.args.toList.map (fr.ev E)++b).mapM (bn 20 σ)=some bQ)(hp:Pure E g bQ v)(hc:((a++c.args.toList.map (fr.ev E)++b).all (fun x=>aU (er x))||flat v)=true)(h:iZ E ms all (st+1) os (fr.put o.dst v) σ (fs++[iy E all fr o true]) Q)(fZ:∀d,o.dst=some d->E.own g d=false:=by intros;rfl):iZ E ms all st (o::os) fr σ fs Q:=by
 obtain⟨n,fs',fr',σ',h1,h2,h3⟩:=h;obtain⟨m,hm⟩:=hp;have hm':=YN (nD (yQ n m)) hm;have h1':=ME (nD (Ae n m)) _ _ _ _ _ _ h1;refine⟨max n m,iy E all fr o true::fs',fr',σ',?_,qN,h3⟩;simp only[o7,hw,Option.bind_some,if_true,opC,ho,fC,Sz hf fZ,dO,if_false,hf,afi hi has hm' hc,Option.map_some,h1']
theorem iZ.own {ms:List Nat}{all:List Oper}{st:Nat}{o:Oper}{os:List Oper}{fs:List dS}{Q:Fr->au->Prop}{c:Call}{f:Operand}{g:FuncId}{a b bQ l:List V}{d sz:Nat}(hw:iw all fr o=some true)(ho:o.op= .call c)(fC:c.callee= .value f)(hf:fr.ev E f= .fn (.func g) a b)(hd:o.dst=some d)(hown:E.own g d=true)(has:qW (E.vU g) σ (a++c.args.toList.map (fr.ev E)++b)=some bQ)(hp:xY E g bQ sz l)(hc:(a++c.args.toList.map (fr.ev E)++b).all (fun x=>aU (er x))=true)(h1:∀c,c= .nil\/c= .full->iZ E ms all (st+1) os (fr.put o.dst (.ay c l)) σ (fs++[iy E all fr o true]) Q)(h2:iZ E ms all (st+1) os (fr.put o.dst (.ay (.own sz st) l)) (σ.dZ st l.length) (fs++[iy E all fr o true]) Q)(hgi:E.imp g=false:=by intros;rfl):iZ E ms all st (o::os) fr σ fs Q:=by
 obtain⟨m,v0,σ1,hm,hcp⟩:=hp;have fZ:lI E fr o f=true:=by unfold lI;rw[hf,hd];exact hown
 have go:∀(v:V)(σ2:au),tQ σ st σ1 v0=some (v,σ2)->iZ E ms all (st+1) os (fr.put o.dst v) σ2 (fs++[iy E all fr o true]) Q->iZ E ms all st (o::os) fr σ fs Q:=by
  rintro v σ2 hr ⟨n,fs',fr',σ',g1,g2,g3⟩;have hm':=(nD (yQ n m)).2 _ _ _ _ _ hm;have g1':=ME (nD (Ae n m)) _ _ _ _ _ _ g1;refine⟨max n m,iy E all fr o true::fs',fr',σ',?_,by simpa using g2,g3⟩;have hov:qX E (dX E (max n m)) σ st (o.dst.map fun t=>(fr.d,E.cn t)) (.fn (.func g) a b) (c.args.toList.map (fr.ev E))=some (v,σ2):=by unfold qX;dsimp only;rw[if_pos hc,has,Option.bind_some,hm',Option.bind_some];show (if E.imp g=true then _ else _)=_;rw[if_neg (by rw[hgi];exact Bool.false_ne_true)];exact hr
  simp only[o7,hw,Option.bind_some,if_true,opC,ho,fC,fZ];rw[hf,hov];simp only[Option.map_some,Option.bind_some,g1']
 rcases hcp st σ with ⟨c,hc,hr⟩|hr
 ·exact go _ _ hr (h1 c hc)
 ·exact go _ _ hr h2
theorem iZ.aoV {ms:List Nat}{all:List Oper}{st:Nat}{o:Oper}{os:List Oper}{fs:List dS}{Q:Fr->au->Prop}{c:Call}{f:Operand}{g:FuncId}{a b bQ:List V}{d m:Nat}{v0 v:V}{σ1 σ2:au}(hw:iw all fr o=some true)(ho:o.op= .call c)(fC:c.callee= .value f)(hf:fr.ev E f= .fn (.func g) a b)(hd:o.dst=some d)(hown:E.own g d=true)(hgi:E.imp g=true)(has:qW (E.vU g) σ (a++c.args.toList.map (fr.ev E)++b)=some bQ)(hc:(a++c.args.toList.map (fr.ev E)++b).all (fun x=>aU (er x))=true)(hm:(dX E m).call g bQ 1 au.init=some (v0,σ1))(hr:vW σ st (some (fr.d,E.cn d)) σ1 v0=some (v,σ2))(h:iZ E ms all (st+1) os (fr.put o.dst v) σ2 (fs++[iy E all fr o true]) Q):iZ E ms all st (o::os) fr σ fs Q:=by
 have fZ:lI E fr o f=true:=by unfold lI;rw[hf,hd];exact hown
 obtain⟨n,fs',fr',σ',g1,g2,g3⟩:=h;have hm':=(nD (yQ n m)).2 _ _ _ _ _ hm;have g1':=ME (nD (Ae n m)) _ _ _ _ _ _ g1;refine⟨max n m,iy E all fr o true::fs',fr',σ',?_,by simpa using g2,g3⟩;have hov:qX E (dX E (max n m)) σ st (o.dst.map fun t=>(fr.d,E.cn t)) (.fn (.func g) a b) (c.args.toList.map (fr.ev E))=some (v,σ2):=by unfold qX;dsimp only;rw[if_pos hc,has,Option.bind_some,hm',Option.bind_some];show (if E.imp g=true then _ else _)=_;rw[if_pos hgi,hd];exact hr
 simp only[o7,hw,Option.bind_some,if_true,opC,ho,fC,fZ];rw[hf,hov];simp only[Option.map_some,Option.bind_some,g1']
theorem iZ.SA {ms:List Nat}{all:List Oper}{st:Nat}{o:Oper}{os:List Oper}{fs:List dS}{Q:Fr->au->Prop}{c:Call}{f:Operand}{g:FuncId}{a b:List V}(hw:iw all fr o=some true)(ho:o.op= .call c)(fC:c.callee= .value f)(hf:fr.ev E f= .fn (.func g) a b)(hi:E.imp g=true)(hp:oI E g (a++c.args.toList.map (fr.ev E)++b) (fr.d+1) σ (fun v σ1=>iZ E ms all (st+1) os (fr.put o.dst (jP (q9 E fr.d o.dst) σ1 v).1) (jP (q9 E fr.d o.dst) σ1 v).2 (fs++[iy E all fr o true]) Q))(fZ:∀d,o.dst=some d->E.own g d=false:=by intros;rfl):iZ E ms all st (o::os) fr σ fs Q:=by
 obtain⟨m,v,σ1,hm,n,fs',fr',σ',h1,h2,h3⟩:=hp;have hm':=(nD (yQ n m)).2 _ _ _ _ _ hm;have h1':=ME (nD (Ae n m)) _ _ _ _ _ _ h1;refine⟨max n m,iy E all fr o true::fs',fr',σ',?_,qN,h3⟩;have:lH E (dX E (max n m)) fr.d (o.dst.map E.cn) σ (.fn (.func g) a b) (c.args.toList.map (fr.ev E))=some (jP (q9 E fr.d o.dst) σ1 v):=by unfold lH;simp only[hi,if_true];rw[hm'];rfl
 simp only[o7,hw,Option.bind_some,if_true,opC,ho,fC,Sz hf fZ,dO,if_false,hf,this,Option.map_some,h1']
end
def au.bump (σ:au)(k:Nat):au:={σ with next:=σ.next+k}
section
variable {E:Env}{fr:Fr}{σ:au}
theorem bM.region {id:Nat}{ops:Array Oper}{Q:Ex->Fr->au->Prop}(h:bL E ops.toList σ.next ops.toList fr (σ.bump ops.toList.length) (fun fr σ=>Q .normal fr σ)):bM E (.region id ops false) fr σ Q:=by obtain⟨n,fr',σ',h1,h2⟩:=h;exact⟨n,.normal,fr',σ',by simp only[fB,dO,if_false];rw[show opsE E (dX E n) ops.toList σ.next ops.toList fr {σ with next:=σ.next+ops.toList.length}=some (fr',σ') from h1];rfl,h2⟩
theorem bM.draw {id:Nat}{ops:Array Oper}{Q:Ex->Fr->au->Prop}(he:tV ops.toList=true)(h:iZ E (uU ops.toList) ops.toList σ.next ops.toList fr (σ.bump ops.toList.length) [] (fun fr σ=>Q .normal fr σ)):bM E (.region id ops true) fr σ Q:=by
 obtain⟨n,fs,fr',σ',h1,h2,h3⟩:=h;refine⟨n,.normal,fr',σ',?_,h3⟩;simp only[fB,if_true];rw[show o7 E (dX E n) ops.toList σ.next ops.toList fr {σ with next:=σ.next+ops.toList.length}=some (fs,fr',σ') from h1];simp only[Option.bind_some,he,Bool.true_and];rw[if_pos qN]
def pF (E:Env)(b:Code)(Q:Ex->Fr->au->Prop)(e:Ex)(fr:Fr)(σ:au):Prop:=match e with
 |.normal=>bM E b fr σ Q|e=>Q e fr σ
theorem bM.seq {a b:Code}{Q:Ex->Fr->au->Prop}(h:bM E a fr σ (pF E b Q)):bM E (.seq a b) fr σ Q:=by
 obtain⟨n,e,bT,σ1,h1,h2⟩:=h;cases e with
 |normal=>obtain⟨m,e,fr',σ',h3,h4⟩:=h2;refine⟨max n m,e,fr',σ',?_,h4⟩;simp only[fB,EZ (nD (Ae n m)) _ _ _ _ h1,Option.bind_some,EZ (nD (yQ n m)) _ _ _ _ h3]
 |exit i=>exact⟨n,.exit i,bT,σ1,Rk,h2⟩|ret=>exact⟨n,.ret,bT,σ1,Rk,h2⟩
theorem bM.skip {Q:Ex->Fr->au->Prop}(h:Q .normal fr σ):bM E .skip fr σ Q:=⟨0,.normal,fr,σ,rfl,h⟩
theorem bM.ret {Q:Ex->Fr->au->Prop}(h:Q .ret fr σ):bM E .ret fr σ Q:=⟨0,.ret,fr,σ,rfl,h⟩
theorem bM.exit {i:Nat}{Q:Ex->Fr->au->Prop}(h:Q (.exit i) fr σ):bM E (.exit i) fr σ Q:=⟨0,.exit i,fr,σ,rfl,h⟩
theorem bM.cond {c:Operand}{a b:Code}{t:Bool}{Q:Ex->Fr->au->Prop}(hc:fr.ev E c= .bool t)(ht:t=true->bM E a fr σ Q)(hf:t=false->bM E b fr σ Q):bM E (.cond c a b) fr σ Q:=by
 cases t with
 |true=>obtain⟨n,e,fr',σ',h1,h2⟩:=ht rfl;exact⟨n,e,fr',σ',by simp only[fB,hc,xJ,Option.bind_some,if_true,h1],h2⟩
 |false=>obtain⟨n,e,fr',σ',h1,h2⟩:=hf rfl;exact⟨n,e,fr',σ',by simp only[fB,hc,xJ,Option.bind_some,dO,if_false,h1],h2⟩
def u6 (id:Nat)(Q:Ex->Fr->au->Prop)(e:Ex)(fr:Fr)(σ:au):Prop:=match e with
 |.exit i=>if i=id then Q .normal fr σ else Q (.exit i) fr σ|e=>Q e fr σ
theorem bM.block {id:Nat}{c:Code}{Q:Ex->Fr->au->Prop}(h:bM E c fr σ (u6 id Q)):bM E (.block id c) fr σ Q:=by
 obtain⟨n,e,fr',σ',h1,h2⟩:=h;cases e with
 |normal=>exact⟨n,.normal,fr',σ',by simp only[fB,h1,Option.map_some],h2⟩|ret=>exact⟨n,.ret,fr',σ',by simp only[fB,h1,Option.map_some],h2⟩|exit i=>
  simp only[u6] at h2;split at h2
  ·rename_i hi
   exact⟨n,.normal,fr',σ',by simp only[fB,h1,Option.map_some,if_pos hi],h2⟩
  ·rename_i hi
   exact⟨n,.exit i,fr',σ',by simp only[fB,h1,Option.map_some,if_neg hi],h2⟩
theorem bM.scope {c:Code}{Q:Ex->Fr->au->Prop}(h:bM E c fr σ Q):bM E (.scope c) fr σ Q:=by obtain⟨n,e,fr',σ',h1,h2⟩:=h;exact⟨n,e,fr',σ',by simp only[fB,h1],h2⟩
theorem bM.label {l:Nat}{Q:Ex->Fr->au->Prop}(h:Q .normal fr σ):bM E (.label l) fr σ Q:=⟨0,.normal,fr,σ,by simp only[fB],h⟩
def Au (E:Env)(c:Code)(Q:Ex->Fr->au->Prop)(e:Ex)(fr:Fr)(σ:au):Prop:=match e with
 |.normal=>bM E (.loop c) fr σ Q|e=>Q e fr σ
theorem bM.loop {c:Code}{Q:Ex->Fr->au->Prop}(h:bM E c fr σ (Au E c Q)):bM E (.loop c) fr σ Q:=by
 obtain⟨n,e,bT,σ1,h1,h2⟩:=h;cases e with
 |normal=>obtain⟨m,e,fr',σ',h3,h4⟩:=h2;refine⟨max n m+1,e,fr',σ',?_,h4⟩;simp only[fB,EZ (nD (show n<=max n m+1 by omega)) _ _ _ _ h1,Option.bind_some];exact EZ (nD (yQ n m)) _ _ _ _ h3
 |exit i=>exact⟨n,.exit i,bT,σ1,Rk,h2⟩|ret=>exact⟨n,.ret,bT,σ1,Rk,h2⟩
def E5 (E:Env)(rs:List ResultVar)(R:V->au->Prop)(e:Ex)(fr:Fr)(σ:au):Prop:=match e with
 |.exit _=>False|_=>∃vs,rs.mapM (lJ E fr σ)=some vs/\R (match vs with| [v]=>v|vs=>.bq vs) σ
theorem oI.of {f:FuncId}{args:List V}{d:Nat}{fn:Func}{c:Code}{R:V->au->Prop}(hf:E.P.funcs[f]? =some fn)(hb:fn.body=some c)(hok:(decide (args.length<=fn.ntmps)&& jg fn.ntmps c)=true)(h:bM E c {d:=d,aj:=E.aj f,tm:=fun i=>args.getD i aK} σ (E5 E fn.results.toList R))(hcl:yV E f args=none:=by rfl):oI E f args d σ R:=by
 obtain⟨n,e,fr',σ',h1,h2⟩:=h;have hok':args.length<=fn.ntmps/\jg fn.ntmps c=true:=by simpa using hok
 have key:∀vs,fn.results.toList.mapM (lJ E fr' σ')=some vs->(e= .normal\/e= .ret)->(dX E (n+2)).call f args d σ=some ((match vs with| [v]=>v|vs=>.bq vs),σ'):=by intro vs hvs he;show Al E (dX E (n+1)) f args d σ=_;unfold Al;rw[hcl];show CY E (dX E (n+1)) f args d σ=_;have h3:(dX E (n+1)).code c {d:=d,aj:=E.aj f,tm:=fun i=>args.getD i aK} σ=some (e,fr',σ'):=h1;simp only[CY,hf,hb,Option.bind_some,if_pos hok',h3];rcases he with rfl|rfl<;>simp only[hvs,Option.map_some]<;>rcases vs with _| ⟨x,_| ⟨y,l⟩⟩<;>rfl
 cases e with
 |normal=>obtain⟨vs,h3,h4⟩:=h2;exact⟨n+2,_,σ',key vs h3 (.inl rfl),h4⟩
 |ret=>obtain⟨vs,h3,h4⟩:=h2;exact⟨n+2,_,σ',key vs h3 (.inr rfl),h4⟩
 |exit i=>exact h2.elim
theorem Pure.of {f:FuncId}{args:List V}{v:V}{fn:Func}{c:Code}(hs:E.qV f=none)(hf:E.P.funcs[f]? =some fn)(hb:fn.body=some c)(hok:(decide (args.length<=fn.ntmps)&& jg fn.ntmps c)=true)(h:bM E c {d:=1,aj:=E.aj f,tm:=fun i=>args.getD i aK} au.init (E5 E fn.results.toList (fun v0 σ=>bn 20 σ v0=some v)))(hcl:yV E f args=none:=by rfl):Pure E f args v:=by
 obtain⟨n,v0,σ',h1,h2⟩:=oI.of hf hb hok h hcl;exact⟨n,by simp only[xK,hs,h1,Option.bind_some,h2]⟩
theorem YP (fr:Fr)(d:Nat)(v:V):fr.put (some d) v=fr.set d v:=rfl
theorem aoW (fr:Fr)(v:V):fr.put none v=fr:=rfl
theorem afj (fr:Fr)(d:Nat)(v:V):(fr.set d v).tm d=v:=by simp[Fr.set,upd]
theorem ze (fr:Fr){d t:Nat}(v:V)(h:(t==d)=false):(fr.set d v).tm t=fr.tm t:=by
 have h':¬t=d:=Bt
 simp[Fr.set,upd,h']
theorem Ik (fr:Fr)(d:Nat)(v:V):(fr.set d v).d=fr.d:=rfl
theorem aoX (fr:Fr)(d:Nat)(v:V):(fr.set d v).aj=fr.aj:=rfl
theorem MF (fr:Fr)(t:Nat):fr.ev E (.tmp t)=fr.tm t:=rfl
theorem afk (fr:Fr)(v:Value):fr.ev E (.const v)=(ofValue v).getD (.raw v):=rfl
theorem afl (fr:Fr)(f:FuncId):fr.ev E (.func f)= .fn (.func f) [] []:=rfl
theorem aoY (σ:au)(k:Nat):(σ.bump k).next=σ.next+k:=rfl
theorem aoZ (σ:au)(l:aY.Loc)(s:Nat)(o:jo):(σ.setObj l s o).next=σ.next:=rfl
theorem ao0 (σ:au)(s n:Nat):(σ.dZ s n).next=σ.next:=rfl
theorem MG (σ:au)(s n:Nat):(σ.dZ s n).top s=n:=by simp[au.dZ,upd]
theorem SB (σ:au){s t:Nat}(n:Nat)(h:t≠s):(σ.dZ s n).top t=σ.top t:=by simp[au.dZ,upd,h]
theorem ao1 (σ:au)(k:Nat):(σ.bump k).top=σ.top:=rfl
theorem ao2 (σ:au)(l:aY.Loc)(s:Nat)(o:jo):(σ.setObj l s o).top=σ.top:=rfl
theorem afm {l l':aY.Loc}(h:vX l l'=false):¬l=l':=by rintro rfl;simp[vX] at h
theorem YQ (a b c d:Nat):vX (a,b) (c,d)=(b==d&& a==c):=rfl
theorem Av (σ:au)(l:aY.Loc)(s:Nat)(cs:List V):(σ.setObj l s (.cells cs)).dB l s=some cs:=by simp[au.setObj,au.dB,upd]
theorem afn (σ:au){l l':aY.Loc}(s s':Nat)(o:jo)(h:vX l l'=false):(σ.setObj l' s' o).dB l s=σ.dB l s:=by have h':=afm h;simp[au.setObj,au.dB,upd,h']
theorem ao3 (σ:au)(k:Nat)(l:aY.Loc)(s:Nat):(σ.bump k).dB l s=σ.dB l s:=rfl
theorem ao4 (σ:au)(t n:Nat)(l:aY.Loc)(s:Nat):(σ.dZ t n).dB l s=σ.dB l s:=rfl
theorem map_eq (σ:au)(l:aY.Loc)(s:Nat)(ks vs:List V):(σ.setObj l s (.map ks vs)).jw l s=some (ks,vs):=by simp[au.setObj,au.jw,upd]
theorem afo (σ:au){l l':aY.Loc}(s s':Nat)(o:jo)(h:vX l l'=false):(σ.setObj l' s' o).jw l s=σ.jw l s:=by have h':=afm h;simp[au.setObj,au.jw,upd,h']
theorem ao5 (σ:au)(k:Nat)(l:aY.Loc)(s:Nat):(σ.bump k).jw l s=σ.jw l s:=rfl
theorem ao6 (σ:au)(t n:Nat)(l:aY.Loc)(s:Nat):(σ.dZ t n).jw l s=σ.jw l s:=rfl
end
def Is {α:Type}(a b:α):Prop:=a=b
theorem Is.rfl {α:Type}{a:α}:Is a a:=Eq.refl a
def iv (n:Int):V:=.int .i64 n
def lv {α:Type}(f:α->V)(l:List α):V:=.ay .sh (l.map f)
theorem afp {α:Type}{f:α->V}(h:∀x,aU (f x)=true):∀l:List α,bN (l.map f)=true
 | []=>by simp[bN]|a::l=>by simp[bN,h a,afp h l]
theorem MH {α:Type}{f:α->V}(h:∀x,aU (f x)=true)(l:List α):aU (.ay .sh (l.map f))=true:=by simp only[aU];exact afp h l
theorem nX {α:Type}{f:α->V}(h:∀x,aU (f x)=true)(l:List α):aU (lv f l)=true:=MH h l
theorem ao7 (n:Int):aU (iv n)=true:=by simp[iv,aU]
theorem pG (l:List (List UInt8)):aU (lv V.str l)=true:=nX (fun _=>uN) l
theorem pI (l:List Int):aU (lv iv l)=true:=nX ao7 l
theorem qp (k:IntKind)(l:List Int):aU (lv (V.int k) l)=true:=nX (fun _=>uN) l
theorem qw (l:List Bool):aU (lv V.bool l)=true:=nX (fun _=>uN) l
attribute [go_sem] pG pI qp qw
def aR {α:Type}(l:List α)(i:Int):Option α:=if 0<=i/\i<l.length then l[i.toNat]? else none
def Aw (P:Program)(t:TypeId):Bool:=match P.underlying t with
 |some (.slice _)=>true|_=>false
def YR (P:Program)(t:TypeId):Bool:=match P.underlying t with
 |some .string=>true|_=>false
section
variable {E:Env}{fr:Fr}{σ:au}
def SC (Q:Ex->Fr->au->Prop)(fr:Fr)(σ:au):Prop:=Q .normal fr σ
theorem SC.i {Q:Ex->Fr->au->Prop}(h:Q .normal fr σ):SC Q fr σ:=h
theorem pF.n {b:Code}{Q:Ex->Fr->au->Prop}(h:bM E b fr σ Q):pF E b Q .normal fr σ:=h
theorem pF.x {b:Code}{i:Nat}{Q:Ex->Fr->au->Prop}(h:Q (.exit i) fr σ):pF E b Q (.exit i) fr σ:=h
theorem pF.r {b:Code}{Q:Ex->Fr->au->Prop}(h:Q .ret fr σ):pF E b Q .ret fr σ:=h
theorem u6.n {id:Nat}{Q:Ex->Fr->au->Prop}(h:Q .normal fr σ):u6 id Q .normal fr σ:=h
theorem u6.r {id:Nat}{Q:Ex->Fr->au->Prop}(h:Q .ret fr σ):u6 id Q .ret fr σ:=h
theorem u6.hit {id:Nat}{Q:Ex->Fr->au->Prop}(h:Q .normal fr σ):u6 id Q (.exit id) fr σ:=by simp only[u6,if_true];exact h
theorem Au.n {c:Code}{Q:Ex->Fr->au->Prop}(h:bM E (.loop c) fr σ Q):Au E c Q .normal fr σ:=h
theorem Au.x {c:Code}{i:Nat}{Q:Ex->Fr->au->Prop}(h:Q (.exit i) fr σ):Au E c Q (.exit i) fr σ:=h
theorem Au.r {c:Code}{Q:Ex->Fr->au->Prop}(h:Q .ret fr σ):Au E c Q .ret fr σ:=h
theorem bM.afq {c:Operand}{a b:Code}{Q:Ex->Fr->au->Prop}(hc:Is (fr.ev E c) (.bool true))(h:bM E a fr σ Q):bM E (.cond c a b) fr σ Q:=bM.cond hc (fun _=>h) (fun h=>bC)
theorem bM.YS {c:Operand}{a b:Code}{Q:Ex->Fr->au->Prop}(hc:Is (fr.ev E c) (.bool false))(h:bM E b fr σ Q):bM E (.cond c a b) fr σ Q:=bM.cond hc (fun h=>bC) (fun _=>h)
theorem bL.o1 {all:List Oper}{st:Nat}{d:Tmp}{op:Op}{ty:TypeId}{pos:String}{jh:Array Edge}{gd:Option (Nat×Bool)}{os:List Oper}{v:V}{σ1:au}{Q:Fr->au->Prop}(hw:Is (iw all fr ⟨some d,op,ty,pos,jh,gd⟩) (some true))(hop:∀S,Is (opC E S fr σ st ⟨some d,op,ty,pos,jh,gd⟩) (some (v,fr,σ1)))(h:bL E all (st+1) os (fr.set d v) σ1 Q):bL E all st (⟨some d,op,ty,pos,jh,gd⟩::os) fr σ Q:=bL.op hw hop h
theorem bL.a1 {all:List Oper}{st:Nat}{d:Tmp}{op:Op}{ty:TypeId}{pos:String}{jh:Array Edge}{gd:Option (Nat×Bool)}{os:List Oper}{v:V}{σ1:au}{Q:Fr->au->Prop}(h:bL E all (st+1) os (fr.set d v) σ1 Q)(hw:Is (iw all fr ⟨some d,op,ty,pos,jh,gd⟩) (some true):=by rfl)(hop:∀S,Is (opC E S fr σ st ⟨some d,op,ty,pos,jh,gd⟩) (some (v,fr,σ1)):=by intro S;simp only[go_sem,Nat.reduceBEq,Nat.reduceAdd, *];with_reducible exact Is.rfl):bL E all st (⟨some d,op,ty,pos,jh,gd⟩::os) fr σ Q:=bL.o1 hw hop h
theorem bL.o0 {all:List Oper}{st:Nat}{op:Op}{ty:TypeId}{pos:String}{jh:Array Edge}{gd:Option (Nat×Bool)}{os:List Oper}{v:V}{σ1:au}{Q:Fr->au->Prop}(hw:Is (iw all fr ⟨none,op,ty,pos,jh,gd⟩) (some true))(hop:∀S,Is (opC E S fr σ st ⟨none,op,ty,pos,jh,gd⟩) (some (v,fr,σ1)))(h:bL E all (st+1) os fr σ1 Q):bL E all st (⟨none,op,ty,pos,jh,gd⟩::os) fr σ Q:=bL.op hw hop h
theorem bL.s1 {all:List Oper}{st:Nat}{d:Tmp}{op:Op}{ty:TypeId}{pos:String}{jh:Array Edge}{gd:Option (Nat×Bool)}{os:List Oper}{Q:Fr->au->Prop}(hw:Is (iw all fr ⟨some d,op,ty,pos,jh,gd⟩) (some false))(h:bL E all (st+1) os (fr.set d aK) σ Q):bL E all st (⟨some d,op,ty,pos,jh,gd⟩::os) fr σ Q:=bL.skip hw h
theorem bL.pk {all:List Oper}{st:Nat}{d:Tmp}{c a b:Operand}{ty:TypeId}{pos:String}{jh:Array Edge}{gd:Option (Nat×Bool)}{os:List Oper}{t x y:Bool}{Q:Fr->au->Prop}(hw:Is (iw all fr ⟨some d,.pick c a b,ty,pos,jh,gd⟩) (some true))(hc:Is (fr.ev E c) (.bool t))(ha:t=true->Is (fr.ev E a) (.bool x))(hb:t=false->Is (fr.ev E b) (.bool y))(h:bL E all (st+1) os (fr.set d (.bool (cond t x y))) σ Q):bL E all st (⟨some d,.pick c a b,ty,pos,jh,gd⟩::os) fr σ Q:=by
 have hc':fr.ev E c= .bool t:=hc;refine bL.op (v:=.bool (cond t x y)) (σ1:=σ) hw (fun S=>?_) h;cases t with
 |true=>have ha':fr.ev E a= .bool x:=ha rfl;simp only[opC,eP,hc',xJ,Option.map_some,if_true,ha',cond_true]|false=>have hb':fr.ev E b= .bool y:=hb rfl;simp only[opC,eP,hc',xJ,Option.map_some,dO,if_false,hb',cond_false]
theorem E5.one {r:ResultVar}{e:Ex}{v0:V}{R:V->au->Prop}(he:∀i,e≠ .exit i)(hv:Is (lJ E fr σ r) (some v0))(hr:R v0 σ):E5 E [r] R e fr σ:=by
 have h1:[r].mapM (lJ E fr σ)=some [v0]:=by rw[jL,hv];rfl
 cases e with
 |exit i=>exact absurd rfl (he i)|normal=>exact⟨[v0],h1,hr⟩|ret=>exact⟨[v0],h1,hr⟩
theorem E5.bq {rs:List ResultVar}{e:Ex}{v1 v2:V}{vs:List V}{R:V->au->Prop}(he:∀i,e≠ .exit i)(hv:Is (rs.mapM (lJ E fr σ)) (some (v1::v2::vs)))(hr:R (.bq (v1::v2::vs)) σ):E5 E rs R e fr σ:=by
 cases e with
 |exit i=>exact absurd rfl (he i)|normal=>exact⟨_,hv,hr⟩|ret=>exact⟨_,hv,hr⟩
theorem Pure.of' {f:FuncId}{args:List V}{v:V}{fn:Func}{c:Code}(rs:List ResultVar)(hf:E.P.funcs[f]? =some fn)(hb:fn.body=some c)(h:∀fr σ,fr.d=1->fr.aj=E.aj f->(∀i,fr.tm i=args.getD i aK)->bM E c fr σ (E5 E rs (fun v0 σ=>bn 20 σ v0=some v)))(hrs:fn.results.toList=rs:=by rfl)(hok:(decide (args.length<=fn.ntmps)&& jg fn.ntmps c)=true:=by rfl)(hs:E.qV f=none:=by rfl)(hcl:yV E f args=none:=by rfl):Pure E f args v:=
 Pure.of hs hf hb hok (by rw[hrs];exact h _ _ rfl rfl (fun _=>rfl)) hcl
theorem l8 {n:Nat}{x:V}(h:aU x=true):bn (n+1) σ x=some x:=by unfold bn;simp only[h,if_true]
theorem YT (n:Nat)(k:IntKind)(i:Int):bn (n+1) σ (.int k i)=some (.int k i):=l8 uN
theorem YU (n:Nat)(b:Bool):bn (n+1) σ (.bool b)=some (.bool b):=l8 uN
theorem YV (n:Nat)(s:List UInt8):bn (n+1) σ (.str s)=some (.str s):=l8 uN
theorem BK {n:Nat}{α:Type}{f:α->V}(c:Cap)(l:List α)(h:∀x,aU (f x)=true):bn (n+2) σ (.ay c (l.map f))=some (lv f l):=by
 by_cases hp:aU (.ay c (l.map f))=true
 ·rw[l8 hp]
  cases c<;>simp only[aU,dO] at hp;rfl
 ·unfold bn
  simp only[hp,if_false,dO];have:(l.map f).mapM (bn (n+1) σ)=some (l.map f):=by
   induction l with
   |nil=>simp|cons a l ih=>simp[h a,l8,ih (by cases c<;>simp_all[aU,bN])]
  rw[this];rfl
theorem ao8 (k:IntKind)(i:Int):er (.int k i)= .int k i:=rfl
theorem ao9 (b:Bool):er (.bool b)= .bool b:=rfl
theorem apa (s:List UInt8):er (.str s)= .str s:=rfl
theorem apb {α:Type}(f:α->V)(l:List α):er (lv f l)=lv f l:=rfl
theorem apc (c:Cap)(l:List V):er (.ay c l)= .ay .sh l:=rfl
theorem apd (n:Int):iv n= .int .i64 n:=rfl
theorem YW (k:IntKind)(i:Int):aU (.int k i)=true:=uN
theorem YX (b:Bool):aU (.bool b)=true:=uN
theorem afr (s:List UInt8):aU (.str s)=true:=uN
theorem SE {P:Program}{α:Type}{t:TypeId}{c:Cap}{l:List α}{f:α->V}{k:IntKind}{i:Int}:
 qU P t (.ay c (l.map f)) (.int k i)=if Aw P t then (mW P t).bind fun e=>(eX P e).bind fun sz=>(aR l i).bind fun x=>if (f x).cells.length=sz then some (.aI (f x).cells 0) else none else none:=by
 unfold qU Aw mW;cases hu:P.underlying t with
 |none=>rfl|some u=>
  cases u<;>try rfl
  rename_i e;simp only[if_true,Option.bind_some];cases eX P e with
  |none=>rfl|some sz=>
   simp only[Option.bind_some,idx,oF,jS,aR];split
   ·rename_i h
    simp only[Option.bind_some,List.getElem?_map];cases l[i.toNat]? with
    |none=>rfl|some x=>rfl
   ·rfl
theorem afs {P:Program}{α:Type}{t:TypeId}{l:List α}{f:α->V}{k:IntKind}{i:Int}:
 qU P t (lv f l) (.int k i)=if Aw P t then (mW P t).bind fun e=>(eX P e).bind fun sz=>(aR l i).bind fun x=>if (f x).cells.length=sz then some (.aI (f x).cells 0) else none else none:=SE
theorem ape {P:Program}{t:TypeId}{v:V}(h1:nU P t=some false)(h2:eX P t=some 1):iN P t [v] 0=some v:=by simp[iN,h1,h2,Bw]
theorem apf {t:TypeId}{α:Type}(f:α->V)(l:List α)(h:Aw E.P t=true):vV E σ t (lv f l)=some l.length:=by
 unfold Aw at h;unfold vV;split at h
 ·rename_i e he;rw[he];simp[lv]
 ·simp at h
end
section
variable {E:Env}{S:l5}{fr:Fr}{σ:au}{st:Nat}{d:Option Tmp}{ty:TypeId}{pos:String}{jh:Array Edge}{gd:Option (Nat×Bool)}
theorem apg (all:List Oper)(op:Op):iw all fr ⟨d,op,ty,pos,jh,none⟩=some true:=rfl
def YZ (want:Bool):V->Option Bool
 |.bool b=>some (b==want)|.raw _=>none|_=>some false
theorem aph (w b:Bool):YZ w (.bool b)=some (b==w):=rfl
theorem apj (w:Bool):YZ w aK=some false:=rfl
theorem apk (all:List Oper)(op:Op)(j:Nat)(want:Bool):iw all fr ⟨d,op,ty,pos,jh,some (j,want)⟩=match (all[j]?).bind (·.dst) with
 |some t=>YZ want (fr.tm t)|none=>some false:=by
 simp only[iw];cases (all[j]?).bind (·.dst) with
 |none=>rfl|some t=>simp only;cases fr.tm t<;>rfl
theorem apl (cs:List V):V.cells (.agg cs)=cs:=rfl
theorem apm (k:IntKind)(n:Int):V.cells (.int k n)=[.int k n]:=rfl
theorem apn (k:IntKind)(n:Int):fV (.int k n)=true:=rfl
theorem apo (b:Bool):V.cells (.bool b)=[.bool b]:=rfl
theorem apq (b:Bool):fV (.bool b)=true:=rfl
theorem apr (s:List UInt8):V.cells (.str s)=[.str s]:=rfl
theorem aps (s:List UInt8):fV (.str s)=true:=rfl
theorem apt (c:Cap)(l:List V):V.cells (.ay c l)=[.ay c l]:=rfl
theorem apu (c:Cap)(l:List V):fV (.ay c l)=true:=rfl
theorem apv (l:aY.Loc)(s o:Nat):V.cells (.ref l s o)=[.ref l s o]:=rfl
theorem apw (l:aY.Loc)(s o:Nat):fV (.ref l s o)=true:=rfl
theorem apx (cs:List V)(o:Nat):V.cells (.aI cs o)=[.aI cs o]:=rfl
theorem apy (cs:List V)(o:Nat):fV (.aI cs o)=true:=rfl
theorem apz (f:Fn)(a b:List V):V.cells (.fn f a b)=[.fn f a b]:=rfl
theorem apA (f:Fn)(a b:List V):fV (.fn f a b)=true:=rfl
theorem apB {α:Type}(f:α->V)(l:List α):V.cells (lv f l)=[lv f l]:=rfl
theorem apC:dD []=true:=rfl
theorem aft (x:V)(l:List V):dD (x::l)=(oneCell x&& dD l):=rfl
theorem apD (k:IntKind)(n:Int):oneCell (.int k n)=true:=rfl
theorem apE (b:Bool):oneCell (.bool b)=true:=rfl
theorem apF (s:List UInt8):oneCell (.str s)=true:=rfl
theorem apG {α:Type}(f:α->V)(l:List α):oneCell (lv f l)=true:=rfl
theorem apH (c:Cap)(l:List V):oneCell (.ay c l)=true:=rfl
theorem apI (l:aY.Loc)(s o:Nat):oneCell (.ref l s o)=true:=rfl
theorem apJ (cs:List V)(o:Nat):oneCell (.aI cs o)=true:=rfl
theorem apK (cs:List V):fV (.agg cs)=true:=rfl
theorem apL {α:Type}(f:α->V)(l:List α):fV (lv f l)=true:=rfl
theorem apM (x:Operand)(h:Ak E d=false):opC E S fr σ st ⟨d,.move x,ty,pos,jh,gd⟩=some (fr.ev E x,fr,σ):=by show Option.map _ (if Ak E d=true then yS σ (fr.ev E x) else some (fr.ev E x,σ))=_;rw[if_neg Lr];rfl
theorem apN (x:Operand):opC E S fr σ st ⟨d,.assign x,ty,pos,jh,gd⟩=some (fr.ev E x,fr,σ):=rfl
theorem apO (op:BinOp)(t u:TypeId)(x y:Operand):opC E S fr σ st ⟨d,.binOp op t x y u,ty,pos,jh,gd⟩=(uS E.P op t (fr.ev E x) (fr.ev E y)).map fun v=>(v,fr,σ):=by simp only[opC,eP];cases uS E.P op t (fr.ev E x) (fr.ev E y)<;>rfl
theorem apP (op:UnOp)(t:TypeId)(x:Operand):opC E S fr σ st ⟨d,.unOp op t x,ty,pos,jh,gd⟩=(EH op (fr.ev E x)).map fun v=>(v,fr,σ):=by simp only[opC,eP];cases EH op (fr.ev E x)<;>rfl
theorem apQ (t:TypeId)(x:Operand)(f:Nat):opC E S fr σ st ⟨d,.fieldAddr t x f,ty,pos,jh,gd⟩=(xH E.P t f).bind fun p=>match fr.ev E x with
 |.ref loc s off=>some (.ref loc s (off+p.1),fr,σ)|.aI cs off=>some (.aI cs (off+p.1),fr,σ)|_=>none:=by
 simp only[opC,eP];cases xH E.P t f with
 |none=>rfl|some p=>obtain⟨o,u⟩:=p;simp only[Option.bind_some];cases fr.ev E x<;>rfl
theorem apR (t:TypeId)(x:Operand):opC E S fr σ st ⟨d,.load t x,ty,pos,jh,gd⟩=(match fr.ev E x with
 |.ref loc s off=>(σ.dB loc s).bind fun cs=>(iN E.P t cs off).map fun v=>(v,fr,σ)
 |.aI cs off=>(iN E.P t cs off).map fun v=>(v,fr,σ)
 |_=>none):=by
 simp only[opC,eP];cases fr.ev E x with
 |ref loc s off=>
  simp only;cases σ.dB loc s with
  |none=>rfl|some cs=>simp only[Option.bind_some];cases iN E.P t cs off<;>rfl
 |aI cs off=>simp only;cases iN E.P t cs off<;>rfl|_=>rfl
theorem apS (t:TypeId)(i:Nat):opC E S fr σ st ⟨some i,.alloc t,ty,pos,jh,gd⟩=(kR E.P t).bind fun z=>if dD z.cells then some (.ref (fr.d,i) st 0,fr,σ.setObj (fr.d,i) st (.cells z.cells)) else none:=by
 simp only[opC,eP,Option.map_some,Option.bind_some];cases kR E.P t with
 |none=>rfl|some z=>simp only[Option.bind_some];split<;>rfl
theorem afu (t:TypeId)(a x:Operand):opC E S fr σ st ⟨d,.store t a x,ty,pos,jh,gd⟩=(match fr.ev E a with
 |.ref loc s off=>(σ.dB loc s).bind fun cs=>
  if some (fr.ev E x).cells.length=eX E.P t/\off+(fr.ev E x).cells.length<=cs.length/\dD (fr.ev E x).cells then some (aK,fr,σ.setObj loc s (.cells (jN cs off (fr.ev E x).cells))) else none
 |_=>none):=by
 simp only[opC,eP];cases fr.ev E a with
 |ref loc s off=>
  simp only;cases σ.dB loc s with
  |none=>rfl|some cs=>simp only[Option.bind_some];split<;>rfl
 |_=>rfl
theorem apT (t:TypeId)(x i:Operand):opC E S fr σ st ⟨d,.indexAddr t x i,ty,pos,jh,gd⟩=(qU E.P t (fr.ev E x) (fr.ev E i)).map fun v=>(v,fr,σ):=by simp only[opC,eP];cases qU E.P t (fr.ev E x) (fr.ev E i)<;>rfl
theorem apU (x:Operand)(i:Nat):opC E S fr σ st ⟨d,.extract x i,ty,pos,jh,gd⟩=(match fr.ev E x with
 |.bq vs=>(vs[i]?).map fun v=>(v,fr,σ)
 |_=>none):=by
 simp only[opC,eP];cases fr.ev E x with
 |bq vs=>simp only;cases vs[i]? <;>rfl|_=>rfl
theorem apV (x:Operand)(t:TypeId):opC E S fr σ st ⟨d,.call ⟨.builtin .len, #[x], #[t]⟩,ty,pos,jh,gd⟩=(vV E σ t (fr.ev E x)).map fun n=>(.int .i64 (n:Nat),fr,σ):=by show (Option.map _ (((#[t]:Array TypeId)[0]?).bind fun t=>(vV E σ t (fr.ev E x)).map fun n=>(V.int .i64 (n:Nat),σ)))=_;rw[show (#[t]:Array TypeId)[0]? =some t from rfl,Option.bind_some];cases vV E σ t (fr.ev E x)<;>rfl
end
attribute [go_sem] dO uS mH CU EH decide_true decide_false List.getElem?_cons_succ List.getElem?_cons_zero beq_true beq_false Bool.not_true Bool.not_false YQ Bool.false_and Bool.and_false Bool.true_and Bool.and_true apg apk aph apj apM apN apO apP apQ apR apS afu apT apU apV MF afk afl afj ze YP aoW Ik aoX aoY aoZ ao0 Av afn ao3 ao4 map_eq afo ao5 ao6 MG SB ao1 ao2 apd ape apf SE jS afs YT YU YV ao8 ao9 apa apb apc YW YX afr Option.bind_some Option.map_some Option.getD_some xJ ofValue kV if_true if_false apl apm apo apr apB apt apv apx apz apn apq aps apu apw apy apA apC aft apD apE apF apG apH apI apJ apK apL and_self and_true true_and
def Ay:Code->List Nat->Option Code
 |c,[]=>some c|.seq a b,i::l=>if i=0 then Ay a l else Ay b l|.cond _ a b,i::l=>if i=0 then Ay a l else Ay b l|.block _ a,_::l=>Ay a l|.loop a,_::l=>Ay a l|.scope a,_::l=>Ay a l|.rangeFunc _ _ a b,i::l=>if i=0 then Ay a l else Ay b l|_,_=>none
def iG (b:Option Code)(l:List Nat):Option Code:=b.bind fun c=>Ay c l
section
variable {E:Env}{fr:Fr}{σ:au}
def SF (E:Env)(c:Code)(fr:Fr)(σ:au)(Q:Ex->Fr->au->Prop):Prop:=bM E (.loop c) fr σ Q
theorem bM.lp {c:Code}{Q:Ex->Fr->au->Prop}(h:SF E c fr σ Q):bM E (.loop c) fr σ Q:=h
def MI:Code->Nat
 |.region i _ _=>i|.seq a _=>MI a|.loop a=>MI a|.scope a=>MI a|.block _ a=>MI a|_=>0
theorem SF.at (k:Nat){c:Code}{Q:Ex->Fr->au->Prop}(_h:Is (MI c) k)(h:SF E c fr σ Q):SF E c fr σ Q:=h
theorem Il {n:Nat}(cs:List V):bn (n+2) σ (.agg cs)=(cs.mapM (bn (n+1) σ)).map .agg:=by
 by_cases hp:aU (.agg cs)=true
 ·rw[l8 hp]
  have:∀cs:List V,bN cs=true->cs.mapM (bn (n+1) σ)=some cs:=by
   intro cs;induction cs with
   |nil=>intro _;rfl|cons a l ih=>intro h;simp only[bN,iP] at h;rw[jL,l8 h.1,ih h.2];rfl
  rw[this cs Cy];rfl
 ·conv=>lhs;unfold bn
  simp only[hp,if_false,dO]
theorem Y0 {n:Nat}(cs:List V):bn (n+2) σ (.bq cs)=(cs.mapM (bn (n+1) σ)).map .bq:=by
 by_cases hp:aU (.bq cs)=true
 ·rw[l8 hp]
  have:∀cs:List V,bN cs=true->cs.mapM (bn (n+1) σ)=some cs:=by
   intro cs;induction cs with
   |nil=>intro _;rfl|cons a l ih=>intro h;simp only[bN,iP] at h;rw[jL,l8 h.1,ih h.2];rfl
  rw[this cs Cy];rfl
 ·conv=>lhs;unfold bn
  simp only[hp,if_false,dO]
def afv (sz:Nat)(σ:au)(c:Cap)(n:Nat):Prop:=c= .nil\/∃s,c= .own sz s/\σ.top s=n/\s<σ.next
theorem afv.o {sz s n:Nat}(h1:Is (σ.top s) n)(h2:s<σ.next):afv sz σ (.own sz s) n:=.inr ⟨s,rfl,h1,h2⟩
end
section
variable {E:Env}{S:l5}{fr:Fr}{σ:au}{st:Nat}{d:Option Tmp}{ty:TypeId}{pos:String}{jh:Array Edge}{gd:Option (Nat×Bool)}
end
def afw (P:Program)(t u:TypeId)(sz iF:Nat)(z:V):Prop:=∃e ag,mW P t=some e/\eX P e=some sz/\Ah P e=some iF/\nU P e=some ag/\kR P e=some z/\z.cells.length=sz/\0<sz/\(ag||sz==1)=true/\Aw P u=true
theorem afw.mk {P:Program}{t u:TypeId}{sz iF:Nat}{z:V}(e:TypeId)(ag:Bool)(h1:mW P t=some e)(h2:eX P e=some sz)(h3:Ah P e=some iF)(h4:nU P e=some ag)(h5:kR P e=some z)(h6:z.cells.length=sz)(h7:0<sz)(h8:(ag||sz==1)=true)(h9:Aw P u=true):afw P t u sz iF z:=⟨e,ag,h1,h2,h3,h4,h5,h6,h7,h8,h9⟩
section
variable {E:Env}{S:l5}{fr:Fr}{σ:au}{st:Nat}{d:Option Tmp}{ty:TypeId}{pos:String}{jh:Array Edge}{gd:Option (Nat×Bool)}
end
section
variable {E:Env}{S:l5}{fr:Fr}{σ:au}{st:Nat}{d:Option Tmp}{ty:TypeId}{pos:String}{jh:Array Edge}{gd:Option (Nat×Bool)}
theorem afx {P:Program}{t:TypeId}{s:List UInt8}{k:IntKind}{i:Int}(h:YR P t=true):He P t (.str s) (.int k i)=(aR s i).map fun b=>.int .u8 (b.toNat:Nat):=by
 unfold YR at h;unfold He;split at h
 ·rename_i he
  rw[he];simp only[idx,oF,Option.bind_some,aR];split
  ·simp only[Option.bind_some];rfl
  ·rfl
 ·simp at h
def imax (a b:Int):Int:=if b>a then b else a
def kG (a b:Int):Int:=if b<a then b else a
end
theorem len1 (v:V):[v].length=1:=rfl
attribute [go_sem] afx Il Y0 fG List.map_nil len1 BK implies_true eq_self
inductive Ty where
 |int (k:IntKind)
 |bool
 |str
 |slice (t:Ty)
 |st (n:Nat)
 deriving DecidableEq
inductive Cp where
 |any
 |sh
 |nil
 |full
 |own (t:Nat)
structure Vec (n:Nat) where
 l:List Int
 h:l.length=n
def Vec.set {n:Nat}(v:Vec n)(i y:Int):Vec n:=⟨v.l.set i.toNat y,by rw[List.length_set,v.h]⟩
def Vec.rep (n:Nat)(y:Int):Vec n:=⟨List.replicate n y,List.length_replicate⟩
def Vec.lit (n:Nat)(l:List Int):Vec n:=if h:l.length=n then ⟨l,h⟩ else Vec.rep n 0
inductive xZ where
 |i (k:IntKind)
 |a (k:IntKind) (n:Nat)
inductive nY where
 |i (k:IntKind) (x:Int)
 |a (k:IntKind) (n:Nat) (v:Vec n)
def nY.w:nY->Nat
 |.i _ _=>1|.a _ n _=>n
def nY.vs:nY->List V
 |.i k x=>[.int k x]|.a k _ v=>v.l.map (V.int k)
def mK:List nY->List V
 | []=>[]|s::l=>s.vs++mK l
def Im:xZ->Type
 |.i _=>Int|.a _ n=>Vec n
def E8:List xZ->Type
 | []=>Unit| [k]=>Im k|k::h::l=>Im k×E8 (h::l)
def MJ:(k:xZ)->Im k->nY
 |.i k,x=>.i k x|.a k n,x=>.a k n x
def zf:(l:List xZ)->E8 l->List nY
 | [],_=>[]| [k],x=>[MJ k x]|k::h::l,p=>MJ k p.1::zf (h::l) p.2
def SG {n m:Nat}(v:Vec n):Option (Vec m):=if h:n=m then some (h▸v) else none
def Io:(k:xZ)->nY->Option (Im k)
 |.i k,.i k' x=>if k'=k then some x else none|.a k n,.a k' _ v=>if k'=k then SG (m:=n) v else none|_,_=>none
def BL:(l:List xZ)->List nY->Option (E8 l)
 | []=>fun vs=>match vs with
   | []=>some ()|_::_=>none
 | [k]=>fun vs=>match vs with
   | [v]=>Io k v|_=>none
 |k::h::l=>fun vs=>match vs with
  | []=>none|v::vs=>match Io k v with
   |some x=>match BL (h::l) vs with
    |some p=>some (x,p)|none=>none
   |none=>none
section
variable (T:Nat->Type)
def Den:Ty->Type
 |.int _=>Int|.bool=>Bool|.str=>List UInt8|.slice t=>List (Den t)|.st n=>T n
def qx:List Ty->Type
 | []=>Unit| [t]=>Den T t|t::u::l=>Den T t×qx (u::l)
inductive ak where
 |int (k:IntKind) (n:Int)
 |bool (b:Bool)
 |ji (b:Bool)
 |str (s:List UInt8)
 |cB
 |dF
 |gL
 |iD
 |gT
 |agg (cs:List ak)
 |bq (cs:List ak)
 |ay (c:Cp) (t:Ty) (l:List (Den T t))
 |ref (o off:Nat)
 |aI (cs:List ak) (off:Nat)
 |kl (cs:List ak)
 |dJ (o:Nat)
 |eU (k e:Ty) (m:List (Den T k×Den T e))
 |fn (f:Nat) (a b:List ak)
 |opt (j:Nat) (w:Bool) (v:ak)
 |aJ (o:Nat) (t:Ty)
 |sub (o:Nat) (t:Ty) (a b:Int)
 |l9 (o:Nat) (t:Ty) (i:Int) (off:Nat)
 |sg (ss:List nY)
 |sv (o off:Nat) (k:IntKind) (n:Nat) (lo hi:Option Int)
 |sel (o off:Nat) (k:IntKind) (n:Nat) (i:Int) (m:Nat)
 |zh (k:IntKind) (n:Nat) (v:Vec n) (i:Int)
 |undef
 |gone
inductive aG where
 |cells (cs:List (ak T))
 |map (k e:Ty) (m:List (Den T k×Den T e))
 |smap (ks vs:List (ak T))
 |arr (t:Ty) (l:List (Den T t))
 |sg (ss:List nY)
 |gone
 |ro (b:aG)
structure aD where
 fr:List (Nat×ak T)
 ob:List (Nat×aG T)
inductive aM where
 |d (t:Ty)
 |l (c:Cp) (t:Ty)
 |agg (l:List aM)
 |ref (o off:Nat)
 |aI (l:List aM) (off:Nat)
 |kl (l:List aM)
 |dF
 |cB
 |dJ (o:Nat)
 |eU (k e:Ty)
 |fn (f:Nat) (a b:List aM)
 |gT
 |aJ (o:Nat) (t:Ty)
 |sub (o:Nat) (t:Ty)
 |sg (l:List xZ)
 |undef
mutual
def ru:aM->Type
 |.d t=>Den T t|.l _ t=>List (Den T t)|.agg l=>aW l|.ref _ _=>Unit|.aI l _=>aW l|.kl l=>aW l|.dF=>Unit|.cB=>Unit|.dJ _=>Unit|.eU k e=>List (Den T k×Den T e)|.fn _ a b=>aW a×aW b|.gT=>Unit|.aJ _ _=>Unit|.sub _ _=>Int×Int|.sg l=>E8 l|.undef=>Unit
def aW:List aM->Type
 | []=>Unit| [k]=>ru k|k::h::l=>ru k×aW (h::l)
end
inductive d9 where
 |cells (l:List aM)
 |st (n:Nat)
 |map (k e:Ty)
 |arr (t:Ty)
 |sg (l:List xZ)
def Dn:d9->Type
 |.cells l=>aW T l|.st n=>T n|.map k e=>List (Den T k×Den T e)|.arr t=>List (Den T t)|.sg l=>E8 l
def cZ:List (Nat×d9)->Type
 | []=>Unit| [(_,k)]=>Dn T k| (_,k)::h::l=>Dn T k×cZ (h::l)
def E9:List (Nat×aM)->Type
 | []=>Unit| [(_,k)]=>ru T k| (_,k)::h::l=>ru T k×E9 (h::l)
structure Shape where
 sl:List (Nat×aM)
 ob:List (Nat×d9)
def rz:Shape->Type
 | ⟨s,[]⟩=>E9 T s| ⟨s,o::os⟩=>E9 T s×cZ T (o::os)
def Out:List (Ex×Shape)->Type
 | []=>Empty| [(_,s)]=>rz T s| (_,s)::h::l=>rz T s⊕Out (h::l)
end
structure gY where
 T:Nat->Type
 d:(n:Nat)->T n
 lf:Nat->List Ty
 to:(n:Nat)->qx T (lf n)->T n
 of:(n:Nat)->T n->qx T (lf n)
 enc:(n:Nat)->T n->V
 ty:TypeId->Option Ty
 gl:Nat->Option ((k:IntKind)×(n:Nat)×Vec n)
structure fM (R:gY) where
 args:List aM
 res:List aM
 F:aW R.T args->Option (aW R.T res)
 d:aW R.T res
 own:Bool:=false
 alt:Bool:=false
structure MK (R:gY) where
 a:List aM
 b:List aM
 el:List aM
 F:aW R.T a->aW R.T b->Option (List (aW R.T el))
 q:Bool
def F0:Nat:=1000000
inductive r9 where
 |no
 |arr (t:Ty)
 |Ip (g:Nat) (a b cs:List aM)
def sj (T:Nat->Type):r9->Type
 |.no=>Unit|.arr t=>List (Den T t)|.Ip _ a b cs=>aW T a×aW T b×aW T cs
def r9.is:r9->Bool
 |.no=>false|_=>true
structure mg (R:gY) where
 args:List aM
 obs:List (Nat×d9)
 res:List aM
 F:aW R.T args->cZ R.T obs->Option (aW R.T res×cZ R.T obs)
 jy:r9
 gQ:List (Nat×d9)
 G:aW R.T args->cZ R.T obs->Option (sj R.T jy×cZ R.T gQ)
def jA {R:gY}(args:List aM)(obs:List (Nat×d9))(res:List aM)(F:aW R.T args->cZ R.T obs->Option (aW R.T res×cZ R.T obs)):mg R:=⟨args,obs,res,F,.no,[],fun _ _=>none⟩
def ML {R:gY}(args:List aM)(obs:List (Nat×d9))(jy:r9)(gQ:List (Nat×d9))(G:aW R.T args->cZ R.T obs->Option (sj R.T jy×cZ R.T gQ)):mg R:=⟨args,obs,[],fun _ _=>none,jy,gQ,G⟩
structure FO (R:gY) where
 a:List aM
 b:List aM
 cs:List aM
 el:List aM
 F:aW R.T a->aW R.T b->aW R.T cs->Option (List (aW R.T el))
 q:Bool
structure IR (R:gY) where
 it:Nat->List (MK R)
 im:Nat->List (mg R)
 io:Nat->List (FO R)
structure Note where
 K:List Nat
 O:List Nat
 sh:Shape
 outs:List (Ex×Shape)
structure fU where
 loops:List (Nat×Note)
 joins:List (Nat×Note)
def look {α:Type}:List (Nat×α)->Nat->Option α
 | [],_=>none| (j,x)::l,i=>bif Nat.beq j i then some x else look l i
section
variable (R:gY)
def aX:(t:Ty)->Den R.T t->V
 |.int k=>fun n=>.int k n
 |.bool=>fun b=>.bool b
 |.str=>fun s=>.str s
 |.slice t=>fun l=>.ay .sh (l.map (aX t))
 |.st n=>fun x=>R.enc n x
def encs:(l:List Ty)->qx R.T l->List V
 | [],_=>[]| [t],x=>[aX R t x]|t::u::l,p=>aX R t p.1::encs (u::l) p.2
def cK:Ty->Nat
 |.st n=>(R.lf n).length|_=>1
def Iq:(t:Ty)->Den R.T t
 |.int _=>(0:Int)|.bool=>false|.str=>([]:List UInt8)|.slice t=>([]:List (Den R.T t))|.st n=>R.d n
def BM (c:Cp):(t:Ty)->Den R.T t->ak R.T
 |.int k=>fun n=>.int k n
 |.bool=>fun b=>.bool b
 |.str=>fun s=>.str s
 |.slice t=>fun l=>.ay c t l
 |.st _=>fun _=>.undef
def gq (c:Cp):(l:List Ty)->qx R.T l->List (ak R.T)
 | [],_=>[]| [t],x=>[BM R c t x]|t::u::l,p=>BM R c t p.1::gq c (u::l) p.2
def jk (c:Cp):(t:Ty)->Den R.T t->ak R.T
 |.st n=>fun x=>.agg (gq R c (R.lf n) (R.of n x))
 |.int k=>fun n=>.int k n
 |.bool=>fun b=>.bool b
 |.str=>fun s=>.str s
 |.slice t=>fun l=>.ay c t l
def pJ {t u:Ty}(l:List (Den R.T t)):Option (List (Den R.T u)):=if h:t=u then some (h▸l) else none
def SH (k:IntKind):ak R.T->Option Int
 |.int k' n=>if k=k' then some n else none|_=>none
def SI:ak R.T->Option Bool
 |.bool b=>some b|.ji b=>some b|_=>none
def SK:ak R.T->Option (List UInt8)
 |.str s=>some s|_=>none
def Fa (t:Ty):ak R.T->Option (List (Den R.T t))
 |.ay _ _ l=>pJ R l|.gT=>some []|_=>none
def u7:(t:Ty)->ak R.T->Option (Den R.T t)
 |.int k=>fun v=>SH R k v
 |.bool=>fun v=>SI R v
 |.str=>fun v=>SK R v
 |.slice t=>fun v=>Fa R t v
 |.st _=>fun _=>none
def hd1:List (ak R.T)->ak R.T
 | [v]=>v|_=>.gone
def Dp:(l:List Ty)->List (ak R.T)->Option (qx R.T l)
 | []=>fun vs=>match vs with
   | []=>some ()|_::_=>none
 | [t]=>fun vs=>u7 R t (hd1 R vs)
 |t::u::l=>fun vs=>match vs with
  | []=>none|v::vs=>match u7 R t v with
   |some x=>match Dp (u::l) vs with
    |some p=>some (x,p)|none=>none
   |none=>none
def Fb (n:Nat):ak R.T->Option (R.T n)
 |.agg cs=>match Dp R (R.lf n) cs with
  |some p=>some (R.to n p)|none=>none
 |_=>none
def BN:(t:Ty)->ak R.T->Option (Den R.T t)
 |.st n=>fun v=>Fb R n v
 |.int k=>fun v=>SH R k v
 |.bool=>fun v=>SI R v
 |.str=>fun v=>SK R v
 |.slice t=>fun v=>Fa R t v
def ak.cells {T:Nat->Type}:ak T->List (ak T)
 |.agg cs=>cs|v=>[v]
mutual
def nR {T:Nat->Type}(o:Nat):ak T->Bool
 |.ref p _=>Nat.beq p o|.dJ p=>Nat.beq p o|.agg cs=>nE o cs|.bq cs=>nE o cs|.aI cs _=>nE o cs|.kl cs=>nE o cs|.fn _ a b=>nE o a||nE o b|.opt _ _ v=>nR o v|.aJ p _=>Nat.beq p o|.sub p _ _ _=>Nat.beq p o|.l9 p _ _ _=>Nat.beq p o|.sv p _ _ _ _ _=>Nat.beq p o|.sel p _ _ _ _ _=>Nat.beq p o|_=>false
def nE {T:Nat->Type}(o:Nat):List (ak T)->Bool
 | []=>false|v::l=>nR o v||nE o l
end
def aG.nR {T:Nat->Type}(o:Nat):aG T->Bool
 |.cells cs=>nE o cs|.smap ks vs=>nE o ks||nE o vs|.ro b=>aG.nR o b|_=>false
mutual
def wk {T:Nat->Type}(t:Nat):ak T->ak T
 |.ay (.own u) ty l=>bif Nat.beq u t then .ay .any ty l else .ay (.own u) ty l|.agg cs=>.agg (zi t cs)|.bq cs=>.bq (zi t cs)|.aI cs off=>.aI (zi t cs) off|.kl cs=>.kl (zi t cs)|.fn f a b=>.fn f (zi t a) (zi t b)|.opt j w v=>.opt j w (wk t v)|v=>v
def zi {T:Nat->Type}(t:Nat):List (ak T)->List (ak T)
 | []=>[]|v::l=>wk t v::zi t l
end
def aG.wk {T:Nat->Type}(t:Nat):aG T->aG T
 |.cells cs=>.cells (zi t cs)|.smap ks vs=>.smap (zi t ks) (zi t vs)|.ro b=>.ro (aG.wk t b)|o=>o
def mM {α:Type}(f:α->α):List (Nat×α)->List (Nat×α)
 | []=>[]| (i,x)::l=>(i,f x)::mM f l
def jE {α:Type}(i:Nat):List (Nat×α)->List (Nat×α)
 | []=>[]| (j,x)::l=>bif Nat.beq j i then jE i l else (j,x)::jE i l
def aD.wk {T:Nat->Type}(t:Nat)(st:aD T):aD T:=⟨mM (aY.wk t) st.fr,mM (aG.wk t) st.ob⟩
def Y1 {T:Nat->Type}(j:Nat):ak T->ak T
 |.opt i w v=>bif Nat.beq i j then .gone else .opt i w v|v=>v
def aD.put {T:Nat->Type}(st:aD T)(i:Nat)(v:ak T):aD T:={st with fr:=(i,v)::mM (Y1 i) (jE i st.fr)}
def aD.gU {T:Nat->Type}(st:aD T)(d:Option Nat)(v:ak T):aD T:=match d with
 |some i=>st.put i v|none=>st
def Y2 {T:Nat->Type}(j:Nat)(b:Bool):ak T->ak T
 |.opt i w v=>bif Nat.beq i j then (bif (b==w) then v else .undef) else .opt i w v|v=>v
def aD.learn {T:Nat->Type}(st:aD T)(j:Nat)(b:Bool):aD T:={st with fr:=(j,.ji b)::mM (Y2 j b) (jE j st.fr)}
def aD.Ir {T:Nat->Type}(st:aD T)(c:Operand)(b:Bool):aD T:=match c with
 |.tmp j=>st.learn j b|_=>st
def BO {T:Nat->Type}(o:Nat)(v:ak T):ak T:=bif nR o v then .gone else v
def Fe {T:Nat->Type}(o:Nat):List (ak T)->List (ak T)
 | []=>[]|v::l=>BO o v::Fe o l
def aG.kill {T:Nat->Type}(o:Nat):aG T->aG T
 |.cells cs=>.cells (Fe o cs)|v=>bif aG.nR o v then .gone else v
def aD.new {T:Nat->Type}(st:aD T)(o:Nat)(b:aG T):aD T:=⟨mM (BO o) st.fr,(o,b)::mM (aG.kill o) (jE o st.ob)⟩
def aD.set {T:Nat->Type}(st:aD T)(o:Nat)(b:aG T):aD T:={st with ob:=(o,b)::jE o st.ob}
def aD.del {T:Nat->Type}(st:aD T)(o:Nat):aD T:={st with ob:=jE o st.ob}
def Y3 {T:Nat->Type}:aG T->aG T
 |.ro b=>Y3 b|b=>b
def nG {T:Nat->Type}(st:aD T)(o:Nat):Option (aG T):=match look st.ob o with
 |some b=>some (Y3 b)|none=>none
def su {T:Nat->Type}:aG T->Bool
 |.ro _=>true|.gone=>true|_=>false
def bf (i:Nat):List Nat->Bool
 | []=>false|j::l=>Nat.beq i j||bf i l
mutual
def solid {T:Nat->Type}(W:List Nat):ak T->Bool
 |.ay (.own _) _ _=>false|.ref o _=>!(bf o W)|.dJ o=>!(bf o W)|.agg cs=>vg W cs|.bq cs=>vg W cs|.aI cs _=>vg W cs|.kl cs=>vg W cs|.fn _ a b=>vg W a&& vg W b|.opt _ _ _=>false|.aJ o _=>!(bf o W)|.sub o _ _ _=>!(bf o W)|.l9 o _ _ _=>!(bf o W)|.sv o _ _ _ _ _=>!(bf o W)|.sel o _ _ _ _ _=>!(bf o W)|.gone=>false|_=>true
def vg {T:Nat->Type}(W:List Nat):List (ak T)->Bool
 | []=>true|v::l=>solid W v&& vg W l
end
def qy {T:Nat->Type}(W:List Nat):aG T->Bool
 |.cells cs=>vg W cs|.map _ _ _=>true|.smap ks vs=>vg W ks&& vg W vs|.arr _ _=>true|.sg _=>true|.ro b=>qy W b|.gone=>false
def rA {α:Type}(p:Nat->α->Bool)(f:α->α)(l:List (Nat×α)):List Nat->List (Nat×α)
 | []=>[]|i::is=>match look l i with
  |some x=>bif p i x then (i,f x)::rA p f l is else rA p f l is|none=>rA p f l is
def Y4 {T:Nat->Type}:ak T->ak T
 |.ay (.own _) t l=>.ay .any t l|v=>v
def base {T:Nat->Type}(W K O:List Nat)(mark:aG T->aG T)(st:aD T):aD T:=
 ⟨rA (fun i v=>!(bf i W)&& solid W (Y4 v)) Y4 st.fr K,rA (fun o b=>!(bf o W)&& qy W b) mark st.ob O⟩
def aD.over {T:Nat->Type}(st b:aD T):aD T:=⟨st.fr++b.fr,st.ob++b.ob⟩
def Fg {T:Nat->Type}:Value->Option (ak T)
 |.bool b=>some (.ji b)|.int k n=>some (.int k n)|.string s=>some (.str s.data.toList)|.pointer none=>some .cB|.slice none 0 0=>some .gT|.map none=>some .gL|.nilFunc=>some .dF|.nilIface=>some .iD|_=>none
def Iu {T:Nat->Type}:List Value->Option (List (ak T))
 | []=>some []|v::l=>match Fg v with
  |some x=>match Iu l with
   |some y=>some (x::y)|none=>none
  |none=>none
def Iw {T:Nat->Type}:Value->Option (ak T)
 |.agg cs=>match Iu cs.toList with
  |some l=>some (.agg l)|none=>none
 |v=>Fg v
def SL {T:Nat->Type}(g:List (Nat×Bool)):ak T->Option (ak T)
 |.opt j w v=>match look g j with
  |some u=>some (bif u==w then v else .undef)|none=>none
 |v=>some v
def dK {T:Nat->Type}(g:List (Nat×Bool))(st:aD T):Operand->Option (ak T)
 |.tmp t=>match look st.fr t with
  |some v=>SL g v|none=>none
 |.const v=>Iw v|.func f=>some (.fn f [] [])|.global _=>none
def lN {T:Nat->Type}(g:List (Nat×Bool))(st:aD T):List Operand->Option (List (ak T))
 | []=>some []|x::l=>match dK g st x with
  |some v=>match lN g st l with
   |some vs=>some (v::vs)|none=>none
  |none=>none
def Iy {T:Nat->Type}(g:List (Nat×Bool))(st:aD T):List (Nat×Operand)->Option (List (Nat×ak T))
 | []=>some []| (i,x)::l=>match dK g st x with
   |some v=>match Iy g st l with
    |some vs=>some ((i,v)::vs)|none=>none
   |none=>none
def Fh {α:Type}(l:List α)(a b:Int):List α:=(l.take b.toNat).drop a.toNat
def x9 {T:Nat->Type}(st:aD T):ak T->ak T
 |.ref o off=>match nG st o with
  |some (.cells cs)=>.aI cs off|_=>.ref o off
 |.dJ o=>match nG st o with
  |some (.map k e m)=>.eU k e m|_=>.dJ o
 |.aJ o t=>match nG st o with
  |some (.arr t' l)=>if t'=t then .ay .sh t' l else .aJ o t|_=>.aJ o t
 |.sub o t a b=>match nG st o with
  |some (.arr t' l)=>if t'=t then .ay .sh t' (Fh l a b) else .sub o t a b|_=>.sub o t a b
 |v=>v
def Iz {T:Nat->Type}(st:aD T):List (ak T)->List (ak T)
 | []=>[]|v::l=>x9 st v::Iz st l
def MN {T:Nat->Type}(st:aD T):ak T->ak T
 |.fn f a b=>.fn f (Iz st a) (Iz st b)|v=>x9 st v
def SN {T:Nat->Type}(st:aD T):List (ak T)->List (ak T)
 | []=>[]|v::l=>MN st v::SN st l
def SQ {T:Nat->Type}(st:aD T):ak T->ak T
 |.agg cs=>.agg (SN st cs)|v=>MN st v
def Y5 {T:Nat->Type}(st:aD T):List (ak T)->List (ak T)
 | []=>[]|v::l=>SQ st v::Y5 st l
def Dq {T:Nat->Type}(st:aD T):ak T->ak T
 |.fn f a b=>.fn f (Iz st a) (Iz st b)|.agg cs=>.agg (SN st cs)|.kl cs=>.kl (Y5 st cs)|v=>x9 st v
def pK {T:Nat->Type}(st:aD T):List (ak T)->List (ak T)
 | []=>[]|v::l=>Dq st v::pK st l
def Y6 {T:Nat->Type}:ak T->Bool
 |.agg _=>false|.sg _=>false|.bq _=>false|.gone=>false|.undef=>false|.opt _ _ _=>false|_=>true
def Dr {T:Nat->Type}:List (ak T)->Bool
 | []=>true|v::l=>Y6 v&& Dr l
def yc {T:Nat->Type}:ak T->Bool
 |.gone=>false|.sg _=>false|.opt _ _ _=>false|_=>true
mutual
def oU {T:Nat->Type}:ak T->Bool
 |.int _ _=>true|.bool _=>true|.ji _=>true|.str _=>true|.cB=>true|.dF=>true|.gL=>true|.iD=>true|.ay .sh _ _=>true|.agg cs=>j4 cs|.bq cs=>j4 cs|.eU _ _ _=>true|.aI cs _=>j4 cs|.fn _ a b=>j4 a&& j4 b|.sg _=>true|_=>false
def j4 {T:Nat->Type}:List (ak T)->Bool
 | []=>true|v::l=>oU v&& j4 l
end
def yg {T:Nat->Type}:ak T->ak T
 |.ay _ t l=>.ay .sh t l|v=>v
def MO {T:Nat->Type}:List (ak T)->List (ak T)
 | []=>[]|v::l=>yg v::MO l
def Dt {T:Nat->Type}:ak T->ak T
 |.ay _ t l=>.ay .sh t l|.agg cs=>.agg (MO cs)|v=>v
def MP {T:Nat->Type}:ak T->Bool
 |.ay _ _ _=>true|.gT=>true|v=>oU v
def SS {T:Nat->Type}:List (ak T)->Bool
 | []=>true|v::l=>MP v&& SS l
def afy {T:Nat->Type}:ak T->Bool
 |.agg cs=>SS cs|v=>MP v
def wC {T:Nat->Type}:List (ak T)->Bool
 | []=>true|v::l=>afy v&& wC l
mutual
def uM:aM->Bool
 |.d _=>true|.l c _=>match c with
  |.any=>true|.sh=>true|_=>false
 |.agg l=>gu l|.aI l _=>gu l|.kl l=>gu l|.dF=>true|.cB=>true|.eU _ _=>true|.fn _ a b=>gu a&& gu b|.sg _=>true|_=>false
def gu:List aM->Bool
 | []=>true|k::l=>uM k&& gu l
def dep:aM->Nat
 |.agg l=>kY l+3|.aI l _=>kY l+3|.kl l=>kY l+3|.fn _ a b=>max (kY a) (kY b)+3|_=>3
def kY:List aM->Nat
 | []=>0|k::l=>max (dep k) (kY l)
end
def Y7:Ty->Bool
 |.int _=>true|.bool=>true|.str=>true|_=>false
def BP:List aM->Bool
 | []=>true|.d t::l=>Y7 t&& BP l|.sg _::l=>BP l|_=>false
mutual
def encS:(k:aM)->ru R.T k->V
 |.d t,x=>aX R t x|.l _ t,x=>aX R (.slice t) x|.agg l,x=>.agg (bX l x)|.aI l off,x=>.aI (bX l x) off|.kl l,x=>.ay .sh (bX l x)|.dF,_=>.dF|.cB,_=>.cB|.eU k e,x=>.eU (List.map (fun p=>aX R k p.1) x) (List.map (fun p=>aX R e p.2) x)
 |.fn f a b,x=>.fn (.func f) (bX a x.1) (bX b x.2)|.gT,_=>.ay .sh []|.ref _ _,_=>aK|.dJ _,_=>aK|.aJ _ _,_=>aK|.sub _ _,_=>aK|.sg l,x=>.agg (mK (zf l x))|.undef,_=>aK
def bX:(l:List aM)->aW R.T l->List V
 | [],_=>[]| [k],x=>[encS k x]|k::h::l,p=>encS k p.1::bX (h::l) p.2
end
def nZ:List V->V
 | [v]=>v|vs=>.bq vs
def IB:Cp->Cp->Bool
 |_,.any=>true|.sh,.sh=>true|.nil,.nil=>true|.nil,.own _=>true|.full,.own _=>true|.full,.full=>true|.own t,.own u=>Nat.beq t u|_,_=>false
def SV (c:Cp)(t:Ty):ak R.T->Option (List (Den R.T t))
 |.ay c' _ l=>bif IB c' c then pJ R l else none|.gT=>bif IB .nil c then some [] else none|_=>none
def IC {k e k' e':Ty}(m:List (Den R.T k'×Den R.T e')):Option (List (Den R.T k×Den R.T e)):=if h:k'=k/\e'=e then some (by rw[<-h.1,<-h.2];exact m) else none
mutual
def pk:(k:aM)->ak R.T->Option (ru R.T k)
 |.d t=>fun v=>BN R t v
 |.l c t=>fun v=>SV R c t v
 |.agg l=>fun v=>match v with
  |.agg cs=>dV l cs|_=>none
 |.ref o off=>fun v=>match v with
  |.ref p off'=>bif Nat.beq p o&& Nat.beq off' off then some () else none|_=>none
 |.aI l off=>fun v=>match v with
  |.aI cs off'=>bif Nat.beq off' off then dV l cs else none|_=>none
 |.kl l=>fun v=>match v with
  |.kl cs=>dV l cs|_=>none
 |.dF=>fun v=>match v with
  |.dF=>some ()|_=>none
 |.cB=>fun v=>match v with
  |.cB=>some ()|_=>none
 |.dJ o=>fun v=>match v with
  |.dJ p=>bif Nat.beq p o then some () else none|_=>none
 |.eU k e=>fun v=>match v with
  |.eU _ _ m=>IC R m|_=>none
 |.fn f a b=>fun v=>match v with
  |.fn f' a' b'=>bif Nat.beq f' f then (match dV a a' with
   |some x=>match dV b b' with
    |some y=>some (x,y)|none=>none
   |none=>none) else none
  |_=>none
 |.gT=>fun v=>match v with
  |.gT=>some ()|_=>none
 |.aJ o t=>fun v=>match v with
  |.aJ p t'=>bif Nat.beq p o then (if t'=t then some () else none) else none|_=>none
 |.sub o t=>fun v=>match v with
  |.sub p t' a b=>bif Nat.beq p o then (if t'=t then some (a,b) else none) else none|_=>none
 |.sg l=>fun v=>match v with
  |.sg ss=>BL l ss|_=>none
 |.undef=>fun v=>match v with
  |.undef=>some ()|_=>none
def dV:(l:List aM)->List (ak R.T)->Option (aW R.T l)
 | []=>fun vs=>match vs with
   | []=>some ()|_::_=>none
 | [k]=>fun vs=>match vs with
   | [v]=>pk k v|_=>none
 |k::h::l=>fun vs=>match vs with
  | []=>none|v::vs=>match pk k v with
   |some x=>match dV (h::l) vs with
    |some p=>some (x,p)|none=>none
   |none=>none
end
mutual
def up (c:Cp):(k:aM)->ru R.T k->ak R.T
 |.d t,x=>jk R c t x|.l c t,x=>.ay c t x|.agg l,x=>.agg (eY c l x)|.ref o off,_=>.ref o off|.aI l off,x=>.aI (eY c l x) off|.kl l,x=>.kl (eY c l x)|.dF,_=>.dF|.cB,_=>.cB|.dJ o,_=>.dJ o|.eU k e,x=>.eU k e x|.fn f a b,x=>.fn f (eY c a x.1) (eY c b x.2)|.gT,_=>.gT|.aJ o t,_=>.aJ o t|.sub o t,x=>.sub o t x.1 x.2|.sg l,x=>.sg (zf l x)|.undef,_=>.undef
def eY (c:Cp):(l:List aM)->aW R.T l->List (ak R.T)
 | [],_=>[]| [k],x=>[up c k x]|k::h::l,p=>up c k p.1::eY c (h::l) p.2
end
def Du:(k:d9)->aG R.T->Option (Dn R.T k)
 |.cells l=>fun o=>match o with
  |.cells cs=>dV R l cs|_=>none
 |.st n=>fun o=>match o with
  |.cells cs=>Fb R n (.agg cs)|_=>none
 |.map k e=>fun o=>match o with
  |.map _ _ m=>IC R m|_=>none
 |.arr t=>fun o=>match o with
  |.arr _ l=>pJ R l|_=>none
 |.sg l=>fun o=>match o with
  |.sg ss=>BL l ss|_=>none
def mY:(k:d9)->Dn R.T k->aG R.T
 |.cells l,x=>.cells (eY R .any l x)|.st n,x=>.cells (gq R .any (R.lf n) (R.of n x))|.map k e,x=>.map k e x|.arr t,x=>.arr t x|.sg l,x=>.sg (zf l x)
def wD (st:List (Nat×ak R.T)):(l:List (Nat×aM))->Option (E9 R.T l)
 | []=>some ()| [(i,k)]=>match look st i with
   |some v=>pk R k v|none=>none
 | (i,k)::h::l=>match look st i with
   |some v=>match pk R k v with
    |some x=>match wD st (h::l) with
     |some p=>some (x,p)|none=>none
    |none=>none
   |none=>none
def MQ:(l:List (Nat×aM))->E9 R.T l->List (Nat×ak R.T)
 | [],_=>[]| [(i,k)],x=>[(i,up R .any k x)]| (i,k)::h::l,p=>(i,up R .any k p.1)::MQ (h::l) p.2
def lQ (st:List (Nat×aG R.T)):(l:List (Nat×d9))->Option (cZ R.T l)
 | []=>some ()| [(i,k)]=>match look st i with
   |some v=>Du R k v|none=>none
 | (i,k)::h::l=>match look st i with
   |some v=>match Du R k v with
    |some x=>match lQ st (h::l) with
     |some p=>some (x,p)|none=>none
    |none=>none
   |none=>none
def gF:(l:List (Nat×d9))->cZ R.T l->List (Nat×aG R.T)
 | [],_=>[]| [(i,k)],x=>[(i,mY R k x)]| (i,k)::h::l,p=>(i,mY R k p.1)::gF (h::l) p.2
def pack (st:aD R.T):(s:Shape)->Option (rz R.T s)
 | ⟨s,[]⟩=>wD R st.fr s| ⟨s,o::os⟩=>match wD R st.fr s with
   |some x=>match lQ R st.ob (o::os) with
    |some y=>some (x,y)|none=>none
   |none=>none
def vk {T:Nat->Type}:ak T->Bool
 |.gT=>true|.ay .nil _ l=>l.isEmpty|.ay .full _ l=>l.isEmpty|_=>false
def vo {T:Nat->Type}(W:List Nat):List (Nat×aM)->aD T->aD T
 | [],st=>st| (i,.aJ o t)::l,st=>match look st.fr i with
   |some v=>bif vk v&& bf o W then vo W l ⟨(i,.aJ o t)::(st.new o (.arr t [])).fr,(st.new o (.arr t [])).ob⟩ else vo W l st|none=>vo W l st
 |_::l,st=>vo W l st
def IE {T:Nat->Type}(W:List Nat)(o:Nat)(k:d9)(st:aD T):aD T:=match k with
 |.cells l=>match l with
  | [.aJ p t]=>match look st.ob o with
    |some (.cells cs)=>match cs with
     | [v]=>bif vk v&& bf p W&& !(Nat.beq o p) then ⟨(st.new p (.arr t [])).fr,(o,.cells [.aJ p t])::(st.new p (.arr t [])).ob⟩ else st|_=>st
    |_=>st
  | [.sub p t]=>match look st.ob o with
    |some (.cells cs)=>match cs with
     | [v]=>bif vk v&& bf p W&& !(Nat.beq o p) then ⟨(st.new p (.arr t [])).fr,(o,.cells [.sub p t 0 0])::(st.new p (.arr t [])).ob⟩ else st|_=>st
    |_=>st
  |_=>st
 |_=>st
def IG {T:Nat->Type}(W:List Nat):List (Nat×d9)->aD T->aD T
 | [],st=>st| (o,k)::l,st=>IG W l (IE W o k st)
def og (W:List Nat)(st:aD R.T)(s:Shape):Option (rz R.T s):=pack R (vo W s.sl (IG W s.ob st)) s
def unpack:(s:Shape)->rz R.T s->aD R.T
 | ⟨s,[]⟩,x=>⟨MQ R s x,[]⟩| ⟨s,o::os⟩,x=>⟨MQ R s x.1,gF R (o::os) x.2⟩
def Fj:Ex->Ex->Bool
 |.normal,.normal=>true|.ret,.ret=>true|.exit i,.exit j=>Nat.beq i j|_,_=>false
def yh (W:List Nat)(e:Ex)(st:aD R.T):(l:List (Ex×Shape))->Option (Out R.T l)
 | []=>none| [(x,s)]=>bif Fj e x then og R W st s else none| (x,s)::h::l=>bif Fj e x then (match og R W st s with
   |some p=>some (.inl p)|none=>none) else (match yh W e st (h::l) with
   |some p=>some (.inr p)|none=>none)
def Az {β:Type}(b:aD R.T)(k:Ex->aD R.T->Option β):(l:List (Ex×Shape))->Out R.T l->Option β
 | [],_=>none| [(x,s)],p=>k x (b.over (unpack R s p))| (x,s)::h::l,p=>Sum.elim (fun q=>k x (b.over (unpack R s q))) (fun q=>Az b k (h::l) q) p
end
end aY
end
