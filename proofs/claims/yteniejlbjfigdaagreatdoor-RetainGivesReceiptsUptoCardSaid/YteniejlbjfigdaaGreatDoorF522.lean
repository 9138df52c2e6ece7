import Derived.DefersIn
import Derived.Test.YteniejlbjfigdaaGreatDoorF506
set_option linter.all false
section
namespace aR
open Go
structure FF where
 f:dJ
 ex:List Key
def FF.W (f:FF)(k:Key):Prop:=k∈f.f.w\/(f.f.lH=true/\k.state=true/\k∉f.ex)
def JG (a b:FF):Bool:=
 (a.f.lH&& (b.f.qb||b.f.lH||b.f.t.any (fun k=>k.state&& !a.ex.any (·.eq k))||b.f.w.any Key.state))||a.f.w.any fun k=>k.eq .rest||b.f.t.any (·.eq k)||b.f.w.any (·.eq k)||(b.f.qb||b.f.lH)&& k.state
def Dm (ms:List Nat)(fs:List FF):Bool:=
 (List.range fs.length).all fun i=>(List.range i).all fun j=>(ms.getD i 0).testBit j||(!JG (fs.getD i ⟨gB,[]⟩) (fs.getD j ⟨gB,[]⟩)&& !JG (fs.getD j ⟨gB,[]⟩) (fs.getD i ⟨gB,[]⟩))
theorem FF.QE {f:FF}{k:Key}(h:f.W k):f.f.T k:=by
 rcases h with h| ⟨h,h1,_⟩
 .exact .inr (.inr (.inl h))
 .exact .inr (.inr (.inr ⟨.inr h,h1⟩))
theorem aju {f g:FF}(h:JG f g=false)(k:Key):¬(f.W k/\g.f.T k):=by
 rintro⟨hw,ht⟩;simp only[JG,tJ,List.any_eq_false] at h;obtain⟨h1,h2⟩:=h;have VR:k∈f.f.w:=by
  rcases hw with h| ⟨h,hs,hx⟩
  .exact h
  .rw[h,Bool.true_and] at h1;simp only[tJ,List.any_eq_false] at h1;obtain⟨⟨⟨a1,a2⟩,a3⟩,a4⟩:=h1;rcases ht with e|e|e| ⟨e,_⟩
   .subst e;cases hs
   .refine absurd ?_ (a3 k e);rw[hs,Bool.true_and,xK];cases ha:f.ex.any (·.eq k)
    .rfl
    .obtain⟨z,hz,he⟩:=List.any_eq_true.1 ha;rw[Key.eq_iff.1 he] at hz;exact absurd hz hx
   .exact absurd hs (a4 k e)
   .rcases e with e|e
    .rw[a1] at e;cases e
    .rw[a2] at e;cases e
 have h3:=h2 k VR;simp only[xJ,List.any_eq_true,aZ,not_or,not_exists,not_and] at h3;obtain⟨⟨⟨h4,h5⟩,h6⟩,h7⟩:=h3;rcases ht with h|h|h| ⟨h,hs⟩
 .exact h4 (Key.eq_iff.2 h)
 .exact h5 k h (Key.eq_iff.2 rfl)
 .exact h6 k h (Key.eq_iff.2 rfl)
 .rcases h with h|h
  .exact h7 (.inl h) hs
  .exact h7 (.inr h) hs
section
variable (E:Env)
def Dn (S:iN)(all:List Oper)(base i:Nat)(x:Fr×ah)(f:FF)(y:Fr×ah):Prop:=
 (∀x',(∀k,f.f.T k->dZ k x x')->∃y',jc E S all base i x'.1 x'.2=some y'/\(∀k,f.W k->dZ k y y')/\∀k,¬f.W k->dZ k x' y')/\(∀k,¬f.W k->dZ k x y)
def FH (S:iN)(all:List Oper)(base:Nat):List Oper->Nat->Fr×ah->List FF->Fr×ah->Prop
 | [],_,x,fs,y=>fs=[]/\y=x|_::os,i,x,fs,y=>∃f fs' z,fs=f::fs'/\jc E S all base i x.1 x.2=some z/\Dn E S all base i x f z/\FH S all base os (i+1) z fs' y
end
section
variable {E:Env}{S T:iN}
theorem ajv (h:jw S T){all:List Oper}{base i:Nat}{x:Fr×ah}{f:FF}{y:Fr×ah}(hl:Dn E S all base i x f y):Dn E T all base i x f y:=
 ⟨fun x' hx=>let ⟨y',h1,h2⟩:=hl.1 x' hx;⟨y',LM h h1,h2⟩,hl.2⟩
theorem ajw (h:jw S T){all:List Oper}{base:Nat}:∀{os:List Oper}{i:Nat}{x:Fr×ah}{fs:List FF}{y:Fr×ah},FH E S all base os i x fs y->FH E T all base os i x fs y
 | [],_,_,_,_,hr=>hr|_::_,_,_,_,_,⟨f,fs',z,h1,h2,h3,h4⟩=>⟨f,fs',z,h1,LM h h2,ajv h h3,ajw h h4⟩
theorem ajx {all:List Oper}{base:Nat}:∀{os:List Oper}{i:Nat}{x:Fr×ah}{fs:List FF}{y:Fr×ah},(∀j,os[j]? =all[i+j]?)->FH E S all base os i x fs y->∃gs,l5 E S all (base+i) os x.1 x.2=some (gs,y.1,y.2)
 | [],_,x,_,y,_,hr=>by obtain⟨_,rfl⟩:=hr;exact⟨[],rfl⟩
 |o::os,i,x,_,y,hall,⟨f,fs',z,h1,h2,h3,h4⟩=>by
  have h0:all[i]? =some o:=by simpa using (hall 0).symm
  obtain⟨gs,hg⟩:=ajx (fun j=>by have:=hall (j+1);simpa [oG,Nat.add_comm 1 j] using this) h4;unfold jc at h2;rw[h0] at h2;simp only[iR] at h2;obtain⟨t,h5,h6⟩:=h2;rw[<-oG] at hg;cases t with
  |true=>simp only[if_true,aW] at h6;obtain⟨⟨v,bJ,Z1⟩,h7,rfl⟩:=h6;exact⟨dW E all x.1 o true::gs,by simp only[l5,h5,Option.bind_some,if_true,h7,hg,Option.map_some]⟩
  |false=>simp only[bZ,if_false,iE] at h6;subst h6;exact⟨dW E all x.1 o false::gs,by simp only[l5,h5,Option.bind_some,bZ,if_false,hg,Option.map_some]⟩
theorem ajy {all:List Oper}{base:Nat}:∀{os:List Oper}{k:Nat}{x:Fr×ah}{fs:List FF}{y:Fr×ah},FH E S all base os k x fs y->fs.length=os.length/\∃s:Nat->Fr×ah,s k=x/\s (k+os.length)=y/\
 ∀i,k<=i->i<k+os.length->Dn E S all base i (s i) (fs.getD (i-k) ⟨gB,[]⟩) (s (i+1))
 | [],k,x,fs,y,hr=>by obtain⟨rfl,rfl⟩:=hr;exact⟨rfl,fun _=>y,rfl,rfl,fun i h1 h2=>KP⟩
 |o::os,k,x,_,y,⟨f,fs',z,h1,h2,h3,h4⟩=>by
  subst h1;obtain⟨hlen,s,hs1,hs2,hs3⟩:=ajy h4;refine⟨by simp[hlen],fun i=>if i=k then x else s i,aB,?_,fun i g1 g2=>?_⟩
  .have:¬(k+(o::os).length=k):=aB
   simp only[this,if_false];rw[show k+(o::os).length=k+1+os.length by simp;omega];exact hs2
  .by_cases hik:i=k
   .subst hik;have:¬(i+1=i):=RS;simp only[if_true,this,if_false];rw[hs1];simpa using h3
   .have:¬(i+1=k):=RS;simp only[hik,this,if_false];have:=hs3 i RS (by simp at g2;omega);rw[show i-k=(i-(k+1))+1 by omega];simpa using this
theorem ave {ops:List Oper}{base:Nat}{x:Fr×ah}{fs:List FF}{y:Fr×ah}(h:FH E S ops base ops 0 x fs y)(hp:Dm (nK ops) fs=true):Free E S (nK ops) ops base x y:=by
 obtain⟨hlen,s,h0,hn,hs⟩:=ajy h;rw[nX] at hn;have hs':∀i,i<ops.length->Dn E S ops base i (s i) (fs.getD i ⟨gB,[]⟩) (s (i+1)):=fun i hi=>by
  have:=hs i (qA _) RS
  rwa[Nat.sub_zero] at this
 refine⟨s,fun i=>(fs.getD i ⟨gB,[]⟩).f.T,fun i=>(fs.getD i ⟨gB,[]⟩).W,h0,hn,fun i k=>FF.QE,fun i hi=>(hs' i hi).1,fun i hi=>(hs' i hi).2,fun i j hi hj=>?_⟩;simp only[Dm,kU] at hp;have:=hp i dP j tC;simp only[xJ] at this;refine this.imp id (fun h=>?_);simp only[aZ,xK] at h;exact⟨aju h.1,aju h.2⟩
theorem ajz {all:List Oper}{base i:Nat}{fr:Fr}{Z:ah}{o:Oper}(ho:all[i]? =some o){wt:Bool}(hwt:fD all fr o=some wt){y:Fr×ah}(hs:jc E S all base i fr Z=some y):Dn E S all base i (fr,Z) ⟨dW E all fr o wt,[]⟩ y:=by
 have hW:∀k,(⟨dW E all fr o wt,[]⟩:FF).W k↔(dW E all fr o wt).W k:=fun k=>by
  unfold FF.W dJ.W;constructor
  .rintro (h| ⟨h,h1,_⟩)
   .exact .inl h
   .exact .inr ⟨h,h1⟩
  .rintro (h| ⟨h,h1⟩)
   .exact .inl h
   .exact .inr ⟨h,h1,aB⟩
 refine⟨fun x' hx=>?_,fun k hk=>?_⟩
 .obtain⟨y',h1,h2,h3,_⟩:=G7 (E:=E) (S:=S) (base:=base) ho hwt (bJ:=y.1) (Z1:=y.2) hs x' hx;exact⟨y',h1,fun k hk=>h2 k ((hW k).1 hk),fun k hk=>h3 k fun h=>hk ((hW k).2 h)⟩
 .obtain⟨_,_,_,_,h4⟩:=G7 (E:=E) (S:=S) (base:=base) ho hwt (bJ:=y.1) (Z1:=y.2) hs (fr,Z) (fun k _=>.refl k _);exact h4 k fun h=>hk ((hW k).2 h)
theorem avf {all:List Oper}{base i:Nat}{fr:Fr}{Z:ah}{o:Oper}(ho:all[i]? =some o){wt:Bool}(hwt:fD all fr o=some wt){y:Fr×ah}(hs:jc E S all base i fr Z=some y){ex:List Key}(hex:∀k∈ex,dZ k (fr,Z) y)(ht:(dW E all fr o wt).qb=true\/(dW E all fr o wt).lH=true):Dn E S all base i (fr,Z) ⟨dW E all fr o wt,ex⟩ y:=by
 have hW:∀k,¬(⟨dW E all fr o wt,ex⟩:FF).W k->¬(dW E all fr o wt).W k\/(k∈ex/\k.state=true):=fun k h=>by
  by_cases hx:k∈ex
  .by_cases hst:k.state=true
   .exact .inr ⟨hx,hst⟩
   .left;rintro (h1| ⟨_,h1⟩)
    .exact h (.inl h1)
    .exact hst h1
  .left;rintro (h1| ⟨h1,h2⟩)
   .exact h (.inl h1)
   .exact h (.inr ⟨h1,h2,hx⟩)
 have hW2:∀k,(⟨dW E all fr o wt,ex⟩:FF).W k->(dW E all fr o wt).W k:=fun k h=>h.imp id fun h=>⟨h.1,h.2.1⟩;refine⟨fun x' hx=>?_,fun k hk=>?_⟩
 .obtain⟨y',h1,h2,h3,h4⟩:=G7 (E:=E) (S:=S) (base:=base) ho hwt (bJ:=y.1) (Z1:=y.2) hs x' hx;refine⟨y',h1,fun k hk=>h2 k (hW2 k hk),fun k hk=>?_⟩;rcases hW k hk with h| ⟨h5,h6⟩
  .exact h3 k h
  .by_cases hw:(dW E all fr o wt).W k
   .have hT:dZ k (fr,Z) x':=hx k (.inr (.inr (.inr ⟨ht,h6⟩)));exact(hT.symm.trans (hex k h5)).trans (h2 k hw)
   .exact h3 k hw
 .rcases hW k hk with h| ⟨h5,_⟩
  .obtain⟨_,_,_,_,h4⟩:=G7 (E:=E) (S:=S) (base:=base) ho hwt (bJ:=y.1) (Z1:=y.2) hs (fr,Z) (fun k _=>.refl k _);exact h4 k h
  .exact hex k h5
end
section
variable (E:Env)
def iT (all:List Oper)(base i:Nat)(os:List Oper)(fr:Fr)(Z:ah)(fs:List FF)(Q:Fr->ah->Prop):Prop:=
 ∃n fs' fr' Z',FH E (bH E n) all base os i (fr,Z) fs' (fr',Z')/\Dm (nK all) (fs++fs')=true/\Q fr' Z'
end
section
variable {E:Env}{fr:Fr}{Z:ah}
theorem aD.TB {id:Nat}{ops:Array Oper}{Q:Ex->Fr->ah->Prop}(he:qc ops.toList=true)(h:iT E ops.toList Z.next 0 ops.toList fr (Z.bump ops.toList.length) [] (fun fr Z=>Q .normal fr Z)):aD E (.region id ops true) fr Z Q:=by
 obtain⟨n,fs,fr',Z',h1,h2,h3⟩:=h;obtain⟨gs,hg⟩:=ajx (fun j=>aB) h1;refine⟨n,.normal,fr',Z',?_,h3⟩;simp only[dX,if_true];rw[Nat.add_zero] at hg;rw[show l5 E (bH E n) ops.toList Z.next ops.toList fr {Z with next:=Z.next+ops.toList.length}=some (gs,fr',Z') from hg];simp only[Option.bind_some];split
 .rfl
 .unfold KZ;rw[if_pos ⟨he,ave h1 rV⟩]
theorem iT.nil {all:List Oper}{base i:Nat}{fs:List FF}{Q:Fr->ah->Prop}(hp:Dm (nK all) fs=true)(h:Q fr Z):iT E all base i [] fr Z fs Q:=⟨0,[],fr,Z,⟨rfl,rfl⟩,by simpa using hp,h⟩
theorem iT.step {all:List Oper}{base i:Nat}{o:Oper}{os:List Oper}{fs:List FF}{Q:Fr->ah->Prop}{f:FF}{y:Fr×ah}{m:Nat}(h1:jc E (bH E m) all base i fr Z=some y)(h2:Dn E (bH E m) all base i (fr,Z) f y)(h:iT E all base (i+1) os y.1 y.2 (fs++[f]) Q):iT E all base i (o::os) fr Z fs Q:=by
 obtain⟨n,fs',fr',Z',g1,g2,g3⟩:=h;exact⟨max n m,f::fs',fr',Z',⟨f,fs',y,rfl,LM (jk (pY n m)) h1,ajv (jk (pY n m)) h2,ajw (jk (qY n m)) g1⟩,by simpa using g2,g3⟩
theorem zS {S:iN}{all:List Oper}{base i:Nat}{o:Oper}{v:V}{Z1:ah}(ho:all[i]? =some o)(hw:fD all fr o=some true)(hop:opC E S fr Z (base+i) o=some (v,fr,Z1)):jc E S all base i fr Z=some (fr.put o.dst v,Z1):=by unfold jc;rw[ho];simp only[hw,Option.bind_some,if_true,hop,Option.map_some]
theorem iT.op {all:List Oper}{base i:Nat}{o:Oper}{os:List Oper}{v:V}{Z1:ah}{fs:List FF}{Q:Fr->ah->Prop}(ho:all[i]? =some o)(hw:fD all fr o=some true)(hop:∀S,opC E S fr Z (base+i) o=some (v,fr,Z1))(h:iT E all base (i+1) os (fr.put o.dst v) Z1 (fs++[⟨dW E all fr o true,[]⟩]) Q):iT E all base i (o::os) fr Z fs Q:=
 iT.step (m:=0) (zS ho hw (hop _)) (ajz ho hw (zS ho hw (hop _))) h
theorem iT.call {all:List Oper}{base i:Nat}{o:Oper}{os:List Oper}{v:V}{fs:List FF}{Q:Fr->ah->Prop}{c:Call}{f:Operand}{g:FuncId}{a b cB:List V}(hi:all[i]? =some o)(hw:fD all fr o=some true)(ho:o.op= .call c)(fO:c.callee= .value f)(hf:fr.ev E f= .fn (.func g) a b)(hg:E.imp g=false)(has:(a++c.args.toList.map (fr.ev E)++b).mapM (bg 20 Z)=some cB)(hp:Pure E g cB v)(hc:((a++c.args.toList.map (fr.ev E)++b).all (fun x=>aQ (er x))||flat v)=true)(h:iT E all base (i+1) os (fr.put o.dst v) Z (fs++[⟨dW E all fr o true,[]⟩]) Q)(eP:∀d,o.dst=some d->E.own g d=false:=by intros;rfl):iT E all base i (o::os) fr Z fs Q:=by
 obtain⟨m,hm⟩:=hp;have hop:opC E (bH E m) fr Z (base+i) o=some (v,fr,Z):=by simp only[opC,ho,fO,zh hf eP,bZ,if_false,hf,V7 hg has hm hc,Option.map_some]
 exact iT.step (m:=m) (zS hi hw hop) (ajz hi hw (zS hi hw hop)) h
theorem iT.Aq {all:List Oper}{base i:Nat}{o:Oper}{os:List Oper}{fs:List FF}{Q:Fr->ah->Prop}{c:Call}{f:Operand}{g:FuncId}{a b:List V}(ex:List Key)(hi:all[i]? =some o)(hw:fD all fr o=some true)(ho:o.op= .call c)(fO:c.callee= .value f)(hf:fr.ev E f= .fn (.func g) a b)(hg:E.imp g=true)(hft:(dW E all fr o true).lH=true)(hp:jd E g (a++c.args.toList.map (fr.ev E)++b) (fr.d+1) Z (fun v Z1=>(∀k∈ex,dZ k (fr,Z) (fr.put o.dst v,Z1))/\iT E all base (i+1) os (fr.put o.dst v) Z1 (fs++[⟨dW E all fr o true,ex⟩]) Q))(eP:∀d,o.dst=some d->E.own g d=false:=by intros;rfl):iT E all base i (o::os) fr Z fs Q:=by
 obtain⟨m,v,Z1,hm,hex,h⟩:=hp;have hap:jI E (bH E m) fr.d Z (.fn (.func g) a b) (c.args.toList.map (fr.ev E))=some (v,Z1):=by unfold jI;simp only[hg,if_true];exact hm
 have hop:opC E (bH E m) fr Z (base+i) o=some (v,fr,Z1):=by simp only[opC,ho,fO,zh hf eP,bZ,if_false,hf,hap,Option.map_some]
 exact iT.step (m:=m) (zS hi hw hop) (avf hi hw (zS hi hw hop) hex (.inr hft)) h
theorem iT.avg {all:List Oper}{base i:Nat}{o:Oper}{os:List Oper}{fs:List FF}{Q:Fr->ah->Prop}{c:Call}{f:Operand}{g:FuncId}{a b:List V}{v:V}{Z1:ah}(F:dJ)(hi:all[i]? =some o)(hw:fD all fr o=some true)(ho:o.op= .call c)(fO:c.callee= .value f)(hf:fr.ev E f= .fn (.func g) a b)(hg:E.imp g=true)(m:Nat)(Ap:F.lH=false)(vw:F.qb=false)(hT:∀k∈rU all o,k∈F.t)(hdst:∀k∈nG o,k∈F.w)(hsl:∀t,Key.slot t∈F.w->o.dst=some t)(hrest:Key.rest∉F.w)(hloc:∀Z',(∀k,k∈F.t\/k∈F.w->k.state=true->dZ k (fr,Z) (fr,Z'))->∃nL,(bH E m).call g (a++c.args.toList.map (fr.ev E)++b) (fr.d+1) Z'=some (v,nL)/\(∀k,k∈F.w->k.state=true->dZ k (fr,Z1) (fr,nL))/\∀k,k∉F.w->k.state=true->dZ k (fr,Z') (fr,nL))(hself:(bH E m).call g (a++c.args.toList.map (fr.ev E)++b) (fr.d+1) Z=some (v,Z1))(h:iT E all base (i+1) os (fr.put o.dst v) Z1 (fs++[⟨F,[]⟩]) Q)(eP:∀d,o.dst=some d->E.own g d=false:=by intros;rfl):iT E all base i (o::os) fr Z fs Q:=by
 have hop:∀{fr':Fr}{Z' nL:ah},fr'.d=fr.d->fr'.aj=fr.aj->(∀x∈o.op.operands.toList,fr'.ev E x=fr.ev E x)->(bH E m).call g (a++c.args.toList.map (fr.ev E)++b) (fr.d+1) Z'=some (v,nL)->opC E (bH E m) fr' Z' (base+i) o=some (v,fr',nL):=by
  intro fr' Z' nL hd bO hev hm;have hap:jI E (bH E m) fr.d Z' (.fn (.func g) a b) (c.args.toList.map (fr.ev E))=some (v,nL):=by unfold jI;simp only[hg,if_true];exact hm
  rw[aeS hev hd bO];simp only[opC,ho,fO,zh hf eP,bZ,if_false,hf,hap,Option.map_some]
 have hW:∀k,(⟨F,[]⟩:FF).W k↔k∈F.w:=fun k=>⟨fun h=>h.elim id fun h=>(by rw[Ap] at h;cases h.1),fun h=>.inl h⟩;have loc:∀x':Fr×ah,(∀k,F.T k->dZ k (fr,Z) x')->∃y',jc E (bH E m) all base i x'.1 x'.2=some y'/\(∀k,(⟨F,[]⟩:FF).W k->dZ k (fr.put o.dst v,Z1) y')/\∀k,¬(⟨F,[]⟩:FF).W k->dZ k x' y':=by
  rintro⟨fr',Z'⟩ hx;obtain⟨r1,r2⟩:fr.d=fr'.d/\fr.aj=fr'.aj:=hx .rest (.inl rfl);have ajA:∀t,Key.slot t∈rU all o->fr'.tm t=fr.tm t:=fun t ht=>Eq.symm (hx (.slot t) (.inr (.inl (hT _ ht))));obtain⟨nL,h1,h2,h3⟩:=hloc Z' fun k hk hs=>by
   have:=hx k (hk.elim (fun h=>.inr (.inl h)) fun h=>.inr (.inr (.inl h)));cases k with
   |slot t=>cases hs|rest=>cases hs|obj l=>exact this|top=>exact this|nx=>exact this
  refine⟨(fr'.put o.dst v,nL),?_,fun k hk=>?_,fun k hk=>?_⟩
  .exact zS (E:=E) hi ((ae6 ajA).trans hw) (hop r1.symm r2.symm (ae5 ajA) h1)
  .rw[hW] at hk;cases k with
   |slot t=>show (fr.put o.dst v).tm t=(fr'.put o.dst v).tm t;rw[ze,ze,if_pos (hsl t hk),if_pos (hsl t hk)]|rest=>exact absurd hk hrest|obj l=>exact h2 _ hk rfl|top=>exact h2 _ hk rfl|nx=>exact h2 _ hk rfl
  .rw[hW] at hk;cases k with
   |slot t=>show fr'.tm t=(fr'.put o.dst v).tm t;rw[ze,if_neg (fun e=>hk (hdst _ (G6.2 e)))]
   |rest=>exact⟨(GZ _ _ _).symm,(G5 _ _ _).symm⟩|obj l=>exact h3 _ hk rfl|top=>exact h3 _ hk rfl|nx=>exact h3 _ hk rfl
 refine iT.step (m:=m) (f:=⟨F,[]⟩) (y:=(fr.put o.dst v,Z1)) (zS hi hw (hop rfl rfl (fun _ _=>rfl) hself)) ⟨loc,fun k hk=>?_⟩ h;obtain⟨y',h1,h2,h3⟩:=loc (fr,Z) (fun k _=>.refl k _);have e:y'=(fr.put o.dst v,Z1):=by have h1':jc E (bH E m) all base i fr Z=some y':=h1;rw[zS hi hw (hop rfl rfl (fun _ _=>rfl) hself)] at h1';exact(jW h1').symm
 rw[<-e];exact h3 k hk
end
end aR
end
section
namespace aR
open Go Go.RowKit
section
variable (E:Env)
def Nz (ops:List Oper):Option (Nat×Oper×Call):=match ops.getLast? with
 |some o=>match o.op with
  |.defer c=>some (ops.length-1,o,c)|_=>none
 |none=>none
abbrev vR:=Option (Nat×List V)
def ZQ (fr:Fr)(c:Call):vR:=match c.callee with
 |.value f=>match fr.ev E f with
  |.fn (.func g) x y=>some (g,x++c.args.toList.map (fr.ev E)++y)|_=>none
 |_=>none
def qR (S0:iN)(co:Code->Fr->ah->Option (Ex×Fr×ah)):Code->Fr->ah->Option (Ex×Fr×ah×vR)
 |.seq a b,fr,Z=>match a with
  |.region _ ops false=>match Nz ops.toList with
   |some (k,o,c)=>if o.dst=none/\o.guard=none then (opsL E S0 ops.toList Z.next (List.range k) fr {Z with next:=Z.next+ops.size}).bind fun (fr,Z)=>(ZQ E fr c).bind fun q=>(co b fr Z).map fun (e,fr,Z)=>(e,fr,Z,some q)else none
   |none=>(co a fr Z).bind fun (e,fr,Z)=>match e with
    |.normal=>qR S0 co b fr Z|e=>some (e,fr,Z,none)
  |a=>(co a fr Z).bind fun (e,fr,Z)=>match e with
   |.normal=>qR S0 co b fr Z|e=>some (e,fr,Z,none)
 |c,fr,Z=>(co c fr Z).map fun (e,fr,Z)=>(e,fr,Z,none)
def JH (g:FuncId):Bool:=match E.P.funcs[g]? with
 |some fn=>match fn.body with
  |some c=>j4 c|none=>false
 |none=>false
def FI (S0 S:iN)(f:FuncId)(args:List V)(d:Nat)(Z:ah):Option (V×ah):=
 (E.P.funcs[f]?).bind fun fn=>fn.body.bind fun c=>
 if args.length<=fn.ntmps/\iD fn.ntmps c/\j4 c=true then (qR E S0 S.code c {d:=d,aj:=E.aj f,tm:=fun i=>args.getD i aJ} Z).bind fun (e,fr,Z,q)=>
 match e with
 |.exit _=>none|_=>(match q with
   |none=>some Z|some (g,cB)=>if JH E g=true then (S.call g cB (d+1) Z).map Prod.snd else none).bind fun Z=>(fn.results.toList.mapM (jo E fr Z)).map fun vs=>(match vs with| [v]=>v|vs=>.bK vs,Z)else none
end
section
variable {E:Env}{K K':bq}{w w':World}{Z Z':ah}{B0:Nat}
def Dp (vs:List V):V:=match vs with| [v]=>v|vs=>.bK vs
theorem ZR (h:bG E B0 Z K w){fn:Func}{fr:Fr}{tmps:Array Value}(hf:l6 K Z.top w fr tmps){vs:List V}(hvs:fn.results.toList.mapM (jo E fr Z)=some vs):
 ∃c,(results fn tmps).run E.P w= .ok c w/\Rel K Z.top w (Dp vs) c:=by
 obtain⟨cs,k1,k2,k3⟩:=afd h hf fn.results.toList vs hvs;have hrun:(results fn tmps).run E.P w= .ok (if h:cs.toArray.size=1 then cs.toArray[0] else .tuple cs.toArray) w:=by have hres:results fn tmps=(do let vs<-fn.results.mapM (LH tmps);pure (if h:vs.size=1 then vs[0] else .tuple vs)):=rfl;rw[hres,Array.mapM_eq_mapM_toList];simp only[Sem.run_bind,Sem.run_map,k1,Result.andThen_ok,Sem.run_pure]
 refine⟨_,hrun,?_⟩;cases vs with
 |nil=>
  have:cs=[]:=P5
  subst this;exact .bK [] #[] rfl (fun i hi=>absurd hi (fZ i))
 |cons v1 vs=>
  cases cs with
  |nil=>simp at k2|cons c1 cs=>
   cases vs with
   |nil=>have:cs=[]:=P5;subst this;have:=k3 0 aB;show Rel K Z.top w v1 _;simpa using this|cons v2 vs=>have hsz2:¬((c1::cs).toArray.size=1):=(by simp only[List.length_cons,Nat.add_right_cancel_iff] at k2;rw[List.size_toArray,List.length_cons];omega);rw[dif_neg hsz2];refine .bK _ _ (by simpa using k2) (fun i hi=>?_);have:=k3 i hi;simpa [yR,List.getD] using this
theorem ajB {f:FuncId}{d:Nat}{fn:Func}{args:List V}{dU:Array Value}(hs:bG E B0 Z K w)(hB:B0<=w.heap.size)(hA:∀s,K.A s->s<Z.next)(hr:RelA K Z.top w args dU)(hlen:args.length<=fn.ntmps):
 St E B0 Z K w {d:=d,aj:=E.aj f,tm:=fun i=>args.getD i aJ} {tmps:=dU++Array.replicate (fn.ntmps-dU.size) undef,defers:=[]} fn.ntmps ⟨[],w.heap.size,true⟩:=by
 have hsz:dU.size=args.length:=hr.1.symm;refine⟨hs,hB,fun t=>?_,dP,⟨[],rfl,List.nodup_nil,(fun b hb=>by cases hb),fun _=>rfl⟩,hA,mF _⟩;show Rel K Z.top w (args.getD t aJ) _;by_cases ht:t<args.length
 .have e1:(dU++Array.replicate (fn.ntmps-dU.size) undef).getD t undef=dU.getD t undef:=by simp only[yR];rw[Array.getElem?_append_left RS]
  rw[e1];exact hr.2 t ht
 .have e1:(dU++Array.replicate (fn.ntmps-dU.size) undef).getD t undef=undef:=by simp only[yR];rw[Array.getElem?_append_right RS,Array.getElem?_replicate];split<;>rfl
  have e2:args.getD t aJ=aJ:=by simp[List.getD,List.getElem?_eq_none (Nat.le_of_not_lt ht)]
  rw[e1,e2];exact .undef _ _ _
theorem avh {n:Nat}(hS:GN E (bH E n).code){f:FuncId}{args:List V}{d:Nat}{v:V}(h:qF E (bH E n) f args d Z=some (v,Z'))(hcalm:JH E f=true):
 ∃fn c,E.P.funcs[f]? =some fn/\fn.body=some c/\Z.next<=Z'.next/\∀B0 K w dU,bG E B0 Z K w->B0<=w.heap.size->(∀s,K.A s->s<Z.next)->RelA K Z.top w args dU->
  c.wpIn (oF none) 0 E.P (bodyPost E.P fn (wJ E B0 Z K w v Z')) {tmps:=dU++Array.replicate (fn.ntmps-dU.size) undef,defers:=[]} w:=by
 simp only[qF,iR] at h;obtain⟨fn,hfn,c,hc,h⟩:=h;have hnr:j4 c=true:=by unfold JH at hcalm;simp only[hfn,hc] at hcalm;exact hcalm
 split at h
 .rename_i hok;simp only[iR] at h;obtain⟨⟨e,bJ,Z1⟩,hcode,h⟩:=h;have hne:e= .normal\/e= .ret:=by
   cases e with
   |normal=>exact .inl rfl|ret=>exact .inr rfl|exit i=>simp at h
  have h':(fn.results.toList.mapM (jo E bJ Z1)).map (fun vs=>(match vs with| [v]=>v|vs=>.bK vs,Z1))=some (v,Z'):=by rcases hne with rfl|rfl<;>exact h
  simp only[aW,aS] at h';obtain⟨vs,hvs,hv,rfl⟩:=h';obtain⟨hle,hwp⟩:=hS _ _ _ _ _ _ hcode;refine⟨fn,c,hfn,hc,hle,fun B0 K w dU hs hB hA hr=>?_⟩;refine wpIn_mono (hwp none B0 K w _ fn.ntmps ⟨[],w.heap.size,true⟩ (ajB hs hB hA hr hok.1) hok.2 (.inr hnr)) ?_;rintro x a' w' ⟨hx,K',hs',st'⟩;obtain⟨bs,d1,_,_,d4⟩:=hs'.df;have hd:a'.defers=[]:=Qb
  obtain⟨cv,r1,r2⟩:=ZR hs'.ok hs'.fr hvs;have hv':Dp vs=v:=hv;rw[hv'] at r2;have fin:a'.defers=[]/\∃v',(results fn a'.tmps).run E.P w'= .ok v' w'/\wJ E B0 Z K w v Z1 (.returned v') w':=⟨hd,cv,r1,K',r2,hs'.ok,hs'.st,st'⟩;rcases hne with rfl|rfl<;>cases x<;>simp only[mY] at hx<;>exact fin
 .simp at h
theorem JI {F:Fence}{n:Nat}{P:Program}{ops:Array Oper}{Q:Exit->Act->World->Prop}{m:List Nat}:∀(l:List Nat)(a:Act)(w:World),
 wpOpsIn F n P ops (fun x a w=>match x with|.normal=>wpOpsIn F n P ops Q m a w|x=>Q x a w) l a w->wpOpsIn F n P ops Q (l++m) a w
 | [],a,w,h=>h|i::l,a,w,h=>by
  rw[List.cons_append];unfold wpOpsIn at h⊢;cases ho:ops[i]? with
  |none=>simp only[ho] at h⊢;exact JI l a w h|some o=>
   simp only[ho] at h⊢;split
   .rename_i hw;rw[if_pos hw] at h;refine⟨h.1,?_⟩;have h2:=h.2;revert h2;generalize (o.semAt F.round a.eval).run P w=res;intro h2;unfold Oper.uponIn at h2⊢;split at h2<;>try exact JI l _ _ h2
    all_goals first
     |exact h2
     | (refine⟨h2.1,h2.2.mono ?_⟩
        intro e w' hp;cases e<;>first|exact JI l _ _ hp|exact hp)
     | (refine⟨h2.1,?_⟩;exact RowsIn.mono h2.2 fun v w' hp=>JI l _ _ hp)
   .rename_i hw;rw[if_neg hw] at h;exact⟨h.1,JI l _ _ h.2⟩
def ZT (E:Env)(B0:Nat)(Z:ah)(K:bq)(w:World)(fr:Fr)(a:Act)(n B:Nat):vR->Prop
 |none=>St E B0 Z K w fr a n ⟨[],B,true⟩|some (g,cB)=>∃(dd:Deferred) (cap:Array Value),dd.target= .fn (.func g) cap/\RelA K Z.top w cB (dd.args++cap)/\St E B0 Z K w fr a n ⟨[dd],B,true⟩
theorem RelA.ext {K K':bq}{T T':Nat->Nat}{w w':World}(e:Ext K T w K' T' w'){l:List V}{cl:Array Value}(h:RelA K T w l cl):RelA K' T' w' l cl:=⟨h.1,fun i hi=>(h.2 i hi).ext e⟩
theorem avi {ops:List Oper}{k:Nat}{o:Oper}{c:Call}(h:Nz ops=some (k,o,c)):ops.length=k+1/\ops[k]? =some o/\o.op= .defer c:=by
 unfold Nz at h;split at h
 .rename_i o' ho;split at h
  .rename_i c' hc;simp only[iE,aS] at h;obtain⟨rfl,rfl,rfl⟩:=h;have hne:ops≠[]:=by rintro rfl;simp at ho
   have hp:0<ops.length:=uS.2 hne;refine⟨RS,?_,hc⟩;rw[List.getLast?_eq_getElem?] at ho;exact ho
  .cases h
 .cases h
theorem ajC {m:Nat}(hE:qg E)(hS:Sound E (bH E m))(hS1:GN E (bH E (m+1)).code){n B:Nat}:∀(c:Code)(fr:Fr)(Z:ah)(e:Ex)(fr':Fr)(Z':ah)(q:vR),qR E (bH E m) (bH E (m+1)).code c fr Z=some (e,fr',Z',q)->j4 c=true->iD n c=true->
 Z.next<=Z'.next/\∀B0 K w a,St E B0 Z K w fr a n ⟨[],B,true⟩->c.wpIn (oF none) 0 E.P (fun x a' w'=>mY e x/\∃K',Step E B0 (newer Z Z') Z K w Z' K' w'/\ZT E B0 Z' K' w' fr' a' n B q) a w:=by
 have plain:∀(c:Code)(fr:Fr)(Z:ah)(e:Ex)(fr':Fr)(Z':ah)(q:vR),((bH E (m+1)).code c fr Z).map (fun (e,fr,Z)=>(e,fr,Z,(none:vR)))=some (e,fr',Z',q)->j4 c=true->iD n c=true->
  Z.next<=Z'.next/\∀B0 K w a,St E B0 Z K w fr a n ⟨[],B,true⟩->c.wpIn (oF none) 0 E.P (fun x a' w'=>mY e x/\∃K',Step E B0 (newer Z Z') Z K w Z' K' w'/\ZT E B0 Z' K' w' fr' a' n B q) a w:=by
  intro c fr Z e fr' Z' q h hnr hok;simp only[aW,aS] at h;obtain⟨⟨e1,bJ,Z1⟩,h1,rfl,rfl,rfl,rfl⟩:=h;obtain⟨hle,hwp⟩:=hS1 _ _ _ _ _ _ h1;refine⟨hle,fun B0 K w a hs=>wpIn_mono (hwp none B0 K w a n _ hs hok (.inr hnr)) ?_⟩;rintro x a' w' ⟨hx,K',hs',st⟩;exact⟨hx,K',st,hs'⟩
 intro c;induction c with
 |seq a b iha ihb=>
  clear iha;intro fr Z e fr' Z' q h hnr hok;have NA:j4 a=true/\j4 b=true:=by simpa [j4] using hnr
  have hok':iD n a=true/\iD n b=true:=by simpa [iD] using hok
  have go:((bH E (m+1)).code a fr Z).bind (fun (e,fr,Z)=>match e with
   |.normal=>qR E (bH E m) (bH E (m+1)).code b fr Z|e=>some (e,fr,Z,none))=some (e,fr',Z',q)->Z.next<=Z'.next/\∀B0 K w a',St E B0 Z K w fr a' n ⟨[],B,true⟩->(Code.seq a b).wpIn (oF none) 0 E.P (fun x a' w'=>mY e x/\∃K',Step E B0 (newer Z Z') Z K w Z' K' w'/\ZT E B0 Z' K' w' fr' a' n B q) a' w:=by
   intro h;obtain⟨⟨e1,bJ,Z1⟩,h1,h2⟩:=iR.1 h;obtain⟨hle,hwp⟩:=hS1 _ _ _ _ _ _ h1;cases e1 with
   |normal=>obtain⟨hle2,ZU⟩:=ihb bJ Z1 e fr' Z' q h2 NA.2 hok'.2;refine⟨eO hle hle2,fun B0 K w a' hs=>wpIn_seq (wpIn_mono (hwp none B0 K w a' n _ hs hok'.1 (.inr NA.1)) ?_)⟩;rintro x a1 w1 ⟨hx,K1,hs1,st1⟩;cases x<;>simp only[mY] at hx;refine wpIn_mono (ZU B0 K1 w1 a1 hs1) ?_;rintro x a2 w2 ⟨hx2,K2,st2,hq⟩;exact⟨hx2,K2,st1.widen st2 hle hle2,hq⟩
   |exit i=>simp only[iE,aS] at h2;obtain⟨rfl,rfl,rfl,rfl⟩:=h2;refine⟨hle,fun B0 K w a' hs=>wpIn_seq (wpIn_mono (hwp none B0 K w a' n _ hs hok'.1 (.inr NA.1)) ?_)⟩;rintro x a1 w1 ⟨hx,K1,hs1,st1⟩;cases x<;>simp only[mY] at hx;exact⟨hx,K1,st1,hs1⟩
   |ret=>simp only[iE,aS] at h2;obtain⟨rfl,rfl,rfl,rfl⟩:=h2;refine⟨hle,fun B0 K w a' hs=>wpIn_seq (wpIn_mono (hwp none B0 K w a' n _ hs hok'.1 (.inr NA.1)) ?_)⟩;rintro x a1 w1 ⟨hx,K1,hs1,st1⟩;cases x<;>simp only[mY] at hx;exact⟨trivial,K1,st1,hs1⟩
  unfold qR at h;split at h
  .rename_i ops;split at h
   .rename_i k o c hld;obtain⟨hk,hko,hoc⟩:=avi hld;split at h
    .rename_i hdg;obtain⟨hdst,hgd⟩:=hdg;obtain⟨⟨bJ,Z1⟩,h1,h⟩:=iR.1 h;obtain⟨q1,hq1,h⟩:=iR.1 h;simp only[aW,aS] at h;obtain⟨⟨e2,iW,Z2⟩,h2,rfl,rfl,rfl,rfl⟩:=h;obtain⟨hle2,ZU⟩:=hS1 _ _ _ _ _ _ h2;have hle1:=Lu hS _ _ _ _ _ h1;have hsz:ops.size=k+1:=(by rw[<-Array.length_toList];exact hk);refine⟨eO (eO (lD _ _) hle1) hle2,fun B0 K w a' hs=>wpIn_seq (wpIn_region ?_)⟩;rw[hsz,List.range_succ];refine JI _ _ _ ?_;have hs':St E B0 {Z with next:=Z.next+ops.size} K w fr a' n ⟨[],B,true⟩:=⟨aeP hs.ok _,hs.hB,hs.fr,hs.sz,hs.df,fun s h=>lW (hs.st s h) (lD _ _),hs.hD⟩;have ajD:Gr n ops.toList=true:=hok'.1;refine aeQ hE hS ops Z.next ajD none _ (List.range k) fr _ K w a' h1 List.nodup_range (fun i hi=>by have:=List.mem_range.1 hi;omega) hs' (mF _) (fun i hi hA=>by have:=hs.st _ hA;omega) ?_;intro a1 K1 w1 hs1 st1;show wpOpsIn (oF none) 0 E.P ops _ [k] a1 w1;have avj:ops[k]? =some o:=(by simpa using hko);unfold wpOpsIn;simp only[avj];have hw:Region.wanted o (yielded ops a1.tmps)=true:=aeO hs1.fr ops o (by rw[hs1.sz];exact ajD) (by unfold fD;rw[hgd]);rw[if_pos hw];refine⟨fun _ _=>trivial,?_⟩;unfold ZQ at hq1;split at hq1
     .rename_i f fO;split at hq1
      .rename_i g xs ys QH;simp only[iE] at hq1;subst hq1;have hrel:=Al hs1.ok hs1.fr f;rw[QH] at hrel;generalize hcf:a1.eval f=cf at hrel;cases hrel with
       |fn _ _ _ kI bv ha hb Lm Lp=>
       have hargs:=Ev hs1.ok hs1.fr c.args;have hex:((o.semAt (oF none).round a1.eval).run E.P w1)= .ok (.defer ⟨.fn (.func g) bv,kI++c.args.map a1.eval⟩) w1:=(by show (execOp a1.eval o).run E.P w1=_;unfold execOp;simp only[hoc];unfold resolve;simp only[fO,hcf,Deferred.ofValue,Sem.run_bind,Sem.run_pure,Result.andThen_ok]);rw[hex,Oper.uponIn_defer,hdst];show wpOpsIn (oF none) 0 E.P ops _ [] _ w1;unfold wpOpsIn;obtain⟨bs,d1,_,_,d4⟩:=hs1.df;have hd0:a1.defers=[]:=Qb;have hst:St E B0 Z1 K1 w1 bJ {a1 with defers:=⟨.fn (.func g) bv,kI++c.args.map a1.eval⟩::a1.defers} n ⟨[⟨.fn (.func g) bv,kI++c.args.map a1.eval⟩],B,true⟩:=
        ⟨hs1.ok,hs1.hB,hs1.fr,hs1.sz,⟨[],by rw[hd0];rfl,List.nodup_nil,(fun b hb=>by cases hb),fun _=>rfl⟩,hs1.st,hs1.hD⟩
       have hw2:=ZU none B0 K1 w1 _ n _ hst hok'.2 (.inr NA.2);refine wpIn_mono hw2 ?_;rintro x a2 w2 ⟨hx2,K2,hs2,st2⟩;have rD:Step E B0 (newer Z Z2) Z K w Z2 K2 w2:=by
        have sa':Step E B0 (newer Z Z1) {Z with next:=Z.next+ops.size} K w Z1 K1 w1:=st1.mono (fun s h=>by
         have h0:Z.next+ops.size<=Z1.next:=hle1;rcases h with h|h
         .exact⟨h.1,RS⟩
         .exact⟨eO (lD _ _) h.1,h.2⟩)
        have sa:Step E B0 (newer Z Z1) Z K w Z1 K1 w1:=⟨sa'.ok,sa'.ext,sa'.below,sa'.D,sa'.A,sa'.y8,sa'.y9⟩;exact sa.widen st2 (eO (lD _ _) hle1) hle2
       refine⟨hx2,K2,rD,_,bv,rfl,?_,hs2⟩;exact RelA.ext st2.ext (GX (GX ⟨ha,Lm⟩ hargs) ⟨hb,Lp⟩)
      .cases hq1
     .cases hq1
    .cases h
   .exact go h
  .exact go h
 |_=>intro fr Z e fr' Z' q h hnr hok;exact plain _ _ _ _ _ _ _ h hnr hok
theorem avk {m:Nat}(hE:qg E):Ey E (FI E (bH E m) (bH E (m+1))):=by
 intro f args d Z v Z' h;have hS:=QT hE m;have hS1:=(QT hE (m+1)).code;simp only[FI,iR] at h;obtain⟨fn,hfn,c,hc,h⟩:=h;split at h
 .rename_i hok;obtain⟨hlen,ajE,hnr⟩:=hok;simp only[iR] at h;obtain⟨⟨e,bJ,Z1,q⟩,hcode,h⟩:=h;have hne:e= .normal\/e= .ret:=by
   cases e with
   |normal=>exact .inl rfl|ret=>exact .inr rfl|exit i=>simp at h
  have h':∃Z2 vs,(match q with
   |none=>some Z1|some (g,cB)=>if JH E g=true then ((bH E (m+1)).call g cB (d+1) Z1).map Prod.snd else none)=some Z2/\fn.results.toList.mapM (jo E bJ Z2)=some vs/\Dp vs=v/\Z2=Z':=by
   have h1:((match q with
    |none=>some Z1|some (g,cB)=>if JH E g=true then ((bH E (m+1)).call g cB (d+1) Z1).map Prod.snd else none).bind fun Z=>(fn.results.toList.mapM (jo E bJ Z)).map fun vs=>(Dp vs,Z))=some (v,Z'):=by
    rcases hne with rfl|rfl<;>exact h
   obtain⟨Z2,g1,g2⟩:=iR.1 h1;simp only[aW,aS] at g2;obtain⟨vs,g3,g4,g5⟩:=g2;exact⟨Z2,vs,g1,g3,g4,g5⟩
  obtain⟨Z2,vs,hq,hvs,hv,rfl⟩:=h';have ajF:qR E (bH E m) (bH E (m+1)).code c {d:=d,aj:=E.aj f,tm:=fun i=>args.getD i aJ} Z=some (e,bJ,Z1,q):=hcode;have hle1:=(ajC (B:=0) hE hS hS1 c _ _ _ _ _ _ ajF hnr ajE).1;have hdef:Z1.next<=Z2.next:=by
   cases q with
   |none=>cases hq;exact mF _|some p=>
    obtain⟨g,cB⟩:=p;dsimp only at hq;split at hq
    .simp only[aW] at hq;obtain⟨⟨v2,Z3⟩,h2,h3⟩:=hq;cases h3;exact((QT hE (m+1)).call _ _ _ _ _ _ h2).1
    .cases hq
  refine⟨eO hle1 hdef,⟨fn,c,hfn,hc⟩,fun ro B0 K w dU hs hB hA hr=>?_⟩;have hst:=ajB (E:=E) (f:=f) (d:=d) (fn:=fn) hs hB hA hr hlen;have hwp:=(ajC (B:=w.heap.size) hE hS hS1 c _ _ _ _ _ _ ajF hnr ajE).2 B0 K w _ hst;have V4:CallsIn Fence.wide 0 E.P f dU w (wJ E B0 Z K w v Z2):=by
   refine callsIn_of_wp_marks hfn hc trivial (wpIn_mono hwp ?_);rintro x a' w' ⟨hx,K',st',ajG⟩;have hleave:LeavesInM Fence.wide 0 E.P fn a'.tmps (wJ E B0 Z K w v Z2) a'.defers .returning w':=by
    cases q with
    |none=>
     cases hq;have hs':St E B0 Z1 K' w' bJ a' fn.ntmps ⟨[],w.heap.size,true⟩:=ajG;obtain⟨bs,d1,_,_,d4⟩:=hs'.df;have hd:a'.defers=[]:=Qb;rw[hd];obtain⟨cv,r1,r2⟩:=ZR hs'.ok hs'.fr hvs;rw[hv] at r2;exact⟨cv,r1,K',r2,hs'.ok,hs'.st,st'⟩
    |some p=>
     obtain⟨g,cB⟩:=p;obtain⟨dd,cap,htar,hra,hs'⟩:=ajG;obtain⟨bs,d1,_,_,d4⟩:=hs'.df;have hd:a'.defers=[dd]:=Qb;rw[hd];dsimp only at hq;split at hq
     .rename_i hcalm;simp only[aW] at hq;obtain⟨⟨v2,Z3⟩,h2,h3⟩:=hq;cases h3;obtain⟨fg,cg,hfg,hcg,hle2,hwg⟩:=avh hS.code (show qF E (bH E m) g cB (d+1) Z1=some (v2,Z3) from h2) hcalm;have hinv:(invoke dd.target dd.args).run E.P w'= .ok (.enter g (dd.args++cap)) w':=(by rw[htar];exact QA hE ⟨fg,cg,hfg,hcg⟩ _ _);refine⟨aB,.inr ⟨(fun h=>by simp[Fence.wide] at h),.func g,cap,g,dd.args++cap,htar,hinv,(fun _ _=>trivial),?_⟩⟩;refine(callsDIn_of_wp hfg hcg trivial (hwg B0 K' w' (dd.args++cap) hs'.ok hs'.hB hs'.st hra)).mono ?_;rintro e u' w'' ⟨rfl,hp⟩;cases e with
      |returned cv=>obtain⟨K2,r1,He,hA2,st2⟩:=hp;have hf2:l6 K2 Z3.top w'' bJ a'.tmps:=hs'.fr.ext st2.ext;obtain⟨avl,r3,r4⟩:=ZR He hf2 hvs;rw[hv] at r4;exact⟨avl,r3,K2,r4,He,hA2,st'.widen st2 hle1 hle2⟩
      |panicked ch=>exact hp.elim|outgrown=>exact hp.elim
     .cases hq
   rcases hne with rfl|rfl<;>cases x<;>simp only[mY] at hx<;>exact hleave
  exact V4
 .simp at h
end
def plainO (o:Oper):Bool:=match o.op with
 |.call c=>match c.callee with
  |.value _=>false|_=>true
 |_=>true
def vS:Code->Bool
 |.skip|.label _|.exit _|.ret=>true|.region _ ops dr=>!dr&& ops.toList.all plainO|.seq a b=>vS a&& vS b|.cond _ a b=>vS a&& vS b|.block _ c=>vS c|.scope c=>vS c|_=>false
section
variable {E:Env}{S T:iN}
theorem avm {fr:Fr}{Z:ah}{st:Nat}{o:Oper}(h:plainO o=true):opC E S fr Z st o=opC E T fr Z st o:=by
 unfold plainO at h;unfold opC;split
 .rename_i c hop;rw[hop] at h;dsimp only at h;split at h
  .cases h
  .rename_i hc;split
   .rfl
   .rename_i f hf;exact absurd hf (hc f)
   .rfl
 all_goals rfl
theorem ZV {ops:List Oper}{base:Nat}(h:jw S T):∀{l:List Nat}{fr:Fr}{Z:ah}{r:Fr×ah},opsL E S ops base l fr Z=some r->opsL E T ops base l fr Z=some r
 | [],_,_,_,hr=>hr|i::l,fr,Z,r,hr=>by unfold opsL at hr⊢;obtain⟨⟨bJ,Z1⟩,h1,h2⟩:=iR.1 hr;rw[LM h h1,Option.bind_some];exact ZV h h2
theorem ZW {all:List Oper}:∀{ops:List Oper}{st:Nat}{fr:Fr}{Z:ah},ops.all plainO=true->opsE E S all st ops fr Z=opsE E T all st ops fr Z
 | [],_,_,_,_=>rfl|o::os,st,fr,Z,h=>by
  rw[List.all_cons,aZ] at h;unfold opsE;rw[avm (S:=S) (T:=T) h.1];congr 1;funext t;split
  .congr 1;funext x;exact ZW h.2
  .exact ZW h.2
theorem avn:∀(c:Code)(fr:Fr)(Z:ah),vS c=true->dX E S c fr Z=dX E T c fr Z:=by
 intro c;induction c with
 |region id ops dr=>
  intro fr Z h;unfold vS at h;rw[aZ] at h;have hd:dr=false:=by simpa using h.1
  subst hd;unfold dX;rw[if_neg aB,if_neg aB,ZW (S:=S) (T:=T) h.2]
 |seq a b iha ihb=>intro fr Z h;unfold vS at h;rw[aZ] at h;unfold dX;rw[iha fr Z h.1];congr 1;funext x;obtain⟨e,bJ,Z1⟩:=x;cases e<;>first|exact ihb bJ Z1 h.2|rfl
 |cond c a b iha ihb=>
  intro fr Z h;unfold vS at h;rw[aZ] at h;unfold dX;congr 1;funext t;split
  .exact iha fr Z h.1
  .exact ihb fr Z h.2
 |block id c ih=>intro fr Z h;unfold vS at h;unfold dX;rw[ih fr Z h]|scope c ih=>intro fr Z h;unfold vS at h;unfold dX;exact ih fr Z h|_=>intro fr Z h;first|rfl|cases h
theorem avo {f:FuncId}{fn:Func}{c:Code}{args:List V}{d:Nat}{Z:ah}{r:V×ah}{n:Nat}(hf:E.P.funcs[f]? =some fn)(hb:fn.body=some c)(hp:vS c=true)(h:(bH E n).call f args d Z=some r):(bH E 2).call f args d Z=some r:=by
 cases n with
 |zero=>cases h|succ n=>
  have h':qF E (bH E n) f args d Z=some r:=h;show qF E (bH E 1) f args d Z=some r;cases n with
  |zero=>
   unfold qF at h';rw[hf,Option.bind_some,hb,Option.bind_some] at h';split at h'
   .cases h'
   .cases h'
  |succ n=>unfold qF at h'⊢;rw[hf,Option.bind_some,hb,Option.bind_some] at h'⊢;have e:(bH E (n+1)).code c {d:=d,aj:=E.aj f,tm:=fun i=>args.getD i aJ} Z=(bH E 1).code c {d:=d,aj:=E.aj f,tm:=fun i=>args.getD i aJ} Z:=avn c _ _ hp;rw[e] at h';exact h'
theorem ajH {co TD:Code->Fr->ah->Option (Ex×Fr×ah)}(h:jw S T)(hco:∀c fr Z r,co c fr Z=some r->TD c fr Z=some r):∀(c:Code)(fr:Fr)(Z:ah)(r:Ex×Fr×ah×vR),qR E S co c fr Z=some r->qR E T TD c fr Z=some r:=by
 intro c;induction c with
 |seq a b iha ihb=>
  clear iha;intro fr Z r hr;have go:(co a fr Z).bind (fun (e,fr,Z)=>match e with
   |.normal=>qR E S co b fr Z|e=>some (e,fr,Z,none))=some r->(TD a fr Z).bind (fun (e,fr,Z)=>match e with
   |.normal=>qR E T TD b fr Z|e=>some (e,fr,Z,none))=some r:=by
   intro h1;obtain⟨⟨e,bJ,Z1⟩,h2,h3⟩:=iR.1 h1;rw[hco _ _ _ _ h2,Option.bind_some];cases e with
   |normal=>exact ihb _ _ _ h3|exit i=>exact h3|ret=>exact h3
  unfold qR at hr⊢;split at hr
  .rename_i ops;split at hr
   .rename_i k o c hld;simp only[hld];split at hr
    .rename_i hc;rw[if_pos hc];obtain⟨⟨bJ,Z1⟩,h1,h2⟩:=iR.1 hr;rw[ZV h h1,Option.bind_some];obtain⟨q,h3,h4⟩:=iR.1 h2;rw[h3,Option.bind_some];obtain⟨x,h5,h6⟩:=aW.1 h4;rw[hco _ _ _ _ h5];exact congrArg some h6
    .cases hr
   .rename_i hld;simp only[hld];exact go hr
  .exact go hr
 |_=>intro fr Z r hr;obtain⟨x,h5,h6⟩:=aW.1 hr;exact aW.2 ⟨x,hco _ _ _ _ h5,h6⟩
end
section
variable (E:Env)
def uJ (c:Code)(fr:Fr)(Z:ah)(Q:Ex->Fr->ah->vR->Prop):Prop:=
 ∃n e fr' Z' q,qR E (bH E n) (bH E (n+1)).code c fr Z=some (e,fr',Z',q)/\Q e fr' Z' q
def vT (b:Code)(Q:Ex->Fr->ah->vR->Prop)(e:Ex)(fr:Fr)(Z:ah):Prop:=match e with
 |.normal=>uJ E b fr Z Q|e=>Q e fr Z none
def ZX (a:Code):Bool:=match a with
 |.region _ ops false=>(Nz ops.toList).isNone|_=>true
end
section
variable {E:Env}{fr:Fr}{Z:ah}
theorem vT.n {b:Code}{Q:Ex->Fr->ah->vR->Prop}(h:uJ E b fr Z Q):vT E b Q .normal fr Z:=h
theorem ajI {n m:Nat}(h:n<=m)(c:Code)(fr:Fr)(Z:ah)(r:Ex×Fr×ah)(hc:(bH E (n+1)).code c fr Z=some r):(bH E (m+1)).code c fr Z=some r:=zf (jk h) c fr Z r hc
theorem ZY {S:iN}{co:Code->Fr->ah->Option (Ex×Fr×ah)}{a b:Code}(ha:ZX a=true):qR E S co (.seq a b) fr Z=(co a fr Z).bind fun (e,fr,Z)=>match e with
 |.normal=>qR E S co b fr Z|e=>some (e,fr,Z,none):=by
 conv=>lhs;unfold qR
 split
 .rename_i ops;unfold ZX at ha;split
  .rename_i k o c hld;simp only[hld] at ha;cases ha
  .rfl
 .rfl
theorem uJ.seq {a b:Code}{Q:Ex->Fr->ah->vR->Prop}(h:aD E a fr Z (vT E b Q))(ha:ZX a=true:=by kernel_rfl):uJ E (.seq a b) fr Z Q:=by
 obtain⟨n,e,bJ,Z1,h1,h2⟩:=h;cases e with
 |normal=>obtain⟨m,e,fr',Z',q,h3,h4⟩:=h2;refine⟨max n m,e,fr',Z',q,?_,h4⟩;rw[ZY ha,show (bH E (max n m+1)).code a fr Z=some (.normal,bJ,Z1) from zf (jk (qY n m)) _ _ _ _ h1,Option.bind_some];exact ajH (jk (pY n m)) (ajI (pY n m)) _ _ _ _ h3
 |exit i=>exact⟨n,.exit i,bJ,Z1,none,by rw[ZY ha,show (bH E (n+1)).code a fr Z=some (.exit i,bJ,Z1) from h1];rfl,h2⟩|ret=>exact⟨n,.ret,bJ,Z1,none,by rw[ZY ha,show (bH E (n+1)).code a fr Z=some (.ret,bJ,Z1) from h1];rfl,h2⟩
theorem uJ.defer {id:Nat}{ops:Array Oper}{b:Code}{Q:Ex->Fr->ah->vR->Prop}{k:Nat}{o:Oper}{c:Call}(hld:Nz ops.toList=some (k,o,c))(ho:o.dst=none/\o.guard=none){m:Nat}{bJ:Fr}{Z1:ah}{q:Nat×List V}(h1:opsL E (bH E m) ops.toList Z.next (List.range k) fr {Z with next:=Z.next+ops.size}=some (bJ,Z1))(hq:ZQ E bJ c=some q)(h:aD E b bJ Z1 (fun e fr Z=>Q e fr Z (some q))):uJ E (.seq (.region id ops false) b) fr Z Q:=by
 obtain⟨n,e,fr',Z',h2,h3⟩:=h;refine⟨max n m,e,fr',Z',some q,?_,h3⟩;unfold qR;simp only[hld];rw[if_pos ho,ZV (jk (pY n m)) h1,Option.bind_some,hq,Option.bind_some,show (bH E (max n m+1)).code b bJ Z1=some (e,fr',Z') from zf (jk (qY n m)) _ _ _ _ h2];rfl
theorem avp {f:FuncId}{args:List V}{d:Nat}{fn:Func}{c:Code}{R:V->ah->Prop}(hf:E.P.funcs[f]? =some fn)(hb:fn.body=some c)(hok:(decide (args.length<=fn.ntmps)&& iD fn.ntmps c&& j4 c)=true)(h:uJ E c {d:=d,aj:=E.aj f,tm:=fun i=>args.getD i aJ} Z (fun e bJ Z1 q=>(e= .normal\/e= .ret)/\∃g TF,q=some (g,TF)/\JH E g=true/\jd E g TF (d+1) Z1 (fun _ Z2=>∃vs,fn.results.toList.mapM (jo E bJ Z2)=some vs/\R (Dp vs) Z2))):
 ∃m v Z',FI E (bH E m) (bH E (m+1)) f args d Z=some (v,Z')/\R v Z':=by
 obtain⟨n,e,bJ,Z1,q,h1,he,g,TF,rfl,hcalm,n2,v2,Z2,h2,vs,h3,h4⟩:=h;have hok':args.length<=fn.ntmps/\iD fn.ntmps c/\j4 c=true:=by simp only[aZ,decide_eq_true_eq] at hok;exact⟨hok.1.1,hok.1.2,hok.2⟩
 refine⟨max n n2,Dp vs,Z2,?_,h4⟩;unfold FI;rw[hf,Option.bind_some,hb,Option.bind_some,if_pos hok',ajH (jk (qY n n2)) (ajI (qY n n2)) _ _ _ _ h1,Option.bind_some];have h2':(bH E (max n n2+1)).call g TF (d+1) Z1=some (v2,Z2):=(jk (eO (pY n n2) (jY _))).2 _ _ _ _ _ h2;rcases he with rfl|rfl
 .dsimp only;rw[if_pos hcalm,h2',Option.map_some,Option.bind_some,h3];rfl
 .dsimp only;rw[if_pos hcalm,h2',Option.map_some,Option.bind_some,h3];rfl
end
end aR
end
