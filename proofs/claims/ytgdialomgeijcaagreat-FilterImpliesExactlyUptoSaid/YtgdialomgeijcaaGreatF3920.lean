import Derived.ChangeCalls
import Derived.Deep.DeepHandedRow
import Derived.Lib.LaidTab
import Derived.OpenShut
import Derived.ProofKit
import Derived.Test.YtgdialomgeijcaaGreatF3919
import Derived.Test.YtgdialomgeijcaaGreatRows
set_option linter.all false
section
namespace Go.Proofs.YtgdialomgeijcaaGreat.alN
open Go Go.ChangeShapes Go.WideShapes Go.ChangeAt Go.RowKit Aq Sh
set_option maxRecDepth 100000
theorem own:ownKnob Tryz.prog.godebug=none:=by kernel_rfl
theorem u4:Tryz.prog.underlying 4=some .bool:=by kernel_rfl
theorem aqd {W:World}:∀g cs,Sh.E.glob g=some cs->Rel (KA W) (fun _=>0) W (.Q5 cs 0) (.pointer (some (at_ g 0))):=fun g cs hg=>by cases hg
theorem aqe:(rty.all fun x=>VB R Tryz.prog x.1 x.2)=true:=by kernel_rfl
theorem alO {U:Type}:∀{l:List (Nat×U)}{i:Nat}{x:U},_root_.Aq.look l i=some x->(i,x)∈l
 | [],_,_,h=>by cases h| (j,y)::l,i,x,h=>by
   unfold _root_.Aq.look at h;cases hb:Nat.beq j i
   .rw[hb] at h;exact PK _ (alO h)
   .rw[hb] at h;cases h;have:=QJ hb;subst this;simp
theorem hty:∀t τ,R.ty t=some τ->VB R Tryz.prog t τ=true:=fun t τ h=>P7.1 aqe (t,τ) (alO h)
theorem laidOut:laidOutB Tryz.prog=true:=by kernel_rfl
theorem aqf:mapsRowed Tryz.prog=true:=by kernel_rfl
theorem kids:Kids Tryz.prog (· <Tryz.prog.types.size):=kids_rows laidOut aqf
theorem full:((List.range Tryz.prog.types.size).all fun t=>match Tryz.prog.underlying t with|some (.slice e)=>decide (0<Tryz.prog.cellsOf e)|_=>true)=true:=by kernel_rfl
theorem aqg (H:Type):Bulk H Rows.uptoBulk Rows.uptoBulkAll where
 one d:=by
  cases d with
  |lit l=>cases l<;>simp[Rows.uptoBulk]|_=>simp[Rows.uptoBulk]
 str s:=by simp[Rows.uptoBulk]
 agg l:=by simp[Rows.uptoBulk]
 sl l r:=by simp only[Rows.uptoBulk];omega
 nil:=rfl
 cons d l:=by simp only[Rows.uptoBulkAll]
end Go.Proofs.YtgdialomgeijcaaGreat.alN
end
section
namespace Aq
open Go
structure FF where
 f:RV
 ex:List Key
def FF.W (f:FF)(k:Key):Prop:=k∈f.f.w\/(f.f.Va=true/\k.state=true/\k∉f.ex)
def ET (a b:FF):Bool:=
 (a.f.Va&& (b.f.WC||b.f.Va||b.f.t.any (fun k=>k.state&& !a.ex.any (·.eq k))||b.f.w.any Key.state))||a.f.w.any fun k=>k.eq .rest||b.f.t.any (·.eq k)||b.f.w.any (·.eq k)||(b.f.WC||b.f.Va)&& k.state
def EU (ms:List Nat)(fs:List FF):Bool:=
 (List.range fs.length).all fun i=>(List.range i).all fun j=>(ms.getD i 0).testBit j||(!ET (fs.getD i ⟨SH,[]⟩) (fs.getD j ⟨SH,[]⟩)&& !ET (fs.getD j ⟨SH,[]⟩) (fs.getD i ⟨SH,[]⟩))
section
variable (E:Env)
def qp (S:R7)(all:List Oper)(base i:Nat)(x:Fr×qd)(f:FF)(y:Fr×qd):Prop:=
 (∀x',(∀k,f.f.T k->Ag k x x')->∃y',Tf E S all base i x'.1 x'.2=some y'/\(∀k,f.W k->Ag k y y')/\∀k,¬f.W k->Ag k x' y')/\(∀k,¬f.W k->Ag k x y)
def sV (S:R7)(all:List Oper)(base:Nat):List Oper->Nat->Fr×qd->List FF->Fr×qd->Prop
 | [],_,x,fs,y=>fs=[]/\y=x|_::os,i,x,fs,y=>∃f fs' z,fs=f::fs'/\Tf E S all base i x.1 x.2=some z/\qp E S all base i x f z/\sV S all base os (i+1) z fs' y
end
section
variable {E:Env}{S T:R7}
theorem EW (h:cK S T){all:List Oper}{base i:Nat}{x:Fr×qd}{f:FF}{y:Fr×qd}(hl:qp E S all base i x f y):qp E T all base i x f y:=
 ⟨fun x' hx=>let ⟨y',h1,h2⟩:=hl.1 x' hx;⟨y',pI h h1,h2⟩,hl.2⟩
theorem EX (h:cK S T){all:List Oper}{base:Nat}:∀{os:List Oper}{i:Nat}{x:Fr×qd}{fs:List FF}{y:Fr×qd},sV E S all base os i x fs y->sV E T all base os i x fs y
 | [],_,_,_,_,hr=>hr|_::_,_,_,_,_,⟨f,fs',z,h1,h2,h3,h4⟩=>⟨f,fs',z,h1,pI h h2,EW h h3,EX h h4⟩
theorem EY {all:List Oper}{base i:Nat}{fr:Fr}{Y:qd}{o:Oper}(ho:all[i]? =some o){wt:Bool}(hwt:Sn all fr o=some wt){y:Fr×qd}(hs:Tf E S all base i fr Y=some y):qp E S all base i (fr,Y) ⟨aU E all fr o wt,[]⟩ y:=by
 have hW:∀k,(⟨aU E all fr o wt,[]⟩:FF).W k↔(aU E all fr o wt).W k:=fun k=>by
  unfold FF.W RV.W;constructor
  .rintro (h| ⟨h,h1,_⟩)
   .exact .inl h
   .exact .inr ⟨h,h1⟩
  .rintro (h| ⟨h,h1⟩)
   .exact .inl h
   .exact .inr ⟨h,h1,by simp⟩
 refine⟨fun x' hx=>?_,fun k hk=>?_⟩
 .obtain⟨y',h1,h2,h3,_⟩:=rz (E:=E) (S:=S) (base:=base) ho hwt (Rb:=y.1) (Y1:=y.2) hs x' hx;exact⟨y',h1,fun k hk=>h2 k ((hW k).1 hk),fun k hk=>h3 k fun h=>hk ((hW k).2 h)⟩
 .obtain⟨_,_,_,_,h4⟩:=rz (E:=E) (S:=S) (base:=base) ho hwt (Rb:=y.1) (Y1:=y.2) hs (fr,Y) (fun k _=>.refl k _);exact h4 k fun h=>hk ((hW k).2 h)
end
section
variable (E:Env)
def XW (all:List Oper)(base i:Nat)(os:List Oper)(fr:Fr)(Y:qd)(fs:List FF)(Q:Fr->qd->Prop):Prop:=
 ∃n fs' fr' Y',sV E (Rh E n) all base os i (fr,Y) fs' (fr',Y')/\EU (Vm all) (fs++fs')=true/\Q fr' Y'
end
section
variable {E:Env}{fr:Fr}{Y:qd}
theorem XW.nil {all:List Oper}{base i:Nat}{fs:List FF}{Q:Fr->qd->Prop}(hp:EU (Vm all) fs=true)(h:Q fr Y):XW E all base i [] fr Y fs Q:=⟨0,[],fr,Y,⟨rfl,rfl⟩,by simpa using hp,h⟩
theorem XW.step {all:List Oper}{base i:Nat}{o:Oper}{os:List Oper}{fs:List FF}{Q:Fr->qd->Prop}{f:FF}{y:Fr×qd}{m:Nat}(h1:Tf E (Rh E m) all base i fr Y=some y)(h2:qp E (Rh E m) all base i (fr,Y) f y)(h:XW E all base (i+1) os y.1 y.2 (fs++[f]) Q):XW E all base i (o::os) fr Y fs Q:=by
 obtain⟨n,fs',fr',Y',g1,g2,g3⟩:=h;exact⟨max n m,f::fs',fr',Y',⟨f,fs',y,rfl,pI (bN (Qg n m)) h1,EW (bN (Qg n m)) h2,EX (bN (QC n m)) g1⟩,by simpa using g2,g3⟩
theorem sW {S:R7}{all:List Oper}{base i:Nat}{o:Oper}{v:V}{Y1:qd}(ho:all[i]? =some o)(hw:Sn all fr o=some true)(hop:opC E S fr Y (base+i) o=some (v,fr,Y1)):Tf E S all base i fr Y=some (fr.put o.dst v,Y1):=by unfold Tf;rw[ho];simp only[hw,Option.bind_some,if_true,hop,Option.map_some]
theorem XW.op {all:List Oper}{base i:Nat}{o:Oper}{os:List Oper}{v:V}{Y1:qd}{fs:List FF}{Q:Fr->qd->Prop}(ho:all[i]? =some o)(hw:Sn all fr o=some true)(hop:∀S,opC E S fr Y (base+i) o=some (v,fr,Y1))(h:XW E all base (i+1) os (fr.put o.dst v) Y1 (fs++[⟨aU E all fr o true,[]⟩]) Q):XW E all base i (o::os) fr Y fs Q:=
 XW.step (m:=0) (sW ho hw (hop _)) (EY ho hw (sW ho hw (hop _))) h
theorem XW.call {all:List Oper}{base i:Nat}{o:Oper}{os:List Oper}{v:V}{fs:List FF}{Q:Fr->qd->Prop}{c:Call}{f:Operand}{g:FuncId}{a b az:List V}(hi:all[i]? =some o)(hw:Sn all fr o=some true)(ho:o.op= .call c)(bD:c.callee= .value f)(hf:fr.ev E f= .fn (.func g) a b)(hg:E.imp g=false)(has:(a++c.args.toList.map (fr.ev E)++b).mapM (Rf 20 Y)=some az)(hp:Pure E g az v)(hc:((a++c.args.toList.map (fr.ev E)++b).all (fun x=>Q9 (er x))||flat v)=true)(h:XW E all base (i+1) os (fr.put o.dst v) Y (fs++[⟨aU E all fr o true,[]⟩]) Q)(aS:∀d,o.dst=some d->E.own g d=false:=by intros;rfl):XW E all base i (o::os) fr Y fs Q:=by
 obtain⟨m,hm⟩:=hp;have hop:opC E (Rh E m) fr Y (base+i) o=some (v,fr,Y):=by simp only[opC,ho,bD,pJ hf aS,PE,if_false,hf,vX hg has hm hc,Option.map_some]
 exact XW.step (m:=m) (sW hi hw hop) (EY hi hw (sW hi hw hop)) h
end
end Aq
end
section
namespace Aq
open Go Go.RowKit
section
variable {E:Env}{S T:R7}
theorem sZ {ops:List Oper}{base:Nat}(h:cK S T):∀{l:List Nat}{fr:Fr}{Y:qd}{r:Fr×qd},opsL E S ops base l fr Y=some r->opsL E T ops base l fr Y=some r
 | [],_,_,_,hr=>hr|i::l,fr,Y,r,hr=>by unfold opsL at hr⊢;obtain⟨⟨Rb,Y1⟩,h1,h2⟩:=iP.1 hr;rw[pI h h1,Option.bind_some];exact sZ h h2
theorem OJ {co tq:Code->Fr->qd->Option (Ex×Fr×qd)}(h:cK S T)(hco:∀c fr Y r,co c fr Y=some r->tq c fr Y=some r):∀(c:Code)(fr:Fr)(Y:qd)(r:Ex×Fr×qd×Dq),gY E S co c fr Y=some r->gY E T tq c fr Y=some r:=by
 intro c;induction c with
 |seq a b iha ihb=>
  clear iha;intro fr Y r hr;have go:(co a fr Y).bind (fun (e,fr,Y)=>match e with
   |.normal=>gY E S co b fr Y|e=>some (e,fr,Y,none))=some r->(tq a fr Y).bind (fun (e,fr,Y)=>match e with
   |.normal=>gY E T tq b fr Y|e=>some (e,fr,Y,none))=some r:=by
   intro h1;obtain⟨⟨e,Rb,Y1⟩,h2,h3⟩:=iP.1 h1;rw[hco _ _ _ _ h2,Option.bind_some];cases e with
   |normal=>exact ihb _ _ _ h3|exit i=>exact h3|ret=>exact h3
  unfold gY at hr⊢;split at hr
  .rename_i ops;split at hr
   .rename_i k o c hld;simp only[hld];split at hr
    .rename_i hc;rw[if_pos hc];obtain⟨⟨Rb,Y1⟩,h1,h2⟩:=iP.1 hr;rw[sZ h h1,Option.bind_some];obtain⟨q,h3,h4⟩:=iP.1 h2;rw[h3,Option.bind_some];obtain⟨x,h5,h6⟩:=Py.1 h4;rw[hco _ _ _ _ h5];exact congrArg some h6
    .cases hr
   .rename_i hld;simp only[hld];exact go hr
  .exact go hr
 |_=>intro fr Y r hr;obtain⟨x,h5,h6⟩:=Py.1 hr;exact Py.2 ⟨x,hco _ _ _ _ h5,h6⟩
end
section
variable (E:Env)
def DW (c:Code)(fr:Fr)(Y:qd)(Q:Ex->Fr->qd->Dq->Prop):Prop:=
 ∃n e fr' Y' q,gY E (Rh E n) (Rh E (n+1)).code c fr Y=some (e,fr',Y',q)/\Q e fr' Y' q
def OL (b:Code)(Q:Ex->Fr->qd->Dq->Prop)(e:Ex)(fr:Fr)(Y:qd):Prop:=match e with
 |.normal=>DW E b fr Y Q|e=>Q e fr Y none
def yK (a:Code):Bool:=match a with
 |.region _ ops false=>(nT ops.toList).isNone|_=>true
end
section
variable {E:Env}{fr:Fr}{Y:qd}
theorem OM {n m:Nat}(h:n<=m)(c:Code)(fr:Fr)(Y:qd)(r:Ex×Fr×qd)(hc:(Rh E (n+1)).code c fr Y=some r):(Rh E (m+1)).code c fr Y=some r:=iL (bN h) c fr Y r hc
theorem yL {S:R7}{co:Code->Fr->qd->Option (Ex×Fr×qd)}{a b:Code}(ha:yK a=true):gY E S co (.seq a b) fr Y=(co a fr Y).bind fun (e,fr,Y)=>match e with
 |.normal=>gY E S co b fr Y|e=>some (e,fr,Y,none):=by
 conv=>lhs;unfold gY
 split
 .rename_i ops;unfold yK at ha;split
  .rename_i k o c hld;simp only[hld] at ha;cases ha
  .rfl
 .rfl
theorem DW.seq {a b:Code}{Q:Ex->Fr->qd->Dq->Prop}(h:CW E a fr Y (OL E b Q))(ha:yK a=true:=by kernel_rfl):DW E (.seq a b) fr Y Q:=by
 obtain⟨n,e,Rb,Y1,h1,h2⟩:=h;cases e with
 |normal=>obtain⟨m,e,fr',Y',q,h3,h4⟩:=h2;refine⟨max n m,e,fr',Y',q,?_,h4⟩;rw[yL ha,show (Rh E (max n m+1)).code a fr Y=some (.normal,Rb,Y1) from iL (bN (QC n m)) _ _ _ _ h1,Option.bind_some];exact OJ (bN (Qg n m)) (OM (Qg n m)) _ _ _ _ h3
 |exit i=>exact⟨n,.exit i,Rb,Y1,none,by rw[yL ha,show (Rh E (n+1)).code a fr Y=some (.exit i,Rb,Y1) from h1];rfl,h2⟩|ret=>exact⟨n,.ret,Rb,Y1,none,by rw[yL ha,show (Rh E (n+1)).code a fr Y=some (.ret,Rb,Y1) from h1];rfl,h2⟩
theorem DW.defer {id:Nat}{ops:Array Oper}{b:Code}{Q:Ex->Fr->qd->Dq->Prop}{k:Nat}{o:Oper}{c:Call}(hld:nT ops.toList=some (k,o,c))(ho:o.dst=none/\o.guard=none){m:Nat}{Rb:Fr}{Y1:qd}{q:Nat×List V}(h1:opsL E (Rh E m) ops.toList Y.next (List.range k) fr {Y with next:=Y.next+ops.size}=some (Rb,Y1))(hq:sS E Rb c=some q)(h:CW E b Rb Y1 (fun e fr Y=>Q e fr Y (some q))):DW E (.seq (.region id ops false) b) fr Y Q:=by
 obtain⟨n,e,fr',Y',h2,h3⟩:=h;refine⟨max n m,e,fr',Y',some q,?_,h3⟩;unfold gY;simp only[hld];rw[if_pos ho,sZ (bN (Qg n m)) h1,Option.bind_some,hq,Option.bind_some,show (Rh E (max n m+1)).code b Rb Y1=some (e,fr',Y') from iL (bN (QC n m)) _ _ _ _ h2];rfl
end
section
variable (E:Env)
def qw (o:Oper):Bool:=match o.op with
 |.panic _=>false|.call c=>match c.callee with
  |.value (.func g)=>!(E.imp g)|.value _=>false|_=>true
 |_=>true
def dn:Code->Bool
 |.region _ ops dr=>dr||ops.toList.all (qw E)|.seq a b=>dn a&& dn b|.cond _ a b=>dn a&& dn b|.block _ c=>dn c|.scope c=>dn c|.loop c=>dn c|.rangeFunc .. =>false|_=>true
def YW (c:Code)(fr:Fr)(Y:qd)(Q:Ex->Fr->qd->Prop)(D:V->qd->Prop):Prop:=
 (∃N e fr' Y',(∀n,N<=n->aL E (Rh E n) (TB E n) c fr Y=none)/\RB E (Rh E N) c fr Y=some (e,fr',Y')/\Q e fr' Y')\/
 (∃N v Y',(∀n,N<=n->aL E (Rh E n) (TB E n) c fr Y=some (v,Y'))/\D v Y')
def YO (ops:List Oper)(base:Nat)(l:List Nat)(fr:Fr)(Y:qd)(Q:Fr->qd->Prop)(D:V->qd->Prop):Prop:=
 (∃N fr' Y',(∀n,N<=n->d9 E (Rh E n) (TB E n) ops base l fr Y=none)/\opsL E (Rh E N) ops base l fr Y=some (fr',Y')/\Q fr' Y')\/
 (∃N v Y',(∀n,N<=n->d9 E (Rh E n) (TB E n) ops base l fr Y=some (v,Y'))/\D v Y')
def YA (d:Nat)(Y:qd)(fv:V)(args:List V)(Q:V->qd->Prop)(D:V->qd->Prop):Prop:=
 (∃N v Y',(∀n,N<=n->dZ E (Rh E n) (TB E n) d Y fv args=none)/\bG E (Rh E N) d Y fv args=some (v,Y')/\Q v Y')\/
 (∃N v Y',(∀n,N<=n->dZ E (Rh E n) (TB E n) d Y fv args=some (v,Y'))/\D v Y')
def YI (f:FuncId)(args:List V)(d:Nat)(Y:qd)(Q:V->qd->Prop)(D:V->qd->Prop):Prop:=
 (∃N v Y',(∀n,N<=n->(TB E n).call f args d Y=none)/\(Rh E N).call f args d Y=some (v,Y')/\Q v Y')\/
 (∃N v Y',(∀n,N<=n->(TB E n).call f args d Y=some (v,Y'))/\D v Y')
def OO (b:Code)(Q:Ex->Fr->qd->Prop)(D:V->qd->Prop)(e:Ex)(fr:Fr)(Y:qd):Prop:=match e with
 |.normal=>YW E b fr Y Q D|e=>Q e fr Y
def OP (c:Code)(Q:Ex->Fr->qd->Prop)(D:V->qd->Prop)(e:Ex)(fr:Fr)(Y:qd):Prop:=match e with
 |.normal=>YW E (.loop c) fr Y Q D|e=>Q e fr Y
end
section
variable {E:Env}{fr:Fr}{Y:qd}{Q:Ex->Fr->qd->Prop}{D:V->qd->Prop}
theorem EZ {S:R7}{P:Vg}{o:Oper}(h:qw E o=true):VK E S P fr Y o=none:=by
 unfold qw at h;unfold VK;split
 .rename_i x hop;rw[hop] at h;cases h
 .rename_i c hop;rw[hop] at h;dsimp only at h;split
  .rename_i f hc;rw[hc] at h;split at h
   .rename_i g hg;cases hg;show dZ E S P fr.d Y (.fn (.func g) [] []) _=none;unfold dZ;have:E.imp g=false:=(by simpa using h);simp[this]
   .cases h
   .rename_i h1 h2;exact absurd rfl (h2 f)
  .rfl
 .rfl
theorem yM {S:R7}{P:Vg}{ops:List Oper}(h:ops.all (qw E)=true)(base:Nat):∀(l:List Nat)(fr:Fr)(Y:qd),d9 E S P ops base l fr Y=none
 | [],_,_=>rfl|i::l,fr,Y=>by
  unfold d9;have h1:((ops[i]?).bind fun o=>(Sn ops fr o).bind fun t=>if t=true then VK E S P fr Y o else none)=none:=by
   cases ho:ops[i]? with
   |none=>rfl|some o=>
    have hm:=Ql ho;simp only[Option.bind_some];cases Sn ops fr o with
    |none=>rfl|some t=>simp[EZ (P7.1 h o hm)]
  rw[h1];dsimp only;cases Tf E S ops base i fr Y with
  |none=>rfl|some x=>exact yM h base l _ _
theorem OQ:∀(n:Nat)(c:Code),dn E c=true->∀fr Y,aL E (Rh E n) (TB E n) c fr Y=none:=by
 intro n;induction n with
 |zero=>
  intro c;induction c with
  |seq a b iha ihb=>
   intro h fr Y;unfold dn at h;rw[Pz] at h;unfold aL;rw[iha h.1];dsimp only;cases RB E (Rh E 0) a fr Y with
   |none=>rfl|some x=>obtain⟨e,Rb,Y1⟩:=x;cases e<;>first|exact ihb h.2 _ _|rfl
  |cond c a b iha ihb=>
   intro h fr Y;unfold dn at h;rw[Pz] at h;unfold aL;cases dI (fr.ev E c) with
   |none=>rfl|some t=>cases t<;>simp[iha h.1,ihb h.2]
  |block id c ih=>intro h fr Y;unfold dn at h;unfold aL;exact ih h _ _|scope c ih=>intro h fr Y;unfold dn at h;unfold aL;exact ih h _ _|loop c ih=>
   intro h fr Y;unfold dn at h;unfold aL;rw[ih h];dsimp only;cases RB E (Rh E 0) c fr Y with
   |none=>rfl|some x=>obtain⟨e,Rb,Y1⟩:=x;cases e<;>rfl
  |region id ops dr=>
   intro h fr Y;unfold aL;cases dr with
   |true=>rfl|false=>unfold dn at h;rw[if_neg (by simp)];exact yM (by simpa using h) _ _ _ _
  |rangeFunc f ps a b=>intro h;cases h|_=>intro _ fr Y;simp[aL]
 |succ n ihn=>
  intro c;induction c with
  |seq a b iha ihb=>
   intro h fr Y;unfold dn at h;rw[Pz] at h;unfold aL;rw[iha h.1];dsimp only;cases RB E (Rh E (n+1)) a fr Y with
   |none=>rfl|some x=>obtain⟨e,Rb,Y1⟩:=x;cases e<;>first|exact ihb h.2 _ _|rfl
  |cond c a b iha ihb=>
   intro h fr Y;unfold dn at h;rw[Pz] at h;unfold aL;cases dI (fr.ev E c) with
   |none=>rfl|some t=>cases t<;>simp[iha h.1,ihb h.2]
  |block id c ih=>intro h fr Y;unfold dn at h;unfold aL;exact ih h _ _|scope c ih=>intro h fr Y;unfold dn at h;unfold aL;exact ih h _ _|loop c ih=>
   intro h fr Y;have h':dn E c=true:=by unfold dn at h;exact h
   unfold aL;rw[ih h'];dsimp only;cases RB E (Rh E (n+1)) c fr Y with
   |none=>rfl|some x=>obtain⟨e,Rb,Y1⟩:=x;cases e<;>first|exact ihn (.loop c) h _ _|rfl
  |region id ops dr=>
   intro h fr Y;unfold aL;cases dr with
   |true=>rfl|false=>unfold dn at h;rw[if_neg (by simp)];exact yM (by simpa using h) _ _ _ _
  |rangeFunc f ps a b=>intro h;cases h|_=>intro _ fr Y;simp[aL]
theorem YW.of {c:Code}(h:CW E c fr Y Q)(hn:dn E c=true):YW E c fr Y Q D:=by obtain⟨n,e,fr',Y',h1,h2⟩:=h;exact .inl ⟨n,e,fr',Y',fun m _=>OQ m c hn fr Y,h1,h2⟩
theorem YW.mono {c:Code}{Q':Ex->Fr->qd->Prop}{D':V->qd->Prop}(h:YW E c fr Y Q D)(hq:∀e fr Y,Q e fr Y->Q' e fr Y)(hd:∀v Y,D v Y->D' v Y):YW E c fr Y Q' D':=by
 rcases h with ⟨N,e,fr',Y',h1,h2,h3⟩| ⟨N,v,Y',h1,h2⟩
 .exact .inl ⟨N,e,fr',Y',h1,h2,hq _ _ _ h3⟩
 .exact .inr ⟨N,v,Y',h1,hd _ _ h2⟩
theorem UZ {n m:Nat}(h:n<=m){c:Code}{r:Ex×Fr×qd}(hc:RB E (Rh E n) c fr Y=some r):RB E (Rh E m) c fr Y=some r:=iL (bN h) _ _ _ _ hc
theorem YW.seq {a b:Code}(h:YW E a fr Y (OO E b Q D) D):YW E (.seq a b) fr Y Q D:=by
 rcases h with ⟨N,e,Rb,Y1,h1,h2,h3⟩| ⟨N,v,Y',h1,h2⟩
 .cases e with
  |normal=>
   rcases h3 with ⟨M,e,fr',Y',g1,g2,g3⟩| ⟨M,v,Y',g1,g2⟩
   .refine .inl ⟨max N M,e,fr',Y',fun n hn=>?_,?_,g3⟩
    .unfold aL;rw[h1 n (by omega)];dsimp only;rw[UZ (show N<=n by omega) h2,Option.bind_some];exact g1 n (by omega)
    .simp only[RB,UZ (QC N M) h2,Option.bind_some,UZ (Qg N M) g2]
   .refine .inr ⟨max N M,v,Y',fun n hn=>?_,g2⟩;unfold aL;rw[h1 n (by omega)];dsimp only;rw[UZ (show N<=n by omega) h2,Option.bind_some];exact g1 n (by omega)
  |exit i=>refine .inl ⟨N,.exit i,Rb,Y1,fun n hn=>?_,by simp only[RB,h2,Option.bind_some],h3⟩;unfold aL;rw[h1 n hn];dsimp only;rw[UZ hn h2];rfl
  |ret=>refine .inl ⟨N,.ret,Rb,Y1,fun n hn=>?_,by simp only[RB,h2,Option.bind_some],h3⟩;unfold aL;rw[h1 n hn];dsimp only;rw[UZ hn h2];rfl
 .exact .inr ⟨N,v,Y',fun n hn=>by unfold aL;rw[h1 n hn],h2⟩
theorem YW.cond {c:Operand}{a b:Code}{t:Bool}(hc:fr.ev E c= .bool t)(ht:t=true->YW E a fr Y Q D)(hf:t=false->YW E b fr Y Q D):YW E (.cond c a b) fr Y Q D:=by
 cases t with
 |true=>
  rcases ht rfl with ⟨N,e,fr',Y',h1,h2,h3⟩| ⟨N,v,Y',h1,h2⟩
  .exact .inl ⟨N,e,fr',Y',fun n hn=>by unfold aL;simp only[hc,dI,Option.bind_some,if_true];exact h1 n hn,by simp only[RB,hc,dI,Option.bind_some,if_true,h2],h3⟩
  .exact .inr ⟨N,v,Y',fun n hn=>by unfold aL;simp only[hc,dI,Option.bind_some,if_true];exact h1 n hn,h2⟩
 |false=>
  rcases hf rfl with ⟨N,e,fr',Y',h1,h2,h3⟩| ⟨N,v,Y',h1,h2⟩
  .exact .inl ⟨N,e,fr',Y',fun n hn=>by unfold aL;simp only[hc,dI,Option.bind_some,PE,if_false];exact h1 n hn,by simp only[RB,hc,dI,Option.bind_some,PE,if_false,h2],h3⟩
  .exact .inr ⟨N,v,Y',fun n hn=>by unfold aL;simp only[hc,dI,Option.bind_some,PE,if_false];exact h1 n hn,h2⟩
theorem YW.block {id:Nat}{c:Code}(h:YW E c fr Y (UN id Q) D):YW E (.block id c) fr Y Q D:=by
 rcases h with ⟨N,e,fr',Y',h1,h2,h3⟩| ⟨N,v,Y',h1,h2⟩
 .obtain⟨n,e2,RX,Y2,g1,g2⟩:=CW.block (E:=E) (id:=id) (c:=c) (fr:=fr) (Y:=Y) (Q:=fun e Rb Y1=>Q e Rb Y1) ⟨N,e,fr',Y',h2,h3⟩;exact .inl ⟨max N n,e2,RX,Y2,fun m hm=>by unfold aL;exact h1 m (by omega),UZ (Qg N n) g1,g2⟩
 .exact .inr ⟨N,v,Y',fun n hn=>by unfold aL;exact h1 n hn,h2⟩
theorem YW.loop {c:Code}(h:YW E c fr Y (OP E c Q D) D):YW E (.loop c) fr Y Q D:=by
 rcases h with ⟨N,e,Rb,Y1,h1,h2,h3⟩| ⟨N,v,Y',h1,h2⟩
 .cases e with
  |normal=>
   rcases h3 with ⟨M,e,fr',Y',g1,g2,g3⟩| ⟨M,v,Y',g1,g2⟩
   .refine .inl ⟨max N M+1,e,fr',Y',fun n hn=>?_,?_,g3⟩
    .unfold aL;rw[h1 n (by omega)];dsimp only;rw[UZ (show N<=n by omega) h2,Option.bind_some];cases n with
     |zero=>rfl|succ n=>exact g1 n (by omega)
    .simp only[RB,UZ (show N<=max N M+1 by omega) h2,Option.bind_some];exact UZ (Qg N M) g2
   .refine .inr ⟨max N M+1,v,Y',fun n hn=>?_,g2⟩;unfold aL;rw[h1 n (by omega)];dsimp only;rw[UZ (show N<=n by omega) h2,Option.bind_some];cases n with
    |zero=>omega|succ n=>exact g1 n (by omega)
  |exit i=>refine .inl ⟨N,.exit i,Rb,Y1,fun n hn=>?_,by simp only[RB,h2,Option.bind_some],h3⟩;unfold aL;rw[h1 n hn];dsimp only;rw[UZ hn h2];rfl
  |ret=>refine .inl ⟨N,.ret,Rb,Y1,fun n hn=>?_,by simp only[RB,h2,Option.bind_some],h3⟩;unfold aL;rw[h1 n hn];dsimp only;rw[UZ hn h2];rfl
 .exact .inr ⟨N,v,Y',fun n hn=>by unfold aL;rw[h1 n hn],h2⟩
theorem YO.nil {ops:List Oper}{base:Nat}{Q:Fr->qd->Prop}(h:Q fr Y):YO E ops base [] fr Y Q D:=.inl ⟨0,fr,Y,fun _ _=>rfl,rfl,h⟩
theorem YO.one {ops:List Oper}{base i:Nat}{l:List Nat}{o:Oper}{v:V}{Y1:qd}{Q:Fr->qd->Prop}(ho:ops[i]? =some o)(hn:qw E o=true)(hw:Sn ops fr o=some true)(hop:∀S,opC E S fr Y (base+i) o=some (v,fr,Y1))(h:YO E ops base l (fr.put o.dst v) Y1 Q D):YO E ops base (i::l) fr Y Q D:=by
 have hp:∀S P,((ops[i]?).bind fun o=>(Sn ops fr o).bind fun t=>if t=true then VK E S P fr Y o else none)=none:=fun S P=>by rw[ho];simp only[Option.bind_some,hw,if_true];exact EZ hn
 have hs:∀S,Tf E S ops base i fr Y=some (fr.put o.dst v,Y1):=fun S=>by unfold Tf;rw[ho];simp only[hw,Option.bind_some,if_true,hop S,Option.map_some]
 rcases h with ⟨N,fr',Y',h1,h2,h3⟩| ⟨N,v',Y',h1,h2⟩
 .refine .inl ⟨N,fr',Y',fun n hn=>?_,?_,h3⟩
  .unfold d9;rw[hp];dsimp only;rw[hs,Option.bind_some];exact h1 n hn
  .unfold opsL;rw[hs,Option.bind_some];exact h2
 .refine .inr ⟨N,v',Y',fun n hn=>?_,h2⟩;unfold d9;rw[hp];dsimp only;rw[hs,Option.bind_some];exact h1 n hn
theorem YO.pan {ops:List Oper}{base i:Nat}{l:List Nat}{o:Oper}{x:Operand}{t:TypeId}{v:V}{Q:Fr->qd->Prop}(ho:ops[i]? =some o)(hw:Sn ops fr o=some true)(hop:o.op= .panic x)(hx:fr.ev E x= .iface t v)(h:D (.iface t v) Y):YO E ops base (i::l) fr Y Q D:=by
 refine .inr ⟨0,.iface t v,Y,fun n _=>?_,h⟩;unfold d9;have hp:VK E (Rh E n) (TB E n) fr Y o=some (.iface t v,Y):=by unfold VK;rw[hop];dsimp only;rw[hx]
 rw[ho];simp only[Option.bind_some,hw,if_true,hp]
theorem YO.app {ops:List Oper}{base i:Nat}{l:List Nat}{o:Oper}{c:Call}{f:Operand}{Q:Fr->qd->Prop}(ho:ops[i]? =some o)(hw:Sn ops fr o=some true)(hop:o.op= .call c)(hc:c.callee= .value f)(aS:Vl E fr o f=false)(h:YA E fr.d Y (fr.ev E f) (c.args.toList.map (fr.ev E)) (fun v Y1=>YO E ops base l (fr.put o.dst v) Y1 Q D) D):YO E ops base (i::l) fr Y Q D:=by
 have hp:∀S P,((ops[i]?).bind fun o=>(Sn ops fr o).bind fun t=>if t=true then VK E S P fr Y o else none)=dZ E S P fr.d Y (fr.ev E f) (c.args.toList.map (fr.ev E)):=fun S P=>by rw[ho];simp only[Option.bind_some,hw,if_true];unfold VK;rw[hop];dsimp only;rw[hc]
 have hs:∀S v Y1,bG E S fr.d Y (fr.ev E f) (c.args.toList.map (fr.ev E))=some (v,Y1)->Tf E S ops base i fr Y=some (fr.put o.dst v,Y1):=fun S v Y1 ha=>by
  unfold Tf;rw[ho];have:opC E S fr Y (base+i) o=some (v,fr,Y1):=by simp only[opC,hop,hc,aS,PE,if_false,ha,Option.map_some]
  simp only[hw,Option.bind_some,if_true,this,Option.map_some]
 rcases h with ⟨N,v,Y1,h1,h2,h3⟩| ⟨N,v,Y1,h1,h2⟩
 .have h2':∀n,N<=n->bG E (Rh E n) fr.d Y (fr.ev E f) (c.args.toList.map (fr.ev E))=some (v,Y1):=fun n hn=>vU (bN hn) h2;rcases h3 with ⟨M,fr',Y',g1,g2,g3⟩| ⟨M,v',Y',g1,g2⟩
  .refine .inl ⟨max N M,fr',Y',fun n hn=>?_,?_,g3⟩
   .unfold d9;rw[hp,h1 n (by omega)];dsimp only;rw[hs _ _ _ (h2' n (by omega)),Option.bind_some];exact g1 n (by omega)
   .unfold opsL;rw[hs _ _ _ (h2' _ (QC N M)),Option.bind_some];exact sZ (bN (Qg N M)) g2
  .refine .inr ⟨max N M,v',Y',fun n hn=>?_,g2⟩;unfold d9;rw[hp,h1 n (by omega)];dsimp only;rw[hs _ _ _ (h2' n (by omega)),Option.bind_some];exact g1 n (by omega)
 .exact .inr ⟨N,v,Y1,fun n hn=>by unfold d9;rw[hp,h1 n hn],h2⟩
theorem YW.region {id:Nat}{ops:Array Oper}(h:YO E ops.toList Y.next (List.range ops.size) fr (Y.bump ops.toList.length) (fun fr Y=>Q .normal fr Y) D):YW E (.region id ops false) fr Y Q D:=by
 rcases h with ⟨N,fr',Y',h1,h2,h3⟩| ⟨N,v,Y',h1,h2⟩
 .refine .inl ⟨N,.normal,fr',Y',fun n hn=>?_,?_,h3⟩
  .unfold aL;rw[if_neg (by simp)];exact h1 n hn
  .unfold RB;rw[if_neg (by simp),Ah];rw[show opsL E (Rh E N) ops.toList Y.next (List.range ops.size) fr {Y with next:=Y.next+ops.toList.length}=some (fr',Y') from h2];rfl
 .refine .inr ⟨N,v,Y',fun n hn=>?_,h2⟩;unfold aL;rw[if_neg (by simp)];exact h1 n hn
theorem YA.imp {d:Nat}{g:FuncId}{a b args:List V}{Q:V->qd->Prop}(hi:E.imp g=true)(h:YI E g (a++args++b) (d+1) Y Q D):YA E d Y (.fn (.func g) a b) args Q D:=by
 rcases h with ⟨N,v,Y1,h1,h2,h3⟩| ⟨N,v,Y1,h1,h2⟩
 .exact .inl ⟨N,v,Y1,fun n hn=>by unfold dZ;simp only[hi,if_true];exact h1 n hn,by unfold bG;simp only[hi,if_true];exact h2,h3⟩
 .exact .inr ⟨N,v,Y1,fun n hn=>by unfold dZ;simp only[hi,if_true];exact h1 n hn,h2⟩
def YR (E:Env)(l:Nat)(args:List V)(Y:qd)(Q:Bool->qd->Prop)(D:V->qd->Prop):Prop:=
 (∃N b Y',(∀n,N<=n->kQ (Rh E n) (TB E n) l args Y=none)/\fF (Rh E N) l args Y=some (.bool b,Y')/\Q b Y')\/
 (∃N v Y',(∀n,N<=n->kQ (Rh E n) (TB E n) l args Y=some (v,Y'))/\D v Y')
theorem YA.round {d l:Nat}{args:List V}{Q:V->qd->Prop}(h:YR E l args Y (fun b Y=>Q (.bool b) Y) D):YA E d Y (.fn (.yield l) [] []) args Q D:=by
 rcases h with ⟨N,b,Y1,h1,h2,h3⟩| ⟨N,v,Y1,h1,h2⟩
 .exact .inl ⟨N,.bool b,Y1,fun n hn=>by unfold dZ;exact h1 n hn,by unfold bG;exact h2,h3⟩
 .exact .inr ⟨N,v,Y1,fun n hn=>by unfold dZ;exact h1 n hn,h2⟩
theorem YR.of {l:Nat}{args:List V}{r:Vj}{Q:Bool->qd->Prop}(hl:Y.loops l=some r)(hst:r.st=0)(hlen:r.ps.length=args.length)(h:CW E r.aF {r.fr with tm:=(r.ps.zip args).foldl (fun tm (p,a)=>upd tm p a) r.fr.tm} Y (fun e Rb Y1=>e= .normal/\∃r1,Y1.loops l=some r1/\r1.st=0/\
   YW E r.body Rb (Y1.aO l {r1 with st:=1}) (fun e _ Y2=>∃r2,Y2.loops l=some r2/\r2.st=1/\match e with
    |.normal=>Q true (Y2.aO l {r2 with st:=0,pend:=none})
    |e=>Q false (Y2.aO l {r2 with st:=2,pend:=some e})) D)):YR E l args Y Q D:=by
 obtain⟨n0,e,Rb,Y1,h1,rfl,r1,hl1,hs1,h2⟩:=h;have ha:∀n,n0+1<=n->(Rh E n).code r.aF {r.fr with tm:=(r.ps.zip args).foldl (fun tm (p,a)=>upd tm p a) r.fr.tm} Y=some (.normal,Rb,Y1):=fun n hn=>by
  cases n with
  |zero=>omega|succ n=>exact UZ (show n0<=n by omega) h1
 have hrp:∀n,n0+1<=n->kQ (Rh E n) (TB E n) l args Y=(TB E n).code r.body Rb (Y1.aO l {r1 with st:=1}):=fun n hn=>by unfold kQ;simp only[hl,Option.bind_some,hst,hlen,and_self,if_true,ha n hn,hl1,hs1]
 rcases h2 with ⟨N,e,RX,Y2,g1,g2,r2,hl2,hs2,g3⟩| ⟨N,v,Y2,g1,g2⟩
 .have hb:(Rh E (max n0 N+1)).code r.body Rb (Y1.aO l {r1 with st:=1})=some (e,RX,Y2):=UZ (Qg n0 N) g2;have hv:∃b Y',fF (Rh E (max n0 N+1)) l args Y=some (.bool b,Y')/\Q b Y':=by
   unfold fF;simp only[hl,Option.bind_some,hst,hlen,and_self,if_true,ha _ (show n0+1<=max n0 N+1 by omega),hl1,hs1,hb,hl2,hs2];cases e with
   |normal=>exact⟨_,_,rfl,g3⟩|exit i=>exact⟨_,_,rfl,g3⟩|ret=>exact⟨_,_,rfl,g3⟩
  obtain⟨b,Y',hv,hq⟩:=hv;refine .inl ⟨max n0 N+1,b,Y',fun n hn=>?_,hv,hq⟩;rw[hrp n (by omega)];cases n with
  |zero=>omega|succ n=>exact g1 n (by omega)
 .refine .inr ⟨max n0 N+1,v,Y2,fun n hn=>?_,g2⟩;rw[hrp n (by omega)];cases n with
  |zero=>omega|succ n=>exact g1 n (by omega)
theorem YI.of {f:FuncId}{args:List V}{d:Nat}{fn:Func}{c:Code}{R:V->qd->Prop}(hf:E.P.funcs[f]? =some fn)(hb:fn.body=some c)(hok:(decide (args.length<=fn.ntmps)&& aK fn.ntmps c)=true)(h:YW E c {d:=d,om:=E.om f,tm:=fun i=>args.getD i FN} Y (XF E fn.results.toList R) D):YI E f args d Y R D:=by
 have hok':args.length<=fn.ntmps/\aK fn.ntmps c=true:=by simpa using hok
 have hcp:∀n,1<=n->(TB E (n+1)).call f args d Y=(TB E n).code c {d:=d,om:=E.om f,tm:=fun i=>args.getD i FN} Y:=fun n _=>by show aaf E (TB E n) f args d Y=_;simp only[aaf,hf,hb,Option.bind_some,if_pos hok']
 rcases h with ⟨N,e,fr',Y',h1,h2,h3⟩| ⟨N,v,Y',h1,h2⟩
 .obtain⟨m,v,Y2,g1,g2⟩:=Vb.of (E:=E) (R:=R) hf hb hok ⟨N,e,fr',Y',h2,h3⟩;refine .inl ⟨max (N+2) m,v,Y2,fun n hn=>?_,(bN (Qg (N+2) m)).2 _ _ _ _ _ g1,g2⟩;obtain⟨n,rfl⟩:∃k,n=k+2:=⟨n-2,by omega⟩;rw[hcp (n+1) (by omega)];exact h1 n (by omega)
 .refine .inr ⟨N+2,v,Y',fun n hn=>?_,h2⟩;obtain⟨n,rfl⟩:∃k,n=k+2:=⟨n-2,by omega⟩;rw[hcp (n+1) (by omega)];exact h1 n (by omega)
theorem YW.range {f:Operand}{ps:Array Tmp}{aF body:Code}{g:FuncId}{a b:List V}(hf:fr.ev E f= .fn (.func g) a b)(hi:E.imp g=true)(h:YI E g (a++[.fn (.yield Y.next) [] []]++b) (fr.d+1) (Y.enter fr ps aF body) (fun _ Y2=>∃r,Y2.loops Y.next=some r/\r.st≠1/\Q (match r.pend with|none=>.normal|some e=>e) fr (Y2.dG Y.next)) D):YW E (.rangeFunc f ps aF body) fr Y Q D:=by
 have hcp:∀n,aL E (Rh E n) (TB E n) (.rangeFunc f ps aF body) fr Y=(TB E n).call g (a++[.fn (.yield Y.next) [] []]++b) (fr.d+1) (Y.enter fr ps aF body):=fun n=>by unfold aL;rw[hf];simp only[kU,if_true];unfold dZ;simp only[hi,if_true];rfl
 rcases h with ⟨N,v,Y2,h1,h2,h3⟩| ⟨N,v,Y2,h1,h2⟩
 .obtain⟨m,e,fr',Y',g1,g2⟩:=CW.range (E:=E) (Q:=Q) (ps:=ps) (aF:=aF) (body:=body) hf hi ⟨N,v,Y2,h2,h3⟩;exact .inl ⟨max N m,e,fr',Y',fun n hn=>by rw[hcp];exact h1 n (by omega),UZ (Qg N m) g1,g2⟩
 .exact .inr ⟨N,v,Y2,fun n hn=>by rw[hcp];exact h1 n hn,h2⟩
end
end Aq
end
section
open Go Go.Proofs Aq
namespace Sh
set_option maxRecDepth 100000
theorem ag2:∀(t:List (List Q6))(k sz:Nat),(R5 k sz t).length<=t.length
 | [],_,_=>mF _|c::cs,k,sz=>by
  have:=ag2 cs (k% (sz/c.length)) (sz/c.length);unfold R5;rw[PU,List.length_cons];cases c[k/(sz/c.length)]? with
  |none=>simp only[List.length_nil];omega|some x=>
   have h:(UY x).length<=1:=by unfold UY;cases x.is<;>simp
   simp only;omega
theorem ag3:∀{t:List (List Q6)},(∀c∈t,0<c.length)->0<Rv t
 | [],_=>Nat.one_pos|c::cs,h=>Nat.mul_pos (h c (PI ..)) (ag3 fun x hx=>h x (PK _ hx))
theorem aqi {t:List (List Q6)}{i:Nat}{c:List Q6}(h:t[i]? =some c):Rv (t.drop i)=c.length*Rv (t.drop (i+1)):=by obtain⟨hi,rfl⟩:=Qq.1 h;rw[Qd hi];rfl
def Uw (b:Nat)(Y:qd)(c:Cap)(n:Nat):Prop:=(c= .nil/\n=0)\/∃s,c= .own 4 s/\Y.top s=n/\s<Y.next/\b<=s
theorem Uw.bump {b:Nat}{Y:qd}{c:Cap}{n:Nat}(h:Uw b Y c n)(k:Nat):Uw b (Y.bump k) c n:=by
 rcases h with h| ⟨s,h1,h2,h3,h4⟩
 .exact .inl h
 .exact .inr ⟨s,h1,h2,PV h3 (PN _ _),h4⟩
theorem Uw.set {b:Nat}{Y:qd}{c:Cap}{n:Nat}(h:Uw b Y c n)(l:Aq.Loc)(s:Nat)(x:Tg):Uw b (Y.setObj l s x) c n:=h
theorem XR {d k:Nat}{Y Y':qd}(h:Shift d Y Y'):Shift d Y (Y'.bump k):=⟨PD h.next (PN _ _),h.top,h.loops,h.obj⟩
theorem aqj (a:Attr):aaG E 25 1 [(0,Attr.v a)]=some (.tX .full [Attr.v a]):=by kernel_rfl
theorem afh (l:List Attr):XH 4 (l.map Attr.v)=true:=apm (f:=Attr.v) (sz:=4) (fun x=>⟨rfl,rfl⟩) l
def stA (c:Cap)(st:Nat):Nat:=match c with
 |.own _ s=>s|_=>st
theorem Uw.mono {b:Nat}{Y Y':qd}{c:Cap}{n:Nat}(h:Uw b Y c n)(ht:Y'.top=Y.top)(hn:Y.next<=Y'.next):Uw b Y' c n:=by
 rcases h with h| ⟨s,h1,h2,h3,h4⟩
 .exact .inl h
 .exact .inr ⟨s,h1,by rw[ht];exact h2,PV h3 hn,h4⟩
theorem aqk {b:Nat}{Y:qd}{c:Cap}{l:List Attr}{a:Attr}{c2:Cap}(hc:Uw b Y c l.length)(hl:l.length<2^30)(st:Nat):aaM Tryz.prog Y st 25 25 (.tX c (l.map Attr.v)) (.tX c2 [Attr.v a])=some (.tX (.own 4 (stA c st)) ((l++[a]).map Attr.v),Y.R9 (stA c st) (l.length+1)):=by
 have ha:abk Tryz.prog 25 25 4 48 (Attr.v ⟨[],0,0,[]⟩):=by refine abk.mk 56 true ?_ ?_ ?_ ?_ ?_ rfl (by decide) rfl ?_<;>kernel_rfl
 have hr:Sl ((l.map Attr.v).length+[Attr.v a].length) 48=true:=by unfold Sl;simp only[PY,List.length_cons,List.length_nil,Pz,decide_eq_true_eq];omega
 rcases hc with ⟨rfl,h0⟩| ⟨s,rfl,h4,h5,h6⟩
 .have h:=apo (Y:=Y) (st:=st) (c2:=c2) ha (afh [a]) (afh l) hr;exact h.trans (by simp[stA])
 .have h:=apn (Y:=Y) (st:=st) (c2:=c2) ha (afh [a]) (afh l) hr (by rw[PY];exact h4);exact h.trans (by simp[stA])
theorem alP {b:Nat}{Y:qd}{c:Cap}{n st:Nat}(h:Uw b Y c n)(hs:b<=st):b<=stA c st:=by
 rcases h with ⟨rfl,_⟩| ⟨s,rfl,_,_,h4⟩
 .exact hs
 .exact h4
theorem aql {b:Nat}{Y:qd}{c:Cap}{n st nx:Nat}(h:Uw b Y c n)(hs:st<nx)(hn:Y.next<=nx):stA c st<nx:=by
 rcases h with ⟨rfl,_⟩| ⟨s,rfl,_,h3,_⟩
 .exact hs
 .exact PV h3 hn
structure CbF (dd l:Nat)(t:List (List Q6))(n k:Int)(fr:Fr):Prop where
 d:fr.d=dd
 om:fr.om=false
 t0:fr.tm 0= .fn (.yield l) [] []
 t1:fr.tm 1= .Q5 [Sc t] 0
 t13:fr.tm 13= .int .i64 n
 t14:fr.tm 14= .int .i64 k
 t3:fr.tm 3= .int .i64 n
theorem aqm {t:List (List Q6)}{i:Nat}{c:List Q6}(h:t[i]? =some c):Vk Tryz.prog 81 (Sc t) (.int .i64 ((i:Nat):Int))=some (.Q5 [lv Q6.v c] 0):=by
 have hx:Fb t ((i:Nat):Int)=some c:=by obtain⟨hi,_⟩:=Qq.1 h;unfold Fb;rw[if_pos ⟨by omega,by omega⟩];simpa using h
 rw[aez,if_pos (by rfl)];have e1:UE Tryz.prog 81=some 97:=by kernel_rfl
 have e2:RN Tryz.prog 97=some 1:=by kernel_rfl
 rw[e1];simp only[Option.bind_some,e2,hx];rfl
theorem aqn {c:List Q6}{i:Nat}{x:Q6}(h:c[i]? =some x):Vk Tryz.prog 97 (lv Q6.v c) (.int .i64 ((i:Nat):Int))=some (.Q5 x.c 0):=by
 have hx:Fb c ((i:Nat):Int)=some x:=by obtain⟨hi,_⟩:=Qq.1 h;unfold Fb;rw[if_pos ⟨by omega,by omega⟩];simpa using h
 rw[aez,if_pos (by rfl)];have e1:UE Tryz.prog 97=some 115:=by kernel_rfl
 have e2:RN Tryz.prog 115=some 5:=by kernel_rfl
 rw[e1];simp only[Option.bind_some,e2,hx];rfl
theorem alQ {a b:Nat}(hb:0<b)(ha:a<2^62):TQ .quo .i64 ((a:Nat):Int) ((b:Nat):Int)=some (.int .i64 ((a/b:Nat):Int)):=by
 have h1:((b:Nat):Int)≠0:=by omega
 have h2:Int.tdiv ((a:Nat):Int) ((b:Nat):Int)=((a/b:Nat):Int):=by rw[Int.tdiv_eq_ediv_of_nonneg (by omega)];rfl
 have h3:a/b<=a:=Nat.div_le_self _ _;unfold TQ;simp only[h2];have h4:∀q:Nat,q<2^62->IntKind.wrap .i64 ((q:Nat):Int)=((q:Nat):Int):=fun q hq=>by rw[IntKind.wrap_i64];omega
 rw[h4 _ (by omega)];first|rw[if_neg h1]|simp[h1]
theorem aqo {a b:Nat}(hb:0<b):TQ .rem .i64 ((a:Nat):Int) ((b:Nat):Int)=some (.int .i64 ((a% b:Nat):Int)):=by
 have h1:((b:Nat):Int)≠0:=by omega
 have h2:Int.tmod ((a:Nat):Int) ((b:Nat):Int)=((a% b:Nat):Int):=by rw[Int.tmod_eq_emod_of_nonneg (by omega)];rfl
 unfold TQ;simp only[h2];first|rw[if_neg h1]|simp[h1]
theorem ag4 {S:R7}{fr:Fr}{Y:qd}{st:Nat}{dst:Option Tmp}{op:BinOp}{tt u ty:TypeId}{pos:String}{Tz:Array Edge}{gd:Option (Nat×Bool)}{x y:Operand}{a b:Int}{v:V}(h1:fr.ev E x= .int .i64 a)(h2:fr.ev E y= .int .i64 b)(h:TQ op .i64 a b=some v)(hs:V3 E.P op tt (.int .i64 a) (.int .i64 b)=TQ op .i64 a b):Is (opC E S fr Y st ⟨dst,.binOp op tt x y u,ty,pos,Tz,gd⟩) (some (v,fr,Y)):=by show _=_;rw[ale,h1,h2,hs,h];rfl
theorem Sv {fr:Fr}{d t:Nat}(v:V)(h:t≠d):(fr.set d v).tm t=fr.tm t:=Yu _ v (by simpa using h)
structure Stp (T:List Nat)(b:Nat)(fr:Fr)(Y:qd)(fr':Fr)(Y':qd):Prop where
 d:fr'.d=fr.d
 om:fr'.om=fr.om
 tm:∀i,i∉T->fr'.tm i=fr.tm i
 next:Y.next<=Y'.next
 obj:∀a p,a≠fr.d->Y'.obj (a,p)=Y.obj (a,p)
 loops:Y'.loops=Y.loops
 top:∀s,s<b->Y'.top s=Y.top s
theorem Stp.rfl' {T:List Nat}{b:Nat}{fr:Fr}{Y:qd}:Stp T b fr Y fr Y:=⟨rfl,rfl,fun _ _=>rfl,mF _,fun _ _ _=>rfl,rfl,fun _ _=>rfl⟩
theorem Stp.trans {T T1 T2:List Nat}{b:Nat}{fr Rb RX:Fr}{Y Y1 Y2:qd}(h:Stp T1 b fr Y Rb Y1)(k:Stp T2 b Rb Y1 RX Y2)(hT:∀i,i∉T->i∉T1/\i∉T2):Stp T b fr Y RX Y2:=
 ⟨k.d.trans h.d,k.om.trans h.om,fun i hi=>(k.tm i (hT i hi).2).trans (h.tm i (hT i hi).1),PD h.next k.next,fun a p ha=>(k.obj a p (fun e=>ha (e.trans h.d))).trans (h.obj a p ha),k.loops.trans h.loops,fun s hs=>(k.top s hs).trans (h.top s hs)⟩
theorem Stp.mono {T T1:List Nat}{b:Nat}{fr Rb:Fr}{Y Y1:qd}(h:Stp T1 b fr Y Rb Y1)(hT:∀i∈T1,i∈T):Stp T b fr Y Rb Y1:=⟨h.d,h.om,fun i hi=>h.tm i (fun hj=>hi (hT i hj)),h.next,h.obj,h.loops,h.top⟩
theorem Stp.trans' {T:List Nat}{b:Nat}{fr Rb RX:Fr}{Y Y1 Y2:qd}(h:Stp T b fr Y Rb Y1)(k:Stp T b Rb Y1 RX Y2):Stp T b fr Y RX Y2:=h.trans k fun _ hi=>⟨hi,hi⟩
theorem Stp.set {T:List Nat}{b:Nat}{fr fr':Fr}{Y Y':qd}(h:Stp T b fr Y fr' Y'){i:Nat}(hi:i∈T)(v:V):Stp T b fr Y (fr'.set i v) Y':=
 ⟨h.d,h.om,fun j hj=>(Sv v (by rintro rfl;exact hj hi)).trans (h.tm j hj),h.next,h.obj,h.loops,h.top⟩
theorem Stp.bump {T:List Nat}{b k:Nat}{fr fr':Fr}{Y Y':qd}(h:Stp T b fr Y fr' Y'):Stp T b fr Y fr' (Y'.bump k):=⟨h.d,h.om,h.tm,PD h.next (PN _ _),h.obj,h.loops,h.top⟩
theorem Stp.setObj {T:List Nat}{b o s a0:Nat}{x:Tg}{fr fr':Fr}{Y Y':qd}(h:Stp T b fr Y fr' Y')(he:fr.d=a0):Stp T b fr Y fr' (Y'.setObj (a0,o) s x):=⟨h.d,h.om,h.tm,h.next,fun a p ha=>(ads (he▸ha)).trans (h.obj a p ha),h.loops,h.top⟩
theorem Stp.R9 {T:List Nat}{b s n:Nat}{fr fr':Fr}{Y Y':qd}(h:Stp T b fr Y fr' Y')(hs:b<=s):Stp T b fr Y fr' (Y'.R9 s n):=⟨h.d,h.om,h.tm,h.next,h.obj,h.loops,fun t ht=>(ac3 _ _ (by omega)).trans (h.top t ht)⟩
theorem aqp {d b rest size:Nat}{cl:List Q6}{x:Q6}{fr:Fr}{Y:qd}(h1:fr.d=d+1)(h6:fr.tm 6= .int .i64 (rest:Nat))(h7:fr.tm 7= .int .i64 (size:Nat))(h9:fr.tm 9=lv Q6.v cl)(hz:0<size)(hr:rest<2^62)(hx:cl[rest/size]? =some x):
 CW E ((TG Tryz.f106.body [1,1,0,0,1,1,0,0,1,1,1,0,1,0,0,1,1,0,0,1,1,0,0]).getD .skip) fr Y (fun e fr' Y'=>e= .normal/\Stp [10,29,30,31,32,33,34] b fr Y fr' Y'/\Y'.top=Y.top/\∃s,fr'.tm 10= .ref (d+1,10) s 0/\Y'.Rs (d+1,10) s=some x.c):=by
 have hP:E.P=Tryz.prog:=rfl;have ib:=aqn hx;have q2:=alQ (a:=rest) (b:=size) hz hr;have hzl:Ua Tryz.prog 115=some (.agg [.str [],.int .i64 0,.int .i64 0,.str [],.bool false]):=by kernel_rfl
 have hsz:RN Tryz.prog 115=some 5:=by kernel_rfl
 have hsp:Ti [.str [],.int .i64 0,.int .i64 0,.str [],.bool false] 0 x.c=x.c:=rfl;refine CW.region ?_;refine OW.o1 (by rfl) (fun S=>by simp only[go_sem,Nat.reduceBEq,Nat.reduceAdd, *];with_reducible exact Is.rfl) ?_;refine OW.o1 (by rfl) (fun S=>by simp only[go_sem,Nat.reduceBEq,Nat.reduceAdd, *];with_reducible exact Is.rfl) ?_;refine OW.o1 (by rfl) (fun S=>by simp only[go_sem,Nat.reduceBEq,Nat.reduceAdd, *];with_reducible exact Is.rfl) ?_;refine OW.o1 (v:=.int .i64 ((rest/size:Nat):Int)) (by rfl) (fun S=>ag4 (by simp only[go_sem,Nat.reduceBEq,Nat.reduceAdd, *]) (by simp only[go_sem,Nat.reduceBEq,Nat.reduceAdd, *]) q2 rfl) ?_;refine OW.o1 (by rfl) (fun S=>by simp only[go_sem,Nat.reduceBEq,Nat.reduceAdd, *];with_reducible exact Is.rfl) ?_;refine OW.o1 (by rfl) (fun S=>by simp only[go_sem,Nat.reduceBEq,Nat.reduceAdd, *];with_reducible exact Is.rfl) ?_;refine OW.o1 (by rfl) (fun S=>by simp only[go_sem,Nat.reduceBEq,Nat.reduceAdd, *];with_reducible exact Is.rfl) ?_;refine OW.o0 (by rfl) (fun S=>by rw[aeB];simp only[go_sem,Nat.reduceBEq,Nat.reduceAdd, *];rw[if_pos (by decide)];exact Is.rfl) ?_;refine OW.nil ⟨rfl,?_,rfl,_,Vx ..,?_⟩
 .exact(((((((((Stp.rfl'.bump.setObj h1).setObj h1).set (by decide) _).set (by decide) _).set (by decide) _).set (by decide) _).set (by decide) _).set (by decide) _).set (by decide) _)
 .simp only[go_sem]
theorem aqr {d b s:Nat}{x:Q6}{fr:Fr}{Y:qd}(h3:fr.tm 10= .ref (d+1,10) s 0)(ho:Y.Rs (d+1,10) s=some x.c):
 CW E ((TG Tryz.f106.body [1,1,0,0,1,1,0,0,1,1,1,0,1,0,0,1,1,0,0,1,1,0,1,0]).getD .skip) fr Y (fun e fr' Y'=>e= .normal/\Stp [35,36] b fr Y fr' Y'/\Y'.obj=Y.obj/\Y'.top=Y.top/\fr'.tm 36= .bool x.is):=by
 have hP:E.P=Tryz.prog:=rfl;refine CW.region ?_;refine OW.o1 (by rfl) (fun S=>by simp only[go_sem,Nat.reduceBEq,Nat.reduceAdd, *];with_reducible exact Is.rfl) ?_;refine OW.o1 (v:=.bool x.is) (by rfl) (fun S=>by simp only[go_sem,Nat.reduceBEq,Nat.reduceAdd, *];exact Is.rfl) ?_;exact OW.nil ⟨rfl,((Stp.rfl'.bump).set (by decide) _).set (by decide) _,rfl,rfl,Vx ..⟩
theorem aqs {d s b:Nat}{x:Q6}{fr:Fr}{Y:qd}{c:Cap}{acc:List Attr}(h1:fr.d=d+1)(h2:fr.om=false)(h3:fr.tm 10= .ref (d+1,10) s 0)(h4:fr.tm 36= .bool x.is)(h5:fr.tm 5= .tX c (acc.map Attr.v))(ho:Y.Rs (d+1,10) s=some x.c)(how:Uw b Y c acc.length)(hl:acc.length<2^30)(hb:b<=Y.next):
 CW E ((TG Tryz.f106.body [1,1,0,0,1,1,0,0,1,1,1,0,1,0,0,1,1,0,0,1,1,0,1,1]).getD .skip) fr Y (fun e fr' Y'=>e= .normal/\Stp [5,37,38,39,40,41] b fr Y fr' Y'/\∃c',fr'.tm 5= .tX c' ((acc++UY x).map Attr.v)/\Uw b Y' c' (acc++UY x).length):=by
 have hP:E.P=Tryz.prog:=rfl;have hz:E.P=Tryz.prog:=rfl;have hlx:TF Tryz.prog 56 x.c 0=some (Attr.v x.a):=by kernel_rfl
 cases hxi:x.is with
 |true=>
  refine CW.aaK (by simp only[go_sem,Nat.reduceBEq,Nat.reduceAdd, *];exact Is.rfl) ?_;refine CW.region ?_;refine OW.o1 (by rfl) (fun S=>by simp only[go_sem,Nat.reduceBEq,Nat.reduceAdd, *];with_reducible exact Is.rfl) ?_;refine OW.o1 (by rfl) (fun S=>by simp only[go_sem,Nat.reduceBEq,Nat.reduceAdd, *];with_reducible exact Is.rfl) ?_;refine OW.o1 (by rfl) (fun S=>by simp only[go_sem,Nat.reduceBEq,Nat.reduceAdd, *];with_reducible exact Is.rfl) ?_;refine OW.o1 (v:=.tX .full [Attr.v x.a]) (by rfl) (fun S=>by rw[alg 25 1 [(0,.tmp 39)] (by rfl)];simp only[go_sem,Nat.reduceBEq,Nat.reduceAdd,aqj, *];exact Is.rfl) ?_;refine OW.o1 (v:=.tX (.own 4 (stA c _)) ((acc++[x.a]).map Attr.v)) (by rfl) (fun S=>by rw[alf (c:=c) (l:=acc.map Attr.v) (by exact h2) (by simp only[go_sem,Nat.reduceBEq, *])];simp only[go_sem,Nat.reduceBEq,Nat.reduceAdd, *];rw[aqk (b:=b) (how.bump _) hl];exact Is.rfl) ?_;refine OW.o1 (by rfl) (fun S=>by simp only[go_sem,Nat.reduceBEq,Nat.reduceAdd, *];with_reducible exact Is.rfl) ?_;have hia:UY x=[x.a]:=by unfold UY;rw[hxi];rfl
  rw[hia];refine OW.nil ⟨rfl,?_,.own 4 (stA c (Y.next+1+1+1+1)),?_,?_⟩
  .exact((((((Stp.rfl'.bump.R9 (alP how (show b<=Y.next+1+1+1+1 by omega))).set (by decide) _).set (by decide) _).set (by decide) _).set (by decide) _).set (by decide) _).set (by decide) _
  .exact Vx ..
  .refine .inr ⟨_,rfl,?_,?_,?_⟩
   .rw[aex,PU];rfl
   .refine aql how ?_ ?_
    .show _<Y.next+6;omega
    .exact PN _ _
   .exact alP how (show b<=Y.next+1+1+1+1 by omega)
 |false=>
  refine CW.aaL (by simp only[go_sem,Nat.reduceBEq,Nat.reduceAdd, *];exact Is.rfl) ?_;refine CW.skip ⟨rfl,Stp.rfl',c,?_,?_⟩
  .rw[h5];unfold UY;rw[hxi];simp
  .unfold UY;rw[hxi];simpa using how
abbrev adu:List Nat:=[5,6,7,9,10,23,24,25,26,27,28,29,30,31,32,33,34,35,36,37,38,39,40,41,42,43,44]
theorem aqt {d b rest size i:Nat}{t:List (List Q6)}{cl:List Q6}{x:Q6}{fr:Fr}{Y:qd}{c:Cap}{acc:List Attr}(h1:fr.d=d+1)(h2:fr.om=false)(h19:fr.tm 19=Sc t)(h21:fr.tm 21= .int .i64 (i:Nat))(h5:fr.tm 5= .tX c (acc.map Attr.v))(h6:fr.tm 6= .int .i64 (rest:Nat))(h7:fr.tm 7= .int .i64 (size:Nat))(hi:t[i]? =some cl)(hcl:0<cl.length)(hsz:size<2^62)(hq:0<size/cl.length)(hr:rest<2^62)(hx:cl[rest/(size/cl.length)]? =some x)(how:Uw b Y c acc.length)(hl:acc.length<2^30)(hb:b<=Y.next):
 CW E ((TG Tryz.f106.body [1,1,0,0,1,1,0,0,1,1,1,0,1,0,0,1,1,0,0]).getD .skip) fr Y (fun e fr' Y'=>e= .normal/\Stp adu b fr Y fr' Y'/\
  fr'.tm 6= .int .i64 ((rest% (size/cl.length):Nat):Int)/\fr'.tm 7= .int .i64 ((size/cl.length:Nat):Int)/\∃c',fr'.tm 5= .tX c' ((acc++UY x).map Attr.v)/\Uw b Y' c' (acc++UY x).length):=by
 have hP:E.P=Tryz.prog:=rfl;have ia:=aqm hi;have q1:=alQ (a:=size) (b:=cl.length) hcl hsz;have q3:=aqo (a:=rest) (b:=size/cl.length) hq;refine CW.seq (CW.region ?_);refine OW.o1 (by rfl) (fun S=>by simp only[go_sem,Nat.reduceBEq,Nat.reduceAdd, *];with_reducible exact Is.rfl) ?_;refine OW.o1 (by rfl) (fun S=>by simp only[go_sem,Nat.reduceBEq,Nat.reduceAdd, *];with_reducible exact Is.rfl) ?_;refine OW.o1 (by rfl) (fun S=>by simp only[go_sem,Nat.reduceBEq,Nat.reduceAdd, *];with_reducible exact Is.rfl) ?_;refine OW.nil (SE.n ?_);refine CW.seq (CW.region ?_);refine OW.o1 (by rfl) (fun S=>by simp only[go_sem,Nat.reduceBEq,Nat.reduceAdd, *];with_reducible exact Is.rfl) ?_;refine OW.o1 (by rfl) (fun S=>by simp only[go_sem,Nat.reduceBEq,Nat.reduceAdd, *];with_reducible exact Is.rfl) ?_;refine OW.o1 (by rfl) (fun S=>by simp only[go_sem,Nat.reduceBEq,Nat.reduceAdd, *];with_reducible exact Is.rfl) ?_;refine OW.o1 (v:=.int .i64 ((size/cl.length:Nat):Int)) (by rfl) (fun S=>ag4 (by simp only[go_sem,Nat.reduceBEq,Nat.reduceAdd, *]) (by simp only[go_sem,Nat.reduceBEq,Nat.reduceAdd, *]) q1 rfl) ?_;refine OW.o1 (by rfl) (fun S=>by simp only[go_sem,Nat.reduceBEq,Nat.reduceAdd, *];with_reducible exact Is.rfl) ?_;refine OW.nil (SE.n ?_);have hs:Stp [7,9,23,24,25,26,27,28] b fr Y ((((((((fr.set 23 (.Q5 [lv Q6.v cl] 0)).set 24 (lv Q6.v cl)).set 9 (lv Q6.v cl)).set 25 (.int .i64 (size:Nat))).set 26 (lv Q6.v cl)).set 27 (.int .i64 (cl.length:Nat))).set 28 (.int .i64 ((size/cl.length:Nat):Int))).set 7 (.int .i64 ((size/cl.length:Nat):Int))) ((Y.bump 3).bump 5):=
  ((((((((Stp.rfl'.bump.bump.set (by decide) _).set (by decide) _).set (by decide) _).set (by decide) _).set (by decide) _).set (by decide) _).set (by decide) _).set (by decide) _)
 have alR:Uw b ((Y.bump 3).bump 5) c acc.length:=(how.bump _).bump _;have e9:((((((((fr.set 23 (.Q5 [lv Q6.v cl] 0)).set 24 (lv Q6.v cl)).set 9 (lv Q6.v cl)).set 25 (.int .i64 (size:Nat))).set 26 (lv Q6.v cl)).set 27 (.int .i64 (cl.length:Nat))).set 28 (.int .i64 ((size/cl.length:Nat):Int))).set 7 (.int .i64 ((size/cl.length:Nat):Int))).tm 9=lv Q6.v cl:=by simp only[go_sem,Nat.reduceBEq]
 have e7:((((((((fr.set 23 (.Q5 [lv Q6.v cl] 0)).set 24 (lv Q6.v cl)).set 9 (lv Q6.v cl)).set 25 (.int .i64 (size:Nat))).set 26 (lv Q6.v cl)).set 27 (.int .i64 (cl.length:Nat))).set 28 (.int .i64 ((size/cl.length:Nat):Int))).set 7 (.int .i64 ((size/cl.length:Nat):Int))).tm 7= .int .i64 ((size/cl.length:Nat):Int):=by simp only[go_sem,Nat.reduceBEq]
 show CW E _ ((((((((fr.set 23 (.Q5 [lv Q6.v cl] 0)).set 24 (lv Q6.v cl)).set 9 (lv Q6.v cl)).set 25 (.int .i64 (size:Nat))).set 26 (lv Q6.v cl)).set 27 (.int .i64 (cl.length:Nat))).set 28 (.int .i64 ((size/cl.length:Nat):Int))).set 7 (.int .i64 ((size/cl.length:Nat):Int))) ((Y.bump 3).bump 5) _;have hb1:b<=((Y.bump 3).bump 5).next:=PD hb (PD (PN _ 3) (PN _ 5));generalize ((((((((fr.set 23 (.Q5 [lv Q6.v cl] 0)).set 24 (lv Q6.v cl)).set 9 (lv Q6.v cl)).set 25 (.int .i64 (size:Nat))).set 26 (lv Q6.v cl)).set 27 (.int .i64 (cl.length:Nat))).set 28 (.int .i64 ((size/cl.length:Nat):Int))).set 7 (.int .i64 ((size/cl.length:Nat):Int)))=f1 at hs e9 e7⊢;generalize ((Y.bump 3).bump 5)=Y1 at hs alR hb1⊢;refine CW.seq (CW.seq ((aqp (b:=b) (d:=d) (hs.d.trans h1) ((hs.tm 6 (by decide)).trans h6) e7 e9 hq hr hx).mono ?_));rintro _ f2 Y2 ⟨rfl,hs2,k0,s,k1,k2⟩;refine SE.n (CW.seq ((aqr (b:=b) k1 k2).mono ?_));rintro _ f3 Y3 ⟨rfl,hs3,k3,k3',k4⟩;have k5:Y3.Rs (d+1,10) s=some x.c:=by unfold qd.Rs;rw[k3];exact k2
 have g2:Stp adu b f1 Y1 f2 Y2:=hs2.mono (by decide);have g3:Stp adu b f2 Y2 f3 Y3:=hs3.mono (by decide);have hn:Y1.next<=Y3.next:=PD hs2.next hs3.next;refine SE.n ((aqs (d:=d) (b:=b) (x:=x) (c:=c) (acc:=acc) (s:=s) (hs3.d.trans (hs2.d.trans (hs.d.trans h1))) (hs3.om.trans (hs2.om.trans (hs.om.trans h2))) ((hs3.tm 10 (by decide)).trans k1) k4 ((hs3.tm 5 (by decide)).trans ((hs2.tm 5 (by decide)).trans ((hs.tm 5 (by decide)).trans h5))) k5 (alR.mono (k3'.trans k0) hn) hl (PD hb1 hn)).mono ?_);rintro _ f4 Y4 ⟨rfl,hs4,c',k6,k7⟩;have a6:f4.tm 6= .int .i64 (rest:Nat):=(hs4.tm 6 (by decide)).trans ((hs3.tm 6 (by decide)).trans ((hs2.tm 6 (by decide)).trans ((hs.tm 6 (by decide)).trans h6)));have a7:f4.tm 7= .int .i64 ((size/cl.length:Nat):Int):=(hs4.tm 7 (by decide)).trans ((hs3.tm 7 (by decide)).trans ((hs2.tm 7 (by decide)).trans e7));have g4:Stp adu b fr Y f4 Y4:=(hs.mono (by decide)).trans' (g2.trans' (g3.trans' (hs4.mono (by decide))));clear hs hs2 hs3 hs4 g2 g3 e7 e9 k1 k2 k4 k5 h5 h6 h7 h19 h21 h1 h2 ia q1;refine SE.n (CW.region ?_);refine OW.o1 (by rfl) (fun S=>by simp only[go_sem,Nat.reduceBEq,Nat.reduceAdd, *];with_reducible exact Is.rfl) ?_;refine OW.o1 (by rfl) (fun S=>by simp only[go_sem,Nat.reduceBEq,Nat.reduceAdd, *];with_reducible exact Is.rfl) ?_;refine OW.o1 (v:=.int .i64 ((rest% (size/cl.length):Nat):Int)) (by rfl) (fun S=>ag4 (by simp only[go_sem,Nat.reduceBEq,Nat.reduceAdd, *]) (by simp only[go_sem,Nat.reduceBEq,Nat.reduceAdd, *]) q3 rfl) ?_;refine OW.o1 (by rfl) (fun S=>by simp only[go_sem,Nat.reduceBEq,Nat.reduceAdd, *];with_reducible exact Is.rfl) ?_;refine OW.nil ⟨rfl,g4.trans' ((((Stp.rfl'.bump.set (by decide) _).set (by decide) _).set (by decide) _).set (by decide) _),Vx ..,?_,c',?_,k7.bump _⟩
 .simp only[go_sem,Nat.reduceBEq,a7]
 .simp only[go_sem,Nat.reduceBEq,k6]
structure CbI (dd l:Nat)(t:List (List Q6))(n k:Int)(fr:Fr)(i:Nat)(c:Cap)(acc:List Attr)(rest size:Nat):Prop where
 f:CbF dd l t n k fr
 t19:fr.tm 19=Sc t
 t20:fr.tm 20= .int .i64 (t.length:Nat)
 t21:fr.tm 21= .int .i64 (i:Nat)
 t5:fr.tm 5= .tX c (acc.map Attr.v)
 t6:fr.tm 6= .int .i64 (rest:Nat)
 t7:fr.tm 7= .int .i64 (size:Nat)
theorem aqv {d l:Nat}{t:List (List Q6)}{n k:Int}(htl:t.length<2^20)(hne:∀c∈t,0<c.length)(hsm:Rv t<=4096)(hlen:∀c∈t,c.length<=4096){b:Nat}{Y0:qd}(hb:Y0.next<=b)(hbl:b=Y0.next):∀(j i:Nat)(fr:Fr)(Y:qd)(c:Cap)(acc:List Attr)(rest size:Nat),
 i+j=t.length->CbI (d+1) l t n k fr i c acc rest size->size=Rv (t.drop i)->size<=4096->rest<size->acc.length<=i->Shift d Y0 Y->Uw b Y c acc.length->
 CW E ((TG Tryz.f106.body [1,1,0,0,1,1,0,0,1,1,1,0,1,0]).getD .skip) fr Y (fun e fr' Y'=>e= .exit 2/\CbF (d+1) l t n k fr'/\Shift d Y0 Y'/\∃c',fr'.tm 5= .tX c' ((acc++R5 rest size (t.drop i)).map Attr.v)/\Uw b Y' c' (acc++R5 rest size (t.drop i)).length):=by
 have hP:E.P=Tryz.prog:=rfl;intro j;induction j with
 |zero=>
  intro i fr Y c acc rest size hi hf hs hs2 hr ha hsh how;obtain⟨⟨h1,h2,h3,h4,h5,h6,h8⟩,g1,g2,g3,g4,g5,g6⟩:=hf;refine CW.loop (CW.seq (CW.region ?_));have e:decide (((i:Nat):Int)< (t.length:Int))=false:=by simp;omega
  refine OW.o1 (by rfl) (fun S=>by simp only[go_sem,Nat.reduceBEq,Nat.reduceAdd, *];with_reducible exact Is.rfl) ?_;refine OW.nil (SE.n ?_);refine CW.seq (CW.aaL (by simp only[go_sem,Nat.reduceBEq,Nat.reduceAdd, *];exact Is.rfl) ?_);have et:t.drop i=[]:=QW (by omega);refine CW.exit (SE.x (XE.x ⟨rfl,⟨?_,?_,?_,?_,?_,?_,?_⟩,(XR hsh),c,?_,?_⟩))
  .simp only[X0,h1]
  .exact h2
  .simp only[go_sem,Nat.reduceBEq, *]
  .simp only[go_sem,Nat.reduceBEq, *]
  .simp only[go_sem,Nat.reduceBEq, *]
  .simp only[go_sem,Nat.reduceBEq, *]
  .simp only[go_sem,Nat.reduceBEq, *]
  .rw[et];simp only[R5,Qx];simp only[go_sem,Nat.reduceBEq, *]
  .rw[et];simp only[R5,Qx];exact how.bump _
 |succ j ih=>
  intro i fr Y c acc rest size hi hf hs hs2 hr ha hsh how;obtain⟨⟨h1,h2,h3,h4,h5,h6,h8⟩,g1,g2,g3,g4,g5,g6⟩:=hf;have hlt:i<t.length:=by omega
  have hx:t[i]? =some t[i]:=PX hlt;have hmem:t[i]∈t:=Qw hlt;have hdr:=Qd hlt;have hpr:=aqi hx;generalize t[i]=cl at hx hmem hdr hpr;have hcl:=hne cl hmem;have hrp:0<Rv (t.drop (i+1)):=ag3 fun x hx=>hne x (List.mem_of_mem_drop hx);have hdv:size/cl.length=Rv (t.drop (i+1)):=by rw[hs,hpr,Nat.mul_div_cancel_left _ hcl]
  have hkl:rest/(size/cl.length)<cl.length:=by rw[hdv];refine(Nat.div_lt_iff_lt_mul hrp).2 ?_;rw[<-hpr,<-hs];exact hr
  have hxk:cl[rest/(size/cl.length)]? =some cl[rest/(size/cl.length)]:=PX hkl;generalize cl[rest/(size/cl.length)]=x at hxk;have hdl:size/cl.length<=size:=Nat.div_le_self _ _;have aqw:R5 rest size (t.drop i)=UY x++R5 (rest% (size/cl.length)) (size/cl.length) (t.drop (i+1)):=by rw[hdr];show (match cl[rest/(size/cl.length)]? with|some x=>UY x|none=>[])++_=_;rw[hxk]
  have hq:0<size/cl.length:=by omega
  have hrl:rest% (size/cl.length)<size/cl.length:=Nat.mod_lt _ hq;have hw:IntKind.wrap .i64 ((i:Int)+(1:Int))=((i+1:Nat):Int):=by rw[IntKind.wrap_i64];omega
  have hla:(UY x).length<=1:=by unfold UY;cases x.is<;>simp
  have e:decide (((i:Nat):Int)< (t.length:Int))=true:=by simp;omega
  refine CW.loop (CW.seq (CW.region ?_));refine OW.o1 (v:=.bool true) (by rfl) (fun S=>by simp only[go_sem,Nat.reduceBEq,Nat.reduceAdd,g2,g3,e];with_reducible exact Is.rfl) ?_;refine OW.nil (SE.n ?_);refine CW.seq (CW.aaK (by simp only[go_sem,Nat.reduceBEq,Nat.reduceAdd];exact Is.rfl) ?_);refine CW.skip (SE.n ?_);refine CW.seq (CW.block ((aqt (fr:=fr.set 22 (.bool true)) (Y:=Y.bump 1) (d:=d) (b:=b) (t:=t) (cl:=cl) (x:=x) (c:=c) (acc:=acc) (rest:=rest) (size:=size) (i:=i) h1 h2 ((Sv _ (by decide)).trans g1) ((Sv _ (by decide)).trans g3) ((Sv _ (by decide)).trans g4) ((Sv _ (by decide)).trans g5) ((Sv _ (by decide)).trans g6) hx hcl (by omega) hq (by omega) hxk (how.bump _) (by omega) ?_).mono ?_))
  .have:=hsh.next;show b<=Y.next+1;omega
  rintro _ f1 Y1 ⟨rfl,hst,k6,k7,c',k5,k8⟩;refine UN.n (SE.n (CW.region ?_));have a21:f1.tm 21= .int .i64 (i:Nat):=(hst.tm 21 (by decide)).trans ((Sv _ (by decide)).trans g3);refine OW.o1 (v:=.int .i64 ((i+1:Nat):Int)) (by rfl) (fun S=>by simp only[go_sem,Nat.reduceBEq,Nat.reduceAdd,a21,hw];with_reducible exact Is.rfl) ?_;refine OW.o1 (v:=.int .i64 ((i+1:Nat):Int)) (by rfl) (fun S=>by simp only[go_sem,Nat.reduceBEq,Nat.reduceAdd];with_reducible exact Is.rfl) ?_;have hfr:∀{q:Nat}{v:V},fr.tm q=v->q∉adu->q≠22->q≠45->q≠21->(((f1.set 45 (.int .i64 ((i+1:Nat):Int))).set 21 (.int .i64 ((i+1:Nat):Int)))).tm q=v:=fun {q v} hv hq h22 h45 h21=>(Sv _ h21).trans ((Sv _ h45).trans ((hst.tm q hq).trans ((Sv _ h22).trans hv)))
  refine OW.nil (NQ.i (XE.n ((ih (i+1) ((f1.set 45 (.int .i64 ((i+1:Nat):Int))).set 21 (.int .i64 ((i+1:Nat):Int))) (Y1.bump 2) c' (acc++UY x) (rest% (size/cl.length)) (size/cl.length) (by omega) ⟨⟨hst.d.trans h1,hst.om.trans h2,hfr h3 (by decide) (by decide) (by decide) (by decide),hfr h4 (by decide) (by decide) (by decide) (by decide),hfr h5 (by decide) (by decide) (by decide) (by decide),hfr h6 (by decide) (by decide) (by decide) (by decide),hfr h8 (by decide) (by decide) (by decide) (by decide)⟩,hfr g1 (by decide) (by decide) (by decide) (by decide),hfr g2 (by decide) (by decide) (by decide) (by decide),Vx ..,(Sv _ (by decide)).trans ((Sv _ (by decide)).trans k5),(Sv _ (by decide)).trans ((Sv _ (by decide)).trans k6),(Sv _ (by decide)).trans ((Sv _ (by decide)).trans k7)⟩ hdv (by omega) hrl (by rw[PU];omega) (XR ?_) (k8.bump _)).mono ?_)))
  .refine⟨?_,fun s hs=>?_,?_,fun a p ha=>?_⟩
   .have:=hst.next;have:=hsh.next;have:(Y.bump 1).next=Y.next+1:=rfl;omega
   .exact(hst.top s (by omega)).trans (hsh.top s hs)
   .intro s hs;rw[hst.loops];exact hsh.loops s hs
   .exact(hst.obj a p (by show a≠fr.d;omega)).trans (hsh.obj a p ha)
  .rintro e fr' Y' ⟨q1,q2,q3,c2,q4,q5⟩;rw[aqw,<-Qe];exact⟨q1,q2,q3,c2,q4,q5⟩
end Sh
end
section
open Go Go.Proofs Aq
namespace Sh
set_option maxRecDepth 100000
theorem Uw.zero {b:Nat}{Y:qd}{c:Cap}{n:Nat}(h:Uw b Y c n):Uw 0 Y c n:=by
 rcases h with h| ⟨s,h1,h2,h3,h4⟩
 .exact .inl h
 .exact .inr ⟨s,h1,h2,h3,Qk _⟩
theorem CW.gen {c:Code}{fr:Fr}{Y:qd}{Q:Ex->Fr->qd->Prop}(h:∀f2 Y2,f2=fr->Y2=Y->CW E c f2 Y2 Q):CW E c fr Y Q:=h _ _ rfl rfl
theorem YR.mono {l:Nat}{args:List V}{Y:qd}{Q Q':Bool->qd->Prop}{D:V->qd->Prop}(h:YR E l args Y Q D)(hq:∀b Y',Q b Y'->Q' b Y'):YR E l args Y Q' D:=by
 rcases h with ⟨N,b,Y',h1,h2,h3⟩|h
 .exact .inl ⟨N,b,Y',h1,h2,hq _ _ h3⟩
 .exact .inr h
theorem aqx {d l N:Nat}{t:List (List Q6)}{J:Nat->qd->Prop}{D:V->qd->Prop}(htl:t.length<2^20)(hne:∀c∈t,0<c.length)(hN:N=Rv t)(hsm:N<=4096)(hlen:∀c∈t,c.length<=4096)(hJ:∀k Y Y',J k Y->Shift d Y Y'->J k Y')(hR:∀k Y c,k<N->J k Y->Uw 0 Y c (R5 k N t).length->YR E l [.tX c ((R5 k N t).map Attr.v)] Y (fun b Y'=>b=true/\J (k+1) Y') D):∀(j k:Nat)(fr:Fr)(Y:qd),k+j=N->CbF (d+1) l t N k fr->J k Y->
 YW E ((TG Tryz.f106.body [1,1,0]).getD .skip) fr Y (fun e fr' Y'=>e= .exit 0/\J N Y') D:=by
 have hP:E.P=Tryz.prog:=rfl;have hN':Is N (Rv t):=hN;clear hN;intro j;induction j with
 |zero=>
  intro k fr Y hk ⟨h1,h2,h3,h4,h5,h6,h8⟩ hj;have e:decide (((k:Nat):Int)< ((N:Nat):Int))=false:=by simp;omega
  refine YW.loop (YW.seq (YW.of (CW.region ?_) (by rfl)));refine OW.o1 (v:=.bool false) (by rfl) (fun S=>by simp only[go_sem,Nat.reduceBEq,Nat.reduceAdd,h5,h6,e];with_reducible exact Is.rfl) ?_;refine OW.nil ?_;refine YW.seq (YW.of (CW.aaL (by simp only[go_sem,Nat.reduceBEq];exact Is.rfl) (CW.exit ?_)) (by rfl));refine⟨rfl,?_⟩;have:k=N:=by omega
  subst this;exact hJ _ _ _ hj (XR Shift.refl)
 |succ j ih=>
  intro k fr Y hk ⟨h1,h2,h3,h4,h5,h6,h8⟩ hj;have e:decide (((k:Nat):Int)< ((N:Nat):Int))=true:=by simp;omega
  have hw:IntKind.wrap .i64 ((k:Int)+(1:Int))=((k+1:Nat):Int):=by rw[IntKind.wrap_i64];omega
  refine YW.loop (YW.seq (YW.of (CW.region ?_) (by rfl)));refine OW.o1 (v:=.bool true) (by rfl) (fun S=>by simp only[go_sem,Nat.reduceBEq,Nat.reduceAdd,h5,h6,e];with_reducible exact Is.rfl) ?_;refine OW.nil ?_;refine YW.seq (YW.of (CW.aaK (by simp only[go_sem,Nat.reduceBEq];exact Is.rfl) (CW.skip ?_)) (by rfl));have c1:CbF (d+1) l t N k (fr.set 15 (.bool true)):=⟨h1,h2,(Sv _ (by decide)).trans h3,(Sv _ (by decide)).trans h4,(Sv _ (by decide)).trans h5,(Sv _ (by decide)).trans h6,(Sv _ (by decide)).trans h8⟩;have j1:J k (Y.bump 1):=hJ _ _ _ hj (XR Shift.refl);show YW E _ (fr.set 15 (.bool true)) (Y.bump 1) _ _;generalize fr.set 15 (.bool true)=f1 at c1⊢;generalize Y.bump 1=Y1 at j1⊢;clear hj h1 h2 h3 h4 h5 h6 h8;obtain⟨h1,h2,h3,h4,h5,h6,h8⟩:=c1;refine YW.seq (YW.block (YW.seq (YW.of (CW.region ?_) (by rfl))));refine OW.o1 (by rfl) (fun S=>by simp only[go_sem,Nat.reduceBEq,Nat.reduceAdd, *];with_reducible exact Is.rfl) ?_;refine OW.o1 (by rfl) (fun S=>by simp only[go_sem,Nat.reduceBEq,Nat.reduceAdd, *];with_reducible exact Is.rfl) ?_;refine OW.nil (YW.seq (YW.of (CW.region ?_) (by rfl)));refine OW.o1 (v:=.tX .nil []) (by rfl) (fun S=>by simp only[go_sem,Nat.reduceBEq,Nat.reduceAdd, *];exact Is.rfl) ?_;refine OW.nil (YW.seq (YW.of (CW.region ?_) (by rfl)));refine OW.o1 (by rfl) (fun S=>by simp only[go_sem,Nat.reduceBEq,Nat.reduceAdd, *];with_reducible exact Is.rfl) ?_;refine OW.o1 (by rfl) (fun S=>by simp only[go_sem,Nat.reduceBEq,Nat.reduceAdd, *];with_reducible exact Is.rfl) ?_;refine OW.o1 (by rfl) (fun S=>by simp only[go_sem,Nat.reduceBEq,Nat.reduceAdd, *];with_reducible exact Is.rfl) ?_;refine OW.o1 (by rfl) (fun S=>by simp only[go_sem,Nat.reduceBEq,Nat.reduceAdd, *];with_reducible exact Is.rfl) ?_;refine OW.nil (YW.seq (YW.of (CW.seq (CW.region ?_)) (by rfl)));refine OW.o1 (v:=Sc t) (by rfl) (fun S=>by simp only[go_sem,Nat.reduceBEq,Nat.reduceAdd, *];exact Is.rfl) ?_;refine OW.o1 (v:=.int .i64 (t.length:Nat)) (by rfl) (fun S=>by simp only[go_sem,Nat.reduceBEq,Nat.reduceAdd, *];exact Is.rfl) ?_;refine OW.o1 (by rfl) (fun S=>by simp only[go_sem,Nat.reduceBEq,Nat.reduceAdd, *];with_reducible exact Is.rfl) ?_;refine OW.nil (SE.n (CW.block ?_));refine CW.gen fun f2 Y2 e1 e2=>?_;have c2:CbI (d+1) l t N k f2 0 .nil [] k N:=by rw[e1];exact⟨⟨by simp only[X0,h1],by simp only[ald,h2],by simp only[go_sem,Nat.reduceBEq,h3,h4,h5,h6,h8],by simp only[go_sem,Nat.reduceBEq,h3,h4,h5,h6,h8],by simp only[go_sem,Nat.reduceBEq,h3,h4,h5,h6,h8],by simp only[go_sem,Nat.reduceBEq,h3,h4,h5,h6,h8],by simp only[go_sem,Nat.reduceBEq,h3,h4,h5,h6,h8]⟩,by simp only[go_sem,Nat.reduceBEq,h3,h4,h5,h6,h8],by simp only[go_sem,Nat.reduceBEq,h3,h4,h5,h6,h8],(by simp only[go_sem,Nat.reduceBEq]<;>rfl),(by simp only[go_sem,Nat.reduceBEq]<;>rfl),by simp only[go_sem,Nat.reduceBEq,h3,h4,h5,h6,h8],by simp only[go_sem,Nat.reduceBEq,h3,h4,h5,h6,h8]⟩
  have j2:J k Y2:=by rw[e2];exact hJ _ _ _ j1 (XR (XR (XR (XR Shift.refl))))
  clear e1 e2 j1 h1 h2 h3 h4 h5 h6 h8;refine(aqv (d:=d) (Y0:=Y2) htl hne (show Rv t<=4096 from (show N=Rv t from hN')▸hsm) hlen (mF _) rfl t.length 0 f2 Y2 .nil [] k N (by omega) c2 ((show N=Rv t from hN').trans rfl) hsm (by omega) (mF _) Shift.refl (.inl ⟨rfl,rfl⟩)).mono ?_;rintro _ f3 Y3 ⟨rfl,⟨h1,h2,h3,h4,h5,h6,h8⟩,hsh,c',h7,how⟩;simp only[List.nil_append,Qz] at h7 how;have j3:J k Y3:=hJ _ _ _ j2 hsh;refine UN.hit ?_;refine YW.seq (YW.region ?_);show YO E _ _ [0,1,2,3] _ _ _ _;refine YO.one (v:=.fn (.yield l) [] []) (by rfl) (by rfl) (by rfl) (fun S=>by simp only[go_sem,Nat.reduceBEq,h3];rfl) ?_;refine YO.one (v:=.tX c' ((R5 k N t).map Attr.v)) (by rfl) (by rfl) (by rfl) (fun S=>by simp only[go_sem,Nat.reduceBEq,h7];rfl) ?_;have c4:CbF (d+1) l t N k ((f3.set 46 (.fn (.yield l) [] [])).set 47 (.tX c' ((R5 k N t).map Attr.v))):=
   ⟨h1,h2,(Sv _ (by decide)).trans ((Sv _ (by decide)).trans h3),(Sv _ (by decide)).trans ((Sv _ (by decide)).trans h4),(Sv _ (by decide)).trans ((Sv _ (by decide)).trans h5),(Sv _ (by decide)).trans ((Sv _ (by decide)).trans h6),(Sv _ (by decide)).trans ((Sv _ (by decide)).trans h8)⟩
  have e46:((f3.set 46 (.fn (.yield l) [] [])).set 47 (.tX c' ((R5 k N t).map Attr.v))).ev E (.tmp 46)= .fn (.yield l) [] []:=by simp only[go_sem,Nat.reduceBEq]
  have e47:((f3.set 46 (.fn (.yield l) [] [])).set 47 (.tX c' ((R5 k N t).map Attr.v))).ev E (.tmp 47)= .tX c' ((R5 k N t).map Attr.v):=by simp only[go_sem,Nat.reduceBEq]
  show YO E _ _ [2,3] ((f3.set 46 (.fn (.yield l) [] [])).set 47 (.tX c' ((R5 k N t).map Attr.v))) _ _ _;generalize ((f3.set 46 (.fn (.yield l) [] [])).set 47 (.tX c' ((R5 k N t).map Attr.v)))=f4 at c4 e46 e47⊢;refine YO.app (by rfl) (by rfl) rfl rfl (by unfold Vl;rw[e46]) ?_;show YA E _ _ (f4.ev E (.tmp 46)) [f4.ev E (.tmp 47)] _ _;rw[e46,e47];refine YA.round (YR.mono (hR k _ c' (by omega) (hJ _ _ _ j3 (XR Shift.refl)) (how.zero.bump _)) ?_);rintro _ Y5 ⟨rfl,j5⟩;refine YO.one (v:=.bool false) (by rfl) (by rfl) (by rfl) (fun S=>by simp only[go_sem,Nat.reduceBEq];rfl) ?_;refine YO.nil ?_;refine YW.of (CW.aaL (by simp only[go_sem,Nat.reduceBEq];exact Is.rfl) (CW.skip ?_)) (by rfl);obtain⟨h1,h2,h3,h4,h5,h6,h8⟩:=c4;refine YW.of (CW.region ?_) (by rfl);refine OW.o1 (v:=.int .i64 ((k+1:Nat):Int)) (by rfl) (fun S=>by simp only[go_sem,Nat.reduceBEq,h6,hw];exact Is.rfl) ?_;refine OW.o1 (v:=.int .i64 ((k+1:Nat):Int)) (by rfl) (fun S=>by simp only[go_sem,Nat.reduceBEq];exact Is.rfl) ?_;exact OW.nil (ih (k+1) ((((f4.set 48 (.bool true)).set 49 (.bool false)).set 50 (.int .i64 ((k+1:Nat):Int))).set 14 (.int .i64 ((k+1:Nat):Int))) (Y5.bump 2) (by omega) ⟨h1,h2,(Sv _ (by decide)).trans ((Sv _ (by decide)).trans ((Sv _ (by decide)).trans ((Sv _ (by decide)).trans h3))),(Sv _ (by decide)).trans ((Sv _ (by decide)).trans ((Sv _ (by decide)).trans ((Sv _ (by decide)).trans h4))),(Sv _ (by decide)).trans ((Sv _ (by decide)).trans ((Sv _ (by decide)).trans ((Sv _ (by decide)).trans h5))),Vx ..,(Sv _ (by decide)).trans ((Sv _ (by decide)).trans ((Sv _ (by decide)).trans ((Sv _ (by decide)).trans h8)))⟩ (hJ _ _ _ j5 (XR Shift.refl)))
theorem aqy {d l N:Nat}{t:List (List Q6)}{J:Nat->qd->Prop}{D:V->qd->Prop}{Y:qd}(htl:t.length<2^20)(hne:∀c∈t,0<c.length)(hN:N=Rv t)(hsm:N<=4096)(hlen:∀c∈t,c.length<=4096)(hc:Pure E 55 [Sc t] (.int .i64 N))(hcl:∀Y,Rf 20 Y (Sc t)=some (Sc t))(hJ:∀k Y Y',J k Y->Shift d Y Y'->J k Y')(hR:∀k Y c,k<N->J k Y->Uw 0 Y c (R5 k N t).length->YR E l [.tX c ((R5 k N t).map Attr.v)] Y (fun b Y'=>b=true/\J (k+1) Y') D)(h0:J 0 Y):
 YI E 106 [.fn (.yield l) [] [],.Q5 [Sc t] 0] (d+1) Y (fun _ Y'=>J N Y') D:=by
 have hP:E.P=Tryz.prog:=rfl;refine YI.of Tryz.func106 rfl (by kernel_rfl) ?_;refine YW.seq (YW.of (CW.region ?_) (by rfl));refine OW.o1 (v:=Sc t) (by rfl) (fun S=>by simp only[go_sem,Nat.reduceBEq,Nat.reduceAdd, *];exact Is.rfl) ?_;refine OW.aaf (a:=[]) (b:=[]) («az» :=[Sc t]) (v:=.int .i64 N) hc (by exact Is.rfl) ?_ ?_ (by exact Is.rfl) ?_
 .show List.mapM (Rf 20 _) [Fr.tm (Fr.set _ 11 (Sc t)) 11]=_;rw[Vx,PW,hcl];rfl
 .show (_||true)=true;rw[Bool.or_true]
 .refine OW.o1 (v:=.int .i64 N) (by rfl) (fun S=>by simp only[go_sem,Nat.reduceBEq];exact Is.rfl) ?_;refine OW.nil ?_;refine YW.seq (YW.of (CW.region ?_) (by rfl));refine OW.o1 (v:=.int .i64 N) (by rfl) (fun S=>by simp only[go_sem,Nat.reduceBEq];exact Is.rfl) ?_;refine OW.o1 (v:=.int .i64 ((0:Nat):Int)) (by rfl) (fun S=>by simp only[go_sem,Nat.reduceBEq];exact Is.rfl) ?_;refine OW.nil (YW.block ?_);refine(aqx htl hne hN hsm hlen hJ hR N 0 (((((Fr.set {d:=d+1,om:=E.om 106,tm:=fun i=>[V.fn (Fn.yield l) [] [],V.Q5 [Sc t] 0].getD i FN} 11 (Sc t)).set 12 (.int .i64 N)).set 3 (.int .i64 N)).set 13 (.int .i64 N)).set 14 (.int .i64 ((0:Nat):Int))) ((Y.bump 3).bump 2) (by omega) ⟨rfl,rfl,by simp only[go_sem,Nat.reduceBEq]<;>rfl,by simp only[go_sem,Nat.reduceBEq]<;>rfl,by simp only[go_sem,Nat.reduceBEq]<;>rfl,by simp only[go_sem,Nat.reduceBEq]<;>rfl,by simp only[go_sem,Nat.reduceBEq]<;>rfl⟩ (hJ _ _ _ h0 (XR (XR Shift.refl)))).mono ?_ (fun _ _ h=>h);rintro _ f2 Y2 ⟨rfl,h⟩;exact UN.hit ⟨[],rfl,h⟩
theorem alT (t:List (List Q6)):Q9 (Sc t)=true:=Ve Ub (.slice (.slice (.st 7))) t
theorem ag5 (t:List (List Q6))(n:Nat)(Y:qd):Rf (n+1) Y (Sc t)=some (Sc t):=Ux (alT t)
theorem aqz {t:List (List Q6)}{Y:qd}{l:Aq.Loc}{s:Nat}(h:Y.Rs l s=some [Sc t]):Rf 20 Y (.fn (.func 106) [] [.ref l s 0])=some (.fn (.func 106) [] [.Q5 [Sc t] 0]):=by
 have h1:Rf 19 Y (.ref l s 0)=some (.Q5 [Sc t] 0):=by show ((Y.Rs l s).bind fun cs=>(cs.mapM (Rf 18 Y)).map (V.Q5 · 0))=_;rw[h];show ([Sc t].mapM (Rf 18 Y)).map (V.Q5 · 0)=_;rw[PW,ag5];rfl
 show ((([]:List V).mapM (Rf 19 Y)).bind fun a=>([V.ref l s 0].mapM (Rf 19 Y)).map fun b=>V.fn (.func 106) a b)=_;rw[PW,h1];rfl
theorem alU (p:Pred):er (Pred.v p)=Pred.v p:=by cases p;rfl
theorem ag6 (p:Pred):Q9 (Pred.v p)=true:=Ve Ub (.st 0) p
theorem aqA (t:List (List Q6)):er (Sc t)=Sc t:=rfl
theorem aqB (t:List (List Q6)):Pure E 97 [Sc t] (.fn (.func 106) [] [.Q5 [Sc t] 0]):=by
 refine Pure.of' _ Tryz.func97 rfl fun fr Y h1 h2 h3=>?_;have a0:fr.tm 0=Sc t:=h3 0;refine CW.seq (CW.region ?_);refine OW.o1 (v:=.ref (1,1) Y.next 0) (by rfl) (fun S=>by rw[aeA];simp only[go_sem,Nat.reduceBEq,a0,h1];exact Is.rfl) ?_;refine OW.o1 (by rfl) (fun S=>by simp only[go_sem,Nat.reduceBEq];exact Is.rfl) ?_;refine OW.nil (SE.n (CW.seq (CW.region ?_)));refine OW.o1 (v:=.fn (.func 106) [] [.ref (1,1) Y.next 0]) (by rfl) (fun S=>rfl) ?_;refine OW.o1 (v:=.fn (.func 106) [] [.ref (1,1) Y.next 0]) (by rfl) (fun S=>by simp only[go_sem,Nat.reduceBEq];exact Is.rfl) ?_;refine OW.nil (SE.n (CW.ret ?_));refine XF.one (v0:=.fn (.func 106) [] [.ref (1,1) Y.next 0]) (fun i h=>by cases h) ?_ ?_
 .show some (Fr.tm (Fr.set _ 2 _) 2)=_;rw[Vx]
 .exact aqz (by simp only[go_sem])
def adv (d:Nat)(Y Y':qd):Prop:=∀a o,a<d->Y'.obj (a,o)=Y.obj (a,o)
structure SeJ (d l:Nat)(r:Vj)(Y0:qd)(P:Nat->Prop)(k:Nat)(Y:qd):Prop where
 no:∀i,i<k->P i
 lt:l<Y.next
 lp:Y.loops l=some r
 old:adv d Y0 Y
theorem SeJ.sh {d l:Nat}{r:Vj}{Y0:qd}{P:Nat->Prop}{k:Nat}{Y Y':qd}(h:SeJ d l r Y0 P k Y)(s:Shift d Y Y'):SeJ d l r Y0 P k Y':=
 ⟨h.no,PV h.lt s.next,(s.loops l h.lt).trans h.lp,fun a o ha=>(s.obj a o (Nat.le_of_lt ha)).trans (h.old a o ha)⟩
theorem YW.gen {c:Code}{fr:Fr}{Y:qd}{Q:Ex->Fr->qd->Prop}{D:V->qd->Prop}(h:∀f2 Y2,f2=fr->Y2=Y->YW E c f2 Y2 Q D):YW E c fr Y Q D:=h _ _ rfl rfl
theorem YI.mono {f:FuncId}{args:List V}{d:Nat}{Y:qd}{Q Q':V->qd->Prop}{D:V->qd->Prop}(h:YI E f args d Y Q D)(hq:∀v Y',Q v Y'->Q' v Y'):YI E f args d Y Q' D:=by
 rcases h with ⟨N,b,Y',h1,h2,h3⟩|h
 .exact .inl ⟨N,b,Y',h1,h2,hq _ _ h3⟩
 .exact .inr h
theorem aqC {d N:Nat}{t:List (List Q6)}{p:Pred}{hs:List Attr->Bool}{Y:qd}(htl:t.length<2^20)(hne:∀c∈t,0<c.length)(hN:N=Rv t)(hsm:N<=4096)(hlen:∀c∈t,c.length<=4096)(hc:Pure E 55 [Sc t] (.int .i64 N))(hH:∀k,k<N->Pure E 12 [Pred.v p,lv Attr.v (R5 k N t)] (.bool (hs (R5 k N t)))):
 YI E 82 [Sc t,Pred.v p] d Y (fun _ Y'=>(∀k,k<N->hs (R5 k N t)=false)/\adv d Y Y')
  (fun v Y'=>∃k c,k<N/\(∀i,i<k->hs (R5 i N t)=false)/\hs (R5 k N t)=true/\v= .iface 101 (.tX c ((R5 k N t).map Attr.v))/\adv d Y Y'):=by
 have hP:E.P=Tryz.prog:=rfl;refine YI.of Tryz.func82 rfl (by kernel_rfl) ?_;refine YW.seq (YW.of (CW.region ?_) (by rfl));refine OW.o1 (v:=.Q5 p.c 0) (by rfl) (fun S=>by rw[aeA,if_pos (show XC E 24 (some 3)=true from rfl)];show Is (if Q9 (er (Pred.v p))=true/\SK (Pred.v p)=true then some (V.Q5 (er (Pred.v p)).cells 0,_,_) else none) _;rw[alU,if_pos ⟨ag6 p,by cases p;rfl⟩];exact Is.rfl) ?_;refine OW.nil ?_;refine YW.seq (YW.of (CW.region ?_) (by rfl));refine OW.o1 (v:=Sc t) (by rfl) (fun S=>by simp only[go_sem,Nat.reduceBEq];exact Is.rfl) ?_;refine OW.aaf (a:=[]) (b:=[]) («az» :=[Sc t]) (aqB t) (by exact Is.rfl) ?_ ?_ (by exact Is.rfl) ?_
 .show List.mapM (Rf 20 _) [Fr.tm (Fr.set _ 5 (Sc t)) 5]=_;rw[Vx,PW,ag5];rfl
 .show ([Fr.tm (Fr.set _ 5 (Sc t)) 5].all (fun x=>Q9 (er x))||_)=true;rw[Vx,List.all_cons,aqA,alT];rfl
 refine OW.nil ?_;refine YW.gen fun f2 Y2 e1 e2=>?_;have b1:f2.d=d:=by rw[e1];rfl
 have b2:f2.om=false:=by rw[e1];rfl
 have b3:f2.tm 3= .Q5 p.c 0:=by rw[e1];simp only[go_sem,Nat.reduceBEq]
 have b6:f2.tm 6= .fn (.func 106) [] [.Q5 [Sc t] 0]:=by rw[e1];simp only[go_sem,Nat.reduceBEq]
 have b7:adv d Y Y2:=by rw[e2];exact fun _ _ _=>rfl
 clear e1 e2;refine YW.block (YW.range (g:=106) (a:=[]) (b:=[.Q5 [Sc t] 0]) b6 rfl ?_);have hlx:TF Tryz.prog 24 p.c 0=some (Pred.v p):=by cases p;kernel_rfl
 show YI E 106 [.fn (.yield Y2.next) [] [],.Q5 [Sc t] 0] (f2.d+1) _ _ _;rw[b1];refine YI.mono (aqy (d:=d) (l:=Y2.next) (N:=N) (t:=t) (J:=SeJ d Y2.next _ Y fun i=>hs (R5 i N t)=false) htl hne hN hsm hlen hc (fun Y=>ag5 t 19 Y) (fun k Y Y' h s=>h.sh s) ?_ ⟨fun i hi=>absurd hi (PS i),Nat.lt_succ_self _,by unfold qd.enter;exact upd_same ..,b7⟩) ?_
 .intro k Y3 c hk hj how;refine YR.of hj.lp rfl rfl ?_;show CW E _ (f2.set 7 (.tX c ((R5 k N t).map Attr.v))) Y3 _;refine CW.region ?_;refine OW.o1 (v:=.tX c ((R5 k N t).map Attr.v)) (by rfl) (fun S=>by simp only[go_sem,Nat.reduceBEq];exact Is.rfl) ?_;refine OW.nil ⟨rfl,_,hj.lp,rfl,?_⟩;refine YW.gen fun f4 Y4 e1 e2=>?_;have c3:f4.tm 3= .Q5 p.c 0:=by rw[e1];exact(Sv _ (by decide)).trans ((Sv _ (by decide)).trans b3)
  have c4:f4.tm 4= .tX c ((R5 k N t).map Attr.v):=by rw[e1];exact Vx ..
  have c5:∀a o,Y4.obj (a,o)=Y3.obj (a,o):=by rw[e2];exact fun _ _=>rfl
  clear e1;refine YW.block (YW.seq (YW.of (CW.region ?_) (by rfl)));refine OW.o1 (v:=Pred.v p) (by rfl) (fun S=>by simp only[go_sem,Nat.reduceBEq,c3,hP,hlx];exact Is.rfl) ?_;refine OW.o1 (v:=.tX c ((R5 k N t).map Attr.v)) (by rfl) (fun S=>by simp only[go_sem,Nat.reduceBEq,c4];exact Is.rfl) ?_;refine OW.aaf (a:=[]) (b:=[]) («az» :=[Pred.v p,lv Attr.v (R5 k N t)]) (hH k hk) (by exact Is.rfl) ?_ ?_ (by exact Is.rfl) ?_
  .show List.mapM (Rf 20 _) [Fr.tm (Fr.set (Fr.set _ 8 (Pred.v p)) 9 _) 8,Fr.tm (Fr.set _ 9 (.tX c ((R5 k N t).map Attr.v))) 9]=_;rw[Vx,Sv _ (by decide),Vx,PW,Ux (ag6 p),PW,Yv (f:=Attr.v) c _ (fun x=>Ve Ub (.st 3) x)];rfl
  .show (_||true)=true;rw[Bool.or_true]
  have e5:=(congrArg (fun s:qd=>s.loops Y2.next) e2).trans (upd_same ..);have e6:Y3.next<=Y4.next:=by rw[e2];exact PN _ _
  clear e2;refine OW.nil ?_;refine YW.cond (t:=hs (R5 k N t)) (Vx ..) (fun ht=>?_) (fun hf=>?_)
  .refine YW.region ?_;show YO E _ _ [0,1,2] _ _ _ _;refine YO.one (v:=.tX c ((R5 k N t).map Attr.v)) (by rfl) (by rfl) (by rfl) (fun S=>by simp only[go_sem,Nat.reduceBEq,c4];rfl) ?_;refine YO.one (Y1:=(Y4.bump 3).bump 3) (v:=.iface 101 (.tX c ((R5 k N t).map Attr.v))) (by rfl) (by rfl) (by rfl) (fun S=>by kernel_rfl) ?_;exact YO.pan (x:=.tmp 12) (by rfl) (by rfl) rfl (Vx ..) ⟨k,c,hk,hj.no,ht,rfl,fun a o ha=>(c5 a o).trans (hj.old a o ha)⟩
  .refine YW.of (CW.skip ?_) (by rfl);refine UN.n ⟨_,e5,rfl,rfl,⟨fun i hi=>?_,PV hj.lt (PD e6 (PN _ _)),upd_same ..,fun a o ha=>(c5 a o).trans (hj.old a o ha)⟩⟩;by_cases h:i<k
   .exact hj.no i h
   .have:i=k:=(by omega);subst this;exact hf
 .rintro v Y3 hj;exact⟨_,hj.lp,Nat.zero_ne_one,[],rfl,hj.no,hj.old⟩
end Sh
end
