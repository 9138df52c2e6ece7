import Derived.Deep.DeepHandedRow
import Derived.DefersIn
import Derived.Lib.LaidTab
import Derived.OpenShut
import Derived.ProofKit
import Derived.Test.YtdcnajadcbedkaaGreatDoorCards
import Derived.Test.YtdcnajadcbedkaaGreatDoorF915
import Derived.Test.YtdcnajadcbedkaaGreatDoorTie
set_option linter.all false
section
namespace Go.Proofs.YtdcnajadcbedkaaGreatDoor.daybook
open Go Go.ChangeShapes Go.WideShapes Go.ChangeAt Go.RowKit aR Sh
set_option maxRecDepth 100000
theorem own:ownKnob Tryz.prog.godebug=none:=av
theorem gTab:Tryz.prog.globalNamed "antiquary/hash.constants" =some 1:=av
theorem gTabType:(Tryz.prog.globals[1]?).map (·.type)=some 257:=av
theorem alk:Tryz.prog.underlying 257=some (.array 64 167):=av
theorem alm:Tryz.prog.underlying 167=some (.int .u32):=av
theorem u4:Tryz.prog.underlying 4=some .bool:=av
theorem aln:Tryz.prog.cellsOf 257=64:=av
theorem alo:Tryz.prog.cellsOf 167=1:=av
def zY:List Int:=xC.l
theorem axr:xD=zY.map fun z=>V.int .u32 z:=av
theorem alp:Tryz.prog.globalNamed "antiquary/antiquaryref02.constants" =some 2:=av
theorem axt:(Tryz.prog.globals[2]?).map (·.type)=some 257:=av
abbrev ZL:List (String×DataW Unit):=[("antiquary/antiquaryref02.constants",Rows.laid_antiquary_antiquaryref02_constants),("antiquary/hash.constants",Rows.laid_antiquary_hash_constants)]
theorem axu {P:Program}{W:World}{x:String×DataW Unit}{rest:List (String×DataW Unit)}(h:laidMet P (x::rest) W):laidMet P rest W:=by obtain⟨ps,⟨g',t',cs,fuel,p,q,hg',ht',hvar,hd,hq,e⟩,hn,hc⟩:=h;subst e;refine⟨q,hq,(List.nodup_append.1 hn).2.1,fun b off hb=>hc b off ?_⟩;exact Cj _ hb
theorem axv {W:World}(h:laidMetH Tryz.prog ZL W):Lib.TabIs Tryz.prog W "antiquary/antiquaryref02.constants" .u32 zY:=
 Lib.tabIs_of_head (rest:=[("antiquary/hash.constants",Rows.laid_antiquary_hash_constants)]) alp axt alk alm alo aln h
theorem table {W:World}(h:laidMetH Tryz.prog ZL W):Lib.TabIs Tryz.prog W "antiquary/hash.constants" .u32 zY:=
 Lib.tabIs_of_head (rest:=[]) gTab gTabType alk alm alo aln (axu (x:=("antiquary/antiquaryref02.constants",Rows.laid_antiquary_antiquaryref02_constants)) (rest:=[("antiquary/hash.constants",Rows.laid_antiquary_hash_constants)]) h)
theorem alq {W:World}{name:String}{k:Nat}(h:Lib.TabIs Tryz.prog W name .u32 zY)(hg:Tryz.prog.globalNamed name=some k):Rel (uG W) (fun _=>0) W (.aY xD 0) (.pointer (some (at_ k 0))):=by
 have hlen:xD.length=64:=rfl;have hc:∀j,j<64->W.cell? (at_ k j)=some (.int .u32 (zY.getD j 0)):=fun j hj=>by have:=h.cell hg j (by exact hj);rw[show (⟨k,j,none⟩:Addr)=at_ k j from rfl] at this;exact this
 refine .aY xD 0 k 0 (fun j=>.int .u32 (zY.getD j 0)) (fun j hj=>?_) (fun j hj=>?_)
 .rw[hlen] at hj;rw[oW];exact⟨hc j hj,_,hc j hj⟩
 .rw[hlen] at hj;have:xD.getD j aP= .int .u32 (zY.getD j 0):=by rw[axr,nD,nD,List.getElem?_map,fA (show j<zY.length from hj)];rfl
  rw[this];exact .int _ _
theorem axw {W:World}(h:laidMetH Tryz.prog ZL W):∀g cs,Sh.E.glob g=some cs->Rel (uG W) (fun _=>0) W (.aY cs 0) (.pointer (some (at_ g 0))):=by
 intro g cs hg;have h':(bif Nat.beq g 1 then some xD else bif Nat.beq g 2 then some xD else none)=some cs:=hg;cases hb:Nat.beq g 1
 .rw[hb] at h';cases hb0:Nat.beq g 2
  .rw[hb0] at h';cases h'
  .rw[hb0] at h';cases h';have:=zo hb0;subst this;exact alq (axv h) alp
 .rw[hb] at h';cases h';have:=zo hb;subst this;exact alq (table h) gTab
theorem axx:(rty.all fun x=>qY R Tryz.prog x.1 x.2)=true:=av
theorem alr {U:Type}:∀{l:List (Nat×U)}{i:Nat}{x:U},_root_.aR.look l i=some x->(i,x)∈l
 | [],_,_,h=>dh| (j,y)::l,i,x,h=>by
   unfold _root_.aR.look at h;cases hb:Nat.beq j i
   .rw[hb] at h;exact kQ _ (alr h)
   .rw[hb] at h;cases h;have:=zo hb;subst this;simp
theorem hty:∀t τ,R.ty t=some τ->qY R Tryz.prog t τ=true:=fun t τ h=>lK.1 axx (t,τ) (alr h)
theorem laidOut:laidOutB Tryz.prog=true:=av
theorem axy:mapsRowed Tryz.prog=true:=av
theorem kids:Kids Tryz.prog (· <Tryz.prog.types.size):=kids_rows laidOut axy
theorem full:((List.range Tryz.prog.types.size).all fun t=>match Tryz.prog.underlying t with|some (.slice e)=>decide (0<Tryz.prog.cellsOf e)|_=>true)=true:=av
theorem axz (H:Type):Bulk H Rows.uptoBulk Rows.uptoBulkAll where
 one d:=by
  cases d with
  |lit l=>cases l<;>simp[Rows.uptoBulk]|_=>simp[Rows.uptoBulk]
 str s:=by simp[Rows.uptoBulk]
 agg l:=by simp[Rows.uptoBulk]
 sl l r:=by simp only[Rows.uptoBulk];omega
 nil:=rfl
 cons d l:=by simp only[Rows.uptoBulkAll]
end Go.Proofs.YtdcnajadcbedkaaGreatDoor.daybook
end
section
namespace aR
open Go
structure FF where
 f:dR
 ex:List Key
def FF.W (f:FF)(k:Key):Prop:=k∈f.f.w\/(f.f.mh=true/\k.state=true/\k∉f.ex)
def JN (a b:FF):Bool:=
 (a.f.mh&& (b.f.qj||b.f.mh||b.f.t.any (fun k=>k.state&& !a.ex.any (·.eq k))||b.f.w.any Key.state))||a.f.w.any fun k=>k.eq .rest||b.f.t.any (·.eq k)||b.f.w.any (·.eq k)||(b.f.qj||b.f.mh)&& k.state
def Dv (ms:List Nat)(fs:List FF):Bool:=
 (List.range fs.length).all fun i=>(List.range i).all fun j=>(ms.getD i 0).testBit j||(!JN (fs.getD i ⟨gJ,[]⟩) (fs.getD j ⟨gJ,[]⟩)&& !JN (fs.getD j ⟨gJ,[]⟩) (fs.getD i ⟨gJ,[]⟩))
theorem FF.RB {f:FF}{k:Key}(h:f.W k):f.f.T k:=by
 rcases h with h| ⟨h,h1,_⟩
 .exact .inr (.inr (.inl h))
 .exact .inr (.inr (.inr ⟨.inr h,h1⟩))
theorem als {f g:FF}(h:JN f g=false)(k:Key):¬(f.W k/\g.f.T k):=by
 rintro⟨hw,ht⟩;simp only[JN,sF,List.any_eq_false] at h;obtain⟨h1,h2⟩:=h;have Xn:k∈f.f.w:=by
  rcases hw with h| ⟨h,hs,hx⟩
  .exact h
  .rw[h,Bool.true_and] at h1;simp only[sF,List.any_eq_false] at h1;obtain⟨⟨⟨a1,a2⟩,a3⟩,a4⟩:=h1;rcases ht with e|e|e| ⟨e,_⟩
   .subst e;cases hs
   .refine absurd ?_ (a3 k e);rw[hs,Bool.true_and,xZ];cases ha:f.ex.any (·.eq k)
    .rfl
    .obtain⟨z,hz,he⟩:=List.any_eq_true.1 ha;rw[Key.eq_iff.1 he] at hz;exact absurd hz hx
   .exact absurd hs (a4 k e)
   .rcases e with e|e
    .rw[a1] at e;cases e
    .rw[a2] at e;cases e
 have h3:=h2 k Xn;simp only[wM,List.any_eq_true,bf,not_or,not_exists,not_and] at h3;obtain⟨⟨⟨h4,h5⟩,h6⟩,h7⟩:=h3;rcases ht with h|h|h| ⟨h,hs⟩
 .exact h4 (Key.eq_iff.2 h)
 .exact h5 k h (Key.eq_iff.2 rfl)
 .exact h6 k h (Key.eq_iff.2 rfl)
 .rcases h with h|h
  .exact h7 (.inl h) hs
  .exact h7 (.inr h) hs
section
variable (E:Env)
def Dw (S:iV)(all:List Oper)(base i:Nat)(x:Fr×ah)(f:FF)(y:Fr×ah):Prop:=
 (∀x',(∀k,f.f.T k->eD k x x')->∃y',jr E S all base i x'.1 x'.2=some y'/\(∀k,f.W k->eD k y y')/\∀k,¬f.W k->eD k x' y')/\(∀k,¬f.W k->eD k x y)
def F8 (S:iV)(all:List Oper)(base:Nat):List Oper->Nat->Fr×ah->List FF->Fr×ah->Prop
 | [],_,x,fs,y=>fs=[]/\y=x|_::os,i,x,fs,y=>∃f fs' z,fs=f::fs'/\jr E S all base i x.1 x.2=some z/\Dw E S all base i x f z/\F8 S all base os (i+1) z fs' y
end
section
variable {E:Env}{S T:iV}
theorem alu (h:jJ S T){all:List Oper}{base i:Nat}{x:Fr×ah}{f:FF}{y:Fr×ah}(hl:Dw E S all base i x f y):Dw E T all base i x f y:=
 ⟨fun x' hx=>let ⟨y',h1,h2⟩:=hl.1 x' hx;⟨y',MP h h1,h2⟩,hl.2⟩
theorem alv (h:jJ S T){all:List Oper}{base:Nat}:∀{os:List Oper}{i:Nat}{x:Fr×ah}{fs:List FF}{y:Fr×ah},F8 E S all base os i x fs y->F8 E T all base os i x fs y
 | [],_,_,_,_,hr=>hr|_::_,_,_,_,_,⟨f,fs',z,h1,h2,h3,h4⟩=>⟨f,fs',z,h1,MP h h2,alu h h3,alv h h4⟩
theorem alx {all:List Oper}{base:Nat}:∀{os:List Oper}{i:Nat}{x:Fr×ah}{fs:List FF}{y:Fr×ah},(∀j,os[j]? =all[i+j]?)->F8 E S all base os i x fs y->∃gs,mQ E S all (base+i) os x.1 x.2=some (gs,y.1,y.2)
 | [],_,x,_,y,_,hr=>by obtain⟨_,rfl⟩:=hr;exact⟨[],rfl⟩
 |o::os,i,x,_,y,hall,⟨f,fs',z,h1,h2,h3,h4⟩=>by
  have h0:all[i]? =some o:=by simpa using (hall 0).symm
  obtain⟨gs,hg⟩:=alx (fun j=>by have:=hall (j+1);simpa [oV,Nat.add_comm 1 j] using this) h4;unfold jr at h2;rw[h0] at h2;simp only[iP] at h2;obtain⟨t,h5,h6⟩:=h2;rw[<-oV] at hg;cases t with
  |true=>simp only[if_true,aZ] at h6;obtain⟨⟨v,bK,aB⟩,h7,rfl⟩:=h6;exact⟨d9 E all x.1 o true::gs,by simp only[mQ,h5,Option.bind_some,if_true,h7,hg,Option.map_some]⟩
  |false=>simp only[dI,if_false,iE] at h6;subst h6;exact⟨d9 E all x.1 o false::gs,by simp only[mQ,h5,Option.bind_some,dI,if_false,hg,Option.map_some]⟩
theorem aly {all:List Oper}{base:Nat}:∀{os:List Oper}{k:Nat}{x:Fr×ah}{fs:List FF}{y:Fr×ah},F8 E S all base os k x fs y->fs.length=os.length/\∃s:Nat->Fr×ah,s k=x/\s (k+os.length)=y/\
 ∀i,k<=i->i<k+os.length->Dw E S all base i (s i) (fs.getD (i-k) ⟨gJ,[]⟩) (s (i+1))
 | [],k,x,fs,y,hr=>by obtain⟨rfl,rfl⟩:=hr;exact⟨rfl,fun _=>y,rfl,rfl,fun i h1 h2=>LM⟩
 |o::os,k,x,_,y,⟨f,fs',z,h1,h2,h3,h4⟩=>by
  subst h1;obtain⟨hlen,s,hs1,hs2,hs3⟩:=aly h4;refine⟨by simp[hlen],fun i=>if i=k then x else s i,aD,?_,fun i g1 g2=>?_⟩
  .have:¬(k+(o::os).length=k):=aD
   simp only[this,if_false];rw[show k+(o::os).length=k+1+os.length by simp;omega];exact hs2
  .by_cases hik:i=k
   .subst hik;have:¬(i+1=i):=RS;simp only[if_true,this,if_false];rw[hs1];simpa using h3
   .have:¬(i+1=k):=RS;simp only[hik,this,if_false];have:=hs3 i RS (by simp at g2;omega);rw[show i-k=(i-(k+1))+1 by omega];simpa using this
theorem axA {ops:List Oper}{base:Nat}{x:Fr×ah}{fs:List FF}{y:Fr×ah}(h:F8 E S ops base ops 0 x fs y)(hp:Dv (nZ ops) fs=true):Free E S (nZ ops) ops base x y:=by
 obtain⟨hlen,s,h0,hn,hs⟩:=aly h;rw[oW] at hn;have hs':∀i,i<ops.length->Dw E S ops base i (s i) (fs.getD i ⟨gJ,[]⟩) (s (i+1)):=fun i hi=>by
  have:=hs i (oZ _) RS
  rwa[Nat.sub_zero] at this
 refine⟨s,fun i=>(fs.getD i ⟨gJ,[]⟩).f.T,fun i=>(fs.getD i ⟨gJ,[]⟩).W,h0,hn,fun i k=>FF.RB,fun i hi=>(hs' i hi).1,fun i hi=>(hs' i hi).2,fun i j hi hj=>?_⟩;simp only[Dv,lK] at hp;have:=hp i dz j Es;simp only[wM] at this;refine this.imp id (fun h=>?_);simp only[bf,xZ] at h;exact⟨als h.1,als h.2⟩
theorem alz {all:List Oper}{base i:Nat}{fr:Fr}{Y:ah}{o:Oper}(ho:all[i]? =some o){wt:Bool}(hwt:fM all fr o=some wt){y:Fr×ah}(hs:jr E S all base i fr Y=some y):Dw E S all base i (fr,Y) ⟨d9 E all fr o wt,[]⟩ y:=by
 have hW:∀k,(⟨d9 E all fr o wt,[]⟩:FF).W k↔(d9 E all fr o wt).W k:=fun k=>by
  unfold FF.W dR.W;constructor
  .rintro (h| ⟨h,h1,_⟩)
   .exact .inl h
   .exact .inr ⟨h,h1⟩
  .rintro (h| ⟨h,h1⟩)
   .exact .inl h
   .exact .inr ⟨h,h1,aD⟩
 refine⟨fun x' hx=>?_,fun k hk=>?_⟩
 .obtain⟨y',h1,h2,h3,_⟩:=Ik (E:=E) (S:=S) (base:=base) ho hwt (bK:=y.1) (aB:=y.2) hs x' hx;exact⟨y',h1,fun k hk=>h2 k ((hW k).1 hk),fun k hk=>h3 k fun h=>hk ((hW k).2 h)⟩
 .obtain⟨_,_,_,_,h4⟩:=Ik (E:=E) (S:=S) (base:=base) ho hwt (bK:=y.1) (aB:=y.2) hs (fr,Y) (fun k _=>.refl k _);exact h4 k fun h=>hk ((hW k).2 h)
theorem axB {all:List Oper}{base i:Nat}{fr:Fr}{Y:ah}{o:Oper}(ho:all[i]? =some o){wt:Bool}(hwt:fM all fr o=some wt){y:Fr×ah}(hs:jr E S all base i fr Y=some y){ex:List Key}(hex:∀k∈ex,eD k (fr,Y) y)(ht:(d9 E all fr o wt).qj=true\/(d9 E all fr o wt).mh=true):Dw E S all base i (fr,Y) ⟨d9 E all fr o wt,ex⟩ y:=by
 have hW:∀k,¬(⟨d9 E all fr o wt,ex⟩:FF).W k->¬(d9 E all fr o wt).W k\/(k∈ex/\k.state=true):=fun k h=>by
  by_cases hx:k∈ex
  .by_cases hst:k.state=true
   .exact .inr ⟨hx,hst⟩
   .left;rintro (h1| ⟨_,h1⟩)
    .exact h (.inl h1)
    .exact hst h1
  .left;rintro (h1| ⟨h1,h2⟩)
   .exact h (.inl h1)
   .exact h (.inr ⟨h1,h2,hx⟩)
 have hW2:∀k,(⟨d9 E all fr o wt,ex⟩:FF).W k->(d9 E all fr o wt).W k:=fun k h=>h.imp id fun h=>⟨h.1,h.2.1⟩;refine⟨fun x' hx=>?_,fun k hk=>?_⟩
 .obtain⟨y',h1,h2,h3,h4⟩:=Ik (E:=E) (S:=S) (base:=base) ho hwt (bK:=y.1) (aB:=y.2) hs x' hx;refine⟨y',h1,fun k hk=>h2 k (hW2 k hk),fun k hk=>?_⟩;rcases hW k hk with h| ⟨h5,h6⟩
  .exact h3 k h
  .by_cases hw:(d9 E all fr o wt).W k
   .have hT:eD k (fr,Y) x':=hx k (.inr (.inr (.inr ⟨ht,h6⟩)));exact(hT.symm.trans (hex k h5)).trans (h2 k hw)
   .exact h3 k hw
 .rcases hW k hk with h| ⟨h5,_⟩
  .obtain⟨_,_,_,_,h4⟩:=Ik (E:=E) (S:=S) (base:=base) ho hwt (bK:=y.1) (aB:=y.2) hs (fr,Y) (fun k _=>.refl k _);exact h4 k h
  .exact hex k h5
end
section
variable (E:Env)
def jc (all:List Oper)(base i:Nat)(os:List Oper)(fr:Fr)(Y:ah)(fs:List FF)(Q:Fr->ah->Prop):Prop:=
 ∃n fs' fr' Y',F8 E (bJ E n) all base os i (fr,Y) fs' (fr',Y')/\Dv (nZ all) (fs++fs')=true/\Q fr' Y'
end
section
variable {E:Env}{fr:Fr}{Y:ah}
theorem aF.Ub {id:Nat}{ops:Array Oper}{Q:Ex->Fr->ah->Prop}(he:ql ops.toList=true)(h:jc E ops.toList Y.next 0 ops.toList fr (Y.bump ops.toList.length) [] (fun fr Y=>Q .normal fr Y)):aF E (.region id ops true) fr Y Q:=by
 obtain⟨n,fs,fr',Y',h1,h2,h3⟩:=h;obtain⟨gs,hg⟩:=alx (fun j=>aD) h1;refine⟨n,.normal,fr',Y',?_,h3⟩;simp only[eu,if_true];rw[Nat.add_zero] at hg;rw[show mQ E (bJ E n) ops.toList Y.next ops.toList fr {Y with next:=Y.next+ops.toList.length}=some (gs,fr',Y') from hg];simp only[Option.bind_some];split
 .rfl
 .unfold LZ;rw[if_pos ⟨he,axA h1 uQ⟩]
theorem jc.nil {all:List Oper}{base i:Nat}{fs:List FF}{Q:Fr->ah->Prop}(hp:Dv (nZ all) fs=true)(h:Q fr Y):jc E all base i [] fr Y fs Q:=⟨0,[],fr,Y,⟨rfl,rfl⟩,by simpa using hp,h⟩
theorem jc.step {all:List Oper}{base i:Nat}{o:Oper}{os:List Oper}{fs:List FF}{Q:Fr->ah->Prop}{f:FF}{y:Fr×ah}{m:Nat}(h1:jr E (bJ E m) all base i fr Y=some y)(h2:Dw E (bJ E m) all base i (fr,Y) f y)(h:jc E all base (i+1) os y.1 y.2 (fs++[f]) Q):jc E all base i (o::os) fr Y fs Q:=by
 obtain⟨n,fs',fr',Y',g1,g2,g3⟩:=h;exact⟨max n m,f::fs',fr',Y',⟨f,fs',y,rfl,MP (jP (qG n m)) h1,alu (jP (qG n m)) h2,alv (jP (sG n m)) g1⟩,by simpa using g2,g3⟩
theorem zZ {S:iV}{all:List Oper}{base i:Nat}{o:Oper}{v:V}{aB:ah}(ho:all[i]? =some o)(hw:fM all fr o=some true)(hop:opC E S fr Y (base+i) o=some (v,fr,aB)):jr E S all base i fr Y=some (fr.put o.dst v,aB):=by unfold jr;rw[ho];simp only[hw,Option.bind_some,if_true,hop,Option.map_some]
theorem jc.op {all:List Oper}{base i:Nat}{o:Oper}{os:List Oper}{v:V}{aB:ah}{fs:List FF}{Q:Fr->ah->Prop}(ho:all[i]? =some o)(hw:fM all fr o=some true)(hop:∀S,opC E S fr Y (base+i) o=some (v,fr,aB))(h:jc E all base (i+1) os (fr.put o.dst v) aB (fs++[⟨d9 E all fr o true,[]⟩]) Q):jc E all base i (o::os) fr Y fs Q:=
 jc.step (m:=0) (zZ ho hw (hop _)) (alz ho hw (zZ ho hw (hop _))) h
theorem jc.call {all:List Oper}{base i:Nat}{o:Oper}{os:List Oper}{v:V}{fs:List FF}{Q:Fr->ah->Prop}{c:Call}{f:Operand}{g:FuncId}{a b dP:List V}(hi:all[i]? =some o)(hw:fM all fr o=some true)(ho:o.op= .call c)(fT:c.callee= .value f)(hf:fr.ev E f= .fn (.func g) a b)(hg:E.imp g=false)(has:(a++c.args.toList.map (fr.ev E)++b).mapM (bA 20 Y)=some dP)(hp:Pure E g dP v)(hc:((a++c.args.toList.map (fr.ev E)++b).all (fun x=>aQ (er x))||flat v)=true)(h:jc E all base (i+1) os (fr.put o.dst v) Y (fs++[⟨d9 E all fr o true,[]⟩]) Q)(eZ:∀d,o.dst=some d->E.own g d=false:=by intros;rfl):jc E all base i (o::os) fr Y fs Q:=by
 obtain⟨m,hm⟩:=hp;have hop:opC E (bJ E m) fr Y (base+i) o=some (v,fr,Y):=by simp only[opC,ho,fT,zF hf eZ,dI,if_false,hf,Xz hg has hm hc,Option.map_some]
 exact jc.step (m:=m) (zZ hi hw hop) (alz hi hw (zZ hi hw hop)) h
theorem jc.AY {all:List Oper}{base i:Nat}{o:Oper}{os:List Oper}{fs:List FF}{Q:Fr->ah->Prop}{c:Call}{f:Operand}{g:FuncId}{a b:List V}(ex:List Key)(hi:all[i]? =some o)(hw:fM all fr o=some true)(ho:o.op= .call c)(fT:c.callee= .value f)(hf:fr.ev E f= .fn (.func g) a b)(hg:E.imp g=true)(hft:(d9 E all fr o true).mh=true)(hp:iW E g (a++c.args.toList.map (fr.ev E)++b) (fr.d+1) Y (fun v aB=>(∀k∈ex,eD k (fr,Y) (fr.put o.dst v,aB))/\jc E all base (i+1) os (fr.put o.dst v) aB (fs++[⟨d9 E all fr o true,ex⟩]) Q))(eZ:∀d,o.dst=some d->E.own g d=false:=by intros;rfl):jc E all base i (o::os) fr Y fs Q:=by
 obtain⟨m,v,aB,hm,hex,h⟩:=hp;have hap:jO E (bJ E m) fr.d Y (.fn (.func g) a b) (c.args.toList.map (fr.ev E))=some (v,aB):=by unfold jO;simp only[hg,if_true];exact hm
 have hop:opC E (bJ E m) fr Y (base+i) o=some (v,fr,aB):=by simp only[opC,ho,fT,zF hf eZ,dI,if_false,hf,hap,Option.map_some]
 exact jc.step (m:=m) (zZ hi hw hop) (axB hi hw (zZ hi hw hop) hex (.inr hft)) h
theorem jc.axC {all:List Oper}{base i:Nat}{o:Oper}{os:List Oper}{fs:List FF}{Q:Fr->ah->Prop}{c:Call}{f:Operand}{g:FuncId}{a b:List V}{v:V}{aB:ah}(F:dR)(hi:all[i]? =some o)(hw:fM all fr o=some true)(ho:o.op= .call c)(fT:c.callee= .value f)(hf:fr.ev E f= .fn (.func g) a b)(hg:E.imp g=true)(m:Nat)(AX:F.mh=false)(vC:F.qj=false)(hT:∀k∈r9 all o,k∈F.t)(hdst:∀k∈nV o,k∈F.w)(hsl:∀t,Key.slot t∈F.w->o.dst=some t)(hrest:Key.rest∉F.w)(hloc:∀Y',(∀k,k∈F.t\/k∈F.w->k.state=true->eD k (fr,Y) (fr,Y'))->∃og,(bJ E m).call g (a++c.args.toList.map (fr.ev E)++b) (fr.d+1) Y'=some (v,og)/\(∀k,k∈F.w->k.state=true->eD k (fr,aB) (fr,og))/\∀k,k∉F.w->k.state=true->eD k (fr,Y') (fr,og))(hself:(bJ E m).call g (a++c.args.toList.map (fr.ev E)++b) (fr.d+1) Y=some (v,aB))(h:jc E all base (i+1) os (fr.put o.dst v) aB (fs++[⟨F,[]⟩]) Q)(eZ:∀d,o.dst=some d->E.own g d=false:=by intros;rfl):jc E all base i (o::os) fr Y fs Q:=by
 have hop:∀{fr':Fr}{Y' og:ah},fr'.d=fr.d->fr'.aj=fr.aj->(∀x∈o.op.operands.toList,fr'.ev E x=fr.ev E x)->(bJ E m).call g (a++c.args.toList.map (fr.ev E)++b) (fr.d+1) Y'=some (v,og)->opC E (bJ E m) fr' Y' (base+i) o=some (v,fr',og):=by
  intro fr' Y' og hd bT hev hm;have hap:jO E (bJ E m) fr.d Y' (.fn (.func g) a b) (c.args.toList.map (fr.ev E))=some (v,og):=by unfold jO;simp only[hg,if_true];exact hm
  rw[ah3 hev hd bT];simp only[opC,ho,fT,zF hf eZ,dI,if_false,hf,hap,Option.map_some]
 have hW:∀k,(⟨F,[]⟩:FF).W k↔k∈F.w:=fun k=>⟨fun h=>h.elim id fun h=>(by rw[AX] at h;cases h.1),fun h=>.inl h⟩;have loc:∀x':Fr×ah,(∀k,F.T k->eD k (fr,Y) x')->∃y',jr E (bJ E m) all base i x'.1 x'.2=some y'/\(∀k,(⟨F,[]⟩:FF).W k->eD k (fr.put o.dst v,aB) y')/\∀k,¬(⟨F,[]⟩:FF).W k->eD k x' y':=by
  rintro⟨fr',Y'⟩ hx;obtain⟨r1,r2⟩:fr.d=fr'.d/\fr.aj=fr'.aj:=hx .rest (.inl rfl);have alA:∀t,Key.slot t∈r9 all o->fr'.tm t=fr.tm t:=fun t ht=>Eq.symm (hx (.slot t) (.inr (.inl (hT _ ht))));obtain⟨og,h1,h2,h3⟩:=hloc Y' fun k hk hs=>by
   have:=hx k (hk.elim (fun h=>.inr (.inl h)) fun h=>.inr (.inr (.inl h)));cases k with
   |slot t=>cases hs|rest=>cases hs|obj l=>exact this|top=>exact this|nx=>exact this
  refine⟨(fr'.put o.dst v,og),?_,fun k hk=>?_,fun k hk=>?_⟩
  .exact zZ (E:=E) hi ((aik alA).trans hw) (hop r1.symm r2.symm (aij alA) h1)
  .rw[hW] at hk;cases k with
   |slot t=>show (fr.put o.dst v).tm t=(fr'.put o.dst v).tm t;rw[zC,zC,if_pos (hsl t hk),if_pos (hsl t hk)]|rest=>exact absurd hk hrest|obj l=>exact h2 _ hk rfl|top=>exact h2 _ hk rfl|nx=>exact h2 _ hk rfl
  .rw[hW] at hk;cases k with
   |slot t=>show fr'.tm t=(fr'.put o.dst v).tm t;rw[zC,if_neg (fun e=>hk (hdst _ (Ij.2 e)))]
   |rest=>exact⟨(Ih _ _ _).symm,(Ii _ _ _).symm⟩|obj l=>exact h3 _ hk rfl|top=>exact h3 _ hk rfl|nx=>exact h3 _ hk rfl
 refine jc.step (m:=m) (f:=⟨F,[]⟩) (y:=(fr.put o.dst v,aB)) (zZ hi hw (hop rfl rfl (fun _ _=>rfl) hself)) ⟨loc,fun k hk=>?_⟩ h;obtain⟨y',h1,h2,h3⟩:=loc (fr,Y) (fun k _=>.refl k _);have e:y'=(fr.put o.dst v,aB):=by have h1':jr E (bJ E m) all base i fr Y=some y':=h1;rw[zZ hi hw (hop rfl rfl (fun _ _=>rfl) hself)] at h1';exact(kP h1').symm
 rw[<-e];exact h3 k hk
end
end aR
end
section
namespace aR
open Go Go.RowKit
section
variable (E:Env)
def NQ (ops:List Oper):Option (Nat×Oper×Call):=match ops.getLast? with
 |some o=>match o.op with
  |.defer c=>some (ops.length-1,o,c)|_=>none
 |none=>none
abbrev vS:=Option (Nat×List V)
def ZM (fr:Fr)(c:Call):vS:=match c.callee with
 |.value f=>match fr.ev E f with
  |.fn (.func g) x y=>some (g,x++c.args.toList.map (fr.ev E)++y)|_=>none
 |_=>none
def qZ (S0:iV)(co:Code->Fr->ah->Option (Ex×Fr×ah)):Code->Fr->ah->Option (Ex×Fr×ah×vS)
 |.seq a b,fr,Y=>match a with
  |.region _ ops false=>match NQ ops.toList with
   |some (k,o,c)=>if o.dst=none/\o.guard=none then (opsL E S0 ops.toList Y.next (List.range k) fr {Y with next:=Y.next+ops.size}).bind fun (fr,Y)=>(ZM E fr c).bind fun q=>(co b fr Y).map fun (e,fr,Y)=>(e,fr,Y,some q)else none
   |none=>(co a fr Y).bind fun (e,fr,Y)=>match e with
    |.normal=>qZ S0 co b fr Y|e=>some (e,fr,Y,none)
  |a=>(co a fr Y).bind fun (e,fr,Y)=>match e with
   |.normal=>qZ S0 co b fr Y|e=>some (e,fr,Y,none)
 |c,fr,Y=>(co c fr Y).map fun (e,fr,Y)=>(e,fr,Y,none)
def JO (g:FuncId):Bool:=match E.P.funcs[g]? with
 |some fn=>match fn.body with
  |some c=>kr c|none=>false
 |none=>false
def F9 (S0 S:iV)(f:FuncId)(args:List V)(d:Nat)(Y:ah):Option (V×ah):=
 (E.P.funcs[f]?).bind fun fn=>fn.body.bind fun c=>
 if args.length<=fn.ntmps/\iI fn.ntmps c/\kr c=true then (qZ E S0 S.code c {d:=d,aj:=E.aj f,tm:=fun i=>args.getD i aP} Y).bind fun (e,fr,Y,q)=>
 match e with
 |.exit _=>none|_=>(match q with
   |none=>some Y|some (g,dP)=>if JO E g=true then (S.call g dP (d+1) Y).map Prod.snd else none).bind fun Y=>(fn.results.toList.mapM (jF E fr Y)).map fun vs=>(match vs with| [v]=>v|vs=>.bW vs,Y)else none
end
section
variable {E:Env}{K K':bB}{w w':World}{Y Y':ah}{B0:Nat}
def Dx (vs:List V):V:=match vs with| [v]=>v|vs=>.bW vs
theorem ZN (h:bH E B0 Y K w){fn:Func}{fr:Fr}{tmps:Array Value}(hf:mR K Y.top w fr tmps){vs:List V}(hvs:fn.results.toList.mapM (jF E fr Y)=some vs):
 ∃c,(results fn tmps).run E.P w= .ok c w/\Rel K Y.top w (Dx vs) c:=by
 obtain⟨cs,k1,k2,k3⟩:=ais h hf fn.results.toList vs hvs;have hrun:(results fn tmps).run E.P w= .ok (if h:cs.toArray.size=1 then cs.toArray[0] else .tuple cs.toArray) w:=by have hres:results fn tmps=(do let vs<-fn.results.mapM (ML tmps);pure (if h:vs.size=1 then vs[0] else .tuple vs)):=rfl;rw[hres,Array.mapM_eq_mapM_toList];simp only[Sem.run_bind,Sem.run_map,k1,Result.andThen_ok,Sem.run_pure]
 refine⟨_,hrun,?_⟩;cases vs with
 |nil=>
  have:cs=[]:=QU
  subst this;exact .bW [] #[] rfl (fun i hi=>absurd hi (gQ i))
 |cons v1 vs=>
  cases cs with
  |nil=>simp at k2|cons c1 cs=>
   cases vs with
   |nil=>have:cs=[]:=QU;subst this;have:=k3 0 aD;show Rel K Y.top w v1 _;simpa using this|cons v2 vs=>have hsz2:¬((c1::cs).toArray.size=1):=(by simp only[List.length_cons,Nat.add_right_cancel_iff] at k2;rw[List.size_toArray,List.length_cons];omega);rw[dif_neg hsz2];refine .bW _ _ (by simpa using k2) (fun i hi=>?_);have:=k3 i hi;simpa [zn,List.getD] using this
theorem alB {f:FuncId}{d:Nat}{fn:Func}{args:List V}{dQ:Array Value}(hs:bH E B0 Y K w)(hB:B0<=w.heap.size)(hA:∀s,K.A s->s<Y.next)(hr:RelA K Y.top w args dQ)(hlen:args.length<=fn.ntmps):
 St E B0 Y K w {d:=d,aj:=E.aj f,tm:=fun i=>args.getD i aP} {tmps:=dQ++Array.replicate (fn.ntmps-dQ.size) undef,defers:=[]} fn.ntmps ⟨[],w.heap.size,true⟩:=by
 have hsz:dQ.size=args.length:=hr.1.symm;refine⟨hs,hB,fun t=>?_,dz,⟨[],rfl,List.nodup_nil,(fun b hb=>by cases hb),fun _=>rfl⟩,hA,iR _⟩;show Rel K Y.top w (args.getD t aP) _;by_cases ht:t<args.length
 .have e1:(dQ++Array.replicate (fn.ntmps-dQ.size) undef).getD t undef=dQ.getD t undef:=by simp only[zn];rw[Array.getElem?_append_left RS]
  rw[e1];exact hr.2 t ht
 .have e1:(dQ++Array.replicate (fn.ntmps-dQ.size) undef).getD t undef=undef:=by simp only[zn];rw[Array.getElem?_append_right RS,Array.getElem?_replicate];split<;>rfl
  have e2:args.getD t aP=aP:=by simp[List.getD,List.getElem?_eq_none (Nat.le_of_not_lt ht)]
  rw[e1,e2];exact .undef _ _ _
theorem axD {n:Nat}(hS:H9 E (bJ E n).code){f:FuncId}{args:List V}{d:Nat}{v:V}(h:qK E (bJ E n) f args d Y=some (v,Y'))(hcalm:JO E f=true):
 ∃fn c,E.P.funcs[f]? =some fn/\fn.body=some c/\Y.next<=Y'.next/\∀B0 K w dQ,bH E B0 Y K w->B0<=w.heap.size->(∀s,K.A s->s<Y.next)->RelA K Y.top w args dQ->
  c.wpIn (oU none) 0 E.P (bodyPost E.P fn (wS E B0 Y K w v Y')) {tmps:=dQ++Array.replicate (fn.ntmps-dQ.size) undef,defers:=[]} w:=by
 simp only[qK,iP] at h;obtain⟨fn,hfn,c,hc,h⟩:=h;have hnr:kr c=true:=by unfold JO at hcalm;simp only[hfn,hc] at hcalm;exact hcalm
 split at h
 .rename_i hok;simp only[iP] at h;obtain⟨⟨e,bK,aB⟩,hcode,h⟩:=h;have hne:e= .normal\/e= .ret:=by
   cases e with
   |normal=>exact .inl rfl|ret=>exact .inr rfl|exit i=>simp at h
  have h':(fn.results.toList.mapM (jF E bK aB)).map (fun vs=>(match vs with| [v]=>v|vs=>.bW vs,aB))=some (v,Y'):=by rcases hne with rfl|rfl<;>exact h
  simp only[aZ,mF] at h';obtain⟨vs,hvs,hv,rfl⟩:=h';obtain⟨hle,hwp⟩:=hS _ _ _ _ _ _ hcode;refine⟨fn,c,hfn,hc,hle,fun B0 K w dQ hs hB hA hr=>?_⟩;refine wpIn_mono (hwp none B0 K w _ fn.ntmps ⟨[],w.heap.size,true⟩ (alB hs hB hA hr hok.1) hok.2 (.inr hnr)) ?_;rintro x a' w' ⟨hx,K',hs',st'⟩;obtain⟨bs,d1,_,_,d4⟩:=hs'.df;have hd:a'.defers=[]:=Q0
  obtain⟨cv,r1,r2⟩:=ZN hs'.ok hs'.fr hvs;have hv':Dx vs=v:=hv;rw[hv'] at r2;have fin:a'.defers=[]/\∃v',(results fn a'.tmps).run E.P w'= .ok v' w'/\wS E B0 Y K w v aB (.returned v') w':=⟨hd,cv,r1,K',r2,hs'.ok,hs'.st,st'⟩;rcases hne with rfl|rfl<;>cases x<;>simp only[nQ] at hx<;>exact fin
 .simp at h
theorem JQ {F:Fence}{n:Nat}{P:Program}{ops:Array Oper}{Q:Exit->Act->World->Prop}{m:List Nat}:∀(l:List Nat)(a:Act)(w:World),
 wpOpsIn F n P ops (fun x a w=>match x with|.normal=>wpOpsIn F n P ops Q m a w|x=>Q x a w) l a w->wpOpsIn F n P ops Q (l++m) a w
 | [],a,w,h=>h|i::l,a,w,h=>by
  rw[List.cons_append];unfold wpOpsIn at h⊢;cases ho:ops[i]? with
  |none=>simp only[ho] at h⊢;exact JQ l a w h|some o=>
   simp only[ho] at h⊢;split
   .rename_i hw;rw[if_pos hw] at h;refine⟨h.1,?_⟩;have h2:=h.2;revert h2;generalize (o.semAt F.round a.eval).run P w=res;intro h2;unfold Oper.uponIn at h2⊢;split at h2<;>try exact JQ l _ _ h2
    all_goals first
     |exact h2
     | (refine⟨h2.1,h2.2.mono ?_⟩
        intro e w' hp;cases e<;>first|exact JQ l _ _ hp|exact hp)
     | (refine⟨h2.1,?_⟩;exact RowsIn.mono h2.2 fun v w' hp=>JQ l _ _ hp)
   .rename_i hw;rw[if_neg hw] at h;exact⟨h.1,JQ l _ _ h.2⟩
def ZO (E:Env)(B0:Nat)(Y:ah)(K:bB)(w:World)(fr:Fr)(a:Act)(n B:Nat):vS->Prop
 |none=>St E B0 Y K w fr a n ⟨[],B,true⟩|some (g,dP)=>∃(dd:Deferred) (cap:Array Value),dd.target= .fn (.func g) cap/\RelA K Y.top w dP (dd.args++cap)/\St E B0 Y K w fr a n ⟨[dd],B,true⟩
theorem RelA.ext {K K':bB}{T T':Nat->Nat}{w w':World}(e:Ext K T w K' T' w'){l:List V}{cl:Array Value}(h:RelA K T w l cl):RelA K' T' w' l cl:=⟨h.1,fun i hi=>(h.2 i hi).ext e⟩
theorem axE {ops:List Oper}{k:Nat}{o:Oper}{c:Call}(h:NQ ops=some (k,o,c)):ops.length=k+1/\ops[k]? =some o/\o.op= .defer c:=by
 unfold NQ at h;split at h
 .rename_i o' ho;split at h
  .rename_i c' hc;simp only[iE,mF] at h;obtain⟨rfl,rfl,rfl⟩:=h;have hne:ops≠[]:=by rintro rfl;simp at ho
   have hp:0<ops.length:=sw.2 hne;refine⟨RS,?_,hc⟩;rw[List.getLast?_eq_getElem?] at ho;exact ho
  .cases h
 .cases h
theorem alC {m:Nat}(hE:o7 E)(hS:Sound E (bJ E m))(hS1:H9 E (bJ E (m+1)).code){n B:Nat}:∀(c:Code)(fr:Fr)(Y:ah)(e:Ex)(fr':Fr)(Y':ah)(q:vS),qZ E (bJ E m) (bJ E (m+1)).code c fr Y=some (e,fr',Y',q)->kr c=true->iI n c=true->
 Y.next<=Y'.next/\∀B0 K w a,St E B0 Y K w fr a n ⟨[],B,true⟩->c.wpIn (oU none) 0 E.P (fun x a' w'=>nQ e x/\∃K',Step E B0 (newer Y Y') Y K w Y' K' w'/\ZO E B0 Y' K' w' fr' a' n B q) a w:=by
 have plain:∀(c:Code)(fr:Fr)(Y:ah)(e:Ex)(fr':Fr)(Y':ah)(q:vS),((bJ E (m+1)).code c fr Y).map (fun (e,fr,Y)=>(e,fr,Y,(none:vS)))=some (e,fr',Y',q)->kr c=true->iI n c=true->
  Y.next<=Y'.next/\∀B0 K w a,St E B0 Y K w fr a n ⟨[],B,true⟩->c.wpIn (oU none) 0 E.P (fun x a' w'=>nQ e x/\∃K',Step E B0 (newer Y Y') Y K w Y' K' w'/\ZO E B0 Y' K' w' fr' a' n B q) a w:=by
  intro c fr Y e fr' Y' q h hnr hok;simp only[aZ,mF] at h;obtain⟨⟨e1,bK,aB⟩,h1,rfl,rfl,rfl,rfl⟩:=h;obtain⟨hle,hwp⟩:=hS1 _ _ _ _ _ _ h1;refine⟨hle,fun B0 K w a hs=>wpIn_mono (hwp none B0 K w a n _ hs hok (.inr hnr)) ?_⟩;rintro x a' w' ⟨hx,K',hs',st⟩;exact⟨hx,K',st,hs'⟩
 intro c;induction c with
 |seq a b iha ihb=>
  clear iha;intro fr Y e fr' Y' q h hnr hok;have NR:kr a=true/\kr b=true:=by simpa [kr] using hnr
  have hok':iI n a=true/\iI n b=true:=by simpa [iI] using hok
  have go:((bJ E (m+1)).code a fr Y).bind (fun (e,fr,Y)=>match e with
   |.normal=>qZ E (bJ E m) (bJ E (m+1)).code b fr Y|e=>some (e,fr,Y,none))=some (e,fr',Y',q)->Y.next<=Y'.next/\∀B0 K w a',St E B0 Y K w fr a' n ⟨[],B,true⟩->(Code.seq a b).wpIn (oU none) 0 E.P (fun x a' w'=>nQ e x/\∃K',Step E B0 (newer Y Y') Y K w Y' K' w'/\ZO E B0 Y' K' w' fr' a' n B q) a' w:=by
   intro h;obtain⟨⟨e1,bK,aB⟩,h1,h2⟩:=iP.1 h;obtain⟨hle,hwp⟩:=hS1 _ _ _ _ _ _ h1;cases e1 with
   |normal=>obtain⟨hle2,ZP⟩:=ihb bK aB e fr' Y' q h2 NR.2 hok'.2;refine⟨eX hle hle2,fun B0 K w a' hs=>wpIn_seq (wpIn_mono (hwp none B0 K w a' n _ hs hok'.1 (.inr NR.1)) ?_)⟩;rintro x a1 w1 ⟨hx,K1,hs1,st1⟩;cases x<;>simp only[nQ] at hx;refine wpIn_mono (ZP B0 K1 w1 a1 hs1) ?_;rintro x a2 w2 ⟨hx2,K2,st2,hq⟩;exact⟨hx2,K2,st1.widen st2 hle hle2,hq⟩
   |exit i=>simp only[iE,mF] at h2;obtain⟨rfl,rfl,rfl,rfl⟩:=h2;refine⟨hle,fun B0 K w a' hs=>wpIn_seq (wpIn_mono (hwp none B0 K w a' n _ hs hok'.1 (.inr NR.1)) ?_)⟩;rintro x a1 w1 ⟨hx,K1,hs1,st1⟩;cases x<;>simp only[nQ] at hx;exact⟨hx,K1,st1,hs1⟩
   |ret=>simp only[iE,mF] at h2;obtain⟨rfl,rfl,rfl,rfl⟩:=h2;refine⟨hle,fun B0 K w a' hs=>wpIn_seq (wpIn_mono (hwp none B0 K w a' n _ hs hok'.1 (.inr NR.1)) ?_)⟩;rintro x a1 w1 ⟨hx,K1,hs1,st1⟩;cases x<;>simp only[nQ] at hx;exact⟨trivial,K1,st1,hs1⟩
  unfold qZ at h;split at h
  .rename_i ops;split at h
   .rename_i k o c hld;obtain⟨hk,hko,hoc⟩:=axE hld;split at h
    .rename_i hdg;obtain⟨hdst,hgd⟩:=hdg;obtain⟨⟨bK,aB⟩,h1,h⟩:=iP.1 h;obtain⟨q1,hq1,h⟩:=iP.1 h;simp only[aZ,mF] at h;obtain⟨⟨e2,jf,dn⟩,h2,rfl,rfl,rfl,rfl⟩:=h;obtain⟨hle2,ZP⟩:=hS1 _ _ _ _ _ _ h2;have hle1:=ME hS _ _ _ _ _ h1;have hsz:ops.size=k+1:=(by rw[<-Array.length_toList];exact hk);refine⟨eX (eX (mg _ _) hle1) hle2,fun B0 K w a' hs=>wpIn_seq (wpIn_region ?_)⟩;rw[hsz,List.range_succ];refine JQ _ _ _ ?_;have hs':St E B0 {Y with next:=Y.next+ops.size} K w fr a' n ⟨[],B,true⟩:=⟨ah0 hs.ok _,hs.hB,hs.fr,hs.sz,hs.df,fun s h=>nC (hs.st s h) (mg _ _),hs.hD⟩;have alD:Hq n ops.toList=true:=hok'.1;refine ah1 hE hS ops Y.next alD none _ (List.range k) fr _ K w a' h1 List.nodup_range (fun i hi=>by have:=List.mem_range.1 hi;omega) hs' (iR _) (fun i hi hA=>by have:=hs.st _ hA;omega) ?_;intro a1 K1 w1 hs1 st1;show wpOpsIn (oU none) 0 E.P ops _ [k] a1 w1;have axF:ops[k]? =some o:=(by simpa using hko);unfold wpOpsIn;simp only[axF];have hw:Region.wanted o (yielded ops a1.tmps)=true:=ahZ hs1.fr ops o (by rw[hs1.sz];exact alD) (by unfold fM;rw[hgd]);rw[if_pos hw];refine⟨fun _ _=>trivial,?_⟩;unfold ZM at hq1;split at hq1
     .rename_i f fT;split at hq1
      .rename_i g xs ys RG;simp only[iE] at hq1;subst hq1;have hrel:=AQ hs1.ok hs1.fr f;rw[RG] at hrel;generalize hcf:a1.eval f=cf at hrel;cases hrel with
       |fn _ _ _ kS bv ha hb Mw Mx=>
       have hargs:=EX hs1.ok hs1.fr c.args;have hex:((o.semAt (oU none).round a1.eval).run E.P w1)= .ok (.defer ⟨.fn (.func g) bv,kS++c.args.map a1.eval⟩) w1:=(by show (execOp a1.eval o).run E.P w1=_;unfold execOp;simp only[hoc];unfold resolve;simp only[fT,hcf,Deferred.ofValue,Sem.run_bind,Sem.run_pure,Result.andThen_ok]);rw[hex,Oper.uponIn_defer,hdst];show wpOpsIn (oU none) 0 E.P ops _ [] _ w1;unfold wpOpsIn;obtain⟨bs,d1,_,_,d4⟩:=hs1.df;have hd0:a1.defers=[]:=Q0;have hst:St E B0 aB K1 w1 bK {a1 with defers:=⟨.fn (.func g) bv,kS++c.args.map a1.eval⟩::a1.defers} n ⟨[⟨.fn (.func g) bv,kS++c.args.map a1.eval⟩],B,true⟩:=
        ⟨hs1.ok,hs1.hB,hs1.fr,hs1.sz,⟨[],by rw[hd0];rfl,List.nodup_nil,(fun b hb=>by cases hb),fun _=>rfl⟩,hs1.st,hs1.hD⟩
       have hw2:=ZP none B0 K1 w1 _ n _ hst hok'.2 (.inr NR.2);refine wpIn_mono hw2 ?_;rintro x a2 w2 ⟨hx2,K2,hs2,st2⟩;have rM:Step E B0 (newer Y dn) Y K w dn K2 w2:=by
        have sa':Step E B0 (newer Y aB) {Y with next:=Y.next+ops.size} K w aB K1 w1:=st1.mono (fun s h=>by
         have h0:Y.next+ops.size<=aB.next:=hle1;rcases h with h|h
         .exact⟨h.1,RS⟩
         .exact⟨eX (mg _ _) h.1,h.2⟩)
        have sa:Step E B0 (newer Y aB) Y K w aB K1 w1:=⟨sa'.ok,sa'.ext,sa'.below,sa'.D,sa'.A,sa'.zy,sa'.zA⟩;exact sa.widen st2 (eX (mg _ _) hle1) hle2
       refine⟨hx2,K2,rM,_,bv,rfl,?_,hs2⟩;exact RelA.ext st2.ext (Ie (Ie ⟨ha,Mw⟩ hargs) ⟨hb,Mx⟩)
      .cases hq1
     .cases hq1
    .cases h
   .exact go h
  .exact go h
 |_=>intro fr Y e fr' Y' q h hnr hok;exact plain _ _ _ _ _ _ _ h hnr hok
theorem axG {m:Nat}(hE:o7 E):EZ E (F9 E (bJ E m) (bJ E (m+1))):=by
 intro f args d Y v Y' h;have hS:=RU hE m;have hS1:=(RU hE (m+1)).code;simp only[F9,iP] at h;obtain⟨fn,hfn,c,hc,h⟩:=h;split at h
 .rename_i hok;obtain⟨hlen,alE,hnr⟩:=hok;simp only[iP] at h;obtain⟨⟨e,bK,aB,q⟩,hcode,h⟩:=h;have hne:e= .normal\/e= .ret:=by
   cases e with
   |normal=>exact .inl rfl|ret=>exact .inr rfl|exit i=>simp at h
  have h':∃dn vs,(match q with
   |none=>some aB|some (g,dP)=>if JO E g=true then ((bJ E (m+1)).call g dP (d+1) aB).map Prod.snd else none)=some dn/\fn.results.toList.mapM (jF E bK dn)=some vs/\Dx vs=v/\dn=Y':=by
   have h1:((match q with
    |none=>some aB|some (g,dP)=>if JO E g=true then ((bJ E (m+1)).call g dP (d+1) aB).map Prod.snd else none).bind fun Y=>(fn.results.toList.mapM (jF E bK Y)).map fun vs=>(Dx vs,Y))=some (v,Y'):=by
    rcases hne with rfl|rfl<;>exact h
   obtain⟨dn,g1,g2⟩:=iP.1 h1;simp only[aZ,mF] at g2;obtain⟨vs,g3,g4,g5⟩:=g2;exact⟨dn,vs,g1,g3,g4,g5⟩
  obtain⟨dn,vs,hq,hvs,hv,rfl⟩:=h';have alF:qZ E (bJ E m) (bJ E (m+1)).code c {d:=d,aj:=E.aj f,tm:=fun i=>args.getD i aP} Y=some (e,bK,aB,q):=hcode;have hle1:=(alC (B:=0) hE hS hS1 c _ _ _ _ _ _ alF hnr alE).1;have hdef:aB.next<=dn.next:=by
   cases q with
   |none=>cases hq;exact iR _|some p=>
    obtain⟨g,dP⟩:=p;dsimp only at hq;split at hq
    .simp only[aZ] at hq;obtain⟨⟨v2,qN⟩,h2,h3⟩:=hq;cases h3;exact((RU hE (m+1)).call _ _ _ _ _ _ h2).1
    .cases hq
  refine⟨eX hle1 hdef,⟨fn,c,hfn,hc⟩,fun ro B0 K w dQ hs hB hA hr=>?_⟩;have hst:=alB (E:=E) (f:=f) (d:=d) (fn:=fn) hs hB hA hr hlen;have hwp:=(alC (B:=w.heap.size) hE hS hS1 c _ _ _ _ _ _ alF hnr alE).2 B0 K w _ hst;have Xw:CallsIn Fence.wide 0 E.P f dQ w (wS E B0 Y K w v dn):=by
   refine callsIn_of_wp_marks hfn hc trivial (wpIn_mono hwp ?_);rintro x a' w' ⟨hx,K',st',alG⟩;have hleave:LeavesInM Fence.wide 0 E.P fn a'.tmps (wS E B0 Y K w v dn) a'.defers .returning w':=by
    cases q with
    |none=>
     cases hq;have hs':St E B0 aB K' w' bK a' fn.ntmps ⟨[],w.heap.size,true⟩:=alG;obtain⟨bs,d1,_,_,d4⟩:=hs'.df;have hd:a'.defers=[]:=Q0;rw[hd];obtain⟨cv,r1,r2⟩:=ZN hs'.ok hs'.fr hvs;rw[hv] at r2;exact⟨cv,r1,K',r2,hs'.ok,hs'.st,st'⟩
    |some p=>
     obtain⟨g,dP⟩:=p;obtain⟨dd,cap,htar,hra,hs'⟩:=alG;obtain⟨bs,d1,_,_,d4⟩:=hs'.df;have hd:a'.defers=[dd]:=Q0;rw[hd];dsimp only at hq;split at hq
     .rename_i hcalm;simp only[aZ] at hq;obtain⟨⟨v2,qN⟩,h2,h3⟩:=hq;cases h3;obtain⟨fg,cg,hfg,hcg,hle2,hwg⟩:=axD hS.code (show qK E (bJ E m) g dP (d+1) aB=some (v2,qN) from h2) hcalm;have hinv:(invoke dd.target dd.args).run E.P w'= .ok (.enter g (dd.args++cap)) w':=(by rw[htar];exact Rw hE ⟨fg,cg,hfg,hcg⟩ _ _);refine⟨aD,.inr ⟨(fun h=>by simp[Fence.wide] at h),.func g,cap,g,dd.args++cap,htar,hinv,(fun _ _=>trivial),?_⟩⟩;refine(callsDIn_of_wp hfg hcg trivial (hwg B0 K' w' (dd.args++cap) hs'.ok hs'.hB hs'.st hra)).mono ?_;rintro e u' w'' ⟨rfl,hp⟩;cases e with
      |returned cv=>obtain⟨K2,r1,Io,hA2,st2⟩:=hp;have hf2:mR K2 qN.top w'' bK a'.tmps:=hs'.fr.ext st2.ext;obtain⟨axH,r3,r4⟩:=ZN Io hf2 hvs;rw[hv] at r4;exact⟨axH,r3,K2,r4,Io,hA2,st'.widen st2 hle1 hle2⟩
      |panicked ch=>exact hp.elim|outgrown=>exact hp.elim
     .cases hq
   rcases hne with rfl|rfl<;>cases x<;>simp only[nQ] at hx<;>exact hleave
  exact Xw
 .simp at h
end
def plainO (o:Oper):Bool:=match o.op with
 |.call c=>match c.callee with
  |.value _=>false|_=>true
 |_=>true
def vT:Code->Bool
 |.skip|.label _|.exit _|.ret=>true|.region _ ops dr=>!dr&& ops.toList.all plainO|.seq a b=>vT a&& vT b|.cond _ a b=>vT a&& vT b|.block _ c=>vT c|.scope c=>vT c|_=>false
section
variable {E:Env}{S T:iV}
theorem axI {fr:Fr}{Y:ah}{st:Nat}{o:Oper}(h:plainO o=true):opC E S fr Y st o=opC E T fr Y st o:=by
 unfold plainO at h;unfold opC;split
 .rename_i c hop;rw[hop] at h;dsimp only at h;split at h
  .cases h
  .rename_i hc;split
   .rfl
   .rename_i f hf;exact absurd hf (hc f)
   .rfl
 all_goals rfl
theorem ZQ {ops:List Oper}{base:Nat}(h:jJ S T):∀{l:List Nat}{fr:Fr}{Y:ah}{r:Fr×ah},opsL E S ops base l fr Y=some r->opsL E T ops base l fr Y=some r
 | [],_,_,_,hr=>hr|i::l,fr,Y,r,hr=>by unfold opsL at hr⊢;obtain⟨⟨bK,aB⟩,h1,h2⟩:=iP.1 hr;rw[MP h h1,Option.bind_some];exact ZQ h h2
theorem ZR {all:List Oper}:∀{ops:List Oper}{st:Nat}{fr:Fr}{Y:ah},ops.all plainO=true->opsE E S all st ops fr Y=opsE E T all st ops fr Y
 | [],_,_,_,_=>rfl|o::os,st,fr,Y,h=>by
  rw[List.all_cons,bf] at h;unfold opsE;rw[axI (S:=S) (T:=T) h.1];congr 1;funext t;split
  .congr 1;funext x;exact ZR h.2
  .exact ZR h.2
theorem axJ:∀(c:Code)(fr:Fr)(Y:ah),vT c=true->eu E S c fr Y=eu E T c fr Y:=by
 intro c;induction c with
 |region id ops dr=>
  intro fr Y h;unfold vT at h;rw[bf] at h;have hd:dr=false:=by simpa using h.1
  subst hd;unfold eu;rw[if_neg aD,if_neg aD,ZR (S:=S) (T:=T) h.2]
 |seq a b iha ihb=>intro fr Y h;unfold vT at h;rw[bf] at h;unfold eu;rw[iha fr Y h.1];congr 1;funext x;obtain⟨e,bK,aB⟩:=x;cases e<;>first|exact ihb bK aB h.2|rfl
 |cond c a b iha ihb=>
  intro fr Y h;unfold vT at h;rw[bf] at h;unfold eu;congr 1;funext t;split
  .exact iha fr Y h.1
  .exact ihb fr Y h.2
 |block id c ih=>intro fr Y h;unfold vT at h;unfold eu;rw[ih fr Y h]|scope c ih=>intro fr Y h;unfold vT at h;unfold eu;exact ih fr Y h|_=>intro fr Y h;first|rfl|cases h
theorem axK {f:FuncId}{fn:Func}{c:Code}{args:List V}{d:Nat}{Y:ah}{r:V×ah}{n:Nat}(hf:E.P.funcs[f]? =some fn)(hb:fn.body=some c)(hp:vT c=true)(h:(bJ E n).call f args d Y=some r):(bJ E 2).call f args d Y=some r:=by
 cases n with
 |zero=>cases h|succ n=>
  have h':qK E (bJ E n) f args d Y=some r:=h;show qK E (bJ E 1) f args d Y=some r;cases n with
  |zero=>
   unfold qK at h';rw[hf,Option.bind_some,hb,Option.bind_some] at h';split at h'
   .cases h'
   .cases h'
  |succ n=>unfold qK at h'⊢;rw[hf,Option.bind_some,hb,Option.bind_some] at h'⊢;have e:(bJ E (n+1)).code c {d:=d,aj:=E.aj f,tm:=fun i=>args.getD i aP} Y=(bJ E 1).code c {d:=d,aj:=E.aj f,tm:=fun i=>args.getD i aP} Y:=axJ c _ _ hp;rw[e] at h';exact h'
theorem alH {co Uc:Code->Fr->ah->Option (Ex×Fr×ah)}(h:jJ S T)(hco:∀c fr Y r,co c fr Y=some r->Uc c fr Y=some r):∀(c:Code)(fr:Fr)(Y:ah)(r:Ex×Fr×ah×vS),qZ E S co c fr Y=some r->qZ E T Uc c fr Y=some r:=by
 intro c;induction c with
 |seq a b iha ihb=>
  clear iha;intro fr Y r hr;have go:(co a fr Y).bind (fun (e,fr,Y)=>match e with
   |.normal=>qZ E S co b fr Y|e=>some (e,fr,Y,none))=some r->(Uc a fr Y).bind (fun (e,fr,Y)=>match e with
   |.normal=>qZ E T Uc b fr Y|e=>some (e,fr,Y,none))=some r:=by
   intro h1;obtain⟨⟨e,bK,aB⟩,h2,h3⟩:=iP.1 h1;rw[hco _ _ _ _ h2,Option.bind_some];cases e with
   |normal=>exact ihb _ _ _ h3|exit i=>exact h3|ret=>exact h3
  unfold qZ at hr⊢;split at hr
  .rename_i ops;split at hr
   .rename_i k o c hld;simp only[hld];split at hr
    .rename_i hc;rw[if_pos hc];obtain⟨⟨bK,aB⟩,h1,h2⟩:=iP.1 hr;rw[ZQ h h1,Option.bind_some];obtain⟨q,h3,h4⟩:=iP.1 h2;rw[h3,Option.bind_some];obtain⟨x,h5,h6⟩:=aZ.1 h4;rw[hco _ _ _ _ h5];exact congrArg some h6
    .cases hr
   .rename_i hld;simp only[hld];exact go hr
  .exact go hr
 |_=>intro fr Y r hr;obtain⟨x,h5,h6⟩:=aZ.1 hr;exact aZ.2 ⟨x,hco _ _ _ _ h5,h6⟩
end
section
variable (E:Env)
def uI (c:Code)(fr:Fr)(Y:ah)(Q:Ex->Fr->ah->vS->Prop):Prop:=
 ∃n e fr' Y' q,qZ E (bJ E n) (bJ E (n+1)).code c fr Y=some (e,fr',Y',q)/\Q e fr' Y' q
def vU (b:Code)(Q:Ex->Fr->ah->vS->Prop)(e:Ex)(fr:Fr)(Y:ah):Prop:=match e with
 |.normal=>uI E b fr Y Q|e=>Q e fr Y none
def ZT (a:Code):Bool:=match a with
 |.region _ ops false=>(NQ ops.toList).isNone|_=>true
end
section
variable {E:Env}{fr:Fr}{Y:ah}
theorem vU.n {b:Code}{Q:Ex->Fr->ah->vS->Prop}(h:uI E b fr Y Q):vU E b Q .normal fr Y:=h
theorem alI {n m:Nat}(h:n<=m)(c:Code)(fr:Fr)(Y:ah)(r:Ex×Fr×ah)(hc:(bJ E (n+1)).code c fr Y=some r):(bJ E (m+1)).code c fr Y=some r:=zD (jP h) c fr Y r hc
theorem ZU {S:iV}{co:Code->Fr->ah->Option (Ex×Fr×ah)}{a b:Code}(ha:ZT a=true):qZ E S co (.seq a b) fr Y=(co a fr Y).bind fun (e,fr,Y)=>match e with
 |.normal=>qZ E S co b fr Y|e=>some (e,fr,Y,none):=by
 conv=>lhs;unfold qZ
 split
 .rename_i ops;unfold ZT at ha;split
  .rename_i k o c hld;simp only[hld] at ha;cases ha
  .rfl
 .rfl
theorem uI.seq {a b:Code}{Q:Ex->Fr->ah->vS->Prop}(h:aF E a fr Y (vU E b Q))(ha:ZT a=true:=by kernel_rfl):uI E (.seq a b) fr Y Q:=by
 obtain⟨n,e,bK,aB,h1,h2⟩:=h;cases e with
 |normal=>obtain⟨m,e,fr',Y',q,h3,h4⟩:=h2;refine⟨max n m,e,fr',Y',q,?_,h4⟩;rw[ZU ha,show (bJ E (max n m+1)).code a fr Y=some (.normal,bK,aB) from zD (jP (sG n m)) _ _ _ _ h1,Option.bind_some];exact alH (jP (qG n m)) (alI (qG n m)) _ _ _ _ h3
 |exit i=>exact⟨n,.exit i,bK,aB,none,by rw[ZU ha,show (bJ E (n+1)).code a fr Y=some (.exit i,bK,aB) from h1];rfl,h2⟩|ret=>exact⟨n,.ret,bK,aB,none,by rw[ZU ha,show (bJ E (n+1)).code a fr Y=some (.ret,bK,aB) from h1];rfl,h2⟩
theorem uI.defer {id:Nat}{ops:Array Oper}{b:Code}{Q:Ex->Fr->ah->vS->Prop}{k:Nat}{o:Oper}{c:Call}(hld:NQ ops.toList=some (k,o,c))(ho:o.dst=none/\o.guard=none){m:Nat}{bK:Fr}{aB:ah}{q:Nat×List V}(h1:opsL E (bJ E m) ops.toList Y.next (List.range k) fr {Y with next:=Y.next+ops.size}=some (bK,aB))(hq:ZM E bK c=some q)(h:aF E b bK aB (fun e fr Y=>Q e fr Y (some q))):uI E (.seq (.region id ops false) b) fr Y Q:=by
 obtain⟨n,e,fr',Y',h2,h3⟩:=h;refine⟨max n m,e,fr',Y',some q,?_,h3⟩;unfold qZ;simp only[hld];rw[if_pos ho,ZQ (jP (qG n m)) h1,Option.bind_some,hq,Option.bind_some,show (bJ E (max n m+1)).code b bK aB=some (e,fr',Y') from zD (jP (sG n m)) _ _ _ _ h2];rfl
theorem axL {f:FuncId}{args:List V}{d:Nat}{fn:Func}{c:Code}{R:V->ah->Prop}(hf:E.P.funcs[f]? =some fn)(hb:fn.body=some c)(hok:(decide (args.length<=fn.ntmps)&& iI fn.ntmps c&& kr c)=true)(h:uI E c {d:=d,aj:=E.aj f,tm:=fun i=>args.getD i aP} Y (fun e bK aB q=>(e= .normal\/e= .ret)/\∃g Ud,q=some (g,Ud)/\JO E g=true/\iW E g Ud (d+1) aB (fun _ dn=>∃vs,fn.results.toList.mapM (jF E bK dn)=some vs/\R (Dx vs) dn))):
 ∃m v Y',F9 E (bJ E m) (bJ E (m+1)) f args d Y=some (v,Y')/\R v Y':=by
 obtain⟨n,e,bK,aB,q,h1,he,g,Ud,rfl,hcalm,n2,v2,dn,h2,vs,h3,h4⟩:=h;have hok':args.length<=fn.ntmps/\iI fn.ntmps c/\kr c=true:=by simp only[bf,decide_eq_true_eq] at hok;exact⟨hok.1.1,hok.1.2,hok.2⟩
 refine⟨max n n2,Dx vs,dn,?_,h4⟩;unfold F9;rw[hf,Option.bind_some,hb,Option.bind_some,if_pos hok',alH (jP (sG n n2)) (alI (sG n n2)) _ _ _ _ h1,Option.bind_some];have h2':(bJ E (max n n2+1)).call g Ud (d+1) aB=some (v2,dn):=(jP (eX (qG n n2) (kR _))).2 _ _ _ _ _ h2;rcases he with rfl|rfl
 .dsimp only;rw[if_pos hcalm,h2',Option.map_some,Option.bind_some,h3];rfl
 .dsimp only;rw[if_pos hcalm,h2',Option.map_some,Option.bind_some,h3];rfl
end
end aR
end
