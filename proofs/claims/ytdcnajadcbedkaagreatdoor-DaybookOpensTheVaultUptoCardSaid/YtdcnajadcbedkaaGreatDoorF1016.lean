import Derived.Deep.DeepHandedRow
import Derived.DefersIn
import Derived.Lib.LaidTab
import Derived.OpenShut
import Derived.ProofKit
import Derived.Test.YtdcnajadcbedkaaGreatDoorCards
import Derived.Test.YtdcnajadcbedkaaGreatDoorF1015
import Derived.Test.YtdcnajadcbedkaaGreatDoorTie
set_option linter.all false
section
namespace Go.Proofs.YtdcnajadcbedkaaGreatDoor.daybook
open Go Go.ChangeShapes Go.WideShapes Go.ChangeAt Go.RowKit aQ Sh
set_option maxRecDepth 100000
theorem own:ownKnob Tryz.prog.godebug=none:=av
theorem gTab:Tryz.prog.globalNamed "antiquary/hash.constants" =some 1:=av
theorem gTabType:(Tryz.prog.globals[1]?).map (·.type)=some 257:=av
theorem akw:Tryz.prog.underlying 257=some (.array 64 167):=av
theorem akx:Tryz.prog.underlying 167=some (.int .u32):=av
theorem u4:Tryz.prog.underlying 4=some .bool:=av
theorem aky:Tryz.prog.cellsOf 257=64:=av
theorem akz:Tryz.prog.cellsOf 167=1:=av
def zR:List Int:=xu.l
theorem awz:xw=zR.map fun z=>V.int .u32 z:=av
theorem akA:Tryz.prog.globalNamed "antiquary/antiquaryref02.constants" =some 2:=av
theorem awC:(Tryz.prog.globals[2]?).map (·.type)=some 257:=av
abbrev Zk:List (String×DataW Unit):=[("antiquary/antiquaryref02.constants",Rows.laid_antiquary_antiquaryref02_constants),("antiquary/hash.constants",Rows.laid_antiquary_hash_constants)]
theorem awD {P:Program}{W:World}{x:String×DataW Unit}{rest:List (String×DataW Unit)}(h:laidMet P (x::rest) W):laidMet P rest W:=by obtain⟨ps,⟨g',t',cs,fuel,p,q,hg',ht',hvar,hd,hq,e⟩,hn,hc⟩:=h;subst e;refine⟨q,hq,(List.nodup_append.1 hn).2.1,fun b off hb=>hc b off ?_⟩;exact BX _ hb
theorem awE {W:World}(h:laidMetH Tryz.prog Zk W):Lib.TabIs Tryz.prog W "antiquary/antiquaryref02.constants" .u32 zR:=
 Lib.tabIs_of_head (rest:=[("antiquary/hash.constants",Rows.laid_antiquary_hash_constants)]) akA awC akw akx akz aky h
theorem table {W:World}(h:laidMetH Tryz.prog Zk W):Lib.TabIs Tryz.prog W "antiquary/hash.constants" .u32 zR:=
 Lib.tabIs_of_head (rest:=[]) gTab gTabType akw akx akz aky (awD (x:=("antiquary/antiquaryref02.constants",Rows.laid_antiquary_antiquaryref02_constants)) (rest:=[("antiquary/hash.constants",Rows.laid_antiquary_hash_constants)]) h)
theorem akB {W:World}{name:String}{k:Nat}(h:Lib.TabIs Tryz.prog W name .u32 zR)(hg:Tryz.prog.globalNamed name=some k):Rel (uN W) (fun _=>0) W (.aW xw 0) (.pointer (some (at_ k 0))):=by
 have hlen:xw.length=64:=rfl;have hc:∀j,j<64->W.cell? (at_ k j)=some (.int .u32 (zR.getD j 0)):=fun j hj=>by have:=h.cell hg j (by exact hj);rw[show (⟨k,j,none⟩:Addr)=at_ k j from rfl] at this;exact this
 refine .aW xw 0 k 0 (fun j=>.int .u32 (zR.getD j 0)) (fun j hj=>?_) (fun j hj=>?_)
 .rw[hlen] at hj;rw[o7];exact⟨hc j hj,_,hc j hj⟩
 .rw[hlen] at hj;have:xw.getD j aP= .int .u32 (zR.getD j 0):=by rw[awz,nE,nE,List.getElem?_map,fI (show j<zR.length from hj)];rfl
  rw[this];exact .int _ _
theorem awF {W:World}(h:laidMetH Tryz.prog Zk W):∀g cs,Sh.E.glob g=some cs->Rel (uN W) (fun _=>0) W (.aW cs 0) (.pointer (some (at_ g 0))):=by
 intro g cs hg;have h':(bif Nat.beq g 1 then some xw else bif Nat.beq g 2 then some xw else none)=some cs:=hg;cases hb:Nat.beq g 1
 .rw[hb] at h';cases hb0:Nat.beq g 2
  .rw[hb0] at h';cases h'
  .rw[hb0] at h';cases h';have:=xZ hb0;subst this;exact akB (awE h) akA
 .rw[hb] at h';cases h';have:=xZ hb;subst this;exact akB (table h) gTab
theorem awG:(rty.all fun x=>rz R Tryz.prog x.1 x.2)=true:=av
theorem akC {U:Type}:∀{l:List (Nat×U)}{i:Nat}{x:U},_root_.aQ.look l i=some x->(i,x)∈l
 | [],_,_,h=>cZ| (j,y)::l,i,x,h=>by
   unfold _root_.aQ.look at h;cases hb:Nat.beq j i
   .rw[hb] at h;exact jT _ (akC h)
   .rw[hb] at h;cases h;have:=xZ hb;subst this;simp
theorem hty:∀t τ,R.ty t=some τ->rz R Tryz.prog t τ=true:=fun t τ h=>lK.1 awG (t,τ) (akC h)
theorem laidOut:laidOutB Tryz.prog=true:=av
theorem awH:mapsRowed Tryz.prog=true:=av
theorem kids:Kids Tryz.prog (· <Tryz.prog.types.size):=kids_rows laidOut awH
theorem full:((List.range Tryz.prog.types.size).all fun t=>match Tryz.prog.underlying t with|some (.slice e)=>decide (0<Tryz.prog.cellsOf e)|_=>true)=true:=av
theorem awI (H:Type):Bulk H Rows.uptoBulk Rows.uptoBulkAll where
 one d:=by
  cases d with
  |lit l=>cases l<;>simp[Rows.uptoBulk]|_=>simp[Rows.uptoBulk]
 str s:=by simp[Rows.uptoBulk]
 agg l:=by simp[Rows.uptoBulk]
 sl l r:=by simp only[Rows.uptoBulk];omega
 nil:=rfl
 cons d l:=by simp only[Rows.uptoBulkAll]
end Go.Proofs.YtdcnajadcbedkaaGreatDoor.daybook
end
section
namespace aQ
open Go
structure FF where
 f:dP
 ex:List Key
def FF.W (f:FF)(k:Key):Prop:=k∈f.f.w\/(f.f.mh=true/\k.state=true/\k∉f.ex)
def Ju (a b:FF):Bool:=
 (a.f.mh&& (b.f.qw||b.f.mh||b.f.t.any (fun k=>k.state&& !a.ex.any (·.eq k))||b.f.w.any Key.state))||a.f.w.any fun k=>k.eq .rest||b.f.t.any (·.eq k)||b.f.w.any (·.eq k)||(b.f.qw||b.f.mh)&& k.state
def Dl (ms:List Nat)(fs:List FF):Bool:=
 (List.range fs.length).all fun i=>(List.range i).all fun j=>(ms.getD i 0).testBit j||(!Ju (fs.getD i ⟨gJ,[]⟩) (fs.getD j ⟨gJ,[]⟩)&& !Ju (fs.getD j ⟨gJ,[]⟩) (fs.getD i ⟨gJ,[]⟩))
theorem FF.Rl {f:FF}{k:Key}(h:f.W k):f.f.T k:=by
 rcases h with h| ⟨h,h1,_⟩
 .exact .inr (.inr (.inl h))
 .exact .inr (.inr (.inr ⟨.inr h,h1⟩))
theorem akD {f g:FF}(h:Ju f g=false)(k:Key):¬(f.W k/\g.f.T k):=by
 rintro⟨hw,ht⟩;simp only[Ju,tY,List.any_eq_false] at h;obtain⟨h1,h2⟩:=h;have WS:k∈f.f.w:=by
  rcases hw with h| ⟨h,hs,hx⟩
  .exact h
  .rw[h,Bool.true_and] at h1;simp only[tY,List.any_eq_false] at h1;obtain⟨⟨⟨a1,a2⟩,a3⟩,a4⟩:=h1;rcases ht with e|e|e| ⟨e,_⟩
   .subst e;cases hs
   .refine absurd ?_ (a3 k e);rw[hs,Bool.true_and,xY];cases ha:f.ex.any (·.eq k)
    .rfl
    .obtain⟨z,hz,he⟩:=List.any_eq_true.1 ha;rw[Key.eq_iff.1 he] at hz;exact absurd hz hx
   .exact absurd hs (a4 k e)
   .rcases e with e|e
    .rw[a1] at e;cases e
    .rw[a2] at e;cases e
 have h3:=h2 k WS;simp only[wI,List.any_eq_true,aZ,not_or,not_exists,not_and] at h3;obtain⟨⟨⟨h4,h5⟩,h6⟩,h7⟩:=h3;rcases ht with h|h|h| ⟨h,hs⟩
 .exact h4 (Key.eq_iff.2 h)
 .exact h5 k h (Key.eq_iff.2 rfl)
 .exact h6 k h (Key.eq_iff.2 rfl)
 .rcases h with h|h
  .exact h7 (.inl h) hs
  .exact h7 (.inr h) hs
section
variable (E:Env)
def Dm (S:iW)(all:List Oper)(base i:Nat)(x:Fr×ah)(f:FF)(y:Fr×ah):Prop:=
 (∀x',(∀k,f.f.T k->eD k x x')->∃y',jk E S all base i x'.1 x'.2=some y'/\(∀k,f.W k->eD k y y')/\∀k,¬f.W k->eD k x' y')/\(∀k,¬f.W k->eD k x y)
def FP (S:iW)(all:List Oper)(base:Nat):List Oper->Nat->Fr×ah->List FF->Fr×ah->Prop
 | [],_,x,fs,y=>fs=[]/\y=x|_::os,i,x,fs,y=>∃f fs' z,fs=f::fs'/\jk E S all base i x.1 x.2=some z/\Dm E S all base i x f z/\FP S all base os (i+1) z fs' y
end
section
variable {E:Env}{S T:iW}
theorem akE (h:jG S T){all:List Oper}{base i:Nat}{x:Fr×ah}{f:FF}{y:Fr×ah}(hl:Dm E S all base i x f y):Dm E T all base i x f y:=
 ⟨fun x' hx=>let ⟨y',h1,h2⟩:=hl.1 x' hx;⟨y',Mr h h1,h2⟩,hl.2⟩
theorem akF (h:jG S T){all:List Oper}{base:Nat}:∀{os:List Oper}{i:Nat}{x:Fr×ah}{fs:List FF}{y:Fr×ah},FP E S all base os i x fs y->FP E T all base os i x fs y
 | [],_,_,_,_,hr=>hr|_::_,_,_,_,_,⟨f,fs',z,h1,h2,h3,h4⟩=>⟨f,fs',z,h1,Mr h h2,akE h h3,akF h h4⟩
theorem akG {all:List Oper}{base:Nat}:∀{os:List Oper}{i:Nat}{x:Fr×ah}{fs:List FF}{y:Fr×ah},(∀j,os[j]? =all[i+j]?)->FP E S all base os i x fs y->∃gs,mR E S all (base+i) os x.1 x.2=some (gs,y.1,y.2)
 | [],_,x,_,y,_,hr=>by obtain⟨_,rfl⟩:=hr;exact⟨[],rfl⟩
 |o::os,i,x,_,y,hall,⟨f,fs',z,h1,h2,h3,h4⟩=>by
  have h0:all[i]? =some o:=by simpa using (hall 0).symm
  obtain⟨gs,hg⟩:=akG (fun j=>by have:=hall (j+1);simpa [oZ,Nat.add_comm 1 j] using this) h4;unfold jk at h2;rw[h0] at h2;simp only[iP] at h2;obtain⟨t,h5,h6⟩:=h2;rw[<-oZ] at hg;cases t with
  |true=>simp only[if_true,aY] at h6;obtain⟨⟨v,bJ,aB⟩,h7,rfl⟩:=h6;exact⟨d9 E all x.1 o true::gs,by simp only[mR,h5,Option.bind_some,if_true,h7,hg,Option.map_some]⟩
  |false=>simp only[dG,if_false,iE] at h6;subst h6;exact⟨d9 E all x.1 o false::gs,by simp only[mR,h5,Option.bind_some,dG,if_false,hg,Option.map_some]⟩
theorem akH {all:List Oper}{base:Nat}:∀{os:List Oper}{k:Nat}{x:Fr×ah}{fs:List FF}{y:Fr×ah},FP E S all base os k x fs y->fs.length=os.length/\∃s:Nat->Fr×ah,s k=x/\s (k+os.length)=y/\
 ∀i,k<=i->i<k+os.length->Dm E S all base i (s i) (fs.getD (i-k) ⟨gJ,[]⟩) (s (i+1))
 | [],k,x,fs,y,hr=>by obtain⟨rfl,rfl⟩:=hr;exact⟨rfl,fun _=>y,rfl,rfl,fun i h1 h2=>Lh⟩
 |o::os,k,x,_,y,⟨f,fs',z,h1,h2,h3,h4⟩=>by
  subst h1;obtain⟨hlen,s,hs1,hs2,hs3⟩:=akH h4;refine⟨by simp[hlen],fun i=>if i=k then x else s i,aD,?_,fun i g1 g2=>?_⟩
  .have:¬(k+(o::os).length=k):=aD
   simp only[this,if_false];rw[show k+(o::os).length=k+1+os.length by simp;omega];exact hs2
  .by_cases hik:i=k
   .subst hik;have:¬(i+1=i):=RS;simp only[if_true,this,if_false];rw[hs1];simpa using h3
   .have:¬(i+1=k):=RS;simp only[hik,this,if_false];have:=hs3 i RS (by simp at g2;omega);rw[show i-k=(i-(k+1))+1 by omega];simpa using this
theorem awJ {ops:List Oper}{base:Nat}{x:Fr×ah}{fs:List FF}{y:Fr×ah}(h:FP E S ops base ops 0 x fs y)(hp:Dl (oo ops) fs=true):Free E S (oo ops) ops base x y:=by
 obtain⟨hlen,s,h0,hn,hs⟩:=akH h;rw[o7] at hn;have hs':∀i,i<ops.length->Dm E S ops base i (s i) (fs.getD i ⟨gJ,[]⟩) (s (i+1)):=fun i hi=>by
  have:=hs i (pR _) RS
  rwa[Nat.sub_zero] at this
 refine⟨s,fun i=>(fs.getD i ⟨gJ,[]⟩).f.T,fun i=>(fs.getD i ⟨gJ,[]⟩).W,h0,hn,fun i k=>FF.Rl,fun i hi=>(hs' i hi).1,fun i hi=>(hs' i hi).2,fun i j hi hj=>?_⟩;simp only[Dl,lK] at hp;have:=hp i dw j Ed;simp only[wI] at this;refine this.imp id (fun h=>?_);simp only[aZ,xY] at h;exact⟨akD h.1,akD h.2⟩
theorem akI {all:List Oper}{base i:Nat}{fr:Fr}{Y:ah}{o:Oper}(ho:all[i]? =some o){wt:Bool}(hwt:fJ all fr o=some wt){y:Fr×ah}(hs:jk E S all base i fr Y=some y):Dm E S all base i (fr,Y) ⟨d9 E all fr o wt,[]⟩ y:=by
 have hW:∀k,(⟨d9 E all fr o wt,[]⟩:FF).W k↔(d9 E all fr o wt).W k:=fun k=>by
  unfold FF.W dP.W;constructor
  .rintro (h| ⟨h,h1,_⟩)
   .exact .inl h
   .exact .inr ⟨h,h1⟩
  .rintro (h| ⟨h,h1⟩)
   .exact .inl h
   .exact .inr ⟨h,h1,aD⟩
 refine⟨fun x' hx=>?_,fun k hk=>?_⟩
 .obtain⟨y',h1,h2,h3,_⟩:=Hy (E:=E) (S:=S) (base:=base) ho hwt (bJ:=y.1) (aB:=y.2) hs x' hx;exact⟨y',h1,fun k hk=>h2 k ((hW k).1 hk),fun k hk=>h3 k fun h=>hk ((hW k).2 h)⟩
 .obtain⟨_,_,_,_,h4⟩:=Hy (E:=E) (S:=S) (base:=base) ho hwt (bJ:=y.1) (aB:=y.2) hs (fr,Y) (fun k _=>.refl k _);exact h4 k fun h=>hk ((hW k).2 h)
theorem awK {all:List Oper}{base i:Nat}{fr:Fr}{Y:ah}{o:Oper}(ho:all[i]? =some o){wt:Bool}(hwt:fJ all fr o=some wt){y:Fr×ah}(hs:jk E S all base i fr Y=some y){ex:List Key}(hex:∀k∈ex,eD k (fr,Y) y)(ht:(d9 E all fr o wt).qw=true\/(d9 E all fr o wt).mh=true):Dm E S all base i (fr,Y) ⟨d9 E all fr o wt,ex⟩ y:=by
 have hW:∀k,¬(⟨d9 E all fr o wt,ex⟩:FF).W k->¬(d9 E all fr o wt).W k\/(k∈ex/\k.state=true):=fun k h=>by
  by_cases hx:k∈ex
  .by_cases hst:k.state=true
   .exact .inr ⟨hx,hst⟩
   .left;rintro (h1| ⟨_,h1⟩)
    .exact h (.inl h1)
    .exact hst h1
  .left;rintro (h1| ⟨h1,h2⟩)
   .exact h (.inl h1)
   .exact h (.inr ⟨h1,h2,hx⟩)
 have hW2:∀k,(⟨d9 E all fr o wt,ex⟩:FF).W k->(d9 E all fr o wt).W k:=fun k h=>h.imp id fun h=>⟨h.1,h.2.1⟩;refine⟨fun x' hx=>?_,fun k hk=>?_⟩
 .obtain⟨y',h1,h2,h3,h4⟩:=Hy (E:=E) (S:=S) (base:=base) ho hwt (bJ:=y.1) (aB:=y.2) hs x' hx;refine⟨y',h1,fun k hk=>h2 k (hW2 k hk),fun k hk=>?_⟩;rcases hW k hk with h| ⟨h5,h6⟩
  .exact h3 k h
  .by_cases hw:(d9 E all fr o wt).W k
   .have hT:eD k (fr,Y) x':=hx k (.inr (.inr (.inr ⟨ht,h6⟩)));exact(hT.symm.trans (hex k h5)).trans (h2 k hw)
   .exact h3 k hw
 .rcases hW k hk with h| ⟨h5,_⟩
  .obtain⟨_,_,_,_,h4⟩:=Hy (E:=E) (S:=S) (base:=base) ho hwt (bJ:=y.1) (aB:=y.2) hs (fr,Y) (fun k _=>.refl k _);exact h4 k h
  .exact hex k h5
end
section
variable (E:Env)
def iY (all:List Oper)(base i:Nat)(os:List Oper)(fr:Fr)(Y:ah)(fs:List FF)(Q:Fr->ah->Prop):Prop:=
 ∃n fs' fr' Y',FP E (bI E n) all base os i (fr,Y) fs' (fr',Y')/\Dl (oo all) (fs++fs')=true/\Q fr' Y'
end
section
variable {E:Env}{fr:Fr}{Y:ah}
theorem aF.TL {id:Nat}{ops:Array Oper}{Q:Ex->Fr->ah->Prop}(he:qx ops.toList=true)(h:iY E ops.toList Y.next 0 ops.toList fr (Y.bump ops.toList.length) [] (fun fr Y=>Q .normal fr Y)):aF E (.region id ops true) fr Y Q:=by
 obtain⟨n,fs,fr',Y',h1,h2,h3⟩:=h;obtain⟨gs,hg⟩:=akG (fun j=>aD) h1;refine⟨n,.normal,fr',Y',?_,h3⟩;simp only[eu,if_true];rw[Nat.add_zero] at hg;rw[show mR E (bI E n) ops.toList Y.next ops.toList fr {Y with next:=Y.next+ops.toList.length}=some (gs,fr',Y') from hg];simp only[Option.bind_some];split
 .rfl
 .unfold Lv;rw[if_pos ⟨he,awJ h1 uV⟩]
theorem iY.nil {all:List Oper}{base i:Nat}{fs:List FF}{Q:Fr->ah->Prop}(hp:Dl (oo all) fs=true)(h:Q fr Y):iY E all base i [] fr Y fs Q:=⟨0,[],fr,Y,⟨rfl,rfl⟩,by simpa using hp,h⟩
theorem iY.step {all:List Oper}{base i:Nat}{o:Oper}{os:List Oper}{fs:List FF}{Q:Fr->ah->Prop}{f:FF}{y:Fr×ah}{m:Nat}(h1:jk E (bI E m) all base i fr Y=some y)(h2:Dm E (bI E m) all base i (fr,Y) f y)(h:iY E all base (i+1) os y.1 y.2 (fs++[f]) Q):iY E all base i (o::os) fr Y fs Q:=by
 obtain⟨n,fs',fr',Y',g1,g2,g3⟩:=h;exact⟨max n m,f::fs',fr',Y',⟨f,fs',y,rfl,Mr (jM (qL n m)) h1,akE (jM (qL n m)) h2,akF (jM (sK n m)) g1⟩,by simpa using g2,g3⟩
theorem zS {S:iW}{all:List Oper}{base i:Nat}{o:Oper}{v:V}{aB:ah}(ho:all[i]? =some o)(hw:fJ all fr o=some true)(hop:opC E S fr Y (base+i) o=some (v,fr,aB)):jk E S all base i fr Y=some (fr.put o.dst v,aB):=by unfold jk;rw[ho];simp only[hw,Option.bind_some,if_true,hop,Option.map_some]
theorem iY.op {all:List Oper}{base i:Nat}{o:Oper}{os:List Oper}{v:V}{aB:ah}{fs:List FF}{Q:Fr->ah->Prop}(ho:all[i]? =some o)(hw:fJ all fr o=some true)(hop:∀S,opC E S fr Y (base+i) o=some (v,fr,aB))(h:iY E all base (i+1) os (fr.put o.dst v) aB (fs++[⟨d9 E all fr o true,[]⟩]) Q):iY E all base i (o::os) fr Y fs Q:=
 iY.step (m:=0) (zS ho hw (hop _)) (akI ho hw (zS ho hw (hop _))) h
theorem iY.call {all:List Oper}{base i:Nat}{o:Oper}{os:List Oper}{v:V}{fs:List FF}{Q:Fr->ah->Prop}{c:Call}{f:Operand}{g:FuncId}{a b dN:List V}(hi:all[i]? =some o)(hw:fJ all fr o=some true)(ho:o.op= .call c)(fV:c.callee= .value f)(hf:fr.ev E f= .fn (.func g) a b)(hg:E.imp g=false)(has:(a++c.args.toList.map (fr.ev E)++b).mapM (bq 20 Y)=some dN)(hp:Pure E g dN v)(hc:((a++c.args.toList.map (fr.ev E)++b).all (fun x=>aR (er x))||flat v)=true)(h:iY E all base (i+1) os (fr.put o.dst v) Y (fs++[⟨d9 E all fr o true,[]⟩]) Q)(eX:∀d,o.dst=some d->E.own g d=false:=by intros;rfl):iY E all base i (o::os) fr Y fs Q:=by
 obtain⟨m,hm⟩:=hp;have hop:opC E (bI E m) fr Y (base+i) o=some (v,fr,Y):=by simp only[opC,ho,fV,zx hf eX,dG,if_false,hf,Xc hg has hm hc,Option.map_some]
 exact iY.step (m:=m) (zS hi hw hop) (akI hi hw (zS hi hw hop)) h
theorem iY.AJ {all:List Oper}{base i:Nat}{o:Oper}{os:List Oper}{fs:List FF}{Q:Fr->ah->Prop}{c:Call}{f:Operand}{g:FuncId}{a b:List V}(ex:List Key)(hi:all[i]? =some o)(hw:fJ all fr o=some true)(ho:o.op= .call c)(fV:c.callee= .value f)(hf:fr.ev E f= .fn (.func g) a b)(hg:E.imp g=true)(hft:(d9 E all fr o true).mh=true)(hp:iX E g (a++c.args.toList.map (fr.ev E)++b) (fr.d+1) Y (fun v aB=>(∀k∈ex,eD k (fr,Y) (fr.put o.dst v,aB))/\iY E all base (i+1) os (fr.put o.dst v) aB (fs++[⟨d9 E all fr o true,ex⟩]) Q))(eX:∀d,o.dst=some d->E.own g d=false:=by intros;rfl):iY E all base i (o::os) fr Y fs Q:=by
 obtain⟨m,v,aB,hm,hex,h⟩:=hp;have hap:jL E (bI E m) fr.d Y (.fn (.func g) a b) (c.args.toList.map (fr.ev E))=some (v,aB):=by unfold jL;simp only[hg,if_true];exact hm
 have hop:opC E (bI E m) fr Y (base+i) o=some (v,fr,aB):=by simp only[opC,ho,fV,zx hf eX,dG,if_false,hf,hap,Option.map_some]
 exact iY.step (m:=m) (zS hi hw hop) (awK hi hw (zS hi hw hop) hex (.inr hft)) h
theorem iY.awL {all:List Oper}{base i:Nat}{o:Oper}{os:List Oper}{fs:List FF}{Q:Fr->ah->Prop}{c:Call}{f:Operand}{g:FuncId}{a b:List V}{v:V}{aB:ah}(F:dP)(hi:all[i]? =some o)(hw:fJ all fr o=some true)(ho:o.op= .call c)(fV:c.callee= .value f)(hf:fr.ev E f= .fn (.func g) a b)(hg:E.imp g=true)(m:Nat)(AB:F.mh=false)(vF:F.qw=false)(hT:∀k∈sG all o,k∈F.t)(hdst:∀k∈nY o,k∈F.w)(hsl:∀t,Key.slot t∈F.w->o.dst=some t)(hrest:Key.rest∉F.w)(hloc:∀Y',(∀k,k∈F.t\/k∈F.w->k.state=true->eD k (fr,Y) (fr,Y'))->∃oq,(bI E m).call g (a++c.args.toList.map (fr.ev E)++b) (fr.d+1) Y'=some (v,oq)/\(∀k,k∈F.w->k.state=true->eD k (fr,aB) (fr,oq))/\∀k,k∉F.w->k.state=true->eD k (fr,Y') (fr,oq))(hself:(bI E m).call g (a++c.args.toList.map (fr.ev E)++b) (fr.d+1) Y=some (v,aB))(h:iY E all base (i+1) os (fr.put o.dst v) aB (fs++[⟨F,[]⟩]) Q)(eX:∀d,o.dst=some d->E.own g d=false:=by intros;rfl):iY E all base i (o::os) fr Y fs Q:=by
 have hop:∀{fr':Fr}{Y' oq:ah},fr'.d=fr.d->fr'.aj=fr.aj->(∀x∈o.op.operands.toList,fr'.ev E x=fr.ev E x)->(bI E m).call g (a++c.args.toList.map (fr.ev E)++b) (fr.d+1) Y'=some (v,oq)->opC E (bI E m) fr' Y' (base+i) o=some (v,fr',oq):=by
  intro fr' Y' oq hd bQ hev hm;have hap:jL E (bI E m) fr.d Y' (.fn (.func g) a b) (c.args.toList.map (fr.ev E))=some (v,oq):=by unfold jL;simp only[hg,if_true];exact hm
  rw[ahe hev hd bQ];simp only[opC,ho,fV,zx hf eX,dG,if_false,hf,hap,Option.map_some]
 have hW:∀k,(⟨F,[]⟩:FF).W k↔k∈F.w:=fun k=>⟨fun h=>h.elim id fun h=>(by rw[AB] at h;cases h.1),fun h=>.inl h⟩;have loc:∀x':Fr×ah,(∀k,F.T k->eD k (fr,Y) x')->∃y',jk E (bI E m) all base i x'.1 x'.2=some y'/\(∀k,(⟨F,[]⟩:FF).W k->eD k (fr.put o.dst v,aB) y')/\∀k,¬(⟨F,[]⟩:FF).W k->eD k x' y':=by
  rintro⟨fr',Y'⟩ hx;obtain⟨r1,r2⟩:fr.d=fr'.d/\fr.aj=fr'.aj:=hx .rest (.inl rfl);have akJ:∀t,Key.slot t∈sG all o->fr'.tm t=fr.tm t:=fun t ht=>Eq.symm (hx (.slot t) (.inr (.inl (hT _ ht))));obtain⟨oq,h1,h2,h3⟩:=hloc Y' fun k hk hs=>by
   have:=hx k (hk.elim (fun h=>.inr (.inl h)) fun h=>.inr (.inr (.inl h)));cases k with
   |slot t=>cases hs|rest=>cases hs|obj l=>exact this|top=>exact this|nx=>exact this
  refine⟨(fr'.put o.dst v,oq),?_,fun k hk=>?_,fun k hk=>?_⟩
  .exact zS (E:=E) hi ((ahs akJ).trans hw) (hop r1.symm r2.symm (ahr akJ) h1)
  .rw[hW] at hk;cases k with
   |slot t=>show (fr.put o.dst v).tm t=(fr'.put o.dst v).tm t;rw[zu,zu,if_pos (hsl t hk),if_pos (hsl t hk)]|rest=>exact absurd hk hrest|obj l=>exact h2 _ hk rfl|top=>exact h2 _ hk rfl|nx=>exact h2 _ hk rfl
  .rw[hW] at hk;cases k with
   |slot t=>show fr'.tm t=(fr'.put o.dst v).tm t;rw[zu,if_neg (fun e=>hk (hdst _ (Hw.2 e)))]
   |rest=>exact⟨(Ht _ _ _).symm,(Hu _ _ _).symm⟩|obj l=>exact h3 _ hk rfl|top=>exact h3 _ hk rfl|nx=>exact h3 _ hk rfl
 refine iY.step (m:=m) (f:=⟨F,[]⟩) (y:=(fr.put o.dst v,aB)) (zS hi hw (hop rfl rfl (fun _ _=>rfl) hself)) ⟨loc,fun k hk=>?_⟩ h;obtain⟨y',h1,h2,h3⟩:=loc (fr,Y) (fun k _=>.refl k _);have e:y'=(fr.put o.dst v,aB):=by have h1':jk E (bI E m) all base i fr Y=some y':=h1;rw[zS hi hw (hop rfl rfl (fun _ _=>rfl) hself)] at h1';exact(kS h1').symm
 rw[<-e];exact h3 k hk
end
end aQ
end
section
namespace aQ
open Go Go.RowKit
section
variable (E:Env)
def Nv (ops:List Oper):Option (Nat×Oper×Call):=match ops.getLast? with
 |some o=>match o.op with
  |.defer c=>some (ops.length-1,o,c)|_=>none
 |none=>none
abbrev vW:=Option (Nat×List V)
def Zl (fr:Fr)(c:Call):vW:=match c.callee with
 |.value f=>match fr.ev E f with
  |.fn (.func g) x y=>some (g,x++c.args.toList.map (fr.ev E)++y)|_=>none
 |_=>none
def rC (S0:iW)(co:Code->Fr->ah->Option (Ex×Fr×ah)):Code->Fr->ah->Option (Ex×Fr×ah×vW)
 |.seq a b,fr,Y=>match a with
  |.region _ ops false=>match Nv ops.toList with
   |some (k,o,c)=>if o.dst=none/\o.guard=none then (opsL E S0 ops.toList Y.next (List.range k) fr {Y with next:=Y.next+ops.size}).bind fun (fr,Y)=>(Zl E fr c).bind fun q=>(co b fr Y).map fun (e,fr,Y)=>(e,fr,Y,some q)else none
   |none=>(co a fr Y).bind fun (e,fr,Y)=>match e with
    |.normal=>rC S0 co b fr Y|e=>some (e,fr,Y,none)
  |a=>(co a fr Y).bind fun (e,fr,Y)=>match e with
   |.normal=>rC S0 co b fr Y|e=>some (e,fr,Y,none)
 |c,fr,Y=>(co c fr Y).map fun (e,fr,Y)=>(e,fr,Y,none)
def Jv (g:FuncId):Bool:=match E.P.funcs[g]? with
 |some fn=>match fn.body with
  |some c=>kr c|none=>false
 |none=>false
def FQ (S0 S:iW)(f:FuncId)(args:List V)(d:Nat)(Y:ah):Option (V×ah):=
 (E.P.funcs[f]?).bind fun fn=>fn.body.bind fun c=>
 if args.length<=fn.ntmps/\iI fn.ntmps c/\kr c=true then (rC E S0 S.code c {d:=d,aj:=E.aj f,tm:=fun i=>args.getD i aP} Y).bind fun (e,fr,Y,q)=>
 match e with
 |.exit _=>none|_=>(match q with
   |none=>some Y|some (g,dN)=>if Jv E g=true then (S.call g dN (d+1) Y).map Prod.snd else none).bind fun Y=>(fn.results.toList.mapM (jC E fr Y)).map fun vs=>(match vs with| [v]=>v|vs=>.bV vs,Y)else none
end
section
variable {E:Env}{K K':bA}{w w':World}{Y Y':ah}{B0:Nat}
def Dn (vs:List V):V:=match vs with| [v]=>v|vs=>.bV vs
theorem Zm (h:bH E B0 Y K w){fn:Func}{fr:Fr}{tmps:Array Value}(hf:mU K Y.top w fr tmps){vs:List V}(hvs:fn.results.toList.mapM (jC E fr Y)=some vs):
 ∃c,(results fn tmps).run E.P w= .ok c w/\Rel K Y.top w (Dn vs) c:=by
 obtain⟨cs,k1,k2,k3⟩:=ahz h hf fn.results.toList vs hvs;have hrun:(results fn tmps).run E.P w= .ok (if h:cs.toArray.size=1 then cs.toArray[0] else .tuple cs.toArray) w:=by have hres:results fn tmps=(do let vs<-fn.results.mapM (Mk tmps);pure (if h:vs.size=1 then vs[0] else .tuple vs)):=rfl;rw[hres,Array.mapM_eq_mapM_toList];simp only[Sem.run_bind,Sem.run_map,k1,Result.andThen_ok,Sem.run_pure]
 refine⟨_,hrun,?_⟩;cases vs with
 |nil=>
  have:cs=[]:=QC
  subst this;exact .bV [] #[] rfl (fun i hi=>absurd hi (gQ i))
 |cons v1 vs=>
  cases cs with
  |nil=>simp at k2|cons c1 cs=>
   cases vs with
   |nil=>have:cs=[]:=QC;subst this;have:=k3 0 aD;show Rel K Y.top w v1 _;simpa using this|cons v2 vs=>have hsz2:¬((c1::cs).toArray.size=1):=(by simp only[List.length_cons,Nat.add_right_cancel_iff] at k2;rw[List.size_toArray,List.length_cons];omega);rw[dif_neg hsz2];refine .bV _ _ (by simpa using k2) (fun i hi=>?_);have:=k3 i hi;simpa [zh,List.getD] using this
theorem akK {f:FuncId}{d:Nat}{fn:Func}{args:List V}{dO:Array Value}(hs:bH E B0 Y K w)(hB:B0<=w.heap.size)(hA:∀s,K.A s->s<Y.next)(hr:RelA K Y.top w args dO)(hlen:args.length<=fn.ntmps):
 St E B0 Y K w {d:=d,aj:=E.aj f,tm:=fun i=>args.getD i aP} {tmps:=dO++Array.replicate (fn.ntmps-dO.size) undef,defers:=[]} fn.ntmps ⟨[],w.heap.size,true⟩:=by
 have hsz:dO.size=args.length:=hr.1.symm;refine⟨hs,hB,fun t=>?_,dw,⟨[],rfl,List.nodup_nil,(fun b hb=>by cases hb),fun _=>rfl⟩,hA,iR _⟩;show Rel K Y.top w (args.getD t aP) _;by_cases ht:t<args.length
 .have e1:(dO++Array.replicate (fn.ntmps-dO.size) undef).getD t undef=dO.getD t undef:=by simp only[zh];rw[Array.getElem?_append_left RS]
  rw[e1];exact hr.2 t ht
 .have e1:(dO++Array.replicate (fn.ntmps-dO.size) undef).getD t undef=undef:=by simp only[zh];rw[Array.getElem?_append_right RS,Array.getElem?_replicate];split<;>rfl
  have e2:args.getD t aP=aP:=by simp[List.getD,List.getElem?_eq_none (Nat.le_of_not_lt ht)]
  rw[e1,e2];exact .undef _ _ _
theorem awM {n:Nat}(hS:Hf E (bI E n).code){f:FuncId}{args:List V}{d:Nat}{v:V}(h:qP E (bI E n) f args d Y=some (v,Y'))(hcalm:Jv E f=true):
 ∃fn c,E.P.funcs[f]? =some fn/\fn.body=some c/\Y.next<=Y'.next/\∀B0 K w dO,bH E B0 Y K w->B0<=w.heap.size->(∀s,K.A s->s<Y.next)->RelA K Y.top w args dO->
  c.wpIn (oW none) 0 E.P (bodyPost E.P fn (wO E B0 Y K w v Y')) {tmps:=dO++Array.replicate (fn.ntmps-dO.size) undef,defers:=[]} w:=by
 simp only[qP,iP] at h;obtain⟨fn,hfn,c,hc,h⟩:=h;have hnr:kr c=true:=by unfold Jv at hcalm;simp only[hfn,hc] at hcalm;exact hcalm
 split at h
 .rename_i hok;simp only[iP] at h;obtain⟨⟨e,bJ,aB⟩,hcode,h⟩:=h;have hne:e= .normal\/e= .ret:=by
   cases e with
   |normal=>exact .inl rfl|ret=>exact .inr rfl|exit i=>simp at h
  have h':(fn.results.toList.mapM (jC E bJ aB)).map (fun vs=>(match vs with| [v]=>v|vs=>.bV vs,aB))=some (v,Y'):=by rcases hne with rfl|rfl<;>exact h
  simp only[aY,mF] at h';obtain⟨vs,hvs,hv,rfl⟩:=h';obtain⟨hle,hwp⟩:=hS _ _ _ _ _ _ hcode;refine⟨fn,c,hfn,hc,hle,fun B0 K w dO hs hB hA hr=>?_⟩;refine wpIn_mono (hwp none B0 K w _ fn.ntmps ⟨[],w.heap.size,true⟩ (akK hs hB hA hr hok.1) hok.2 (.inr hnr)) ?_;rintro x a' w' ⟨hx,K',hs',st'⟩;obtain⟨bs,d1,_,_,d4⟩:=hs'.df;have hd:a'.defers=[]:=QI
  obtain⟨cv,r1,r2⟩:=Zm hs'.ok hs'.fr hvs;have hv':Dn vs=v:=hv;rw[hv'] at r2;have fin:a'.defers=[]/\∃v',(results fn a'.tmps).run E.P w'= .ok v' w'/\wO E B0 Y K w v aB (.returned v') w':=⟨hd,cv,r1,K',r2,hs'.ok,hs'.st,st'⟩;rcases hne with rfl|rfl<;>cases x<;>simp only[nT] at hx<;>exact fin
 .simp at h
theorem Jw {F:Fence}{n:Nat}{P:Program}{ops:Array Oper}{Q:Exit->Act->World->Prop}{m:List Nat}:∀(l:List Nat)(a:Act)(w:World),
 wpOpsIn F n P ops (fun x a w=>match x with|.normal=>wpOpsIn F n P ops Q m a w|x=>Q x a w) l a w->wpOpsIn F n P ops Q (l++m) a w
 | [],a,w,h=>h|i::l,a,w,h=>by
  rw[List.cons_append];unfold wpOpsIn at h⊢;cases ho:ops[i]? with
  |none=>simp only[ho] at h⊢;exact Jw l a w h|some o=>
   simp only[ho] at h⊢;split
   .rename_i hw;rw[if_pos hw] at h;refine⟨h.1,?_⟩;have h2:=h.2;revert h2;generalize (o.semAt F.round a.eval).run P w=res;intro h2;unfold Oper.uponIn at h2⊢;split at h2<;>try exact Jw l _ _ h2
    all_goals first
     |exact h2
     | (refine⟨h2.1,h2.2.mono ?_⟩
        intro e w' hp;cases e<;>first|exact Jw l _ _ hp|exact hp)
     | (refine⟨h2.1,?_⟩;exact RowsIn.mono h2.2 fun v w' hp=>Jw l _ _ hp)
   .rename_i hw;rw[if_neg hw] at h;exact⟨h.1,Jw l _ _ h.2⟩
def Zn (E:Env)(B0:Nat)(Y:ah)(K:bA)(w:World)(fr:Fr)(a:Act)(n B:Nat):vW->Prop
 |none=>St E B0 Y K w fr a n ⟨[],B,true⟩|some (g,dN)=>∃(dd:Deferred) (cap:Array Value),dd.target= .fn (.func g) cap/\RelA K Y.top w dN (dd.args++cap)/\St E B0 Y K w fr a n ⟨[dd],B,true⟩
theorem RelA.ext {K K':bA}{T T':Nat->Nat}{w w':World}(e:Ext K T w K' T' w'){l:List V}{cl:Array Value}(h:RelA K T w l cl):RelA K' T' w' l cl:=⟨h.1,fun i hi=>(h.2 i hi).ext e⟩
theorem awN {ops:List Oper}{k:Nat}{o:Oper}{c:Call}(h:Nv ops=some (k,o,c)):ops.length=k+1/\ops[k]? =some o/\o.op= .defer c:=by
 unfold Nv at h;split at h
 .rename_i o' ho;split at h
  .rename_i c' hc;simp only[iE,mF] at h;obtain⟨rfl,rfl,rfl⟩:=h;have hne:ops≠[]:=by rintro rfl;simp at ho
   have hp:0<ops.length:=uZ.2 hne;refine⟨RS,?_,hc⟩;rw[List.getLast?_eq_getElem?] at ho;exact ho
  .cases h
 .cases h
theorem akL {m:Nat}(hE:o8 E)(hS:Sound E (bI E m))(hS1:Hf E (bI E (m+1)).code){n B:Nat}:∀(c:Code)(fr:Fr)(Y:ah)(e:Ex)(fr':Fr)(Y':ah)(q:vW),rC E (bI E m) (bI E (m+1)).code c fr Y=some (e,fr',Y',q)->kr c=true->iI n c=true->
 Y.next<=Y'.next/\∀B0 K w a,St E B0 Y K w fr a n ⟨[],B,true⟩->c.wpIn (oW none) 0 E.P (fun x a' w'=>nT e x/\∃K',Step E B0 (newer Y Y') Y K w Y' K' w'/\Zn E B0 Y' K' w' fr' a' n B q) a w:=by
 have plain:∀(c:Code)(fr:Fr)(Y:ah)(e:Ex)(fr':Fr)(Y':ah)(q:vW),((bI E (m+1)).code c fr Y).map (fun (e,fr,Y)=>(e,fr,Y,(none:vW)))=some (e,fr',Y',q)->kr c=true->iI n c=true->
  Y.next<=Y'.next/\∀B0 K w a,St E B0 Y K w fr a n ⟨[],B,true⟩->c.wpIn (oW none) 0 E.P (fun x a' w'=>nT e x/\∃K',Step E B0 (newer Y Y') Y K w Y' K' w'/\Zn E B0 Y' K' w' fr' a' n B q) a w:=by
  intro c fr Y e fr' Y' q h hnr hok;simp only[aY,mF] at h;obtain⟨⟨e1,bJ,aB⟩,h1,rfl,rfl,rfl,rfl⟩:=h;obtain⟨hle,hwp⟩:=hS1 _ _ _ _ _ _ h1;refine⟨hle,fun B0 K w a hs=>wpIn_mono (hwp none B0 K w a n _ hs hok (.inr hnr)) ?_⟩;rintro x a' w' ⟨hx,K',hs',st⟩;exact⟨hx,K',st,hs'⟩
 intro c;induction c with
 |seq a b iha ihb=>
  clear iha;intro fr Y e fr' Y' q h hnr hok;have Nw:kr a=true/\kr b=true:=by simpa [kr] using hnr
  have hok':iI n a=true/\iI n b=true:=by simpa [iI] using hok
  have go:((bI E (m+1)).code a fr Y).bind (fun (e,fr,Y)=>match e with
   |.normal=>rC E (bI E m) (bI E (m+1)).code b fr Y|e=>some (e,fr,Y,none))=some (e,fr',Y',q)->Y.next<=Y'.next/\∀B0 K w a',St E B0 Y K w fr a' n ⟨[],B,true⟩->(Code.seq a b).wpIn (oW none) 0 E.P (fun x a' w'=>nT e x/\∃K',Step E B0 (newer Y Y') Y K w Y' K' w'/\Zn E B0 Y' K' w' fr' a' n B q) a' w:=by
   intro h;obtain⟨⟨e1,bJ,aB⟩,h1,h2⟩:=iP.1 h;obtain⟨hle,hwp⟩:=hS1 _ _ _ _ _ _ h1;cases e1 with
   |normal=>obtain⟨hle2,Zo⟩:=ihb bJ aB e fr' Y' q h2 Nw.2 hok'.2;refine⟨eZ hle hle2,fun B0 K w a' hs=>wpIn_seq (wpIn_mono (hwp none B0 K w a' n _ hs hok'.1 (.inr Nw.1)) ?_)⟩;rintro x a1 w1 ⟨hx,K1,hs1,st1⟩;cases x<;>simp only[nT] at hx;refine wpIn_mono (Zo B0 K1 w1 a1 hs1) ?_;rintro x a2 w2 ⟨hx2,K2,st2,hq⟩;exact⟨hx2,K2,st1.widen st2 hle hle2,hq⟩
   |exit i=>simp only[iE,mF] at h2;obtain⟨rfl,rfl,rfl,rfl⟩:=h2;refine⟨hle,fun B0 K w a' hs=>wpIn_seq (wpIn_mono (hwp none B0 K w a' n _ hs hok'.1 (.inr Nw.1)) ?_)⟩;rintro x a1 w1 ⟨hx,K1,hs1,st1⟩;cases x<;>simp only[nT] at hx;exact⟨hx,K1,st1,hs1⟩
   |ret=>simp only[iE,mF] at h2;obtain⟨rfl,rfl,rfl,rfl⟩:=h2;refine⟨hle,fun B0 K w a' hs=>wpIn_seq (wpIn_mono (hwp none B0 K w a' n _ hs hok'.1 (.inr Nw.1)) ?_)⟩;rintro x a1 w1 ⟨hx,K1,hs1,st1⟩;cases x<;>simp only[nT] at hx;exact⟨trivial,K1,st1,hs1⟩
  unfold rC at h;split at h
  .rename_i ops;split at h
   .rename_i k o c hld;obtain⟨hk,hko,hoc⟩:=awN hld;split at h
    .rename_i hdg;obtain⟨hdst,hgd⟩:=hdg;obtain⟨⟨bJ,aB⟩,h1,h⟩:=iP.1 h;obtain⟨q1,hq1,h⟩:=iP.1 h;simp only[aY,mF] at h;obtain⟨⟨e2,jd,cO⟩,h2,rfl,rfl,rfl,rfl⟩:=h;obtain⟨hle2,Zo⟩:=hS1 _ _ _ _ _ _ h2;have hle1:=Md hS _ _ _ _ _ h1;have hsz:ops.size=k+1:=(by rw[<-Array.length_toList];exact hk);refine⟨eZ (eZ (mg _ _) hle1) hle2,fun B0 K w a' hs=>wpIn_seq (wpIn_region ?_)⟩;rw[hsz,List.range_succ];refine Jw _ _ _ ?_;have hs':St E B0 {Y with next:=Y.next+ops.size} K w fr a' n ⟨[],B,true⟩:=⟨ahb hs.ok _,hs.hB,hs.fr,hs.sz,hs.df,fun s h=>nD (hs.st s h) (mg _ _),hs.hD⟩;have akM:GQ n ops.toList=true:=hok'.1;refine ahc hE hS ops Y.next akM none _ (List.range k) fr _ K w a' h1 List.nodup_range (fun i hi=>by have:=List.mem_range.1 hi;omega) hs' (iR _) (fun i hi hA=>by have:=hs.st _ hA;omega) ?_;intro a1 K1 w1 hs1 st1;show wpOpsIn (oW none) 0 E.P ops _ [k] a1 w1;have awO:ops[k]? =some o:=(by simpa using hko);unfold wpOpsIn;simp only[awO];have hw:Region.wanted o (yielded ops a1.tmps)=true:=aha hs1.fr ops o (by rw[hs1.sz];exact akM) (by unfold fJ;rw[hgd]);rw[if_pos hw];refine⟨fun _ _=>trivial,?_⟩;unfold Zl at hq1;split at hq1
     .rename_i f fV;split at hq1
      .rename_i g xs ys Ro;simp only[iE] at hq1;subst hq1;have hrel:=Ay hs1.ok hs1.fr f;rw[Ro] at hrel;generalize hcf:a1.eval f=cf at hrel;cases hrel with
       |fn _ _ _ kV bv ha hb L8 L9=>
       have hargs:=EJ hs1.ok hs1.fr c.args;have hex:((o.semAt (oW none).round a1.eval).run E.P w1)= .ok (.defer ⟨.fn (.func g) bv,kV++c.args.map a1.eval⟩) w1:=(by show (execOp a1.eval o).run E.P w1=_;unfold execOp;simp only[hoc];unfold resolve;simp only[fV,hcf,Deferred.ofValue,Sem.run_bind,Sem.run_pure,Result.andThen_ok]);rw[hex,Oper.uponIn_defer,hdst];show wpOpsIn (oW none) 0 E.P ops _ [] _ w1;unfold wpOpsIn;obtain⟨bs,d1,_,_,d4⟩:=hs1.df;have hd0:a1.defers=[]:=QI;have hst:St E B0 aB K1 w1 bJ {a1 with defers:=⟨.fn (.func g) bv,kV++c.args.map a1.eval⟩::a1.defers} n ⟨[⟨.fn (.func g) bv,kV++c.args.map a1.eval⟩],B,true⟩:=
        ⟨hs1.ok,hs1.hB,hs1.fr,hs1.sz,⟨[],by rw[hd0];rfl,List.nodup_nil,(fun b hb=>by cases hb),fun _=>rfl⟩,hs1.st,hs1.hD⟩
       have hw2:=Zo none B0 K1 w1 _ n _ hst hok'.2 (.inr Nw.2);refine wpIn_mono hw2 ?_;rintro x a2 w2 ⟨hx2,K2,hs2,st2⟩;have rU:Step E B0 (newer Y cO) Y K w cO K2 w2:=by
        have sa':Step E B0 (newer Y aB) {Y with next:=Y.next+ops.size} K w aB K1 w1:=st1.mono (fun s h=>by
         have h0:Y.next+ops.size<=aB.next:=hle1;rcases h with h|h
         .exact⟨h.1,RS⟩
         .exact⟨eZ (mg _ _) h.1,h.2⟩)
        have sa:Step E B0 (newer Y aB) Y K w aB K1 w1:=⟨sa'.ok,sa'.ext,sa'.below,sa'.D,sa'.A,sa'.zn,sa'.zo⟩;exact sa.widen st2 (eZ (mg _ _) hle1) hle2
       refine⟨hx2,K2,rU,_,bv,rfl,?_,hs2⟩;exact RelA.ext st2.ext (Hq (Hq ⟨ha,L8⟩ hargs) ⟨hb,L9⟩)
      .cases hq1
     .cases hq1
    .cases h
   .exact go h
  .exact go h
 |_=>intro fr Y e fr' Y' q h hnr hok;exact plain _ _ _ _ _ _ _ h hnr hok
theorem awP {m:Nat}(hE:o8 E):EL E (FQ E (bI E m) (bI E (m+1))):=by
 intro f args d Y v Y' h;have hS:=Ry hE m;have hS1:=(Ry hE (m+1)).code;simp only[FQ,iP] at h;obtain⟨fn,hfn,c,hc,h⟩:=h;split at h
 .rename_i hok;obtain⟨hlen,akN,hnr⟩:=hok;simp only[iP] at h;obtain⟨⟨e,bJ,aB,q⟩,hcode,h⟩:=h;have hne:e= .normal\/e= .ret:=by
   cases e with
   |normal=>exact .inl rfl|ret=>exact .inr rfl|exit i=>simp at h
  have h':∃cO vs,(match q with
   |none=>some aB|some (g,dN)=>if Jv E g=true then ((bI E (m+1)).call g dN (d+1) aB).map Prod.snd else none)=some cO/\fn.results.toList.mapM (jC E bJ cO)=some vs/\Dn vs=v/\cO=Y':=by
   have h1:((match q with
    |none=>some aB|some (g,dN)=>if Jv E g=true then ((bI E (m+1)).call g dN (d+1) aB).map Prod.snd else none).bind fun Y=>(fn.results.toList.mapM (jC E bJ Y)).map fun vs=>(Dn vs,Y))=some (v,Y'):=by
    rcases hne with rfl|rfl<;>exact h
   obtain⟨cO,g1,g2⟩:=iP.1 h1;simp only[aY,mF] at g2;obtain⟨vs,g3,g4,g5⟩:=g2;exact⟨cO,vs,g1,g3,g4,g5⟩
  obtain⟨cO,vs,hq,hvs,hv,rfl⟩:=h';have akO:rC E (bI E m) (bI E (m+1)).code c {d:=d,aj:=E.aj f,tm:=fun i=>args.getD i aP} Y=some (e,bJ,aB,q):=hcode;have hle1:=(akL (B:=0) hE hS hS1 c _ _ _ _ _ _ akO hnr akN).1;have hdef:aB.next<=cO.next:=by
   cases q with
   |none=>cases hq;exact iR _|some p=>
    obtain⟨g,dN⟩:=p;dsimp only at hq;split at hq
    .simp only[aY] at hq;obtain⟨⟨v2,qU⟩,h2,h3⟩:=hq;cases h3;exact((Ry hE (m+1)).call _ _ _ _ _ _ h2).1
    .cases hq
  refine⟨eZ hle1 hdef,⟨fn,c,hfn,hc⟩,fun ro B0 K w dO hs hB hA hr=>?_⟩;have hst:=akK (E:=E) (f:=f) (d:=d) (fn:=fn) hs hB hA hr hlen;have hwp:=(akL (B:=w.heap.size) hE hS hS1 c _ _ _ _ _ _ akO hnr akN).2 B0 K w _ hst;have W9:CallsIn Fence.wide 0 E.P f dO w (wO E B0 Y K w v cO):=by
   refine callsIn_of_wp_marks hfn hc trivial (wpIn_mono hwp ?_);rintro x a' w' ⟨hx,K',st',akP⟩;have hleave:LeavesInM Fence.wide 0 E.P fn a'.tmps (wO E B0 Y K w v cO) a'.defers .returning w':=by
    cases q with
    |none=>
     cases hq;have hs':St E B0 aB K' w' bJ a' fn.ntmps ⟨[],w.heap.size,true⟩:=akP;obtain⟨bs,d1,_,_,d4⟩:=hs'.df;have hd:a'.defers=[]:=QI;rw[hd];obtain⟨cv,r1,r2⟩:=Zm hs'.ok hs'.fr hvs;rw[hv] at r2;exact⟨cv,r1,K',r2,hs'.ok,hs'.st,st'⟩
    |some p=>
     obtain⟨g,dN⟩:=p;obtain⟨dd,cap,htar,hra,hs'⟩:=akP;obtain⟨bs,d1,_,_,d4⟩:=hs'.df;have hd:a'.defers=[dd]:=QI;rw[hd];dsimp only at hq;split at hq
     .rename_i hcalm;simp only[aY] at hq;obtain⟨⟨v2,qU⟩,h2,h3⟩:=hq;cases h3;obtain⟨fg,cg,hfg,hcg,hle2,hwg⟩:=awM hS.code (show qP E (bI E m) g dN (d+1) aB=some (v2,qU) from h2) hcalm;have hinv:(invoke dd.target dd.args).run E.P w'= .ok (.enter g (dd.args++cap)) w':=(by rw[htar];exact Rf hE ⟨fg,cg,hfg,hcg⟩ _ _);refine⟨aD,.inr ⟨(fun h=>by simp[Fence.wide] at h),.func g,cap,g,dd.args++cap,htar,hinv,(fun _ _=>trivial),?_⟩⟩;refine(callsDIn_of_wp hfg hcg trivial (hwg B0 K' w' (dd.args++cap) hs'.ok hs'.hB hs'.st hra)).mono ?_;rintro e u' w'' ⟨rfl,hp⟩;cases e with
      |returned cv=>obtain⟨K2,r1,HY,hA2,st2⟩:=hp;have hf2:mU K2 qU.top w'' bJ a'.tmps:=hs'.fr.ext st2.ext;obtain⟨awQ,r3,r4⟩:=Zm HY hf2 hvs;rw[hv] at r4;exact⟨awQ,r3,K2,r4,HY,hA2,st'.widen st2 hle1 hle2⟩
      |panicked ch=>exact hp.elim|outgrown=>exact hp.elim
     .cases hq
   rcases hne with rfl|rfl<;>cases x<;>simp only[nT] at hx<;>exact hleave
  exact W9
 .simp at h
end
def plainO (o:Oper):Bool:=match o.op with
 |.call c=>match c.callee with
  |.value _=>false|_=>true
 |_=>true
def vX:Code->Bool
 |.skip|.label _|.exit _|.ret=>true|.region _ ops dr=>!dr&& ops.toList.all plainO|.seq a b=>vX a&& vX b|.cond _ a b=>vX a&& vX b|.block _ c=>vX c|.scope c=>vX c|_=>false
section
variable {E:Env}{S T:iW}
theorem awR {fr:Fr}{Y:ah}{st:Nat}{o:Oper}(h:plainO o=true):opC E S fr Y st o=opC E T fr Y st o:=by
 unfold plainO at h;unfold opC;split
 .rename_i c hop;rw[hop] at h;dsimp only at h;split at h
  .cases h
  .rename_i hc;split
   .rfl
   .rename_i f hf;exact absurd hf (hc f)
   .rfl
 all_goals rfl
theorem Zp {ops:List Oper}{base:Nat}(h:jG S T):∀{l:List Nat}{fr:Fr}{Y:ah}{r:Fr×ah},opsL E S ops base l fr Y=some r->opsL E T ops base l fr Y=some r
 | [],_,_,_,hr=>hr|i::l,fr,Y,r,hr=>by unfold opsL at hr⊢;obtain⟨⟨bJ,aB⟩,h1,h2⟩:=iP.1 hr;rw[Mr h h1,Option.bind_some];exact Zp h h2
theorem Zq {all:List Oper}:∀{ops:List Oper}{st:Nat}{fr:Fr}{Y:ah},ops.all plainO=true->opsE E S all st ops fr Y=opsE E T all st ops fr Y
 | [],_,_,_,_=>rfl|o::os,st,fr,Y,h=>by
  rw[List.all_cons,aZ] at h;unfold opsE;rw[awR (S:=S) (T:=T) h.1];congr 1;funext t;split
  .congr 1;funext x;exact Zq h.2
  .exact Zq h.2
theorem awS:∀(c:Code)(fr:Fr)(Y:ah),vX c=true->eu E S c fr Y=eu E T c fr Y:=by
 intro c;induction c with
 |region id ops dr=>
  intro fr Y h;unfold vX at h;rw[aZ] at h;have hd:dr=false:=by simpa using h.1
  subst hd;unfold eu;rw[if_neg aD,if_neg aD,Zq (S:=S) (T:=T) h.2]
 |seq a b iha ihb=>intro fr Y h;unfold vX at h;rw[aZ] at h;unfold eu;rw[iha fr Y h.1];congr 1;funext x;obtain⟨e,bJ,aB⟩:=x;cases e<;>first|exact ihb bJ aB h.2|rfl
 |cond c a b iha ihb=>
  intro fr Y h;unfold vX at h;rw[aZ] at h;unfold eu;congr 1;funext t;split
  .exact iha fr Y h.1
  .exact ihb fr Y h.2
 |block id c ih=>intro fr Y h;unfold vX at h;unfold eu;rw[ih fr Y h]|scope c ih=>intro fr Y h;unfold vX at h;unfold eu;exact ih fr Y h|_=>intro fr Y h;first|rfl|cases h
theorem awT {f:FuncId}{fn:Func}{c:Code}{args:List V}{d:Nat}{Y:ah}{r:V×ah}{n:Nat}(hf:E.P.funcs[f]? =some fn)(hb:fn.body=some c)(hp:vX c=true)(h:(bI E n).call f args d Y=some r):(bI E 2).call f args d Y=some r:=by
 cases n with
 |zero=>cases h|succ n=>
  have h':qP E (bI E n) f args d Y=some r:=h;show qP E (bI E 1) f args d Y=some r;cases n with
  |zero=>
   unfold qP at h';rw[hf,Option.bind_some,hb,Option.bind_some] at h';split at h'
   .cases h'
   .cases h'
  |succ n=>unfold qP at h'⊢;rw[hf,Option.bind_some,hb,Option.bind_some] at h'⊢;have e:(bI E (n+1)).code c {d:=d,aj:=E.aj f,tm:=fun i=>args.getD i aP} Y=(bI E 1).code c {d:=d,aj:=E.aj f,tm:=fun i=>args.getD i aP} Y:=awS c _ _ hp;rw[e] at h';exact h'
theorem akQ {co TM:Code->Fr->ah->Option (Ex×Fr×ah)}(h:jG S T)(hco:∀c fr Y r,co c fr Y=some r->TM c fr Y=some r):∀(c:Code)(fr:Fr)(Y:ah)(r:Ex×Fr×ah×vW),rC E S co c fr Y=some r->rC E T TM c fr Y=some r:=by
 intro c;induction c with
 |seq a b iha ihb=>
  clear iha;intro fr Y r hr;have go:(co a fr Y).bind (fun (e,fr,Y)=>match e with
   |.normal=>rC E S co b fr Y|e=>some (e,fr,Y,none))=some r->(TM a fr Y).bind (fun (e,fr,Y)=>match e with
   |.normal=>rC E T TM b fr Y|e=>some (e,fr,Y,none))=some r:=by
   intro h1;obtain⟨⟨e,bJ,aB⟩,h2,h3⟩:=iP.1 h1;rw[hco _ _ _ _ h2,Option.bind_some];cases e with
   |normal=>exact ihb _ _ _ h3|exit i=>exact h3|ret=>exact h3
  unfold rC at hr⊢;split at hr
  .rename_i ops;split at hr
   .rename_i k o c hld;simp only[hld];split at hr
    .rename_i hc;rw[if_pos hc];obtain⟨⟨bJ,aB⟩,h1,h2⟩:=iP.1 hr;rw[Zp h h1,Option.bind_some];obtain⟨q,h3,h4⟩:=iP.1 h2;rw[h3,Option.bind_some];obtain⟨x,h5,h6⟩:=aY.1 h4;rw[hco _ _ _ _ h5];exact congrArg some h6
    .cases hr
   .rename_i hld;simp only[hld];exact go hr
  .exact go hr
 |_=>intro fr Y r hr;obtain⟨x,h5,h6⟩:=aY.1 hr;exact aY.2 ⟨x,hco _ _ _ _ h5,h6⟩
end
section
variable (E:Env)
def uP (c:Code)(fr:Fr)(Y:ah)(Q:Ex->Fr->ah->vW->Prop):Prop:=
 ∃n e fr' Y' q,rC E (bI E n) (bI E (n+1)).code c fr Y=some (e,fr',Y',q)/\Q e fr' Y' q
def vY (b:Code)(Q:Ex->Fr->ah->vW->Prop)(e:Ex)(fr:Fr)(Y:ah):Prop:=match e with
 |.normal=>uP E b fr Y Q|e=>Q e fr Y none
def Zr (a:Code):Bool:=match a with
 |.region _ ops false=>(Nv ops.toList).isNone|_=>true
end
section
variable {E:Env}{fr:Fr}{Y:ah}
theorem vY.n {b:Code}{Q:Ex->Fr->ah->vW->Prop}(h:uP E b fr Y Q):vY E b Q .normal fr Y:=h
theorem akR {n m:Nat}(h:n<=m)(c:Code)(fr:Fr)(Y:ah)(r:Ex×Fr×ah)(hc:(bI E (n+1)).code c fr Y=some r):(bI E (m+1)).code c fr Y=some r:=zw (jM h) c fr Y r hc
theorem Zt {S:iW}{co:Code->Fr->ah->Option (Ex×Fr×ah)}{a b:Code}(ha:Zr a=true):rC E S co (.seq a b) fr Y=(co a fr Y).bind fun (e,fr,Y)=>match e with
 |.normal=>rC E S co b fr Y|e=>some (e,fr,Y,none):=by
 conv=>lhs;unfold rC
 split
 .rename_i ops;unfold Zr at ha;split
  .rename_i k o c hld;simp only[hld] at ha;cases ha
  .rfl
 .rfl
theorem uP.seq {a b:Code}{Q:Ex->Fr->ah->vW->Prop}(h:aF E a fr Y (vY E b Q))(ha:Zr a=true:=by kernel_rfl):uP E (.seq a b) fr Y Q:=by
 obtain⟨n,e,bJ,aB,h1,h2⟩:=h;cases e with
 |normal=>obtain⟨m,e,fr',Y',q,h3,h4⟩:=h2;refine⟨max n m,e,fr',Y',q,?_,h4⟩;rw[Zt ha,show (bI E (max n m+1)).code a fr Y=some (.normal,bJ,aB) from zw (jM (sK n m)) _ _ _ _ h1,Option.bind_some];exact akQ (jM (qL n m)) (akR (qL n m)) _ _ _ _ h3
 |exit i=>exact⟨n,.exit i,bJ,aB,none,by rw[Zt ha,show (bI E (n+1)).code a fr Y=some (.exit i,bJ,aB) from h1];rfl,h2⟩|ret=>exact⟨n,.ret,bJ,aB,none,by rw[Zt ha,show (bI E (n+1)).code a fr Y=some (.ret,bJ,aB) from h1];rfl,h2⟩
theorem uP.defer {id:Nat}{ops:Array Oper}{b:Code}{Q:Ex->Fr->ah->vW->Prop}{k:Nat}{o:Oper}{c:Call}(hld:Nv ops.toList=some (k,o,c))(ho:o.dst=none/\o.guard=none){m:Nat}{bJ:Fr}{aB:ah}{q:Nat×List V}(h1:opsL E (bI E m) ops.toList Y.next (List.range k) fr {Y with next:=Y.next+ops.size}=some (bJ,aB))(hq:Zl E bJ c=some q)(h:aF E b bJ aB (fun e fr Y=>Q e fr Y (some q))):uP E (.seq (.region id ops false) b) fr Y Q:=by
 obtain⟨n,e,fr',Y',h2,h3⟩:=h;refine⟨max n m,e,fr',Y',some q,?_,h3⟩;unfold rC;simp only[hld];rw[if_pos ho,Zp (jM (qL n m)) h1,Option.bind_some,hq,Option.bind_some,show (bI E (max n m+1)).code b bJ aB=some (e,fr',Y') from zw (jM (sK n m)) _ _ _ _ h2];rfl
theorem awU {f:FuncId}{args:List V}{d:Nat}{fn:Func}{c:Code}{R:V->ah->Prop}(hf:E.P.funcs[f]? =some fn)(hb:fn.body=some c)(hok:(decide (args.length<=fn.ntmps)&& iI fn.ntmps c&& kr c)=true)(h:uP E c {d:=d,aj:=E.aj f,tm:=fun i=>args.getD i aP} Y (fun e bJ aB q=>(e= .normal\/e= .ret)/\∃g TN,q=some (g,TN)/\Jv E g=true/\iX E g TN (d+1) aB (fun _ cO=>∃vs,fn.results.toList.mapM (jC E bJ cO)=some vs/\R (Dn vs) cO))):
 ∃m v Y',FQ E (bI E m) (bI E (m+1)) f args d Y=some (v,Y')/\R v Y':=by
 obtain⟨n,e,bJ,aB,q,h1,he,g,TN,rfl,hcalm,n2,v2,cO,h2,vs,h3,h4⟩:=h;have hok':args.length<=fn.ntmps/\iI fn.ntmps c/\kr c=true:=by simp only[aZ,decide_eq_true_eq] at hok;exact⟨hok.1.1,hok.1.2,hok.2⟩
 refine⟨max n n2,Dn vs,cO,?_,h4⟩;unfold FQ;rw[hf,Option.bind_some,hb,Option.bind_some,if_pos hok',akQ (jM (sK n n2)) (akR (sK n n2)) _ _ _ _ h1,Option.bind_some];have h2':(bI E (max n n2+1)).call g TN (d+1) aB=some (v2,cO):=(jM (eZ (qL n n2) (kU _))).2 _ _ _ _ _ h2;rcases he with rfl|rfl
 .dsimp only;rw[if_pos hcalm,h2',Option.map_some,Option.bind_some,h3];rfl
 .dsimp only;rw[if_pos hcalm,h2',Option.map_some,Option.bind_some,h3];rfl
end
end aQ
end
