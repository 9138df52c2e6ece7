import Derived.Deep.DeepHandedRow
import Derived.DefersIn
import Derived.Lib.LaidTab
import Derived.OpenShut
import Derived.ProofKit
import Derived.Test.YtabmooekodficaaGreatDoorCards
import Derived.Test.YtabmooekodficaaGreatDoorF4415
import Derived.Test.YtabmooekodficaaGreatDoorF4419
import Derived.Test.YtabmooekodficaaGreatDoorTie
set_option linter.all false
section
namespace Go.Proofs.YtabmooekodficaaGreatDoor.prove
open Go Go.ChangeShapes Go.WideShapes Go.ChangeAt Go.RowKit Aq Sh
set_option maxRecDepth 100000
theorem own:ownKnob Tryz.prog.godebug=none:=by kernel_rfl
theorem gTab:Tryz.prog.globalNamed "antiquary/hash.constants" =some 0:=by kernel_rfl
theorem gTabType:(Tryz.prog.globals[0]?).map (·.type)=some 140:=by kernel_rfl
theorem Pv:Tryz.prog.underlying 140=some (.array 64 89):=by kernel_rfl
theorem Pw:Tryz.prog.underlying 89=some (.int .u32):=by kernel_rfl
theorem u4:Tryz.prog.underlying 4=some .bool:=by kernel_rfl
theorem Px:Tryz.prog.cellsOf 140=64:=by kernel_rfl
theorem Py:Tryz.prog.cellsOf 89=1:=by kernel_rfl
def lJ:List Int:=[1116352408,1899447441,3049323471,3921009573,961987163,1508970993,2453635748,2870763221,3624381080,310598401,607225278,1426881987,1925078388,2162078206,2614888103,3248222580,3835390401,4022224774,264347078,604807628,770255983,1249150122,1555081692,1996064986,2554220882,2821834349,2952996808,3210313671,3336571891,3584528711,113926993,338241895,666307205,773529912,1294757372,1396182291,1695183700,1986661051,2177026350,2456956037,2730485921,2820302411,3259730800,3345764771,3516065817,3600352804,4094571909,275423344,430227734,506948616,659060556,883997877,958139571,1322822218,1537002063,1747873779,1955562222,2024104815,2227730452,2361852424,2428436474,2756734187,3204031479,3329325298]
theorem aai:iT=lJ.map fun z=>V.int .u32 z:=by kernel_rfl
theorem Pz:Tryz.prog.globalNamed "antiquary/antiquaryref02.constants" =some 1:=by kernel_rfl
theorem aaj:(Tryz.prog.globals[1]?).map (·.type)=some 140:=by kernel_rfl
abbrev IL:List (String×DataW Unit):=[("antiquary/antiquaryref02.constants",Rows.laid_antiquary_antiquaryref02_constants),("antiquary/hash.constants",Rows.laid_antiquary_hash_constants)]
theorem aak {P:Program} {W:World} {x:String×DataW Unit} {rest:List (String×DataW Unit)} (h:laidMet P (x::rest) W):laidMet P rest W:=by
 obtain⟨ps,⟨g',t',cs,fuel,p,q,hg',ht',hvar,hd,hq,e⟩,hn,hc⟩:=h
 subst e
 refine⟨q,hq,(List.nodup_append.1 hn).2.1,fun b off hb=>hc b off ?_⟩
 exact afD _ hb
theorem aal {W:World} (h:laidMetH Tryz.prog IL W):Lib.TabIs Tryz.prog W "antiquary/antiquaryref02.constants" .u32 lJ:=
 Lib.tabIs_of_head (rest:=[("antiquary/hash.constants",Rows.laid_antiquary_hash_constants)]) Pz aaj Pv Pw Py Px h
theorem table {W:World} (h:laidMetH Tryz.prog IL W):Lib.TabIs Tryz.prog W "antiquary/hash.constants" .u32 lJ:=
 Lib.tabIs_of_head (rest:=[]) gTab gTabType Pv Pw Py Px (aak (x:=("antiquary/antiquaryref02.constants",Rows.laid_antiquary_antiquaryref02_constants)) (rest:=[("antiquary/hash.constants",Rows.laid_antiquary_hash_constants)]) h)
theorem PD {W:World} {name:String} {k:Nat} (h:Lib.TabIs Tryz.prog W name .u32 lJ) (hg:Tryz.prog.globalNamed name=some k):Rel (KA W) (fun _=>0) W (.cref iT 0) (.pointer (some (at_ k 0))):=by
 have hlen:iT.length=64:=rfl
 have hc:∀j,j<64->W.cell? (at_ k j)=some (.int .u32 (lJ.getD j 0)):=fun j hj=>by
  have:=h.cell hg j (by exact hj)
  rw[show (⟨k,j,none⟩:Addr)=at_ k j from rfl] at this
  exact this
 refine .cref iT 0 k 0 (fun j=>.int .u32 (lJ.getD j 0)) (fun j hj=>?_) (fun j hj=>?_)
 ·rw[hlen] at hj
  rw[ae7]
  exact⟨hc j hj,_,hc j hj⟩
 ·rw[hlen] at hj
  have:iT.getD j undefV= .int .u32 (lJ.getD j 0):=by
   rw[aai,ae5,ae5,List.getElem?_map,afb (show j<lJ.length from hj)]
   rfl
  rw[this]
  exact .int _ _
theorem glob_ok {W:World} (h:laidMetH Tryz.prog IL W):∀g cs,Sh.E.glob g=some cs->Rel (KA W) (fun _=>0) W (.cref cs 0) (.pointer (some (at_ g 0))):=by
 intro g cs hg
 have h':(bif Nat.beq g 1 then some iT else bif Nat.beq g 0 then some iT else none)=some cs:=hg
 cases hb:Nat.beq g 1
 ·rw[hb] at h'
  cases hb0:Nat.beq g 0
  ·rw[hb0] at h';cases h'
  ·rw[hb0] at h'
   cases h'
   have:=afx hb0
   subst this
   exact PD (table h) gTab
 ·rw[hb] at h'
  cases h'
  have:=afx hb
  subst this
  exact PD (aal h) Pz
theorem tys_ok:(rty.all fun x=>tyOK R Tryz.prog x.1 x.2)=true:=by kernel_rfl
theorem look_mem {α:Type}:∀{l:List (Nat×α)} {i:Nat} {x:α},_root_.Aq.look l i=some x->(i,x)∈l
 | [],_,_,h=>by cases h
 | (j,y)::l,i,x,h=>by
   unfold _root_.Aq.look at h
   cases hb:Nat.beq j i
   ·rw[hb] at h;exact ae0 _ (look_mem h)
   ·rw[hb] at h
    cases h
    have:=afx hb
    subst this
    simp
theorem hty:∀t τ,R.ty t=some τ->tyOK R Tryz.prog t τ=true:=fun t τ h=>aeP.1 tys_ok (t,τ) (look_mem h)
theorem laidOut:laidOutB Tryz.prog=true:=by kernel_rfl
theorem rowed:mapsRowed Tryz.prog=true:=by kernel_rfl
theorem kids:Kids Tryz.prog (· <Tryz.prog.types.size):=kids_rows laidOut rowed
theorem full:((List.range Tryz.prog.types.size).all fun t=>match Tryz.prog.underlying t with|some (.slice e)=>decide (0<Tryz.prog.cellsOf e)|_=>true)=true:=by kernel_rfl
theorem bulkOK (H:Type):Bulk H Rows.uptoBulk Rows.uptoBulkAll where
 one d:=by
  cases d with
  |lit l=>cases l<;>simp[Rows.uptoBulk]
  |_=>simp[Rows.uptoBulk]
 str s:=by simp[Rows.uptoBulk]
 agg l:=by simp[Rows.uptoBulk]
 sl l r:=by simp only[Rows.uptoBulk];omega
 nil:=rfl
 cons d l:=by simp only[Rows.uptoBulkAll]
end Go.Proofs.YtabmooekodficaaGreatDoor.prove
end
section
namespace Aq
open Go
structure FF where
 f:Foot
 ex:List Key
def FF.W (f:FF) (k:Key):Prop:=k∈f.f.w\/(f.f.wAll=true/\k.state=true/\k∉f.ex)
def uE (a b:FF):Bool:=
 (a.f.wAll&& (b.f.tAll||b.f.wAll||b.f.t.any (fun k=>k.state&& !a.ex.any (·.eq k))||b.f.w.any Key.state))||a.f.w.any fun k=>k.eq .rest||b.f.t.any (·.eq k)||b.f.w.any (·.eq k)||(b.f.tAll||b.f.wAll)&& k.state
def oI (ms:List Nat) (fs:List FF):Bool:=
 (List.range fs.length).all fun i=>(List.range i).all fun j=>(ms.getD i 0).testBit j||(!uE (fs.getD i ⟨allF,[]⟩) (fs.getD j ⟨allF,[]⟩)&& !uE (fs.getD j ⟨allF,[]⟩) (fs.getD i ⟨allF,[]⟩))
theorem FF.AU {f:FF} {k:Key} (h:f.W k):f.f.T k:=by
 rcases h with h| ⟨h,h1,_⟩
 ·exact .inr (.inr (.inl h))
 ·exact .inr (.inr (.inr ⟨.inr h,h1⟩))
theorem PE {f g:FF} (h:uE f g=false) (k:Key):¬(f.W k/\g.f.T k):=by
 rintro⟨hw,ht⟩
 simp only[uE,ae8,List.any_eq_false] at h
 obtain⟨h1,h2⟩:=h
 have FH:k∈f.f.w:=by
  rcases hw with h| ⟨h,hs,hx⟩
  ·exact h
  ·rw[h,Bool.true_and] at h1
   simp only[ae8,List.any_eq_false] at h1
   obtain⟨⟨⟨a1,a2⟩,a3⟩,a4⟩:=h1
   rcases ht with e|e|e| ⟨e,_⟩
   ·subst e;cases hs
   ·refine absurd ?_ (a3 k e)
    rw[hs,Bool.true_and,aff]
    cases ha:f.ex.any (·.eq k)
    ·rfl
    ·obtain⟨z,hz,he⟩:=List.any_eq_true.1 ha
     rw[Key.eq_iff.1 he] at hz
     exact absurd hz hx
   ·exact absurd hs (a4 k e)
   ·rcases e with e|e
    ·rw[a1] at e;cases e
    ·rw[a2] at e;cases e
 have h3:=h2 k FH
 simp only[afp,List.any_eq_true,RS,not_or,not_exists,not_and] at h3
 obtain⟨⟨⟨h4,h5⟩,h6⟩,h7⟩:=h3
 rcases ht with h|h|h| ⟨h,hs⟩
 ·exact h4 (Key.eq_iff.2 h)
 ·exact h5 k h (Key.eq_iff.2 rfl)
 ·exact h6 k h (Key.eq_iff.2 rfl)
 ·rcases h with h|h
  ·exact h7 (.inl h) hs
  ·exact h7 (.inr h) hs
section
variable (E:Env)
def oJ (S:bH) (all:List Oper) (base i:Nat) (x:Fr×Sig) (f:FF) (y:Fr×Sig):Prop:=
 (∀x',(∀k,f.f.T k->Ag k x x')->∃y',bO E S all base i x'.1 x'.2=some y'/\(∀k,f.W k->Ag k y y')/\∀k,¬f.W k->Ag k x' y')/\(∀k,¬f.W k->Ag k x y)
def qB (S:bH) (all:List Oper) (base:Nat):List Oper->Nat->Fr×Sig->List FF->Fr×Sig->Prop
 | [],_,x,fs,y=>fs=[]/\y=x
 |_::os,i,x,fs,y=>∃f fs' z,fs=f::fs'/\bO E S all base i x.1 x.2=some z/\oJ E S all base i x f z/\qB S all base os (i+1) z fs' y
end
section
variable {E:Env} {S T:bH}
theorem PG (h:dX S T) {all:List Oper} {base i:Nat} {x:Fr×Sig} {f:FF} {y:Fr×Sig} (hl:oJ E S all base i x f y):oJ E T all base i x f y:=
 ⟨fun x' hx=>let ⟨y',h1,h2⟩:=hl.1 x' hx;⟨y',xq h h1,h2⟩,hl.2⟩
theorem PI (h:dX S T) {all:List Oper} {base:Nat}:∀{os:List Oper} {i:Nat} {x:Fr×Sig} {fs:List FF} {y:Fr×Sig},qB E S all base os i x fs y->qB E T all base os i x fs y
 | [],_,_,_,_,hr=>hr
 |_::_,_,_,_,_,⟨f,fs',z,h1,h2,h3,h4⟩=>⟨f,fs',z,h1,xq h h2,PG h h3,PI h h4⟩
theorem PK {all:List Oper} {base:Nat}:∀{os:List Oper} {i:Nat} {x:Fr×Sig} {fs:List FF} {y:Fr×Sig},(∀j,os[j]? =all[i+j]?)->qB E S all base os i x fs y->∃gs,dZ E S all (base+i) os x.1 x.2=some (gs,y.1,y.2)
 | [],_,x,_,y,_,hr=>by obtain⟨_,rfl⟩:=hr;exact⟨[],rfl⟩
 |o::os,i,x,_,y,hall,⟨f,fs',z,h1,h2,h3,h4⟩=>by
  have h0:all[i]? =some o:=by simpa using (hall 0).symm
  obtain⟨gs,hg⟩:=PK (fun j=>by have:=hall (j+1);simpa [ae9,Nat.add_comm 1 j] using this) h4
  unfold bO at h2
  rw[h0] at h2
  simp only[iR] at h2
  obtain⟨t,h5,h6⟩:=h2
  rw[<-ae9] at hg
  cases t with
  |true=>
   simp only[if_true,aat] at h6
   obtain⟨⟨v,aD,σ1⟩,h7,rfl⟩:=h6
   exact⟨footI E all x.1 o true::gs,by simp only[dZ,h5,Option.bind_some,if_true,h7,hg,Option.map_some]⟩
  |false=>
   simp only[aaB,if_false,iE] at h6
   subst h6
   exact⟨footI E all x.1 o false::gs,by simp only[dZ,h5,Option.bind_some,aaB,if_false,hg,Option.map_some]⟩
theorem PN {all:List Oper} {base:Nat}:∀{os:List Oper} {k:Nat} {x:Fr×Sig} {fs:List FF} {y:Fr×Sig},qB E S all base os k x fs y->fs.length=os.length/\∃s:Nat->Fr×Sig,s k=x/\s (k+os.length)=y/\
 ∀i,k<=i->i<k+os.length->oJ E S all base i (s i) (fs.getD (i-k) ⟨allF,[]⟩) (s (i+1))
 | [],k,x,fs,y,hr=>by obtain⟨rfl,rfl⟩:=hr;exact⟨rfl,fun _=>y,rfl,rfl,fun i h1 h2=>by simp at h2;omega⟩
 |o::os,k,x,_,y,⟨f,fs',z,h1,h2,h3,h4⟩=>by
  subst h1
  obtain⟨hlen,s,hs1,hs2,hs3⟩:=PN h4
  refine⟨by simp[hlen],fun i=>if i=k then x else s i,by simp,?_,fun i g1 g2=>?_⟩
  ·have:¬(k+(o::os).length=k):=by simp
   simp only[this,if_false]
   rw[show k+(o::os).length=k+1+os.length by simp;omega]
   exact hs2
  ·by_cases hik:i=k
   ·subst hik
    have:¬(i+1=i):=by omega
    simp only[if_true,this,if_false]
    rw[hs1]
    simpa using h3
   ·have:¬(i+1=k):=by omega
    simp only[hik,this,if_false]
    have:=hs3 i (by omega) (by simp at g2;omega)
    rw[show i-k=(i-(k+1))+1 by omega]
    simpa using this
theorem aam {ops:List Oper} {base:Nat} {x:Fr×Sig} {fs:List FF} {y:Fr×Sig} (h:qB E S ops base ops 0 x fs y) (hp:oI (preM ops) fs=true):Free E S (preM ops) ops base x y:=by
 obtain⟨hlen,s,h0,hn,hs⟩:=PN h
 rw[ae7] at hn
 have hs':∀i,i<ops.length->oJ E S ops base i (s i) (fs.getD i ⟨allF,[]⟩) (s (i+1)):=fun i hi=>by
  have:=hs i (afd _) (by omega)
  rwa[Nat.sub_zero] at this
 refine⟨s,fun i=>(fs.getD i ⟨allF,[]⟩).f.T,fun i=>(fs.getD i ⟨allF,[]⟩).W,h0,hn,fun i k=>FF.AU,fun i hi=>(hs' i hi).1,fun i hi=>(hs' i hi).2,fun i j hi hj=>?_⟩
 simp only[oI,aeP] at hp
 have:=hp i (by simp;omega) j (by simpa using hj)
 simp only[afp] at this
 refine this.imp id (fun h=>?_)
 simp only[RS,aff] at h
 exact⟨PE h.1,PE h.2⟩
theorem PO {all:List Oper} {base i:Nat} {fr:Fr} {σ:Sig} {o:Oper} (ho:all[i]? =some o) {wt:Bool} (hwt:aO all fr o=some wt) {y:Fr×Sig} (hs:bO E S all base i fr σ=some y):oJ E S all base i (fr,σ) ⟨footI E all fr o wt,[]⟩ y:=by
 have hW:∀k,(⟨footI E all fr o wt,[]⟩:FF).W k↔(footI E all fr o wt).W k:=fun k=>by
  unfold FF.W Foot.W
  constructor
  ·rintro (h| ⟨h,h1,_⟩)
   ·exact .inl h
   ·exact .inr ⟨h,h1⟩
  ·rintro (h| ⟨h,h1⟩)
   ·exact .inl h
   ·exact .inr ⟨h,h1,by simp⟩
 refine⟨fun x' hx=>?_,fun k hk=>?_⟩
 ·obtain⟨y',h1,h2,h3,_⟩:=sK (E:=E) (S:=S) (base:=base) ho hwt (aD:=y.1) (σ1:=y.2) hs x' hx
  exact⟨y',h1,fun k hk=>h2 k ((hW k).1 hk),fun k hk=>h3 k fun h=>hk ((hW k).2 h)⟩
 ·obtain⟨_,_,_,_,h4⟩:=sK (E:=E) (S:=S) (base:=base) ho hwt (aD:=y.1) (σ1:=y.2) hs (fr,σ) (fun k _=>.refl k _)
  exact h4 k fun h=>hk ((hW k).2 h)
theorem aan {all:List Oper} {base i:Nat} {fr:Fr} {σ:Sig} {o:Oper} (ho:all[i]? =some o) {wt:Bool} (hwt:aO all fr o=some wt) {y:Fr×Sig} (hs:bO E S all base i fr σ=some y) {ex:List Key} (hex:∀k∈ex,Ag k (fr,σ) y)
 (ht:(footI E all fr o wt).tAll=true\/(footI E all fr o wt).wAll=true):oJ E S all base i (fr,σ) ⟨footI E all fr o wt,ex⟩ y:=by
 have hW:∀k,¬(⟨footI E all fr o wt,ex⟩:FF).W k->¬(footI E all fr o wt).W k\/(k∈ex/\k.state=true):=fun k h=>by
  by_cases hx:k∈ex
  ·by_cases hst:k.state=true
   ·exact .inr ⟨hx,hst⟩
   ·left
    rintro (h1| ⟨_,h1⟩)
    ·exact h (.inl h1)
    ·exact hst h1
  ·left
   rintro (h1| ⟨h1,h2⟩)
   ·exact h (.inl h1)
   ·exact h (.inr ⟨h1,h2,hx⟩)
 have hW2:∀k,(⟨footI E all fr o wt,ex⟩:FF).W k->(footI E all fr o wt).W k:=fun k h=>h.imp id fun h=>⟨h.1,h.2.1⟩
 refine⟨fun x' hx=>?_,fun k hk=>?_⟩
 ·obtain⟨y',h1,h2,h3,h4⟩:=sK (E:=E) (S:=S) (base:=base) ho hwt (aD:=y.1) (σ1:=y.2) hs x' hx
  refine⟨y',h1,fun k hk=>h2 k (hW2 k hk),fun k hk=>?_⟩
  rcases hW k hk with h| ⟨h5,h6⟩
  ·exact h3 k h
  ·by_cases hw:(footI E all fr o wt).W k
   ·have hT:Ag k (fr,σ) x':=hx k (.inr (.inr (.inr ⟨ht,h6⟩)))
    exact(hT.symm.trans (hex k h5)).trans (h2 k hw)
   ·exact h3 k hw
 ·rcases hW k hk with h| ⟨h5,_⟩
  ·obtain⟨_,_,_,_,h4⟩:=sK (E:=E) (S:=S) (base:=base) ho hwt (aD:=y.1) (σ1:=y.2) hs (fr,σ) (fun k _=>.refl k _)
   exact h4 k h
  ·exact hex k h5
end
section
variable (E:Env)
def XW (all:List Oper) (base i:Nat) (os:List Oper) (fr:Fr) (σ:Sig) (fs:List FF) (Q:Fr->Sig->Prop):Prop:=
 ∃n fs' fr' σ',qB E (evl E n) all base os i (fr,σ) fs' (fr',σ')/\oI (preM all) (fs++fs')=true/\Q fr' σ'
end
section
variable {E:Env} {fr:Fr} {σ:Sig}
theorem CW.Cm {id:Nat} {ops:Array Oper} {Q:Ex->Fr->Sig->Prop} (he:edgesOK ops.toList=true)
 (h:XW E ops.toList σ.next 0 ops.toList fr (σ.bump ops.toList.length) [] (fun fr σ=>Q .normal fr σ)):CW E (.region id ops true) fr σ Q:=by
 obtain⟨n,fs,fr',σ',h1,h2,h3⟩:=h
 obtain⟨gs,hg⟩:=PK (fun j=>by simp) h1
 refine⟨n,.normal,fr',σ',?_,h3⟩
 simp only[aK,if_true]
 rw[Nat.add_zero] at hg
 rw[show dZ E (evl E n) ops.toList σ.next ops.toList fr {σ with next:=σ.next+ops.toList.length}=some (gs,fr',σ') from hg]
 simp only[Option.bind_some]
 split
 ·rfl
 ·unfold zZ
  rw[if_pos ⟨he,aam h1 (by simpa using h2)⟩]
theorem XW.nil {all:List Oper} {base i:Nat} {fs:List FF} {Q:Fr->Sig->Prop} (hp:oI (preM all) fs=true) (h:Q fr σ):XW E all base i [] fr σ fs Q:=⟨0,[],fr,σ,⟨rfl,rfl⟩,by simpa using hp,h⟩
theorem XW.step {all:List Oper} {base i:Nat} {o:Oper} {os:List Oper} {fs:List FF} {Q:Fr->Sig->Prop} {f:FF} {y:Fr×Sig} {m:Nat} (h1:bO E (evl E m) all base i fr σ=some y) (h2:oJ E (evl E m) all base i (fr,σ) f y)
 (h:XW E all base (i+1) os y.1 y.2 (fs++[f]) Q):XW E all base i (o::os) fr σ fs Q:=by
 obtain⟨n,fs',fr',σ',g1,g2,g3⟩:=h
 exact⟨max n m,f::fs',fr',σ',⟨f,fs',y,rfl,xq (cK (afh n m)) h1,PG (cK (afh n m)) h2,PI (cK (afl n m)) g1⟩,by simpa using g2,g3⟩
theorem lK {S:bH} {all:List Oper} {base i:Nat} {o:Oper} {v:V} {σ1:Sig} (ho:all[i]? =some o) (hw:aO all fr o=some true) (hop:opC E S fr σ (base+i) o=some (v,fr,σ1)):bO E S all base i fr σ=some (fr.put o.dst v,σ1):=by
 unfold bO
 rw[ho]
 simp only[hw,Option.bind_some,if_true,hop,Option.map_some]
theorem XW.op {all:List Oper} {base i:Nat} {o:Oper} {os:List Oper} {v:V} {σ1:Sig} {fs:List FF} {Q:Fr->Sig->Prop} (ho:all[i]? =some o) (hw:aO all fr o=some true) (hop:∀S,opC E S fr σ (base+i) o=some (v,fr,σ1))
 (h:XW E all base (i+1) os (fr.put o.dst v) σ1 (fs++[⟨footI E all fr o true,[]⟩]) Q):XW E all base i (o::os) fr σ fs Q:=
 XW.step (m:=0) (lK ho hw (hop _)) (PO ho hw (lK ho hw (hop _))) h
theorem XW.call {all:List Oper} {base i:Nat} {o:Oper} {os:List Oper} {v:V} {fs:List FF} {Q:Fr->Sig->Prop} {c:Call} {f:Operand} {g:FuncId} {a b asz:List V} (hi:all[i]? =some o) (hw:aO all fr o=some true) (ho:o.op= .call c)
 (aQ:c.callee= .value f) (hf:fr.ev E f= .fn (.func g) a b) (hg:E.imp g=false) (has:(a++c.args.toList.map (fr.ev E)++b).mapM (closeV 20 σ)=some asz) (hp:Pure E g asz v)
 (hc:((a++c.args.toList.map (fr.ev E)++b).all (fun x=>pclean (er x))||flat v)=true) (h:XW E all base (i+1) os (fr.put o.dst v) σ (fs++[⟨footI E all fr o true,[]⟩]) Q) (aN:∀d,o.dst=some d->E.own g d=false:=by intros;rfl):XW E all base i (o::os) fr σ fs Q:=by
 obtain⟨m,hm⟩:=hp
 have hop:opC E (evl E m) fr σ (base+i) o=some (v,fr,σ):=by
  simp only[opC,ho,aQ,kV hf aN,aaB,if_false,hf,FZ hg has hm hc,Option.map_some]
 exact XW.step (m:=m) (lK hi hw hop) (PO hi hw (lK hi hw hop)) h
theorem XW.mJ {all:List Oper} {base i:Nat} {o:Oper} {os:List Oper} {fs:List FF} {Q:Fr->Sig->Prop} {c:Call} {f:Operand} {g:FuncId} {a b:List V} (ex:List Key) (hi:all[i]? =some o) (hw:aO all fr o=some true) (ho:o.op= .call c)
 (aQ:c.callee= .value f) (hf:fr.ev E f= .fn (.func g) a b) (hg:E.imp g=true) (hft:(footI E all fr o true).wAll=true)
 (hp:Imp E g (a++c.args.toList.map (fr.ev E)++b) (fr.d+1) σ (fun v σ1=>(∀L,bD L σ1 v=(v,σ1))/\(∀k∈ex,Ag k (fr,σ) (fr.put o.dst v,σ1))/\XW E all base (i+1) os (fr.put o.dst v) σ1 (fs++[⟨footI E all fr o true,ex⟩]) Q)) (aN:∀d,o.dst=some d->E.own g d=false:=by intros;rfl):XW E all base i (o::os) fr σ fs Q:=by
 obtain⟨m,v,σ1,hm,iG,hex,h⟩:=hp
 have hap:cu E (evl E m) fr.d (o.dst.map E.cn) σ (.fn (.func g) a b) (c.args.toList.map (fr.ev E))=some (v,σ1):=by
  unfold cu;simp only[hg,if_true];rw[hm];exact congrArg some (iG _)
 have hop:opC E (evl E m) fr σ (base+i) o=some (v,fr,σ1):=by
  simp only[opC,ho,aQ,kV hf aN,aaB,if_false,hf,hap,Option.map_some]
 exact XW.step (m:=m) (lK hi hw hop) (aan hi hw (lK hi hw hop) hex (.inr hft)) h
theorem XW.aao {all:List Oper} {base i:Nat} {o:Oper} {os:List Oper} {fs:List FF} {Q:Fr->Sig->Prop} {c:Call} {f:Operand} {g:FuncId} {a b:List V} {v:V} {σ1:Sig} (F:Foot) (hi:all[i]? =some o) (hw:aO all fr o=some true) (ho:o.op= .call c)
 (aQ:c.callee= .value f) (hf:fr.ev E f= .fn (.func g) a b) (hg:E.imp g=true) (m:Nat) (mI:F.wAll=false) (jg:F.tAll=false) (hT:∀k∈slotsT all o,k∈F.t) (hdst:∀k∈slotsW o,k∈F.w) (hsl:∀t,Key.slot t∈F.w->o.dst=some t) (hrest:Key.rest∉F.w)
 (hloc:∀σ',(∀k,k∈F.t\/k∈F.w->k.state=true->Ag k (fr,σ) (fr,σ'))->∃d9,(evl E m).call g (a++c.args.toList.map (fr.ev E)++b) (fr.d+1) σ'=some (v,d9)/\(∀k,k∈F.w->k.state=true->Ag k (fr,σ1) (fr,d9))/\∀k,k∉F.w->k.state=true->Ag k (fr,σ') (fr,d9))
 (hself:(evl E m).call g (a++c.args.toList.map (fr.ev E)++b) (fr.d+1) σ=some (v,σ1))
 (h:XW E all base (i+1) os (fr.put o.dst v) σ1 (fs++[⟨F,[]⟩]) Q) (aN:∀d,o.dst=some d->E.own g d=false:=by intros;rfl) (iG:∀L σ,bD L σ v=(v,σ):=by intros;rfl):XW E all base i (o::os) fr σ fs Q:=by
 have hop:∀{fr':Fr} {σ' d9:Sig},fr'.d=fr.d->fr'.om=fr.om->(∀x∈o.op.operands.toList,fr'.ev E x=fr.ev E x)->(evl E m).call g (a++c.args.toList.map (fr.ev E)++b) (fr.d+1) σ'=some (v,d9)->opC E (evl E m) fr' σ' (base+i) o=some (v,fr',d9):=by
  intro fr' σ' d9 hd hom hev hm
  have hap:cu E (evl E m) fr.d (o.dst.map E.cn) σ' (.fn (.func g) a b) (c.args.toList.map (fr.ev E))=some (v,d9):=by
   unfold cu;simp only[hg,if_true];rw[hm];exact congrArg some (iG _ _)
  rw[K9 hev hd hom]
  simp only[opC,ho,aQ,kV hf aN,aaB,if_false,hf,hap,Option.map_some]
 have hW:∀k,(⟨F,[]⟩:FF).W k↔k∈F.w:=fun k=>⟨fun h=>h.elim id fun h=>(by rw[mI] at h;cases h.1),fun h=>.inl h⟩
 have loc:∀x':Fr×Sig,(∀k,F.T k->Ag k (fr,σ) x')->∃y',bO E (evl E m) all base i x'.1 x'.2=some y'/\(∀k,(⟨F,[]⟩:FF).W k->Ag k (fr.put o.dst v,σ1) y')/\∀k,¬(⟨F,[]⟩:FF).W k->Ag k x' y':=by
  rintro⟨fr',σ'⟩ hx
  obtain⟨r1,r2⟩:fr.d=fr'.d/\fr.om=fr'.om:=hx .rest (.inl rfl)
  have PU:∀t,Key.slot t∈slotsT all o->fr'.tm t=fr.tm t:=fun t ht=>Eq.symm (hx (.slot t) (.inr (.inl (hT _ ht))))
  obtain⟨d9,h1,h2,h3⟩:=hloc σ' fun k hk hs=>by
   have:=hx k (hk.elim (fun h=>.inr (.inl h)) fun h=>.inr (.inr (.inl h)))
   cases k with
   |slot t=>cases hs
   |rest=>cases hs
   |obj l=>exact this
   |top=>exact this
   |nx=>exact this
  refine⟨(fr'.put o.dst v,d9),?_,fun k hk=>?_,fun k hk=>?_⟩
  ·exact lK (E:=E) hi ((Ls PU).trans hw) (hop r1.symm r2.symm (Lr PU) h1)
  ·rw[hW] at hk
   cases k with
   |slot t=>
    show (fr.put o.dst v).tm t=(fr'.put o.dst v).tm t
    rw[kT,kT,if_pos (hsl t hk),if_pos (hsl t hk)]
   |rest=>exact absurd hk hrest
   |obj l=>exact h2 _ hk rfl
   |top=>exact h2 _ hk rfl
   |nx=>exact h2 _ hk rfl
  ·rw[hW] at hk
   cases k with
   |slot t=>
    show fr'.tm t=(fr'.put o.dst v).tm t
    rw[kT,if_neg (fun e=>hk (hdst _ (sJ.2 e)))]
   |rest=>exact⟨(sH _ _ _).symm,(sI _ _ _).symm⟩
   |obj l=>exact h3 _ hk rfl
   |top=>exact h3 _ hk rfl
   |nx=>exact h3 _ hk rfl
 refine XW.step (m:=m) (f:=⟨F,[]⟩) (y:=(fr.put o.dst v,σ1)) (lK hi hw (hop rfl rfl (fun _ _=>rfl) hself)) ⟨loc,fun k hk=>?_⟩ h
 obtain⟨y',h1,h2,h3⟩:=loc (fr,σ) (fun k _=>.refl k _)
 have e:y'=(fr.put o.dst v,σ1):=by
  have h1':bO E (evl E m) all base i fr σ=some y':=h1
  rw[lK hi hw (hop rfl rfl (fun _ _=>rfl) hself)] at h1'
  exact(aeF h1').symm
 rw[<-e]
 exact h3 k hk
end
end Aq
end
section
namespace Aq
open Go Go.RowKit
section
variable (E:Env)
def yJ (ops:List Oper):Option (Nat×Oper×Call):=match ops.getLast? with
 |some o=>match o.op with
  |.defer c=>some (ops.length-1,o,c)
  |_=>none
 |none=>none
abbrev Dq:=Option (Nat×List V)
def IQ (fr:Fr) (c:Call):Dq:=match c.callee with
 |.value f=>match fr.ev E f with
  |.fn (.func g) x y=>some (g,x++c.args.toList.map (fr.ev E)++y)
  |_=>none
 |_=>none
def fZ (S0:bH) (co:Code->Fr->Sig->Option (Ex×Fr×Sig)):Code->Fr->Sig->Option (Ex×Fr×Sig×Dq)
 |.seq a b,fr,σ=>match a with
  |.region _ ops false=>match yJ ops.toList with
   |some (k,o,c)=>if o.dst=none/\o.guard=none then
     (opsL E S0 ops.toList σ.next (List.range k) fr {σ with next:=σ.next+ops.size}).bind fun (fr,σ)=>
     (IQ E fr c).bind fun q=>(co b fr σ).map fun (e,fr,σ)=>(e,fr,σ,some q)
    else none
   |none=>(co a fr σ).bind fun (e,fr,σ)=>match e with
    |.normal=>fZ S0 co b fr σ
    |e=>some (e,fr,σ,none)
  |a=>(co a fr σ).bind fun (e,fr,σ)=>match e with
   |.normal=>fZ S0 co b fr σ
   |e=>some (e,fr,σ,none)
 |c,fr,σ=>(co c fr σ).map fun (e,fr,σ)=>(e,fr,σ,none)
def uG (g:FuncId):Bool:=match E.P.funcs[g]? with
 |some fn=>match fn.body with
  |some c=>bU c
  |none=>false
 |none=>false
def qC (S0 S:bH) (f:FuncId) (args:List V) (d:Nat) (σ:Sig):Option (V×Sig):=
 (E.P.funcs[f]?).bind fun fn=>fn.body.bind fun c=>
 if args.length<=fn.ntmps/\bE fn.ntmps c/\bU c=true then
 (fZ E S0 S.code c {d:=d,om:=E.om f,tm:=fun i=>args.getD i undefV} σ).bind fun (e,fr,σ,q)=>
 match e with
 |.exit _=>none
 |_=>(match q with
   |none=>some σ
   |some (g,asz)=>if uG E g=true then (S.call g asz (d+1) σ).map Prod.snd else none).bind fun σ=>
  (fn.results.toList.mapM (resV E fr σ)).map fun vs=>(match vs with| [v]=>v|vs=>.tup vs,σ)
 else none
end
section
variable {E:Env} {K K':aB} {w w':World} {σ σ':Sig} {B0:Nat}
def oK (vs:List V):V:=match vs with| [v]=>v|vs=>.tup vs
theorem IU (h:aC E B0 σ K w) {fn:Func} {fr:Fr} {tmps:Array Value} (hf:dK K σ.top w fr tmps) {vs:List V} (hvs:fn.results.toList.mapM (resV E fr σ)=some vs):
 ∃c,(results fn tmps).run E.P w= .ok c w/\Rel K σ.top w (oK vs) c:=by
 obtain⟨cs,k1,k2,k3⟩:=LC h hf fn.results.toList vs hvs
 have hrun:(results fn tmps).run E.P w= .ok (if h:cs.toArray.size=1 then cs.toArray[0] else .tuple cs.toArray) w:=by
  have hres:results fn tmps=(do let vs<-fn.results.mapM (w9 tmps);pure (if h:vs.size=1 then vs[0] else .tuple vs)):=rfl
  rw[hres,Array.mapM_eq_mapM_toList]
  simp only[Sem.run_bind,Sem.run_map,k1,Result.andThen_ok,Sem.run_pure]
 refine⟨_,hrun,?_⟩
 cases vs with
 |nil=>
  have:cs=[]:=by simpa using k2.symm
  subst this
  exact .tup [] #[] rfl (fun i hi=>absurd hi (ab2 i))
 |cons v1 vs=>
  cases cs with
  |nil=>simp at k2
  |cons c1 cs=>
   cases vs with
   |nil=>
    have:cs=[]:=by simpa using k2.symm
    subst this
    have:=k3 0 (by simp)
    show Rel K σ.top w v1 _
    simpa using this
   |cons v2 vs=>
    have hsz2:¬((c1::cs).toArray.size=1):=by
     simp only[List.length_cons,Nat.add_right_cancel_iff] at k2
     rw[List.size_toArray,List.length_cons]
     omega
    rw[dif_neg hsz2]
    refine .tup _ _ (by simpa using k2) (fun i hi=>?_)
    have:=k3 i hi
    simpa [afr,List.getD] using this
theorem PV {f:FuncId} {d:Nat} {fn:Func} {args:List V} {cargs:Array Value} (hs:aC E B0 σ K w) (hB:B0<=w.heap.size) (hA:∀s,K.A s->s<σ.next) (hr:RelA K σ.top w args cargs) (hlen:args.length<=fn.ntmps):
 St E B0 σ K w {d:=d,om:=E.om f,tm:=fun i=>args.getD i undefV} {tmps:=cargs++Array.replicate (fn.ntmps-cargs.size) undef,defers:=[]} fn.ntmps ⟨[],w.heap.size,true⟩:=by
 have hsz:cargs.size=args.length:=hr.1.symm
 refine⟨hs,hB,fun t=>?_,by simp;omega,⟨[],rfl,List.nodup_nil,(fun b hb=>by cases hb),fun _=>rfl⟩,hA,iP _⟩
 show Rel K σ.top w (args.getD t undefV) _
 by_cases ht:t<args.length
 ·have e1:(cargs++Array.replicate (fn.ntmps-cargs.size) undef).getD t undef=cargs.getD t undef:=by
   simp only[afr]
   rw[Array.getElem?_append_left (by omega)]
  rw[e1];exact hr.2 t ht
 ·have e1:(cargs++Array.replicate (fn.ntmps-cargs.size) undef).getD t undef=undef:=by
   simp only[afr]
   rw[Array.getElem?_append_right (by omega),Array.getElem?_replicate]
   split<;>rfl
  have e2:args.getD t undefV=undefV:=by simp[List.getD,List.getElem?_eq_none (Nat.le_of_not_lt ht)]
  rw[e1,e2];exact .undef _ _ _
theorem aap {n:Nat} (hS:rW E (evl E n).code) {f:FuncId} {args:List V} {d:Nat} {v:V} (h:gV E (evl E n) f args d σ=some (v,σ')) (hcalm:uG E f=true):
 ∃fn c,E.P.funcs[f]? =some fn/\fn.body=some c/\σ.next<=σ'.next/\∀B0 K w cargs,aC E B0 σ K w->B0<=w.heap.size->(∀s,K.A s->s<σ.next)->RelA K σ.top w args cargs->
  c.wpIn (FW none) 0 E.P (bodyPost E.P fn (jI E B0 σ K w v σ')) {tmps:=cargs++Array.replicate (fn.ntmps-cargs.size) undef,defers:=[]} w:=by
 simp only[gV,iR] at h
 obtain⟨fn,hfn,c,hc,h⟩:=h
 have hnr:bU c=true:=by unfold uG at hcalm;simp only[hfn,hc] at hcalm;exact hcalm
 split at h
 ·rename_i hok
  simp only[iR] at h
  obtain⟨⟨e,aD,σ1⟩,hcode,h⟩:=h
  have hne:e= .normal\/e= .ret:=by
   cases e with
   |normal=>exact .inl rfl
   |ret=>exact .inr rfl
   |exit i=>simp at h
  have h':(fn.results.toList.mapM (resV E aD σ1)).map (fun vs=>(match vs with| [v]=>v|vs=>.tup vs,σ1))=some (v,σ'):=by
   rcases hne with rfl|rfl<;>exact h
  simp only[aat,mF] at h'
  obtain⟨vs,hvs,hv,rfl⟩:=h'
  obtain⟨hle,hwp⟩:=hS _ _ _ _ _ _ hcode
  refine⟨fn,c,hfn,hc,hle,fun B0 K w cargs hs hB hA hr=>?_⟩
  refine wpIn_mono (hwp none B0 K w _ fn.ntmps ⟨[],w.heap.size,true⟩ (PV hs hB hA hr hok.1) hok.2 (.inr hnr)) ?_
  rintro x a' w' ⟨hx,K',hs',st'⟩
  obtain⟨bs,d1,_,_,d4⟩:=hs'.df
  have hd:a'.defers=[]:=by rw[d1,d4 rfl];rfl
  obtain⟨cv,r1,r2⟩:=IU hs'.ok hs'.fr hvs
  have hv':oK vs=v:=hv
  rw[hv'] at r2
  have fin:a'.defers=[]/\∃v',(results fn a'.tmps).run E.P w'= .ok v' w'/\jI E B0 σ K w v σ1 (.returned v') w':=⟨hd,cv,r1,K',r2,hs'.ok,hs'.st,st'⟩
  rcases hne with rfl|rfl<;>cases x<;>simp only[dV] at hx<;>exact fin
 ·simp at h
theorem uH {F:Fence} {n:Nat} {P:Program} {ops:Array Oper} {Q:Exit->Act->World->Prop} {m:List Nat}:∀(l:List Nat) (a:Act) (w:World),
 wpOpsIn F n P ops (fun x a w=>match x with|.normal=>wpOpsIn F n P ops Q m a w|x=>Q x a w) l a w->wpOpsIn F n P ops Q (l++m) a w
 | [],a,w,h=>h
 |i::l,a,w,h=>by
  rw[List.cons_append]
  unfold wpOpsIn at h⊢
  cases ho:ops[i]? with
  |none=>simp only[ho] at h⊢;exact uH l a w h
  |some o=>
   simp only[ho] at h⊢
   split
   ·rename_i hw
    rw[if_pos hw] at h
    refine⟨h.1,?_⟩
    have h2:=h.2
    revert h2
    generalize (o.semAt F.round a.eval).run P w=res
    intro h2
    unfold Oper.uponIn at h2⊢
    split at h2<;>try exact uH l _ _ h2
    all_goals first
     |exact h2
     | (refine⟨h2.1,h2.2.mono ?_⟩
        intro e w' hp
        cases e<;>first|exact uH l _ _ hp|exact hp)
     | (refine⟨h2.1,?_⟩;exact RowsIn.mono h2.2 fun v w' hp=>uH l _ _ hp)
   ·rename_i hw
    rw[if_neg hw] at h
    exact⟨h.1,uH l _ _ h.2⟩
def IW (E:Env) (B0:Nat) (σ:Sig) (K:aB) (w:World) (fr:Fr) (a:Act) (n B:Nat):Dq->Prop
 |none=>St E B0 σ K w fr a n ⟨[],B,true⟩
 |some (g,asz)=>∃(dd:Deferred) (cap:Array Value),dd.target= .fn (.func g) cap/\RelA K σ.top w asz (dd.args++cap)/\St E B0 σ K w fr a n ⟨[dd],B,true⟩
theorem RelA.ext {K K':aB} {T T':Nat->Nat} {w w':World} (e:Ext K T w K' T' w') {l:List V} {cl:Array Value} (h:RelA K T w l cl):RelA K' T' w' l cl:=⟨h.1,fun i hi=>(h.2 i hi).ext e⟩
theorem aaq {ops:List Oper} {k:Nat} {o:Oper} {c:Call} (h:yJ ops=some (k,o,c)):ops.length=k+1/\ops[k]? =some o/\o.op= .defer c:=by
 unfold yJ at h
 split at h
 ·rename_i o' ho
  split at h
  ·rename_i c' hc
   simp only[iE,mF] at h
   obtain⟨rfl,rfl,rfl⟩:=h
   have hne:ops≠[]:=by rintro rfl;simp at ho
   have hp:0<ops.length:=afo.2 hne
   refine⟨by omega,?_,hc⟩
   rw[List.getLast?_eq_getElem?] at ho
   exact ho
  ·cases h
 ·cases h
theorem PW {m:Nat} (hE:EnvOK E) (hS:Sound E (evl E m)) (hS1:rW E (evl E (m+1)).code) {n B:Nat}:∀(c:Code) (fr:Fr) (σ:Sig) (e:Ex) (fr':Fr) (σ':Sig) (q:Dq),fZ E (evl E m) (evl E (m+1)).code c fr σ=some (e,fr',σ',q)->bU c=true->bE n c=true->
 σ.next<=σ'.next/\∀B0 K w a,St E B0 σ K w fr a n ⟨[],B,true⟩->c.wpIn (FW none) 0 E.P (fun x a' w'=>dV e x/\∃K',Step E B0 (newer σ σ') σ K w σ' K' w'/\IW E B0 σ' K' w' fr' a' n B q) a w:=by
 have plain:∀(c:Code) (fr:Fr) (σ:Sig) (e:Ex) (fr':Fr) (σ':Sig) (q:Dq),((evl E (m+1)).code c fr σ).map (fun (e,fr,σ)=>(e,fr,σ,(none:Dq)))=some (e,fr',σ',q)->bU c=true->bE n c=true->
  σ.next<=σ'.next/\∀B0 K w a,St E B0 σ K w fr a n ⟨[],B,true⟩->c.wpIn (FW none) 0 E.P (fun x a' w'=>dV e x/\∃K',Step E B0 (newer σ σ') σ K w σ' K' w'/\IW E B0 σ' K' w' fr' a' n B q) a w:=by
  intro c fr σ e fr' σ' q h hnr hok
  simp only[aat,mF] at h
  obtain⟨⟨e1,aD,σ1⟩,h1,rfl,rfl,rfl,rfl⟩:=h
  obtain⟨hle,hwp⟩:=hS1 _ _ _ _ _ _ h1
  refine⟨hle,fun B0 K w a hs=>wpIn_mono (hwp none B0 K w a n _ hs hok (.inr hnr)) ?_⟩
  rintro x a' w' ⟨hx,K',hs',st⟩
  exact⟨hx,K',st,hs'⟩
 intro c
 induction c with
 |seq a b iha ihb=>
  clear iha
  intro fr σ e fr' σ' q h hnr hok
  have yK:bU a=true/\bU b=true:=by simpa [bU] using hnr
  have hok':bE n a=true/\bE n b=true:=by simpa [bE] using hok
  have go:((evl E (m+1)).code a fr σ).bind (fun (e,fr,σ)=>match e with
   |.normal=>fZ E (evl E m) (evl E (m+1)).code b fr σ
   |e=>some (e,fr,σ,none))=some (e,fr',σ',q)->σ.next<=σ'.next/\∀B0 K w a',St E B0 σ K w fr a' n ⟨[],B,true⟩->(Code.seq a b).wpIn (FW none) 0 E.P (fun x a' w'=>dV e x/\∃K',Step E B0 (newer σ σ') σ K w σ' K' w'/\IW E B0 σ' K' w' fr' a' n B q) a' w:=by
   intro h
   obtain⟨⟨e1,aD,σ1⟩,h1,h2⟩:=iR.1 h
   obtain⟨hle,hwp⟩:=hS1 _ _ _ _ _ _ h1
   cases e1 with
   |normal=>
    obtain⟨hle2,IX⟩:=ihb aD σ1 e fr' σ' q h2 yK.2 hok'.2
    refine⟨aaI hle hle2,fun B0 K w a' hs=>wpIn_seq (wpIn_mono (hwp none B0 K w a' n _ hs hok'.1 (.inr yK.1)) ?_)⟩
    rintro x a1 w1 ⟨hx,K1,hs1,st1⟩
    cases x<;>simp only[dV] at hx
    refine wpIn_mono (IX B0 K1 w1 a1 hs1) ?_
    rintro x a2 w2 ⟨hx2,K2,st2,hq⟩
    exact⟨hx2,K2,st1.widen st2 hle hle2,hq⟩
   |exit i=>
    simp only[iE,mF] at h2
    obtain⟨rfl,rfl,rfl,rfl⟩:=h2
    refine⟨hle,fun B0 K w a' hs=>wpIn_seq (wpIn_mono (hwp none B0 K w a' n _ hs hok'.1 (.inr yK.1)) ?_)⟩
    rintro x a1 w1 ⟨hx,K1,hs1,st1⟩
    cases x<;>simp only[dV] at hx
    exact⟨hx,K1,st1,hs1⟩
   |ret=>
    simp only[iE,mF] at h2
    obtain⟨rfl,rfl,rfl,rfl⟩:=h2
    refine⟨hle,fun B0 K w a' hs=>wpIn_seq (wpIn_mono (hwp none B0 K w a' n _ hs hok'.1 (.inr yK.1)) ?_)⟩
    rintro x a1 w1 ⟨hx,K1,hs1,st1⟩
    cases x<;>simp only[dV] at hx
    exact⟨trivial,K1,st1,hs1⟩
  unfold fZ at h
  split at h
  ·rename_i ops
   split at h
   ·rename_i k o c hld
    obtain⟨hk,hko,hoc⟩:=aaq hld
    split at h
    ·rename_i hdg
     obtain⟨hdst,hgd⟩:=hdg
     obtain⟨⟨aD,σ1⟩,h1,h⟩:=iR.1 h
     obtain⟨q1,hq1,h⟩:=iR.1 h
     simp only[aat,mF] at h
     obtain⟨⟨e2,bA,σ2⟩,h2,rfl,rfl,rfl,rfl⟩:=h
     obtain⟨hle2,IX⟩:=hS1 _ _ _ _ _ _ h2
     have hle1:=wT hS _ _ _ _ _ h1
     have hsz:ops.size=k+1:=by rw[<-Array.length_toList];exact hk
     refine⟨aaI (aaI (aeG _ _) hle1) hle2,fun B0 K w a' hs=>wpIn_seq (wpIn_region ?_)⟩
     rw[hsz,List.range_succ]
     refine uH _ _ _ ?_
     have hs':St E B0 {σ with next:=σ.next+ops.size} K w fr a' n ⟨[],B,true⟩:=⟨K6 hs.ok _,hs.hB,hs.fr,hs.sz,hs.df,fun s h=>aeD (hs.st s h) (aeG _ _),hs.hD⟩
     have PX:qY n ops.toList=true:=hok'.1
     refine K7 hE hS ops σ.next PX none _ (List.range k) fr _ K w a' h1 List.nodup_range (fun i hi=>by have:=List.mem_range.1 hi;omega) hs' (iP _) (fun i hi hA=>by have:=hs.st _ hA;omega) ?_
     intro a1 K1 w1 hs1 st1
     show wpOpsIn (FW none) 0 E.P ops _ [k] a1 w1
     have aar:ops[k]? =some o:=by simpa using hko
     unfold wpOpsIn
     simp only[aar]
     have hw:Region.wanted o (yielded ops a1.tmps)=true:=K5 hs1.fr ops o (by rw[hs1.sz];exact PX) (by unfold aO;rw[hgd])
     rw[if_pos hw]
     refine⟨fun _ _=>trivial,?_⟩
     unfold IQ at hq1
     split at hq1
     ·rename_i f aQ
      split at hq1
      ·rename_i g xs ys pX
       simp only[iE] at hq1
       subst hq1
       have hrel:=mo hs1.ok hs1.fr f
       rw[pX] at hrel
       generalize hcf:a1.eval f=cf at hrel
       cases hrel with
       |fn _ _ _ av bv ha hb wO wP=>
       have hargs:=pR hs1.ok hs1.fr c.args
       have hex:((o.semAt (FW none).round a1.eval).run E.P w1)= .ok (.defer ⟨.fn (.func g) bv,av++c.args.map a1.eval⟩) w1:=by
        show (execOp a1.eval o).run E.P w1=_
        unfold execOp
        simp only[hoc]
        unfold resolve
        simp only[aQ,hcf,Deferred.ofValue,Sem.run_bind,Sem.run_pure,Result.andThen_ok]
       rw[hex,Oper.uponIn_defer,hdst]
       show wpOpsIn (FW none) 0 E.P ops _ [] _ w1
       unfold wpOpsIn
       obtain⟨bs,d1,_,_,d4⟩:=hs1.df
       have hd0:a1.defers=[]:=by rw[d1,d4 rfl];rfl
       have hst:St E B0 σ1 K1 w1 aD {a1 with defers:=⟨.fn (.func g) bv,av++c.args.map a1.eval⟩::a1.defers} n ⟨[⟨.fn (.func g) bv,av++c.args.map a1.eval⟩],B,true⟩:=
        ⟨hs1.ok,hs1.hB,hs1.fr,hs1.sz,⟨[],by rw[hd0];rfl,List.nodup_nil,(fun b hb=>by cases hb),fun _=>rfl⟩,hs1.st,hs1.hD⟩
       have hw2:=IX none B0 K1 w1 _ n _ hst hok'.2 (.inr yK.2)
       refine wpIn_mono hw2 ?_
       rintro x a2 w2 ⟨hx2,K2,hs2,st2⟩
       have gH:Step E B0 (newer σ σ2) σ K w σ2 K2 w2:=by
        have sa':Step E B0 (newer σ σ1) {σ with next:=σ.next+ops.size} K w σ1 K1 w1:=st1.mono (fun s h=>by
         have h0:σ.next+ops.size<=σ1.next:=hle1
         rcases h with h|h
         ·exact⟨h.1,by omega⟩
         ·exact⟨aaI (aeG _ _) h.1,h.2⟩)
        have sa:Step E B0 (newer σ σ1) σ K w σ1 K1 w1:=⟨sa'.ok,sa'.ext,sa'.below,sa'.D,sa'.A,sa'.nI,sa'.kR⟩
        exact sa.widen st2 (aaI (aeG _ _) hle1) hle2
       refine⟨hx2,K2,gH,_,bv,rfl,?_,hs2⟩
       exact RelA.ext st2.ext (sj (sj ⟨ha,wO⟩ hargs) ⟨hb,wP⟩)
      ·cases hq1
     ·cases hq1
    ·cases h
   ·exact go h
  ·exact go h
 |_=>intro fr σ e fr' σ' q h hnr hok;exact plain _ _ _ _ _ _ _ h hnr hok
theorem aas {m:Nat} (hE:EnvOK E):pV E (qC E (evl E m) (evl E (m+1))):=by
 intro f args d σ v σ' h
 have hS:=evl_sound hE m
 have hS1:=(evl_sound hE (m+1)).code
 simp only[qC,iR] at h
 obtain⟨fn,hfn,c,hc,h⟩:=h
 split at h
 ·rename_i hok
  obtain⟨hlen,PY,hnr⟩:=hok
  simp only[iR] at h
  obtain⟨⟨e,aD,σ1,q⟩,hcode,h⟩:=h
  have hne:e= .normal\/e= .ret:=by
   cases e with
   |normal=>exact .inl rfl
   |ret=>exact .inr rfl
   |exit i=>simp at h
  have h':∃σ2 vs,(match q with
   |none=>some σ1
   |some (g,asz)=>if uG E g=true then ((evl E (m+1)).call g asz (d+1) σ1).map Prod.snd else none)=some σ2/\fn.results.toList.mapM (resV E aD σ2)=some vs/\oK vs=v/\σ2=σ':=by
   have h1:((match q with
    |none=>some σ1
    |some (g,asz)=>if uG E g=true then ((evl E (m+1)).call g asz (d+1) σ1).map Prod.snd else none).bind fun σ=>(fn.results.toList.mapM (resV E aD σ)).map fun vs=>(oK vs,σ))=some (v,σ'):=by
    rcases hne with rfl|rfl<;>exact h
   obtain⟨σ2,g1,g2⟩:=iR.1 h1
   simp only[aat,mF] at g2
   obtain⟨vs,g3,g4,g5⟩:=g2
   exact⟨σ2,vs,g1,g3,g4,g5⟩
  obtain⟨σ2,vs,hq,hvs,hv,rfl⟩:=h'
  have PZ:fZ E (evl E m) (evl E (m+1)).code c {d:=d,om:=E.om f,tm:=fun i=>args.getD i undefV} σ=some (e,aD,σ1,q):=hcode
  have hle1:=(PW (B:=0) hE hS hS1 c _ _ _ _ _ _ PZ hnr PY).1
  have hdef:σ1.next<=σ2.next:=by
   cases q with
   |none=>cases hq;exact iP _
   |some p=>
    obtain⟨g,asz⟩:=p
    dsimp only at hq
    split at hq
    ·simp only[aat] at hq
     obtain⟨⟨v2,σ3⟩,h2,h3⟩:=hq
     cases h3
     exact((evl_sound hE (m+1)).call _ _ _ _ _ _ h2).1
    ·cases hq
  refine⟨aaI hle1 hdef,⟨fn,c,hfn,hc⟩,fun ro B0 K w cargs hs hB hA hr=>?_⟩
  have hst:=PV (E:=E) (f:=f) (d:=d) (fn:=fn) hs hB hA hr hlen
  have hwp:=(PW (B:=w.heap.size) hE hS hS1 c _ _ _ _ _ _ PZ hnr PY).2 B0 K w _ hst
  have FV:CallsIn Fence.wide 0 E.P f cargs w (jI E B0 σ K w v σ2):=by
   refine callsIn_of_wp_marks hfn hc trivial (wpIn_mono hwp ?_)
   rintro x a' w' ⟨hx,K',st',P6⟩
   have hleave:LeavesInM Fence.wide 0 E.P fn a'.tmps (jI E B0 σ K w v σ2) a'.defers .returning w':=by
    cases q with
    |none=>
     cases hq
     have hs':St E B0 σ1 K' w' aD a' fn.ntmps ⟨[],w.heap.size,true⟩:=P6
     obtain⟨bs,d1,_,_,d4⟩:=hs'.df
     have hd:a'.defers=[]:=by rw[d1,d4 rfl];rfl
     rw[hd]
     obtain⟨cv,r1,r2⟩:=IU hs'.ok hs'.fr hvs
     rw[hv] at r2
     exact⟨cv,r1,K',r2,hs'.ok,hs'.st,st'⟩
    |some p=>
     obtain⟨g,asz⟩:=p
     obtain⟨dd,cap,htar,hra,hs'⟩:=P6
     obtain⟨bs,d1,_,_,d4⟩:=hs'.df
     have hd:a'.defers=[dd]:=by rw[d1,d4 rfl];rfl
     rw[hd]
     dsimp only at hq
     split at hq
     ·rename_i hcalm
      simp only[aat] at hq
      obtain⟨⟨v2,σ3⟩,h2,h3⟩:=hq
      cases h3
      obtain⟨fg,cg,hfg,hcg,hle2,hwg⟩:=aap hS.code (show gV E (evl E m) g asz (d+1) σ1=some (v2,σ3) from h2) hcalm
      have hinv:(invoke dd.target dd.args).run E.P w'= .ok (.enter g (dd.args++cap)) w':=by
       rw[htar]
       exact AL hE ⟨fg,cg,hfg,hcg⟩ _ _
      refine⟨by simp,.inr ⟨(fun h=>by simp[Fence.wide] at h),.func g,cap,g,dd.args++cap,htar,hinv,(fun _ _=>trivial),?_⟩⟩
      refine(callsDIn_of_wp hfg hcg trivial (hwg B0 K' w' (dd.args++cap) hs'.ok hs'.hB hs'.st hra)).mono ?_
      rintro e u' w'' ⟨rfl,hp⟩
      cases e with
      |returned cv=>
       obtain⟨K2,r1,sQ,hA2,st2⟩:=hp
       have hf2:dK K2 σ3.top w'' aD a'.tmps:=hs'.fr.ext st2.ext
       obtain⟨cv2,r3,r4⟩:=IU sQ hf2 hvs
       rw[hv] at r4
       exact⟨cv2,r3,K2,r4,sQ,hA2,st'.widen st2 hle1 hle2⟩
      |panicked ch=>exact hp.elim
      |outgrown=>exact hp.elim
     ·cases hq
   rcases hne with rfl|rfl<;>cases x<;>simp only[dV] at hx<;>exact hleave
  exact FV
 ·simp at h
end
end Aq
end
section
namespace Aq
open Go Go.RowKit
def plainO (o:Oper):Bool:=match o.op with
 |.call c=>match c.callee with
  |.value _=>false
  |_=>true
 |_=>true
def jq:Code->Bool
 |.skip|.label _|.exit _|.ret=>true
 |.region _ ops dr=>!dr&& ops.toList.all plainO
 |.seq a b=>jq a&& jq b
 |.cond _ a b=>jq a&& jq b
 |.block _ c=>jq c
 |.scope c=>jq c
 |_=>false
section
variable {E:Env} {S T:bH}
theorem aau {fr:Fr} {σ:Sig} {st:Nat} {o:Oper} (h:plainO o=true):opC E S fr σ st o=opC E T fr σ st o:=by
 unfold plainO at h
 unfold opC
 split
 ·rename_i c hop
  rw[hop] at h
  dsimp only at h
  split at h
  ·cases h
  ·rename_i hc
   split
   ·rfl
   ·rename_i f hf
    exact absurd hf (hc f)
   ·rfl
 all_goals rfl
theorem IY {ops:List Oper} {base:Nat} (h:dX S T):∀{l:List Nat} {fr:Fr} {σ:Sig} {r:Fr×Sig},opsL E S ops base l fr σ=some r->opsL E T ops base l fr σ=some r
 | [],_,_,_,hr=>hr
 |i::l,fr,σ,r,hr=>by
  unfold opsL at hr⊢
  obtain⟨⟨aD,σ1⟩,h1,h2⟩:=iR.1 hr
  rw[xq h h1,Option.bind_some]
  exact IY h h2
theorem IZ {all:List Oper}:∀{ops:List Oper} {st:Nat} {fr:Fr} {σ:Sig},ops.all plainO=true->opsE E S all st ops fr σ=opsE E T all st ops fr σ
 | [],_,_,_,_=>rfl
 |o::os,st,fr,σ,h=>by
  rw[List.all_cons,RS] at h
  unfold opsE
  rw[aau (S:=S) (T:=T) h.1]
  congr 1
  funext t
  split
  ·congr 1
   funext x
   exact IZ h.2
  ·exact IZ h.2
theorem aav:∀(c:Code) (fr:Fr) (σ:Sig),jq c=true->aK E S c fr σ=aK E T c fr σ:=by
 intro c
 induction c with
 |region id ops dr=>
  intro fr σ h
  unfold jq at h
  rw[RS] at h
  have hd:dr=false:=by simpa using h.1
  subst hd
  unfold aK
  rw[if_neg (by simp),if_neg (by simp),IZ (S:=S) (T:=T) h.2]
 |seq a b iha ihb=>
  intro fr σ h
  unfold jq at h
  rw[RS] at h
  unfold aK
  rw[iha fr σ h.1]
  congr 1
  funext x
  obtain⟨e,aD,σ1⟩:=x
  cases e<;>first|exact ihb aD σ1 h.2|rfl
 |cond c a b iha ihb=>
  intro fr σ h
  unfold jq at h
  rw[RS] at h
  unfold aK
  congr 1
  funext t
  split
  ·exact iha fr σ h.1
  ·exact ihb fr σ h.2
 |block id c ih=>
  intro fr σ h
  unfold jq at h
  unfold aK
  rw[ih fr σ h]
 |scope c ih=>
  intro fr σ h
  unfold jq at h
  unfold aK
  exact ih fr σ h
 |_=>intro fr σ h;first|rfl|cases h
theorem aaw {f:FuncId} {fn:Func} {c:Code} {args:List V} {d:Nat} {σ:Sig} {r:V×Sig} {n:Nat} (hf:E.P.funcs[f]? =some fn) (hb:fn.body=some c) (hp:jq c=true) (h:(evl E n).call f args d σ=some r):(evl E 2).call f args d σ=some r:=by
 cases n with
 |zero=>cases h
 |succ n=>
  have h':gV E (evl E n) f args d σ=some r:=h
  show gV E (evl E 1) f args d σ=some r
  cases n with
  |zero=>
   unfold gV at h'
   rw[hf,Option.bind_some,hb,Option.bind_some] at h'
   split at h'
   ·cases h'
   ·cases h'
  |succ n=>
   unfold gV at h'⊢
   rw[hf,Option.bind_some,hb,Option.bind_some] at h'⊢
   have e:(evl E (n+1)).code c {d:=d,om:=E.om f,tm:=fun i=>args.getD i undefV} σ=(evl E 1).code c {d:=d,om:=E.om f,tm:=fun i=>args.getD i undefV} σ:=aav c _ _ hp
   rw[e] at h'
   exact h'
theorem P7 {co Cn:Code->Fr->Sig->Option (Ex×Fr×Sig)} (h:dX S T) (hco:∀c fr σ r,co c fr σ=some r->Cn c fr σ=some r):∀(c:Code) (fr:Fr) (σ:Sig) (r:Ex×Fr×Sig×Dq),fZ E S co c fr σ=some r->fZ E T Cn c fr σ=some r:=by
 intro c
 induction c with
 |seq a b iha ihb=>
  clear iha
  intro fr σ r hr
  have go:(co a fr σ).bind (fun (e,fr,σ)=>match e with
   |.normal=>fZ E S co b fr σ
   |e=>some (e,fr,σ,none))=some r->(Cn a fr σ).bind (fun (e,fr,σ)=>match e with
   |.normal=>fZ E T Cn b fr σ
   |e=>some (e,fr,σ,none))=some r:=by
   intro h1
   obtain⟨⟨e,aD,σ1⟩,h2,h3⟩:=iR.1 h1
   rw[hco _ _ _ _ h2,Option.bind_some]
   cases e with
   |normal=>exact ihb _ _ _ h3
   |exit i=>exact h3
   |ret=>exact h3
  unfold fZ at hr⊢
  split at hr
  ·rename_i ops
   split at hr
   ·rename_i k o c hld
    simp only[hld]
    split at hr
    ·rename_i hc
     rw[if_pos hc]
     obtain⟨⟨aD,σ1⟩,h1,h2⟩:=iR.1 hr
     rw[IY h h1,Option.bind_some]
     obtain⟨q,h3,h4⟩:=iR.1 h2
     rw[h3,Option.bind_some]
     obtain⟨x,h5,h6⟩:=aat.1 h4
     rw[hco _ _ _ _ h5]
     exact congrArg some h6
    ·cases hr
   ·rename_i hld
    simp only[hld]
    exact go hr
  ·exact go hr
 |_=>
  intro fr σ r hr
  obtain⟨x,h5,h6⟩:=aat.1 hr
  exact aat.2 ⟨x,hco _ _ _ _ h5,h6⟩
end
section
variable (E:Env)
def DW (c:Code) (fr:Fr) (σ:Sig) (Q:Ex->Fr->Sig->Dq->Prop):Prop:=
 ∃n e fr' σ' q,fZ E (evl E n) (evl E (n+1)).code c fr σ=some (e,fr',σ',q)/\Q e fr' σ' q
def jr (b:Code) (Q:Ex->Fr->Sig->Dq->Prop) (e:Ex) (fr:Fr) (σ:Sig):Prop:=match e with
 |.normal=>DW E b fr σ Q
 |e=>Q e fr σ none
def I4 (a:Code):Bool:=match a with
 |.region _ ops false=>(yJ ops.toList).isNone
 |_=>true
end
section
variable {E:Env} {fr:Fr} {σ:Sig}
theorem jr.n {b:Code} {Q:Ex->Fr->Sig->Dq->Prop} (h:DW E b fr σ Q):jr E b Q .normal fr σ:=h
theorem P8 {n m:Nat} (h:n<=m) (c:Code) (fr:Fr) (σ:Sig) (r:Ex×Fr×Sig) (hc:(evl E (n+1)).code c fr σ=some r):(evl E (m+1)).code c fr σ=some r:=kU (cK h) c fr σ r hc
theorem I6 {S:bH} {co:Code->Fr->Sig->Option (Ex×Fr×Sig)} {a b:Code} (ha:I4 a=true):fZ E S co (.seq a b) fr σ=(co a fr σ).bind fun (e,fr,σ)=>match e with
 |.normal=>fZ E S co b fr σ
 |e=>some (e,fr,σ,none):=by
 conv=>lhs;unfold fZ
 split
 ·rename_i ops
  unfold I4 at ha
  split
  ·rename_i k o c hld
   simp only[hld] at ha
   cases ha
  ·rfl
 ·rfl
theorem DW.seq {a b:Code} {Q:Ex->Fr->Sig->Dq->Prop} (h:CW E a fr σ (jr E b Q)) (ha:I4 a=true:=by kernel_rfl):DW E (.seq a b) fr σ Q:=by
 obtain⟨n,e,aD,σ1,h1,h2⟩:=h
 cases e with
 |normal=>
  obtain⟨m,e,fr',σ',q,h3,h4⟩:=h2
  refine⟨max n m,e,fr',σ',q,?_,h4⟩
  rw[I6 ha,show (evl E (max n m+1)).code a fr σ=some (.normal,aD,σ1) from kU (cK (afl n m)) _ _ _ _ h1,Option.bind_some]
  exact P7 (cK (afh n m)) (P8 (afh n m)) _ _ _ _ h3
 |exit i=>exact⟨n,.exit i,aD,σ1,none,by rw[I6 ha,show (evl E (n+1)).code a fr σ=some (.exit i,aD,σ1) from h1];rfl,h2⟩
 |ret=>exact⟨n,.ret,aD,σ1,none,by rw[I6 ha,show (evl E (n+1)).code a fr σ=some (.ret,aD,σ1) from h1];rfl,h2⟩
theorem DW.defer {id:Nat} {ops:Array Oper} {b:Code} {Q:Ex->Fr->Sig->Dq->Prop} {k:Nat} {o:Oper} {c:Call} (hld:yJ ops.toList=some (k,o,c)) (ho:o.dst=none/\o.guard=none) {m:Nat} {aD:Fr} {σ1:Sig} {q:Nat×List V}
 (h1:opsL E (evl E m) ops.toList σ.next (List.range k) fr {σ with next:=σ.next+ops.size}=some (aD,σ1)) (hq:IQ E aD c=some q) (h:CW E b aD σ1 (fun e fr σ=>Q e fr σ (some q))):DW E (.seq (.region id ops false) b) fr σ Q:=by
 obtain⟨n,e,fr',σ',h2,h3⟩:=h
 refine⟨max n m,e,fr',σ',some q,?_,h3⟩
 unfold fZ
 simp only[hld]
 rw[if_pos ho,IY (cK (afh n m)) h1,Option.bind_some,hq,Option.bind_some,show (evl E (max n m+1)).code b aD σ1=some (e,fr',σ') from kU (cK (afl n m)) _ _ _ _ h2]
 rfl
theorem aax {f:FuncId} {args:List V} {d:Nat} {fn:Func} {c:Code} {R:V->Sig->Prop} (hf:E.P.funcs[f]? =some fn) (hb:fn.body=some c) (hok:(decide (args.length<=fn.ntmps)&& bE fn.ntmps c&& bU c)=true)
 (h:DW E c {d:=d,om:=E.om f,tm:=fun i=>args.getD i undefV} σ (fun e aD σ1 q=>(e= .normal\/e= .ret)/\∃g Co,q=some (g,Co)/\uG E g=true/\Imp E g Co (d+1) σ1 (fun _ σ2=>∃vs,fn.results.toList.mapM (resV E aD σ2)=some vs/\R (oK vs) σ2))):
 ∃m v σ',qC E (evl E m) (evl E (m+1)) f args d σ=some (v,σ')/\R v σ':=by
 obtain⟨n,e,aD,σ1,q,h1,he,g,Co,rfl,hcalm,n2,v2,σ2,h2,vs,h3,h4⟩:=h
 have hok':args.length<=fn.ntmps/\bE fn.ntmps c/\bU c=true:=by
  simp only[RS,decide_eq_true_eq] at hok
  exact⟨hok.1.1,hok.1.2,hok.2⟩
 refine⟨max n n2,oK vs,σ2,?_,h4⟩
 unfold qC
 rw[hf,Option.bind_some,hb,Option.bind_some,if_pos hok',P7 (cK (afl n n2)) (P8 (afl n n2)) _ _ _ _ h1,Option.bind_some]
 have h2':(evl E (max n n2+1)).call g Co (d+1) σ1=some (v2,σ2):=(cK (aaI (afh n n2) (aeB _))).2 _ _ _ _ _ h2
 rcases he with rfl|rfl
 ·dsimp only
  rw[if_pos hcalm,h2',Option.map_some,Option.bind_some,h3];rfl
 ·dsimp only
  rw[if_pos hcalm,h2',Option.map_some,Option.bind_some,h3];rfl
end
end Aq
end
