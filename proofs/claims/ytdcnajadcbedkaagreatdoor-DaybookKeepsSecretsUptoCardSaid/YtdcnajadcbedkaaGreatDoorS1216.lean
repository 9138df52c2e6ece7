/- Part of the proof of a law. -/
import Derived.Deep.DeepHandedRow
import Derived.Lib.LaidTab
import Derived.OpenShut
import Derived.ProofKit
import Derived.Test.YtdcnajadcbedkaaGreatDoorCards
import Derived.Test.YtdcnajadcbedkaaGreatDoorS1212
import Derived.Test.YtdcnajadcbedkaaGreatDoorS1215
import Derived.Test.YtdcnajadcbedkaaGreatDoorTie
import Derived.WalkKit
set_option linter.all false
namespace Go.Proofs.YtdcnajadcbedkaaGreatDoor.daybook
open Go Go.ChangeShapes Go.WideShapes Go.ChangeAt Go.RowKit Aq Sh
set_option maxRecDepth 100000
theorem own:ownKnob Tryz.prog.godebug=none:=by kernel_rfl
theorem gTab:Tryz.prog.globalNamed "antiquary/hash.constants" =some 1:=by kernel_rfl
theorem gTabType:(Tryz.prog.globals[1]?).map (·.type)=some 257:=by kernel_rfl
theorem akG:Tryz.prog.underlying 257=some (.array 64 167):=by kernel_rfl
theorem akH:Tryz.prog.underlying 167=some (.int .u32):=by kernel_rfl
theorem u4:Tryz.prog.underlying 4=some .bool:=by kernel_rfl
theorem akI:Tryz.prog.cellsOf 257=64:=by kernel_rfl
theorem akJ:Tryz.prog.cellsOf 167=1:=by kernel_rfl
def yD:List Int:=[1116352408,1899447441,3049323471,3921009573,961987163,1508970993,2453635748,2870763221,3624381080,310598401,607225278,1426881987,1925078388,2162078206,2614888103,3248222580,3835390401,4022224774,264347078,604807628,770255983,1249150122,1555081692,1996064986,2554220882,2821834349,2952996808,3210313671,3336571891,3584528711,113926993,338241895,666307205,773529912,1294757372,1396182291,1695183700,1986661051,2177026350,2456956037,2730485921,2820302411,3259730800,3345764771,3516065817,3600352804,4094571909,275423344,430227734,506948616,659060556,883997877,958139571,1322822218,1537002063,1747873779,1955562222,2024104815,2227730452,2361852424,2428436474,2756734187,3204031479,3329325298]
theorem akK:wu=yD.map fun z=>V.int .u32 z:=by kernel_rfl
theorem table {W:World} (h:laidMetH Tryz.prog [("antiquary/hash.constants",Rows.laid_antiquary_hash_constants)] W):Lib.TabIs Tryz.prog W "antiquary/hash.constants" .u32 yD:=
 Lib.tabIs_of_head (rest:=[]) gTab gTabType akG akH akJ akI h
theorem akL {W:World} {name:String} {k:Nat} (h:Lib.TabIs Tryz.prog W name .u32 yD) (hg:Tryz.prog.globalNamed name=some k):Rel (KA W) (fun _=>0) W (.aK wu 0) (.pointer (some (at_ k 0))):=by
 have hlen:wu.length=64:=rfl
 have hc:∀j,j<64->W.cell? (at_ k j)=some (.int .u32 (yD.getD j 0)):=fun j hj=>by
  have:=h.cell hg j (by exact hj)
  rw[show (⟨k,j,none⟩:Addr)=at_ k j from rfl] at this
  exact this
 refine .aK wu 0 k 0 (fun j=>.int .u32 (yD.getD j 0)) (fun j hj=> ?_) (fun j hj=> ?_)
 ·rw[hlen] at hj
  rw[ae5]
  exact⟨hc j hj,_,hc j hj⟩
 ·rw[hlen] at hj
  have:wu.getD j aC= .int .u32 (yD.getD j 0):=by
   rw[akK,adH,adH,List.getElem?_map,acR (show j<yD.length from hj)]
   rfl
  rw[this]
  exact .int _ _
theorem akM {W:World} (h:laidMetH Tryz.prog [("antiquary/hash.constants",Rows.laid_antiquary_hash_constants)] W):∀g cs,Sh.E.glob g=some cs->Rel (KA W) (fun _=>0) W (.aK cs 0) (.pointer (some (at_ g 0))):=by
 intro g cs hg
 have h':(bif Nat.beq g 1 then some wu else none)=some cs:=hg
 cases hb:Nat.beq g 1
 ·rw[hb] at h';cases h'
 ·rw[hb] at h'
  cases h'
  have:=aml hb
  subst this
  exact akL (table h) gTab
theorem akN:(rty.all fun x=>nA R Tryz.prog x.1 x.2)=true:=by kernel_rfl
theorem aaO {α:Type}:∀{l:List (Nat×α)} {i:Nat} {x:α},_root_.Aq.look l i=some x->(i,x)∈l
 | [],_,_,h=>by cases h
 | (j,y)::l,i,x,h=>by
   unfold _root_.Aq.look at h
   cases hb:Nat.beq j i
   ·rw[hb] at h;exact adF _ (aaO h)
   ·rw[hb] at h
    cases h
    have:=aml hb
    subst this
    simp
theorem hty:∀t τ,R.ty t=some τ->nA R Tryz.prog t τ=true:=fun t τ h=>adI.1 akN (t,τ) (aaO h)
theorem laidOut:laidOutB Tryz.prog=true:=by kernel_rfl
theorem akO:mapsRowed Tryz.prog=true:=by kernel_rfl
theorem kids:Kids Tryz.prog (· <Tryz.prog.types.size):=kids_rows laidOut akO
theorem full:((List.range Tryz.prog.types.size).all fun t=>match Tryz.prog.underlying t with|some (.slice e)=>decide (0<Tryz.prog.cellsOf e)|_=>true)=true:=by kernel_rfl
theorem akP (H:Type):Bulk H Rows.uptoBulk Rows.uptoBulkAll where
 one d:=by
  cases d with
  |lit l=>cases l<;>simp[Rows.uptoBulk]
  |_=>simp[Rows.uptoBulk]
 str s:=by simp[Rows.uptoBulk]
 agg l:=by simp[Rows.uptoBulk]
 sl l r:=by simp only[Rows.uptoBulk];omega
 nil:=rfl
 cons d l:=by simp only[Rows.uptoBulkAll]
end Go.Proofs.YtdcnajadcbedkaaGreatDoor.daybook
