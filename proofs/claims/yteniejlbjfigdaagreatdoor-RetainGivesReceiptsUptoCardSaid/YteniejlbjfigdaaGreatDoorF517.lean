import Derived.Deep.DeepHandedRow
import Derived.Lib.LaidTab
import Derived.OpenShut
import Derived.ProofKit
import Derived.Test.YteniejlbjfigdaaGreatDoorCards
import Derived.Test.YteniejlbjfigdaaGreatDoorF516
import Derived.Test.YteniejlbjfigdaaGreatDoorTie
set_option linter.all false
namespace Go.Proofs.YteniejlbjfigdaaGreatDoor.retain
open Go Go.ChangeShapes Go.WideShapes Go.ChangeAt Go.RowKit aR Sh
set_option maxRecDepth 100000
theorem own:ownKnob Tryz.prog.godebug=none:=ay
theorem gTab:Tryz.prog.globalNamed "antiquary/hash.constants" =some 1:=ay
theorem gTabType:(Tryz.prog.globals[1]?).map (·.type)=some 267:=ay
theorem aii:Tryz.prog.underlying 267=some (.array 64 218):=ay
theorem aij:Tryz.prog.underlying 218=some (.int .u32):=ay
theorem u4:Tryz.prog.underlying 4=some .bool:=ay
theorem aik:Tryz.prog.cellsOf 267=64:=ay
theorem ail:Tryz.prog.cellsOf 218=1:=ay
def zL:List Int:=[1116352408,1899447441,3049323471,3921009573,961987163,1508970993,2453635748,2870763221,3624381080,310598401,607225278,1426881987,1925078388,2162078206,2614888103,3248222580,3835390401,4022224774,264347078,604807628,770255983,1249150122,1555081692,1996064986,2554220882,2821834349,2952996808,3210313671,3336571891,3584528711,113926993,338241895,666307205,773529912,1294757372,1396182291,1695183700,1986661051,2177026350,2456956037,2730485921,2820302411,3259730800,3345764771,3516065817,3600352804,4094571909,275423344,430227734,506948616,659060556,883997877,958139571,1322822218,1537002063,1747873779,1955562222,2024104815,2227730452,2361852424,2428436474,2756734187,3204031479,3329325298]
theorem as8:wZ=zL.map fun z=>V.int .u32 z:=ay
theorem ain:Tryz.prog.globalNamed "antiquary/antiquaryref02.constants" =some 0:=ay
theorem as9:(Tryz.prog.globals[0]?).map (·.type)=some 267:=ay
abbrev YA:List (String×DataW Unit):=[("antiquary/antiquaryref02.constants",Rows.laid_antiquary_antiquaryref02_constants),("antiquary/hash.constants",Rows.laid_antiquary_hash_constants)]
theorem ata {P:Program}{W:World}{x:String×DataW Unit}{rest:List (String×DataW Unit)}(h:laidMet P (x::rest) W):laidMet P rest W:=by obtain⟨ps,⟨g',t',cs,fuel,p,q,hg',ht',hvar,hd,hq,e⟩,hn,hc⟩:=h;subst e;refine⟨q,hq,(List.nodup_append.1 hn).2.1,fun b off hb=>hc b off ?_⟩;exact BJ _ hb
theorem atb {W:World}(h:laidMetH Tryz.prog YA W):Lib.TabIs Tryz.prog W "antiquary/antiquaryref02.constants" .u32 zL:=
 Lib.tabIs_of_head (rest:=[("antiquary/hash.constants",Rows.laid_antiquary_hash_constants)]) ain as9 aii aij ail aik h
theorem table {W:World}(h:laidMetH Tryz.prog YA W):Lib.TabIs Tryz.prog W "antiquary/hash.constants" .u32 zL:=
 Lib.tabIs_of_head (rest:=[]) gTab gTabType aii aij ail aik (ata (x:=("antiquary/antiquaryref02.constants",Rows.laid_antiquary_antiquaryref02_constants)) (rest:=[("antiquary/hash.constants",Rows.laid_antiquary_hash_constants)]) h)
theorem aio {W:World}{name:String}{k:Nat}(h:Lib.TabIs Tryz.prog W name .u32 zL)(hg:Tryz.prog.globalNamed name=some k):Rel (uF W) (fun _=>0) W (.aX wZ 0) (.pointer (some (at_ k 0))):=by
 have hlen:wZ.length=64:=rfl;have hc:∀j,j<64->W.cell? (at_ k j)=some (.int .u32 (zL.getD j 0)):=fun j hj=>by have:=h.cell hg j (by exact hj);rw[show (⟨k,j,none⟩:Addr)=at_ k j from rfl] at this;exact this
 refine .aX wZ 0 k 0 (fun j=>.int .u32 (zL.getD j 0)) (fun j hj=>?_) (fun j hj=>?_)
 .rw[hlen] at hj;rw[nX];exact⟨hc j hj,_,hc j hj⟩
 .rw[hlen] at hj;have:wZ.getD j aJ= .int .u32 (zL.getD j 0):=by rw[as8,mH,mH,List.getElem?_map,gG (show j<zL.length from hj)];rfl
  rw[this];exact .int _ _
theorem atc {W:World}(h:laidMetH Tryz.prog YA W):∀g cs,Sh.E.glob g=some cs->Rel (uF W) (fun _=>0) W (.aX cs 0) (.pointer (some (at_ g 0))):=by
 intro g cs hg;have h':(bif Nat.beq g 1 then some wZ else bif Nat.beq g 0 then some wZ else none)=some cs:=hg;cases hb:Nat.beq g 1
 .rw[hb] at h';cases hb0:Nat.beq g 0
  .rw[hb0] at h';cases h'
  .rw[hb0] at h';cases h';have:=yS hb0;subst this;exact aio (atb h) ain
 .rw[hb] at h';cases h';have:=yS hb;subst this;exact aio (table h) gTab
theorem atd:(rty.all fun x=>qP R Tryz.prog x.1 x.2)=true:=ay
theorem aip {J:Type}:∀{l:List (Nat×J)}{i:Nat}{x:J},_root_.aR.look l i=some x->(i,x)∈l
 | [],_,_,h=>bU| (j,y)::l,i,x,h=>by
   unfold _root_.aR.look at h;cases hb:Nat.beq j i
   .rw[hb] at h;exact jX _ (aip h)
   .rw[hb] at h;cases h;have:=yS hb;subst this;simp
theorem hty:∀t τ,R.ty t=some τ->qP R Tryz.prog t τ=true:=fun t τ h=>kU.1 atd (t,τ) (aip h)
theorem laidOut:laidOutB Tryz.prog=true:=ay
theorem ate:mapsRowed Tryz.prog=true:=ay
theorem kids:Kids Tryz.prog (· <Tryz.prog.types.size):=kids_rows laidOut ate
theorem full:((List.range Tryz.prog.types.size).all fun t=>match Tryz.prog.underlying t with|some (.slice e)=>decide (0<Tryz.prog.cellsOf e)|_=>true)=true:=ay
theorem atf (H:Type):Bulk H Rows.uptoBulk Rows.uptoBulkAll where
 one d:=by
  cases d with
  |lit l=>cases l<;>simp[Rows.uptoBulk]|_=>simp[Rows.uptoBulk]
 str s:=by simp[Rows.uptoBulk]
 agg l:=by simp[Rows.uptoBulk]
 sl l r:=by simp only[Rows.uptoBulk];omega
 nil:=rfl
 cons d l:=by simp only[Rows.uptoBulkAll]
end Go.Proofs.YteniejlbjfigdaaGreatDoor.retain
