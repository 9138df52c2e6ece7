/- The law GraphProvesAsSpecified holds for every input of bulk at most 1048576: the card of the second form. -/
import Derived.Test.YtabmooekodficaaGreatDoorF4428
set_option linter.all false
namespace Go.Proofs.YtabmooekodficaaGreatDoor.proves
open Go Go.ChangeShapes Go.WideShapes Go.ChangeAt Go.RowKit Aq Sh prove
set_option maxRecDepth 100000
theorem law {p:PayL R.T ([.st 1,.int .i64,.st 0,.st 2,.slice (.st 2)].map Sk.d)} (h:vsrL (encSL R ([.st 1,.int .i64,.st 0,.st 2,.slice (.st 2)].map Sk.d) p)<=1048576):PureOK Sh.E 3 (encSL R ([.st 1,.int .i64,.st 0,.st 2,.slice (.st 2)].map Sk.d) p) (.bool true):=by
 obtain⟨g,i,x3,x4,l⟩:=p
 have h1:vsr (Graph.v g)+(vsr (V.int .i64 i)+(vsr (Hood.v x3)+(vsr (ah.v x4)+((vsrL (l.map ah.v)+1)+0))))<=1048576:=h
 have ht:=aep (n:=2^40) (x1:=g) (x2:=i) (x3:=x3) (x4:=x4) (x5:=l) (iP _) (aer (k:=1048576) (by omega) (by omega)) (JF (k:=1048576) (by omega) (by omega)) (RZ (k:=1048576) (by omega) (by omega))
 exact(adN (2^40) (g,(i,(x3,(x4,l)))) true ht).ok envOK
theorem contract (H:Type) (enc:TypeId×Value->H) (W:World) (base:Nat) (args:Array Value) (ds gs:List (DataW H)) (before:List MemPlace)
 (hval:∀(j:Nat) t v,Tryz.f3.params[j]? =some t->args[j]? =some v->Value.okWide Tryz.prog W .any base t v)
 (hW:DataW.Whole enc Tryz.prog Tryz.f3.params.toList Rows.graphProvesAsSpecifiedSpec.vars false W args.toList ds gs before) (hL:laidMetH Tryz.prog Rows.graphProvesAsSpecifiedUptoRow.laid W)
 (hk:Rows.uptoSmall H (ds++gs)=true):
 Calls Tryz.prog 3 args W fun e W'=>∃v,e= .returned v/\Rows.graphProvesAsSpecifiedSpec.post enc Tryz.prog Tryz.f3 false true false false W args v W':=by
 have hbound:=of_decide_eq_true hk
 have hlen:ds.length=5:=by
  obtain⟨p,q,hA,_⟩:=hW
  have:=(Go.trodAll_length hA).2
  rw[Tryz.params3] at this
  exact this
 have hgs:gs=[]:=by
  obtain⟨p,q,_,hV,_⟩:=hW
  exact(trodVars_none hV).1
 subst hgs
 rw[aeX] at hbound
 refine Z4 (E:=Sh.E) (R:=R) (bulkOK H) rOK hty kids (fun ht hu=>slices_full_of Tryz.prog full _ _ ht hu) (l:=[.st 1,.int .i64,.st 0,.st 2,.slice (.st 2)]) (tb:=4) ?_ ?_ rfl ?_ ?_ u4 hval hW (glob_ok hL) (fun p hp=>law (aaI hp hbound))
 ·rw[Tryz.params3];rfl
 ·rw[Tryz.params3]
  intro t ht
  have hs:(30:Nat)<Tryz.prog.types.size:=of_decide_eq_true (by kernel_rfl)
  simp only[aeQ,List.not_mem_nil,or_false] at ht
  show t<Tryz.prog.types.size
  rcases ht with rfl|rfl|rfl|rfl|rfl
  ·exact Nat.lt_trans (by decide) hs
  ·exact Nat.lt_trans (by decide) hs
  ·exact Nat.lt_trans (by decide) hs
  ·exact Nat.lt_trans (by decide) hs
  ·exact hs
 ·match ds,hlen with
  | [d1,d2,d3,d4,d5],_=>rfl
 ·kernel_rfl
noncomputable def laidWorld (os:Os):World:=
 {World.holding Tryz.prog os ⟨#[], #[],[]⟩ with heap:=(((World.holding Tryz.prog os ⟨#[], #[],[]⟩).heap.modify 0 fun
   |.cells _ t frozen=>.cells (lJ.map fun z=>Value.int .u32 z).toArray t frozen
   |o=>o).modify 1 fun
   |.cells _ t frozen=>.cells (lJ.map fun z=>Value.int .u32 z).toArray t frozen
   |o=>o)}
def wArgs2:Array Value:= #[.agg #[.slice none 0 0],.int .i64 0,.agg #[.int .i64 0,.slice none 0 0],.agg #[.int .u8 0,.int .u8 0,.int .u8 0,.int .u8 0,.int .u8 0,.int .u8 0,.int .u8 0,.int .u8 0,.int .u8 0,.int .u8 0,.int .u8 0,.int .u8 0,.int .u8 0,.int .u8 0,.int .u8 0,.int .u8 0],.slice none 0 0]
theorem laid_met (os:Os):laidMet Tryz.prog Rows.graphProvesAsSpecifiedUptoRow.laid ((laidWorld os).forCall (fun _ _=>0) ⟨#[],wArgs2,[]⟩).memory:=
 laidMet_of_run' 8 (by kernel_rfl) (by kernel_rfl)
theorem reads (os:Os) {H:Type} (enc:TypeId×Value->H):∃places,DataW.whole enc Tryz.prog ((laidWorld os).forCall (fun _ _=>0) ⟨#[],wArgs2,[]⟩).memory Tryz.f3.params.toList Rows.graphProvesAsSpecifiedSpec.vars false wArgs2.toList 8=some ([.agg [.nil],.lit (.int .i64 0),.agg [.lit (.int .i64 0),.nil],.agg [.lit (.int .u8 0),.lit (.int .u8 0),.lit (.int .u8 0),.lit (.int .u8 0),.lit (.int .u8 0),.lit (.int .u8 0),.lit (.int .u8 0),.lit (.int .u8 0),.lit (.int .u8 0),.lit (.int .u8 0),.lit (.int .u8 0),.lit (.int .u8 0),.lit (.int .u8 0),.lit (.int .u8 0),.lit (.int .u8 0),.lit (.int .u8 0)],.nil],[],places):=
 ⟨[],by kernel_rfl⟩
theorem liftedUpto (os:Os) (started:os.Started) (H:Type) (enc:TypeId×Value->H) (F:Stop.Interp):
 ReturnsInHanded {} Tryz.checked os 3 .any ((Rows.OpenSpec.upto Rows.graphProvesAsSpecifiedSpec).preRow enc Tryz.prog Tryz.f3 Rows.graphProvesAsSpecifiedUptoRow.domain false Rows.graphProvesAsSpecifiedUptoRow.laid) (((Rows.OpenSpec.upto Rows.graphProvesAsSpecifiedSpec).at F).post enc Tryz.prog Tryz.f3 false true false false):=by
 obtain⟨places,hx⟩:=reads os enc
 refine returnsInHanded_of_row (C:=Tryz.checked) (s:=Rows.OpenSpec.upto Rows.graphProvesAsSpecifiedSpec) own started (by kernel_rfl) Tryz.func3
  (witness_row_at (enc:=enc) (C:=Tryz.checked) false (laidWorld os) wArgs2 rfl (by kernel_rfl) (by kernel_rfl) (by kernel_rfl)
    (OpenSpec.preRow_of_cond 8 hx (by kernel_rfl) (fun k hk=>by cases hk;kernel_rfl) (by kernel_rfl) (laid_met os))) ?_
 intro W base args ds gs before hval hW _ hcond _ hL _ _
 exact contract H enc W base args ds gs before hval hW hL (hcond _ rfl)
theorem saidUpto:Rows.GraphProvesAsSpecifiedUptoSaid:=
 OpenClaim.holds_of_cond 3 Tryz.f3 rfl rfl rfl rfl rfl rfl rfl ⟨rfl,rfl,rfl,rfl,rfl⟩ rfl rfl rfl rfl rfl (by kernel_rfl) Tryz.func3 (by kernel_rfl)
  (of_decide_eq_true (by kernel_rfl)) (by unfold Func.isWrapper;first| (rw[if_pos (by decide+kernel)];kernel_rfl)| (rw[if_neg (by decide+kernel)];exact⟨rfl,rfl⟩))
  (fun os started H enc _ F=>by rw[OpenClaim.pre_eq_preRow];exact liftedUpto os started H enc F)
theorem plain (f:FuncId) (fn:Func) (hf:Tryz.pinned.checked.prog.funcNamed "antiquary/antiquarylaw27.GraphProvesAsSpecified" =some f) (hfn:Tryz.pinned.checked.prog.funcs[f]? =some fn):
 false=Tryz.pinned.checked.prog.looks []/\∀(j:Nat) t,fn.params[j]? =some t->Tryz.pinned.checked.prog.wantsStandIn t=false:=by
 obtain rfl:f=3:=aeF ((show Tryz.prog.funcNamed "antiquary/antiquarylaw27.GraphProvesAsSpecified" =some 3 by kernel_rfl).symm.trans hf)|>.symm
 obtain rfl:fn=Tryz.f3:=(aeF (Tryz.func3.symm.trans hfn)).symm
 refine⟨by kernel_rfl,fun j t ht=>?_⟩
 rw[Tryz.params3] at ht
 have hm:t=24\/t=3\/t=27\/t=29\/t=30:=by simpa using Array.mem_of_getElem? ht
 rcases hm with rfl|rfl|rfl|rfl|rfl
 ·exact(show Tryz.prog.wantsStandIn 24=false by kernel_rfl)
 ·exact(show Tryz.prog.wantsStandIn 3=false by kernel_rfl)
 ·exact(show Tryz.prog.wantsStandIn 27=false by kernel_rfl)
 ·exact(show Tryz.prog.wantsStandIn 29=false by kernel_rfl)
 ·exact(show Tryz.prog.wantsStandIn 30=false by kernel_rfl)
theorem cardUpto:Rows.GraphProvesAsSpecifiedUptoCardSaid:=
 Claim7.holds_tied_plain_at .later [] _ _ _ _ saidUpto (fun _ h=>by cases h) (by kernel_rfl) (fun _ h=>by cases h) graphProvesAsSpecifiedUpto_row_tie rfl ⟨rfl,rfl⟩ (by kernel_rfl) rfl plain (by kernel_rfl)
end Go.Proofs.YtabmooekodficaaGreatDoor.proves
