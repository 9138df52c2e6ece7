/- The law DaybookGrowsAsSpecified holds for every input of bulk at most 1048576: the card of the second form. It leans on the hash constants of both implementations being laid as the text of the program lays them. -/
import Derived.Test.YtdcnajadcbedkaaGreatDoorS825
set_option linter.all false
set_option linter.unusedSimpArgs false
set_option linter.unusedSectionVars false
namespace Go.Proofs.YtdcnajadcbedkaaGreatDoor.grows
open Go Go.ChangeShapes Go.WideShapes Go.ChangeAt Go.RowKit Aq Sh daybook
set_option maxRecDepth 100000
theorem law {p:aA R.T ([.slice (.st 3),.int .i64].map Sk.d)} (h:j6 (bD R ([.slice (.st 3),.int .i64].map Sk.d) p)≤1048576):qB Sh.E 5 (bD R ([.slice (.st 3),.int .i64].map Sk.d) p) (.bool true):=by
 obtain⟨l,c⟩:=p
 have h1:(j6 (List.map Sh.Root.v l)+1)+(fK (.int .i64 c)+0)≤1048576:=h
 have ht:=an3 (n:=2^40) (l:=l) (c:=c) (fun r hr=>anW (k:=1048576) (Nat.le_trans (abF (l:=l) Sh.Root.v hr) (by omega)) (by decide)) (by decide)
 exact(am9 (2^40) (l,c) true ht).ok ai2
theorem contract (H:Type) (enc:TypeId×Value→H) (W:World) (base:Nat) (args:Array Value) (ds gs:List (DataW H)) (before:List MemPlace)
 (hval:∀(j:Nat) t v,Tryz.f5.params[j]? =some t→args[j]? =some v→Value.okWide Tryz.prog W .any base t v)
 (hW:DataW.Whole enc Tryz.prog Tryz.f5.params.toList Rows.daybookGrowsAsSpecifiedSpec.vars false W args.toList ds gs before) (hL:laidMetH Tryz.prog Rows.daybookGrowsAsSpecifiedUptoRow.laid W)
 (hk:Rows.uptoSmall H (ds++gs)=true):
 Calls Tryz.prog 5 args W fun e W'=> ∃v,e= .returned v∧Rows.daybookGrowsAsSpecifiedSpec.post enc Tryz.prog Tryz.f5 false true false false W args v W':=by
 have hbound:=of_decide_eq_true hk
 have hlen:ds.length=2:=by
  obtain⟨p,q,hA,_⟩:=hW
  have:=(Go.trodAll_length hA).2
  rw[Tryz.params5] at this
  exact this
 have hgs:gs=[]:=by
  obtain⟨p,q,_,hV,_⟩:=hW
  exact(trodVars_none hV).1
 subst hgs
 rw[List.append_nil] at hbound
 refine ah9 (E:=Sh.E) (R:=R) (aja H) Ju hty kids (fun ht hu=>slices_full_of Tryz.prog full _ _ ht hu) (l:=[.slice (.st 3),.int .i64]) (tb:=4) ?_ ?_ rfl ?_ ?_ u4 hval hW (ai7 hL) (fun p hp=>law (Nat.le_trans hp hbound))
 ·rw[Tryz.params5];rfl
 ·rw[Tryz.params5]
  intro t ht
  have hs:(46:Nat)<Tryz.prog.types.size:=of_decide_eq_true (by kernel_rfl)
  simp only[List.mem_cons,List.not_mem_nil,or_false] at ht
  show t<Tryz.prog.types.size
  rcases ht with rfl|rfl
  ·exact hs
  ·exact Nat.lt_trans (by decide) hs
 ·match ds,hlen with
  | [d1,d2],_=>rfl
 ·kernel_rfl
noncomputable def laidWorld (os:Os):World:=
 {World.holding Tryz.prog os ⟨#[], #[],[]⟩ with heap:=(((World.holding Tryz.prog os ⟨#[], #[],[]⟩).heap.modify 1 fun
   |.cells _ t frozen=>.cells (rO.map fun z=>Value.int .u32 z).toArray t frozen
   |o=>o).modify 2 fun
   |.cells _ t frozen=>.cells (rO.map fun z=>Value.int .u32 z).toArray t frozen
   |o=>o)}
def Me:Array Value:= #[.slice none 0 0,.int .i64 0]
theorem laid_met (os:Os):laidMet Tryz.prog Rows.daybookGrowsAsSpecifiedUptoRow.laid ((laidWorld os).forCall (fun _ _=>0) ⟨#[],Me,[]⟩).memory:=
 laidMet_of_run' 8 (by kernel_rfl) (by kernel_rfl)
theorem reads (os:Os) {H:Type} (enc:TypeId×Value→H):∃places,DataW.whole enc Tryz.prog ((laidWorld os).forCall (fun _ _=>0) ⟨#[],Me,[]⟩).memory Tryz.f5.params.toList Rows.daybookGrowsAsSpecifiedSpec.vars false Me.toList 8=some ([.nil,.lit (.int .i64 0)],[],places):=
 ⟨[],by kernel_rfl⟩
theorem liftedUpto (os:Os) (started:os.Started) (H:Type) (enc:TypeId×Value→H) (F:Stop.Interp):
 ReturnsInHanded {} Tryz.checked os 5 .any ((Rows.OpenSpec.upto Rows.daybookGrowsAsSpecifiedSpec).preRow enc Tryz.prog Tryz.f5 Rows.daybookGrowsAsSpecifiedUptoRow.domain false Rows.daybookGrowsAsSpecifiedUptoRow.laid) (((Rows.OpenSpec.upto Rows.daybookGrowsAsSpecifiedSpec).at F).post enc Tryz.prog Tryz.f5 false true false false):=by
 obtain⟨places,hx⟩:=reads os enc
 refine returnsInHanded_of_row (C:=Tryz.checked) (s:=Rows.OpenSpec.upto Rows.daybookGrowsAsSpecifiedSpec) own started (by kernel_rfl) Tryz.func5
  (witness_row_at (enc:=enc) (C:=Tryz.checked) false (laidWorld os) Me rfl (by kernel_rfl) (by kernel_rfl) (by kernel_rfl)
    (OpenSpec.preRow_of_cond 8 hx (by kernel_rfl) (fun k hk=>by cases hk;kernel_rfl) (by kernel_rfl) (laid_met os))) ?_
 intro W base args ds gs before hval hW _ hcond _ hL _ _
 exact contract H enc W base args ds gs before hval hW hL (hcond _ rfl)
theorem saidUpto:Rows.DaybookGrowsAsSpecifiedUptoSaid:=
 OpenClaim.holds_of_cond 5 Tryz.f5 rfl rfl rfl rfl rfl rfl rfl ⟨rfl,rfl,rfl,rfl,rfl⟩ rfl rfl rfl rfl rfl (by kernel_rfl) Tryz.func5 (by kernel_rfl)
  (of_decide_eq_true (by kernel_rfl)) (by unfold Func.isWrapper;first| (rw[if_pos (by decide+kernel)];kernel_rfl)| (rw[if_neg (by decide+kernel)];exact⟨rfl,rfl⟩))
  (fun os started H enc _ F=>by rw[OpenClaim.pre_eq_preRow];exact liftedUpto os started H enc F)
theorem plain (f:FuncId) (fn:Func) (hf:Tryz.pinned.checked.prog.funcNamed "antiquary/antiquarylaw36.DaybookGrowsAsSpecified" =some f) (hfn:Tryz.pinned.checked.prog.funcs[f]? =some fn):
 false=Tryz.pinned.checked.prog.looks []∧∀(j:Nat) t,fn.params[j]? =some t→Tryz.pinned.checked.prog.wantsStandIn t=false:=by
 obtain rfl:f=5:=Option.some.inj ((show Tryz.prog.funcNamed "antiquary/antiquarylaw36.DaybookGrowsAsSpecified" =some 5 by kernel_rfl).symm.trans hf)|>.symm
 obtain rfl:fn=Tryz.f5:=(Option.some.inj (Tryz.func5.symm.trans hfn)).symm
 refine⟨by kernel_rfl,fun j t ht=> ?_⟩
 rw[Tryz.params5] at ht
 have hm:t=46∨t=3:=by simpa using Array.mem_of_getElem? ht
 rcases hm with rfl|rfl
 ·exact(show Tryz.prog.wantsStandIn 46=false by kernel_rfl)
 ·exact(show Tryz.prog.wantsStandIn 3=false by kernel_rfl)
theorem cardUpto:Rows.DaybookGrowsAsSpecifiedUptoCardSaid:=
 Claim7.holds_tied_plain_at .later [] _ _ _ _ saidUpto (fun _ h=>by cases h) (by kernel_rfl) (fun _ h=>by cases h) daybookGrowsAsSpecifiedUpto_row_tie rfl ⟨rfl,rfl⟩ (by kernel_rfl) rfl plain (by kernel_rfl)
end Go.Proofs.YtdcnajadcbedkaaGreatDoor.grows
