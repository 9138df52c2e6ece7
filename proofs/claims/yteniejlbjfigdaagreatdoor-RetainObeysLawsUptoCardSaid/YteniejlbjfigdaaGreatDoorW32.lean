/- The law RetainObeysLaws holds for every input of bulk at most 1048576: the card of the second form. It leans on the hash constants being laid as the text of the program lays them. -/
import Derived.Test.YteniejlbjfigdaaGreatDoorW29
import Derived.Test.YteniejlbjfigdaaGreatDoorW30
import Derived.Test.YteniejlbjfigdaaGreatDoorW31
set_option linter.all false
set_option linter.unusedSimpArgs false
set_option linter.unusedSectionVars false
namespace Go.Proofs.YteniejlbjfigdaaGreatDoor.obeys
open Go Go.ChangeShapes Go.WideShapes Go.ChangeAt Go.RowKit Aq Sh floors
set_option maxRecDepth 100000
theorem law {p : PayL R.T ([.st 1, .slice (.st 13), .slice (.st 9)].map Sk.d)} (h : vszL (encSL R ([.st 1, .slice (.st 13), .slice (.st 9)].map Sk.d) p) ≤ 1048576) : PureOK Sh.E 6 (encSL R ([.st 1, .slice (.st 13), .slice (.st 9)].map Sk.d) p) (.bool true) := by
  obtain ⟨s, l, laws⟩ := p
  have h' : vsz (Schema.v s) + ((vszL (l.map Event.v) + 1) + ((vszL (laws.map Law.v) + 1) + 0)) ≤ 1048576 := h
  obtain ⟨e1, e2, e3⟩ := events_small (l := l) (n := 2 ^ 40) (k := 1048576) (by omega) (by omega) (by omega)
  have ht := law21_Obeys_true (n := 2 ^ 40) (s := s) (laws := laws) (l := l) (by omega) (schema_small (k := 1048576) (by omega) (by omega) (by omega)) (laws_small (k := 1048576) (by omega) (by omega) (by omega)) e1 e2 e3
  exact (law21_RetainObeysLaws_ok (2 ^ 40) (s, (l, laws)) true ht).ok envOK
theorem contract (H : Type) (enc : TypeId × Value → H) (W : World) (base : Nat) (args : Array Value) (ds gs : List (DataW H)) (before : List MemPlace)
    (hval : ∀ (j : Nat) t v, Tryz.f6.params[j]? = some t → args[j]? = some v → Value.okWide Tryz.prog W .any base t v)
    (hW : DataW.Whole enc Tryz.prog Tryz.f6.params.toList Rows.retainObeysLawsSpec.vars false W args.toList ds gs before) (hL : laidMetH Tryz.prog Rows.retainObeysLawsUptoRow.laid W)
    (hk : Rows.uptoSmall H (ds ++ gs) = true) :
    Calls Tryz.prog 6 args W fun e W' => ∃ v, e = .returned v ∧ Rows.retainObeysLawsSpec.post enc Tryz.prog Tryz.f6 false true false false W args v W' := by
  have hbound := of_decide_eq_true hk
  have hlen : ds.length = 3 := by
    obtain ⟨p, q, hA, _⟩ := hW
    have := (Go.trodAll_length hA).2
    rw [Tryz.params6] at this
    exact this
  have hgs : gs = [] := by
    obtain ⟨p, q, _, hV, _⟩ := hW
    exact (trodVars_none hV).1
  subst hgs
  rw [List.append_nil] at hbound
  refine law_contract (E := Sh.E) (R := R) (bulkOK H) rOK hty kids (fun ht hu => slices_full_of Tryz.prog full _ _ ht hu) (l := [.st 1, .slice (.st 13), .slice (.st 9)]) (tb := 4) ?_ ?_ rfl ?_ ?_ u4 hval hW (glob_ok hL) (fun p hp => law (Nat.le_trans hp hbound))
  · rw [Tryz.params6]; rfl
  · rw [Tryz.params6]
    intro t ht
    have hs : (26 : Nat) < Tryz.prog.types.size := of_decide_eq_true (by kernel_rfl)
    simp only [List.mem_cons, List.not_mem_nil, or_false] at ht
    show t < Tryz.prog.types.size
    rcases ht with rfl | rfl | rfl
    · exact Nat.lt_trans (by decide) hs
    · exact hs
    · exact Nat.lt_trans (by decide) hs
  · match ds, hlen with
    | [d1, d2, d3], _ => rfl
  · kernel_rfl
theorem laid_met (os : Os) : laidMet Tryz.prog Rows.retainObeysLawsUptoRow.laid ((laidWorld os).forCall (fun _ _ => 0) ⟨#[], wArgs, []⟩).memory :=
  laidMet_of_run' 8 (by kernel_rfl) (by kernel_rfl)
theorem reads (os : Os) {H : Type} (enc : TypeId × Value → H) : ∃ places, DataW.whole enc Tryz.prog ((laidWorld os).forCall (fun _ _ => 0) ⟨#[], wArgs, []⟩).memory Tryz.f6.params.toList Rows.retainObeysLawsSpec.vars false wArgs.toList 8 = some ([.agg [.lit (.int .i64 0), .lit (.int .i64 0), .nil], .nil, .nil], [], places) :=
  ⟨[], by kernel_rfl⟩
theorem liftedUpto (os : Os) (started : os.Started) (H : Type) (enc : TypeId × Value → H) (F : Stop.Interp) :
    ReturnsInHanded {} Tryz.checked os 6 .any ((Rows.OpenSpec.upto Rows.retainObeysLawsSpec).preRow enc Tryz.prog Tryz.f6 Rows.retainObeysLawsUptoRow.domain false Rows.retainObeysLawsUptoRow.laid) (((Rows.OpenSpec.upto Rows.retainObeysLawsSpec).at F).post enc Tryz.prog Tryz.f6 false true false false) := by
  obtain ⟨places, hx⟩ := reads os enc
  refine returnsInHanded_of_row (C := Tryz.checked) (s := Rows.OpenSpec.upto Rows.retainObeysLawsSpec) own started (by kernel_rfl) Tryz.func6
    (witness_row_at (enc := enc) (C := Tryz.checked) false (laidWorld os) wArgs rfl (by kernel_rfl) (by kernel_rfl) (by kernel_rfl)
      (OpenSpec.preRow_of_cond 8 hx (by kernel_rfl) (fun k hk => by cases hk; kernel_rfl) (by kernel_rfl) (laid_met os))) ?_
  intro W base args ds gs before hval hW _ hcond _ hL _ _
  exact contract H enc W base args ds gs before hval hW hL (hcond _ rfl)
theorem saidUpto : Rows.RetainObeysLawsUptoSaid :=
  OpenClaim.holds_of_cond 6 Tryz.f6 rfl rfl rfl rfl rfl rfl rfl ⟨rfl, rfl, rfl, rfl, rfl⟩ rfl rfl rfl rfl rfl (by kernel_rfl) Tryz.func6 (by kernel_rfl)
    (of_decide_eq_true (by kernel_rfl)) (by unfold Func.isWrapper; first | (rw [if_pos (by decide +kernel)]; kernel_rfl) | (rw [if_neg (by decide +kernel)]; exact ⟨rfl, rfl⟩))
    (fun os started H enc _ F => by rw [OpenClaim.pre_eq_preRow]; exact liftedUpto os started H enc F)
theorem plain (f : FuncId) (fn : Func) (hf : Tryz.pinned.checked.prog.funcNamed "antiquary/antiquarylaw21.RetainObeysLaws" = some f) (hfn : Tryz.pinned.checked.prog.funcs[f]? = some fn) :
    false = Tryz.pinned.checked.prog.looks [] ∧ ∀ (j : Nat) t, fn.params[j]? = some t → Tryz.pinned.checked.prog.wantsStandIn t = false := by
  obtain rfl : f = 6 := Option.some.inj ((show Tryz.prog.funcNamed "antiquary/antiquarylaw21.RetainObeysLaws" = some 6 by kernel_rfl).symm.trans hf) |>.symm
  obtain rfl : fn = Tryz.f6 := (Option.some.inj (Tryz.func6.symm.trans hfn)).symm
  refine ⟨by kernel_rfl, fun j t ht => ?_⟩
  rw [Tryz.params6] at ht
  have hm : t = 24 ∨ t = 26 ∨ t = 25 := by simpa using Array.mem_of_getElem? ht
  rcases hm with rfl | rfl | rfl
  · exact (show Tryz.prog.wantsStandIn 24 = false by kernel_rfl)
  · exact (show Tryz.prog.wantsStandIn 26 = false by kernel_rfl)
  · exact (show Tryz.prog.wantsStandIn 25 = false by kernel_rfl)
theorem cardUpto : Rows.RetainObeysLawsUptoCardSaid :=
  Claim7.holds_tied_plain_at .later [] _ _ _ _ saidUpto (fun _ h => by cases h) (by kernel_rfl) (fun _ h => by cases h) retainObeysLawsUpto_row_tie rfl ⟨rfl, rfl⟩ (by kernel_rfl) rfl plain (by kernel_rfl)
end Go.Proofs.YteniejlbjfigdaaGreatDoor.obeys
