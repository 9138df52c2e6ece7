/- Part of the proof of a law: ShF. -/
import Derived.KernelRfl
import Derived.Test.YteniejlbjfigdaaGreatDoorW15
set_option linter.all false
set_option linter.unusedSimpArgs false
set_option linter.unusedSectionVars false
open Go Go.Proofs Aq
namespace Sh
set_option maxRecDepth 100000
def ref13_Few_a : Ann := ⟨[(2, ⟨[1], [1], ⟨[(3, .d (.int .i64))], []⟩, [(.exit 0, ⟨[], []⟩), (.ret, ⟨[(2, .d .bool)], []⟩)]⟩)], []⟩
abbrev ref13_Few_p : List Sk := [.d (.st 3)]
abbrev ref13_Few_r : List Sk := [.d .bool]
@[irreducible] noncomputable def ref13_Few (n : Nat) (p : PayL R.T ref13_Few_p) : Option (PayL R.T ref13_Few_r) := funM E R n false (regs0 n) iters ref13_Few_a Tryz.f75 ref13_Few_p ref13_Few_r p
theorem ref13_Few_ok (n : Nat) (p : PayL R.T ref13_Few_p) (x : PayL R.T ref13_Few_r) (h : ref13_Few n p = some x) : Pure E 75 (encSL R ref13_Few_p p) (retV (encSL R ref13_Few_r x)) := by
  unfold ref13_Few at h
  exact funM_ok rOK (regs0_ok n) iters_ok h Tryz.func75 rfl rfl rfl rfl (by kernel_rfl)
noncomputable def regs1 (n : Nat) : Nat → List (FR R) := addF 75 ⟨ref13_Few_p, ref13_Few_r, ref13_Few n, dflL R ref13_Few_r⟩ (regs0 n)
theorem regs1_ok (n : Nat) : RegsOK E (regs1 n) := addF_ok (regs0_ok n) (ref13_Few_ok n)
def ref19_Few_a : Ann := ⟨[(2, ⟨[0, 1], [], ⟨[(5, .d (.int .i64))], []⟩, [(.exit 0, ⟨[], []⟩), (.ret, ⟨[(4, .d .bool)], []⟩)]⟩)], []⟩
abbrev ref19_Few_p : List Sk := [.d (.slice (.st 13)), .d (.int .i64)]
abbrev ref19_Few_r : List Sk := [.d .bool]
@[irreducible] noncomputable def ref19_Few (n : Nat) (p : PayL R.T ref19_Few_p) : Option (PayL R.T ref19_Few_r) := funM E R n false (regs1 n) iters ref19_Few_a Tryz.f38 ref19_Few_p ref19_Few_r p
theorem ref19_Few_ok (n : Nat) (p : PayL R.T ref19_Few_p) (x : PayL R.T ref19_Few_r) (h : ref19_Few n p = some x) : Pure E 38 (encSL R ref19_Few_p p) (retV (encSL R ref19_Few_r x)) := by
  unfold ref19_Few at h
  exact funM_ok rOK (regs1_ok n) iters_ok h Tryz.func38 rfl rfl rfl rfl (by kernel_rfl)
noncomputable def regs2 (n : Nat) : Nat → List (FR R) := addF 38 ⟨ref19_Few_p, ref19_Few_r, ref19_Few n, dflL R ref19_Few_r⟩ (regs1 n)
theorem regs2_ok (n : Nat) : RegsOK E (regs2 n) := addF_ok (regs1_ok n) (ref19_Few_ok n)
def ref13_FewDefs_a : Ann := ⟨[(2, ⟨[1, 2], [2], ⟨[(5, .d (.int .i64))], []⟩, [(.exit 0, ⟨[], []⟩), (.ret, ⟨[(4, .d .bool)], []⟩)]⟩),
  (8, ⟨[1, 2, 5, 6], [2, 6], ⟨[(7, .d (.int .i64))], []⟩, [(.exit 2, ⟨[], []⟩), (.ret, ⟨[(4, .d .bool)], []⟩)]⟩)], []⟩
abbrev ref13_FewDefs_p : List Sk := [.d (.st 1), .d (.int .i64)]
abbrev ref13_FewDefs_r : List Sk := [.d .bool]
@[irreducible] noncomputable def ref13_FewDefs (n : Nat) (p : PayL R.T ref13_FewDefs_p) : Option (PayL R.T ref13_FewDefs_r) := funM E R n false (regs2 n) iters ref13_FewDefs_a Tryz.f43 ref13_FewDefs_p ref13_FewDefs_r p
theorem ref13_FewDefs_ok (n : Nat) (p : PayL R.T ref13_FewDefs_p) (x : PayL R.T ref13_FewDefs_r) (h : ref13_FewDefs n p = some x) : Pure E 43 (encSL R ref13_FewDefs_p p) (retV (encSL R ref13_FewDefs_r x)) := by
  unfold ref13_FewDefs at h
  exact funM_ok rOK (regs2_ok n) iters_ok h Tryz.func43 rfl rfl rfl rfl (by kernel_rfl)
noncomputable def regs3 (n : Nat) : Nat → List (FR R) := addF 43 ⟨ref13_FewDefs_p, ref13_FewDefs_r, ref13_FewDefs n, dflL R ref13_FewDefs_r⟩ (regs2 n)
theorem regs3_ok (n : Nat) : RegsOK E (regs3 n) := addF_ok (regs2_ok n) (ref13_FewDefs_ok n)
def ref04_Metric_a : Ann := ⟨[], []⟩
abbrev ref04_Metric_p : List Sk := [.d (.int .i64)]
abbrev ref04_Metric_r : List Sk := [.d .bool]
@[irreducible] noncomputable def ref04_Metric (n : Nat) (p : PayL R.T ref04_Metric_p) : Option (PayL R.T ref04_Metric_r) := funM E R n false (regs3 n) iters ref04_Metric_a Tryz.f90 ref04_Metric_p ref04_Metric_r p
theorem ref04_Metric_ok (n : Nat) (p : PayL R.T ref04_Metric_p) (x : PayL R.T ref04_Metric_r) (h : ref04_Metric n p = some x) : Pure E 90 (encSL R ref04_Metric_p p) (retV (encSL R ref04_Metric_r x)) := by
  unfold ref04_Metric at h
  exact funM_ok rOK (regs3_ok n) iters_ok h Tryz.func90 rfl rfl rfl rfl (by kernel_rfl)
noncomputable def regs4 (n : Nat) : Nat → List (FR R) := addF 90 ⟨ref04_Metric_p, ref04_Metric_r, ref04_Metric n, dflL R ref04_Metric_r⟩ (regs3 n)
theorem regs4_ok (n : Nat) : RegsOK E (regs4 n) := addF_ok (regs3_ok n) (ref04_Metric_ok n)
def ref13_Has_a : Ann := ⟨[(2, ⟨[0, 1], [], ⟨[(5, .d (.int .i64))], []⟩, [(.exit 0, ⟨[], []⟩), (.ret, ⟨[(4, .d .bool)], []⟩)]⟩)], []⟩
abbrev ref13_Has_p : List Sk := [.d (.slice .str), .d .str]
abbrev ref13_Has_r : List Sk := [.d .bool]
@[irreducible] noncomputable def ref13_Has (n : Nat) (p : PayL R.T ref13_Has_p) : Option (PayL R.T ref13_Has_r) := funM E R n false (regs4 n) iters ref13_Has_a Tryz.f197 ref13_Has_p ref13_Has_r p
theorem ref13_Has_ok (n : Nat) (p : PayL R.T ref13_Has_p) (x : PayL R.T ref13_Has_r) (h : ref13_Has n p = some x) : Pure E 197 (encSL R ref13_Has_p p) (retV (encSL R ref13_Has_r x)) := by
  unfold ref13_Has at h
  exact funM_ok rOK (regs4_ok n) iters_ok h Tryz.func197 rfl rfl rfl rfl (by kernel_rfl)
noncomputable def regs5 (n : Nat) : Nat → List (FR R) := addF 197 ⟨ref13_Has_p, ref13_Has_r, ref13_Has n, dflL R ref13_Has_r⟩ (regs4 n)
theorem regs5_ok (n : Nat) : RegsOK E (regs5 n) := addF_ok (regs4_ok n) (ref13_Has_ok n)
def ref13_Name_a : Ann := ⟨[(2, ⟨[0], [], ⟨[(3, .d (.int .i64))], []⟩, [(.exit 0, ⟨[], []⟩), (.ret, ⟨[(2, .d .bool)], []⟩)]⟩)], []⟩
abbrev ref13_Name_p : List Sk := [.d .str]
abbrev ref13_Name_r : List Sk := [.d .bool]
@[irreducible] noncomputable def ref13_Name (n : Nat) (p : PayL R.T ref13_Name_p) : Option (PayL R.T ref13_Name_r) := funM E R n false (regs5 n) iters ref13_Name_a Tryz.f150 ref13_Name_p ref13_Name_r p
theorem ref13_Name_ok (n : Nat) (p : PayL R.T ref13_Name_p) (x : PayL R.T ref13_Name_r) (h : ref13_Name n p = some x) : Pure E 150 (encSL R ref13_Name_p p) (retV (encSL R ref13_Name_r x)) := by
  unfold ref13_Name at h
  exact funM_ok rOK (regs5_ok n) iters_ok h Tryz.func150 rfl rfl rfl rfl (by kernel_rfl)
noncomputable def regs6 (n : Nat) : Nat → List (FR R) := addF 150 ⟨ref13_Name_p, ref13_Name_r, ref13_Name n, dflL R ref13_Name_r⟩ (regs5 n)
theorem regs6_ok (n : Nat) : RegsOK E (regs6 n) := addF_ok (regs5_ok n) (ref13_Name_ok n)
def ref13_words_a : Ann := ⟨[(4, ⟨[0], [], ⟨[(3, .d (.int .i64))], []⟩, [(.exit 0, ⟨[], []⟩), (.ret, ⟨[(2, .d (.int .i64))], []⟩)]⟩),
  (9, ⟨[0], [], ⟨[(4, .d (.int .i64))], []⟩, [(.exit 2, ⟨[], []⟩), (.ret, ⟨[(2, .d (.int .i64))], []⟩)]⟩)], []⟩
abbrev ref13_words_p : List Sk := [.d (.slice .str)]
abbrev ref13_words_r : List Sk := [.d (.int .i64)]
@[irreducible] noncomputable def ref13_words (n : Nat) (p : PayL R.T ref13_words_p) : Option (PayL R.T ref13_words_r) := funM E R n false (regs6 n) iters ref13_words_a Tryz.f151 ref13_words_p ref13_words_r p
theorem ref13_words_ok (n : Nat) (p : PayL R.T ref13_words_p) (x : PayL R.T ref13_words_r) (h : ref13_words n p = some x) : Pure E 151 (encSL R ref13_words_p p) (retV (encSL R ref13_words_r x)) := by
  unfold ref13_words at h
  exact funM_ok rOK (regs6_ok n) iters_ok h Tryz.func151 rfl rfl rfl rfl (by kernel_rfl)
noncomputable def regs7 (n : Nat) : Nat → List (FR R) := addF 151 ⟨ref13_words_p, ref13_words_r, ref13_words n, dflL R ref13_words_r⟩ (regs6 n)
theorem regs7_ok (n : Nat) : RegsOK E (regs7 n) := addF_ok (regs6_ok n) (ref13_words_ok n)
def ref13_def_a : Ann := ⟨[], []⟩
abbrev ref13_def_p : List Sk := [.d (.st 0), .d .str]
abbrev ref13_def_r : List Sk := [.d (.int .i64)]
@[irreducible] noncomputable def ref13_def (n : Nat) (p : PayL R.T ref13_def_p) : Option (PayL R.T ref13_def_r) := funM E R n false (regs7 n) iters ref13_def_a Tryz.f91 ref13_def_p ref13_def_r p
theorem ref13_def_ok (n : Nat) (p : PayL R.T ref13_def_p) (x : PayL R.T ref13_def_r) (h : ref13_def n p = some x) : Pure E 91 (encSL R ref13_def_p p) (retV (encSL R ref13_def_r x)) := by
  unfold ref13_def at h
  exact funM_ok rOK (regs7_ok n) iters_ok h Tryz.func91 rfl rfl rfl rfl (by kernel_rfl)
noncomputable def regs8 (n : Nat) : Nat → List (FR R) := addF 91 ⟨ref13_def_p, ref13_def_r, ref13_def n, dflL R ref13_def_r⟩ (regs7 n)
theorem regs8_ok (n : Nat) : RegsOK E (regs8 n) := addF_ok (regs7_ok n) (ref13_def_ok n)
def ref13_Check_a : Ann := ⟨[(7, ⟨[1], [1], ⟨[(3, .d .str), (4, .d (.int .i64))], []⟩, [(.exit 0, ⟨[], []⟩), (.ret, ⟨[(2, .d (.int .i64))], []⟩)]⟩)], []⟩
abbrev ref13_Check_p : List Sk := [.d (.st 1)]
abbrev ref13_Check_r : List Sk := [.d (.int .i64)]
@[irreducible] noncomputable def ref13_Check (n : Nat) (p : PayL R.T ref13_Check_p) : Option (PayL R.T ref13_Check_r) := funM E R n false (regs8 n) iters ref13_Check_a Tryz.f45 ref13_Check_p ref13_Check_r p
theorem ref13_Check_ok (n : Nat) (p : PayL R.T ref13_Check_p) (x : PayL R.T ref13_Check_r) (h : ref13_Check n p = some x) : Pure E 45 (encSL R ref13_Check_p p) (retV (encSL R ref13_Check_r x)) := by
  unfold ref13_Check at h
  exact funM_ok rOK (regs8_ok n) iters_ok h Tryz.func45 rfl rfl rfl rfl (by kernel_rfl)
noncomputable def regs9 (n : Nat) : Nat → List (FR R) := addF 45 ⟨ref13_Check_p, ref13_Check_r, ref13_Check n, dflL R ref13_Check_r⟩ (regs8 n)
theorem regs9_ok (n : Nat) : RegsOK E (regs9 n) := addF_ok (regs8_ok n) (ref13_Check_ok n)
def ref19_New_a : Ann := ⟨[], []⟩
abbrev ref19_New_p : List Sk := [.d (.st 1)]
abbrev ref19_New_r : List Sk := [.d (.st 18)]
@[irreducible] noncomputable def ref19_New (n : Nat) (p : PayL R.T ref19_New_p) : Option (PayL R.T ref19_New_r) := funM E R n false (regs9 n) iters ref19_New_a Tryz.f88 ref19_New_p ref19_New_r p
theorem ref19_New_ok (n : Nat) (p : PayL R.T ref19_New_p) (x : PayL R.T ref19_New_r) (h : ref19_New n p = some x) : Pure E 88 (encSL R ref19_New_p p) (retV (encSL R ref19_New_r x)) := by
  unfold ref19_New at h
  exact funM_ok rOK (regs9_ok n) iters_ok h Tryz.func88 rfl rfl rfl rfl (by kernel_rfl)
noncomputable def regs10 (n : Nat) : Nat → List (FR R) := addF 88 ⟨ref19_New_p, ref19_New_r, ref19_New n, dflL R ref19_New_r⟩ (regs9 n)
theorem regs10_ok (n : Nat) : RegsOK E (regs10 n) := addF_ok (regs9_ok n) (ref19_New_ok n)
def ref19_has_a : Ann := ⟨[(2, ⟨[1, 2], [2], ⟨[(5, .d (.int .i64))], []⟩, [(.exit 0, ⟨[], []⟩), (.ret, ⟨[(4, .d .bool)], []⟩)]⟩)], []⟩
abbrev ref19_has_p : List Sk := [.d (.st 5), .d (.int .i64)]
abbrev ref19_has_r : List Sk := [.d .bool]
@[irreducible] noncomputable def ref19_has (n : Nat) (p : PayL R.T ref19_has_p) : Option (PayL R.T ref19_has_r) := funM E R n false (regs10 n) iters ref19_has_a Tryz.f192 ref19_has_p ref19_has_r p
theorem ref19_has_ok (n : Nat) (p : PayL R.T ref19_has_p) (x : PayL R.T ref19_has_r) (h : ref19_has n p = some x) : Pure E 192 (encSL R ref19_has_p p) (retV (encSL R ref19_has_r x)) := by
  unfold ref19_has at h
  exact funM_ok rOK (regs10_ok n) iters_ok h Tryz.func192 rfl rfl rfl rfl (by kernel_rfl)
noncomputable def regs11 (n : Nat) : Nat → List (FR R) := addF 192 ⟨ref19_has_p, ref19_has_r, ref19_has n, dflL R ref19_has_r⟩ (regs10 n)
theorem regs11_ok (n : Nat) : RegsOK E (regs11 n) := addF_ok (regs10_ok n) (ref19_has_ok n)
def ref04_Valid_a : Ann := ⟨[(2, ⟨[0], [], ⟨[(3, .d (.int .i64))], []⟩, [(.exit 0, ⟨[], []⟩), (.ret, ⟨[(2, .d .bool)], []⟩)]⟩)], []⟩
abbrev ref04_Valid_p : List Sk := [.d (.slice (.int .i64))]
abbrev ref04_Valid_r : List Sk := [.d .bool]
@[irreducible] noncomputable def ref04_Valid (n : Nat) (p : PayL R.T ref04_Valid_p) : Option (PayL R.T ref04_Valid_r) := funM E R n false (regs11 n) iters ref04_Valid_a Tryz.f221 ref04_Valid_p ref04_Valid_r p
theorem ref04_Valid_ok (n : Nat) (p : PayL R.T ref04_Valid_p) (x : PayL R.T ref04_Valid_r) (h : ref04_Valid n p = some x) : Pure E 221 (encSL R ref04_Valid_p p) (retV (encSL R ref04_Valid_r x)) := by
  unfold ref04_Valid at h
  exact funM_ok rOK (regs11_ok n) iters_ok h Tryz.func221 rfl rfl rfl rfl (by kernel_rfl)
noncomputable def regs12 (n : Nat) : Nat → List (FR R) := addF 221 ⟨ref04_Valid_p, ref04_Valid_r, ref04_Valid n, dflL R ref04_Valid_r⟩ (regs11 n)
theorem regs12_ok (n : Nat) : RegsOK E (regs12 n) := addF_ok (regs11_ok n) (ref04_Valid_ok n)
def ref13_Find_a : Ann := ⟨[(2, ⟨[1, 2], [2], ⟨[(5, .d (.int .i64))], []⟩, [(.exit 0, ⟨[], []⟩), (.ret, ⟨[(4, .d (.int .i64))], []⟩)]⟩)], []⟩
abbrev ref13_Find_p : List Sk := [.d (.st 1), .d .str]
abbrev ref13_Find_r : List Sk := [.d (.int .i64)]
@[irreducible] noncomputable def ref13_Find (n : Nat) (p : PayL R.T ref13_Find_p) : Option (PayL R.T ref13_Find_r) := funM E R n false (regs12 n) iters ref13_Find_a Tryz.f56 ref13_Find_p ref13_Find_r p
theorem ref13_Find_ok (n : Nat) (p : PayL R.T ref13_Find_p) (x : PayL R.T ref13_Find_r) (h : ref13_Find n p = some x) : Pure E 56 (encSL R ref13_Find_p p) (retV (encSL R ref13_Find_r x)) := by
  unfold ref13_Find at h
  exact funM_ok rOK (regs12_ok n) iters_ok h Tryz.func56 rfl rfl rfl rfl (by kernel_rfl)
noncomputable def regs13 (n : Nat) : Nat → List (FR R) := addF 56 ⟨ref13_Find_p, ref13_Find_r, ref13_Find n, dflL R ref13_Find_r⟩ (regs12 n)
theorem regs13_ok (n : Nat) : RegsOK E (regs13 n) := addF_ok (regs12_ok n) (ref13_Find_ok n)
def ref13_Value_a : Ann := ⟨[], []⟩
abbrev ref13_Value_p : List Sk := [.d (.st 0), .d (.st 2)]
abbrev ref13_Value_r : List Sk := [.d (.int .i64)]
@[irreducible] noncomputable def ref13_Value (n : Nat) (p : PayL R.T ref13_Value_p) : Option (PayL R.T ref13_Value_r) := funM E R n false (regs13 n) iters ref13_Value_a Tryz.f236 ref13_Value_p ref13_Value_r p
theorem ref13_Value_ok (n : Nat) (p : PayL R.T ref13_Value_p) (x : PayL R.T ref13_Value_r) (h : ref13_Value n p = some x) : Pure E 236 (encSL R ref13_Value_p p) (retV (encSL R ref13_Value_r x)) := by
  unfold ref13_Value at h
  exact funM_ok rOK (regs13_ok n) iters_ok h Tryz.func236 rfl rfl rfl rfl (by kernel_rfl)
noncomputable def regs14 (n : Nat) : Nat → List (FR R) := addF 236 ⟨ref13_Value_p, ref13_Value_r, ref13_Value n, dflL R ref13_Value_r⟩ (regs13 n)
theorem regs14_ok (n : Nat) : RegsOK E (regs14 n) := addF_ok (regs13_ok n) (ref13_Value_ok n)
def ref13_Fits_a : Ann := ⟨[(2, ⟨[1, 2], [2], ⟨[(5, .d (.int .i64))], []⟩, [(.exit 0, ⟨[], []⟩), (.ret, ⟨[(4, .d (.int .i64))], []⟩)]⟩)], []⟩
abbrev ref13_Fits_p : List Sk := [.d (.st 1), .d (.slice (.st 2))]
abbrev ref13_Fits_r : List Sk := [.d (.int .i64)]
@[irreducible] noncomputable def ref13_Fits (n : Nat) (p : PayL R.T ref13_Fits_p) : Option (PayL R.T ref13_Fits_r) := funM E R n false (regs14 n) iters ref13_Fits_a Tryz.f222 ref13_Fits_p ref13_Fits_r p
theorem ref13_Fits_ok (n : Nat) (p : PayL R.T ref13_Fits_p) (x : PayL R.T ref13_Fits_r) (h : ref13_Fits n p = some x) : Pure E 222 (encSL R ref13_Fits_p p) (retV (encSL R ref13_Fits_r x)) := by
  unfold ref13_Fits at h
  exact funM_ok rOK (regs14_ok n) iters_ok h Tryz.func222 rfl rfl rfl rfl (by kernel_rfl)
noncomputable def regs15 (n : Nat) : Nat → List (FR R) := addF 222 ⟨ref13_Fits_p, ref13_Fits_r, ref13_Fits n, dflL R ref13_Fits_r⟩ (regs14 n)
theorem regs15_ok (n : Nat) : RegsOK E (regs15 n) := addF_ok (regs14_ok n) (ref13_Fits_ok n)
def ref13_Entry_a : Ann := ⟨[], []⟩
abbrev ref13_Entry_p : List Sk := [.d (.st 1), .d (.st 3)]
abbrev ref13_Entry_r : List Sk := [.d (.int .i64)]
@[irreducible] noncomputable def ref13_Entry (n : Nat) (p : PayL R.T ref13_Entry_p) : Option (PayL R.T ref13_Entry_r) := funM E R n false (regs15 n) iters ref13_Entry_a Tryz.f193 ref13_Entry_p ref13_Entry_r p
theorem ref13_Entry_ok (n : Nat) (p : PayL R.T ref13_Entry_p) (x : PayL R.T ref13_Entry_r) (h : ref13_Entry n p = some x) : Pure E 193 (encSL R ref13_Entry_p p) (retV (encSL R ref13_Entry_r x)) := by
  unfold ref13_Entry at h
  exact funM_ok rOK (regs15_ok n) iters_ok h Tryz.func193 rfl rfl rfl rfl (by kernel_rfl)
noncomputable def regs16 (n : Nat) : Nat → List (FR R) := addF 193 ⟨ref13_Entry_p, ref13_Entry_r, ref13_Entry n, dflL R ref13_Entry_r⟩ (regs15 n)
theorem regs16_ok (n : Nat) : RegsOK E (regs16 n) := addF_ok (regs15_ok n) (ref13_Entry_ok n)
def ref19_version_a : Ann := ⟨[(3, ⟨[1, 2], [2], ⟨[(5, .d (.int .i64)), (6, .d (.int .i64))], []⟩, [(.exit 0, ⟨[(5, .d (.int .i64))], []⟩)]⟩)], []⟩
abbrev ref19_version_p : List Sk := [.d (.st 5), .d (.int .i64)]
abbrev ref19_version_r : List Sk := [.d (.int .i64)]
@[irreducible] noncomputable def ref19_version (n : Nat) (p : PayL R.T ref19_version_p) : Option (PayL R.T ref19_version_r) := funM E R n false (regs16 n) iters ref19_version_a Tryz.f194 ref19_version_p ref19_version_r p
theorem ref19_version_ok (n : Nat) (p : PayL R.T ref19_version_p) (x : PayL R.T ref19_version_r) (h : ref19_version n p = some x) : Pure E 194 (encSL R ref19_version_p p) (retV (encSL R ref19_version_r x)) := by
  unfold ref19_version at h
  exact funM_ok rOK (regs16_ok n) iters_ok h Tryz.func194 rfl rfl rfl rfl (by kernel_rfl)
noncomputable def regs17 (n : Nat) : Nat → List (FR R) := addF 194 ⟨ref19_version_p, ref19_version_r, ref19_version n, dflL R ref19_version_r⟩ (regs16 n)
theorem regs17_ok (n : Nat) : RegsOK E (regs17 n) := addF_ok (regs16_ok n) (ref19_version_ok n)
def ref19_die_a : Ann := ⟨[(3, ⟨[1, 2, 3, 9], [], ⟨[(10, .d (.int .i64))], [(13, .arr (.st 4))]⟩, [(.exit 0, ⟨[], [(13, .arr (.st 4))]⟩)]⟩)], []⟩
abbrev ref19_die_p : List Sk := [.d (.slice (.st 4)), .d (.int .i64), .d (.int .i64), .d (.int .i64)]
abbrev ref19_die_r : List Sk := [.d (.slice (.st 4))]
@[irreducible] noncomputable def ref19_die (n : Nat) (p : PayL R.T ref19_die_p) : Option (PayL R.T ref19_die_r) := funM E R n true (regs17 n) iters ref19_die_a Tryz.f195 ref19_die_p ref19_die_r p
theorem ref19_die_ok (n : Nat) (p : PayL R.T ref19_die_p) (x : PayL R.T ref19_die_r) (h : ref19_die n p = some x) : Pure E 195 (encSL R ref19_die_p p) (retV (encSL R ref19_die_r x)) := by
  unfold ref19_die at h
  exact funM_ok rOK (regs17_ok n) iters_ok h Tryz.func195 rfl rfl rfl rfl (by kernel_rfl)
noncomputable def regs18 (n : Nat) : Nat → List (FR R) := addF 195 ⟨ref19_die_p, ref19_die_r, ref19_die n, dflL R ref19_die_r⟩ (regs17 n)
theorem regs18_ok (n : Nat) : RegsOK E (regs18 n) := addF_ok (regs17_ok n) (ref19_die_ok n)
def ref19_change_a : Ann := ⟨[(5, ⟨[2, 3, 5, 6, 9, 10], [5, 6, 9, 10], ⟨[(11, .d (.int .i64)), (12, .l .any (.st 4)), (13, .l (.own 95) (.st 4)), (14, .d (.int .i64))], []⟩, [(.exit 0, ⟨[(11, .d (.int .i64)), (12, .l .any (.st 4)), (13, .l (.own 95) (.st 4))], []⟩)]⟩)], []⟩
abbrev ref19_change_p : List Sk := [.d (.st 5), .d (.st 13), .d (.slice (.st 4)), .d (.slice (.st 21)), .d (.st 3)]
abbrev ref19_change_r : List Sk := [.d (.st 18)]
@[irreducible] noncomputable def ref19_change (n : Nat) (p : PayL R.T ref19_change_p) : Option (PayL R.T ref19_change_r) := funM E R n false (regs18 n) iters ref19_change_a Tryz.f145 ref19_change_p ref19_change_r p
theorem ref19_change_ok (n : Nat) (p : PayL R.T ref19_change_p) (x : PayL R.T ref19_change_r) (h : ref19_change n p = some x) : Pure E 145 (encSL R ref19_change_p p) (retV (encSL R ref19_change_r x)) := by
  unfold ref19_change at h
  exact funM_ok rOK (regs18_ok n) iters_ok h Tryz.func145 rfl rfl rfl rfl (by kernel_rfl)
noncomputable def regs19 (n : Nat) : Nat → List (FR R) := addF 145 ⟨ref19_change_p, ref19_change_r, ref19_change n, dflL R ref19_change_r⟩ (regs18 n)
theorem regs19_ok (n : Nat) : RegsOK E (regs19 n) := addF_ok (regs18_ok n) (ref19_change_ok n)
def ref19_file_a : Ann := ⟨[], []⟩
abbrev ref19_file_p : List Sk := [.d (.st 5), .d (.st 13)]
abbrev ref19_file_r : List Sk := [.d (.st 18)]
@[irreducible] noncomputable def ref19_file (n : Nat) (p : PayL R.T ref19_file_p) : Option (PayL R.T ref19_file_r) := funM E R n false (regs19 n) iters ref19_file_a Tryz.f144 ref19_file_p ref19_file_r p
theorem ref19_file_ok (n : Nat) (p : PayL R.T ref19_file_p) (x : PayL R.T ref19_file_r) (h : ref19_file n p = some x) : Pure E 144 (encSL R ref19_file_p p) (retV (encSL R ref19_file_r x)) := by
  unfold ref19_file at h
  exact funM_ok rOK (regs19_ok n) iters_ok h Tryz.func144 rfl rfl rfl rfl (by kernel_rfl)
noncomputable def regs20 (n : Nat) : Nat → List (FR R) := addF 144 ⟨ref19_file_p, ref19_file_r, ref19_file n, dflL R ref19_file_r⟩ (regs19 n)
theorem regs20_ok (n : Nat) : RegsOK E (regs20 n) := addF_ok (regs19_ok n) (ref19_file_ok n)
def ref19_Live_a : Ann := ⟨[(3, ⟨[1, 2], [2], ⟨[(5, .vw 42 (.st 4)), (6, .d (.int .i64))], [(42, .arr (.st 4))]⟩, [(.exit 0, ⟨[(5, .vw 42 (.st 4))], [(42, .arr (.st 4))]⟩)]⟩),
  (8, ⟨[1, 2, 5, 6], [2], ⟨[(7, .d (.int .i64))], [(42, .arr (.st 4))]⟩, [(.exit 2, ⟨[(7, .d (.int .i64))], [(42, .arr (.st 4))]⟩)]⟩)], []⟩
abbrev ref19_Live_p : List Sk := [.d (.st 5), .d (.int .i64)]
abbrev ref19_Live_r : List Sk := [.d (.slice (.st 4))]
@[irreducible] noncomputable def ref19_Live (n : Nat) (p : PayL R.T ref19_Live_p) : Option (PayL R.T ref19_Live_r) := funM E R n true (regs20 n) iters ref19_Live_a Tryz.f146 ref19_Live_p ref19_Live_r p
theorem ref19_Live_ok (n : Nat) (p : PayL R.T ref19_Live_p) (x : PayL R.T ref19_Live_r) (h : ref19_Live n p = some x) : Pure E 146 (encSL R ref19_Live_p p) (retV (encSL R ref19_Live_r x)) := by
  unfold ref19_Live at h
  exact funM_ok rOK (regs20_ok n) iters_ok h Tryz.func146 rfl rfl rfl rfl (by kernel_rfl)
noncomputable def regs21 (n : Nat) : Nat → List (FR R) := addF 146 ⟨ref19_Live_p, ref19_Live_r, ref19_Live n, dflL R ref19_Live_r⟩ (regs20 n)
theorem regs21_ok (n : Nat) : RegsOK E (regs21 n) := addF_ok (regs20_ok n) (ref19_Live_ok n)
def ref19_end_a : Ann := ⟨[], []⟩
abbrev ref19_end_p : List Sk := [.d (.slice (.st 4))]
abbrev ref19_end_r : List Sk := [.d (.int .i64)]
@[irreducible] noncomputable def ref19_end (n : Nat) (p : PayL R.T ref19_end_p) : Option (PayL R.T ref19_end_r) := funM E R n false (regs21 n) iters ref19_end_a Tryz.f196 ref19_end_p ref19_end_r p
theorem ref19_end_ok (n : Nat) (p : PayL R.T ref19_end_p) (x : PayL R.T ref19_end_r) (h : ref19_end n p = some x) : Pure E 196 (encSL R ref19_end_p p) (retV (encSL R ref19_end_r x)) := by
  unfold ref19_end at h
  exact funM_ok rOK (regs21_ok n) iters_ok h Tryz.func196 rfl rfl rfl rfl (by kernel_rfl)
noncomputable def regs22 (n : Nat) : Nat → List (FR R) := addF 196 ⟨ref19_end_p, ref19_end_r, ref19_end n, dflL R ref19_end_r⟩ (regs21 n)
theorem regs22_ok (n : Nat) : RegsOK E (regs22 n) := addF_ok (regs21_ok n) (ref19_end_ok n)
def ref19_correct_a : Ann := ⟨[(6, ⟨[2, 3, 4, 6, 7], [3, 4, 6], ⟨[(8, .l (.own 54) (.st 21)), (9, .d (.int .i64))], []⟩, [(.exit 0, ⟨[(8, .l (.own 54) (.st 21))], []⟩)]⟩)], []⟩
abbrev ref19_correct_p : List Sk := [.d (.st 5), .d (.st 13), .d (.slice (.st 4))]
abbrev ref19_correct_r : List Sk := [.d (.st 18)]
@[irreducible] noncomputable def ref19_correct (n : Nat) (p : PayL R.T ref19_correct_p) : Option (PayL R.T ref19_correct_r) := funM E R n false (regs22 n) iters ref19_correct_a Tryz.f147 ref19_correct_p ref19_correct_r p
theorem ref19_correct_ok (n : Nat) (p : PayL R.T ref19_correct_p) (x : PayL R.T ref19_correct_r) (h : ref19_correct n p = some x) : Pure E 147 (encSL R ref19_correct_p p) (retV (encSL R ref19_correct_r x)) := by
  unfold ref19_correct at h
  exact funM_ok rOK (regs22_ok n) iters_ok h Tryz.func147 rfl rfl rfl rfl (by kernel_rfl)
noncomputable def regs23 (n : Nat) : Nat → List (FR R) := addF 147 ⟨ref19_correct_p, ref19_correct_r, ref19_correct n, dflL R ref19_correct_r⟩ (regs22 n)
theorem regs23_ok (n : Nat) : RegsOK E (regs23 n) := addF_ok (regs22_ok n) (ref19_correct_ok n)
def ref19_withdraw_a : Ann := ⟨[(5, ⟨[2, 3, 4, 6], [3, 4, 6], ⟨[(7, .l (.own 46) (.st 21)), (8, .d (.int .i64))], []⟩, [(.exit 0, ⟨[(7, .l (.own 46) (.st 21))], []⟩)]⟩)], []⟩
abbrev ref19_withdraw_p : List Sk := [.d (.st 5), .d (.st 13), .d (.slice (.st 4))]
abbrev ref19_withdraw_r : List Sk := [.d (.st 18)]
@[irreducible] noncomputable def ref19_withdraw (n : Nat) (p : PayL R.T ref19_withdraw_p) : Option (PayL R.T ref19_withdraw_r) := funM E R n false (regs23 n) iters ref19_withdraw_a Tryz.f148 ref19_withdraw_p ref19_withdraw_r p
theorem ref19_withdraw_ok (n : Nat) (p : PayL R.T ref19_withdraw_p) (x : PayL R.T ref19_withdraw_r) (h : ref19_withdraw n p = some x) : Pure E 148 (encSL R ref19_withdraw_p p) (retV (encSL R ref19_withdraw_r x)) := by
  unfold ref19_withdraw at h
  exact funM_ok rOK (regs23_ok n) iters_ok h Tryz.func148 rfl rfl rfl rfl (by kernel_rfl)
noncomputable def regs24 (n : Nat) : Nat → List (FR R) := addF 148 ⟨ref19_withdraw_p, ref19_withdraw_r, ref19_withdraw n, dflL R ref19_withdraw_r⟩ (regs23 n)
theorem regs24_ok (n : Nat) : RegsOK E (regs24 n) := addF_ok (regs23_ok n) (ref19_withdraw_ok n)
def ref19_embargo_a : Ann := ⟨[(8, ⟨[2, 3, 4, 6, 7], [3, 4, 6], ⟨[(8, .l (.own 78) (.st 21)), (9, .d (.int .i64))], []⟩, [(.exit 0, ⟨[(8, .l (.own 78) (.st 21))], []⟩)]⟩)], []⟩
abbrev ref19_embargo_p : List Sk := [.d (.st 5), .d (.st 13), .d (.slice (.st 4))]
abbrev ref19_embargo_r : List Sk := [.d (.st 18)]
@[irreducible] noncomputable def ref19_embargo (n : Nat) (p : PayL R.T ref19_embargo_p) : Option (PayL R.T ref19_embargo_r) := funM E R n false (regs24 n) iters ref19_embargo_a Tryz.f149 ref19_embargo_p ref19_embargo_r p
theorem ref19_embargo_ok (n : Nat) (p : PayL R.T ref19_embargo_p) (x : PayL R.T ref19_embargo_r) (h : ref19_embargo n p = some x) : Pure E 149 (encSL R ref19_embargo_p p) (retV (encSL R ref19_embargo_r x)) := by
  unfold ref19_embargo at h
  exact funM_ok rOK (regs24_ok n) iters_ok h Tryz.func149 rfl rfl rfl rfl (by kernel_rfl)
noncomputable def regs25 (n : Nat) : Nat → List (FR R) := addF 149 ⟨ref19_embargo_p, ref19_embargo_r, ref19_embargo n, dflL R ref19_embargo_r⟩ (regs24 n)
theorem regs25_ok (n : Nat) : RegsOK E (regs25 n) := addF_ok (regs24_ok n) (ref19_embargo_ok n)
def ref19_Apply_a : Ann := ⟨[], []⟩
abbrev ref19_Apply_p : List Sk := [.d (.st 5), .d (.st 13)]
abbrev ref19_Apply_r : List Sk := [.d (.st 18)]
@[irreducible] noncomputable def ref19_Apply (n : Nat) (p : PayL R.T ref19_Apply_p) : Option (PayL R.T ref19_Apply_r) := funM E R n false (regs25 n) iters ref19_Apply_a Tryz.f89 ref19_Apply_p ref19_Apply_r p
theorem ref19_Apply_ok (n : Nat) (p : PayL R.T ref19_Apply_p) (x : PayL R.T ref19_Apply_r) (h : ref19_Apply n p = some x) : Pure E 89 (encSL R ref19_Apply_p p) (retV (encSL R ref19_Apply_r x)) := by
  unfold ref19_Apply at h
  exact funM_ok rOK (regs25_ok n) iters_ok h Tryz.func89 rfl rfl rfl rfl (by kernel_rfl)
noncomputable def regs26 (n : Nat) : Nat → List (FR R) := addF 89 ⟨ref19_Apply_p, ref19_Apply_r, ref19_Apply n, dflL R ref19_Apply_r⟩ (regs25 n)
theorem regs26_ok (n : Nat) : RegsOK E (regs26 n) := addF_ok (regs25_ok n) (ref19_Apply_ok n)
def ref19_Fold_a : Ann := ⟨[(3, ⟨[1, 4, 5], [], ⟨[(6, .d (.int .i64))], [(4, .st 16), (5, .st 18)]⟩, [(.exit 0, ⟨[], [(4, .st 16), (5, .st 18)]⟩), (.ret, ⟨[], [(4, .st 16)]⟩)]⟩)], []⟩
abbrev ref19_Fold_p : List Sk := [.d (.st 1), .d (.slice (.st 13))]
abbrev ref19_Fold_r : List Sk := [.d (.st 16)]
@[irreducible] noncomputable def ref19_Fold (n : Nat) (p : PayL R.T ref19_Fold_p) : Option (PayL R.T ref19_Fold_r) := funM E R n false (regs26 n) iters ref19_Fold_a Tryz.f44 ref19_Fold_p ref19_Fold_r p
theorem ref19_Fold_ok (n : Nat) (p : PayL R.T ref19_Fold_p) (x : PayL R.T ref19_Fold_r) (h : ref19_Fold n p = some x) : Pure E 44 (encSL R ref19_Fold_p p) (retV (encSL R ref19_Fold_r x)) := by
  unfold ref19_Fold at h
  exact funM_ok rOK (regs26_ok n) iters_ok h Tryz.func44 rfl rfl rfl rfl (by kernel_rfl)
noncomputable def regs27 (n : Nat) : Nat → List (FR R) := addF 44 ⟨ref19_Fold_p, ref19_Fold_r, ref19_Fold n, dflL R ref19_Fold_r⟩ (regs26 n)
theorem regs27_ok (n : Nat) : RegsOK E (regs27 n) := addF_ok (regs26_ok n) (ref19_Fold_ok n)
def law21_folded_a : Ann := ⟨[], []⟩
abbrev law21_folded_p : List Sk := [.d (.st 1), .d (.slice (.st 13))]
abbrev law21_folded_r : List Sk := [.d (.st 5), .d .bool]
@[irreducible] noncomputable def law21_folded (n : Nat) (p : PayL R.T law21_folded_p) : Option (PayL R.T law21_folded_r) := funM E R n false (regs27 n) iters law21_folded_a Tryz.f9 law21_folded_p law21_folded_r p
theorem law21_folded_ok (n : Nat) (p : PayL R.T law21_folded_p) (x : PayL R.T law21_folded_r) (h : law21_folded n p = some x) : Pure E 9 (encSL R law21_folded_p p) (retV (encSL R law21_folded_r x)) := by
  unfold law21_folded at h
  exact funM_ok rOK (regs27_ok n) iters_ok h Tryz.func9 rfl rfl rfl rfl (by kernel_rfl)
noncomputable def regs28 (n : Nat) : Nat → List (FR R) := addF 9 ⟨law21_folded_p, law21_folded_r, law21_folded n, dflL R law21_folded_r⟩ (regs27 n)
theorem regs28_ok (n : Nat) : RegsOK E (regs28 n) := addF_ok (regs27_ok n) (law21_folded_ok n)
def ref17_Parts_a : Ann := ⟨[(3, ⟨[1], [1], ⟨[(3, .l (.own 26) (.st 8)), (4, .d (.int .i64))], []⟩, [(.exit 0, ⟨[(3, .l (.own 26) (.st 8))], []⟩)]⟩)], []⟩
abbrev ref17_Parts_p : List Sk := [.d (.st 8)]
abbrev ref17_Parts_r : List Sk := [.d (.slice (.st 8))]
def grp1_a : Nat → List Sk
  | _ => ref17_Parts_p
def grp1_r : Nat → List Sk
  | _ => ref17_Parts_r
def grp1_n : Nat → Ann
  | _ => ref17_Parts_a
noncomputable def grp1_f : Nat → Func
  | _ => Tryz.f54
noncomputable def grp1_k (n : Nat) (g : (i : Nat) → PayL R.T (grp1_a i) → Option (PayL R.T (grp1_r i))) : Nat → List (FR R) := addF 54 ⟨grp1_a 0, grp1_r 0, g 0, dflL R (grp1_r 0)⟩ (regs28 n)
noncomputable def grp1 (n : Nat) : Nat → (i : Nat) → PayL R.T (grp1_a i) → Option (PayL R.T (grp1_r i))
  | 0, _, _ => none
  | m + 1, i, p => funM E R n false (grp1_k n (grp1 n m)) iters (grp1_n i) (grp1_f i) (grp1_a i) (grp1_r i) p
attribute [irreducible] grp1
theorem ref17_Parts_e (n m : Nat) (p : PayL R.T ref17_Parts_p) : grp1 n (m + 1) 0 p = funM E R n false (grp1_k n (grp1 n m)) iters ref17_Parts_a Tryz.f54 ref17_Parts_p ref17_Parts_r p := by kernel_rfl
theorem ref17_Parts_e0 (n : Nat) (p : PayL R.T ref17_Parts_p) : grp1 n 0 0 p = none := by kernel_rfl
theorem ref17_Parts_z0 (n : Nat) (p : PayL R.T (grp1_a 0)) (x : PayL R.T (grp1_r 0)) (h : grp1 n 0 0 p = some x) : Pure E 54 (encSL R (grp1_a 0) p) (retV (encSL R (grp1_r 0) x)) := absurd ((ref17_Parts_e0 n p).symm.trans h) nofun
theorem ref17_Parts_z (n m : Nat) (hk : RegsOK E (grp1_k n (grp1 n m))) (p : PayL R.T (grp1_a 0)) (x : PayL R.T (grp1_r 0)) (h : grp1 n (m + 1) 0 p = some x) : Pure E 54 (encSL R (grp1_a 0) p) (retV (encSL R (grp1_r 0) x)) :=
  funM_ok (args := ref17_Parts_p) (res := ref17_Parts_r) rOK hk iters_ok ((ref17_Parts_e n m p).symm.trans h) Tryz.func54 rfl rfl rfl rfl (by kernel_rfl)
theorem grp1_ok (n : Nat) : ∀ m, RegsOK E (grp1_k n (grp1 n m))
  | 0 => addF_ok (f := 54) (r := ⟨grp1_a 0, grp1_r 0, grp1 n 0 0, dflL R (grp1_r 0)⟩) (regs28_ok n) (ref17_Parts_z0 n)
  | m + 1 => addF_ok (f := 54) (r := ⟨grp1_a 0, grp1_r 0, grp1 n (m + 1) 0, dflL R (grp1_r 0)⟩) (regs28_ok n) (ref17_Parts_z n m (grp1_ok n m))
@[irreducible] noncomputable def ref17_Parts_m (n m : Nat) (p : PayL R.T ref17_Parts_p) : Option (PayL R.T ref17_Parts_r) := grp1 n m 0 p
@[irreducible] noncomputable def ref17_Parts (n : Nat) (p : PayL R.T ref17_Parts_p) : Option (PayL R.T ref17_Parts_r) := ref17_Parts_m n n p
theorem ref17_Parts_ok (n : Nat) (p : PayL R.T ref17_Parts_p) (x : PayL R.T ref17_Parts_r) (h : ref17_Parts n p = some x) : Pure E 54 (encSL R ref17_Parts_p p) (retV (encSL R ref17_Parts_r x)) := by
  unfold ref17_Parts ref17_Parts_m at h
  cases n with
  | zero => exact absurd ((ref17_Parts_e0 0 p).symm.trans h) nofun
  | succ n => exact funM_ok (args := ref17_Parts_p) (res := ref17_Parts_r) rOK (grp1_ok (n + 1) n) iters_ok ((ref17_Parts_e (n + 1) n p).symm.trans h) Tryz.func54 rfl rfl rfl rfl (by kernel_rfl)
noncomputable def regs29 (n : Nat) : Nat → List (FR R) := addF 54 ⟨ref17_Parts_p, ref17_Parts_r, ref17_Parts n, dflL R ref17_Parts_r⟩ (regs28 n)
theorem regs29_ok (n : Nat) : RegsOK E (regs29 n) := addF_ok (regs28_ok n) (ref17_Parts_ok n)
def ref17_Size_a : Ann := ⟨[], []⟩
abbrev ref17_Size_p : List Sk := [.d (.st 8)]
abbrev ref17_Size_r : List Sk := [.d (.int .i64)]
@[irreducible] noncomputable def ref17_Size (n : Nat) (p : PayL R.T ref17_Size_p) : Option (PayL R.T ref17_Size_r) := funM E R n false (regs29 n) iters ref17_Size_a Tryz.f92 ref17_Size_p ref17_Size_r p
theorem ref17_Size_ok (n : Nat) (p : PayL R.T ref17_Size_p) (x : PayL R.T ref17_Size_r) (h : ref17_Size n p = some x) : Pure E 92 (encSL R ref17_Size_p p) (retV (encSL R ref17_Size_r x)) := by
  unfold ref17_Size at h
  exact funM_ok rOK (regs29_ok n) iters_ok h Tryz.func92 rfl rfl rfl rfl (by kernel_rfl)
noncomputable def regs30 (n : Nat) : Nat → List (FR R) := addF 92 ⟨ref17_Size_p, ref17_Size_r, ref17_Size n, dflL R ref17_Size_r⟩ (regs29 n)
theorem regs30_ok (n : Nat) : RegsOK E (regs30 n) := addF_ok (regs29_ok n) (ref17_Size_ok n)
def ref17_Few_a : Ann := ⟨[(4, ⟨[1, 2], [2], ⟨[(5, .d (.int .i64))], []⟩, [(.exit 0, ⟨[], []⟩), (.ret, ⟨[(4, .d .bool)], []⟩)]⟩)], []⟩
abbrev ref17_Few_p : List Sk := [.d (.st 8), .d (.int .i64)]
abbrev ref17_Few_r : List Sk := [.d .bool]
def grp2_a : Nat → List Sk
  | _ => ref17_Few_p
def grp2_r : Nat → List Sk
  | _ => ref17_Few_r
def grp2_n : Nat → Ann
  | _ => ref17_Few_a
noncomputable def grp2_f : Nat → Func
  | _ => Tryz.f46
noncomputable def grp2_k (n : Nat) (g : (i : Nat) → PayL R.T (grp2_a i) → Option (PayL R.T (grp2_r i))) : Nat → List (FR R) := addF 46 ⟨grp2_a 0, grp2_r 0, g 0, dflL R (grp2_r 0)⟩ (regs30 n)
noncomputable def grp2 (n : Nat) : Nat → (i : Nat) → PayL R.T (grp2_a i) → Option (PayL R.T (grp2_r i))
  | 0, _, _ => none
  | m + 1, i, p => funM E R n false (grp2_k n (grp2 n m)) iters (grp2_n i) (grp2_f i) (grp2_a i) (grp2_r i) p
attribute [irreducible] grp2
theorem ref17_Few_e (n m : Nat) (p : PayL R.T ref17_Few_p) : grp2 n (m + 1) 0 p = funM E R n false (grp2_k n (grp2 n m)) iters ref17_Few_a Tryz.f46 ref17_Few_p ref17_Few_r p := by kernel_rfl
theorem ref17_Few_e0 (n : Nat) (p : PayL R.T ref17_Few_p) : grp2 n 0 0 p = none := by kernel_rfl
theorem ref17_Few_z0 (n : Nat) (p : PayL R.T (grp2_a 0)) (x : PayL R.T (grp2_r 0)) (h : grp2 n 0 0 p = some x) : Pure E 46 (encSL R (grp2_a 0) p) (retV (encSL R (grp2_r 0) x)) := absurd ((ref17_Few_e0 n p).symm.trans h) nofun
theorem ref17_Few_z (n m : Nat) (hk : RegsOK E (grp2_k n (grp2 n m))) (p : PayL R.T (grp2_a 0)) (x : PayL R.T (grp2_r 0)) (h : grp2 n (m + 1) 0 p = some x) : Pure E 46 (encSL R (grp2_a 0) p) (retV (encSL R (grp2_r 0) x)) :=
  funM_ok (args := ref17_Few_p) (res := ref17_Few_r) rOK hk iters_ok ((ref17_Few_e n m p).symm.trans h) Tryz.func46 rfl rfl rfl rfl (by kernel_rfl)
theorem grp2_ok (n : Nat) : ∀ m, RegsOK E (grp2_k n (grp2 n m))
  | 0 => addF_ok (f := 46) (r := ⟨grp2_a 0, grp2_r 0, grp2 n 0 0, dflL R (grp2_r 0)⟩) (regs30_ok n) (ref17_Few_z0 n)
  | m + 1 => addF_ok (f := 46) (r := ⟨grp2_a 0, grp2_r 0, grp2 n (m + 1) 0, dflL R (grp2_r 0)⟩) (regs30_ok n) (ref17_Few_z n m (grp2_ok n m))
@[irreducible] noncomputable def ref17_Few_m (n m : Nat) (p : PayL R.T ref17_Few_p) : Option (PayL R.T ref17_Few_r) := grp2 n m 0 p
@[irreducible] noncomputable def ref17_Few (n : Nat) (p : PayL R.T ref17_Few_p) : Option (PayL R.T ref17_Few_r) := ref17_Few_m n n p
theorem ref17_Few_ok (n : Nat) (p : PayL R.T ref17_Few_p) (x : PayL R.T ref17_Few_r) (h : ref17_Few n p = some x) : Pure E 46 (encSL R ref17_Few_p p) (retV (encSL R ref17_Few_r x)) := by
  unfold ref17_Few ref17_Few_m at h
  cases n with
  | zero => exact absurd ((ref17_Few_e0 0 p).symm.trans h) nofun
  | succ n => exact funM_ok (args := ref17_Few_p) (res := ref17_Few_r) rOK (grp2_ok (n + 1) n) iters_ok ((ref17_Few_e (n + 1) n p).symm.trans h) Tryz.func46 rfl rfl rfl rfl (by kernel_rfl)
noncomputable def regs31 (n : Nat) : Nat → List (FR R) := addF 46 ⟨ref17_Few_p, ref17_Few_r, ref17_Few n, dflL R ref17_Few_r⟩ (regs30 n)
theorem regs31_ok (n : Nat) : RegsOK E (regs31 n) := addF_ok (regs30_ok n) (ref17_Few_ok n)
def ref21_Few_a : Ann := ⟨[(2, ⟨[0], [], ⟨[(3, .d (.int .i64))], []⟩, [(.exit 0, ⟨[], []⟩), (.ret, ⟨[(2, .d .bool)], []⟩)]⟩)], []⟩
abbrev ref21_Few_p : List Sk := [.d (.slice (.st 9))]
abbrev ref21_Few_r : List Sk := [.d .bool]
@[irreducible] noncomputable def ref21_Few (n : Nat) (p : PayL R.T ref21_Few_p) : Option (PayL R.T ref21_Few_r) := funM E R n false (regs31 n) iters ref21_Few_a Tryz.f10 ref21_Few_p ref21_Few_r p
theorem ref21_Few_ok (n : Nat) (p : PayL R.T ref21_Few_p) (x : PayL R.T ref21_Few_r) (h : ref21_Few n p = some x) : Pure E 10 (encSL R ref21_Few_p p) (retV (encSL R ref21_Few_r x)) := by
  unfold ref21_Few at h
  exact funM_ok rOK (regs31_ok n) iters_ok h Tryz.func10 rfl rfl rfl rfl (by kernel_rfl)
noncomputable def regs32 (n : Nat) : Nat → List (FR R) := addF 10 ⟨ref21_Few_p, ref21_Few_r, ref21_Few n, dflL R ref21_Few_r⟩ (regs31 n)
theorem regs32_ok (n : Nat) : RegsOK E (regs32 n) := addF_ok (regs31_ok n) (ref21_Few_ok n)
def law21_sanity_a : Ann := ⟨[], []⟩
abbrev law21_sanity_p : List Sk := []
abbrev law21_sanity_r : List Sk := [.d .bool]
@[irreducible] def law21_sanity (n : Nat) (p : PayL R.T law21_sanity_p) : Option (PayL R.T law21_sanity_r) := some true
theorem law21_sanity_ok (n : Nat) (p : PayL R.T law21_sanity_p) (x : PayL R.T law21_sanity_r) (h : law21_sanity n p = some x) : Pure E 11 (encSL R law21_sanity_p p) (retV (encSL R law21_sanity_r x)) := by
  unfold law21_sanity at h
  cases h
  exact sanP
noncomputable def regs33 (n : Nat) : Nat → List (FR R) := addF 11 ⟨law21_sanity_p, law21_sanity_r, law21_sanity n, dflL R law21_sanity_r⟩ (regs32 n)
theorem regs33_ok (n : Nat) : RegsOK E (regs33 n) := addF_ok (regs32_ok n) (law21_sanity_ok n)
def filter_parts_a : Ann := ⟨[], []⟩
abbrev filter_parts_p : List Sk := [.d (.st 8)]
abbrev filter_parts_r : List Sk := [.fn 152 [] [.cref [.d (.int .i64), .d .str, .d (.int .i64), .d (.int .i64), .d .str, .d (.slice (.st 8))] 0]]
@[irreducible] noncomputable def filter_parts (n : Nat) (p : PayL R.T filter_parts_p) : Option (PayL R.T filter_parts_r) := funM E R n false (regs33 n) iters filter_parts_a Tryz.f95 filter_parts_p filter_parts_r p
theorem filter_parts_ok (n : Nat) (p : PayL R.T filter_parts_p) (x : PayL R.T filter_parts_r) (h : filter_parts n p = some x) : Pure E 95 (encSL R filter_parts_p p) (retV (encSL R filter_parts_r x)) := by
  unfold filter_parts at h
  exact funM_ok rOK (regs33_ok n) iters_ok h Tryz.func95 rfl rfl rfl rfl (by kernel_rfl)
noncomputable def regs34 (n : Nat) : Nat → List (FR R) := addF 95 ⟨filter_parts_p, filter_parts_r, filter_parts n, dflL R filter_parts_r⟩ (regs33 n)
theorem regs34_ok (n : Nat) : RegsOK E (regs34 n) := addF_ok (regs33_ok n) (filter_parts_ok n)
def filter_Size_a : Ann := ⟨[(3, ⟨[3], [], ⟨[], [(3, .cells [.d (.int .i64)])]⟩, [(.normal, ⟨[], [(3, .cells [.d (.int .i64)])]⟩), (.exit 0, ⟨[], [(3, .cells [.d (.int .i64)])]⟩)]⟩)], []⟩
abbrev filter_Size_p : List Sk := [.d (.st 8)]
abbrev filter_Size_r : List Sk := [.d (.int .i64)]
@[irreducible] noncomputable def filter_Size (n : Nat) (p : PayL R.T filter_Size_p) : Option (PayL R.T filter_Size_r) := funM E R n false (regs34 n) iters filter_Size_a Tryz.f94 filter_Size_p filter_Size_r p
theorem filter_Size_ok (n : Nat) (p : PayL R.T filter_Size_p) (x : PayL R.T filter_Size_r) (h : filter_Size n p = some x) : Pure E 94 (encSL R filter_Size_p p) (retV (encSL R filter_Size_r x)) := by
  unfold filter_Size at h
  exact funM_ok rOK (regs34_ok n) iters_ok h Tryz.func94 rfl rfl rfl rfl (by kernel_rfl)
noncomputable def regs35 (n : Nat) : Nat → List (FR R) := addF 94 ⟨filter_Size_p, filter_Size_r, filter_Size n, dflL R filter_Size_r⟩ (regs34 n)
theorem regs35_ok (n : Nat) : RegsOK E (regs35 n) := addF_ok (regs34_ok n) (filter_Size_ok n)
def filter_form_a : Ann := ⟨[], []⟩
abbrev filter_form_p : List Sk := [.d (.st 8)]
abbrev filter_form_r : List Sk := [.d .bool]
@[irreducible] noncomputable def filter_form (n : Nat) (p : PayL R.T filter_form_p) : Option (PayL R.T filter_form_r) := funM E R n false (regs35 n) iters filter_form_a Tryz.f96 filter_form_p filter_form_r p
theorem filter_form_ok (n : Nat) (p : PayL R.T filter_form_p) (x : PayL R.T filter_form_r) (h : filter_form n p = some x) : Pure E 96 (encSL R filter_form_p p) (retV (encSL R filter_form_r x)) := by
  unfold filter_form at h
  exact funM_ok rOK (regs35_ok n) iters_ok h Tryz.func96 rfl rfl rfl rfl (by kernel_rfl)
noncomputable def regs36 (n : Nat) : Nat → List (FR R) := addF 96 ⟨filter_form_p, filter_form_r, filter_form n, dflL R filter_form_r⟩ (regs35 n)
theorem regs36_ok (n : Nat) : RegsOK E (regs36 n) := addF_ok (regs35_ok n) (filter_form_ok n)
def filter_find_1_a : Ann := ⟨[], []⟩
abbrev filter_find_1_p : List Sk := [.d (.st 0), .cref [.d .str] 0]
abbrev filter_find_1_r : List Sk := [.d .bool]
@[irreducible] noncomputable def filter_find_1 (n : Nat) (p : PayL R.T filter_find_1_p) : Option (PayL R.T filter_find_1_r) := funM E R n false (regs36 n) iters filter_find_1_a Tryz.f155 filter_find_1_p filter_find_1_r p
theorem filter_find_1_ok (n : Nat) (p : PayL R.T filter_find_1_p) (x : PayL R.T filter_find_1_r) (h : filter_find_1 n p = some x) : Pure E 155 (encSL R filter_find_1_p p) (retV (encSL R filter_find_1_r x)) := by
  unfold filter_find_1 at h
  exact funM_ok rOK (regs36_ok n) iters_ok h Tryz.func155 rfl rfl rfl rfl (by kernel_rfl)
noncomputable def regs37 (n : Nat) : Nat → List (FR R) := addF 155 ⟨filter_find_1_p, filter_find_1_r, filter_find_1 n, dflL R filter_find_1_r⟩ (regs36 n)
theorem regs37_ok (n : Nat) : RegsOK E (regs37 n) := addF_ok (regs36_ok n) (filter_find_1_ok n)
def slices_IndexFunc_api_Def_api_Def_a : Ann := ⟨[(2, ⟨[0, 1, 7], [], ⟨[(8, .d (.int .i64))], []⟩, [(.exit 0, ⟨[], []⟩), (.ret, ⟨[(4, .d (.int .i64))], []⟩)]⟩)], []⟩
abbrev slices_IndexFunc_api_Def_api_Def_p : List Sk := [.d (.slice (.st 0)), .fn 155 [] [.cref [.d .str] 0]]
abbrev slices_IndexFunc_api_Def_api_Def_r : List Sk := [.d (.int .i64)]
@[irreducible] noncomputable def slices_IndexFunc_api_Def_api_Def (n : Nat) (p : PayL R.T slices_IndexFunc_api_Def_api_Def_p) : Option (PayL R.T slices_IndexFunc_api_Def_api_Def_r) := funM E R n false (regs37 n) iters slices_IndexFunc_api_Def_api_Def_a Tryz.f154 slices_IndexFunc_api_Def_api_Def_p slices_IndexFunc_api_Def_api_Def_r p
theorem slices_IndexFunc_api_Def_api_Def_ok (n : Nat) (p : PayL R.T slices_IndexFunc_api_Def_api_Def_p) (x : PayL R.T slices_IndexFunc_api_Def_api_Def_r) (h : slices_IndexFunc_api_Def_api_Def n p = some x) : Pure E 154 (encSL R slices_IndexFunc_api_Def_api_Def_p p) (retV (encSL R slices_IndexFunc_api_Def_api_Def_r x)) := by
  unfold slices_IndexFunc_api_Def_api_Def at h
  exact funM_ok rOK (regs37_ok n) iters_ok h Tryz.func154 rfl rfl rfl rfl (by kernel_rfl)
noncomputable def regs38 (n : Nat) : Nat → List (FR R) := addF 154 ⟨slices_IndexFunc_api_Def_api_Def_p, slices_IndexFunc_api_Def_api_Def_r, slices_IndexFunc_api_Def_api_Def n, dflL R slices_IndexFunc_api_Def_api_Def_r⟩ (regs37 n)
theorem regs38_ok (n : Nat) : RegsOK E (regs38 n) := addF_ok (regs37_ok n) (slices_IndexFunc_api_Def_api_Def_ok n)
def filter_find_a : Ann := ⟨[], []⟩
abbrev filter_find_p : List Sk := [.d (.st 1), .d .str]
abbrev filter_find_r : List Sk := [.d (.st 0), .d .bool]
@[irreducible] noncomputable def filter_find (n : Nat) (p : PayL R.T filter_find_p) : Option (PayL R.T filter_find_r) := funM E R n false (regs38 n) iters filter_find_a Tryz.f97 filter_find_p filter_find_r p
theorem filter_find_ok (n : Nat) (p : PayL R.T filter_find_p) (x : PayL R.T filter_find_r) (h : filter_find n p = some x) : Pure E 97 (encSL R filter_find_p p) (retV (encSL R filter_find_r x)) := by
  unfold filter_find at h
  exact funM_ok rOK (regs38_ok n) iters_ok h Tryz.func97 rfl rfl rfl rfl (by kernel_rfl)
noncomputable def regs39 (n : Nat) : Nat → List (FR R) := addF 97 ⟨filter_find_p, filter_find_r, filter_find n, dflL R filter_find_r⟩ (regs38 n)
theorem regs39_ok (n : Nat) : RegsOK E (regs39 n) := addF_ok (regs38_ok n) (filter_find_ok n)
def filter_Check_a : Ann := ⟨[(5, ⟨[2, 4], [2], ⟨[], [(4, .cells [.d (.int .i64)])]⟩, [(.normal, ⟨[], [(4, .cells [.d (.int .i64)])]⟩), (.ret, ⟨[], [(4, .cells [.d (.int .i64)])]⟩)]⟩)], []⟩
abbrev filter_Check_p : List Sk := [.d (.st 1), .d (.st 8)]
abbrev filter_Check_r : List Sk := [.d (.int .i64)]
@[irreducible] noncomputable def filter_Check (n : Nat) (p : PayL R.T filter_Check_p) : Option (PayL R.T filter_Check_r) := funM E R n false (regs39 n) iters filter_Check_a Tryz.f48 filter_Check_p filter_Check_r p
theorem filter_Check_ok (n : Nat) (p : PayL R.T filter_Check_p) (x : PayL R.T filter_Check_r) (h : filter_Check n p = some x) : Pure E 48 (encSL R filter_Check_p p) (retV (encSL R filter_Check_r x)) := by
  unfold filter_Check at h
  exact funM_ok rOK (regs39_ok n) iters_ok h Tryz.func48 rfl rfl rfl rfl (by kernel_rfl)
noncomputable def regs40 (n : Nat) : Nat → List (FR R) := addF 48 ⟨filter_Check_p, filter_Check_r, filter_Check n, dflL R filter_Check_r⟩ (regs39 n)
theorem regs40_ok (n : Nat) : RegsOK E (regs40 n) := addF_ok (regs39_ok n) (filter_Check_ok n)
def retain_Check_a : Ann := ⟨[(5, ⟨[2, 5, 14, 15], [2], ⟨[(16, .d (.int .i64))], [(13, .map .str .bool)]⟩, [(.exit 0, ⟨[], []⟩), (.ret, ⟨[(4, .d (.int .i64))], []⟩)]⟩)], []⟩
abbrev retain_Check_p : List Sk := [.d (.st 1), .d (.slice (.st 9))]
abbrev retain_Check_r : List Sk := [.d (.int .i64)]
@[irreducible] noncomputable def retain_Check (n : Nat) (p : PayL R.T retain_Check_p) : Option (PayL R.T retain_Check_r) := funM E R n false (regs40 n) iters retain_Check_a Tryz.f12 retain_Check_p retain_Check_r p
theorem retain_Check_ok (n : Nat) (p : PayL R.T retain_Check_p) (x : PayL R.T retain_Check_r) (h : retain_Check n p = some x) : Pure E 12 (encSL R retain_Check_p p) (retV (encSL R retain_Check_r x)) := by
  unfold retain_Check at h
  exact funM_ok rOK (regs40_ok n) iters_ok h Tryz.func12 rfl rfl rfl rfl (by kernel_rfl)
noncomputable def regs41 (n : Nat) : Nat → List (FR R) := addF 12 ⟨retain_Check_p, retain_Check_r, retain_Check n, dflL R retain_Check_r⟩ (regs40 n)
theorem regs41_ok (n : Nat) : RegsOK E (regs41 n) := addF_ok (regs40_ok n) (retain_Check_ok n)
def ref17_form_a : Ann := ⟨[], []⟩
abbrev ref17_form_p : List Sk := [.d (.st 8)]
abbrev ref17_form_r : List Sk := [.d .bool]
@[irreducible] noncomputable def ref17_form (n : Nat) (p : PayL R.T ref17_form_p) : Option (PayL R.T ref17_form_r) := funM E R n false (regs41 n) iters ref17_form_a Tryz.f55 ref17_form_p ref17_form_r p
theorem ref17_form_ok (n : Nat) (p : PayL R.T ref17_form_p) (x : PayL R.T ref17_form_r) (h : ref17_form n p = some x) : Pure E 55 (encSL R ref17_form_p p) (retV (encSL R ref17_form_r x)) := by
  unfold ref17_form at h
  exact funM_ok rOK (regs41_ok n) iters_ok h Tryz.func55 rfl rfl rfl rfl (by kernel_rfl)
noncomputable def regs42 (n : Nat) : Nat → List (FR R) := addF 55 ⟨ref17_form_p, ref17_form_r, ref17_form n, dflL R ref17_form_r⟩ (regs41 n)
theorem regs42_ok (n : Nat) : RegsOK E (regs42 n) := addF_ok (regs41_ok n) (ref17_form_ok n)
def ref17_Check_a : Ann := ⟨[(5, ⟨[2, 5], [2], ⟨[(6, .d (.int .i64))], []⟩, [(.exit 0, ⟨[], []⟩), (.ret, ⟨[(4, .d (.int .i64))], []⟩)]⟩)], []⟩
abbrev ref17_Check_p : List Sk := [.d (.st 1), .d (.st 8)]
abbrev ref17_Check_r : List Sk := [.d (.int .i64)]
@[irreducible] noncomputable def ref17_Check (n : Nat) (p : PayL R.T ref17_Check_p) : Option (PayL R.T ref17_Check_r) := funM E R n false (regs42 n) iters ref17_Check_a Tryz.f18 ref17_Check_p ref17_Check_r p
theorem ref17_Check_ok (n : Nat) (p : PayL R.T ref17_Check_p) (x : PayL R.T ref17_Check_r) (h : ref17_Check n p = some x) : Pure E 18 (encSL R ref17_Check_p p) (retV (encSL R ref17_Check_r x)) := by
  unfold ref17_Check at h
  exact funM_ok rOK (regs42_ok n) iters_ok h Tryz.func18 rfl rfl rfl rfl (by kernel_rfl)
noncomputable def regs43 (n : Nat) : Nat → List (FR R) := addF 18 ⟨ref17_Check_p, ref17_Check_r, ref17_Check n, dflL R ref17_Check_r⟩ (regs42 n)
theorem regs43_ok (n : Nat) : RegsOK E (regs43 n) := addF_ok (regs42_ok n) (ref17_Check_ok n)
def ref21_Check_a : Ann := ⟨[(4, ⟨[1, 2], [2], ⟨[(5, .d (.int .i64))], []⟩, [(.exit 0, ⟨[], []⟩), (.ret, ⟨[(4, .d (.int .i64))], []⟩)]⟩),
  (9, ⟨[1, 2, 5], [2], ⟨[(6, .d (.int .i64))], []⟩, [(.exit 2, ⟨[], []⟩), (.ret, ⟨[(4, .d (.int .i64))], []⟩)]⟩)], []⟩
abbrev ref21_Check_p : List Sk := [.d (.st 1), .d (.slice (.st 9))]
abbrev ref21_Check_r : List Sk := [.d (.int .i64)]
@[irreducible] noncomputable def ref21_Check (n : Nat) (p : PayL R.T ref21_Check_p) : Option (PayL R.T ref21_Check_r) := funM E R n false (regs43 n) iters ref21_Check_a Tryz.f13 ref21_Check_p ref21_Check_r p
theorem ref21_Check_ok (n : Nat) (p : PayL R.T ref21_Check_p) (x : PayL R.T ref21_Check_r) (h : ref21_Check n p = some x) : Pure E 13 (encSL R ref21_Check_p p) (retV (encSL R ref21_Check_r x)) := by
  unfold ref21_Check at h
  exact funM_ok rOK (regs43_ok n) iters_ok h Tryz.func13 rfl rfl rfl rfl (by kernel_rfl)
noncomputable def regs44 (n : Nat) : Nat → List (FR R) := addF 13 ⟨ref21_Check_p, ref21_Check_r, ref21_Check n, dflL R ref21_Check_r⟩ (regs43 n)
theorem regs44_ok (n : Nat) : RegsOK E (regs44 n) := addF_ok (regs43_ok n) (ref21_Check_ok n)
def filter_list_all_a : Ann := ⟨[], []⟩
abbrev filter_list_all_p : List Sk := [.d (.slice (.st 2)), .d (.st 8)]
abbrev filter_list_all_r : List Sk := [.d .bool]
@[irreducible] noncomputable def filter_list_all (n : Nat) (p : PayL R.T filter_list_all_p) : Option (PayL R.T filter_list_all_r) := funM E R n false (regs44 n) iters filter_list_all_a Tryz.f117 filter_list_all_p filter_list_all_r p
theorem filter_list_all_ok (n : Nat) (p : PayL R.T filter_list_all_p) (x : PayL R.T filter_list_all_r) (h : filter_list_all n p = some x) : Pure E 117 (encSL R filter_list_all_p p) (retV (encSL R filter_list_all_r x)) := by
  unfold filter_list_all at h
  exact funM_ok rOK (regs44_ok n) iters_ok h Tryz.func117 rfl rfl rfl rfl (by kernel_rfl)
noncomputable def regs45 (n : Nat) : Nat → List (FR R) := addF 117 ⟨filter_list_all_p, filter_list_all_r, filter_list_all n, dflL R filter_list_all_r⟩ (regs44 n)
theorem regs45_ok (n : Nat) : RegsOK E (regs45 n) := addF_ok (regs44_ok n) (filter_list_all_ok n)
def attr_Get_1_a : Ann := ⟨[], []⟩
abbrev attr_Get_1_p : List Sk := [.d (.st 2), .cref [.d .str] 0]
abbrev attr_Get_1_r : List Sk := [.d .bool]
@[irreducible] noncomputable def attr_Get_1 (n : Nat) (p : PayL R.T attr_Get_1_p) : Option (PayL R.T attr_Get_1_r) := funM E R n false (regs45 n) iters attr_Get_1_a Tryz.f209 attr_Get_1_p attr_Get_1_r p
theorem attr_Get_1_ok (n : Nat) (p : PayL R.T attr_Get_1_p) (x : PayL R.T attr_Get_1_r) (h : attr_Get_1 n p = some x) : Pure E 209 (encSL R attr_Get_1_p p) (retV (encSL R attr_Get_1_r x)) := by
  unfold attr_Get_1 at h
  exact funM_ok rOK (regs45_ok n) iters_ok h Tryz.func209 rfl rfl rfl rfl (by kernel_rfl)
noncomputable def regs46 (n : Nat) : Nat → List (FR R) := addF 209 ⟨attr_Get_1_p, attr_Get_1_r, attr_Get_1 n, dflL R attr_Get_1_r⟩ (regs45 n)
theorem regs46_ok (n : Nat) : RegsOK E (regs46 n) := addF_ok (regs45_ok n) (attr_Get_1_ok n)
def slices_IndexFunc_api_Attr_api_Attr_a : Ann := ⟨[(2, ⟨[0, 1, 7], [], ⟨[(8, .d (.int .i64))], []⟩, [(.exit 0, ⟨[], []⟩), (.ret, ⟨[(4, .d (.int .i64))], []⟩)]⟩)], []⟩
abbrev slices_IndexFunc_api_Attr_api_Attr_p : List Sk := [.d (.slice (.st 2)), .fn 209 [] [.cref [.d .str] 0]]
abbrev slices_IndexFunc_api_Attr_api_Attr_r : List Sk := [.d (.int .i64)]
@[irreducible] noncomputable def slices_IndexFunc_api_Attr_api_Attr (n : Nat) (p : PayL R.T slices_IndexFunc_api_Attr_api_Attr_p) : Option (PayL R.T slices_IndexFunc_api_Attr_api_Attr_r) := funM E R n false (regs46 n) iters slices_IndexFunc_api_Attr_api_Attr_a Tryz.f208 slices_IndexFunc_api_Attr_api_Attr_p slices_IndexFunc_api_Attr_api_Attr_r p
theorem slices_IndexFunc_api_Attr_api_Attr_ok (n : Nat) (p : PayL R.T slices_IndexFunc_api_Attr_api_Attr_p) (x : PayL R.T slices_IndexFunc_api_Attr_api_Attr_r) (h : slices_IndexFunc_api_Attr_api_Attr n p = some x) : Pure E 208 (encSL R slices_IndexFunc_api_Attr_api_Attr_p p) (retV (encSL R slices_IndexFunc_api_Attr_api_Attr_r x)) := by
  unfold slices_IndexFunc_api_Attr_api_Attr at h
  exact funM_ok rOK (regs46_ok n) iters_ok h Tryz.func208 rfl rfl rfl rfl (by kernel_rfl)
noncomputable def regs47 (n : Nat) : Nat → List (FR R) := addF 208 ⟨slices_IndexFunc_api_Attr_api_Attr_p, slices_IndexFunc_api_Attr_api_Attr_r, slices_IndexFunc_api_Attr_api_Attr n, dflL R slices_IndexFunc_api_Attr_api_Attr_r⟩ (regs46 n)
theorem regs47_ok (n : Nat) : RegsOK E (regs47 n) := addF_ok (regs46_ok n) (slices_IndexFunc_api_Attr_api_Attr_ok n)
def attr_Get_a : Ann := ⟨[], []⟩
abbrev attr_Get_p : List Sk := [.d (.slice (.st 2)), .d .str]
abbrev attr_Get_r : List Sk := [.d (.st 2), .d .bool]
@[irreducible] noncomputable def attr_Get (n : Nat) (p : PayL R.T attr_Get_p) : Option (PayL R.T attr_Get_r) := funM E R n false (regs47 n) iters attr_Get_a Tryz.f169 attr_Get_p attr_Get_r p
theorem attr_Get_ok (n : Nat) (p : PayL R.T attr_Get_p) (x : PayL R.T attr_Get_r) (h : attr_Get n p = some x) : Pure E 169 (encSL R attr_Get_p p) (retV (encSL R attr_Get_r x)) := by
  unfold attr_Get at h
  exact funM_ok rOK (regs47_ok n) iters_ok h Tryz.func169 rfl rfl rfl rfl (by kernel_rfl)
noncomputable def regs48 (n : Nat) : Nat → List (FR R) := addF 169 ⟨attr_Get_p, attr_Get_r, attr_Get n, dflL R attr_Get_r⟩ (regs47 n)
theorem regs48_ok (n : Nat) : RegsOK E (regs48 n) := addF_ok (regs47_ok n) (attr_Get_ok n)
def filter_list_has_a : Ann := ⟨[], []⟩
abbrev filter_list_has_p : List Sk := [.d (.slice (.st 2)), .d (.st 8)]
abbrev filter_list_has_r : List Sk := [.d .bool]
@[irreducible] noncomputable def filter_list_has (n : Nat) (p : PayL R.T filter_list_has_p) : Option (PayL R.T filter_list_has_r) := funM E R n false (regs48 n) iters filter_list_has_a Tryz.f121 filter_list_has_p filter_list_has_r p
theorem filter_list_has_ok (n : Nat) (p : PayL R.T filter_list_has_p) (x : PayL R.T filter_list_has_r) (h : filter_list_has n p = some x) : Pure E 121 (encSL R filter_list_has_p p) (retV (encSL R filter_list_has_r x)) := by
  unfold filter_list_has at h
  exact funM_ok rOK (regs48_ok n) iters_ok h Tryz.func121 rfl rfl rfl rfl (by kernel_rfl)
noncomputable def regs49 (n : Nat) : Nat → List (FR R) := addF 121 ⟨filter_list_has_p, filter_list_has_r, filter_list_has n, dflL R filter_list_has_r⟩ (regs48 n)
theorem regs49_ok (n : Nat) : RegsOK E (regs49 n) := addF_ok (regs48_ok n) (filter_list_has_ok n)
def filter_list_number_a : Ann := ⟨[], []⟩
abbrev filter_list_number_p : List Sk := [.d (.slice (.st 2)), .d (.st 8)]
abbrev filter_list_number_r : List Sk := [.d .bool]
@[irreducible] noncomputable def filter_list_number (n : Nat) (p : PayL R.T filter_list_number_p) : Option (PayL R.T filter_list_number_r) := funM E R n false (regs49 n) iters filter_list_number_a Tryz.f122 filter_list_number_p filter_list_number_r p
theorem filter_list_number_ok (n : Nat) (p : PayL R.T filter_list_number_p) (x : PayL R.T filter_list_number_r) (h : filter_list_number n p = some x) : Pure E 122 (encSL R filter_list_number_p p) (retV (encSL R filter_list_number_r x)) := by
  unfold filter_list_number at h
  exact funM_ok rOK (regs49_ok n) iters_ok h Tryz.func122 rfl rfl rfl rfl (by kernel_rfl)
noncomputable def regs50 (n : Nat) : Nat → List (FR R) := addF 122 ⟨filter_list_number_p, filter_list_number_r, filter_list_number n, dflL R filter_list_number_r⟩ (regs49 n)
theorem regs50_ok (n : Nat) : RegsOK E (regs50 n) := addF_ok (regs49_ok n) (filter_list_number_ok n)
def filter_list_word_a : Ann := ⟨[], []⟩
abbrev filter_list_word_p : List Sk := [.d (.slice (.st 2)), .d (.st 8)]
abbrev filter_list_word_r : List Sk := [.d .bool]
@[irreducible] noncomputable def filter_list_word (n : Nat) (p : PayL R.T filter_list_word_p) : Option (PayL R.T filter_list_word_r) := funM E R n false (regs50 n) iters filter_list_word_a Tryz.f123 filter_list_word_p filter_list_word_r p
theorem filter_list_word_ok (n : Nat) (p : PayL R.T filter_list_word_p) (x : PayL R.T filter_list_word_r) (h : filter_list_word n p = some x) : Pure E 123 (encSL R filter_list_word_p p) (retV (encSL R filter_list_word_r x)) := by
  unfold filter_list_word at h
  exact funM_ok rOK (regs50_ok n) iters_ok h Tryz.func123 rfl rfl rfl rfl (by kernel_rfl)
noncomputable def regs51 (n : Nat) : Nat → List (FR R) := addF 123 ⟨filter_list_word_p, filter_list_word_r, filter_list_word n, dflL R filter_list_word_r⟩ (regs50 n)
theorem regs51_ok (n : Nat) : RegsOK E (regs51 n) := addF_ok (regs50_ok n) (filter_list_word_ok n)
def filter_list_holds_a : Ann := ⟨[], []⟩
abbrev filter_list_holds_p : List Sk := [.d (.slice (.st 2)), .d (.st 8)]
abbrev filter_list_holds_r : List Sk := [.d .bool]
def filter_list_and_a : Ann := ⟨[(2, ⟨[0, 8, 9], [], ⟨[(10, .d (.int .i64))], []⟩, [(.exit 0, ⟨[], []⟩), (.ret, ⟨[(4, .d .bool)], []⟩)]⟩)], []⟩
abbrev filter_list_and_p : List Sk := [.d (.slice (.st 2)), .d (.st 8)]
abbrev filter_list_and_r : List Sk := [.d .bool]
def filter_list_or_a : Ann := ⟨[], []⟩
abbrev filter_list_or_p : List Sk := [.d (.slice (.st 2)), .d (.st 8)]
abbrev filter_list_or_r : List Sk := [.d .bool]
def slices_ContainsFunc_api_Pred_api_Pred_a : Ann := ⟨[], []⟩
abbrev slices_ContainsFunc_api_Pred_api_Pred_p : List Sk := [.d (.slice (.st 8)), .fn 69 [.d (.slice (.st 2))] []]
abbrev slices_ContainsFunc_api_Pred_api_Pred_r : List Sk := [.d .bool]
def slices_IndexFunc_api_Pred_api_Pred_a : Ann := ⟨[(2, ⟨[0, 1, 7], [], ⟨[(8, .d (.int .i64))], []⟩, [(.exit 0, ⟨[], []⟩), (.ret, ⟨[(4, .d (.int .i64))], []⟩)]⟩)], []⟩
abbrev slices_IndexFunc_api_Pred_api_Pred_p : List Sk := [.d (.slice (.st 8)), .fn 69 [.d (.slice (.st 2))] []]
abbrev slices_IndexFunc_api_Pred_api_Pred_r : List Sk := [.d (.int .i64)]
def filter_list_not_a : Ann := ⟨[], []⟩
abbrev filter_list_not_p : List Sk := [.d (.slice (.st 2)), .d (.st 8)]
abbrev filter_list_not_r : List Sk := [.d .bool]
def grp3_a : Nat → List Sk
  | 0 => filter_list_holds_p
  | 1 => filter_list_and_p
  | 2 => filter_list_or_p
  | 3 => slices_ContainsFunc_api_Pred_api_Pred_p
  | 4 => slices_IndexFunc_api_Pred_api_Pred_p
  | _ => filter_list_not_p
def grp3_r : Nat → List Sk
  | 0 => filter_list_holds_r
  | 1 => filter_list_and_r
  | 2 => filter_list_or_r
  | 3 => slices_ContainsFunc_api_Pred_api_Pred_r
  | 4 => slices_IndexFunc_api_Pred_api_Pred_r
  | _ => filter_list_not_r
def grp3_n : Nat → Ann
  | 0 => filter_list_holds_a
  | 1 => filter_list_and_a
  | 2 => filter_list_or_a
  | 3 => slices_ContainsFunc_api_Pred_api_Pred_a
  | 4 => slices_IndexFunc_api_Pred_api_Pred_a
  | _ => filter_list_not_a
noncomputable def grp3_f : Nat → Func
  | 0 => Tryz.f69
  | 1 => Tryz.f118
  | 2 => Tryz.f119
  | 3 => Tryz.f168
  | 4 => Tryz.f207
  | _ => Tryz.f120
noncomputable def grp3_k (n : Nat) (g : (i : Nat) → PayL R.T (grp3_a i) → Option (PayL R.T (grp3_r i))) : Nat → List (FR R) := addF 120 ⟨grp3_a 5, grp3_r 5, g 5, dflL R (grp3_r 5)⟩ (addF 207 ⟨grp3_a 4, grp3_r 4, g 4, dflL R (grp3_r 4)⟩ (addF 168 ⟨grp3_a 3, grp3_r 3, g 3, dflL R (grp3_r 3)⟩ (addF 119 ⟨grp3_a 2, grp3_r 2, g 2, dflL R (grp3_r 2)⟩ (addF 118 ⟨grp3_a 1, grp3_r 1, g 1, dflL R (grp3_r 1)⟩ (addF 69 ⟨grp3_a 0, grp3_r 0, g 0, dflL R (grp3_r 0)⟩ (regs51 n))))))
noncomputable def grp3 (n : Nat) : Nat → (i : Nat) → PayL R.T (grp3_a i) → Option (PayL R.T (grp3_r i))
  | 0, _, _ => none
  | m + 1, i, p => funM E R n false (grp3_k n (grp3 n m)) iters (grp3_n i) (grp3_f i) (grp3_a i) (grp3_r i) p
attribute [irreducible] grp3
theorem filter_list_holds_e (n m : Nat) (p : PayL R.T filter_list_holds_p) : grp3 n (m + 1) 0 p = funM E R n false (grp3_k n (grp3 n m)) iters filter_list_holds_a Tryz.f69 filter_list_holds_p filter_list_holds_r p := by kernel_rfl
theorem filter_list_and_e (n m : Nat) (p : PayL R.T filter_list_and_p) : grp3 n (m + 1) 1 p = funM E R n false (grp3_k n (grp3 n m)) iters filter_list_and_a Tryz.f118 filter_list_and_p filter_list_and_r p := by kernel_rfl
theorem filter_list_or_e (n m : Nat) (p : PayL R.T filter_list_or_p) : grp3 n (m + 1) 2 p = funM E R n false (grp3_k n (grp3 n m)) iters filter_list_or_a Tryz.f119 filter_list_or_p filter_list_or_r p := by kernel_rfl
theorem slices_ContainsFunc_api_Pred_api_Pred_e (n m : Nat) (p : PayL R.T slices_ContainsFunc_api_Pred_api_Pred_p) : grp3 n (m + 1) 3 p = funM E R n false (grp3_k n (grp3 n m)) iters slices_ContainsFunc_api_Pred_api_Pred_a Tryz.f168 slices_ContainsFunc_api_Pred_api_Pred_p slices_ContainsFunc_api_Pred_api_Pred_r p := by kernel_rfl
theorem slices_IndexFunc_api_Pred_api_Pred_e (n m : Nat) (p : PayL R.T slices_IndexFunc_api_Pred_api_Pred_p) : grp3 n (m + 1) 4 p = funM E R n false (grp3_k n (grp3 n m)) iters slices_IndexFunc_api_Pred_api_Pred_a Tryz.f207 slices_IndexFunc_api_Pred_api_Pred_p slices_IndexFunc_api_Pred_api_Pred_r p := by kernel_rfl
theorem filter_list_not_e (n m : Nat) (p : PayL R.T filter_list_not_p) : grp3 n (m + 1) 5 p = funM E R n false (grp3_k n (grp3 n m)) iters filter_list_not_a Tryz.f120 filter_list_not_p filter_list_not_r p := by kernel_rfl
theorem filter_list_holds_e0 (n : Nat) (p : PayL R.T filter_list_holds_p) : grp3 n 0 0 p = none := by kernel_rfl
theorem filter_list_holds_z0 (n : Nat) (p : PayL R.T (grp3_a 0)) (x : PayL R.T (grp3_r 0)) (h : grp3 n 0 0 p = some x) : Pure E 69 (encSL R (grp3_a 0) p) (retV (encSL R (grp3_r 0) x)) := absurd ((filter_list_holds_e0 n p).symm.trans h) nofun
theorem filter_list_and_e0 (n : Nat) (p : PayL R.T filter_list_and_p) : grp3 n 0 1 p = none := by kernel_rfl
theorem filter_list_and_z0 (n : Nat) (p : PayL R.T (grp3_a 1)) (x : PayL R.T (grp3_r 1)) (h : grp3 n 0 1 p = some x) : Pure E 118 (encSL R (grp3_a 1) p) (retV (encSL R (grp3_r 1) x)) := absurd ((filter_list_and_e0 n p).symm.trans h) nofun
theorem filter_list_or_e0 (n : Nat) (p : PayL R.T filter_list_or_p) : grp3 n 0 2 p = none := by kernel_rfl
theorem filter_list_or_z0 (n : Nat) (p : PayL R.T (grp3_a 2)) (x : PayL R.T (grp3_r 2)) (h : grp3 n 0 2 p = some x) : Pure E 119 (encSL R (grp3_a 2) p) (retV (encSL R (grp3_r 2) x)) := absurd ((filter_list_or_e0 n p).symm.trans h) nofun
theorem slices_ContainsFunc_api_Pred_api_Pred_e0 (n : Nat) (p : PayL R.T slices_ContainsFunc_api_Pred_api_Pred_p) : grp3 n 0 3 p = none := by kernel_rfl
theorem slices_ContainsFunc_api_Pred_api_Pred_z0 (n : Nat) (p : PayL R.T (grp3_a 3)) (x : PayL R.T (grp3_r 3)) (h : grp3 n 0 3 p = some x) : Pure E 168 (encSL R (grp3_a 3) p) (retV (encSL R (grp3_r 3) x)) := absurd ((slices_ContainsFunc_api_Pred_api_Pred_e0 n p).symm.trans h) nofun
theorem slices_IndexFunc_api_Pred_api_Pred_e0 (n : Nat) (p : PayL R.T slices_IndexFunc_api_Pred_api_Pred_p) : grp3 n 0 4 p = none := by kernel_rfl
theorem slices_IndexFunc_api_Pred_api_Pred_z0 (n : Nat) (p : PayL R.T (grp3_a 4)) (x : PayL R.T (grp3_r 4)) (h : grp3 n 0 4 p = some x) : Pure E 207 (encSL R (grp3_a 4) p) (retV (encSL R (grp3_r 4) x)) := absurd ((slices_IndexFunc_api_Pred_api_Pred_e0 n p).symm.trans h) nofun
theorem filter_list_not_e0 (n : Nat) (p : PayL R.T filter_list_not_p) : grp3 n 0 5 p = none := by kernel_rfl
theorem filter_list_not_z0 (n : Nat) (p : PayL R.T (grp3_a 5)) (x : PayL R.T (grp3_r 5)) (h : grp3 n 0 5 p = some x) : Pure E 120 (encSL R (grp3_a 5) p) (retV (encSL R (grp3_r 5) x)) := absurd ((filter_list_not_e0 n p).symm.trans h) nofun
theorem filter_list_holds_z (n m : Nat) (hk : RegsOK E (grp3_k n (grp3 n m))) (p : PayL R.T (grp3_a 0)) (x : PayL R.T (grp3_r 0)) (h : grp3 n (m + 1) 0 p = some x) : Pure E 69 (encSL R (grp3_a 0) p) (retV (encSL R (grp3_r 0) x)) :=
  funM_ok (args := filter_list_holds_p) (res := filter_list_holds_r) rOK hk iters_ok ((filter_list_holds_e n m p).symm.trans h) Tryz.func69 rfl rfl rfl rfl (by kernel_rfl)
theorem filter_list_and_z (n m : Nat) (hk : RegsOK E (grp3_k n (grp3 n m))) (p : PayL R.T (grp3_a 1)) (x : PayL R.T (grp3_r 1)) (h : grp3 n (m + 1) 1 p = some x) : Pure E 118 (encSL R (grp3_a 1) p) (retV (encSL R (grp3_r 1) x)) :=
  funM_ok (args := filter_list_and_p) (res := filter_list_and_r) rOK hk iters_ok ((filter_list_and_e n m p).symm.trans h) Tryz.func118 rfl rfl rfl rfl (by kernel_rfl)
theorem filter_list_or_z (n m : Nat) (hk : RegsOK E (grp3_k n (grp3 n m))) (p : PayL R.T (grp3_a 2)) (x : PayL R.T (grp3_r 2)) (h : grp3 n (m + 1) 2 p = some x) : Pure E 119 (encSL R (grp3_a 2) p) (retV (encSL R (grp3_r 2) x)) :=
  funM_ok (args := filter_list_or_p) (res := filter_list_or_r) rOK hk iters_ok ((filter_list_or_e n m p).symm.trans h) Tryz.func119 rfl rfl rfl rfl (by kernel_rfl)
theorem slices_ContainsFunc_api_Pred_api_Pred_z (n m : Nat) (hk : RegsOK E (grp3_k n (grp3 n m))) (p : PayL R.T (grp3_a 3)) (x : PayL R.T (grp3_r 3)) (h : grp3 n (m + 1) 3 p = some x) : Pure E 168 (encSL R (grp3_a 3) p) (retV (encSL R (grp3_r 3) x)) :=
  funM_ok (args := slices_ContainsFunc_api_Pred_api_Pred_p) (res := slices_ContainsFunc_api_Pred_api_Pred_r) rOK hk iters_ok ((slices_ContainsFunc_api_Pred_api_Pred_e n m p).symm.trans h) Tryz.func168 rfl rfl rfl rfl (by kernel_rfl)
theorem slices_IndexFunc_api_Pred_api_Pred_z (n m : Nat) (hk : RegsOK E (grp3_k n (grp3 n m))) (p : PayL R.T (grp3_a 4)) (x : PayL R.T (grp3_r 4)) (h : grp3 n (m + 1) 4 p = some x) : Pure E 207 (encSL R (grp3_a 4) p) (retV (encSL R (grp3_r 4) x)) :=
  funM_ok (args := slices_IndexFunc_api_Pred_api_Pred_p) (res := slices_IndexFunc_api_Pred_api_Pred_r) rOK hk iters_ok ((slices_IndexFunc_api_Pred_api_Pred_e n m p).symm.trans h) Tryz.func207 rfl rfl rfl rfl (by kernel_rfl)
theorem filter_list_not_z (n m : Nat) (hk : RegsOK E (grp3_k n (grp3 n m))) (p : PayL R.T (grp3_a 5)) (x : PayL R.T (grp3_r 5)) (h : grp3 n (m + 1) 5 p = some x) : Pure E 120 (encSL R (grp3_a 5) p) (retV (encSL R (grp3_r 5) x)) :=
  funM_ok (args := filter_list_not_p) (res := filter_list_not_r) rOK hk iters_ok ((filter_list_not_e n m p).symm.trans h) Tryz.func120 rfl rfl rfl rfl (by kernel_rfl)
theorem grp3_ok (n : Nat) : ∀ m, RegsOK E (grp3_k n (grp3 n m))
  | 0 => addF_ok (f := 120) (r := ⟨grp3_a 5, grp3_r 5, grp3 n 0 5, dflL R (grp3_r 5)⟩) (addF_ok (f := 207) (r := ⟨grp3_a 4, grp3_r 4, grp3 n 0 4, dflL R (grp3_r 4)⟩) (addF_ok (f := 168) (r := ⟨grp3_a 3, grp3_r 3, grp3 n 0 3, dflL R (grp3_r 3)⟩) (addF_ok (f := 119) (r := ⟨grp3_a 2, grp3_r 2, grp3 n 0 2, dflL R (grp3_r 2)⟩) (addF_ok (f := 118) (r := ⟨grp3_a 1, grp3_r 1, grp3 n 0 1, dflL R (grp3_r 1)⟩) (addF_ok (f := 69) (r := ⟨grp3_a 0, grp3_r 0, grp3 n 0 0, dflL R (grp3_r 0)⟩) (regs51_ok n) (filter_list_holds_z0 n)) (filter_list_and_z0 n)) (filter_list_or_z0 n)) (slices_ContainsFunc_api_Pred_api_Pred_z0 n)) (slices_IndexFunc_api_Pred_api_Pred_z0 n)) (filter_list_not_z0 n)
  | m + 1 => addF_ok (f := 120) (r := ⟨grp3_a 5, grp3_r 5, grp3 n (m + 1) 5, dflL R (grp3_r 5)⟩) (addF_ok (f := 207) (r := ⟨grp3_a 4, grp3_r 4, grp3 n (m + 1) 4, dflL R (grp3_r 4)⟩) (addF_ok (f := 168) (r := ⟨grp3_a 3, grp3_r 3, grp3 n (m + 1) 3, dflL R (grp3_r 3)⟩) (addF_ok (f := 119) (r := ⟨grp3_a 2, grp3_r 2, grp3 n (m + 1) 2, dflL R (grp3_r 2)⟩) (addF_ok (f := 118) (r := ⟨grp3_a 1, grp3_r 1, grp3 n (m + 1) 1, dflL R (grp3_r 1)⟩) (addF_ok (f := 69) (r := ⟨grp3_a 0, grp3_r 0, grp3 n (m + 1) 0, dflL R (grp3_r 0)⟩) (regs51_ok n) (filter_list_holds_z n m (grp3_ok n m))) (filter_list_and_z n m (grp3_ok n m))) (filter_list_or_z n m (grp3_ok n m))) (slices_ContainsFunc_api_Pred_api_Pred_z n m (grp3_ok n m))) (slices_IndexFunc_api_Pred_api_Pred_z n m (grp3_ok n m))) (filter_list_not_z n m (grp3_ok n m))
@[irreducible] noncomputable def filter_list_holds_m (n m : Nat) (p : PayL R.T filter_list_holds_p) : Option (PayL R.T filter_list_holds_r) := grp3 n m 0 p
@[irreducible] noncomputable def filter_list_holds (n : Nat) (p : PayL R.T filter_list_holds_p) : Option (PayL R.T filter_list_holds_r) := filter_list_holds_m n n p
theorem filter_list_holds_ok (n : Nat) (p : PayL R.T filter_list_holds_p) (x : PayL R.T filter_list_holds_r) (h : filter_list_holds n p = some x) : Pure E 69 (encSL R filter_list_holds_p p) (retV (encSL R filter_list_holds_r x)) := by
  unfold filter_list_holds filter_list_holds_m at h
  cases n with
  | zero => exact absurd ((filter_list_holds_e0 0 p).symm.trans h) nofun
  | succ n => exact funM_ok (args := filter_list_holds_p) (res := filter_list_holds_r) rOK (grp3_ok (n + 1) n) iters_ok ((filter_list_holds_e (n + 1) n p).symm.trans h) Tryz.func69 rfl rfl rfl rfl (by kernel_rfl)
@[irreducible] noncomputable def filter_list_and_m (n m : Nat) (p : PayL R.T filter_list_and_p) : Option (PayL R.T filter_list_and_r) := grp3 n m 1 p
@[irreducible] noncomputable def filter_list_and (n : Nat) (p : PayL R.T filter_list_and_p) : Option (PayL R.T filter_list_and_r) := filter_list_and_m n n p
theorem filter_list_and_ok (n : Nat) (p : PayL R.T filter_list_and_p) (x : PayL R.T filter_list_and_r) (h : filter_list_and n p = some x) : Pure E 118 (encSL R filter_list_and_p p) (retV (encSL R filter_list_and_r x)) := by
  unfold filter_list_and filter_list_and_m at h
  cases n with
  | zero => exact absurd ((filter_list_and_e0 0 p).symm.trans h) nofun
  | succ n => exact funM_ok (args := filter_list_and_p) (res := filter_list_and_r) rOK (grp3_ok (n + 1) n) iters_ok ((filter_list_and_e (n + 1) n p).symm.trans h) Tryz.func118 rfl rfl rfl rfl (by kernel_rfl)
@[irreducible] noncomputable def filter_list_or_m (n m : Nat) (p : PayL R.T filter_list_or_p) : Option (PayL R.T filter_list_or_r) := grp3 n m 2 p
@[irreducible] noncomputable def filter_list_or (n : Nat) (p : PayL R.T filter_list_or_p) : Option (PayL R.T filter_list_or_r) := filter_list_or_m n n p
theorem filter_list_or_ok (n : Nat) (p : PayL R.T filter_list_or_p) (x : PayL R.T filter_list_or_r) (h : filter_list_or n p = some x) : Pure E 119 (encSL R filter_list_or_p p) (retV (encSL R filter_list_or_r x)) := by
  unfold filter_list_or filter_list_or_m at h
  cases n with
  | zero => exact absurd ((filter_list_or_e0 0 p).symm.trans h) nofun
  | succ n => exact funM_ok (args := filter_list_or_p) (res := filter_list_or_r) rOK (grp3_ok (n + 1) n) iters_ok ((filter_list_or_e (n + 1) n p).symm.trans h) Tryz.func119 rfl rfl rfl rfl (by kernel_rfl)
@[irreducible] noncomputable def slices_ContainsFunc_api_Pred_api_Pred_m (n m : Nat) (p : PayL R.T slices_ContainsFunc_api_Pred_api_Pred_p) : Option (PayL R.T slices_ContainsFunc_api_Pred_api_Pred_r) := grp3 n m 3 p
@[irreducible] noncomputable def slices_ContainsFunc_api_Pred_api_Pred (n : Nat) (p : PayL R.T slices_ContainsFunc_api_Pred_api_Pred_p) : Option (PayL R.T slices_ContainsFunc_api_Pred_api_Pred_r) := slices_ContainsFunc_api_Pred_api_Pred_m n n p
theorem slices_ContainsFunc_api_Pred_api_Pred_ok (n : Nat) (p : PayL R.T slices_ContainsFunc_api_Pred_api_Pred_p) (x : PayL R.T slices_ContainsFunc_api_Pred_api_Pred_r) (h : slices_ContainsFunc_api_Pred_api_Pred n p = some x) : Pure E 168 (encSL R slices_ContainsFunc_api_Pred_api_Pred_p p) (retV (encSL R slices_ContainsFunc_api_Pred_api_Pred_r x)) := by
  unfold slices_ContainsFunc_api_Pred_api_Pred slices_ContainsFunc_api_Pred_api_Pred_m at h
  cases n with
  | zero => exact absurd ((slices_ContainsFunc_api_Pred_api_Pred_e0 0 p).symm.trans h) nofun
  | succ n => exact funM_ok (args := slices_ContainsFunc_api_Pred_api_Pred_p) (res := slices_ContainsFunc_api_Pred_api_Pred_r) rOK (grp3_ok (n + 1) n) iters_ok ((slices_ContainsFunc_api_Pred_api_Pred_e (n + 1) n p).symm.trans h) Tryz.func168 rfl rfl rfl rfl (by kernel_rfl)
@[irreducible] noncomputable def slices_IndexFunc_api_Pred_api_Pred_m (n m : Nat) (p : PayL R.T slices_IndexFunc_api_Pred_api_Pred_p) : Option (PayL R.T slices_IndexFunc_api_Pred_api_Pred_r) := grp3 n m 4 p
@[irreducible] noncomputable def slices_IndexFunc_api_Pred_api_Pred (n : Nat) (p : PayL R.T slices_IndexFunc_api_Pred_api_Pred_p) : Option (PayL R.T slices_IndexFunc_api_Pred_api_Pred_r) := slices_IndexFunc_api_Pred_api_Pred_m n n p
theorem slices_IndexFunc_api_Pred_api_Pred_ok (n : Nat) (p : PayL R.T slices_IndexFunc_api_Pred_api_Pred_p) (x : PayL R.T slices_IndexFunc_api_Pred_api_Pred_r) (h : slices_IndexFunc_api_Pred_api_Pred n p = some x) : Pure E 207 (encSL R slices_IndexFunc_api_Pred_api_Pred_p p) (retV (encSL R slices_IndexFunc_api_Pred_api_Pred_r x)) := by
  unfold slices_IndexFunc_api_Pred_api_Pred slices_IndexFunc_api_Pred_api_Pred_m at h
  cases n with
  | zero => exact absurd ((slices_IndexFunc_api_Pred_api_Pred_e0 0 p).symm.trans h) nofun
  | succ n => exact funM_ok (args := slices_IndexFunc_api_Pred_api_Pred_p) (res := slices_IndexFunc_api_Pred_api_Pred_r) rOK (grp3_ok (n + 1) n) iters_ok ((slices_IndexFunc_api_Pred_api_Pred_e (n + 1) n p).symm.trans h) Tryz.func207 rfl rfl rfl rfl (by kernel_rfl)
@[irreducible] noncomputable def filter_list_not_m (n m : Nat) (p : PayL R.T filter_list_not_p) : Option (PayL R.T filter_list_not_r) := grp3 n m 5 p
@[irreducible] noncomputable def filter_list_not (n : Nat) (p : PayL R.T filter_list_not_p) : Option (PayL R.T filter_list_not_r) := filter_list_not_m n n p
theorem filter_list_not_ok (n : Nat) (p : PayL R.T filter_list_not_p) (x : PayL R.T filter_list_not_r) (h : filter_list_not n p = some x) : Pure E 120 (encSL R filter_list_not_p p) (retV (encSL R filter_list_not_r x)) := by
  unfold filter_list_not filter_list_not_m at h
  cases n with
  | zero => exact absurd ((filter_list_not_e0 0 p).symm.trans h) nofun
  | succ n => exact funM_ok (args := filter_list_not_p) (res := filter_list_not_r) rOK (grp3_ok (n + 1) n) iters_ok ((filter_list_not_e (n + 1) n p).symm.trans h) Tryz.func120 rfl rfl rfl rfl (by kernel_rfl)
noncomputable def regs52 (n : Nat) : Nat → List (FR R) := addF 69 ⟨filter_list_holds_p, filter_list_holds_r, filter_list_holds n, dflL R filter_list_holds_r⟩ (regs51 n)
theorem regs52_ok (n : Nat) : RegsOK E (regs52 n) := addF_ok (regs51_ok n) (filter_list_holds_ok n)
noncomputable def regs53 (n : Nat) : Nat → List (FR R) := addF 118 ⟨filter_list_and_p, filter_list_and_r, filter_list_and n, dflL R filter_list_and_r⟩ (regs52 n)
theorem regs53_ok (n : Nat) : RegsOK E (regs53 n) := addF_ok (regs52_ok n) (filter_list_and_ok n)
noncomputable def regs54 (n : Nat) : Nat → List (FR R) := addF 119 ⟨filter_list_or_p, filter_list_or_r, filter_list_or n, dflL R filter_list_or_r⟩ (regs53 n)
theorem regs54_ok (n : Nat) : RegsOK E (regs54 n) := addF_ok (regs53_ok n) (filter_list_or_ok n)
noncomputable def regs55 (n : Nat) : Nat → List (FR R) := addF 168 ⟨slices_ContainsFunc_api_Pred_api_Pred_p, slices_ContainsFunc_api_Pred_api_Pred_r, slices_ContainsFunc_api_Pred_api_Pred n, dflL R slices_ContainsFunc_api_Pred_api_Pred_r⟩ (regs54 n)
theorem regs55_ok (n : Nat) : RegsOK E (regs55 n) := addF_ok (regs54_ok n) (slices_ContainsFunc_api_Pred_api_Pred_ok n)
noncomputable def regs56 (n : Nat) : Nat → List (FR R) := addF 207 ⟨slices_IndexFunc_api_Pred_api_Pred_p, slices_IndexFunc_api_Pred_api_Pred_r, slices_IndexFunc_api_Pred_api_Pred n, dflL R slices_IndexFunc_api_Pred_api_Pred_r⟩ (regs55 n)
theorem regs56_ok (n : Nat) : RegsOK E (regs56 n) := addF_ok (regs55_ok n) (slices_IndexFunc_api_Pred_api_Pred_ok n)
noncomputable def regs57 (n : Nat) : Nat → List (FR R) := addF 120 ⟨filter_list_not_p, filter_list_not_r, filter_list_not n, dflL R filter_list_not_r⟩ (regs56 n)
theorem regs57_ok (n : Nat) : RegsOK E (regs57 n) := addF_ok (regs56_ok n) (filter_list_not_ok n)
def filter_Holds_a : Ann := ⟨[], []⟩
abbrev filter_Holds_p : List Sk := [.d (.st 8), .d (.slice (.st 2))]
abbrev filter_Holds_r : List Sk := [.d .bool]
@[irreducible] noncomputable def filter_Holds (n : Nat) (p : PayL R.T filter_Holds_p) : Option (PayL R.T filter_Holds_r) := funM E R n false (regs57 n) iters filter_Holds_a Tryz.f34 filter_Holds_p filter_Holds_r p
theorem filter_Holds_ok (n : Nat) (p : PayL R.T filter_Holds_p) (x : PayL R.T filter_Holds_r) (h : filter_Holds n p = some x) : Pure E 34 (encSL R filter_Holds_p p) (retV (encSL R filter_Holds_r x)) := by
  unfold filter_Holds at h
  exact funM_ok rOK (regs57_ok n) iters_ok h Tryz.func34 rfl rfl rfl rfl (by kernel_rfl)
noncomputable def regs58 (n : Nat) : Nat → List (FR R) := addF 34 ⟨filter_Holds_p, filter_Holds_r, filter_Holds n, dflL R filter_Holds_r⟩ (regs57 n)
theorem regs58_ok (n : Nat) : RegsOK E (regs58 n) := addF_ok (regs57_ok n) (filter_Holds_ok n)
def retain_Floor_a : Ann := ⟨[(3, ⟨[0, 3, 13, 14], [3], ⟨[(5, .d (.int .i64)), (15, .d (.int .i64))], []⟩, [(.exit 0, ⟨[(5, .d (.int .i64))], []⟩)]⟩),
  (7, ⟨[0, 3, 7, 13, 14, 15, 28, 29], [3, 7], ⟨[(5, .d (.int .i64)), (30, .d (.int .i64))], []⟩, [(.exit 2, ⟨[(5, .d (.int .i64))], []⟩)]⟩)], []⟩
abbrev retain_Floor_p : List Sk := [.d (.slice (.st 9)), .d (.st 5)]
abbrev retain_Floor_r : List Sk := [.d (.int .i64)]
@[irreducible] noncomputable def retain_Floor (n : Nat) (p : PayL R.T retain_Floor_p) : Option (PayL R.T retain_Floor_r) := funM E R n false (regs58 n) iters retain_Floor_a Tryz.f14 retain_Floor_p retain_Floor_r p
theorem retain_Floor_ok (n : Nat) (p : PayL R.T retain_Floor_p) (x : PayL R.T retain_Floor_r) (h : retain_Floor n p = some x) : Pure E 14 (encSL R retain_Floor_p p) (retV (encSL R retain_Floor_r x)) := by
  unfold retain_Floor at h
  exact funM_ok rOK (regs58_ok n) iters_ok h Tryz.func14 rfl rfl rfl rfl (by kernel_rfl)
noncomputable def regs59 (n : Nat) : Nat → List (FR R) := addF 14 ⟨retain_Floor_p, retain_Floor_r, retain_Floor n, dflL R retain_Floor_r⟩ (regs58 n)
theorem regs59_ok (n : Nat) : RegsOK E (regs59 n) := addF_ok (regs58_ok n) (retain_Floor_ok n)
def ref13_Get_a : Ann := ⟨[(2, ⟨[0, 1, 4], [], ⟨[(5, .d (.int .i64))], [(4, .st 20)]⟩, [(.exit 0, ⟨[], [(4, .st 20)]⟩), (.ret, ⟨[], [(4, .st 20)]⟩)]⟩)], []⟩
abbrev ref13_Get_p : List Sk := [.d (.slice (.st 2)), .d .str]
abbrev ref13_Get_r : List Sk := [.d (.st 20)]
@[irreducible] noncomputable def ref13_Get (n : Nat) (p : PayL R.T ref13_Get_p) : Option (PayL R.T ref13_Get_r) := funM E R n false (regs59 n) iters ref13_Get_a Tryz.f156 ref13_Get_p ref13_Get_r p
theorem ref13_Get_ok (n : Nat) (p : PayL R.T ref13_Get_p) (x : PayL R.T ref13_Get_r) (h : ref13_Get n p = some x) : Pure E 156 (encSL R ref13_Get_p p) (retV (encSL R ref13_Get_r x)) := by
  unfold ref13_Get at h
  exact funM_ok rOK (regs59_ok n) iters_ok h Tryz.func156 rfl rfl rfl rfl (by kernel_rfl)
noncomputable def regs60 (n : Nat) : Nat → List (FR R) := addF 156 ⟨ref13_Get_p, ref13_Get_r, ref13_Get n, dflL R ref13_Get_r⟩ (regs59 n)
theorem regs60_ok (n : Nat) : RegsOK E (regs60 n) := addF_ok (regs59_ok n) (ref13_Get_ok n)
def ref17_Holds_a : Ann := ⟨[(3, ⟨[1, 2], [2], ⟨[(5, .d (.int .i64)), (6, .d (.int .i64))], []⟩, [(.exit 0, ⟨[(5, .d (.int .i64))], []⟩)]⟩)], []⟩
abbrev ref17_Holds_p : List Sk := [.d (.st 8), .d (.slice (.st 2))]
abbrev ref17_Holds_r : List Sk := [.d .bool]
def grp4_a : Nat → List Sk
  | _ => ref17_Holds_p
def grp4_r : Nat → List Sk
  | _ => ref17_Holds_r
def grp4_n : Nat → Ann
  | _ => ref17_Holds_a
noncomputable def grp4_f : Nat → Func
  | _ => Tryz.f98
noncomputable def grp4_k (n : Nat) (g : (i : Nat) → PayL R.T (grp4_a i) → Option (PayL R.T (grp4_r i))) : Nat → List (FR R) := addF 98 ⟨grp4_a 0, grp4_r 0, g 0, dflL R (grp4_r 0)⟩ (regs60 n)
noncomputable def grp4 (n : Nat) : Nat → (i : Nat) → PayL R.T (grp4_a i) → Option (PayL R.T (grp4_r i))
  | 0, _, _ => none
  | m + 1, i, p => funM E R n false (grp4_k n (grp4 n m)) iters (grp4_n i) (grp4_f i) (grp4_a i) (grp4_r i) p
attribute [irreducible] grp4
theorem ref17_Holds_e (n m : Nat) (p : PayL R.T ref17_Holds_p) : grp4 n (m + 1) 0 p = funM E R n false (grp4_k n (grp4 n m)) iters ref17_Holds_a Tryz.f98 ref17_Holds_p ref17_Holds_r p := by kernel_rfl
theorem ref17_Holds_e0 (n : Nat) (p : PayL R.T ref17_Holds_p) : grp4 n 0 0 p = none := by kernel_rfl
theorem ref17_Holds_z0 (n : Nat) (p : PayL R.T (grp4_a 0)) (x : PayL R.T (grp4_r 0)) (h : grp4 n 0 0 p = some x) : Pure E 98 (encSL R (grp4_a 0) p) (retV (encSL R (grp4_r 0) x)) := absurd ((ref17_Holds_e0 n p).symm.trans h) nofun
theorem ref17_Holds_z (n m : Nat) (hk : RegsOK E (grp4_k n (grp4 n m))) (p : PayL R.T (grp4_a 0)) (x : PayL R.T (grp4_r 0)) (h : grp4 n (m + 1) 0 p = some x) : Pure E 98 (encSL R (grp4_a 0) p) (retV (encSL R (grp4_r 0) x)) :=
  funM_ok (args := ref17_Holds_p) (res := ref17_Holds_r) rOK hk iters_ok ((ref17_Holds_e n m p).symm.trans h) Tryz.func98 rfl rfl rfl rfl (by kernel_rfl)
theorem grp4_ok (n : Nat) : ∀ m, RegsOK E (grp4_k n (grp4 n m))
  | 0 => addF_ok (f := 98) (r := ⟨grp4_a 0, grp4_r 0, grp4 n 0 0, dflL R (grp4_r 0)⟩) (regs60_ok n) (ref17_Holds_z0 n)
  | m + 1 => addF_ok (f := 98) (r := ⟨grp4_a 0, grp4_r 0, grp4 n (m + 1) 0, dflL R (grp4_r 0)⟩) (regs60_ok n) (ref17_Holds_z n m (grp4_ok n m))
@[irreducible] noncomputable def ref17_Holds_m (n m : Nat) (p : PayL R.T ref17_Holds_p) : Option (PayL R.T ref17_Holds_r) := grp4 n m 0 p
@[irreducible] noncomputable def ref17_Holds (n : Nat) (p : PayL R.T ref17_Holds_p) : Option (PayL R.T ref17_Holds_r) := ref17_Holds_m n n p
theorem ref17_Holds_ok (n : Nat) (p : PayL R.T ref17_Holds_p) (x : PayL R.T ref17_Holds_r) (h : ref17_Holds n p = some x) : Pure E 98 (encSL R ref17_Holds_p p) (retV (encSL R ref17_Holds_r x)) := by
  unfold ref17_Holds ref17_Holds_m at h
  cases n with
  | zero => exact absurd ((ref17_Holds_e0 0 p).symm.trans h) nofun
  | succ n => exact funM_ok (args := ref17_Holds_p) (res := ref17_Holds_r) rOK (grp4_ok (n + 1) n) iters_ok ((ref17_Holds_e (n + 1) n p).symm.trans h) Tryz.func98 rfl rfl rfl rfl (by kernel_rfl)
noncomputable def regs61 (n : Nat) : Nat → List (FR R) := addF 98 ⟨ref17_Holds_p, ref17_Holds_r, ref17_Holds n, dflL R ref17_Holds_r⟩ (regs60 n)
theorem regs61_ok (n : Nat) : RegsOK E (regs61 n) := addF_ok (regs60_ok n) (ref17_Holds_ok n)
def ref21_Free_a : Ann := ⟨[(2, ⟨[0, 4, 5], [4, 5], ⟨[(7, .d (.int .i64))], []⟩, [(.exit 0, ⟨[], []⟩), (.ret, ⟨[(6, .d .bool)], []⟩)]⟩)], []⟩
abbrev ref21_Free_p : List Sk := [.d (.slice (.st 9)), .d (.st 5), .d (.st 4)]
abbrev ref21_Free_r : List Sk := [.d .bool]
@[irreducible] noncomputable def ref21_Free (n : Nat) (p : PayL R.T ref21_Free_p) : Option (PayL R.T ref21_Free_r) := funM E R n false (regs61 n) iters ref21_Free_a Tryz.f49 ref21_Free_p ref21_Free_r p
theorem ref21_Free_ok (n : Nat) (p : PayL R.T ref21_Free_p) (x : PayL R.T ref21_Free_r) (h : ref21_Free n p = some x) : Pure E 49 (encSL R ref21_Free_p p) (retV (encSL R ref21_Free_r x)) := by
  unfold ref21_Free at h
  exact funM_ok rOK (regs61_ok n) iters_ok h Tryz.func49 rfl rfl rfl rfl (by kernel_rfl)
noncomputable def regs62 (n : Nat) : Nat → List (FR R) := addF 49 ⟨ref21_Free_p, ref21_Free_r, ref21_Free n, dflL R ref21_Free_r⟩ (regs61 n)
theorem regs62_ok (n : Nat) : RegsOK E (regs62 n) := addF_ok (regs61_ok n) (ref21_Free_ok n)
def ref21_Floor_a : Ann := ⟨[(3, ⟨[0, 3], [3], ⟨[(5, .d (.int .i64)), (6, .d (.int .i64))], []⟩, [(.exit 0, ⟨[(5, .d (.int .i64))], []⟩)]⟩)], []⟩
abbrev ref21_Floor_p : List Sk := [.d (.slice (.st 9)), .d (.st 5)]
abbrev ref21_Floor_r : List Sk := [.d (.int .i64)]
@[irreducible] noncomputable def ref21_Floor (n : Nat) (p : PayL R.T ref21_Floor_p) : Option (PayL R.T ref21_Floor_r) := funM E R n false (regs62 n) iters ref21_Floor_a Tryz.f15 ref21_Floor_p ref21_Floor_r p
theorem ref21_Floor_ok (n : Nat) (p : PayL R.T ref21_Floor_p) (x : PayL R.T ref21_Floor_r) (h : ref21_Floor n p = some x) : Pure E 15 (encSL R ref21_Floor_p p) (retV (encSL R ref21_Floor_r x)) := by
  unfold ref21_Floor at h
  exact funM_ok rOK (regs62_ok n) iters_ok h Tryz.func15 rfl rfl rfl rfl (by kernel_rfl)
noncomputable def regs63 (n : Nat) : Nat → List (FR R) := addF 15 ⟨ref21_Floor_p, ref21_Floor_r, ref21_Floor n, dflL R ref21_Floor_r⟩ (regs62 n)
theorem regs63_ok (n : Nat) : RegsOK E (regs63 n) := addF_ok (regs62_ok n) (ref21_Floor_ok n)
def law21_RetainFloorsAsSpecified_a : Ann := ⟨[], []⟩
abbrev law21_RetainFloorsAsSpecified_p : List Sk := [.d (.st 1), .d (.slice (.st 9)), .d (.slice (.st 13))]
abbrev law21_RetainFloorsAsSpecified_r : List Sk := [.d .bool]
@[irreducible] noncomputable def law21_RetainFloorsAsSpecified (n : Nat) (p : PayL R.T law21_RetainFloorsAsSpecified_p) : Option (PayL R.T law21_RetainFloorsAsSpecified_r) := funM E R n false (regs63 n) iters law21_RetainFloorsAsSpecified_a Tryz.f3 law21_RetainFloorsAsSpecified_p law21_RetainFloorsAsSpecified_r p
theorem law21_RetainFloorsAsSpecified_ok (n : Nat) (p : PayL R.T law21_RetainFloorsAsSpecified_p) (x : PayL R.T law21_RetainFloorsAsSpecified_r) (h : law21_RetainFloorsAsSpecified n p = some x) : Pure E 3 (encSL R law21_RetainFloorsAsSpecified_p p) (retV (encSL R law21_RetainFloorsAsSpecified_r x)) := by
  unfold law21_RetainFloorsAsSpecified at h
  exact funM_ok rOK (regs63_ok n) iters_ok h Tryz.func3 rfl rfl rfl rfl (by kernel_rfl)
noncomputable def regs64 (n : Nat) : Nat → List (FR R) := addF 3 ⟨law21_RetainFloorsAsSpecified_p, law21_RetainFloorsAsSpecified_r, law21_RetainFloorsAsSpecified n, dflL R law21_RetainFloorsAsSpecified_r⟩ (regs63 n)
theorem regs64_ok (n : Nat) : RegsOK E (regs64 n) := addF_ok (regs63_ok n) (law21_RetainFloorsAsSpecified_ok n)
def retain_latest_a : Ann := ⟨[(3, ⟨[3, 7, 8], [], ⟨[(9, .d (.int .i64))], [(6, .map (.int .i64) (.int .i64))]⟩, [(.exit 0, ⟨[], [(6, .map (.int .i64) (.int .i64))]⟩)]⟩)], []⟩
abbrev retain_latest_p : List Sk := [.d (.slice (.st 4))]
abbrev retain_latest_r : List Sk := [.mapc (.int .i64) (.int .i64)]
@[irreducible] noncomputable def retain_latest (n : Nat) (p : PayL R.T retain_latest_p) : Option (PayL R.T retain_latest_r) := funM E R n false (regs64 n) iters retain_latest_a Tryz.f99 retain_latest_p retain_latest_r p
theorem retain_latest_ok (n : Nat) (p : PayL R.T retain_latest_p) (x : PayL R.T retain_latest_r) (h : retain_latest n p = some x) : Pure E 99 (encSL R retain_latest_p p) (retV (encSL R retain_latest_r x)) := by
  unfold retain_latest at h
  exact funM_ok rOK (regs64_ok n) iters_ok h Tryz.func99 rfl rfl rfl rfl (by kernel_rfl)
noncomputable def regs65 (n : Nat) : Nat → List (FR R) := addF 99 ⟨retain_latest_p, retain_latest_r, retain_latest n, dflL R retain_latest_r⟩ (regs64 n)
theorem regs65_ok (n : Nat) : RegsOK E (regs65 n) := addF_ok (regs64_ok n) (retain_latest_ok n)
def retain_forgets_a : Ann := ⟨[], []⟩
abbrev retain_forgets_p : List Sk := [.d (.st 5), .d (.int .i64)]
abbrev retain_forgets_r : List Sk := [.fn 100 [] [.cref [.d (.int .i64)] 0, .cref [.mapc (.int .i64) (.int .i64)] 0]]
@[irreducible] noncomputable def retain_forgets (n : Nat) (p : PayL R.T retain_forgets_p) : Option (PayL R.T retain_forgets_r) := funM E R n false (regs65 n) iters retain_forgets_a Tryz.f51 retain_forgets_p retain_forgets_r p
theorem retain_forgets_ok (n : Nat) (p : PayL R.T retain_forgets_p) (x : PayL R.T retain_forgets_r) (h : retain_forgets n p = some x) : Pure E 51 (encSL R retain_forgets_p p) (retV (encSL R retain_forgets_r x)) := by
  unfold retain_forgets at h
  exact funM_ok rOK (regs65_ok n) iters_ok h Tryz.func51 rfl rfl rfl rfl (by kernel_rfl)
noncomputable def regs66 (n : Nat) : Nat → List (FR R) := addF 51 ⟨retain_forgets_p, retain_forgets_r, retain_forgets n, dflL R retain_forgets_r⟩ (regs65 n)
theorem regs66_ok (n : Nat) : RegsOK E (regs66 n) := addF_ok (regs65_ok n) (retain_forgets_ok n)
def retain_forgets_1_a : Ann := ⟨[], []⟩
abbrev retain_forgets_1_p : List Sk := [.d (.st 4), .cref [.d (.int .i64)] 0, .cref [.mapc (.int .i64) (.int .i64)] 0]
abbrev retain_forgets_1_r : List Sk := [.d .bool]
@[irreducible] noncomputable def retain_forgets_1 (n : Nat) (p : PayL R.T retain_forgets_1_p) : Option (PayL R.T retain_forgets_1_r) := funM E R n false (regs66 n) iters retain_forgets_1_a Tryz.f100 retain_forgets_1_p retain_forgets_1_r p
theorem retain_forgets_1_ok (n : Nat) (p : PayL R.T retain_forgets_1_p) (x : PayL R.T retain_forgets_1_r) (h : retain_forgets_1 n p = some x) : Pure E 100 (encSL R retain_forgets_1_p p) (retV (encSL R retain_forgets_1_r x)) := by
  unfold retain_forgets_1 at h
  exact funM_ok rOK (regs66_ok n) iters_ok h Tryz.func100 rfl rfl rfl rfl (by kernel_rfl)
noncomputable def regs67 (n : Nat) : Nat → List (FR R) := addF 100 ⟨retain_forgets_1_p, retain_forgets_1_r, retain_forgets_1 n, dflL R retain_forgets_1_r⟩ (regs66 n)
theorem regs67_ok (n : Nat) : RegsOK E (regs67 n) := addF_ok (regs66_ok n) (retain_forgets_1_ok n)
def retain_Forgets_a : Ann := ⟨[], []⟩
abbrev retain_Forgets_p : List Sk := [.d (.st 5), .d (.int .i64), .d (.int .i64)]
abbrev retain_Forgets_r : List Sk := [.d .bool]
@[irreducible] noncomputable def retain_Forgets (n : Nat) (p : PayL R.T retain_Forgets_p) : Option (PayL R.T retain_Forgets_r) := funM E R n false (regs67 n) iters retain_Forgets_a Tryz.f21 retain_Forgets_p retain_Forgets_r p
theorem retain_Forgets_ok (n : Nat) (p : PayL R.T retain_Forgets_p) (x : PayL R.T retain_Forgets_r) (h : retain_Forgets n p = some x) : Pure E 21 (encSL R retain_Forgets_p p) (retV (encSL R retain_Forgets_r x)) := by
  unfold retain_Forgets at h
  exact funM_ok rOK (regs67_ok n) iters_ok h Tryz.func21 rfl rfl rfl rfl (by kernel_rfl)
noncomputable def regs68 (n : Nat) : Nat → List (FR R) := addF 21 ⟨retain_Forgets_p, retain_Forgets_r, retain_Forgets n, dflL R retain_Forgets_r⟩ (regs67 n)
theorem regs68_ok (n : Nat) : RegsOK E (regs68 n) := addF_ok (regs67_ok n) (retain_Forgets_ok n)
def law21_RetainObeysLaws_a : Ann := ⟨[(9, ⟨[1, 2, 7, 9], [7], ⟨[(10, .d .bool), (11, .d (.int .i64))], []⟩, [(.exit 0, ⟨[(10, .d .bool)], []⟩), (.ret, ⟨[(6, .d .bool)], []⟩)]⟩),
  (13, ⟨[1, 2, 7, 9, 11, 12], [7, 12], ⟨[(10, .d .bool), (13, .d (.int .i64))], []⟩, [(.exit 2, ⟨[(10, .d .bool)], []⟩), (.ret, ⟨[(6, .d .bool)], []⟩)]⟩)], []⟩
abbrev law21_RetainObeysLaws_p : List Sk := [.d (.st 1), .d (.slice (.st 13)), .d (.slice (.st 9))]
abbrev law21_RetainObeysLaws_r : List Sk := [.d .bool]
@[irreducible] noncomputable def law21_RetainObeysLaws (n : Nat) (p : PayL R.T law21_RetainObeysLaws_p) : Option (PayL R.T law21_RetainObeysLaws_r) := funM E R n false (regs68 n) iters law21_RetainObeysLaws_a Tryz.f6 law21_RetainObeysLaws_p law21_RetainObeysLaws_r p
theorem law21_RetainObeysLaws_ok (n : Nat) (p : PayL R.T law21_RetainObeysLaws_p) (x : PayL R.T law21_RetainObeysLaws_r) (h : law21_RetainObeysLaws n p = some x) : Pure E 6 (encSL R law21_RetainObeysLaws_p p) (retV (encSL R law21_RetainObeysLaws_r x)) := by
  unfold law21_RetainObeysLaws at h
  exact funM_ok rOK (regs68_ok n) iters_ok h Tryz.func6 rfl rfl rfl rfl (by kernel_rfl)
noncomputable def regs69 (n : Nat) : Nat → List (FR R) := addF 6 ⟨law21_RetainObeysLaws_p, law21_RetainObeysLaws_r, law21_RetainObeysLaws n, dflL R law21_RetainObeysLaws_r⟩ (regs68 n)
end Sh
