/- Part of the proof of a law: ShQ. -/
import Derived.Test.YteniejlbjfigdaaGreatDoorW16
set_option linter.all false
set_option linter.unusedSimpArgs false
set_option linter.unusedSectionVars false
open Go Go.Proofs Aq
namespace Sh
set_option maxRecDepth 100000
set_option linter.unusedVariables false
def getN (l : List (Nat × Note)) (k : Nat) : Note := match look l k with
  | some q => q
  | none => ⟨[], [], ⟨[], []⟩, []⟩
noncomputable def ref13_Few_L2 (n : Nat) (x1 : Entry) (m : Nat) (p : Int) : Option (PUnit ⊕ Bool) :=
  loopF (R := R) 2 (wrC ((subO Tryz.f75.body [1, 0, 1, 0, 0]).getD .skip)) (⟨[(1, Aq.TV.ref 1 0)], [(1, Aq.Ob.ro (Aq.Ob.cells [Aq.TV.int Go.IntKind.i64 x1.ID, Aq.TV.int Go.IntKind.i64 x1.Ver, Aq.TV.int Go.IntKind.i64 x1.Owner, Aq.TV.int Go.IntKind.i64 x1.Filed, Aq.TV.int Go.IntKind.i64 x1.From, Aq.TV.int Go.IntKind.i64 x1.To, Aq.TV.int Go.IntKind.i64 x1.Born, Aq.TV.lst Aq.Cp.sh (Aq.Ty.int Go.IntKind.i64) x1.Vec, Aq.TV.lst Aq.Cp.sh (Aq.Ty.st 2) x1.Attrs]))]⟩ : Aq.MS R.T) (getN ref13_Few_a.loops 2).sh (getN ref13_Few_a.loops 2).outs (fun st k => codeM E R n false (regs0 n) iters ref13_Few_a ((subO Tryz.f75.body [1, 0, 1, 0, 0]).getD .skip) st k) m p
attribute [irreducible] ref13_Few_L2
theorem ref13_Few_L2_s (n : Nat) (x1 : Entry) (m : Nat) (x2 : Int) : ref13_Few_L2 n x1 (m + 1) x2 =
    bif bif decide (x2 < (((x1.Attrs.length : Nat) : Int))) then decide (x2 ≤ ((20 : Int))) else false then
      (idxL x1.Attrs x2).bind fun (r3 : Attr) =>
      (whenO (!(decide ((((r3.Name.length : Nat) : Int)) > ((300 : Int))))) (idxL x1.Attrs x2) ((⟨[], (0 : Int), (0 : Int), []⟩ : Attr))).bind fun (r4 : Attr) =>
      bif bif decide ((((r3.Name.length : Nat) : Int)) > ((300 : Int))) then true else decide ((((r4.S.length : Nat) : Int)) > ((300 : Int))) then
        some (.inr false)
      else
        ref13_Few_L2 n x1 m (Go.IntKind.wrap Go.IntKind.i64 (x2 + ((1 : Int))))
    else
      some (.inl (())) := by kernel_rfl
theorem ref13_Few_eq (n : Nat) (x1 : Entry) : ref13_Few n x1 =
    (ref13_Few_L2 n x1 n ((0 : Int))).bind fun (r5 : PUnit ⊕ Bool) =>
    Sum.elim (fun (q6 : PUnit) =>
      some (bif decide ((((x1.Vec.length : Nat) : Int)) ≤ ((40 : Int))) then decide ((((x1.Attrs.length : Nat) : Int)) ≤ ((20 : Int))) else false))
     (fun (q7 : Bool) =>
      some q7) r5 := by kernel_rfl
noncomputable def ref19_Few_L2 (n : Nat) (x1 : List Event) (x2 : Int) (m : Nat) (p : Int) : Option (PUnit ⊕ Bool) :=
  loopF (R := R) 2 (wrC ((subO Tryz.f38.body [1, 0, 1, 0, 0]).getD .skip)) (⟨[(0, Aq.TV.lst Aq.Cp.sh (Aq.Ty.st 13) x1), (1, Aq.TV.int Go.IntKind.i64 x2)], []⟩ : Aq.MS R.T) (getN ref19_Few_a.loops 2).sh (getN ref19_Few_a.loops 2).outs (fun st k => codeM E R n false (regs1 n) iters ref19_Few_a ((subO Tryz.f38.body [1, 0, 1, 0, 0]).getD .skip) st k) m p
attribute [irreducible] ref19_Few_L2
theorem ref19_Few_L2_s (n : Nat) (x1 : List Event) (x2 : Int) (m : Nat) (x3 : Int) : ref19_Few_L2 n x1 x2 (m + 1) x3 =
    bif bif decide (x3 < (((x1.length : Nat) : Int))) then decide (x3 ≤ x2) else false then
      (idxL x1 x3).bind fun (r4 : Event) =>
      (idxL x1 x3).bind fun (r5 : Event) =>
      (ref13_Few n ((⟨(0 : Int), (0 : Int), (0 : Int), (0 : Int), (0 : Int), (0 : Int), (0 : Int), r4.Vec, r5.Attrs⟩ : Entry))).bind fun (r6 : Bool) =>
      bif !r6 then
        some (.inr false)
      else
        ref19_Few_L2 n x1 x2 m (Go.IntKind.wrap Go.IntKind.i64 (x3 + ((1 : Int))))
    else
      some (.inl (())) := by kernel_rfl
theorem ref19_Few_eq (n : Nat) (x1 : List Event) (x2 : Int) : ref19_Few n (x1, x2) =
    (ref19_Few_L2 n x1 x2 n ((0 : Int))).bind fun (r7 : PUnit ⊕ Bool) =>
    Sum.elim (fun (q8 : PUnit) =>
      some (decide ((((x1.length : Nat) : Int)) ≤ x2)))
     (fun (q9 : Bool) =>
      some q9) r7 := by kernel_rfl
noncomputable def ref13_FewDefs_L8 (n : Nat) (x1 : Schema) (x2 : Int) (x3 : Int) (r4 : Def) (m : Nat) (p : Int) : Option (PUnit ⊕ Bool) :=
  loopF (R := R) 8 (wrC ((subO Tryz.f43.body [1, 0, 1, 0, 0, 1, 0, 0, 1, 1, 1, 0, 0]).getD .skip)) (⟨[(1, Aq.TV.int Go.IntKind.i64 x2), (2, Aq.TV.ref 2 0), (5, Aq.TV.int Go.IntKind.i64 x3), (6, Aq.TV.ref 6 0)], [(2, Aq.Ob.ro (Aq.Ob.ro (Aq.Ob.cells [Aq.TV.int Go.IntKind.i64 x1.Dims, Aq.TV.int Go.IntKind.i64 x1.Metric, Aq.TV.lst Aq.Cp.sh (Aq.Ty.st 0) x1.Defs]))), (6, Aq.Ob.ro (Aq.Ob.cells [Aq.TV.str r4.Name, Aq.TV.int Go.IntKind.i64 r4.Kind, Aq.TV.int Go.IntKind.i64 r4.Lo, Aq.TV.int Go.IntKind.i64 r4.Hi, Aq.TV.lst Aq.Cp.sh Aq.Ty.str r4.Words]))]⟩ : Aq.MS R.T) (getN ref13_FewDefs_a.loops 8).sh (getN ref13_FewDefs_a.loops 8).outs (fun st k => codeM E R n false (regs2 n) iters ref13_FewDefs_a ((subO Tryz.f43.body [1, 0, 1, 0, 0, 1, 0, 0, 1, 1, 1, 0, 0]).getD .skip) st k) m p
attribute [irreducible] ref13_FewDefs_L8
noncomputable def ref13_FewDefs_L2 (n : Nat) (x1 : Schema) (x2 : Int) (m : Nat) (p : Int) : Option (PUnit ⊕ Bool) :=
  loopF (R := R) 2 (wrC ((subO Tryz.f43.body [1, 0, 1, 0, 0]).getD .skip)) (⟨[(1, Aq.TV.int Go.IntKind.i64 x2), (2, Aq.TV.ref 2 0)], [(2, Aq.Ob.ro (Aq.Ob.cells [Aq.TV.int Go.IntKind.i64 x1.Dims, Aq.TV.int Go.IntKind.i64 x1.Metric, Aq.TV.lst Aq.Cp.sh (Aq.Ty.st 0) x1.Defs]))]⟩ : Aq.MS R.T) (getN ref13_FewDefs_a.loops 2).sh (getN ref13_FewDefs_a.loops 2).outs (fun st k => codeM E R n false (regs2 n) iters ref13_FewDefs_a ((subO Tryz.f43.body [1, 0, 1, 0, 0]).getD .skip) st k) m p
attribute [irreducible] ref13_FewDefs_L2
theorem ref13_FewDefs_L8_s (n : Nat) (x1 : Schema) (x2 : Int) (x3 : Int) (r4 : Def) (m : Nat) (x5 : Int) : ref13_FewDefs_L8 n x1 x2 x3 r4 (m + 1) x5 =
    bif decide (x5 < (((r4.Words.length : Nat) : Int))) then
      (idxL r4.Words x5).bind fun (r6 : List UInt8) =>
      bif decide ((((r6.length : Nat) : Int)) > ((100 : Int))) then
        some (.inr false)
      else
        ref13_FewDefs_L8 n x1 x2 x3 r4 m (Go.IntKind.wrap Go.IntKind.i64 (x5 + ((1 : Int))))
    else
      some (.inl (())) := by kernel_rfl
theorem ref13_FewDefs_L2_s (n : Nat) (x1 : Schema) (x2 : Int) (m : Nat) (x3 : Int) : ref13_FewDefs_L2 n x1 x2 (m + 1) x3 =
    bif bif decide (x3 < (((x1.Defs.length : Nat) : Int))) then decide (x3 ≤ x2) else false then
      (idxL x1.Defs x3).bind fun (r4 : Def) =>
      bif bif decide ((((r4.Words.length : Nat) : Int)) > ((60 : Int))) then true else decide ((((r4.Name.length : Nat) : Int)) > ((100 : Int))) then
        some (.inr false)
      else
        (ref13_FewDefs_L8 n x1 x2 x3 r4 n ((0 : Int))).bind fun (r7 : PUnit ⊕ Bool) =>
        Sum.elim (fun (q8 : PUnit) =>
          ref13_FewDefs_L2 n x1 x2 m (Go.IntKind.wrap Go.IntKind.i64 (x3 + ((1 : Int)))))
         (fun (q9 : Bool) =>
          some (.inr q9)) r7
    else
      some (.inl (())) := by kernel_rfl
theorem ref13_FewDefs_eq (n : Nat) (x1 : Schema) (x2 : Int) : ref13_FewDefs n (x1, x2) =
    (ref13_FewDefs_L2 n x1 x2 n ((0 : Int))).bind fun (r10 : PUnit ⊕ Bool) =>
    Sum.elim (fun (q11 : PUnit) =>
      some (decide ((((x1.Defs.length : Nat) : Int)) ≤ x2)))
     (fun (q12 : Bool) =>
      some q12) r10 := by kernel_rfl
theorem ref04_Metric_eq (n : Nat) (x1 : Int) : ref04_Metric n x1 =
    some (bif decide (x1 ≥ ((1 : Int))) then decide (x1 ≤ ((3 : Int))) else false) := by kernel_rfl
noncomputable def ref13_Has_L2 (n : Nat) (x1 : List (List UInt8)) (x2 : List UInt8) (m : Nat) (p : Int) : Option (PUnit ⊕ Bool) :=
  loopF (R := R) 2 (wrC ((subO Tryz.f197.body [1, 0, 1, 0, 0]).getD .skip)) (⟨[(0, Aq.TV.lst Aq.Cp.sh Aq.Ty.str x1), (1, Aq.TV.str x2)], []⟩ : Aq.MS R.T) (getN ref13_Has_a.loops 2).sh (getN ref13_Has_a.loops 2).outs (fun st k => codeM E R n false (regs4 n) iters ref13_Has_a ((subO Tryz.f197.body [1, 0, 1, 0, 0]).getD .skip) st k) m p
attribute [irreducible] ref13_Has_L2
theorem ref13_Has_L2_s (n : Nat) (x1 : List (List UInt8)) (x2 : List UInt8) (m : Nat) (x3 : Int) : ref13_Has_L2 n x1 x2 (m + 1) x3 =
    bif decide (x3 < (((x1.length : Nat) : Int))) then
      (idxL x1 x3).bind fun (r4 : List UInt8) =>
      bif r4 == x2 then
        some (.inr true)
      else
        ref13_Has_L2 n x1 x2 m (Go.IntKind.wrap Go.IntKind.i64 (x3 + ((1 : Int))))
    else
      some (.inl (())) := by kernel_rfl
theorem ref13_Has_eq (n : Nat) (x1 : List (List UInt8)) (x2 : List UInt8) : ref13_Has n (x1, x2) =
    (ref13_Has_L2 n x1 x2 n ((0 : Int))).bind fun (r5 : PUnit ⊕ Bool) =>
    Sum.elim (fun (q6 : PUnit) =>
      some false)
     (fun (q7 : Bool) =>
      some q7) r5 := by kernel_rfl
noncomputable def ref13_Name_L2 (n : Nat) (x1 : List UInt8) (m : Nat) (p : Int) : Option (PUnit ⊕ Bool) :=
  loopF (R := R) 2 (wrC ((subO Tryz.f150.body [1, 0, 1, 0, 0]).getD .skip)) (⟨[(0, Aq.TV.str x1)], []⟩ : Aq.MS R.T) (getN ref13_Name_a.loops 2).sh (getN ref13_Name_a.loops 2).outs (fun st k => codeM E R n false (regs5 n) iters ref13_Name_a ((subO Tryz.f150.body [1, 0, 1, 0, 0]).getD .skip) st k) m p
attribute [irreducible] ref13_Name_L2
theorem ref13_Name_L2_s (n : Nat) (x1 : List UInt8) (m : Nat) (x2 : Int) : ref13_Name_L2 n x1 (m + 1) x2 =
    bif decide (x2 < (((x1.length : Nat) : Int))) then
      (idxL x1 x2).bind fun (r3 : UInt8) =>
      bif bif !(bif decide ((((r3.toNat : Nat) : Int)) ≥ ((97 : Int))) then decide ((((r3.toNat : Nat) : Int)) ≤ ((122 : Int))) else false) then bif x2 == ((0 : Int)) then true else !(bif bif decide ((((r3.toNat : Nat) : Int)) ≥ ((48 : Int))) then decide ((((r3.toNat : Nat) : Int)) ≤ ((57 : Int))) else false then true else (((r3.toNat : Nat) : Int)) == ((95 : Int))) else false then
        some (.inr false)
      else
        ref13_Name_L2 n x1 m (Go.IntKind.wrap Go.IntKind.i64 (x2 + ((1 : Int))))
    else
      some (.inl (())) := by kernel_rfl
theorem ref13_Name_eq (n : Nat) (x1 : List UInt8) : ref13_Name n x1 =
    (ref13_Name_L2 n x1 n ((0 : Int))).bind fun (r4 : PUnit ⊕ Bool) =>
    Sum.elim (fun (q5 : PUnit) =>
      (whenO (bif decide ((((x1.length : Nat) : Int)) ≥ ((1 : Int))) then decide ((((x1.length : Nat) : Int)) ≤ ((40 : Int))) else false) (ref13_Has n (([[(97 : UInt8), (108 : UInt8), (108 : UInt8)], [(97 : UInt8), (110 : UInt8), (100 : UInt8)], [(104 : UInt8), (97 : UInt8), (115 : UInt8)], [(105 : UInt8), (110 : UInt8)], [(110 : UInt8), (111 : UInt8), (116 : UInt8)], [(111 : UInt8), (114 : UInt8)]], x1))) false).bind fun (r7 : Bool) =>
      some (bif bif decide ((((x1.length : Nat) : Int)) ≥ ((1 : Int))) then decide ((((x1.length : Nat) : Int)) ≤ ((40 : Int))) else false then !r7 else false))
     (fun (q6 : Bool) =>
      some q6) r4 := by kernel_rfl
noncomputable def ref13_words_L4 (n : Nat) (x1 : List (List UInt8)) (m : Nat) (p : Int) : Option (PUnit ⊕ Int) :=
  loopF (R := R) 4 (wrC ((subO Tryz.f151.body [1, 1, 0, 1, 0, 0]).getD .skip)) (⟨[(0, Aq.TV.lst Aq.Cp.sh Aq.Ty.str x1)], []⟩ : Aq.MS R.T) (getN ref13_words_a.loops 4).sh (getN ref13_words_a.loops 4).outs (fun st k => codeM E R n false (regs6 n) iters ref13_words_a ((subO Tryz.f151.body [1, 1, 0, 1, 0, 0]).getD .skip) st k) m p
attribute [irreducible] ref13_words_L4
noncomputable def ref13_words_L9 (n : Nat) (x1 : List (List UInt8)) (m : Nat) (p : Int) : Option (PUnit ⊕ Int) :=
  loopF (R := R) 9 (wrC ((subO Tryz.f151.body [1, 1, 1, 0, 1, 0, 0]).getD .skip)) (⟨[(0, Aq.TV.lst Aq.Cp.sh Aq.Ty.str x1)], []⟩ : Aq.MS R.T) (getN ref13_words_a.loops 9).sh (getN ref13_words_a.loops 9).outs (fun st k => codeM E R n false (regs6 n) iters ref13_words_a ((subO Tryz.f151.body [1, 1, 1, 0, 1, 0, 0]).getD .skip) st k) m p
attribute [irreducible] ref13_words_L9
theorem ref13_words_L4_s (n : Nat) (x1 : List (List UInt8)) (m : Nat) (x2 : Int) : ref13_words_L4 n x1 (m + 1) x2 =
    bif decide (x2 < (((x1.length : Nat) : Int))) then
      (idxL x1 x2).bind fun (r3 : List UInt8) =>
      (ref13_Name n r3).bind fun (r4 : Bool) =>
      bif !r4 then
        some (.inr ((5 : Int)))
      else
        ref13_words_L4 n x1 m (Go.IntKind.wrap Go.IntKind.i64 (x2 + ((1 : Int))))
    else
      some (.inl (())) := by kernel_rfl
theorem ref13_words_L9_s (n : Nat) (x1 : List (List UInt8)) (m : Nat) (x8 : Int) : ref13_words_L9 n x1 (m + 1) x8 =
    bif decide (x8 < (((x1.length : Nat) : Int))) then
      (idxL x1 x8).bind fun (r9 : List UInt8) =>
      (idxL x1 (Go.IntKind.wrap Go.IntKind.i64 (x8 - ((1 : Int))))).bind fun (r10 : List UInt8) =>
      bif (Go.Op.bytesLess r9 r10) || (r9 == r10) then
        some (.inr ((6 : Int)))
      else
        ref13_words_L9 n x1 m (Go.IntKind.wrap Go.IntKind.i64 (x8 + ((1 : Int))))
    else
      some (.inl (())) := by kernel_rfl
theorem ref13_words_eq (n : Nat) (x1 : List (List UInt8)) : ref13_words n x1 =
    bif bif decide ((((x1.length : Nat) : Int)) < ((1 : Int))) then true else decide ((((x1.length : Nat) : Int)) > ((50 : Int))) then
      some ((2 : Int))
    else
      (ref13_words_L4 n x1 n ((0 : Int))).bind fun (r5 : PUnit ⊕ Int) =>
      Sum.elim (fun (q6 : PUnit) =>
        (ref13_words_L9 n x1 n ((1 : Int))).bind fun (r11 : PUnit ⊕ Int) =>
        Sum.elim (fun (q12 : PUnit) =>
          some ((0 : Int)))
         (fun (q13 : Int) =>
          some q13) r11)
       (fun (q7 : Int) =>
        some q7) r5 := by kernel_rfl
theorem ref13_def_eq (n : Nat) (x1 : Def) (x2 : List UInt8) : ref13_def n (x1, x2) =
    (ref13_Name n x1.Name).bind fun (r3 : Bool) =>
    bif !r3 then
      some ((5 : Int))
    else
      bif (Go.Op.bytesLess x1.Name x2) || (x1.Name == x2) then
        some ((6 : Int))
      else
        bif x1.Kind == ((1 : Int)) then
          bif bif bif decide (x1.Lo < ((-1099511627776 : Int))) then true else decide (x1.Hi > ((1099511627776 : Int))) then true else decide (x1.Lo > x1.Hi) then
            some ((131 : Int))
          else
            bif decide ((((x1.Words.length : Nat) : Int)) > ((0 : Int))) then
              some ((3 : Int))
            else
              some ((0 : Int))
        else
          bif x1.Kind == ((2 : Int)) then
            bif bif x1.Lo != ((0 : Int)) then true else x1.Hi != ((0 : Int)) then
              some ((3 : Int))
            else
              (ref13_words n x1.Words).bind fun (r4 : Int) =>
              some r4
          else
            some ((130 : Int)) := by kernel_rfl
noncomputable def ref13_Check_L7 (n : Nat) (x1 : Schema) (m : Nat) (p : (List UInt8) × Int) : Option (PUnit ⊕ Int) :=
  loopF (R := R) 7 (wrC ((subO Tryz.f45.body [1, 1, 1, 1, 0, 1, 0, 0]).getD .skip)) (⟨[(1, Aq.TV.ref 1 0)], [(1, Aq.Ob.ro (Aq.Ob.cells [Aq.TV.int Go.IntKind.i64 x1.Dims, Aq.TV.int Go.IntKind.i64 x1.Metric, Aq.TV.lst Aq.Cp.sh (Aq.Ty.st 0) x1.Defs]))]⟩ : Aq.MS R.T) (getN ref13_Check_a.loops 7).sh (getN ref13_Check_a.loops 7).outs (fun st k => codeM E R n false (regs8 n) iters ref13_Check_a ((subO Tryz.f45.body [1, 1, 1, 1, 0, 1, 0, 0]).getD .skip) st k) m p
attribute [irreducible] ref13_Check_L7
theorem ref13_Check_L7_s (n : Nat) (x1 : Schema) (m : Nat) (x3 : List UInt8) (x4 : Int) : ref13_Check_L7 n x1 (m + 1) (x3, x4) =
    bif decide (x4 < (((x1.Defs.length : Nat) : Int))) then
      (idxL x1.Defs x4).bind fun (r5 : Def) =>
      (ref13_def n ((r5, x3))).bind fun (r6 : Int) =>
      bif r6 != ((0 : Int)) then
        some (.inr r6)
      else
        (idxL x1.Defs x4).bind fun (r7 : Def) =>
        ref13_Check_L7 n x1 m ((r7.Name, Go.IntKind.wrap Go.IntKind.i64 (x4 + ((1 : Int)))))
    else
      some (.inl (())) := by kernel_rfl
theorem ref13_Check_eq (n : Nat) (x1 : Schema) : ref13_Check n x1 =
    (whenO (!(bif decide (x1.Dims < ((1 : Int))) then true else decide (x1.Dims > ((32 : Int))))) (ref04_Metric n x1.Metric) false).bind fun (r2 : Bool) =>
    bif bif bif decide (x1.Dims < ((1 : Int))) then true else decide (x1.Dims > ((32 : Int))) then true else !r2 then
      some ((1 : Int))
    else
      bif decide ((((x1.Defs.length : Nat) : Int)) > ((16 : Int))) then
        some ((2 : Int))
      else
        (ref13_Check_L7 n x1 n (([], (0 : Int)))).bind fun (r8 : PUnit ⊕ Int) =>
        Sum.elim (fun (q9 : PUnit) =>
          some ((0 : Int)))
         (fun (q10 : Int) =>
          some q10) r8 := by kernel_rfl
theorem ref19_New_eq (n : Nat) (x1 : Schema) : ref19_New n x1 =
    (ref13_Check n x1).bind fun (r2 : Int) =>
    bif r2 != ((0 : Int)) then
      some ((⟨(⟨(⟨(0 : Int), (0 : Int), []⟩ : Schema), (0 : Int), (0 : Int), [], []⟩ : Book), r2⟩ : ref19_Booked))
    else
      some ((⟨(⟨x1, (0 : Int), (0 : Int), [], []⟩ : Book), (0 : Int)⟩ : ref19_Booked)) := by kernel_rfl
noncomputable def ref19_has_L2 (n : Nat) (x1 : Book) (x2 : Int) (m : Nat) (p : Int) : Option (PUnit ⊕ Bool) :=
  loopF (R := R) 2 (wrC ((subO Tryz.f192.body [1, 0, 1, 0, 0]).getD .skip)) (⟨[(1, Aq.TV.int Go.IntKind.i64 x2), (2, Aq.TV.ref 2 0)], [(2, Aq.Ob.ro (Aq.Ob.cells [Aq.TV.int Go.IntKind.i64 x1.Schema.Dims, Aq.TV.int Go.IntKind.i64 x1.Schema.Metric, Aq.TV.lst Aq.Cp.sh (Aq.Ty.st 0) x1.Schema.Defs, Aq.TV.int Go.IntKind.i64 x1.Commit, Aq.TV.int Go.IntKind.i64 x1.Day, Aq.TV.lst Aq.Cp.sh (Aq.Ty.int Go.IntKind.i64) x1.Days, Aq.TV.lst Aq.Cp.sh (Aq.Ty.st 4) x1.Rows]))]⟩ : Aq.MS R.T) (getN ref19_has_a.loops 2).sh (getN ref19_has_a.loops 2).outs (fun st k => codeM E R n false (regs10 n) iters ref19_has_a ((subO Tryz.f192.body [1, 0, 1, 0, 0]).getD .skip) st k) m p
attribute [irreducible] ref19_has_L2
theorem ref19_has_L2_s (n : Nat) (x1 : Book) (x2 : Int) (m : Nat) (x3 : Int) : ref19_has_L2 n x1 x2 (m + 1) x3 =
    bif decide (x3 < (((x1.Rows.length : Nat) : Int))) then
      (idxL x1.Rows x3).bind fun (r4 : Row) =>
      bif r4.Entry.ID == x2 then
        some (.inr true)
      else
        ref19_has_L2 n x1 x2 m (Go.IntKind.wrap Go.IntKind.i64 (x3 + ((1 : Int))))
    else
      some (.inl (())) := by kernel_rfl
theorem ref19_has_eq (n : Nat) (x1 : Book) (x2 : Int) : ref19_has n (x1, x2) =
    (ref19_has_L2 n x1 x2 n ((0 : Int))).bind fun (r5 : PUnit ⊕ Bool) =>
    Sum.elim (fun (q6 : PUnit) =>
      some false)
     (fun (q7 : Bool) =>
      some q7) r5 := by kernel_rfl
noncomputable def ref04_Valid_L2 (n : Nat) (x1 : List Int) (m : Nat) (p : Int) : Option (PUnit ⊕ Bool) :=
  loopF (R := R) 2 (wrC ((subO Tryz.f221.body [1, 0, 1, 0, 0]).getD .skip)) (⟨[(0, Aq.TV.lst Aq.Cp.sh (Aq.Ty.int Go.IntKind.i64) x1)], []⟩ : Aq.MS R.T) (getN ref04_Valid_a.loops 2).sh (getN ref04_Valid_a.loops 2).outs (fun st k => codeM E R n false (regs11 n) iters ref04_Valid_a ((subO Tryz.f221.body [1, 0, 1, 0, 0]).getD .skip) st k) m p
attribute [irreducible] ref04_Valid_L2
theorem ref04_Valid_L2_s (n : Nat) (x1 : List Int) (m : Nat) (x2 : Int) : ref04_Valid_L2 n x1 (m + 1) x2 =
    bif decide (x2 < (((x1.length : Nat) : Int))) then
      (idxL x1 x2).bind fun (r3 : Int) =>
      (whenO (!(decide (r3 < ((-1000 : Int))))) (idxL x1 x2) ((0 : Int))).bind fun (r4 : Int) =>
      bif bif decide (r3 < ((-1000 : Int))) then true else decide (r4 > ((1000 : Int))) then
        some (.inr false)
      else
        ref04_Valid_L2 n x1 m (Go.IntKind.wrap Go.IntKind.i64 (x2 + ((1 : Int))))
    else
      some (.inl (())) := by kernel_rfl
theorem ref04_Valid_eq (n : Nat) (x1 : List Int) : ref04_Valid n x1 =
    (ref04_Valid_L2 n x1 n ((0 : Int))).bind fun (r5 : PUnit ⊕ Bool) =>
    Sum.elim (fun (q6 : PUnit) =>
      some (bif decide ((((x1.length : Nat) : Int)) ≥ ((1 : Int))) then decide ((((x1.length : Nat) : Int)) ≤ ((32 : Int))) else false))
     (fun (q7 : Bool) =>
      some q7) r5 := by kernel_rfl
noncomputable def ref13_Find_L2 (n : Nat) (x1 : Schema) (x2 : List UInt8) (m : Nat) (p : Int) : Option (PUnit ⊕ Int) :=
  loopF (R := R) 2 (wrC ((subO Tryz.f56.body [1, 0, 1, 0, 0]).getD .skip)) (⟨[(1, Aq.TV.str x2), (2, Aq.TV.ref 2 0)], [(2, Aq.Ob.ro (Aq.Ob.cells [Aq.TV.int Go.IntKind.i64 x1.Dims, Aq.TV.int Go.IntKind.i64 x1.Metric, Aq.TV.lst Aq.Cp.sh (Aq.Ty.st 0) x1.Defs]))]⟩ : Aq.MS R.T) (getN ref13_Find_a.loops 2).sh (getN ref13_Find_a.loops 2).outs (fun st k => codeM E R n false (regs12 n) iters ref13_Find_a ((subO Tryz.f56.body [1, 0, 1, 0, 0]).getD .skip) st k) m p
attribute [irreducible] ref13_Find_L2
theorem ref13_Find_L2_s (n : Nat) (x1 : Schema) (x2 : List UInt8) (m : Nat) (x3 : Int) : ref13_Find_L2 n x1 x2 (m + 1) x3 =
    bif decide (x3 < (((x1.Defs.length : Nat) : Int))) then
      (idxL x1.Defs x3).bind fun (r4 : Def) =>
      bif r4.Name == x2 then
        some (.inr x3)
      else
        ref13_Find_L2 n x1 x2 m (Go.IntKind.wrap Go.IntKind.i64 (x3 + ((1 : Int))))
    else
      some (.inl (())) := by kernel_rfl
theorem ref13_Find_eq (n : Nat) (x1 : Schema) (x2 : List UInt8) : ref13_Find n (x1, x2) =
    (ref13_Find_L2 n x1 x2 n ((0 : Int))).bind fun (r5 : PUnit ⊕ Int) =>
    Sum.elim (fun (q6 : PUnit) =>
      some ((-1 : Int)))
     (fun (q7 : Int) =>
      some q7) r5 := by kernel_rfl
theorem ref13_Value_eq (n : Nat) (x1 : Def) (x2 : Attr) : ref13_Value n (x1, x2) =
    bif x2.Kind != x1.Kind then
      some ((130 : Int))
    else
      bif x2.Kind == ((1 : Int)) then
        bif !(x2.S == []) then
          some ((3 : Int))
        else
          bif bif decide (x2.N < x1.Lo) then true else decide (x2.N > x1.Hi) then
            some ((131 : Int))
          else
            some ((0 : Int))
      else
        bif x2.N != ((0 : Int)) then
          some ((3 : Int))
        else
          (ref13_Has n ((x1.Words, x2.S))).bind fun (r3 : Bool) =>
          bif !r3 then
            some ((131 : Int))
          else
            some ((0 : Int)) := by kernel_rfl
noncomputable def ref13_Fits_L2 (n : Nat) (x1 : Schema) (x2 : List Attr) (m : Nat) (p : Int) : Option (PUnit ⊕ Int) :=
  loopF (R := R) 2 (wrC ((subO Tryz.f222.body [1, 0, 1, 0, 0]).getD .skip)) (⟨[(1, Aq.TV.lst Aq.Cp.sh (Aq.Ty.st 2) x2), (2, Aq.TV.ref 2 0)], [(2, Aq.Ob.ro (Aq.Ob.cells [Aq.TV.int Go.IntKind.i64 x1.Dims, Aq.TV.int Go.IntKind.i64 x1.Metric, Aq.TV.lst Aq.Cp.sh (Aq.Ty.st 0) x1.Defs]))]⟩ : Aq.MS R.T) (getN ref13_Fits_a.loops 2).sh (getN ref13_Fits_a.loops 2).outs (fun st k => codeM E R n false (regs14 n) iters ref13_Fits_a ((subO Tryz.f222.body [1, 0, 1, 0, 0]).getD .skip) st k) m p
attribute [irreducible] ref13_Fits_L2
theorem ref13_Fits_L2_s (n : Nat) (x1 : Schema) (x2 : List Attr) (m : Nat) (x3 : Int) : ref13_Fits_L2 n x1 x2 (m + 1) x3 =
    bif decide (x3 < (((x2.length : Nat) : Int))) then
      (idxL x2 x3).bind fun (r4 : Attr) =>
      (ref13_Find n ((x1, r4.Name))).bind fun (r5 : Int) =>
      bif decide (r5 < ((0 : Int))) then
        some (.inr ((5 : Int)))
      else
        bif decide (x3 > ((0 : Int))) then
          (idxL x2 x3).bind fun (r6 : Attr) =>
          (idxL x2 (Go.IntKind.wrap Go.IntKind.i64 (x3 - ((1 : Int))))).bind fun (r7 : Attr) =>
          bif (Go.Op.bytesLess r6.Name r7.Name) || (r6.Name == r7.Name) then
            some (.inr ((6 : Int)))
          else
            (idxL x1.Defs r5).bind fun (r8 : Def) =>
            (idxL x2 x3).bind fun (r9 : Attr) =>
            (ref13_Value n ((r8, r9))).bind fun (r10 : Int) =>
            bif r10 != ((0 : Int)) then
              some (.inr r10)
            else
              ref13_Fits_L2 n x1 x2 m (Go.IntKind.wrap Go.IntKind.i64 (x3 + ((1 : Int))))
        else
          (idxL x1.Defs r5).bind fun (r11 : Def) =>
          (idxL x2 x3).bind fun (r12 : Attr) =>
          (ref13_Value n ((r11, r12))).bind fun (r13 : Int) =>
          bif r13 != ((0 : Int)) then
            some (.inr r13)
          else
            ref13_Fits_L2 n x1 x2 m (Go.IntKind.wrap Go.IntKind.i64 (x3 + ((1 : Int))))
    else
      some (.inl (())) := by kernel_rfl
theorem ref13_Fits_eq (n : Nat) (x1 : Schema) (x2 : List Attr) : ref13_Fits n (x1, x2) =
    (ref13_Fits_L2 n x1 x2 n ((0 : Int))).bind fun (r14 : PUnit ⊕ Int) =>
    Sum.elim (fun (q15 : PUnit) =>
      some ((0 : Int)))
     (fun (q16 : Int) =>
      some q16) r14 := by kernel_rfl
theorem ref13_Entry_eq (n : Nat) (x1 : Schema) (x2 : Entry) : ref13_Entry n (x1, x2) =
    bif bif bif bif bif bif decide (x2.ID < ((1 : Int))) then true else decide (x2.ID > ((1073741824 : Int))) then true else decide (x2.Owner < ((1 : Int))) then true else decide (x2.Owner > ((1073741824 : Int))) then true else decide (x2.Ver < ((1 : Int))) then true else decide (x2.Ver > ((1073741824 : Int))) then
      some ((1 : Int))
    else
      bif bif bif bif bif bif bif decide (x2.Filed < ((0 : Int))) then true else decide (x2.From < x2.Filed) then true else decide (x2.To ≤ x2.From) then true else decide (x2.To > ((1048577 : Int))) then true else decide (x2.From > ((1048576 : Int))) then true else decide (x2.Born < ((1 : Int))) then true else decide (x2.Born > ((1073741824 : Int))) then
        some ((9 : Int))
      else
        (ref04_Valid n x2.Vec).bind fun (r3 : Bool) =>
        bif bif !r3 then true else (((x2.Vec.length : Nat) : Int)) != x1.Dims then
          some ((40 : Int))
        else
          (ref13_Fits n ((x1, x2.Attrs))).bind fun (r4 : Int) =>
          some r4 := by kernel_rfl
noncomputable def ref19_version_L3 (n : Nat) (x1 : Book) (x2 : Int) (m : Nat) (p : Int × Int) : Option (Int) :=
  loopF (R := R) 3 (wrC ((subO Tryz.f194.body [1, 1, 0, 1, 0, 0]).getD .skip)) (⟨[(1, Aq.TV.int Go.IntKind.i64 x2), (2, Aq.TV.ref 2 0)], [(2, Aq.Ob.ro (Aq.Ob.cells [Aq.TV.int Go.IntKind.i64 x1.Schema.Dims, Aq.TV.int Go.IntKind.i64 x1.Schema.Metric, Aq.TV.lst Aq.Cp.sh (Aq.Ty.st 0) x1.Schema.Defs, Aq.TV.int Go.IntKind.i64 x1.Commit, Aq.TV.int Go.IntKind.i64 x1.Day, Aq.TV.lst Aq.Cp.sh (Aq.Ty.int Go.IntKind.i64) x1.Days, Aq.TV.lst Aq.Cp.sh (Aq.Ty.st 4) x1.Rows]))]⟩ : Aq.MS R.T) (getN ref19_version_a.loops 3).sh (getN ref19_version_a.loops 3).outs (fun st k => codeM E R n false (regs16 n) iters ref19_version_a ((subO Tryz.f194.body [1, 1, 0, 1, 0, 0]).getD .skip) st k) m p
attribute [irreducible] ref19_version_L3
theorem ref19_version_L3_s (n : Nat) (x1 : Book) (x2 : Int) (m : Nat) (x3 : Int) (x4 : Int) : ref19_version_L3 n x1 x2 (m + 1) (x3, x4) =
    bif decide (x4 < (((x1.Rows.length : Nat) : Int))) then
      (idxL x1.Rows x4).bind fun (r5 : Row) =>
      bif r5.Entry.ID == x2 then
        (idxL x1.Rows x4).bind fun (r6 : Row) =>
        ref19_version_L3 n x1 x2 m ((imax x3 r6.Entry.Ver, Go.IntKind.wrap Go.IntKind.i64 (x4 + ((1 : Int)))))
      else
        ref19_version_L3 n x1 x2 m ((x3, Go.IntKind.wrap Go.IntKind.i64 (x4 + ((1 : Int)))))
    else
      some x3 := by kernel_rfl
theorem ref19_version_eq (n : Nat) (x1 : Book) (x2 : Int) : ref19_version n (x1, x2) =
    (ref19_version_L3 n x1 x2 n (((0 : Int), (0 : Int)))).bind fun (r7 : Int) =>
    some r7 := by kernel_rfl
noncomputable def ref19_die_L3 (n : Nat) (x2 : Int) (x3 : Int) (x4 : Int) (m : Nat) (p : Int × List Row) : Option (PUnit × List Row) :=
  loopF (R := R) 3 (wrC ((subO Tryz.f195.body [1, 1, 0, 1, 0, 0]).getD .skip)) (⟨[(1, Aq.TV.int Go.IntKind.i64 x2), (2, Aq.TV.int Go.IntKind.i64 x3), (3, Aq.TV.int Go.IntKind.i64 x4), (9, Aq.TV.vw 13 (Aq.Ty.st 4))], []⟩ : Aq.MS R.T) (getN ref19_die_a.loops 3).sh (getN ref19_die_a.loops 3).outs (fun st k => codeM E R n true (regs17 n) iters ref19_die_a ((subO Tryz.f195.body [1, 1, 0, 1, 0, 0]).getD .skip) st k) m p
attribute [irreducible] ref19_die_L3
theorem ref19_die_L3_s (n : Nat) (x2 : Int) (x3 : Int) (x4 : Int) (m : Nat) (x5 : Int) (x6 : List Row) : ref19_die_L3 n x2 x3 x4 (m + 1) (x5, x6) =
    bif decide (x5 < (((x6.length : Nat) : Int))) then
      bif decide (0 ≤ x5 ∧ x5 < ((x6.length : Nat) : Int)) then
        (idxL x6 x5).bind fun (r7 : Row) =>
        bif impB (r7.Entry.ID == x2) (decide (0 ≤ x5 ∧ x5 < ((x6.length : Nat) : Int))) then
          (whenO (r7.Entry.ID == x2) (idxL x6 x5) ((⟨(⟨(0 : Int), (0 : Int), (0 : Int), (0 : Int), (0 : Int), (0 : Int), (0 : Int), [], []⟩ : Entry), (0 : Int)⟩ : Row))).bind fun (r8 : Row) =>
          bif impB (bif r7.Entry.ID == x2 then r8.Entry.From == x3 else false) (decide (0 ≤ x5 ∧ x5 < ((x6.length : Nat) : Int))) then
            (whenO (bif r7.Entry.ID == x2 then r8.Entry.From == x3 else false) (idxL x6 x5) ((⟨(⟨(0 : Int), (0 : Int), (0 : Int), (0 : Int), (0 : Int), (0 : Int), (0 : Int), [], []⟩ : Entry), (0 : Int)⟩ : Row))).bind fun (r9 : Row) =>
            bif impB (bif bif r7.Entry.ID == x2 then r8.Entry.From == x3 else false then r9.Died == ((0 : Int)) else false) (decide (0 ≤ x5 ∧ x5 < ((x6.length : Nat) : Int))) then
              (whenO (bif bif r7.Entry.ID == x2 then r8.Entry.From == x3 else false then r9.Died == ((0 : Int)) else false) (idxL x6 x5) ((⟨(⟨(0 : Int), (0 : Int), (0 : Int), (0 : Int), (0 : Int), (0 : Int), (0 : Int), [], []⟩ : Entry), (0 : Int)⟩ : Row))).bind fun (r10 : Row) =>
              bif bif bif bif r7.Entry.ID == x2 then r8.Entry.From == x3 else false then r9.Died == ((0 : Int)) else false then decide (r10.Entry.Born < x4) else false then
                bif decide (0 ≤ x5 ∧ x5 < ((x6.length : Nat) : Int)) then
                  (idxL x6 x5).bind fun (r11 : Row) =>
                  ref19_die_L3 n x2 x3 x4 m ((Go.IntKind.wrap Go.IntKind.i64 (x5 + ((1 : Int))), setL x6 x5 ((⟨r11.Entry, x4⟩ : Row))))
                else
                  none
              else
                ref19_die_L3 n x2 x3 x4 m ((Go.IntKind.wrap Go.IntKind.i64 (x5 + ((1 : Int))), x6))
            else
              none
          else
            none
        else
          none
      else
        none
    else
      some (((), x6)) := by kernel_rfl
theorem ref19_die_eq (n : Nat) (x1 : List Row) (x2 : Int) (x3 : Int) (x4 : Int) : ref19_die n (x1, (x2, (x3, x4))) =
    bif roomOK x1.length 112 then
      (ref19_die_L3 n x2 x3 x4 n (((0 : Int), x1))).bind fun (r12 : PUnit × List Row) =>
      some r12.2
    else
      none := by kernel_rfl
noncomputable def ref19_change_L5 (n : Nat) (x1 : Book) (x2 : Event) (x3 : List Row) (x4 : List ref19_days) (x5 : Entry) (m : Nat) (p : Int × (List Row) × (List Row) × Int) : Option (Int × (List Row) × List Row) :=
  loopF (R := R) 5 (wrC ((subO Tryz.f145.body [1, 1, 1, 1, 0, 1, 0, 0]).getD .skip)) (⟨[(2, Aq.TV.lst Aq.Cp.sh (Aq.Ty.st 4) x3), (3, Aq.TV.lst Aq.Cp.sh (Aq.Ty.st 21) x4), (5, Aq.TV.ref 5 0), (6, Aq.TV.ref 6 0), (9, Aq.TV.ref 9 0), (10, Aq.TV.ref 10 0)], [(5, Aq.Ob.ro (Aq.Ob.cells [Aq.TV.int Go.IntKind.i64 x1.Schema.Dims, Aq.TV.int Go.IntKind.i64 x1.Schema.Metric, Aq.TV.lst Aq.Cp.sh (Aq.Ty.st 0) x1.Schema.Defs, Aq.TV.int Go.IntKind.i64 x1.Commit, Aq.TV.int Go.IntKind.i64 x1.Day, Aq.TV.lst Aq.Cp.sh (Aq.Ty.int Go.IntKind.i64) x1.Days, Aq.TV.lst Aq.Cp.sh (Aq.Ty.st 4) x1.Rows])), (6, Aq.Ob.ro (Aq.Ob.cells [Aq.TV.int Go.IntKind.i64 x2.Kind, Aq.TV.int Go.IntKind.i64 x2.Commit, Aq.TV.int Go.IntKind.i64 x2.Day, Aq.TV.int Go.IntKind.i64 x2.ID, Aq.TV.int Go.IntKind.i64 x2.Owner, Aq.TV.int Go.IntKind.i64 x2.Until, Aq.TV.int Go.IntKind.i64 x2.From, Aq.TV.lst Aq.Cp.sh (Aq.Ty.int Go.IntKind.i64) x2.Vec, Aq.TV.lst Aq.Cp.sh (Aq.Ty.st 2) x2.Attrs, Aq.TV.int Go.IntKind.u8 x2.Nonce.b0, Aq.TV.int Go.IntKind.u8 x2.Nonce.b1, Aq.TV.int Go.IntKind.u8 x2.Nonce.b2, Aq.TV.int Go.IntKind.u8 x2.Nonce.b3, Aq.TV.int Go.IntKind.u8 x2.Nonce.b4, Aq.TV.int Go.IntKind.u8 x2.Nonce.b5, Aq.TV.int Go.IntKind.u8 x2.Nonce.b6, Aq.TV.int Go.IntKind.u8 x2.Nonce.b7, Aq.TV.int Go.IntKind.u8 x2.Nonce.b8, Aq.TV.int Go.IntKind.u8 x2.Nonce.b9, Aq.TV.int Go.IntKind.u8 x2.Nonce.b10, Aq.TV.int Go.IntKind.u8 x2.Nonce.b11, Aq.TV.int Go.IntKind.u8 x2.Nonce.b12, Aq.TV.int Go.IntKind.u8 x2.Nonce.b13, Aq.TV.int Go.IntKind.u8 x2.Nonce.b14, Aq.TV.int Go.IntKind.u8 x2.Nonce.b15])), (9, Aq.Ob.ro (Aq.Ob.cells [Aq.TV.int Go.IntKind.i64 x5.ID, Aq.TV.int Go.IntKind.i64 x5.Ver, Aq.TV.int Go.IntKind.i64 x5.Owner, Aq.TV.int Go.IntKind.i64 x5.Filed, Aq.TV.int Go.IntKind.i64 x5.From, Aq.TV.int Go.IntKind.i64 x5.To, Aq.TV.int Go.IntKind.i64 x5.Born, Aq.TV.lst Aq.Cp.sh (Aq.Ty.int Go.IntKind.i64) x5.Vec, Aq.TV.lst Aq.Cp.sh (Aq.Ty.st 2) x5.Attrs])), (10, Aq.Ob.ro (Aq.Ob.cells [Aq.TV.int Go.IntKind.i64 ((0 : Int)), Aq.TV.int Go.IntKind.i64 ((0 : Int)), Aq.TV.nils, Aq.TV.int Go.IntKind.i64 ((0 : Int)), Aq.TV.int Go.IntKind.i64 ((0 : Int)), Aq.TV.nils, Aq.TV.nils, Aq.TV.int Go.IntKind.i64 ((0 : Int))]))]⟩ : Aq.MS R.T) (getN ref19_change_a.loops 5).sh (getN ref19_change_a.loops 5).outs (fun st k => codeM E R n false (regs18 n) iters ref19_change_a ((subO Tryz.f145.body [1, 1, 1, 1, 0, 1, 0, 0]).getD .skip) st k) m p
attribute [irreducible] ref19_change_L5
theorem ref19_change_L5_s (n : Nat) (x1 : Book) (x2 : Event) (x3 : List Row) (x4 : List ref19_days) (x5 : Entry) (m : Nat) (x7 : Int) (x8 : List Row) (x9 : List Row) (x10 : Int) : ref19_change_L5 n x1 x2 x3 x4 x5 (m + 1) (x7, (x8, (x9, x10))) =
    bif decide (x10 < (((x3.length : Nat) : Int))) then
      (idxL x3 x10).bind fun (r11 : Row) =>
      (idxL x4 x10).bind fun (r12 : ref19_days) =>
      bif r12.from_ == r11.Entry.From then
        (idxL x4 x10).bind fun (r13 : ref19_days) =>
        bif r13.to == r11.Entry.To then
          ref19_change_L5 n x1 x2 x3 x4 x5 m ((x7, (x8, (x9, Go.IntKind.wrap Go.IntKind.i64 (x10 + ((1 : Int)))))))
        else
          (ref19_die n ((x8, (x2.ID, (r11.Entry.From, x2.Commit))))).bind fun (r14 : List Row) =>
          (idxL x4 x10).bind fun (r15 : ref19_days) =>
          (idxL x4 x10).bind fun (r16 : ref19_days) =>
          bif decide (r15.from_ < r16.to) then
            (idxL x4 x10).bind fun (r17 : ref19_days) =>
            (idxL x4 x10).bind fun (r18 : ref19_days) =>
            bif roomOK (x9.length + ([(⟨(⟨r11.Entry.ID, Go.IntKind.wrap Go.IntKind.i64 (x7 + ((1 : Int))), r11.Entry.Owner, r11.Entry.Filed, r17.from_, r18.to, x2.Commit, r11.Entry.Vec, r11.Entry.Attrs⟩ : Entry), (0 : Int)⟩ : Row)].length)) 112 then
              ref19_change_L5 n x1 x2 x3 x4 x5 m ((Go.IntKind.wrap Go.IntKind.i64 (x7 + ((1 : Int))), (r14, (x9 ++ [(⟨(⟨r11.Entry.ID, Go.IntKind.wrap Go.IntKind.i64 (x7 + ((1 : Int))), r11.Entry.Owner, r11.Entry.Filed, r17.from_, r18.to, x2.Commit, r11.Entry.Vec, r11.Entry.Attrs⟩ : Entry), (0 : Int)⟩ : Row)], Go.IntKind.wrap Go.IntKind.i64 (x10 + ((1 : Int)))))))
            else
              none
          else
            ref19_change_L5 n x1 x2 x3 x4 x5 m ((x7, (r14, (x9, Go.IntKind.wrap Go.IntKind.i64 (x10 + ((1 : Int)))))))
      else
        (ref19_die n ((x8, (x2.ID, (r11.Entry.From, x2.Commit))))).bind fun (r19 : List Row) =>
        (idxL x4 x10).bind fun (r20 : ref19_days) =>
        (idxL x4 x10).bind fun (r21 : ref19_days) =>
        bif decide (r20.from_ < r21.to) then
          (idxL x4 x10).bind fun (r22 : ref19_days) =>
          (idxL x4 x10).bind fun (r23 : ref19_days) =>
          bif roomOK (x9.length + ([(⟨(⟨r11.Entry.ID, Go.IntKind.wrap Go.IntKind.i64 (x7 + ((1 : Int))), r11.Entry.Owner, r11.Entry.Filed, r22.from_, r23.to, x2.Commit, r11.Entry.Vec, r11.Entry.Attrs⟩ : Entry), (0 : Int)⟩ : Row)].length)) 112 then
            ref19_change_L5 n x1 x2 x3 x4 x5 m ((Go.IntKind.wrap Go.IntKind.i64 (x7 + ((1 : Int))), (r19, (x9 ++ [(⟨(⟨r11.Entry.ID, Go.IntKind.wrap Go.IntKind.i64 (x7 + ((1 : Int))), r11.Entry.Owner, r11.Entry.Filed, r22.from_, r23.to, x2.Commit, r11.Entry.Vec, r11.Entry.Attrs⟩ : Entry), (0 : Int)⟩ : Row)], Go.IntKind.wrap Go.IntKind.i64 (x10 + ((1 : Int)))))))
          else
            none
        else
          ref19_change_L5 n x1 x2 x3 x4 x5 m ((x7, (r19, (x9, Go.IntKind.wrap Go.IntKind.i64 (x10 + ((1 : Int)))))))
    else
      some ((x7, (x8, x9))) := by kernel_rfl
theorem ref19_change_eq (n : Nat) (x1 : Book) (x2 : Event) (x3 : List Row) (x4 : List ref19_days) (x5 : Entry) : ref19_change n (x1, (x2, (x3, (x4, x5)))) =
    (ref19_version n ((x1, x2.ID))).bind fun (r6 : Int) =>
    (ref19_change_L5 n x1 x2 x3 x4 x5 n ((r6, (x1.Rows, ([], (0 : Int)))))).bind fun (r24 : Int × (List Row) × List Row) =>
    bif x5.ID != ((0 : Int)) then
      (ref13_Entry n ((x1.Schema, (⟨x5.ID, Go.IntKind.wrap Go.IntKind.i64 (r24.1 + ((1 : Int))), x5.Owner, x5.Filed, x5.From, x5.To, x5.Born, x5.Vec, x5.Attrs⟩ : Entry)))).bind fun (r25 : Int) =>
      bif r25 != ((0 : Int)) then
        some ((⟨x1, r25⟩ : ref19_Booked))
      else
        bif roomOK (r24.2.2.length + ([(⟨(⟨x5.ID, Go.IntKind.wrap Go.IntKind.i64 (r24.1 + ((1 : Int))), x5.Owner, x5.Filed, x5.From, x5.To, x5.Born, x5.Vec, x5.Attrs⟩ : Entry), (0 : Int)⟩ : Row)].length)) 112 then
          bif decide ((Go.IntKind.wrap Go.IntKind.i64 ((((r24.2.1.length : Nat) : Int)) + ((((r24.2.2 ++ [(⟨(⟨x5.ID, Go.IntKind.wrap Go.IntKind.i64 (r24.1 + ((1 : Int))), x5.Owner, x5.Filed, x5.From, x5.To, x5.Born, x5.Vec, x5.Attrs⟩ : Entry), (0 : Int)⟩ : Row)]).length : Nat) : Int)))) > ((65536 : Int))) then
            some ((⟨x1, (2 : Int)⟩ : ref19_Booked))
          else
            bif roomOK (((0 : Nat)) + x1.Days.length) 8 then
              bif roomOK ((([] ++ x1.Days).length) + ([x2.Day].length)) 8 then
                bif roomOK (((0 : Nat)) + r24.2.1.length) 112 then
                  bif roomOK ((([] ++ r24.2.1).length) + ((r24.2.2 ++ [(⟨(⟨x5.ID, Go.IntKind.wrap Go.IntKind.i64 (r24.1 + ((1 : Int))), x5.Owner, x5.Filed, x5.From, x5.To, x5.Born, x5.Vec, x5.Attrs⟩ : Entry), (0 : Int)⟩ : Row)]).length)) 112 then
                    some ((⟨(⟨x1.Schema, x2.Commit, x2.Day, ([] ++ x1.Days) ++ [x2.Day], ([] ++ r24.2.1) ++ (r24.2.2 ++ [(⟨(⟨x5.ID, Go.IntKind.wrap Go.IntKind.i64 (r24.1 + ((1 : Int))), x5.Owner, x5.Filed, x5.From, x5.To, x5.Born, x5.Vec, x5.Attrs⟩ : Entry), (0 : Int)⟩ : Row)])⟩ : Book), (0 : Int)⟩ : ref19_Booked))
                  else
                    none
                else
                  none
              else
                none
            else
              none
        else
          none
    else
      bif decide ((Go.IntKind.wrap Go.IntKind.i64 ((((r24.2.1.length : Nat) : Int)) + (((r24.2.2.length : Nat) : Int)))) > ((65536 : Int))) then
        some ((⟨x1, (2 : Int)⟩ : ref19_Booked))
      else
        bif roomOK (((0 : Nat)) + x1.Days.length) 8 then
          bif roomOK ((([] ++ x1.Days).length) + ([x2.Day].length)) 8 then
            bif roomOK (((0 : Nat)) + r24.2.1.length) 112 then
              bif roomOK ((([] ++ r24.2.1).length) + r24.2.2.length) 112 then
                some ((⟨(⟨x1.Schema, x2.Commit, x2.Day, ([] ++ x1.Days) ++ [x2.Day], ([] ++ r24.2.1) ++ r24.2.2⟩ : Book), (0 : Int)⟩ : ref19_Booked))
              else
                none
            else
              none
          else
            none
        else
          none := by kernel_rfl
theorem ref19_file_eq (n : Nat) (x1 : Book) (x2 : Event) : ref19_file n (x1, x2) =
    (ref19_has n ((x1, x2.ID))).bind fun (r3 : Bool) =>
    bif r3 then
      some ((⟨x1, (6 : Int)⟩ : ref19_Booked))
    else
      (ref13_Entry n ((x1.Schema, (⟨x2.ID, (1 : Int), x2.Owner, x2.Day, x2.Until, (1048577 : Int), x2.Commit, x2.Vec, x2.Attrs⟩ : Entry)))).bind fun (r4 : Int) =>
      bif r4 != ((0 : Int)) then
        some ((⟨x1, r4⟩ : ref19_Booked))
      else
        (ref19_change n ((x1, (x2, ([], ([], (⟨x2.ID, (1 : Int), x2.Owner, x2.Day, x2.Until, (1048577 : Int), x2.Commit, x2.Vec, x2.Attrs⟩ : Entry))))))).bind fun (r5 : ref19_Booked) =>
        some r5 := by kernel_rfl
noncomputable def ref19_Live_L8 (n : Nat) (x1 : Book) (x2 : Int) (x3 : Int) (m : Nat) (p : Int × List Row) : Option (Int × List Row) :=
  loopF (R := R) 8 (wrC ((subO Tryz.f146.body [1, 1, 0, 1, 0, 0, 1, 0, 0, 1, 0, 1, 1, 0, 0, 0]).getD .skip)) (⟨[(1, Aq.TV.int Go.IntKind.i64 x2), (2, Aq.TV.ref 2 0), (5, Aq.TV.vw 42 (Aq.Ty.st 4)), (6, Aq.TV.int Go.IntKind.i64 x3)], [(2, Aq.Ob.ro (Aq.Ob.ro (Aq.Ob.cells [Aq.TV.int Go.IntKind.i64 x1.Schema.Dims, Aq.TV.int Go.IntKind.i64 x1.Schema.Metric, Aq.TV.lst Aq.Cp.sh (Aq.Ty.st 0) x1.Schema.Defs, Aq.TV.int Go.IntKind.i64 x1.Commit, Aq.TV.int Go.IntKind.i64 x1.Day, Aq.TV.lst Aq.Cp.sh (Aq.Ty.int Go.IntKind.i64) x1.Days, Aq.TV.lst Aq.Cp.sh (Aq.Ty.st 4) x1.Rows])))]⟩ : Aq.MS R.T) (getN ref19_Live_a.loops 8).sh (getN ref19_Live_a.loops 8).outs (fun st k => codeM E R n true (regs20 n) iters ref19_Live_a ((subO Tryz.f146.body [1, 1, 0, 1, 0, 0, 1, 0, 0, 1, 0, 1, 1, 0, 0, 0]).getD .skip) st k) m p
attribute [irreducible] ref19_Live_L8
noncomputable def ref19_Live_L3 (n : Nat) (x1 : Book) (x2 : Int) (m : Nat) (p : (PUnit × Int) × List Row) : Option (PUnit × List Row) :=
  loopF (R := R) 3 (wrC ((subO Tryz.f146.body [1, 1, 0, 1, 0, 0]).getD .skip)) (⟨[(1, Aq.TV.int Go.IntKind.i64 x2), (2, Aq.TV.ref 2 0)], [(2, Aq.Ob.ro (Aq.Ob.cells [Aq.TV.int Go.IntKind.i64 x1.Schema.Dims, Aq.TV.int Go.IntKind.i64 x1.Schema.Metric, Aq.TV.lst Aq.Cp.sh (Aq.Ty.st 0) x1.Schema.Defs, Aq.TV.int Go.IntKind.i64 x1.Commit, Aq.TV.int Go.IntKind.i64 x1.Day, Aq.TV.lst Aq.Cp.sh (Aq.Ty.int Go.IntKind.i64) x1.Days, Aq.TV.lst Aq.Cp.sh (Aq.Ty.st 4) x1.Rows]))]⟩ : Aq.MS R.T) (getN ref19_Live_a.loops 3).sh (getN ref19_Live_a.loops 3).outs (fun st k => codeM E R n true (regs20 n) iters ref19_Live_a ((subO Tryz.f146.body [1, 1, 0, 1, 0, 0]).getD .skip) st k) m p
attribute [irreducible] ref19_Live_L3
theorem ref19_Live_L8_s (n : Nat) (x1 : Book) (x2 : Int) (x3 : Int) (m : Nat) (x8 : Int) (x9 : List Row) : ref19_Live_L8 n x1 x2 x3 (m + 1) (x8, x9) =
    bif decide (x8 > ((0 : Int))) then
      bif decide (0 ≤ (Go.IntKind.wrap Go.IntKind.i64 (x8 - ((1 : Int)))) ∧ (Go.IntKind.wrap Go.IntKind.i64 (x8 - ((1 : Int)))) < ((x9.length : Nat) : Int)) then
        (idxL x9 (Go.IntKind.wrap Go.IntKind.i64 (x8 - ((1 : Int))))).bind fun (r10 : Row) =>
        (idxL x1.Rows x3).bind fun (r11 : Row) =>
        bif decide (r10.Entry.From > r11.Entry.From) then
          bif decide (0 ≤ (Go.IntKind.wrap Go.IntKind.i64 (x8 - ((1 : Int)))) ∧ (Go.IntKind.wrap Go.IntKind.i64 (x8 - ((1 : Int)))) < ((x9.length : Nat) : Int)) then
            (idxL x9 (Go.IntKind.wrap Go.IntKind.i64 (x8 - ((1 : Int))))).bind fun (r12 : Row) =>
            bif decide (0 ≤ x8 ∧ x8 < ((x9.length : Nat) : Int)) then
              (idxL x9 x8).bind fun (r13 : Row) =>
              ref19_Live_L8 n x1 x2 x3 m ((Go.IntKind.wrap Go.IntKind.i64 (x8 - ((1 : Int))), setL x9 x8 r12))
            else
              none
          else
            none
        else
          some ((x8, x9))
      else
        none
    else
      some ((x8, x9)) := by kernel_rfl
theorem ref19_Live_L3_s (n : Nat) (x1 : Book) (x2 : Int) (m : Nat) (x3 : Int) (x4 : List Row) : ref19_Live_L3 n x1 x2 (m + 1) (((), x3), x4) =
    bif decide (x3 < (((x1.Rows.length : Nat) : Int))) then
      (idxL x1.Rows x3).bind fun (r5 : Row) =>
      (whenO (r5.Entry.ID == x2) (idxL x1.Rows x3) ((⟨(⟨(0 : Int), (0 : Int), (0 : Int), (0 : Int), (0 : Int), (0 : Int), (0 : Int), [], []⟩ : Entry), (0 : Int)⟩ : Row))).bind fun (r6 : Row) =>
      bif bif r5.Entry.ID == x2 then r6.Died == ((0 : Int)) else false then
        (idxL x1.Rows x3).bind fun (r7 : Row) =>
        bif roomOK (x4.length + ([r7].length)) 112 then
          (ref19_Live_L8 n x1 x2 x3 n ((((x4.length : Nat) : Int), x4 ++ [r7]))).bind fun (r14 : Int × List Row) =>
          (idxL x1.Rows x3).bind fun (r15 : Row) =>
          bif decide (0 ≤ r14.1 ∧ r14.1 < ((r14.2.length : Nat) : Int)) then
            (idxL r14.2 r14.1).bind fun (r16 : Row) =>
            ref19_Live_L3 n x1 x2 m ((((), Go.IntKind.wrap Go.IntKind.i64 (x3 + ((1 : Int)))), setL r14.2 r14.1 r15))
          else
            none
        else
          none
      else
        ref19_Live_L3 n x1 x2 m ((((), Go.IntKind.wrap Go.IntKind.i64 (x3 + ((1 : Int)))), x4))
    else
      some (((), x4)) := by kernel_rfl
theorem ref19_Live_eq (n : Nat) (x1 : Book) (x2 : Int) : ref19_Live n (x1, x2) =
    (ref19_Live_L3 n x1 x2 n ((((), (0 : Int)), []))).bind fun (r17 : PUnit × List Row) =>
    some r17.2 := by kernel_rfl
theorem ref19_end_eq (n : Nat) (x1 : List Row) : ref19_end n x1 =
    (idxL x1 (Go.IntKind.wrap Go.IntKind.i64 ((((x1.length : Nat) : Int)) - ((1 : Int))))).bind fun (r2 : Row) =>
    some r2.Entry.To := by kernel_rfl
noncomputable def ref19_correct_L6 (n : Nat) (x1 : Book) (x2 : Event) (x3 : List Row) (r4 : Row) (m : Nat) (p : (List ref19_days) × Int) : Option (List ref19_days) :=
  loopF (R := R) 6 (wrC ((subO Tryz.f147.body [1, 1, 1, 1, 0, 1, 0, 0]).getD .skip)) (⟨[(2, Aq.TV.lst Aq.Cp.sh (Aq.Ty.st 4) x3), (3, Aq.TV.ref 3 0), (4, Aq.TV.ref 4 0), (6, Aq.TV.ref 6 0), (7, Aq.TV.int Go.IntKind.i64 (imax x2.From r4.Entry.From))], [(3, Aq.Ob.ro (Aq.Ob.cells [Aq.TV.int Go.IntKind.i64 x1.Schema.Dims, Aq.TV.int Go.IntKind.i64 x1.Schema.Metric, Aq.TV.lst Aq.Cp.sh (Aq.Ty.st 0) x1.Schema.Defs, Aq.TV.int Go.IntKind.i64 x1.Commit, Aq.TV.int Go.IntKind.i64 x1.Day, Aq.TV.lst Aq.Cp.sh (Aq.Ty.int Go.IntKind.i64) x1.Days, Aq.TV.lst Aq.Cp.sh (Aq.Ty.st 4) x1.Rows])), (4, Aq.Ob.ro (Aq.Ob.cells [Aq.TV.int Go.IntKind.i64 x2.Kind, Aq.TV.int Go.IntKind.i64 x2.Commit, Aq.TV.int Go.IntKind.i64 x2.Day, Aq.TV.int Go.IntKind.i64 x2.ID, Aq.TV.int Go.IntKind.i64 x2.Owner, Aq.TV.int Go.IntKind.i64 x2.Until, Aq.TV.int Go.IntKind.i64 x2.From, Aq.TV.lst Aq.Cp.sh (Aq.Ty.int Go.IntKind.i64) x2.Vec, Aq.TV.lst Aq.Cp.sh (Aq.Ty.st 2) x2.Attrs, Aq.TV.int Go.IntKind.u8 x2.Nonce.b0, Aq.TV.int Go.IntKind.u8 x2.Nonce.b1, Aq.TV.int Go.IntKind.u8 x2.Nonce.b2, Aq.TV.int Go.IntKind.u8 x2.Nonce.b3, Aq.TV.int Go.IntKind.u8 x2.Nonce.b4, Aq.TV.int Go.IntKind.u8 x2.Nonce.b5, Aq.TV.int Go.IntKind.u8 x2.Nonce.b6, Aq.TV.int Go.IntKind.u8 x2.Nonce.b7, Aq.TV.int Go.IntKind.u8 x2.Nonce.b8, Aq.TV.int Go.IntKind.u8 x2.Nonce.b9, Aq.TV.int Go.IntKind.u8 x2.Nonce.b10, Aq.TV.int Go.IntKind.u8 x2.Nonce.b11, Aq.TV.int Go.IntKind.u8 x2.Nonce.b12, Aq.TV.int Go.IntKind.u8 x2.Nonce.b13, Aq.TV.int Go.IntKind.u8 x2.Nonce.b14, Aq.TV.int Go.IntKind.u8 x2.Nonce.b15])), (6, Aq.Ob.ro (Aq.Ob.cells [Aq.TV.int Go.IntKind.i64 ((0 : Int)), Aq.TV.int Go.IntKind.i64 ((0 : Int)), Aq.TV.nils, Aq.TV.int Go.IntKind.i64 ((0 : Int)), Aq.TV.int Go.IntKind.i64 ((0 : Int)), Aq.TV.nils, Aq.TV.nils, Aq.TV.int Go.IntKind.i64 ((0 : Int))]))]⟩ : Aq.MS R.T) (getN ref19_correct_a.loops 6).sh (getN ref19_correct_a.loops 6).outs (fun st k => codeM E R n false (regs22 n) iters ref19_correct_a ((subO Tryz.f147.body [1, 1, 1, 1, 0, 1, 0, 0]).getD .skip) st k) m p
attribute [irreducible] ref19_correct_L6
theorem ref19_correct_L6_s (n : Nat) (x1 : Book) (x2 : Event) (x3 : List Row) (r4 : Row) (m : Nat) (x6 : List ref19_days) (x7 : Int) : ref19_correct_L6 n x1 x2 x3 r4 (m + 1) (x6, x7) =
    bif decide (x7 < (((x3.length : Nat) : Int))) then
      (idxL x3 x7).bind fun (r8 : Row) =>
      bif roomOK (x6.length + ([(⟨r8.Entry.From, imin r8.Entry.To (imax (imax x2.From r4.Entry.From) r8.Entry.From)⟩ : ref19_days)].length)) 16 then
        ref19_correct_L6 n x1 x2 x3 r4 m ((x6 ++ [(⟨r8.Entry.From, imin r8.Entry.To (imax (imax x2.From r4.Entry.From) r8.Entry.From)⟩ : ref19_days)], Go.IntKind.wrap Go.IntKind.i64 (x7 + ((1 : Int)))))
      else
        none
    else
      some x6 := by kernel_rfl
theorem ref19_correct_eq (n : Nat) (x1 : Book) (x2 : Event) (x3 : List Row) : ref19_correct n (x1, (x2, x3)) =
    (idxL x3 ((0 : Int))).bind fun (r4 : Row) =>
    (whenO (!(decide (x2.From < ((0 : Int))))) (ref19_end n x3) ((0 : Int))).bind fun (r5 : Int) =>
    bif bif decide (x2.From < ((0 : Int))) then true else decide ((imax x2.From r4.Entry.From) ≥ r5) then
      some ((⟨x1, (9 : Int)⟩ : ref19_Booked))
    else
      (ref19_correct_L6 n x1 x2 x3 r4 n (([], (0 : Int)))).bind fun (r9 : List ref19_days) =>
      (idxL x3 ((0 : Int))).bind fun (r10 : Row) =>
      (ref19_end n x3).bind fun (r11 : Int) =>
      (ref19_change n ((x1, (x2, (x3, (r9, (⟨r10.Entry.ID, r10.Entry.Ver, r10.Entry.Owner, r10.Entry.Filed, imax x2.From r4.Entry.From, r11, x2.Commit, x2.Vec, x2.Attrs⟩ : Entry))))))).bind fun (r12 : ref19_Booked) =>
      some r12 := by kernel_rfl
noncomputable def ref19_withdraw_L5 (n : Nat) (x1 : Book) (x2 : Event) (x3 : List Row) (m : Nat) (p : (List ref19_days) × Int) : Option (List ref19_days) :=
  loopF (R := R) 5 (wrC ((subO Tryz.f148.body [1, 1, 1, 0, 1, 0, 0]).getD .skip)) (⟨[(2, Aq.TV.lst Aq.Cp.sh (Aq.Ty.st 4) x3), (3, Aq.TV.ref 3 0), (4, Aq.TV.ref 4 0), (6, Aq.TV.ref 6 0)], [(3, Aq.Ob.ro (Aq.Ob.cells [Aq.TV.int Go.IntKind.i64 x1.Schema.Dims, Aq.TV.int Go.IntKind.i64 x1.Schema.Metric, Aq.TV.lst Aq.Cp.sh (Aq.Ty.st 0) x1.Schema.Defs, Aq.TV.int Go.IntKind.i64 x1.Commit, Aq.TV.int Go.IntKind.i64 x1.Day, Aq.TV.lst Aq.Cp.sh (Aq.Ty.int Go.IntKind.i64) x1.Days, Aq.TV.lst Aq.Cp.sh (Aq.Ty.st 4) x1.Rows])), (4, Aq.Ob.ro (Aq.Ob.cells [Aq.TV.int Go.IntKind.i64 x2.Kind, Aq.TV.int Go.IntKind.i64 x2.Commit, Aq.TV.int Go.IntKind.i64 x2.Day, Aq.TV.int Go.IntKind.i64 x2.ID, Aq.TV.int Go.IntKind.i64 x2.Owner, Aq.TV.int Go.IntKind.i64 x2.Until, Aq.TV.int Go.IntKind.i64 x2.From, Aq.TV.lst Aq.Cp.sh (Aq.Ty.int Go.IntKind.i64) x2.Vec, Aq.TV.lst Aq.Cp.sh (Aq.Ty.st 2) x2.Attrs, Aq.TV.int Go.IntKind.u8 x2.Nonce.b0, Aq.TV.int Go.IntKind.u8 x2.Nonce.b1, Aq.TV.int Go.IntKind.u8 x2.Nonce.b2, Aq.TV.int Go.IntKind.u8 x2.Nonce.b3, Aq.TV.int Go.IntKind.u8 x2.Nonce.b4, Aq.TV.int Go.IntKind.u8 x2.Nonce.b5, Aq.TV.int Go.IntKind.u8 x2.Nonce.b6, Aq.TV.int Go.IntKind.u8 x2.Nonce.b7, Aq.TV.int Go.IntKind.u8 x2.Nonce.b8, Aq.TV.int Go.IntKind.u8 x2.Nonce.b9, Aq.TV.int Go.IntKind.u8 x2.Nonce.b10, Aq.TV.int Go.IntKind.u8 x2.Nonce.b11, Aq.TV.int Go.IntKind.u8 x2.Nonce.b12, Aq.TV.int Go.IntKind.u8 x2.Nonce.b13, Aq.TV.int Go.IntKind.u8 x2.Nonce.b14, Aq.TV.int Go.IntKind.u8 x2.Nonce.b15])), (6, Aq.Ob.ro (Aq.Ob.cells [Aq.TV.int Go.IntKind.i64 ((0 : Int)), Aq.TV.int Go.IntKind.i64 ((0 : Int)), Aq.TV.nils, Aq.TV.int Go.IntKind.i64 ((0 : Int)), Aq.TV.int Go.IntKind.i64 ((0 : Int)), Aq.TV.nils, Aq.TV.nils, Aq.TV.int Go.IntKind.i64 ((0 : Int))]))]⟩ : Aq.MS R.T) (getN ref19_withdraw_a.loops 5).sh (getN ref19_withdraw_a.loops 5).outs (fun st k => codeM E R n false (regs23 n) iters ref19_withdraw_a ((subO Tryz.f148.body [1, 1, 1, 0, 1, 0, 0]).getD .skip) st k) m p
attribute [irreducible] ref19_withdraw_L5
theorem ref19_withdraw_L5_s (n : Nat) (x1 : Book) (x2 : Event) (x3 : List Row) (m : Nat) (x5 : List ref19_days) (x6 : Int) : ref19_withdraw_L5 n x1 x2 x3 (m + 1) (x5, x6) =
    bif decide (x6 < (((x3.length : Nat) : Int))) then
      (idxL x3 x6).bind fun (r7 : Row) =>
      bif roomOK (x5.length + ([(⟨r7.Entry.From, imin r7.Entry.To (imax x2.From r7.Entry.From)⟩ : ref19_days)].length)) 16 then
        ref19_withdraw_L5 n x1 x2 x3 m ((x5 ++ [(⟨r7.Entry.From, imin r7.Entry.To (imax x2.From r7.Entry.From)⟩ : ref19_days)], Go.IntKind.wrap Go.IntKind.i64 (x6 + ((1 : Int)))))
      else
        none
    else
      some x5 := by kernel_rfl
theorem ref19_withdraw_eq (n : Nat) (x1 : Book) (x2 : Event) (x3 : List Row) : ref19_withdraw n (x1, (x2, x3)) =
    bif !(decide (x2.From < ((0 : Int)))) then
      (ref19_end n x3).bind fun (r4 : Int) =>
      bif decide (x2.From ≥ r4) then
        some ((⟨x1, (9 : Int)⟩ : ref19_Booked))
      else
        (ref19_withdraw_L5 n x1 x2 x3 n (([], (0 : Int)))).bind fun (r8 : List ref19_days) =>
        (ref19_change n ((x1, (x2, (x3, (r8, (⟨(0 : Int), (0 : Int), (0 : Int), (0 : Int), (0 : Int), (0 : Int), (0 : Int), [], []⟩ : Entry))))))).bind fun (r9 : ref19_Booked) =>
        some r9
    else
      some ((⟨x1, (9 : Int)⟩ : ref19_Booked)) := by kernel_rfl
noncomputable def ref19_embargo_L8 (n : Nat) (x1 : Book) (x2 : Event) (x3 : List Row) (r4 : Row) (m : Nat) (p : (List ref19_days) × Int) : Option (List ref19_days) :=
  loopF (R := R) 8 (wrC ((subO Tryz.f149.body [1, 1, 1, 1, 1, 0, 1, 0, 0]).getD .skip)) (⟨[(2, Aq.TV.lst Aq.Cp.sh (Aq.Ty.st 4) x3), (3, Aq.TV.ref 3 0), (4, Aq.TV.ref 4 0), (6, Aq.TV.ref 6 0), (7, Aq.TV.int Go.IntKind.i64 r4.Entry.From)], [(3, Aq.Ob.ro (Aq.Ob.cells [Aq.TV.int Go.IntKind.i64 x1.Schema.Dims, Aq.TV.int Go.IntKind.i64 x1.Schema.Metric, Aq.TV.lst Aq.Cp.sh (Aq.Ty.st 0) x1.Schema.Defs, Aq.TV.int Go.IntKind.i64 x1.Commit, Aq.TV.int Go.IntKind.i64 x1.Day, Aq.TV.lst Aq.Cp.sh (Aq.Ty.int Go.IntKind.i64) x1.Days, Aq.TV.lst Aq.Cp.sh (Aq.Ty.st 4) x1.Rows])), (4, Aq.Ob.ro (Aq.Ob.cells [Aq.TV.int Go.IntKind.i64 x2.Kind, Aq.TV.int Go.IntKind.i64 x2.Commit, Aq.TV.int Go.IntKind.i64 x2.Day, Aq.TV.int Go.IntKind.i64 x2.ID, Aq.TV.int Go.IntKind.i64 x2.Owner, Aq.TV.int Go.IntKind.i64 x2.Until, Aq.TV.int Go.IntKind.i64 x2.From, Aq.TV.lst Aq.Cp.sh (Aq.Ty.int Go.IntKind.i64) x2.Vec, Aq.TV.lst Aq.Cp.sh (Aq.Ty.st 2) x2.Attrs, Aq.TV.int Go.IntKind.u8 x2.Nonce.b0, Aq.TV.int Go.IntKind.u8 x2.Nonce.b1, Aq.TV.int Go.IntKind.u8 x2.Nonce.b2, Aq.TV.int Go.IntKind.u8 x2.Nonce.b3, Aq.TV.int Go.IntKind.u8 x2.Nonce.b4, Aq.TV.int Go.IntKind.u8 x2.Nonce.b5, Aq.TV.int Go.IntKind.u8 x2.Nonce.b6, Aq.TV.int Go.IntKind.u8 x2.Nonce.b7, Aq.TV.int Go.IntKind.u8 x2.Nonce.b8, Aq.TV.int Go.IntKind.u8 x2.Nonce.b9, Aq.TV.int Go.IntKind.u8 x2.Nonce.b10, Aq.TV.int Go.IntKind.u8 x2.Nonce.b11, Aq.TV.int Go.IntKind.u8 x2.Nonce.b12, Aq.TV.int Go.IntKind.u8 x2.Nonce.b13, Aq.TV.int Go.IntKind.u8 x2.Nonce.b14, Aq.TV.int Go.IntKind.u8 x2.Nonce.b15])), (6, Aq.Ob.ro (Aq.Ob.cells [Aq.TV.int Go.IntKind.i64 ((0 : Int)), Aq.TV.int Go.IntKind.i64 ((0 : Int)), Aq.TV.nils, Aq.TV.int Go.IntKind.i64 ((0 : Int)), Aq.TV.int Go.IntKind.i64 ((0 : Int)), Aq.TV.nils, Aq.TV.nils, Aq.TV.int Go.IntKind.i64 ((0 : Int))]))]⟩ : Aq.MS R.T) (getN ref19_embargo_a.loops 8).sh (getN ref19_embargo_a.loops 8).outs (fun st k => codeM E R n false (regs24 n) iters ref19_embargo_a ((subO Tryz.f149.body [1, 1, 1, 1, 1, 0, 1, 0, 0]).getD .skip) st k) m p
attribute [irreducible] ref19_embargo_L8
theorem ref19_embargo_L8_s (n : Nat) (x1 : Book) (x2 : Event) (x3 : List Row) (r4 : Row) (m : Nat) (x6 : List ref19_days) (x7 : Int) : ref19_embargo_L8 n x1 x2 x3 r4 (m + 1) (x6, x7) =
    bif decide (x7 < (((x3.length : Nat) : Int))) then
      (idxL x3 x7).bind fun (r8 : Row) =>
      bif bif x7 == ((0 : Int)) then decide (x2.Until < r4.Entry.From) else false then
        bif roomOK (x6.length + ([(⟨x2.Until, r8.Entry.To⟩ : ref19_days)].length)) 16 then
          ref19_embargo_L8 n x1 x2 x3 r4 m ((x6 ++ [(⟨x2.Until, r8.Entry.To⟩ : ref19_days)], Go.IntKind.wrap Go.IntKind.i64 (x7 + ((1 : Int)))))
        else
          none
      else
        bif roomOK (x6.length + ([(⟨imax r8.Entry.From (imin x2.Until r8.Entry.To), r8.Entry.To⟩ : ref19_days)].length)) 16 then
          ref19_embargo_L8 n x1 x2 x3 r4 m ((x6 ++ [(⟨imax r8.Entry.From (imin x2.Until r8.Entry.To), r8.Entry.To⟩ : ref19_days)], Go.IntKind.wrap Go.IntKind.i64 (x7 + ((1 : Int)))))
        else
          none
    else
      some x6 := by kernel_rfl
theorem ref19_embargo_eq (n : Nat) (x1 : Book) (x2 : Event) (x3 : List Row) : ref19_embargo n (x1, (x2, x3)) =
    (idxL x3 ((0 : Int))).bind fun (r4 : Row) =>
    bif bif decide (r4.Entry.From ≤ x2.Day) then true else r4.Entry.From == x2.Until then
      some ((⟨x1, (4 : Int)⟩ : ref19_Booked))
    else
      bif !(decide (x2.Until < x2.Day)) then
        (ref19_end n x3).bind fun (r5 : Int) =>
        bif decide (x2.Until ≥ r5) then
          some ((⟨x1, (9 : Int)⟩ : ref19_Booked))
        else
          (ref19_embargo_L8 n x1 x2 x3 r4 n (([], (0 : Int)))).bind fun (r9 : List ref19_days) =>
          (ref19_change n ((x1, (x2, (x3, (r9, (⟨(0 : Int), (0 : Int), (0 : Int), (0 : Int), (0 : Int), (0 : Int), (0 : Int), [], []⟩ : Entry))))))).bind fun (r10 : ref19_Booked) =>
          some r10
      else
        some ((⟨x1, (9 : Int)⟩ : ref19_Booked)) := by kernel_rfl
theorem ref19_Apply_eq (n : Nat) (x1 : Book) (x2 : Event) : ref19_Apply n (x1, x2) =
    bif bif bif bif x2.Commit != (Go.IntKind.wrap Go.IntKind.i64 (x1.Commit + ((1 : Int)))) then true else decide (x2.Commit > ((1073741824 : Int))) then true else decide (x2.Day < x1.Day) then true else decide (x2.Day > ((1048576 : Int))) then
      some ((⟨x1, (9 : Int)⟩ : ref19_Booked))
    else
      bif x2.Kind == ((1 : Int)) then
        (ref19_file n ((x1, x2))).bind fun (r3 : ref19_Booked) =>
        some r3
      else
        bif x2.Kind == ((5 : Int)) then
          (ref19_change n ((x1, (x2, ([], ([], (⟨(0 : Int), (0 : Int), (0 : Int), (0 : Int), (0 : Int), (0 : Int), (0 : Int), [], []⟩ : Entry))))))).bind fun (r4 : ref19_Booked) =>
          some r4
        else
          bif x2.Kind == ((2 : Int)) then
            (ref19_Live n ((x1, x2.ID))).bind fun (r5 : List Row) =>
            bif (((r5.length : Nat) : Int)) == ((0 : Int)) then
              some ((⟨x1, (5 : Int)⟩ : ref19_Booked))
            else
              bif x2.Kind == ((2 : Int)) then
                (ref19_correct n ((x1, (x2, r5)))).bind fun (r6 : ref19_Booked) =>
                some r6
              else
                bif x2.Kind == ((3 : Int)) then
                  (ref19_withdraw n ((x1, (x2, r5)))).bind fun (r7 : ref19_Booked) =>
                  some r7
                else
                  (ref19_embargo n ((x1, (x2, r5)))).bind fun (r8 : ref19_Booked) =>
                  some r8
          else
            bif x2.Kind == ((3 : Int)) then
              (ref19_Live n ((x1, x2.ID))).bind fun (r9 : List Row) =>
              bif (((r9.length : Nat) : Int)) == ((0 : Int)) then
                some ((⟨x1, (5 : Int)⟩ : ref19_Booked))
              else
                bif x2.Kind == ((2 : Int)) then
                  (ref19_correct n ((x1, (x2, r9)))).bind fun (r10 : ref19_Booked) =>
                  some r10
                else
                  bif x2.Kind == ((3 : Int)) then
                    (ref19_withdraw n ((x1, (x2, r9)))).bind fun (r11 : ref19_Booked) =>
                    some r11
                  else
                    (ref19_embargo n ((x1, (x2, r9)))).bind fun (r12 : ref19_Booked) =>
                    some r12
            else
              bif x2.Kind == ((4 : Int)) then
                (ref19_Live n ((x1, x2.ID))).bind fun (r13 : List Row) =>
                bif (((r13.length : Nat) : Int)) == ((0 : Int)) then
                  some ((⟨x1, (5 : Int)⟩ : ref19_Booked))
                else
                  bif x2.Kind == ((2 : Int)) then
                    (ref19_correct n ((x1, (x2, r13)))).bind fun (r14 : ref19_Booked) =>
                    some r14
                  else
                    bif x2.Kind == ((3 : Int)) then
                      (ref19_withdraw n ((x1, (x2, r13)))).bind fun (r15 : ref19_Booked) =>
                      some r15
                    else
                      (ref19_embargo n ((x1, (x2, r13)))).bind fun (r16 : ref19_Booked) =>
                      some r16
              else
                some ((⟨x1, (1 : Int)⟩ : ref19_Booked)) := by kernel_rfl
noncomputable def ref19_Fold_L3 (n : Nat) (x2 : List Event) (m : Nat) (p : Int × ref19_Folded × ref19_Booked) : Option ((PUnit × ref19_Folded × ref19_Booked) ⊕ (PUnit × ref19_Folded)) :=
  loopF (R := R) 3 (wrC ((subO Tryz.f44.body [1, 1, 0, 1, 0, 0]).getD .skip)) (⟨[(1, Aq.TV.lst Aq.Cp.sh (Aq.Ty.st 13) x2), (4, Aq.TV.ref 4 0), (5, Aq.TV.ref 5 0)], []⟩ : Aq.MS R.T) (getN ref19_Fold_a.loops 3).sh (getN ref19_Fold_a.loops 3).outs (fun st k => codeM E R n false (regs26 n) iters ref19_Fold_a ((subO Tryz.f44.body [1, 1, 0, 1, 0, 0]).getD .skip) st k) m p
attribute [irreducible] ref19_Fold_L3
theorem ref19_Fold_L3_0 (n : Nat) (x2 : List Event) (p : Int × ref19_Folded × ref19_Booked) : ref19_Fold_L3 n x2 0 p = none := by kernel_rfl
theorem ref19_Fold_L3_s (n : Nat) (x2 : List Event) (m : Nat) (x4 : Int) (x5 : ref19_Folded) (x6 : ref19_Booked) : ref19_Fold_L3 n x2 (m + 1) (x4, (x5, x6)) =
    bif bif decide (x4 < (((x2.length : Nat) : Int))) then x6.E == ((0 : Int)) else false then
      (idxL x2 x4).bind fun (r7 : Event) =>
      (ref19_Apply n ((x6.B, r7))).bind fun (r8 : ref19_Booked) =>
      bif r8.E != ((0 : Int)) then
        some (.inr (((), (⟨x6.B, x4, r8.E⟩ : ref19_Folded))))
      else
        ref19_Fold_L3 n x2 m ((Go.IntKind.wrap Go.IntKind.i64 (x4 + ((1 : Int))), (x5, r8)))
    else
      some (.inl (((), (x5, x6)))) := by kernel_rfl
theorem ref19_Fold_eq (n : Nat) (x1 : Schema) (x2 : List Event) : ref19_Fold n (x1, x2) =
    (ref19_New n x1).bind fun (r3 : ref19_Booked) =>
    (ref19_Fold_L3 n x2 n (((0 : Int), ((⟨(⟨(⟨(0 : Int), (0 : Int), []⟩ : Schema), (0 : Int), (0 : Int), [], []⟩ : Book), (0 : Int), (0 : Int)⟩ : ref19_Folded), r3)))).bind fun (r9 : (PUnit × ref19_Folded × ref19_Booked) ⊕ (PUnit × ref19_Folded)) =>
    Sum.elim (fun (q10 : PUnit × ref19_Folded × ref19_Booked) =>
      bif q10.2.2.E != ((0 : Int)) then
        some ((⟨(⟨(⟨(0 : Int), (0 : Int), []⟩ : Schema), (0 : Int), (0 : Int), [], []⟩ : Book), (0 : Int), q10.2.2.E⟩ : ref19_Folded))
      else
        some ((⟨q10.2.2.B, ((x2.length : Nat) : Int), (0 : Int)⟩ : ref19_Folded)))
     (fun (q11 : PUnit × ref19_Folded) =>
      some q11.2) r9 := by kernel_rfl
theorem law21_folded_eq (n : Nat) (x1 : Schema) (x2 : List Event) : law21_folded n (x1, x2) =
    (ref19_Few n ((x2, (25 : Int)))).bind fun (r3 : Bool) =>
    (whenO (!(!r3)) (ref13_FewDefs n ((x1, (6 : Int)))) false).bind fun (r4 : Bool) =>
    bif bif !r3 then true else !r4 then
      some (((⟨(⟨(0 : Int), (0 : Int), []⟩ : Schema), (0 : Int), (0 : Int), [], []⟩ : Book), false))
    else
      (ref19_Fold n ((x1, x2))).bind fun (r5 : ref19_Folded) =>
      (ref13_Check n x1).bind fun (r6 : Int) =>
      some ((r5.B, r6 == ((0 : Int)))) := by kernel_rfl
noncomputable def ref17_Parts_m_L3 (n : Nat) (g : Nat) (x1 : Pred) (m : Nat) (p : (List Pred) × Int) : Option (List Pred) :=
  loopF (R := R) 3 (wrC ((subO Tryz.f54.body [1, 1, 0, 1, 0, 0]).getD .skip)) (⟨[(1, Aq.TV.ref 1 0)], [(1, Aq.Ob.ro (Aq.Ob.cells [Aq.TV.int Go.IntKind.i64 x1.Op, Aq.TV.str x1.Name, Aq.TV.int Go.IntKind.i64 x1.N, Aq.TV.int Go.IntKind.i64 x1.M, Aq.TV.str x1.S, Aq.TV.lst Aq.Cp.sh (Aq.Ty.st 8) x1.Subs]))]⟩ : Aq.MS R.T) (getN ref17_Parts_a.loops 3).sh (getN ref17_Parts_a.loops 3).outs (fun st k => codeM E R n false (grp1_k n (grp1 n g)) iters ref17_Parts_a ((subO Tryz.f54.body [1, 1, 0, 1, 0, 0]).getD .skip) st k) m p
attribute [irreducible] ref17_Parts_m_L3
theorem ref17_Parts_m_L3_s (n : Nat) (g : Nat) (x1 : Pred) (m : Nat) (x2 : List Pred) (x3 : Int) : ref17_Parts_m_L3 n g x1 (m + 1) (x2, x3) =
    bif bif decide (x3 < (((x1.Subs.length : Nat) : Int))) then decide ((((x2.length : Nat) : Int)) < ((1000 : Int))) else false then
      (idxL x1.Subs x3).bind fun (r4 : Pred) =>
      (ref17_Parts_m n g r4.re).bind fun (r5 : List Pred) =>
      bif roomOK (x2.length + r5.length) 80 then
        ref17_Parts_m_L3 n g x1 m ((x2 ++ r5, Go.IntKind.wrap Go.IntKind.i64 (x3 + ((1 : Int)))))
      else
        none
    else
      some x2 := by kernel_rfl
theorem ref17_Parts_m_eq (n g : Nat) (x1 : Pred) : ref17_Parts_m n (g + 1) x1 =
    (ref17_Parts_m_L3 n g x1 n (([x1.re], (0 : Int)))).bind fun (r6 : List Pred) =>
    bif decide ((((r6.length : Nat) : Int)) > ((1000 : Int))) then
      bif inB ((1000 : Int)) r6.length then
        some (List.take (Int.toNat ((1000 : Int))) r6)
      else
        none
    else
      some r6 := by kernel_rfl
theorem ref17_Size_eq (n : Nat) (x1 : Pred) : ref17_Size n x1 =
    (ref17_Parts n x1.re).bind fun (r2 : List Pred) =>
    some (((r2.length : Nat) : Int)) := by kernel_rfl
noncomputable def ref17_Few_m_L4 (n : Nat) (g : Nat) (x1 : Pred) (x2 : Int) (m : Nat) (p : Int) : Option (PUnit ⊕ Bool) :=
  loopF (R := R) 4 (wrC ((subO Tryz.f46.body [1, 1, 0, 1, 0, 0]).getD .skip)) (⟨[(1, Aq.TV.int Go.IntKind.i64 x2), (2, Aq.TV.ref 2 0)], [(2, Aq.Ob.ro (Aq.Ob.cells [Aq.TV.int Go.IntKind.i64 x1.Op, Aq.TV.str x1.Name, Aq.TV.int Go.IntKind.i64 x1.N, Aq.TV.int Go.IntKind.i64 x1.M, Aq.TV.str x1.S, Aq.TV.lst Aq.Cp.sh (Aq.Ty.st 8) x1.Subs]))]⟩ : Aq.MS R.T) (getN ref17_Few_a.loops 4).sh (getN ref17_Few_a.loops 4).outs (fun st k => codeM E R n false (grp2_k n (grp2 n g)) iters ref17_Few_a ((subO Tryz.f46.body [1, 1, 0, 1, 0, 0]).getD .skip) st k) m p
attribute [irreducible] ref17_Few_m_L4
theorem ref17_Few_m_L4_s (n : Nat) (g : Nat) (x1 : Pred) (x2 : Int) (m : Nat) (x4 : Int) : ref17_Few_m_L4 n g x1 x2 (m + 1) x4 =
    bif decide (x4 < (((x1.Subs.length : Nat) : Int))) then
      (idxL x1.Subs x4).bind fun (r5 : Pred) =>
      (ref17_Few_m n g ((r5.re, Go.IntKind.wrap Go.IntKind.i64 (x2 - ((1 : Int)))))).bind fun (r6 : Bool) =>
      bif !r6 then
        some (.inr false)
      else
        ref17_Few_m_L4 n g x1 x2 m (Go.IntKind.wrap Go.IntKind.i64 (x4 + ((1 : Int))))
    else
      some (.inl (())) := by kernel_rfl
theorem ref17_Few_m_eq (n g : Nat) (x1 : Pred) (x2 : Int) : ref17_Few_m n (g + 1) (x1, x2) =
    (whenO (!(decide (x2 < ((1 : Int))))) (ref17_Size n x1.re) ((0 : Int))).bind fun (r3 : Int) =>
    bif bif decide (x2 < ((1 : Int))) then true else decide (r3 > ((100 : Int))) then
      some false
    else
      (ref17_Few_m_L4 n g x1 x2 n ((0 : Int))).bind fun (r7 : PUnit ⊕ Bool) =>
      Sum.elim (fun (q8 : PUnit) =>
        some true)
       (fun (q9 : Bool) =>
        some q9) r7 := by kernel_rfl
noncomputable def ref21_Few_L2 (n : Nat) (x1 : List Law) (m : Nat) (p : Int) : Option (PUnit ⊕ Bool) :=
  loopF (R := R) 2 (wrC ((subO Tryz.f10.body [1, 0, 1, 0, 0]).getD .skip)) (⟨[(0, Aq.TV.lst Aq.Cp.sh (Aq.Ty.st 9) x1)], []⟩ : Aq.MS R.T) (getN ref21_Few_a.loops 2).sh (getN ref21_Few_a.loops 2).outs (fun st k => codeM E R n false (regs31 n) iters ref21_Few_a ((subO Tryz.f10.body [1, 0, 1, 0, 0]).getD .skip) st k) m p
attribute [irreducible] ref21_Few_L2
theorem ref21_Few_L2_s (n : Nat) (x1 : List Law) (m : Nat) (x2 : Int) : ref21_Few_L2 n x1 (m + 1) x2 =
    bif bif decide (x2 < (((x1.length : Nat) : Int))) then decide (x2 < ((12 : Int))) else false then
      (idxL x1 x2).bind fun (r3 : Law) =>
      (whenO (!(decide ((((r3.Name.length : Nat) : Int)) > ((200 : Int))))) (idxL x1 x2) ((⟨[], (⟨(0 : Int), [], (0 : Int), (0 : Int), [], []⟩ : Pred), (0 : Int)⟩ : Law))).bind fun (r4 : Law) =>
      (whenO (!(decide ((((r3.Name.length : Nat) : Int)) > ((200 : Int))))) (ref17_Few n ((r4.Where.re, (6 : Int)))) false).bind fun (r5 : Bool) =>
      bif bif decide ((((r3.Name.length : Nat) : Int)) > ((200 : Int))) then true else !r5 then
        some (.inr false)
      else
        ref21_Few_L2 n x1 m (Go.IntKind.wrap Go.IntKind.i64 (x2 + ((1 : Int))))
    else
      some (.inl (())) := by kernel_rfl
theorem ref21_Few_eq (n : Nat) (x1 : List Law) : ref21_Few n x1 =
    (ref21_Few_L2 n x1 n ((0 : Int))).bind fun (r6 : PUnit ⊕ Bool) =>
    Sum.elim (fun (q7 : PUnit) =>
      some (bif decide ((((x1.length : Nat) : Int)) ≤ ((12 : Int))) then true else bif decide ((((x1.length : Nat) : Int)) > ((32 : Int))) then decide ((((x1.length : Nat) : Int)) < ((60 : Int))) else false))
     (fun (q8 : Bool) =>
      some q8) r6 := by kernel_rfl
theorem filter_parts_eq (n : Nat) (x1 : Pred) : filter_parts n x1 =
    some (((), (x1.Op, (x1.Name, (x1.N, (x1.M, (x1.S, x1.Subs))))))) := by kernel_rfl
noncomputable def filter_Size_R3 (n : Nat) (xs : List Pred) (p : PUnit × Int) : Option ((PUnit × Int) ⊕ (PUnit × Int)) :=
  foldF (R := R) (X := PayL R.T predEl) 3 (wrR (subO Tryz.f94.body [1, 1, 0, 1, 0])) (⟨[(3, Aq.TV.ref 3 0)], []⟩ : Aq.MS R.T) (getN filter_Size_a.loops 3).sh (getN filter_Size_a.loops 3).outs (rndM E R n false (regs34 n) iters filter_Size_a (subO Tryz.f94.body [1, 1, 0, 1, 0]) predEl) xs p
attribute [irreducible] filter_Size_R3
theorem filter_Size_R3_0 (n : Nat) (x4 : Int) : filter_Size_R3 n [] ((), x4) =
    some (.inl (((), x4))) := by kernel_rfl
theorem filter_Size_R3_s (n : Nat) (x5 : Pred) (xs : List Pred) (x6 : Int) : filter_Size_R3 n (x5 :: xs) ((), x6) =
    bif (Go.IntKind.wrap Go.IntKind.i64 (x6 + ((1 : Int)))) == ((1000 : Int)) then
      some (.inr (((), Go.IntKind.wrap Go.IntKind.i64 (x6 + ((1 : Int))))))
    else
      filter_Size_R3 n xs (((), Go.IntKind.wrap Go.IntKind.i64 (x6 + ((1 : Int))))) := by kernel_rfl
theorem filter_Size_eq (n : Nat) (x1 : Pred) : filter_Size n x1 =
    (filter_parts n x1.re).bind fun (r2 : PUnit × Int × (List UInt8) × Int × Int × (List UInt8) × List Pred) =>
    ((partsO ((⟨r2.2.1, r2.2.2.1, r2.2.2.2.1, r2.2.2.2.2.1, r2.2.2.2.2.2.1, r2.2.2.2.2.2.2⟩ : Pred))).bind fun (r3 : List Pred) => filter_Size_R3 n r3 (((), (0 : Int)))).bind fun (r7 : (PUnit × Int) ⊕ (PUnit × Int)) =>
    Sum.elim (fun (q8 : PUnit × Int) =>
      some q8.2)
     (fun (q9 : PUnit × Int) =>
      some q9.2) r7 := by kernel_rfl
theorem filter_form_eq (n : Nat) (x1 : Pred) : filter_form n x1 =
    bif bif bif bif !(decide (x1.Op ≥ ((5 : Int)))) then !(x1.Name == []) else false then true else bif x1.Op != ((6 : Int)) then bif x1.N != ((0 : Int)) then true else x1.M != ((0 : Int)) else false then true else bif x1.Op != ((7 : Int)) then !(x1.S == []) else false then
      some false
    else
      bif bif bif decide (x1.N > x1.M) then true else bif bif x1.Op == ((2 : Int)) then true else x1.Op == ((3 : Int)) then (((x1.Subs.length : Nat) : Int)) == ((0 : Int)) else false then true else bif x1.Op == ((4 : Int)) then (((x1.Subs.length : Nat) : Int)) != ((1 : Int)) else false then
        some false
      else
        some (bif bif bif x1.Op == ((2 : Int)) then true else x1.Op == ((3 : Int)) then true else x1.Op == ((4 : Int)) then true else (((x1.Subs.length : Nat) : Int)) == ((0 : Int))) := by kernel_rfl
theorem filter_find_1_eq (n : Nat) (x1 : Def) (x2 : List UInt8) : filter_find_1 n (x1, x2) =
    some (x1.Name == x2) := by kernel_rfl
noncomputable def slices_IndexFunc_api_Def_api_Def_L2 (n : Nat) (x1 : List Def) (x2 : List UInt8) (m : Nat) (p : Int) : Option (PUnit ⊕ Int) :=
  loopF (R := R) 2 (wrC ((subO Tryz.f154.body [1, 0, 1, 0, 0]).getD .skip)) (⟨[(0, Aq.TV.lst Aq.Cp.sh (Aq.Ty.st 0) x1), (1, Aq.TV.fn 155 [] ([Aq.TV.cref [Aq.TV.str x2] 0])), (7, Aq.TV.int Go.IntKind.i64 (((x1.length : Nat) : Int)))], []⟩ : Aq.MS R.T) (getN slices_IndexFunc_api_Def_api_Def_a.loops 2).sh (getN slices_IndexFunc_api_Def_api_Def_a.loops 2).outs (fun st k => codeM E R n false (regs37 n) iters slices_IndexFunc_api_Def_api_Def_a ((subO Tryz.f154.body [1, 0, 1, 0, 0]).getD .skip) st k) m p
attribute [irreducible] slices_IndexFunc_api_Def_api_Def_L2
theorem slices_IndexFunc_api_Def_api_Def_L2_s (n : Nat) (x1 : List Def) (x2 : List UInt8) (m : Nat) (x3 : Int) : slices_IndexFunc_api_Def_api_Def_L2 n x1 x2 (m + 1) x3 =
    bif decide (x3 < (((x1.length : Nat) : Int))) then
      (idxL x1 x3).bind fun (r4 : Def) =>
      (filter_find_1 n ((r4, x2))).bind fun (r5 : Bool) =>
      bif r5 then
        some (.inr x3)
      else
        slices_IndexFunc_api_Def_api_Def_L2 n x1 x2 m (Go.IntKind.wrap Go.IntKind.i64 (x3 + ((1 : Int))))
    else
      some (.inl (())) := by kernel_rfl
theorem slices_IndexFunc_api_Def_api_Def_eq (n : Nat) (x1 : List Def) (x2 : List UInt8) : slices_IndexFunc_api_Def_api_Def n (x1, ((), x2)) =
    (slices_IndexFunc_api_Def_api_Def_L2 n x1 x2 n ((0 : Int))).bind fun (r6 : PUnit ⊕ Int) =>
    Sum.elim (fun (q7 : PUnit) =>
      some ((-1 : Int)))
     (fun (q8 : Int) =>
      some q8) r6 := by kernel_rfl
theorem filter_find_eq (n : Nat) (x1 : Schema) (x2 : List UInt8) : filter_find n (x1, x2) =
    (slices_IndexFunc_api_Def_api_Def n ((x1.Defs, ((), x2)))).bind fun (r3 : Int) =>
    bif decide (r3 < ((0 : Int))) then
      some (((⟨[], (0 : Int), (0 : Int), (0 : Int), []⟩ : Def), false))
    else
      (idxL x1.Defs r3).bind fun (r4 : Def) =>
      some ((r4, true)) := by kernel_rfl
noncomputable def filter_Check_R5 (n : Nat) (x1 : Schema) (xs : List Pred) (p : PUnit × Int) : Option ((PUnit × Int) ⊕ (PUnit × Int)) :=
  foldF (R := R) (X := PayL R.T predEl) 5 (wrR (subO Tryz.f48.body [1, 1, 0, 1, 0])) (⟨[(2, Aq.TV.ref 2 0), (4, Aq.TV.ref 4 0)], [(2, Aq.Ob.ro (Aq.Ob.cells [Aq.TV.int Go.IntKind.i64 x1.Dims, Aq.TV.int Go.IntKind.i64 x1.Metric, Aq.TV.lst Aq.Cp.sh (Aq.Ty.st 0) x1.Defs]))]⟩ : Aq.MS R.T) (getN filter_Check_a.loops 5).sh (getN filter_Check_a.loops 5).outs (rndM E R n false (regs39 n) iters filter_Check_a (subO Tryz.f48.body [1, 1, 0, 1, 0]) predEl) xs p
attribute [irreducible] filter_Check_R5
theorem filter_Check_R5_0 (n : Nat) (x1 : Schema) (x6 : Int) : filter_Check_R5 n x1 [] ((), x6) =
    some (.inl (((), x6))) := by kernel_rfl
theorem filter_Check_R5_s (n : Nat) (x1 : Schema) (x7 : Pred) (xs : List Pred) (x8 : Int) : filter_Check_R5 n x1 (x7 :: xs) ((), x8) =
    bif bif decide (x7.Op < ((1 : Int))) then true else decide (x7.Op > ((7 : Int))) then
      some (.inr (((), (1 : Int))))
    else
      (filter_form n x7.re).bind fun (r9 : Bool) =>
      bif !r9 then
        some (.inr (((), (3 : Int))))
      else
        bif decide (x7.Op < ((5 : Int))) then
          filter_Check_R5 n x1 xs (((), x8))
        else
          (filter_find n ((x1, x7.Name))).bind fun (r10 : Def × Bool) =>
          bif !r10.2 then
            some (.inr (((), (5 : Int))))
          else
            bif bif bif x7.Op == ((6 : Int)) then r10.1.Kind != ((1 : Int)) else false then true else bif x7.Op == ((7 : Int)) then r10.1.Kind != ((2 : Int)) else false then
              some (.inr (((), (130 : Int))))
            else
              filter_Check_R5 n x1 xs (((), x8)) := by kernel_rfl
theorem filter_Check_eq (n : Nat) (x1 : Schema) (x2 : Pred) : filter_Check n (x1, x2) =
    (filter_Size n x2.re).bind fun (r3 : Int) =>
    bif decide (r3 > ((64 : Int))) then
      some ((2 : Int))
    else
      (filter_parts n x2.re).bind fun (r4 : PUnit × Int × (List UInt8) × Int × Int × (List UInt8) × List Pred) =>
      ((partsO ((⟨r4.2.1, r4.2.2.1, r4.2.2.2.1, r4.2.2.2.2.1, r4.2.2.2.2.2.1, r4.2.2.2.2.2.2⟩ : Pred))).bind fun (r5 : List Pred) => filter_Check_R5 n x1 r5 (((), (0 : Int)))).bind fun (r11 : (PUnit × Int) ⊕ (PUnit × Int)) =>
      Sum.elim (fun (q12 : PUnit × Int) =>
        some ((0 : Int)))
       (fun (q13 : PUnit × Int) =>
        some q13.2) r11 := by kernel_rfl
noncomputable def retain_Check_L5 (n : Nat) (x1 : Schema) (x2 : List Law) (m : Nat) (p : Int × List ((List UInt8) × Bool)) : Option (PUnit ⊕ Int) :=
  loopF (R := R) 5 (wrC ((subO Tryz.f12.body [1, 1, 1, 0, 1, 0, 0]).getD .skip)) (⟨[(2, Aq.TV.ref 2 0), (5, Aq.TV.mapr 13), (14, Aq.TV.lst Aq.Cp.sh (Aq.Ty.st 9) x2), (15, Aq.TV.int Go.IntKind.i64 (((x2.length : Nat) : Int)))], [(2, Aq.Ob.ro (Aq.Ob.cells [Aq.TV.int Go.IntKind.i64 x1.Dims, Aq.TV.int Go.IntKind.i64 x1.Metric, Aq.TV.lst Aq.Cp.sh (Aq.Ty.st 0) x1.Defs]))]⟩ : Aq.MS R.T) (getN retain_Check_a.loops 5).sh (getN retain_Check_a.loops 5).outs (fun st k => codeM E R n false (regs40 n) iters retain_Check_a ((subO Tryz.f12.body [1, 1, 1, 0, 1, 0, 0]).getD .skip) st k) m p
attribute [irreducible] retain_Check_L5
theorem retain_Check_L5_s (n : Nat) (x1 : Schema) (x2 : List Law) (m : Nat) (x3 : Int) (x4 : List ((List UInt8) × Bool)) : retain_Check_L5 n x1 x2 (m + 1) (x3, x4) =
    bif decide (x3 < (((x2.length : Nat) : Int))) then
      (idxL x2 x3).bind fun (r5 : Law) =>
      bif bif bif bif decide ((((r5.Name.length : Nat) : Int)) < ((1 : Int))) then true else decide ((((r5.Name.length : Nat) : Int)) > ((40 : Int))) then true else decide (r5.Days < ((0 : Int))) then true else decide (r5.Days > ((1048576 : Int))) then
        some (.inr ((1 : Int)))
      else
        bif optGet false (mget (beqD R Aq.Ty.str) r5.Name x4) then
          some (.inr ((6 : Int)))
        else
          (filter_Check n ((x1, r5.Where.re))).bind fun (r6 : Int) =>
          bif r6 != ((0 : Int)) then
            some (.inr r6)
          else
            retain_Check_L5 n x1 x2 m ((Go.IntKind.wrap Go.IntKind.i64 (x3 + ((1 : Int))), mset (beqD R Aq.Ty.str) r5.Name true x4))
    else
      some (.inl (())) := by kernel_rfl
theorem retain_Check_eq (n : Nat) (x1 : Schema) (x2 : List Law) : retain_Check n (x1, x2) =
    bif decide ((((x2.length : Nat) : Int)) > ((32 : Int))) then
      some ((2 : Int))
    else
      (retain_Check_L5 n x1 x2 n (((0 : Int), []))).bind fun (r7 : PUnit ⊕ Int) =>
      Sum.elim (fun (q8 : PUnit) =>
        some ((0 : Int)))
       (fun (q9 : Int) =>
        some q9) r7 := by kernel_rfl
theorem ref17_form_eq (n : Nat) (x1 : Pred) : ref17_form n x1 =
    bif bif bif bif decide (x1.Op < ((5 : Int))) then decide ((((x1.Name.length : Nat) : Int)) > ((0 : Int))) else false then true else bif x1.Op != ((6 : Int)) then bif x1.N != ((0 : Int)) then true else x1.M != ((0 : Int)) else false then true else bif x1.Op != ((7 : Int)) then decide ((((x1.S.length : Nat) : Int)) > ((0 : Int))) else false then
      some false
    else
      bif decide (x1.N > x1.M) then
        some false
      else
        bif bif x1.Op == ((2 : Int)) then true else x1.Op == ((3 : Int)) then
          some (decide ((((x1.Subs.length : Nat) : Int)) > ((0 : Int))))
        else
          bif x1.Op == ((4 : Int)) then
            some ((((x1.Subs.length : Nat) : Int)) == ((1 : Int)))
          else
            some ((((x1.Subs.length : Nat) : Int)) == ((0 : Int))) := by kernel_rfl
noncomputable def ref17_Check_L5 (n : Nat) (x1 : Schema) (r3 : List Pred) (m : Nat) (p : Int) : Option (PUnit ⊕ Int) :=
  loopF (R := R) 5 (wrC ((subO Tryz.f18.body [1, 1, 1, 0, 1, 0, 0]).getD .skip)) (⟨[(2, Aq.TV.ref 2 0), (5, Aq.TV.lst Aq.Cp.sh (Aq.Ty.st 8) r3)], [(2, Aq.Ob.ro (Aq.Ob.cells [Aq.TV.int Go.IntKind.i64 x1.Dims, Aq.TV.int Go.IntKind.i64 x1.Metric, Aq.TV.lst Aq.Cp.sh (Aq.Ty.st 0) x1.Defs]))]⟩ : Aq.MS R.T) (getN ref17_Check_a.loops 5).sh (getN ref17_Check_a.loops 5).outs (fun st k => codeM E R n false (regs42 n) iters ref17_Check_a ((subO Tryz.f18.body [1, 1, 1, 0, 1, 0, 0]).getD .skip) st k) m p
attribute [irreducible] ref17_Check_L5
theorem ref17_Check_L5_s (n : Nat) (x1 : Schema) (r3 : List Pred) (m : Nat) (x4 : Int) : ref17_Check_L5 n x1 r3 (m + 1) x4 =
    bif decide (x4 < (((r3.length : Nat) : Int))) then
      (idxL r3 x4).bind fun (r5 : Pred) =>
      bif bif decide (r5.Op < ((1 : Int))) then true else decide (r5.Op > ((7 : Int))) then
        some (.inr ((1 : Int)))
      else
        (ref17_form n r5.re).bind fun (r6 : Bool) =>
        bif !r6 then
          some (.inr ((3 : Int)))
        else
          bif decide (r5.Op < ((5 : Int))) then
            ref17_Check_L5 n x1 r3 m (Go.IntKind.wrap Go.IntKind.i64 (x4 + ((1 : Int))))
          else
            (ref13_Find n ((x1, r5.Name))).bind fun (r7 : Int) =>
            bif decide (r7 < ((0 : Int))) then
              some (.inr ((5 : Int)))
            else
              (whenO (r5.Op == ((6 : Int))) (idxL x1.Defs r7) ((⟨[], (0 : Int), (0 : Int), (0 : Int), []⟩ : Def))).bind fun (r8 : Def) =>
              (whenO (bif !(bif r5.Op == ((6 : Int)) then r8.Kind != ((1 : Int)) else false) then r5.Op == ((7 : Int)) else false) (idxL x1.Defs r7) ((⟨[], (0 : Int), (0 : Int), (0 : Int), []⟩ : Def))).bind fun (r9 : Def) =>
              bif bif bif r5.Op == ((6 : Int)) then r8.Kind != ((1 : Int)) else false then true else bif r5.Op == ((7 : Int)) then r9.Kind != ((2 : Int)) else false then
                some (.inr ((130 : Int)))
              else
                ref17_Check_L5 n x1 r3 m (Go.IntKind.wrap Go.IntKind.i64 (x4 + ((1 : Int))))
    else
      some (.inl (())) := by kernel_rfl
theorem ref17_Check_eq (n : Nat) (x1 : Schema) (x2 : Pred) : ref17_Check n (x1, x2) =
    (ref17_Parts n x2.re).bind fun (r3 : List Pred) =>
    bif decide ((((r3.length : Nat) : Int)) > ((64 : Int))) then
      some ((2 : Int))
    else
      (ref17_Check_L5 n x1 r3 n ((0 : Int))).bind fun (r10 : PUnit ⊕ Int) =>
      Sum.elim (fun (q11 : PUnit) =>
        some ((0 : Int)))
       (fun (q12 : Int) =>
        some q12) r10 := by kernel_rfl
noncomputable def ref21_Check_L9 (n : Nat) (x1 : Schema) (x2 : List Law) (x3 : Int) (m : Nat) (p : Int) : Option (PUnit ⊕ Int) :=
  loopF (R := R) 9 (wrC ((subO Tryz.f13.body [1, 1, 0, 1, 0, 0, 1, 0, 0, 1, 0, 1, 0, 0]).getD .skip)) (⟨[(1, Aq.TV.lst Aq.Cp.sh (Aq.Ty.st 9) x2), (2, Aq.TV.ref 2 0), (5, Aq.TV.int Go.IntKind.i64 x3)], [(2, Aq.Ob.ro (Aq.Ob.ro (Aq.Ob.cells [Aq.TV.int Go.IntKind.i64 x1.Dims, Aq.TV.int Go.IntKind.i64 x1.Metric, Aq.TV.lst Aq.Cp.sh (Aq.Ty.st 0) x1.Defs])))]⟩ : Aq.MS R.T) (getN ref21_Check_a.loops 9).sh (getN ref21_Check_a.loops 9).outs (fun st k => codeM E R n false (regs43 n) iters ref21_Check_a ((subO Tryz.f13.body [1, 1, 0, 1, 0, 0, 1, 0, 0, 1, 0, 1, 0, 0]).getD .skip) st k) m p
attribute [irreducible] ref21_Check_L9
noncomputable def ref21_Check_L4 (n : Nat) (x1 : Schema) (x2 : List Law) (m : Nat) (p : Int) : Option (PUnit ⊕ Int) :=
  loopF (R := R) 4 (wrC ((subO Tryz.f13.body [1, 1, 0, 1, 0, 0]).getD .skip)) (⟨[(1, Aq.TV.lst Aq.Cp.sh (Aq.Ty.st 9) x2), (2, Aq.TV.ref 2 0)], [(2, Aq.Ob.ro (Aq.Ob.cells [Aq.TV.int Go.IntKind.i64 x1.Dims, Aq.TV.int Go.IntKind.i64 x1.Metric, Aq.TV.lst Aq.Cp.sh (Aq.Ty.st 0) x1.Defs]))]⟩ : Aq.MS R.T) (getN ref21_Check_a.loops 4).sh (getN ref21_Check_a.loops 4).outs (fun st k => codeM E R n false (regs43 n) iters ref21_Check_a ((subO Tryz.f13.body [1, 1, 0, 1, 0, 0]).getD .skip) st k) m p
attribute [irreducible] ref21_Check_L4
theorem ref21_Check_L9_s (n : Nat) (x1 : Schema) (x2 : List Law) (x3 : Int) (m : Nat) (x8 : Int) : ref21_Check_L9 n x1 x2 x3 (m + 1) x8 =
    bif decide (x8 < x3) then
      (idxL x2 x8).bind fun (r9 : Law) =>
      (idxL x2 x3).bind fun (r10 : Law) =>
      bif r9.Name == r10.Name then
        some (.inr ((6 : Int)))
      else
        ref21_Check_L9 n x1 x2 x3 m (Go.IntKind.wrap Go.IntKind.i64 (x8 + ((1 : Int))))
    else
      some (.inl (())) := by kernel_rfl
theorem ref21_Check_L4_s (n : Nat) (x1 : Schema) (x2 : List Law) (m : Nat) (x3 : Int) : ref21_Check_L4 n x1 x2 (m + 1) x3 =
    bif decide (x3 < (((x2.length : Nat) : Int))) then
      (idxL x2 x3).bind fun (r4 : Law) =>
      (whenO (!(decide ((((r4.Name.length : Nat) : Int)) < ((1 : Int))))) (idxL x2 x3) ((⟨[], (⟨(0 : Int), [], (0 : Int), (0 : Int), [], []⟩ : Pred), (0 : Int)⟩ : Law))).bind fun (r5 : Law) =>
      (whenO (!(bif decide ((((r4.Name.length : Nat) : Int)) < ((1 : Int))) then true else decide ((((r5.Name.length : Nat) : Int)) > ((40 : Int))))) (idxL x2 x3) ((⟨[], (⟨(0 : Int), [], (0 : Int), (0 : Int), [], []⟩ : Pred), (0 : Int)⟩ : Law))).bind fun (r6 : Law) =>
      (whenO (!(bif bif decide ((((r4.Name.length : Nat) : Int)) < ((1 : Int))) then true else decide ((((r5.Name.length : Nat) : Int)) > ((40 : Int))) then true else decide (r6.Days < ((0 : Int))))) (idxL x2 x3) ((⟨[], (⟨(0 : Int), [], (0 : Int), (0 : Int), [], []⟩ : Pred), (0 : Int)⟩ : Law))).bind fun (r7 : Law) =>
      bif bif bif bif decide ((((r4.Name.length : Nat) : Int)) < ((1 : Int))) then true else decide ((((r5.Name.length : Nat) : Int)) > ((40 : Int))) then true else decide (r6.Days < ((0 : Int))) then true else decide (r7.Days > ((1048576 : Int))) then
        some (.inr ((1 : Int)))
      else
        (ref21_Check_L9 n x1 x2 x3 n ((0 : Int))).bind fun (r11 : PUnit ⊕ Int) =>
        Sum.elim (fun (q12 : PUnit) =>
          (idxL x2 x3).bind fun (r14 : Law) =>
          (ref17_Check n ((x1, r14.Where.re))).bind fun (r15 : Int) =>
          bif r15 != ((0 : Int)) then
            some (.inr r15)
          else
            ref21_Check_L4 n x1 x2 m (Go.IntKind.wrap Go.IntKind.i64 (x3 + ((1 : Int)))))
         (fun (q13 : Int) =>
          some (.inr q13)) r11
    else
      some (.inl (())) := by kernel_rfl
theorem ref21_Check_eq (n : Nat) (x1 : Schema) (x2 : List Law) : ref21_Check n (x1, x2) =
    bif decide ((((x2.length : Nat) : Int)) > ((32 : Int))) then
      some ((2 : Int))
    else
      (ref21_Check_L4 n x1 x2 n ((0 : Int))).bind fun (r16 : PUnit ⊕ Int) =>
      Sum.elim (fun (q17 : PUnit) =>
        some ((0 : Int)))
       (fun (q18 : Int) =>
        some q18) r16 := by kernel_rfl
theorem filter_list_all_eq (n : Nat) (x1 : List Attr) (x2 : Pred) : filter_list_all n (x1, x2) =
    some true := by kernel_rfl
theorem attr_Get_1_eq (n : Nat) (x1 : Attr) (x2 : List UInt8) : attr_Get_1 n (x1, x2) =
    some (x1.Name == x2) := by kernel_rfl
noncomputable def slices_IndexFunc_api_Attr_api_Attr_L2 (n : Nat) (x1 : List Attr) (x2 : List UInt8) (m : Nat) (p : Int) : Option (PUnit ⊕ Int) :=
  loopF (R := R) 2 (wrC ((subO Tryz.f208.body [1, 0, 1, 0, 0]).getD .skip)) (⟨[(0, Aq.TV.lst Aq.Cp.sh (Aq.Ty.st 2) x1), (1, Aq.TV.fn 209 [] ([Aq.TV.cref [Aq.TV.str x2] 0])), (7, Aq.TV.int Go.IntKind.i64 (((x1.length : Nat) : Int)))], []⟩ : Aq.MS R.T) (getN slices_IndexFunc_api_Attr_api_Attr_a.loops 2).sh (getN slices_IndexFunc_api_Attr_api_Attr_a.loops 2).outs (fun st k => codeM E R n false (regs46 n) iters slices_IndexFunc_api_Attr_api_Attr_a ((subO Tryz.f208.body [1, 0, 1, 0, 0]).getD .skip) st k) m p
attribute [irreducible] slices_IndexFunc_api_Attr_api_Attr_L2
theorem slices_IndexFunc_api_Attr_api_Attr_L2_s (n : Nat) (x1 : List Attr) (x2 : List UInt8) (m : Nat) (x3 : Int) : slices_IndexFunc_api_Attr_api_Attr_L2 n x1 x2 (m + 1) x3 =
    bif decide (x3 < (((x1.length : Nat) : Int))) then
      (idxL x1 x3).bind fun (r4 : Attr) =>
      (attr_Get_1 n ((r4, x2))).bind fun (r5 : Bool) =>
      bif r5 then
        some (.inr x3)
      else
        slices_IndexFunc_api_Attr_api_Attr_L2 n x1 x2 m (Go.IntKind.wrap Go.IntKind.i64 (x3 + ((1 : Int))))
    else
      some (.inl (())) := by kernel_rfl
theorem slices_IndexFunc_api_Attr_api_Attr_eq (n : Nat) (x1 : List Attr) (x2 : List UInt8) : slices_IndexFunc_api_Attr_api_Attr n (x1, ((), x2)) =
    (slices_IndexFunc_api_Attr_api_Attr_L2 n x1 x2 n ((0 : Int))).bind fun (r6 : PUnit ⊕ Int) =>
    Sum.elim (fun (q7 : PUnit) =>
      some ((-1 : Int)))
     (fun (q8 : Int) =>
      some q8) r6 := by kernel_rfl
theorem attr_Get_eq (n : Nat) (x1 : List Attr) (x2 : List UInt8) : attr_Get n (x1, x2) =
    (slices_IndexFunc_api_Attr_api_Attr n ((x1, ((), x2)))).bind fun (r3 : Int) =>
    bif decide (r3 < ((0 : Int))) then
      some (((⟨[], (0 : Int), (0 : Int), []⟩ : Attr), false))
    else
      (idxL x1 r3).bind fun (r4 : Attr) =>
      some ((r4, true)) := by kernel_rfl
theorem filter_list_has_eq (n : Nat) (x1 : List Attr) (x2 : Pred) : filter_list_has n (x1, x2) =
    (attr_Get n ((x1, x2.Name))).bind fun (r3 : Attr × Bool) =>
    some r3.2 := by kernel_rfl
theorem filter_list_number_eq (n : Nat) (x1 : List Attr) (x2 : Pred) : filter_list_number n (x1, x2) =
    (attr_Get n ((x1, x2.Name))).bind fun (r3 : Attr × Bool) =>
    some (bif bif bif r3.2 then r3.1.Kind == ((1 : Int)) else false then decide (r3.1.N ≥ x2.N) else false then decide (r3.1.N ≤ x2.M) else false) := by kernel_rfl
theorem filter_list_word_eq (n : Nat) (x1 : List Attr) (x2 : Pred) : filter_list_word n (x1, x2) =
    (attr_Get n ((x1, x2.Name))).bind fun (r3 : Attr × Bool) =>
    some (bif bif r3.2 then r3.1.Kind == ((2 : Int)) else false then r3.1.S == x2.S else false) := by kernel_rfl
theorem filter_list_holds_m_eq (n g : Nat) (x1 : List Attr) (x2 : Pred) : filter_list_holds_m n (g + 1) (x1, x2) =
    bif x2.Op == ((1 : Int)) then
      (filter_list_all n ((x1, x2.re))).bind fun (r3 : Bool) =>
      some r3
    else
      bif x2.Op == ((2 : Int)) then
        (filter_list_and_m n g ((x1, x2.re))).bind fun (r4 : Bool) =>
        some r4
      else
        bif x2.Op == ((3 : Int)) then
          (filter_list_or_m n g ((x1, x2.re))).bind fun (r5 : Bool) =>
          some r5
        else
          bif x2.Op == ((4 : Int)) then
            (filter_list_not_m n g ((x1, x2.re))).bind fun (r6 : Bool) =>
            some r6
          else
            bif x2.Op == ((5 : Int)) then
              (filter_list_has n ((x1, x2.re))).bind fun (r7 : Bool) =>
              some r7
            else
              bif x2.Op == ((6 : Int)) then
                (filter_list_number n ((x1, x2.re))).bind fun (r8 : Bool) =>
                some r8
              else
                bif x2.Op == ((7 : Int)) then
                  (filter_list_word n ((x1, x2.re))).bind fun (r9 : Bool) =>
                  some r9
                else
                  some false := by kernel_rfl
noncomputable def filter_list_and_m_L2 (n : Nat) (g : Nat) (x1 : List Attr) (x2 : Pred) (m : Nat) (p : Int) : Option (PUnit ⊕ Bool) :=
  loopF (R := R) 2 (wrC ((subO Tryz.f118.body [1, 0, 1, 0, 0]).getD .skip)) (⟨[(0, Aq.TV.lst Aq.Cp.sh (Aq.Ty.st 2) x1), (8, Aq.TV.lst Aq.Cp.sh (Aq.Ty.st 8) x2.Subs), (9, Aq.TV.int Go.IntKind.i64 (((x2.Subs.length : Nat) : Int)))], []⟩ : Aq.MS R.T) (getN filter_list_and_a.loops 2).sh (getN filter_list_and_a.loops 2).outs (fun st k => codeM E R n false (grp3_k n (grp3 n g)) iters filter_list_and_a ((subO Tryz.f118.body [1, 0, 1, 0, 0]).getD .skip) st k) m p
attribute [irreducible] filter_list_and_m_L2
theorem filter_list_and_m_L2_s (n : Nat) (g : Nat) (x1 : List Attr) (x2 : Pred) (m : Nat) (x3 : Int) : filter_list_and_m_L2 n g x1 x2 (m + 1) x3 =
    bif decide (x3 < (((x2.Subs.length : Nat) : Int))) then
      (idxL x2.Subs x3).bind fun (r4 : Pred) =>
      (filter_list_holds_m n g ((x1, r4.re))).bind fun (r5 : Bool) =>
      bif !r5 then
        some (.inr false)
      else
        filter_list_and_m_L2 n g x1 x2 m (Go.IntKind.wrap Go.IntKind.i64 (x3 + ((1 : Int))))
    else
      some (.inl (())) := by kernel_rfl
theorem filter_list_and_m_eq (n g : Nat) (x1 : List Attr) (x2 : Pred) : filter_list_and_m n (g + 1) (x1, x2) =
    (filter_list_and_m_L2 n g x1 x2 n ((0 : Int))).bind fun (r6 : PUnit ⊕ Bool) =>
    Sum.elim (fun (q7 : PUnit) =>
      some true)
     (fun (q8 : Bool) =>
      some q8) r6 := by kernel_rfl
theorem filter_list_or_m_eq (n g : Nat) (x1 : List Attr) (x2 : Pred) : filter_list_or_m n (g + 1) (x1, x2) =
    (slices_ContainsFunc_api_Pred_api_Pred_m n g ((x2.Subs, (x1, ())))).bind fun (r3 : Bool) =>
    some r3 := by kernel_rfl
theorem slices_ContainsFunc_api_Pred_api_Pred_m_eq (n g : Nat) (x1 : List Pred) (x2 : List Attr) : slices_ContainsFunc_api_Pred_api_Pred_m n (g + 1) (x1, (x2, ())) =
    (slices_IndexFunc_api_Pred_api_Pred_m n g ((x1, (x2, ())))).bind fun (r3 : Int) =>
    some (decide (r3 ≥ ((0 : Int)))) := by kernel_rfl
noncomputable def slices_IndexFunc_api_Pred_api_Pred_m_L2 (n : Nat) (g : Nat) (x1 : List Pred) (x2 : List Attr) (m : Nat) (p : Int) : Option (PUnit ⊕ Int) :=
  loopF (R := R) 2 (wrC ((subO Tryz.f207.body [1, 0, 1, 0, 0]).getD .skip)) (⟨[(0, Aq.TV.lst Aq.Cp.sh (Aq.Ty.st 8) x1), (1, Aq.TV.fn 69 [Aq.TV.lst Aq.Cp.sh (Aq.Ty.st 2) x2] []), (7, Aq.TV.int Go.IntKind.i64 (((x1.length : Nat) : Int)))], []⟩ : Aq.MS R.T) (getN slices_IndexFunc_api_Pred_api_Pred_a.loops 2).sh (getN slices_IndexFunc_api_Pred_api_Pred_a.loops 2).outs (fun st k => codeM E R n false (grp3_k n (grp3 n g)) iters slices_IndexFunc_api_Pred_api_Pred_a ((subO Tryz.f207.body [1, 0, 1, 0, 0]).getD .skip) st k) m p
attribute [irreducible] slices_IndexFunc_api_Pred_api_Pred_m_L2
theorem slices_IndexFunc_api_Pred_api_Pred_m_L2_s (n : Nat) (g : Nat) (x1 : List Pred) (x2 : List Attr) (m : Nat) (x3 : Int) : slices_IndexFunc_api_Pred_api_Pred_m_L2 n g x1 x2 (m + 1) x3 =
    bif decide (x3 < (((x1.length : Nat) : Int))) then
      (idxL x1 x3).bind fun (r4 : Pred) =>
      (filter_list_holds_m n g ((x2, r4.re))).bind fun (r5 : Bool) =>
      bif r5 then
        some (.inr x3)
      else
        slices_IndexFunc_api_Pred_api_Pred_m_L2 n g x1 x2 m (Go.IntKind.wrap Go.IntKind.i64 (x3 + ((1 : Int))))
    else
      some (.inl (())) := by kernel_rfl
theorem slices_IndexFunc_api_Pred_api_Pred_m_eq (n g : Nat) (x1 : List Pred) (x2 : List Attr) : slices_IndexFunc_api_Pred_api_Pred_m n (g + 1) (x1, (x2, ())) =
    (slices_IndexFunc_api_Pred_api_Pred_m_L2 n g x1 x2 n ((0 : Int))).bind fun (r6 : PUnit ⊕ Int) =>
    Sum.elim (fun (q7 : PUnit) =>
      some ((-1 : Int)))
     (fun (q8 : Int) =>
      some q8) r6 := by kernel_rfl
theorem filter_list_not_m_eq (n g : Nat) (x1 : List Attr) (x2 : Pred) : filter_list_not_m n (g + 1) (x1, x2) =
    (filter_list_or_m n g ((x1, x2.re))).bind fun (r3 : Bool) =>
    some (!r3) := by kernel_rfl
theorem filter_Holds_eq (n : Nat) (x1 : Pred) (x2 : List Attr) : filter_Holds n (x1, x2) =
    (filter_list_holds n ((x2, x1.re))).bind fun (r3 : Bool) =>
    some r3 := by kernel_rfl
noncomputable def retain_Floor_L7 (n : Nat) (x1 : List Law) (x2 : Book) (x4 : Int) (r5 : Row) (m : Nat) (p : Int × Int) : Option (Int) :=
  loopF (R := R) 7 (wrC ((subO Tryz.f14.body [1, 1, 0, 1, 0, 0, 1, 1, 0, 0, 1, 1, 1, 0, 0]).getD .skip)) (⟨[(0, Aq.TV.lst Aq.Cp.sh (Aq.Ty.st 9) x1), (3, Aq.TV.ref 3 0), (7, Aq.TV.ref 7 0), (13, Aq.TV.lst Aq.Cp.sh (Aq.Ty.st 4) x2.Rows), (14, Aq.TV.int Go.IntKind.i64 (((x2.Rows.length : Nat) : Int))), (15, Aq.TV.int Go.IntKind.i64 x4), (28, Aq.TV.lst Aq.Cp.sh (Aq.Ty.st 9) x1), (29, Aq.TV.int Go.IntKind.i64 (((x1.length : Nat) : Int)))], [(3, Aq.Ob.ro (Aq.Ob.ro (Aq.Ob.cells [Aq.TV.int Go.IntKind.i64 x2.Schema.Dims, Aq.TV.int Go.IntKind.i64 x2.Schema.Metric, Aq.TV.lst Aq.Cp.sh (Aq.Ty.st 0) x2.Schema.Defs, Aq.TV.int Go.IntKind.i64 x2.Commit, Aq.TV.int Go.IntKind.i64 x2.Day, Aq.TV.lst Aq.Cp.sh (Aq.Ty.int Go.IntKind.i64) x2.Days, Aq.TV.lst Aq.Cp.sh (Aq.Ty.st 4) x2.Rows]))), (7, Aq.Ob.ro (Aq.Ob.cells [Aq.TV.int Go.IntKind.i64 r5.Entry.ID, Aq.TV.int Go.IntKind.i64 r5.Entry.Ver, Aq.TV.int Go.IntKind.i64 r5.Entry.Owner, Aq.TV.int Go.IntKind.i64 r5.Entry.Filed, Aq.TV.int Go.IntKind.i64 r5.Entry.From, Aq.TV.int Go.IntKind.i64 r5.Entry.To, Aq.TV.int Go.IntKind.i64 r5.Entry.Born, Aq.TV.lst Aq.Cp.sh (Aq.Ty.int Go.IntKind.i64) r5.Entry.Vec, Aq.TV.lst Aq.Cp.sh (Aq.Ty.st 2) r5.Entry.Attrs, Aq.TV.int Go.IntKind.i64 r5.Died]))]⟩ : Aq.MS R.T) (getN retain_Floor_a.loops 7).sh (getN retain_Floor_a.loops 7).outs (fun st k => codeM E R n false (regs58 n) iters retain_Floor_a ((subO Tryz.f14.body [1, 1, 0, 1, 0, 0, 1, 1, 0, 0, 1, 1, 1, 0, 0]).getD .skip) st k) m p
attribute [irreducible] retain_Floor_L7
noncomputable def retain_Floor_L3 (n : Nat) (x1 : List Law) (x2 : Book) (m : Nat) (p : Int × Int) : Option (Int) :=
  loopF (R := R) 3 (wrC ((subO Tryz.f14.body [1, 1, 0, 1, 0, 0]).getD .skip)) (⟨[(0, Aq.TV.lst Aq.Cp.sh (Aq.Ty.st 9) x1), (3, Aq.TV.ref 3 0), (13, Aq.TV.lst Aq.Cp.sh (Aq.Ty.st 4) x2.Rows), (14, Aq.TV.int Go.IntKind.i64 (((x2.Rows.length : Nat) : Int)))], [(3, Aq.Ob.ro (Aq.Ob.cells [Aq.TV.int Go.IntKind.i64 x2.Schema.Dims, Aq.TV.int Go.IntKind.i64 x2.Schema.Metric, Aq.TV.lst Aq.Cp.sh (Aq.Ty.st 0) x2.Schema.Defs, Aq.TV.int Go.IntKind.i64 x2.Commit, Aq.TV.int Go.IntKind.i64 x2.Day, Aq.TV.lst Aq.Cp.sh (Aq.Ty.int Go.IntKind.i64) x2.Days, Aq.TV.lst Aq.Cp.sh (Aq.Ty.st 4) x2.Rows]))]⟩ : Aq.MS R.T) (getN retain_Floor_a.loops 3).sh (getN retain_Floor_a.loops 3).outs (fun st k => codeM E R n false (regs58 n) iters retain_Floor_a ((subO Tryz.f14.body [1, 1, 0, 1, 0, 0]).getD .skip) st k) m p
attribute [irreducible] retain_Floor_L3
theorem retain_Floor_L7_s (n : Nat) (x1 : List Law) (x2 : Book) (x4 : Int) (r5 : Row) (m : Nat) (x6 : Int) (x7 : Int) : retain_Floor_L7 n x1 x2 x4 r5 (m + 1) (x6, x7) =
    bif decide (x7 < (((x1.length : Nat) : Int))) then
      (idxL x1 x7).bind fun (r8 : Law) =>
      (idxL x2.Days (Go.IntKind.wrap Go.IntKind.i64 (r5.Died - ((1 : Int))))).bind fun (r9 : Int) =>
      bif decide ((Go.IntKind.wrap Go.IntKind.i64 (r9 + r8.Days)) ≥ x2.Day) then
        (filter_Holds n ((r8.Where.re, r5.Entry.Attrs))).bind fun (r10 : Bool) =>
        bif r10 then
          some (Go.IntKind.wrap Go.IntKind.i64 (r5.Died - ((1 : Int))))
        else
          retain_Floor_L7 n x1 x2 x4 r5 m ((x6, Go.IntKind.wrap Go.IntKind.i64 (x7 + ((1 : Int)))))
      else
        retain_Floor_L7 n x1 x2 x4 r5 m ((x6, Go.IntKind.wrap Go.IntKind.i64 (x7 + ((1 : Int)))))
    else
      some x6 := by kernel_rfl
theorem retain_Floor_L3_s (n : Nat) (x1 : List Law) (x2 : Book) (m : Nat) (x3 : Int) (x4 : Int) : retain_Floor_L3 n x1 x2 (m + 1) (x3, x4) =
    bif decide (x4 < (((x2.Rows.length : Nat) : Int))) then
      (idxL x2.Rows x4).bind fun (r5 : Row) =>
      bif bif decide (r5.Died < ((1 : Int))) then true else decide (r5.Died > x3) then
        retain_Floor_L3 n x1 x2 m ((x3, Go.IntKind.wrap Go.IntKind.i64 (x4 + ((1 : Int)))))
      else
        (retain_Floor_L7 n x1 x2 x4 r5 n ((x3, (0 : Int)))).bind fun (r11 : Int) =>
        retain_Floor_L3 n x1 x2 m ((r11, Go.IntKind.wrap Go.IntKind.i64 (x4 + ((1 : Int)))))
    else
      some x3 := by kernel_rfl
theorem retain_Floor_eq (n : Nat) (x1 : List Law) (x2 : Book) : retain_Floor n (x1, x2) =
    (retain_Floor_L3 n x1 x2 n ((x2.Commit, (0 : Int)))).bind fun (r12 : Int) =>
    some r12 := by kernel_rfl
noncomputable def ref13_Get_L2 (n : Nat) (x1 : List Attr) (x2 : List UInt8) (m : Nat) (p : Int × ref13_Got) : Option ((PUnit × ref13_Got) ⊕ (PUnit × ref13_Got)) :=
  loopF (R := R) 2 (wrC ((subO Tryz.f156.body [1, 0, 1, 0, 0]).getD .skip)) (⟨[(0, Aq.TV.lst Aq.Cp.sh (Aq.Ty.st 2) x1), (1, Aq.TV.str x2), (4, Aq.TV.ref 4 0)], []⟩ : Aq.MS R.T) (getN ref13_Get_a.loops 2).sh (getN ref13_Get_a.loops 2).outs (fun st k => codeM E R n false (regs59 n) iters ref13_Get_a ((subO Tryz.f156.body [1, 0, 1, 0, 0]).getD .skip) st k) m p
attribute [irreducible] ref13_Get_L2
theorem ref13_Get_L2_s (n : Nat) (x1 : List Attr) (x2 : List UInt8) (m : Nat) (x3 : Int) (x4 : ref13_Got) : ref13_Get_L2 n x1 x2 (m + 1) (x3, x4) =
    bif decide (x3 < (((x1.length : Nat) : Int))) then
      (idxL x1 x3).bind fun (r5 : Attr) =>
      bif r5.Name == x2 then
        (idxL x1 x3).bind fun (r6 : Attr) =>
        some (.inr (((), (⟨r6, true⟩ : ref13_Got))))
      else
        ref13_Get_L2 n x1 x2 m ((Go.IntKind.wrap Go.IntKind.i64 (x3 + ((1 : Int))), x4))
    else
      some (.inl (((), x4))) := by kernel_rfl
theorem ref13_Get_eq (n : Nat) (x1 : List Attr) (x2 : List UInt8) : ref13_Get n (x1, x2) =
    (ref13_Get_L2 n x1 x2 n (((0 : Int), (⟨(⟨[], (0 : Int), (0 : Int), []⟩ : Attr), false⟩ : ref13_Got)))).bind fun (r7 : (PUnit × ref13_Got) ⊕ (PUnit × ref13_Got)) =>
    Sum.elim (fun (q8 : PUnit × ref13_Got) =>
      some ((⟨(⟨[], (0 : Int), (0 : Int), []⟩ : Attr), false⟩ : ref13_Got)))
     (fun (q9 : PUnit × ref13_Got) =>
      some q9.2) r7 := by kernel_rfl
noncomputable def ref17_Holds_m_L3 (n : Nat) (g : Nat) (x1 : Pred) (x2 : List Attr) (m : Nat) (p : Int × Int) : Option (Int) :=
  loopF (R := R) 3 (wrC ((subO Tryz.f98.body [1, 1, 0, 1, 0, 0]).getD .skip)) (⟨[(1, Aq.TV.lst Aq.Cp.sh (Aq.Ty.st 2) x2), (2, Aq.TV.ref 2 0)], [(2, Aq.Ob.ro (Aq.Ob.cells [Aq.TV.int Go.IntKind.i64 x1.Op, Aq.TV.str x1.Name, Aq.TV.int Go.IntKind.i64 x1.N, Aq.TV.int Go.IntKind.i64 x1.M, Aq.TV.str x1.S, Aq.TV.lst Aq.Cp.sh (Aq.Ty.st 8) x1.Subs]))]⟩ : Aq.MS R.T) (getN ref17_Holds_a.loops 3).sh (getN ref17_Holds_a.loops 3).outs (fun st k => codeM E R n false (grp4_k n (grp4 n g)) iters ref17_Holds_a ((subO Tryz.f98.body [1, 1, 0, 1, 0, 0]).getD .skip) st k) m p
attribute [irreducible] ref17_Holds_m_L3
theorem ref17_Holds_m_L3_s (n : Nat) (g : Nat) (x1 : Pred) (x2 : List Attr) (m : Nat) (x3 : Int) (x4 : Int) : ref17_Holds_m_L3 n g x1 x2 (m + 1) (x3, x4) =
    bif decide (x4 < (((x1.Subs.length : Nat) : Int))) then
      (idxL x1.Subs x4).bind fun (r5 : Pred) =>
      (ref17_Holds_m n g ((r5.re, x2))).bind fun (r6 : Bool) =>
      bif r6 then
        ref17_Holds_m_L3 n g x1 x2 m ((Go.IntKind.wrap Go.IntKind.i64 (x3 + ((1 : Int))), Go.IntKind.wrap Go.IntKind.i64 (x4 + ((1 : Int)))))
      else
        ref17_Holds_m_L3 n g x1 x2 m ((x3, Go.IntKind.wrap Go.IntKind.i64 (x4 + ((1 : Int)))))
    else
      some x3 := by kernel_rfl
theorem ref17_Holds_m_eq (n g : Nat) (x1 : Pred) (x2 : List Attr) : ref17_Holds_m n (g + 1) (x1, x2) =
    (ref17_Holds_m_L3 n g x1 x2 n (((0 : Int), (0 : Int)))).bind fun (r7 : Int) =>
    (ref13_Get n ((x2, x1.Name))).bind fun (r8 : ref13_Got) =>
    bif x1.Op == ((1 : Int)) then
      some true
    else
      bif x1.Op == ((2 : Int)) then
        some (r7 == (((x1.Subs.length : Nat) : Int)))
      else
        bif x1.Op == ((3 : Int)) then
          some (decide (r7 > ((0 : Int))))
        else
          bif x1.Op == ((4 : Int)) then
            some (r7 == ((0 : Int)))
          else
            bif x1.Op == ((5 : Int)) then
              some r8.Is
            else
              bif x1.Op == ((6 : Int)) then
                some (bif bif bif r8.Is then r8.A.Kind == ((1 : Int)) else false then decide (r8.A.N ≥ x1.N) else false then decide (r8.A.N ≤ x1.M) else false)
              else
                some (bif bif bif x1.Op == ((7 : Int)) then r8.Is else false then r8.A.Kind == ((2 : Int)) else false then r8.A.S == x1.S else false) := by kernel_rfl
noncomputable def ref21_Free_L2 (n : Nat) (x1 : List Law) (x2 : Book) (x3 : Row) (m : Nat) (p : Int) : Option (PUnit ⊕ Bool) :=
  loopF (R := R) 2 (wrC ((subO Tryz.f49.body [1, 0, 1, 0, 0]).getD .skip)) (⟨[(0, Aq.TV.lst Aq.Cp.sh (Aq.Ty.st 9) x1), (4, Aq.TV.ref 4 0), (5, Aq.TV.ref 5 0)], [(4, Aq.Ob.ro (Aq.Ob.cells [Aq.TV.int Go.IntKind.i64 x2.Schema.Dims, Aq.TV.int Go.IntKind.i64 x2.Schema.Metric, Aq.TV.lst Aq.Cp.sh (Aq.Ty.st 0) x2.Schema.Defs, Aq.TV.int Go.IntKind.i64 x2.Commit, Aq.TV.int Go.IntKind.i64 x2.Day, Aq.TV.lst Aq.Cp.sh (Aq.Ty.int Go.IntKind.i64) x2.Days, Aq.TV.lst Aq.Cp.sh (Aq.Ty.st 4) x2.Rows])), (5, Aq.Ob.ro (Aq.Ob.cells [Aq.TV.int Go.IntKind.i64 x3.Entry.ID, Aq.TV.int Go.IntKind.i64 x3.Entry.Ver, Aq.TV.int Go.IntKind.i64 x3.Entry.Owner, Aq.TV.int Go.IntKind.i64 x3.Entry.Filed, Aq.TV.int Go.IntKind.i64 x3.Entry.From, Aq.TV.int Go.IntKind.i64 x3.Entry.To, Aq.TV.int Go.IntKind.i64 x3.Entry.Born, Aq.TV.lst Aq.Cp.sh (Aq.Ty.int Go.IntKind.i64) x3.Entry.Vec, Aq.TV.lst Aq.Cp.sh (Aq.Ty.st 2) x3.Entry.Attrs, Aq.TV.int Go.IntKind.i64 x3.Died]))]⟩ : Aq.MS R.T) (getN ref21_Free_a.loops 2).sh (getN ref21_Free_a.loops 2).outs (fun st k => codeM E R n false (regs61 n) iters ref21_Free_a ((subO Tryz.f49.body [1, 0, 1, 0, 0]).getD .skip) st k) m p
attribute [irreducible] ref21_Free_L2
theorem ref21_Free_L2_s (n : Nat) (x1 : List Law) (x2 : Book) (x3 : Row) (m : Nat) (x4 : Int) : ref21_Free_L2 n x1 x2 x3 (m + 1) x4 =
    bif decide (x4 < (((x1.length : Nat) : Int))) then
      (idxL x1 x4).bind fun (r5 : Law) =>
      (ref17_Holds n ((r5.Where.re, x3.Entry.Attrs))).bind fun (r6 : Bool) =>
      bif r6 then
        (idxL x2.Days (Go.IntKind.wrap Go.IntKind.i64 (x3.Died - ((1 : Int))))).bind fun (r7 : Int) =>
        (idxL x1 x4).bind fun (r8 : Law) =>
        bif decide ((Go.IntKind.wrap Go.IntKind.i64 (r7 + r8.Days)) ≥ x2.Day) then
          some (.inr false)
        else
          ref21_Free_L2 n x1 x2 x3 m (Go.IntKind.wrap Go.IntKind.i64 (x4 + ((1 : Int))))
      else
        ref21_Free_L2 n x1 x2 x3 m (Go.IntKind.wrap Go.IntKind.i64 (x4 + ((1 : Int))))
    else
      some (.inl (())) := by kernel_rfl
theorem ref21_Free_eq (n : Nat) (x1 : List Law) (x2 : Book) (x3 : Row) : ref21_Free n (x1, (x2, x3)) =
    (ref21_Free_L2 n x1 x2 x3 n ((0 : Int))).bind fun (r9 : PUnit ⊕ Bool) =>
    Sum.elim (fun (q10 : PUnit) =>
      some true)
     (fun (q11 : Bool) =>
      some q11) r9 := by kernel_rfl
noncomputable def ref21_Floor_L3 (n : Nat) (x1 : List Law) (x2 : Book) (m : Nat) (p : Int × Int) : Option (Int) :=
  loopF (R := R) 3 (wrC ((subO Tryz.f15.body [1, 1, 0, 1, 0, 0]).getD .skip)) (⟨[(0, Aq.TV.lst Aq.Cp.sh (Aq.Ty.st 9) x1), (3, Aq.TV.ref 3 0)], [(3, Aq.Ob.ro (Aq.Ob.cells [Aq.TV.int Go.IntKind.i64 x2.Schema.Dims, Aq.TV.int Go.IntKind.i64 x2.Schema.Metric, Aq.TV.lst Aq.Cp.sh (Aq.Ty.st 0) x2.Schema.Defs, Aq.TV.int Go.IntKind.i64 x2.Commit, Aq.TV.int Go.IntKind.i64 x2.Day, Aq.TV.lst Aq.Cp.sh (Aq.Ty.int Go.IntKind.i64) x2.Days, Aq.TV.lst Aq.Cp.sh (Aq.Ty.st 4) x2.Rows]))]⟩ : Aq.MS R.T) (getN ref21_Floor_a.loops 3).sh (getN ref21_Floor_a.loops 3).outs (fun st k => codeM E R n false (regs62 n) iters ref21_Floor_a ((subO Tryz.f15.body [1, 1, 0, 1, 0, 0]).getD .skip) st k) m p
attribute [irreducible] ref21_Floor_L3
theorem ref21_Floor_L3_s (n : Nat) (x1 : List Law) (x2 : Book) (m : Nat) (x3 : Int) (x4 : Int) : ref21_Floor_L3 n x1 x2 (m + 1) (x3, x4) =
    bif decide (x4 < (((x2.Rows.length : Nat) : Int))) then
      (idxL x2.Rows x4).bind fun (r5 : Row) =>
      (whenO (bif decide (r5.Died > ((0 : Int))) then decide (r5.Died ≤ x3) else false) (ref21_Free n ((x1, (x2, r5)))) false).bind fun (r6 : Bool) =>
      bif bif bif decide (r5.Died > ((0 : Int))) then decide (r5.Died ≤ x3) else false then !r6 else false then
        ref21_Floor_L3 n x1 x2 m ((Go.IntKind.wrap Go.IntKind.i64 (r5.Died - ((1 : Int))), Go.IntKind.wrap Go.IntKind.i64 (x4 + ((1 : Int)))))
      else
        ref21_Floor_L3 n x1 x2 m ((x3, Go.IntKind.wrap Go.IntKind.i64 (x4 + ((1 : Int)))))
    else
      some x3 := by kernel_rfl
theorem ref21_Floor_eq (n : Nat) (x1 : List Law) (x2 : Book) : ref21_Floor n (x1, x2) =
    (ref21_Floor_L3 n x1 x2 n ((x2.Commit, (0 : Int)))).bind fun (r7 : Int) =>
    some r7 := by kernel_rfl
theorem law21_RetainFloorsAsSpecified_eq (n : Nat) (x1 : Schema) (x2 : List Law) (x3 : List Event) : law21_RetainFloorsAsSpecified n (x1, (x2, x3)) =
    (law21_folded n ((x1, x3))).bind fun (r4 : Book × Bool) =>
    (whenO (!(!r4.2)) (ref21_Few n x2) false).bind fun (r5 : Bool) =>
    bif bif !r4.2 then true else !r5 then
      (law21_sanity n (())).bind fun (r6 : Bool) =>
      some r6
    else
      (retain_Check n ((x1, x2))).bind fun (r7 : Int) =>
      (ref21_Check n ((x1, x2))).bind fun (r8 : Int) =>
      bif r7 != r8 then
        some false
      else
        (law21_sanity n (())).bind fun (r9 : Bool) =>
        bif r9 then
          bif !(r7 != ((0 : Int))) then
            (retain_Floor n ((x2, r4.1))).bind fun (r10 : Int) =>
            (ref21_Floor n ((x2, r4.1))).bind fun (r11 : Int) =>
            some (r10 == r11)
          else
            some true
        else
          some false := by kernel_rfl
noncomputable def retain_latest_L3 (n : Nat) (x1 : List Row) (m : Nat) (p : Int × List (Int × Int)) : Option (PUnit × List (Int × Int)) :=
  loopF (R := R) 3 (wrC ((subO Tryz.f99.body [1, 1, 0, 1, 0, 0]).getD .skip)) (⟨[(3, Aq.TV.mapr 6), (7, Aq.TV.lst Aq.Cp.sh (Aq.Ty.st 4) x1), (8, Aq.TV.int Go.IntKind.i64 (((x1.length : Nat) : Int)))], []⟩ : Aq.MS R.T) (getN retain_latest_a.loops 3).sh (getN retain_latest_a.loops 3).outs (fun st k => codeM E R n false (regs64 n) iters retain_latest_a ((subO Tryz.f99.body [1, 1, 0, 1, 0, 0]).getD .skip) st k) m p
attribute [irreducible] retain_latest_L3
theorem retain_latest_L3_s (n : Nat) (x1 : List Row) (m : Nat) (x2 : Int) (x3 : List (Int × Int)) : retain_latest_L3 n x1 (m + 1) (x2, x3) =
    bif decide (x2 < (((x1.length : Nat) : Int))) then
      (idxL x1 x2).bind fun (r4 : Row) =>
      retain_latest_L3 n x1 m ((Go.IntKind.wrap Go.IntKind.i64 (x2 + ((1 : Int))), mset (beqD R (Aq.Ty.int Go.IntKind.i64)) r4.Entry.ID (imax (optGet ((0 : Int)) (mget (beqD R (Aq.Ty.int Go.IntKind.i64)) r4.Entry.ID x3)) r4.Entry.Ver) x3))
    else
      some (((), x3)) := by kernel_rfl
theorem retain_latest_eq (n : Nat) (x1 : List Row) : retain_latest n x1 =
    (retain_latest_L3 n x1 n (((0 : Int), []))).bind fun (r5 : PUnit × List (Int × Int)) =>
    some r5.2 := by kernel_rfl
theorem retain_forgets_eq (n : Nat) (x1 : Book) (x2 : Int) : retain_forgets n (x1, x2) =
    (retain_latest n x1.Rows).bind fun (r3 : List (Int × Int)) =>
    some (((), (x2, r3))) := by kernel_rfl
theorem retain_forgets_1_eq (n : Nat) (x1 : Row) (x2 : Int) (x3 : List (Int × Int)) : retain_forgets_1 n (x1, (x2, x3)) =
    some (bif bif decide (x1.Died ≥ ((1 : Int))) then decide (x1.Died ≤ x2) else false then decide (x1.Entry.Ver < (optGet ((0 : Int)) (mget (beqD R (Aq.Ty.int Go.IntKind.i64)) x1.Entry.ID x3))) else false) := by kernel_rfl
theorem retain_Forgets_eq (n : Nat) (x1 : Book) (x2 : Int) (x3 : Int) : retain_Forgets n (x1, (x2, x3)) =
    bif decide (x3 ≥ ((0 : Int))) then
      bif decide (x3 < (((x1.Rows.length : Nat) : Int))) then
        (retain_forgets n ((x1, x2))).bind fun (r4 : PUnit × Int × List (Int × Int)) =>
        (idxL x1.Rows x3).bind fun (r5 : Row) =>
        (retain_forgets_1 n ((r5, (r4.2.1, r4.2.2)))).bind fun (r6 : Bool) =>
        some r6
      else
        some false
    else
      some false := by kernel_rfl
noncomputable def law21_RetainObeysLaws_L13 (n : Nat) (x2 : List Event) (x3 : List Law) (r4 : Book × Bool) (r8 : Int) (x10 : Int) (r11 : Row) (m : Nat) (p : Bool × Int) : Option (Bool ⊕ Bool) :=
  loopF (R := R) 13 (wrC ((subO Tryz.f6.body [1, 1, 1, 1, 1, 1, 0, 1, 0, 0, 1, 0, 0, 1, 1, 0, 0]).getD .skip)) (⟨[(1, Aq.TV.lst Aq.Cp.sh (Aq.Ty.st 13) x2), (2, Aq.TV.lst Aq.Cp.sh (Aq.Ty.st 9) x3), (7, Aq.TV.ref 7 0), (9, Aq.TV.int Go.IntKind.i64 r8), (11, Aq.TV.int Go.IntKind.i64 x10), (12, Aq.TV.ref 12 0)], [(7, Aq.Ob.ro (Aq.Ob.ro (Aq.Ob.cells [Aq.TV.int Go.IntKind.i64 r4.1.Schema.Dims, Aq.TV.int Go.IntKind.i64 r4.1.Schema.Metric, Aq.TV.lst Aq.Cp.sh (Aq.Ty.st 0) r4.1.Schema.Defs, Aq.TV.int Go.IntKind.i64 r4.1.Commit, Aq.TV.int Go.IntKind.i64 r4.1.Day, Aq.TV.lst Aq.Cp.sh (Aq.Ty.int Go.IntKind.i64) r4.1.Days, Aq.TV.lst Aq.Cp.sh (Aq.Ty.st 4) r4.1.Rows]))), (12, Aq.Ob.ro (Aq.Ob.cells [Aq.TV.int Go.IntKind.i64 r11.Entry.ID, Aq.TV.int Go.IntKind.i64 r11.Entry.Ver, Aq.TV.int Go.IntKind.i64 r11.Entry.Owner, Aq.TV.int Go.IntKind.i64 r11.Entry.Filed, Aq.TV.int Go.IntKind.i64 r11.Entry.From, Aq.TV.int Go.IntKind.i64 r11.Entry.To, Aq.TV.int Go.IntKind.i64 r11.Entry.Born, Aq.TV.lst Aq.Cp.sh (Aq.Ty.int Go.IntKind.i64) r11.Entry.Vec, Aq.TV.lst Aq.Cp.sh (Aq.Ty.st 2) r11.Entry.Attrs, Aq.TV.int Go.IntKind.i64 r11.Died]))]⟩ : Aq.MS R.T) (getN law21_RetainObeysLaws_a.loops 13).sh (getN law21_RetainObeysLaws_a.loops 13).outs (fun st k => codeM E R n false (regs68 n) iters law21_RetainObeysLaws_a ((subO Tryz.f6.body [1, 1, 1, 1, 1, 1, 0, 1, 0, 0, 1, 0, 0, 1, 1, 0, 0]).getD .skip) st k) m p
attribute [irreducible] law21_RetainObeysLaws_L13
noncomputable def law21_RetainObeysLaws_L9 (n : Nat) (x2 : List Event) (x3 : List Law) (r4 : Book × Bool) (r8 : Int) (m : Nat) (p : Bool × Int) : Option (Bool ⊕ Bool) :=
  loopF (R := R) 9 (wrC ((subO Tryz.f6.body [1, 1, 1, 1, 1, 1, 0, 1, 0, 0]).getD .skip)) (⟨[(1, Aq.TV.lst Aq.Cp.sh (Aq.Ty.st 13) x2), (2, Aq.TV.lst Aq.Cp.sh (Aq.Ty.st 9) x3), (7, Aq.TV.ref 7 0), (9, Aq.TV.int Go.IntKind.i64 r8)], [(7, Aq.Ob.ro (Aq.Ob.cells [Aq.TV.int Go.IntKind.i64 r4.1.Schema.Dims, Aq.TV.int Go.IntKind.i64 r4.1.Schema.Metric, Aq.TV.lst Aq.Cp.sh (Aq.Ty.st 0) r4.1.Schema.Defs, Aq.TV.int Go.IntKind.i64 r4.1.Commit, Aq.TV.int Go.IntKind.i64 r4.1.Day, Aq.TV.lst Aq.Cp.sh (Aq.Ty.int Go.IntKind.i64) r4.1.Days, Aq.TV.lst Aq.Cp.sh (Aq.Ty.st 4) r4.1.Rows]))]⟩ : Aq.MS R.T) (getN law21_RetainObeysLaws_a.loops 9).sh (getN law21_RetainObeysLaws_a.loops 9).outs (fun st k => codeM E R n false (regs68 n) iters law21_RetainObeysLaws_a ((subO Tryz.f6.body [1, 1, 1, 1, 1, 1, 0, 1, 0, 0]).getD .skip) st k) m p
attribute [irreducible] law21_RetainObeysLaws_L9
theorem law21_RetainObeysLaws_L13_s (n : Nat) (x2 : List Event) (x3 : List Law) (r4 : Book × Bool) (r8 : Int) (x10 : Int) (r11 : Row) (m : Nat) (x12 : Bool) (x13 : Int) : law21_RetainObeysLaws_L13 n x2 x3 r4 r8 x10 r11 (m + 1) (x12, x13) =
    bif decide (x13 < (((x3.length : Nat) : Int))) then
      (idxL x3 x13).bind fun (r14 : Law) =>
      (filter_Holds n ((r14.Where.re, r11.Entry.Attrs))).bind fun (r15 : Bool) =>
      bif r15 then
        bif decide (r11.Died > ((0 : Int))) then
          (idxL x2 (Go.IntKind.wrap Go.IntKind.i64 (r11.Died - ((1 : Int))))).bind fun (r16 : Event) =>
          (idxL x3 x13).bind fun (r17 : Law) =>
          (whenO (decide ((Go.IntKind.wrap Go.IntKind.i64 (r16.Day + r17.Days)) ≥ r4.1.Day)) (retain_Forgets n ((r4.1, (r8, x10)))) false).bind fun (r18 : Bool) =>
          bif bif decide ((Go.IntKind.wrap Go.IntKind.i64 (r16.Day + r17.Days)) ≥ r4.1.Day) then r18 else false then
            some (.inr false)
          else
            law21_RetainObeysLaws_L13 n x2 x3 r4 r8 x10 r11 m ((bif x12 then true else bif decide ((Go.IntKind.wrap Go.IntKind.i64 (r16.Day + r17.Days)) ≥ r4.1.Day) then r11.Died == (Go.IntKind.wrap Go.IntKind.i64 (r8 + ((1 : Int)))) else false, Go.IntKind.wrap Go.IntKind.i64 (x13 + ((1 : Int)))))
        else
          law21_RetainObeysLaws_L13 n x2 x3 r4 r8 x10 r11 m ((bif x12 then true else false, Go.IntKind.wrap Go.IntKind.i64 (x13 + ((1 : Int)))))
      else
        law21_RetainObeysLaws_L13 n x2 x3 r4 r8 x10 r11 m ((bif x12 then true else false, Go.IntKind.wrap Go.IntKind.i64 (x13 + ((1 : Int)))))
    else
      some (.inl x12) := by kernel_rfl
theorem law21_RetainObeysLaws_L9_s (n : Nat) (x2 : List Event) (x3 : List Law) (r4 : Book × Bool) (r8 : Int) (m : Nat) (x9 : Bool) (x10 : Int) : law21_RetainObeysLaws_L9 n x2 x3 r4 r8 (m + 1) (x9, x10) =
    bif decide (x10 < (((r4.1.Rows.length : Nat) : Int))) then
      (idxL r4.1.Rows x10).bind fun (r11 : Row) =>
      (law21_RetainObeysLaws_L13 n x2 x3 r4 r8 x10 r11 n ((x9, (0 : Int)))).bind fun (r19 : Bool ⊕ Bool) =>
      Sum.elim (fun (q20 : Bool) =>
        law21_RetainObeysLaws_L9 n x2 x3 r4 r8 m ((q20, Go.IntKind.wrap Go.IntKind.i64 (x10 + ((1 : Int))))))
       (fun (q21 : Bool) =>
        some (.inr q21)) r19
    else
      some (.inl x9) := by kernel_rfl
theorem law21_RetainObeysLaws_eq (n : Nat) (x1 : Schema) (x2 : List Event) (x3 : List Law) : law21_RetainObeysLaws n (x1, (x2, x3)) =
    (law21_folded n ((x1, x2))).bind fun (r4 : Book × Bool) =>
    (whenO (!(!r4.2)) (ref21_Few n x3) false).bind fun (r5 : Bool) =>
    (whenO (!(bif !r4.2 then true else !r5)) (ref21_Check n ((x1, x3))) ((0 : Int))).bind fun (r6 : Int) =>
    bif bif bif !r4.2 then true else !r5 then true else r6 != ((0 : Int)) then
      (law21_sanity n (())).bind fun (r7 : Bool) =>
      some r7
    else
      (retain_Floor n ((x3, r4.1))).bind fun (r8 : Int) =>
      bif bif decide (r8 < ((0 : Int))) then true else decide (r8 > r4.1.Commit) then
        some false
      else
        (law21_RetainObeysLaws_L9 n x2 x3 r4 r8 n ((r8 == r4.1.Commit, (0 : Int)))).bind fun (r22 : Bool ⊕ Bool) =>
        Sum.elim (fun (q23 : Bool) =>
          (law21_sanity n (())).bind fun (r25 : Bool) =>
          some (bif r25 then q23 else false))
         (fun (q24 : Bool) =>
          some q24) r22 := by kernel_rfl
end Sh
