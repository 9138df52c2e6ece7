/- Part of the proof of a law: ShSS. -/
import Derived.Test.YteniejlbjfigdaaGreatDoorW22
import Derived.Test.YteniejlbjfigdaaGreatDoorW23
import Derived.Test.YteniejlbjfigdaaGreatDoorW25
set_option linter.all false
set_option linter.unusedSimpArgs false
set_option linter.unusedSectionVars false
open Go Go.Proofs Aq
namespace Aq
theorem PureOK.env {E E' : Env} (hP : E'.P = E.P) (hg : ∀ g cs, E.glob g = some cs → E'.glob g = some cs) {f : FuncId} {args : List V} {v : V} (h : PureOK E f args v) : PureOK E' f args v := by
  obtain ⟨⟨fn, c, hb⟩, h⟩ := h
  refine ⟨⟨fn, c, by rw [hP]; exact hb⟩, fun I IM w cargs hl hr => ?_⟩
  rw [hP]
  refine h I IM w cargs ?_ hr
  obtain ⟨h1, h2, h3⟩ := hl
  exact ⟨h1, h2, fun g cs hgc => h3 g cs (hg g cs hgc)⟩
mutual
def veq : V → V → Bool
  | .int k n, .int k' n' => if k = k' then if n = n' then true else false else false
  | .str s, .str t => if s = t then true else false
  | .agg l, .agg m => veqL l m
  | .lst .sh l, .lst .sh m => veqL l m
  | _, _ => false
def veqL : List V → List V → Bool
  | [], [] => true
  | x :: l, y :: m => match veq x y with
    | true => veqL l m
    | false => false
  | _, _ => false
end
mutual
theorem veq_eq : ∀ (x y : V), veq x y = true → x = y := by
  intro x y h
  unfold veq at h
  split at h
  · split at h
    · split at h
      · simp_all
      · cases h
    · cases h
  · split at h
    · simp_all
    · cases h
  · rw [veqL_eq _ _ h]
  · rw [veqL_eq _ _ h]
  · cases h
theorem veqL_eq : ∀ (l m : List V), veqL l m = true → l = m := by
  intro l m h
  unfold veqL at h
  split at h
  · rfl
  · split at h
    · rename_i h1
      rw [veq_eq _ _ h1, veqL_eq _ _ h]
    · cases h
  · cases h
end
end Aq
namespace Sh
set_option maxRecDepth 100000
def tabS (f : FuncId) : Option (List V → Option V) :=
  bif Nat.beq f 102 then some fun args => match veqL args ofA with
    | true => some dgA
    | false => match veqL args ofB with
      | true => some dgB
      | false => none
  else bif Nat.beq f 70 then some fun args => match veqL args ciA with
    | true => some (.bool true)
    | false => none
  else none
theorem names_okS : (Tryz.prog.funcs.toList.all fun fn => fn.name != "runtime.NumGoroutine") = true := by kernel_rfl
theorem mixedS : Tryz.prog.follows .mixedOrders = true := by kernel_rfl
theorem hashK_flat : pcleanL hashK = true := by kernel_rfl
theorem envOKS (summ : FuncId → Option (List V → Option V)) (hs : ∀ f g, summ f = some g → ∀ args v, g args = some v → PureOK (ES summ) f args v) : EnvOK (ES summ) where
  name := fun f fn h hn => by
    have h1 := List.all_eq_true.1 names_okS fn (by
      have : Tryz.prog.funcs[f]? = some fn := h
      rw [Array.getElem?_eq_some_iff] at this
      obtain ⟨hlt, he⟩ := this
      rw [← he]; exact Array.getElem_mem_toList hlt)
    rw [hn] at h1
    simp at h1
  summ := hs
  mixed := mixedS
  flat := fun g cs h => by
    have h' : (bif Nat.beq g 1 then some hashK else none) = some cs := h
    cases hg : Nat.beq g 1
    · rw [hg] at h'; cases h'
    · rw [hg] at h'; cases h'; exact hashK_flat
theorem envOK0 : EnvOK (ES fun _ => none) := envOKS _ fun _ _ h => by cases h
theorem okA : PureOK (ES fun _ => none) 102 ofA dgA := pure_sound envOK0 of_A
theorem okB : PureOK (ES fun _ => none) 102 ofB dgB := pure_sound envOK0 of_B
theorem okC : PureOK (ES fun _ => none) 70 ciA (.bool true) := pureDL_sound envOK0 ci_ok
theorem envOK1 : EnvOK (ES tabS) := envOKS _ fun f g h args v hv => by
  unfold tabS at h
  cases h1 : Nat.beq f 102
  · rw [h1] at h
    cases h2 : Nat.beq f 70
    · rw [h2] at h; cases h
    · rw [h2] at h
      cases h
      have := Nat.eq_of_beq_eq_true h2
      subst this
      dsimp only at hv
      split at hv
      · rename_i he
        cases hv
        rw [veqL_eq _ _ he]
        exact okC.env rfl fun _ _ h => h
      · cases hv
  · rw [h1] at h
    cases h
    have := Nat.eq_of_beq_eq_true h1
    subst this
    dsimp only at hv
    split at hv
    · rename_i he
      cases hv
      rw [veqL_eq _ _ he]
      exact okA.env rfl fun _ _ h => h
    · split at hv
      · rename_i he
        cases hv
        rw [veqL_eq _ _ he]
        exact okB.env rfl fun _ _ h => h
      · cases hv
theorem sanity_run : callPure (ES tabS) (evl (ES tabS) 900) 11 [] = some (.bool true) := by kernel_rfl
theorem sanity_ok : PureOK (ES tabS) 11 [] (.bool true) := pure_sound envOK1 sanity_run
end Sh
