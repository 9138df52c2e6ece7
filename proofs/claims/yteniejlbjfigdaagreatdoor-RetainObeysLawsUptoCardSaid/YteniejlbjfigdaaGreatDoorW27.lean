/- Part of the proof of a law: ShK. -/
import Derived.KernelRfl
import Derived.Test.YteniejlbjfigdaaGreatDoorW15
import Derived.Test.YteniejlbjfigdaaGreatDoorW26
set_option linter.all false
set_option linter.unusedSimpArgs false
set_option linter.unusedSectionVars false
open Go Go.Proofs Aq
namespace Sh
set_option maxRecDepth 100000
theorem envOK : EnvOK E where
  name := fun f fn h hn => by
    have h1 := List.all_eq_true.1 names_okS fn (by
      have : Tryz.prog.funcs[f]? = some fn := h
      rw [Array.getElem?_eq_some_iff] at this
      obtain ⟨hlt, he⟩ := this
      rw [← he]; exact Array.getElem_mem_toList hlt)
    rw [hn] at h1
    simp at h1
  summ := fun f g h args v hv => by
    have h' : (bif Nat.beq f 11 then some sanT else none) = some g := h
    cases h1 : Nat.beq f 11
    · rw [h1] at h'; cases h'
    · rw [h1] at h'
      cases h'
      have := Nat.eq_of_beq_eq_true h1
      subst this
      cases args with
      | nil => cases hv; exact sanity_ok.env rfl fun _ _ h => h
      | cons a l => cases hv
  mixed := mixedS
  flat := fun g cs h => by
    have h' : (bif Nat.beq g 1 then some hashK else none) = some cs := h
    cases hg : Nat.beq g 1
    · rw [hg] at h'; cases h'
    · rw [hg] at h'; cases h'; exact hashK_flat
end Sh
