/- Part of the proof of a law. -/
import Derived.KernelRfl
import Derived.Test.YtgdialomgeijcaaGreatF3419
set_option linter.all false
set_option linter.unusedSimpArgs false
set_option linter.unusedSectionVars false
open Go Go.Proofs Aq
namespace Sh
set_option maxRecDepth 100000
theorem aeH:fT E where
 name:=es0.name
 mixed:=es0.mixed
 flat:=fun g cs h=>by cases h
 mY:=fun f g h args v hv=>by
  have h:(bif Nat.beq f 11 then some UN else bif Nat.beq f 42 then some AL else none)=some g:=h
  cases h1:Nat.beq f 11
  ·rw[h1,cond_false] at h
   cases h2:Nat.beq f 42
   ·rw[h2] at h;cases h
   ·rw[h2,cond_true] at h
    cases h
    have:=Nat.eq_of_beq_eq_true h2
    subst this
    exact MC rfl hv
  ·rw[h1,cond_true] at h
   cases h
   have:=Nat.eq_of_beq_eq_true h1
   subst this
   cases args with
   |nil=>cases hv;exact aey
   |cons a l=>cases hv
end Sh
