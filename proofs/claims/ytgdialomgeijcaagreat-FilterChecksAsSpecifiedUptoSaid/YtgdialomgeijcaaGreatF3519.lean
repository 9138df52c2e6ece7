import Derived.Test.YtgdialomgeijcaaGreatF3518
set_option linter.all false
open Go Go.Proofs Aq
namespace Sh
set_option maxRecDepth 100000
theorem envOK:EnvOK E where
 name:=es0.name
 mixed:=es0.mixed
 flat:=fun g cs h=>by cases h
 summ:=fun f g h args v hv=>by
  have h:(bif Nat.beq f 11 then some sanT else bif Nat.beq f 42 then some strT else none)=some g:=h
  cases h1:Nat.beq f 11
  .rw[h1,cond_false] at h
   cases h2:Nat.beq f 42
   .rw[h2] at h;cases h
   .rw[h2,cond_true] at h
    cases h
    have:=Q6 h2
    subst this
    exact str_pureOK rfl hv
  .rw[h1,cond_true] at h
   cases h
   have:=Q6 h1
   subst this
   cases args with
   |nil=>cases hv;exact san_pure
   |cons a l=>cases hv
end Sh
