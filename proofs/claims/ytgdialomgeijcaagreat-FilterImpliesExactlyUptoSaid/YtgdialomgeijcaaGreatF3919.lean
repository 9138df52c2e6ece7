import Derived.Test.YtgdialomgeijcaaGreatF3918
set_option linter.all false
open Go Go.Proofs Aq
namespace Sh
set_option maxRecDepth 100000
theorem alM:TR E where
 name:=es0.name
 mixed:=es0.mixed
 flat:=fun g cs h=>by cases h
 Wp:=fun f g h args v hv=>by
  have h:(bif Nat.beq f 11 then some alI else bif Nat.beq f 42 then some acv else bif Nat.beq f 58 then some firstT else none)=some g:=h;cases h1:Nat.beq f 11
  .rw[h1,cond_false] at h;cases h2:Nat.beq f 42
   .rw[h2,cond_false] at h;cases h3:Nat.beq f 58
    .rw[h3] at h;cases h
    .rw[h3,cond_true] at h;cases h;have:=QJ h3;subst this;exact ap0 hv
   .rw[h2,cond_true] at h;cases h;have:=QJ h2;subst this;exact agz rfl hv
  .rw[h1,cond_true] at h;cases h;have:=QJ h1;subst this;cases args with
   |nil=>cases hv;exact apX|cons a l=>cases hv
end Sh
