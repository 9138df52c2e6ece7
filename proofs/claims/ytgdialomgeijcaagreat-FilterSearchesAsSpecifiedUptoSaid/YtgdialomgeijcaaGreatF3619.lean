import Derived.Test.YtgdialomgeijcaaGreatF3618
set_option linter.all false
open Go Go.Proofs Aq
namespace Sh
set_option maxRecDepth 100000
theorem al5:TU E where
 name:=es0.name
 mixed:=es0.mixed
 flat:=fun g cs h=>by cases h
 Wi:=fun f g h args v hv=>by
  have h:(bif Nat.beq f 11 then some al1 else bif Nat.beq f 42 then some acB else bif Nat.beq f 58 then some firstT else none)=some g:=h;cases h1:Nat.beq f 11
  .rw[h1,cond_false] at h;cases h2:Nat.beq f 42
   .rw[h2,cond_false] at h;cases h3:Nat.beq f 58
    .rw[h3] at h;cases h
    .rw[h3,cond_true] at h;cases h;have:=QI h3;subst this;exact aqj hv
   .rw[h2,cond_true] at h;cases h;have:=QI h2;subst this;exact agI rfl hv
  .rw[h1,cond_true] at h;cases h;have:=QI h1;subst this;cases args with
   |nil=>cases hv;exact aqg|cons a l=>cases hv
end Sh
