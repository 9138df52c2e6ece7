/- Part of the proof of a law. -/
import Derived.KernelRfl
import Derived.Test.YteniejlbjfigdaaGreatDoorX14
import Derived.Test.YteniejlbjfigdaaGreatDoorX24
set_option linter.all false
set_option linter.unusedSimpArgs false
set_option linter.unusedSectionVars false
open Go Go.Proofs Aq
namespace Sh
set_option maxRecDepth 100000
theorem anK:jU E where
 name:=fun f fn h hn=>by
  have h1:=List.all_eq_true.1 acK fn (by
   have:Tryz.prog.funcs[f]? =some fn:=h
   rw[Array.getElem?_eq_some_iff] at this
   obtain⟨hlt,he⟩:=this
   rw[←he];exact Array.getElem_mem_toList hlt)
  rw[hn] at h1
  simp at h1
 kJ:=fun f g h args v hv=>by
  have h':(bif Nat.beq f 11 then some YV else none)=some g:=h
  cases h1:Nat.beq f 11
  ·rw[h1] at h';cases h'
  ·rw[h1] at h'
   cases h'
   have:=Nat.eq_of_beq_eq_true h1
   subst this
   cases args with
   |nil=>cases hv;exact anJ.env rfl fun _ _ h=>h
   |cons a l=>cases hv
 mixed:=acL
 flat:=fun g cs h=>by
  have h':(bif Nat.beq g 1 then some uG else none)=some cs:=h
  cases hg:Nat.beq g 1
  ·rw[hg] at h';cases h'
  ·rw[hg] at h';cases h';exact acM
end Sh
