/- Part of the proof of a law. -/
import Derived.KernelRfl
import Derived.Test.YteniejlbjfigdaaGreatDoorV14
import Derived.Test.YteniejlbjfigdaaGreatDoorV24
set_option linter.all false
set_option linter.unusedSimpArgs false
set_option linter.unusedSectionVars false
open Go Go.Proofs Aq
namespace Sh
set_option maxRecDepth 100000
theorem aub:kL E where
 name:=fun f fn h hn=>by
  have h1:=List.all_eq_true.1 ahO fn (by
   have:Tryz.prog.funcs[f]? =some fn:=h
   rw[Array.getElem?_eq_some_iff] at this
   obtain⟨hlt,he⟩:=this
   rw[←he];exact Array.getElem_mem_toList hlt)
  rw[hn] at h1
  simp at h1
 kX:=fun f g h args v hv=>by
  have h':(bif Nat.beq f 11 then some adJ else none)=some g:=h
  cases h1:Nat.beq f 11
  ·rw[h1] at h';cases h'
  ·rw[h1] at h'
   cases h'
   have:=Nat.eq_of_beq_eq_true h1
   subst this
   cases args with
   |nil=>cases hv;exact aua.env rfl fun _ _ h=>h
   |cons a l=>cases hv
 mixed:=ahP
 flat:=fun g cs h=>by
  have h':(bif Nat.beq g 1 then some pz else bif Nat.beq g 0 then some pz else none)=some cs:=h
  cases hg:Nat.beq g 1
  ·rw[hg] at h'
   cases hg0:Nat.beq g 0
   ·rw[hg0] at h';cases h'
   ·rw[hg0] at h';cases h';exact Sq
  ·rw[hg] at h';cases h';exact Sq
end Sh
