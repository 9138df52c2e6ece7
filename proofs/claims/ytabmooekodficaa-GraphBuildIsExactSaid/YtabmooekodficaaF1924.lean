/- The law GraphBuildIsExact holds for every input. -/
import Derived.Test.YtabmooekodficaaF1918
import Derived.Test.YtabmooekodficaaF1923
set_option linter.all false
set_option linter.unusedSimpArgs false
set_option linter.unusedSectionVars false
namespace Go.Proofs.Ytabmooekodficaa.exacts
open Go Go.ChangeShapes Go.WideShapes Go.ChangeAt Go.RowKit Aq Sh graphs
set_option maxRecDepth 100000
theorem law (p:PayL R.T ([.int .i64,.slice (.slice (.int .i64)),.int .u8].map Sk.d)) (hr:rngL R [.int .i64,.slice (.slice (.int .i64)),.int .u8] p):PureOK Sh.E 4 (encSL R ([.int .i64,.slice (.slice (.int .i64)),.int .u8].map Sk.d) p) (.bool true):=by
 obtain⟨m,l,want⟩:=p
 obtain⟨_,_,r3⟩:=hr
 have q3:(0:Int)≤(show Int from want)∧(show Int from want)≤(255:Int):=r3
 exact(law27_GraphBuildIsExact_ok (2^34+1) (m,(l,want)) true (PE (n:=2^34+1) (by decide) m l want q3)).ok envOK
theorem contract (H:Type) (enc:TypeId×Value→H) (W:World) (base:Nat) (args:Array Value) (ds gs:List (DataW H)) (before:List MemPlace)
 (hval:∀(j:Nat) t v,Try.f4.params[j]? =some t→args[j]? =some v→Value.okWide Try.prog W .any base t v)
 (hW:DataW.Whole enc Try.prog Try.f4.params.toList Rows.graphBuildIsExactSpec.vars false W args.toList ds gs before):
 Calls Try.prog 4 args W fun e W'=> ∃v,e= .returned v∧Rows.graphBuildIsExactSpec.post enc Try.prog Try.f4 false true false false W args v W':=by
 have hlen:ds.length=3:=by
  obtain⟨p,q,hA,_⟩:=hW
  have:=(Go.trodAll_length hA).2
  rw[Try.params4] at this
  exact this
 refine law_contract2 (E:=Sh.E) (R:=R) (bulkOK H) rOK hty kids (fun ht hu=>slices_full_of Try.prog full _ _ ht hu) (l:=[.int .i64,.slice (.slice (.int .i64)),.int .u8]) (tb:=4) ?_ ?_ rfl ?_ ?_ u4 hval hW glob_ok (fun p hp hr=>law p hr)
 ·rw[Try.params4];rfl
 ·rw[Try.params4]
  intro t ht
  have hs:(22:Nat)<Try.prog.types.size:=of_decide_eq_true (by kernel_rfl)
  simp only[List.mem_cons,List.not_mem_nil,or_false] at ht
  show t<Try.prog.types.size
  rcases ht with rfl|rfl|rfl
  ·exact Nat.lt_trans (by decide) hs
  ·exact hs
  ·exact Nat.lt_trans (by decide) hs
 ·match ds,hlen with
  | [d1,d2,d3],_=>rfl
 ·kernel_rfl
theorem lifted (os:Os) (started:os.Started) (H:Type) (enc:TypeId×Value→H):
 ReturnsInHanded {} Try.checked os 4 .any (Rows.graphBuildIsExactSpec.pre6 enc Try.prog Try.f4 Rows.graphBuildIsExactRow.domain false) (Rows.graphBuildIsExactSpec.post enc Try.prog Try.f4 false true false false):=by
 refine returnsInHanded_of_change (C:=Try.checked) own started (by kernel_rfl) Try.func4
  (ChangeSpec.witness6 (enc:=enc) (C:=Try.checked) false ⟨#[], #[.int .i64 0,.slice none 0 0,.int .u8 0],[]⟩ 8 (by kernel_rfl) (by kernel_rfl) (by kernel_rfl) (by kernel_rfl)) ?_
 intro W base args ds gs before hval hW _ _
 exact contract H enc W base args ds gs before hval hW
theorem said:Rows.GraphBuildIsExactSaid:=
 OpenClaim.holds_of_wide 4 Try.f4 rfl rfl rfl rfl rfl rfl rfl ⟨rfl,rfl,rfl,rfl,rfl⟩ rfl rfl rfl rfl rfl (by kernel_rfl) Try.func4 (by kernel_rfl)
  (of_decide_eq_true (by kernel_rfl)) (by unfold Func.isWrapper;first| (rw[if_pos (by decide+kernel)];kernel_rfl)| (rw[if_neg (by decide+kernel)];exact⟨rfl,rfl⟩))
  (fun os started H enc _=>lifted os started H enc)
end Go.Proofs.Ytabmooekodficaa.exacts
