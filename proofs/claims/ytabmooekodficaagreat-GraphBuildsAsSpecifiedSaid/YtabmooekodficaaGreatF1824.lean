/- The law GraphBuildsAsSpecified holds for every input. -/
import Derived.Test.YtabmooekodficaaGreatF1818
import Derived.Test.YtabmooekodficaaGreatF1823
set_option linter.all false
set_option linter.unusedSimpArgs false
set_option linter.unusedSectionVars false
namespace Go.Proofs.YtabmooekodficaaGreat.builds
open Go Go.ChangeShapes Go.WideShapes Go.ChangeAt Go.RowKit Aq Sh graphs
set_option maxRecDepth 100000
theorem law (p:PayL R.T ([.int .i64,.slice (.slice (.int .i64)),.int .i64,.int .i64,.st 1].map Sk.d)):PureOK Sh.E 4 (encSL R ([.int .i64,.slice (.slice (.int .i64)),.int .i64,.int .i64,.st 1].map Sk.d) p) (.bool true):=by
 obtain⟨m,l,want,k,g⟩:=p
 exact(law27_GraphBuildsAsSpecified_ok 401 (m,(l,(want,(k,g)))) true (law18 (n:=401) (by decide) m l want k g)).ok envOK
theorem contract (H:Type) (enc:TypeId×Value→H) (W:World) (base:Nat) (args:Array Value) (ds gs:List (DataW H)) (before:List MemPlace)
 (hval:∀(j:Nat) t v,Tryz.f4.params[j]? =some t→args[j]? =some v→Value.okWide Tryz.prog W .any base t v)
 (hW:DataW.Whole enc Tryz.prog Tryz.f4.params.toList Rows.graphBuildsAsSpecifiedSpec.vars false W args.toList ds gs before):
 Calls Tryz.prog 4 args W fun e W'=> ∃v,e= .returned v∧Rows.graphBuildsAsSpecifiedSpec.post enc Tryz.prog Tryz.f4 false true false false W args v W':=by
 have hlen:ds.length=5:=by
  obtain⟨p,q,hA,_⟩:=hW
  have:=(Go.trodAll_length hA).2
  rw[Tryz.params4] at this
  exact this
 refine law_contract2 (E:=Sh.E) (R:=R) (bulkOK H) rOK hty kids (fun ht hu=>slices_full_of Tryz.prog full _ _ ht hu) (l:=[.int .i64,.slice (.slice (.int .i64)),.int .i64,.int .i64,.st 1]) (tb:=4) ?_ ?_ rfl ?_ ?_ u4 hval hW glob_ok (fun p hp hr=>law p)
 ·rw[Tryz.params4];rfl
 ·rw[Tryz.params4]
  intro t ht
  have hs:(25:Nat)<Tryz.prog.types.size:=of_decide_eq_true (by kernel_rfl)
  simp only[List.mem_cons,List.not_mem_nil,or_false] at ht
  show t<Tryz.prog.types.size
  rcases ht with rfl|rfl|rfl|rfl|rfl
  ·exact Nat.lt_trans (by decide) hs
  ·exact Nat.lt_trans (by decide) hs
  ·exact Nat.lt_trans (by decide) hs
  ·exact Nat.lt_trans (by decide) hs
  ·exact hs
 ·match ds,hlen with
  | [d1,d2,d3,d4,d5],_=>rfl
 ·kernel_rfl
theorem lifted (os:Os) (started:os.Started) (H:Type) (enc:TypeId×Value→H):
 ReturnsInHanded {} Tryz.checked os 4 .any (Rows.graphBuildsAsSpecifiedSpec.pre6 enc Tryz.prog Tryz.f4 Rows.graphBuildsAsSpecifiedRow.domain false) (Rows.graphBuildsAsSpecifiedSpec.post enc Tryz.prog Tryz.f4 false true false false):=by
 refine returnsInHanded_of_change (C:=Tryz.checked) own started (by kernel_rfl) Tryz.func4
  (ChangeSpec.witness6 (enc:=enc) (C:=Tryz.checked) false ⟨#[], #[.int .i64 0,.slice none 0 0,.int .i64 0,.int .i64 0,.agg #[.slice none 0 0]],[]⟩ 8 (by kernel_rfl) (by kernel_rfl) (by kernel_rfl) (by kernel_rfl)) ?_
 intro W base args ds gs before hval hW _ _
 exact contract H enc W base args ds gs before hval hW
theorem said:Rows.GraphBuildsAsSpecifiedSaid:=
 OpenClaim.holds_of_wide 4 Tryz.f4 rfl rfl rfl rfl rfl rfl rfl ⟨rfl,rfl,rfl,rfl,rfl⟩ rfl rfl rfl rfl rfl (by kernel_rfl) Tryz.func4 (by kernel_rfl)
  (of_decide_eq_true (by kernel_rfl)) (by unfold Func.isWrapper;first| (rw[if_pos (by decide+kernel)];kernel_rfl)| (rw[if_neg (by decide+kernel)];exact⟨rfl,rfl⟩))
  (fun os started H enc _=>lifted os started H enc)
end Go.Proofs.YtabmooekodficaaGreat.builds
