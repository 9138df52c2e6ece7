/- The law GraphWalksAsSpecified holds for every input. -/
import Derived.Test.YtabmooekodficaaGreatF1324
set_option linter.all false
namespace Go.Proofs.YtabmooekodficaaGreat.walks
open Go Go.ChangeShapes Go.WideShapes Go.ChangeAt Go.RowKit Aq Sh graphs
set_option maxRecDepth 100000
theorem law (p:PayL R.T ([.int .i64,.slice (.slice (.int .i64)),.st 1,.slice (.int .i64),.int .i64,.int .i64,.int .i64].map Sk.d)):PureOK Sh.E 3 (encSL R ([.int .i64,.slice (.slice (.int .i64)),.st 1,.slice (.int .i64),.int .i64,.int .i64,.int .i64].map Sk.d) p) (.bool true):=by
 obtain⟨m,l,g,v,c,t,k⟩:=p
 exact(XG_ok (2^34+1) (m,(l,(g,(v,(c,(t,k)))))) true (Rq (n:=2^34+1) (by decide) m l g v c t k)).ok envOK
theorem contract (H:Type) (enc:TypeId×Value->H) (W:World) (base:Nat) (args:Array Value) (ds gs:List (DataW H)) (before:List MemPlace)
 (hval:∀(j:Nat) t v,Tryz.f3.params[j]? =some t->args[j]? =some v->Value.okWide Tryz.prog W .any base t v)
 (hW:DataW.Whole enc Tryz.prog Tryz.f3.params.toList Rows.graphWalksAsSpecifiedSpec.vars false W args.toList ds gs before):
 Calls Tryz.prog 3 args W fun e W'=>∃v,e= .returned v/\Rows.graphWalksAsSpecifiedSpec.post enc Tryz.prog Tryz.f3 false true false false W args v W':=by
 have hlen:ds.length=7:=by
  obtain⟨p,q,hA,_⟩:=hW
  have:=(Go.trodAll_length hA).2
  rw[Tryz.params3] at this
  exact this
 refine law_contract2 (E:=Sh.E) (R:=R) (bulkOK H) rOK hty kids (fun ht hu=>slices_full_of Tryz.prog full _ _ ht hu) (l:=[.int .i64,.slice (.slice (.int .i64)),.st 1,.slice (.int .i64),.int .i64,.int .i64,.int .i64]) (tb:=4) ?_ ?_ rfl ?_ ?_ u4 hval hW glob_ok (fun p hp hr=>law p)
 ·rw[Tryz.params3];rfl
 ·rw[Tryz.params3]
  intro t ht
  have hs:(26:Nat)<Tryz.prog.types.size:=of_decide_eq_true (by kernel_rfl)
  simp only[Si,List.not_mem_nil,or_false] at ht
  show t<Tryz.prog.types.size
  rcases ht with rfl|rfl|rfl|rfl|rfl|rfl|rfl
  ·exact Nat.lt_trans (by decide) hs
  ·exact Nat.lt_trans (by decide) hs
  ·exact Nat.lt_trans (by decide) hs
  ·exact hs
  ·exact Nat.lt_trans (by decide) hs
  ·exact Nat.lt_trans (by decide) hs
  ·exact Nat.lt_trans (by decide) hs
 ·match ds,hlen with
  | [d1,d2,d3,d4,d5,d6,d7],_=>rfl
 ·kernel_rfl
theorem lifted (os:Os) (started:os.Started) (H:Type) (enc:TypeId×Value->H):
 ReturnsInHanded {} Tryz.checked os 3 .any (Rows.graphWalksAsSpecifiedSpec.pre6 enc Tryz.prog Tryz.f3 Rows.graphWalksAsSpecifiedRow.domain false) (Rows.graphWalksAsSpecifiedSpec.post enc Tryz.prog Tryz.f3 false true false false):=by
 refine returnsInHanded_of_change (C:=Tryz.checked) own started (by kernel_rfl) Tryz.func3
  (ChangeSpec.witness6 (enc:=enc) (C:=Tryz.checked) false ⟨#[], #[.int .i64 0,.slice none 0 0,.agg #[.slice none 0 0],.slice none 0 0,.int .i64 0,.int .i64 0,.int .i64 0],[]⟩ 8 (by kernel_rfl) (by kernel_rfl) (by kernel_rfl) (by kernel_rfl)) ?_
 intro W base args ds gs before hval hW _ _
 exact contract H enc W base args ds gs before hval hW
theorem said:Rows.GraphWalksAsSpecifiedSaid:=
 OpenClaim.holds_of_wide 3 Tryz.f3 rfl rfl rfl rfl rfl rfl rfl ⟨rfl,rfl,rfl,rfl,rfl⟩ rfl rfl rfl rfl rfl (by kernel_rfl) Tryz.func3 (by kernel_rfl)
  (of_decide_eq_true (by kernel_rfl)) (by unfold Func.isWrapper;first| (rw[if_pos (by decide+kernel)];kernel_rfl)| (rw[if_neg (by decide+kernel)];exact⟨rfl,rfl⟩))
  (fun os started H enc _=>lifted os started H enc)
end Go.Proofs.YtabmooekodficaaGreat.walks
