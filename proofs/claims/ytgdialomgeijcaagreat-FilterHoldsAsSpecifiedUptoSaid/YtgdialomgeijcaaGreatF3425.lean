/- The law FilterHoldsAsSpecified holds for every input of bulk at most 1048576: the second form. -/
import Derived.Test.YtgdialomgeijcaaGreatF3421
import Derived.Test.YtgdialomgeijcaaGreatF3424
set_option linter.all false
set_option linter.unusedSimpArgs false
set_option linter.unusedSectionVars false
namespace Go.Proofs.YtgdialomgeijcaaGreat.holds
open Go Go.ChangeShapes Go.WideShapes Go.ChangeAt Go.RowKit Aq Sh UU
set_option maxRecDepth 100000
theorem law {p:ak R.T ([.st 0,.st 0,.slice (.st 3)].map Sk.d)} (h:mR (aI R ([.st 0,.st 0,.slice (.st 3)].map Sk.d) p)≤1048576):jk Sh.E 3 (aI R ([.st 0,.st 0,.slice (.st 3)].map Sk.d) p) (.bool true):=by
 obtain⟨x,y,l⟩:=p
 have h1:gP (Pred.v x)+(gP (Pred.v y)+(gP (lv Attr.v l)+0))≤1048576:=h
 have hx:=WS x
 have hy:=WS y
 have hl:=ahg l
 have ht:=ahh (n:=2^40) (x:=x) (y:=y) (l:=l) (by omega) (by omega) (by omega) (by omega) (by omega) (by omega) (by decide)
 exact(agj (2^40) (x,y,l) true ht).ok aeH
theorem contract (H:Type) (enc:TypeId×Value→H) (W:World) (base:Nat) (args:Array Value) (ds gs:List (DataW H)) (before:List MemPlace)
 (hval:∀(j:Nat) t v,Tryz.f3.params[j]? =some t→args[j]? =some v→Value.okWide Tryz.prog W .any base t v)
 (hW:DataW.Whole enc Tryz.prog Tryz.f3.params.toList Rows.filterHoldsAsSpecifiedSpec.vars false W args.toList ds gs before) (hL:laidMetH Tryz.prog Rows.filterHoldsAsSpecifiedUptoRow.laid W)
 (hk:Rows.uptoSmall H (ds++gs)=true):
 Calls Tryz.prog 3 args W fun e W'=> ∃v,e= .returned v∧Rows.filterHoldsAsSpecifiedSpec.post enc Tryz.prog Tryz.f3 false true false false W args v W':=by
 have hbound:=of_decide_eq_true hk
 have hlen:ds.length=3:=by
  obtain⟨p,q,hA,_⟩:=hW
  have:=(Go.trodAll_length hA).2
  rw[Tryz.params3] at this
  exact this
 have hgs:gs=[]:=by
  obtain⟨p,q,_,hV,_⟩:=hW
  exact(trodVars_none hV).1
 subst hgs
 rw[List.append_nil] at hbound
 refine adw (E:=Sh.E) (R:=R) (aeL H) gQ hty kids (fun ht hu=>slices_full_of Tryz.prog full _ _ ht hu) (l:=[.st 0,.st 0,.slice (.st 3)]) (tb:=4) ?_ ?_ rfl ?_ ?_ u4 hval hW aeI (fun p hp=>law (Nat.le_trans hp hbound))
 ·rw[Tryz.params3];rfl
 ·rw[Tryz.params3]
  intro t ht
  have hs:(25:Nat)<Tryz.prog.types.size:=of_decide_eq_true (by kernel_rfl)
  simp only[List.mem_cons,List.not_mem_nil,or_false] at ht
  show t<Tryz.prog.types.size
  rcases ht with rfl|rfl|rfl
  ·exact Nat.lt_trans (by decide) hs
  ·exact Nat.lt_trans (by decide) hs
  ·exact hs
 ·match ds,hlen with
  | [d1,d2,d3],_=>rfl
 ·kernel_rfl
noncomputable def laidWorld (os:Os):World:=
 World.holding Tryz.prog os ⟨#[], #[],[]⟩
def Iz:Array Value:= #[.agg #[.int .i64 0,.string ⟨#[]⟩,.int .i64 0,.int .i64 0,.string ⟨#[]⟩,.slice none 0 0],.agg #[.int .i64 0,.string ⟨#[]⟩,.int .i64 0,.int .i64 0,.string ⟨#[]⟩,.slice none 0 0],.slice none 0 0]
theorem laid_met (os:Os):laidMet Tryz.prog Rows.filterHoldsAsSpecifiedUptoRow.laid ((laidWorld os).forCall (fun _ _=>0) ⟨#[],Iz,[]⟩).memory:=
 laidMet_of_run' 8 (by kernel_rfl) (by kernel_rfl)
theorem reads (os:Os) {H:Type} (enc:TypeId×Value→H):∃places,DataW.whole enc Tryz.prog ((laidWorld os).forCall (fun _ _=>0) ⟨#[],Iz,[]⟩).memory Tryz.f3.params.toList Rows.filterHoldsAsSpecifiedSpec.vars false Iz.toList 8=some ([.agg [.lit (.int .i64 0),.lit (.string []),.lit (.int .i64 0),.lit (.int .i64 0),.lit (.string []),.nil],.agg [.lit (.int .i64 0),.lit (.string []),.lit (.int .i64 0),.lit (.int .i64 0),.lit (.string []),.nil],.nil],[],places):=
 ⟨[],by kernel_rfl⟩
theorem liftedUpto (os:Os) (started:os.Started) (H:Type) (enc:TypeId×Value→H) (F:Stop.Interp):
 ReturnsInHanded {} Tryz.checked os 3 .any ((Rows.OpenSpec.upto Rows.filterHoldsAsSpecifiedSpec).preRow enc Tryz.prog Tryz.f3 Rows.filterHoldsAsSpecifiedUptoRow.domain false Rows.filterHoldsAsSpecifiedUptoRow.laid) (((Rows.OpenSpec.upto Rows.filterHoldsAsSpecifiedSpec).at F).post enc Tryz.prog Tryz.f3 false true false false):=by
 obtain⟨places,hx⟩:=reads os enc
 refine returnsInHanded_of_row (C:=Tryz.checked) (s:=Rows.OpenSpec.upto Rows.filterHoldsAsSpecifiedSpec) own started (by kernel_rfl) Tryz.func3
  (witness_row_at (enc:=enc) (C:=Tryz.checked) false (laidWorld os) Iz rfl (by kernel_rfl) (by kernel_rfl) (by kernel_rfl)
    (OpenSpec.preRow_of_cond 8 hx (by kernel_rfl) (fun k hk=>by cases hk;kernel_rfl) (by kernel_rfl) (laid_met os))) ?_
 intro W base args ds gs before hval hW _ hcond _ hL _ _
 exact contract H enc W base args ds gs before hval hW hL (hcond _ rfl)
theorem saidUpto:Rows.FilterHoldsAsSpecifiedUptoSaid:=
 OpenClaim.holds_of_cond 3 Tryz.f3 rfl rfl rfl rfl rfl rfl rfl ⟨rfl,rfl,rfl,rfl,rfl⟩ rfl rfl rfl rfl rfl (by kernel_rfl) Tryz.func3 (by kernel_rfl)
  (of_decide_eq_true (by kernel_rfl)) (by unfold Func.isWrapper;first| (rw[if_pos (by decide+kernel)];kernel_rfl)| (rw[if_neg (by decide+kernel)];exact⟨rfl,rfl⟩))
  (fun os started H enc _ F=>by rw[OpenClaim.pre_eq_preRow];exact liftedUpto os started H enc F)
end Go.Proofs.YtgdialomgeijcaaGreat.holds
