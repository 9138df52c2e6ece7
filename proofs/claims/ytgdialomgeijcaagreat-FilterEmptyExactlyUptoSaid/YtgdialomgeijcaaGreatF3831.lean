/- The law FilterEmptyExactly holds for every input of bulk at most 1048576: the second form. -/
import Derived.Test.YtgdialomgeijcaaGreatF3830
set_option linter.all false
namespace Go.Proofs.YtgdialomgeijcaaGreat.exact
open Go Go.ChangeShapes Go.WideShapes Go.ChangeAt Go.RowKit Aq Sh alA
set_option maxRecDepth 100000
theorem law {p:Lv R.T ([.st 2,.st 0,.slice (.st 3)].map Sk.d)}(h:Wu (Ri R ([.st 2,.st 0,.slice (.st 3)].map Sk.d) p)<=1048576):Un Sh.E 7 (Ri R ([.st 2,.st 0,.slice (.st 3)].map Sk.d) p) (.bool true):=by obtain⟨s,x,l⟩:=p;have h1:Ui (Rk.v s)+(Ui (Pred.v x)+(Ui (lv Attr.v l)+0))<=1048576:=h;have hx:=avu x;have hl:=avv l;have hs:Ue (Rk.v s)<=Ui (Rk.v s):=ae7 _;have hs2:aaA s (2^40):=avN (k:=1048576) (by omega) (by decide) (by decide);have ht:=awq (n:=2^40) (s:=s) (p:=x) (l:=l) hs2 (by omega) (by omega) (by omega) (by omega) (by decide);exact(atq (2^40) (s,x,l) true ht).ok alz
theorem contract (H:Type)(enc:TypeId×Value->H)(W:World)(base:Nat)(args:Array Value)(ds gs:List (DataW H))(before:List MemPlace)(hval:∀(j:Nat) t v,Tryz.f7.params[j]? =some t->args[j]? =some v->Value.okWide Tryz.prog W .any base t v)(hW:DataW.Whole enc Tryz.prog Tryz.f7.params.toList Rows.filterEmptyExactlySpec.vars false W args.toList ds gs before)(hL:laidMetH Tryz.prog Rows.filterEmptyExactlyUptoRow.laid W)(hk:Rows.uptoSmall H (ds++gs)=true):
 Calls Tryz.prog 7 args W fun e W'=>∃v,e= .returned v/\Rows.filterEmptyExactlySpec.post enc Tryz.prog Tryz.f7 false true false false W args v W':=by
 have hbound:=of_decide_eq_true hk;have hlen:ds.length=3:=by obtain⟨p,q,hA,_⟩:=hW;have:=(Go.trodAll_length hA).2;rw[Tryz.params7] at this;exact this
 have hgs:gs=[]:=by obtain⟨p,q,_,hV,_⟩:=hW;exact(trodVars_none hV).1
 subst hgs;rw[Qx] at hbound;refine ape (E:=Sh.E) (R:=R) (ap0 H) Ua hty kids (fun ht hu=>slices_full_of Tryz.prog full _ _ ht hu) (l:=[.st 2,.st 0,.slice (.st 3)]) (tb:=4) ?_ ?_ rfl ?_ ?_ u4 hval hW apX (fun p hp=>law (PD hp hbound))
 .rw[Tryz.params7];rfl
 .rw[Tryz.params7];intro t ht;have hs:(34:Nat)<Tryz.prog.types.size:=of_decide_eq_true (by kernel_rfl);simp only[PG,List.not_mem_nil,or_false] at ht;show t<Tryz.prog.types.size;rcases ht with rfl|rfl|rfl
  .exact hs
  .exact Nat.lt_trans (by decide) hs
  .exact Nat.lt_trans (by decide) hs
 .match ds,hlen with
  | [d1,d2,d3],_=>rfl
 .kernel_rfl
noncomputable def laidWorld (os:Os):World:=
 World.holding Tryz.prog os ⟨#[], #[],[]⟩
def afX:Array Value:= #[.agg #[.int .i64 0,.int .i64 0,.slice none 0 0],.agg #[.int .i64 0,.string ⟨#[]⟩,.int .i64 0,.int .i64 0,.string ⟨#[]⟩,.slice none 0 0],.slice none 0 0]
theorem laid_met (os:Os):laidMet Tryz.prog Rows.filterEmptyExactlyUptoRow.laid ((laidWorld os).forCall (fun _ _=>0) ⟨#[],afX,[]⟩).memory:=
 laidMet_of_run' 8 (by kernel_rfl) (by kernel_rfl)
theorem reads (os:Os){H:Type}(enc:TypeId×Value->H):∃places,DataW.whole enc Tryz.prog ((laidWorld os).forCall (fun _ _=>0) ⟨#[],afX,[]⟩).memory Tryz.f7.params.toList Rows.filterEmptyExactlySpec.vars false afX.toList 8=some ([.agg [.lit (.int .i64 0),.lit (.int .i64 0),.nil],.agg [.lit (.int .i64 0),.lit (.string []),.lit (.int .i64 0),.lit (.int .i64 0),.lit (.string []),.nil],.nil],[],places):=
 ⟨[],by kernel_rfl⟩
theorem liftedUpto (os:Os)(started:os.Started)(H:Type)(enc:TypeId×Value->H)(F:Stop.Interp):
 ReturnsInHanded {} Tryz.checked os 7 .any ((Rows.OpenSpec.upto Rows.filterEmptyExactlySpec).preRow enc Tryz.prog Tryz.f7 Rows.filterEmptyExactlyUptoRow.domain false Rows.filterEmptyExactlyUptoRow.laid) (((Rows.OpenSpec.upto Rows.filterEmptyExactlySpec).at F).post enc Tryz.prog Tryz.f7 false true false false):=by
 obtain⟨places,hx⟩:=reads os enc;refine returnsInHanded_of_row (C:=Tryz.checked) (s:=Rows.OpenSpec.upto Rows.filterEmptyExactlySpec) own started (by kernel_rfl) Tryz.func7
  (witness_row_at (enc:=enc) (C:=Tryz.checked) false (laidWorld os) afX rfl (by kernel_rfl) (by kernel_rfl) (by kernel_rfl)
    (OpenSpec.preRow_of_cond 8 hx (by kernel_rfl) (fun k hk=>by cases hk;kernel_rfl) (by kernel_rfl) (laid_met os))) ?_
 intro W base args ds gs before hval hW _ hcond _ hL _ _;exact contract H enc W base args ds gs before hval hW hL (hcond _ rfl)
theorem saidUpto:Rows.FilterEmptyExactlyUptoSaid:=
 OpenClaim.holds_of_cond 7 Tryz.f7 rfl rfl rfl rfl rfl rfl rfl ⟨rfl,rfl,rfl,rfl,rfl⟩ rfl rfl rfl rfl rfl (by kernel_rfl) Tryz.func7 (by kernel_rfl)
  (of_decide_eq_true (by kernel_rfl)) (by unfold Func.isWrapper;first| (rw[if_pos (by decide+kernel)];kernel_rfl)| (rw[if_neg (by decide+kernel)];exact⟨rfl,rfl⟩))
  (fun os started H enc _ F=>by rw[OpenClaim.pre_eq_preRow];exact liftedUpto os started H enc F)
end Go.Proofs.YtgdialomgeijcaaGreat.exact
