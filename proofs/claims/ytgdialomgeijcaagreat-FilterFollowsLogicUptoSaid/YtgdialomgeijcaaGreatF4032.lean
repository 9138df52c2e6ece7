/- The law FilterFollowsLogic holds for every input of bulk at most 1048576: the second form. -/
import Derived.Test.YtgdialomgeijcaaGreatF4031
set_option linter.all false
namespace Go.Proofs.YtgdialomgeijcaaGreat.logic
open Go Go.ChangeShapes Go.WideShapes Go.ChangeAt Go.RowKit Aq Sh apy
set_option maxRecDepth 100000
theorem law {p:FN R.T ([.st 2,.st 0,.st 0].map Sk.d)}(h:X7 (Rj R ([.st 2,.st 0,.st 0].map Sk.d) p)<=1048576):UJ Sh.E 9 (Rj R ([.st 2,.st 0,.st 0].map Sk.d) p) (.bool true):=by obtain⟨s,a,b⟩:=p;have h1:UQ (Ro.v s)+(UQ (Pred.v a)+(UQ (Pred.v b)+0))<=1048576:=h;have ha:=atB a;have hb:=atB b;have hs:UO (Ro.v s)<=UQ (Ro.v s):=aiM _;have hs2:adA s (2^40):=aCj (k:=1048576) (by omega) (by decide) (by decide);have ht:=aC5 (n:=2^40) (s:=s) (a:=a) (b:=b) hs2 (by omega) (by omega) (by decide);exact(azI (2^40) (s,a,b) true ht).ok apx
theorem contract (H:Type)(enc:TypeId×Value->H)(W:World)(base:Nat)(args:Array Value)(ds gs:List (DataW H))(before:List MemPlace)(hval:∀(j:Nat) t v,Tryz.f9.params[j]? =some t->args[j]? =some v->Value.okWide Tryz.prog W .any base t v)(hW:DataW.Whole enc Tryz.prog Tryz.f9.params.toList Rows.filterFollowsLogicSpec.vars false W args.toList ds gs before)(hL:laidMetH Tryz.prog Rows.filterFollowsLogicUptoRow.laid W)(hk:Rows.uptoSmall H (ds++gs)=true):
 Calls Tryz.prog 9 args W fun e W'=>∃v,e= .returned v/\Rows.filterFollowsLogicSpec.post enc Tryz.prog Tryz.f9 false true false false W args v W':=by
 have hbound:=of_decide_eq_true hk;have hlen:ds.length=3:=by obtain⟨p,q,hA,_⟩:=hW;have:=(Go.trodAll_length hA).2;rw[Tryz.params9] at this;exact this
 have hgs:gs=[]:=by obtain⟨p,q,_,hV,_⟩:=hW;exact(trodVars_none hV).1
 subst hgs;rw[Qy] at hbound;refine auP (E:=Sh.E) (R:=R) (avA H) TA hty kids (fun ht hu=>slices_full_of Tryz.prog full _ _ ht hu) (l:=[.st 2,.st 0,.st 0]) (tb:=4) ?_ ?_ rfl ?_ ?_ u4 hval hW avx (fun p hp=>law (PE hp hbound))
 .rw[Tryz.params9];rfl
 .rw[Tryz.params9];intro t ht;have hs:(34:Nat)<Tryz.prog.types.size:=of_decide_eq_true (by kernel_rfl);simp only[PI,List.not_mem_nil,or_false] at ht;show t<Tryz.prog.types.size;rcases ht with rfl|rfl|rfl
  .exact hs
  .exact Nat.lt_trans (by decide) hs
  .exact Nat.lt_trans (by decide) hs
 .match ds,hlen with
  | [d1,d2,d3],_=>rfl
 .kernel_rfl
noncomputable def laidWorld (os:Os):World:=
 World.holding Tryz.prog os ⟨#[], #[],[]⟩
def aik:Array Value:= #[.agg #[.int .i64 0,.int .i64 0,.slice none 0 0],.agg #[.int .i64 0,.string ⟨#[]⟩,.int .i64 0,.int .i64 0,.string ⟨#[]⟩,.slice none 0 0],.agg #[.int .i64 0,.string ⟨#[]⟩,.int .i64 0,.int .i64 0,.string ⟨#[]⟩,.slice none 0 0]]
theorem laid_met (os:Os):laidMet Tryz.prog Rows.filterFollowsLogicUptoRow.laid ((laidWorld os).forCall (fun _ _=>0) ⟨#[],aik,[]⟩).memory:=
 laidMet_of_run' 8 (by kernel_rfl) (by kernel_rfl)
theorem reads (os:Os){H:Type}(enc:TypeId×Value->H):∃places,DataW.whole enc Tryz.prog ((laidWorld os).forCall (fun _ _=>0) ⟨#[],aik,[]⟩).memory Tryz.f9.params.toList Rows.filterFollowsLogicSpec.vars false aik.toList 8=some ([.agg [.lit (.int .i64 0),.lit (.int .i64 0),.nil],.agg [.lit (.int .i64 0),.lit (.string []),.lit (.int .i64 0),.lit (.int .i64 0),.lit (.string []),.nil],.agg [.lit (.int .i64 0),.lit (.string []),.lit (.int .i64 0),.lit (.int .i64 0),.lit (.string []),.nil]],[],places):=
 ⟨[],by kernel_rfl⟩
theorem liftedUpto (os:Os)(started:os.Started)(H:Type)(enc:TypeId×Value->H)(F:Stop.Interp):
 ReturnsInHanded {} Tryz.checked os 9 .any ((Rows.OpenSpec.upto Rows.filterFollowsLogicSpec).preRow enc Tryz.prog Tryz.f9 Rows.filterFollowsLogicUptoRow.domain false Rows.filterFollowsLogicUptoRow.laid) (((Rows.OpenSpec.upto Rows.filterFollowsLogicSpec).at F).post enc Tryz.prog Tryz.f9 false true false false):=by
 obtain⟨places,hx⟩:=reads os enc;refine returnsInHanded_of_row (C:=Tryz.checked) (s:=Rows.OpenSpec.upto Rows.filterFollowsLogicSpec) own started (by kernel_rfl) Tryz.func9
  (witness_row_at (enc:=enc) (C:=Tryz.checked) false (laidWorld os) aik rfl (by kernel_rfl) (by kernel_rfl) (by kernel_rfl)
    (OpenSpec.preRow_of_cond 8 hx (by kernel_rfl) (fun k hk=>by cases hk;kernel_rfl) (by kernel_rfl) (laid_met os))) ?_
 intro W base args ds gs before hval hW _ hcond _ hL _ _;exact contract H enc W base args ds gs before hval hW hL (hcond _ rfl)
theorem saidUpto:Rows.FilterFollowsLogicUptoSaid:=
 OpenClaim.holds_of_cond 9 Tryz.f9 rfl rfl rfl rfl rfl rfl rfl ⟨rfl,rfl,rfl,rfl,rfl⟩ rfl rfl rfl rfl rfl (by kernel_rfl) Tryz.func9 (by kernel_rfl)
  (of_decide_eq_true (by kernel_rfl)) (by unfold Func.isWrapper;first| (rw[if_pos (by decide+kernel)];kernel_rfl)| (rw[if_neg (by decide+kernel)];exact⟨rfl,rfl⟩))
  (fun os started H enc _ F=>by rw[OpenClaim.pre_eq_preRow];exact liftedUpto os started H enc F)
end Go.Proofs.YtgdialomgeijcaaGreat.logic
