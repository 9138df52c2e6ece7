/- The law FilterImpliesExactly holds for every input of bulk at most 1048576: the second form. -/
import Derived.Test.YtgdialomgeijcaaGreatF3930
set_option linter.all false
namespace Go.Proofs.YtgdialomgeijcaaGreat.implied
open Go Go.ChangeShapes Go.WideShapes Go.ChangeAt Go.RowKit Aq Sh alN
set_option maxRecDepth 100000
theorem law {p:Lv R.T ([.st 2,.st 0,.st 0,.slice (.st 3)].map Sk.d)}(h:Ww (Rj R ([.st 2,.st 0,.st 0,.slice (.st 3)].map Sk.d) p)<=1048576):Uo Sh.E 8 (Rj R ([.st 2,.st 0,.st 0,.slice (.st 3)].map Sk.d) p) (.bool true):=by obtain⟨s,x,y,l⟩:=p;have h1:Uh (Ri.v s)+(Uh (Pred.v x)+(Uh (Pred.v y)+(Uh (lv Attr.v l)+0)))<=1048576:=h;have hx:=aoG x;have hy:=aoG y;have hl:=avP l;have hs:Ug (Ri.v s)<=Uh (Ri.v s):=afb _;have hs2:aaE s (2^40):=av6 (k:=1048576) (by omega) (by decide) (by decide);have ht:=awP (n:=2^40) (s:=s) (a:=x) (b:=y) (l:=l) hs2 (by omega) (by omega) (by omega) (by omega) (by decide);exact(atK (2^40) (s,x,y,l) true ht).ok alM
theorem contract (H:Type)(enc:TypeId×Value->H)(W:World)(base:Nat)(args:Array Value)(ds gs:List (DataW H))(before:List MemPlace)(hval:∀(j:Nat) t v,Tryz.f8.params[j]? =some t->args[j]? =some v->Value.okWide Tryz.prog W .any base t v)(hW:DataW.Whole enc Tryz.prog Tryz.f8.params.toList Rows.filterImpliesExactlySpec.vars false W args.toList ds gs before)(hL:laidMetH Tryz.prog Rows.filterImpliesExactlyUptoRow.laid W)(hk:Rows.uptoSmall H (ds++gs)=true):
 Calls Tryz.prog 8 args W fun e W'=>∃v,e= .returned v/\Rows.filterImpliesExactlySpec.post enc Tryz.prog Tryz.f8 false true false false W args v W':=by
 have hbound:=of_decide_eq_true hk;have hlen:ds.length=4:=by obtain⟨p,q,hA,_⟩:=hW;have:=(Go.trodAll_length hA).2;rw[Tryz.params8] at this;exact this
 have hgs:gs=[]:=by obtain⟨p,q,_,hV,_⟩:=hW;exact(trodVars_none hV).1
 subst hgs;rw[Qx] at hbound;refine apw (E:=Sh.E) (R:=R) (aqg H) Ub hty kids (fun ht hu=>slices_full_of Tryz.prog full _ _ ht hu) (l:=[.st 2,.st 0,.st 0,.slice (.st 3)]) (tb:=4) ?_ ?_ rfl ?_ ?_ u4 hval hW aqd (fun p hp=>law (PD hp hbound))
 .rw[Tryz.params8];rfl
 .rw[Tryz.params8];intro t ht;have hs:(34:Nat)<Tryz.prog.types.size:=of_decide_eq_true (by kernel_rfl);simp only[PG,List.not_mem_nil,or_false] at ht;show t<Tryz.prog.types.size;rcases ht with rfl|rfl|rfl|rfl
  .exact hs
  .exact Nat.lt_trans (by decide) hs
  .exact Nat.lt_trans (by decide) hs
  .exact Nat.lt_trans (by decide) hs
 .match ds,hlen with
  | [d1,d2,d3,d4],_=>rfl
 .kernel_rfl
noncomputable def laidWorld (os:Os):World:=
 World.holding Tryz.prog os ⟨#[], #[],[]⟩
def af3:Array Value:= #[.agg #[.int .i64 0,.int .i64 0,.slice none 0 0],.agg #[.int .i64 0,.string ⟨#[]⟩,.int .i64 0,.int .i64 0,.string ⟨#[]⟩,.slice none 0 0],.agg #[.int .i64 0,.string ⟨#[]⟩,.int .i64 0,.int .i64 0,.string ⟨#[]⟩,.slice none 0 0],.slice none 0 0]
theorem laid_met (os:Os):laidMet Tryz.prog Rows.filterImpliesExactlyUptoRow.laid ((laidWorld os).forCall (fun _ _=>0) ⟨#[],af3,[]⟩).memory:=
 laidMet_of_run' 8 (by kernel_rfl) (by kernel_rfl)
theorem reads (os:Os){H:Type}(enc:TypeId×Value->H):∃places,DataW.whole enc Tryz.prog ((laidWorld os).forCall (fun _ _=>0) ⟨#[],af3,[]⟩).memory Tryz.f8.params.toList Rows.filterImpliesExactlySpec.vars false af3.toList 8=some ([.agg [.lit (.int .i64 0),.lit (.int .i64 0),.nil],.agg [.lit (.int .i64 0),.lit (.string []),.lit (.int .i64 0),.lit (.int .i64 0),.lit (.string []),.nil],.agg [.lit (.int .i64 0),.lit (.string []),.lit (.int .i64 0),.lit (.int .i64 0),.lit (.string []),.nil],.nil],[],places):=
 ⟨[],by kernel_rfl⟩
theorem liftedUpto (os:Os)(started:os.Started)(H:Type)(enc:TypeId×Value->H)(F:Stop.Interp):
 ReturnsInHanded {} Tryz.checked os 8 .any ((Rows.OpenSpec.upto Rows.filterImpliesExactlySpec).preRow enc Tryz.prog Tryz.f8 Rows.filterImpliesExactlyUptoRow.domain false Rows.filterImpliesExactlyUptoRow.laid) (((Rows.OpenSpec.upto Rows.filterImpliesExactlySpec).at F).post enc Tryz.prog Tryz.f8 false true false false):=by
 obtain⟨places,hx⟩:=reads os enc;refine returnsInHanded_of_row (C:=Tryz.checked) (s:=Rows.OpenSpec.upto Rows.filterImpliesExactlySpec) own started (by kernel_rfl) Tryz.func8
  (witness_row_at (enc:=enc) (C:=Tryz.checked) false (laidWorld os) af3 rfl (by kernel_rfl) (by kernel_rfl) (by kernel_rfl)
    (OpenSpec.preRow_of_cond 8 hx (by kernel_rfl) (fun k hk=>by cases hk;kernel_rfl) (by kernel_rfl) (laid_met os))) ?_
 intro W base args ds gs before hval hW _ hcond _ hL _ _;exact contract H enc W base args ds gs before hval hW hL (hcond _ rfl)
theorem saidUpto:Rows.FilterImpliesExactlyUptoSaid:=
 OpenClaim.holds_of_cond 8 Tryz.f8 rfl rfl rfl rfl rfl rfl rfl ⟨rfl,rfl,rfl,rfl,rfl⟩ rfl rfl rfl rfl rfl (by kernel_rfl) Tryz.func8 (by kernel_rfl)
  (of_decide_eq_true (by kernel_rfl)) (by unfold Func.isWrapper;first| (rw[if_pos (by decide+kernel)];kernel_rfl)| (rw[if_neg (by decide+kernel)];exact⟨rfl,rfl⟩))
  (fun os started H enc _ F=>by rw[OpenClaim.pre_eq_preRow];exact liftedUpto os started H enc F)
end Go.Proofs.YtgdialomgeijcaaGreat.implied
