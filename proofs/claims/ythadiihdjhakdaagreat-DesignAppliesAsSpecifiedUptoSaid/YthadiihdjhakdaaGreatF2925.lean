/- The law DesignAppliesAsSpecified holds for every input of bulk at most 1048576: the second form. -/
import Derived.Test.YthadiihdjhakdaaGreatF2924
set_option linter.all false
namespace Go.Proofs.YthadiihdjhakdaaGreat.applies
open Go Go.ChangeShapes Go.WideShapes Go.ChangeAt Go.RowKit aY Sh UQ
set_option maxRecDepth 100000
theorem law {p:aW R.T ([.st 1,.slice (.st 13),.int .i64].map aM.d)}(h:sM (bX R ([.st 1,.slice (.st 13),.int .i64].map aM.d) p)<=1048576)(hr:Uy R [.st 1,.slice (.st 13),.int .i64] p):qY Sh.E 8 (bX R ([.st 1,.slice (.st 13),.int .i64].map aM.d) p) (.bool true):=by
 obtain⟨s,l,id⟩:=p;have h1:lV (Sh.aN.v s)+(lV (lv Sh.Event.v l)+(lV (V.int .i64 id)+0))<=1048576:=h;have hs:mq (Sh.aN.v s)<=lV (Sh.aN.v s):=aif _;have hs2:Gx s (2^34+1):=aA9 (k:=1048576) ah eO eO;have e1:lV (lv Sh.Event.v l)=sM (List.map Sh.Event.v l)+1:=by unfold lv;simp only[lV]
 have hl:=aBa (l:=l) (n:=2^34+1) (k:=1048576) ah eO eO;exact(avz (2^34+1) (s,(l,id)) true (aA1 (n:=2^34+1) eO s l id hs2 hl.1 hl.2.1 hl.2.2)).ok JI
theorem contract (H:Type)(enc:TypeId×Value->H)(W:World)(base:Nat)(args:Array Value)(ds gs:List (DataW H))(before:List MemPlace)(hval:∀(j:Nat) t v,Tryz.f8.params[j]? =some t->args[j]? =some v->Value.okWide Tryz.prog W .any base t v)(hW:DataW.Whole enc Tryz.prog Tryz.f8.params.toList Rows.designAppliesAsSpecifiedSpec.vars false W args.toList ds gs before)(hL:laidMetH Tryz.prog Rows.designAppliesAsSpecifiedUptoRow.laid W)(hk:Rows.uptoSmall H (ds++gs)=true):
 Calls Tryz.prog 8 args W fun e W'=>∃v,e= .returned v/\Rows.designAppliesAsSpecifiedSpec.post enc Tryz.prog Tryz.f8 false true false false W args v W':=by
 have hbound:=of_decide_eq_true hk;have hlen:ds.length=3:=by obtain⟨p,q,hA,_⟩:=hW;have:=(Go.trodAll_length hA).2;rw[Tryz.params8] at this;exact this
 have hgs:gs=[]:=by obtain⟨p,q,_,hV,_⟩:=hW;exact(trodVars_none hV).1
 subst hgs;rw[lF] at hbound;refine asz (E:=Sh.E) (R:=R) (atj H) nL hty kids (fun ht hu=>slices_full_of Tryz.prog full _ _ ht hu) (l:=[.st 1,.slice (.st 13),.int .i64]) (tb:=4) ?_ ?_ rfl ?_ ?_ u4 hval hW atg (fun p hp hr=>law (bZ hp hbound) hr)
 ·rw[Tryz.params8];rfl
 ·rw[Tryz.params8]
  intro t ht;have hs:(25:Nat)<Tryz.prog.types.size:=of_decide_eq_true aA;simp only[iC,List.not_mem_nil,or_false] at ht;show t<Tryz.prog.types.size;rcases ht with rfl|rfl|rfl
  ·exact Nat.lt_trans eO hs
  ·exact hs
  ·exact Nat.lt_trans eO hs
 ·match ds,hlen with
  | [d1,d2,d3],_=>rfl
 ·kernel_rfl
noncomputable def laidWorld (os:Os):World:=
 World.holding Tryz.prog os ⟨#[], #[],[]⟩
def XE:Array Value:= #[.agg #[.int .i64 0,.int .i64 0,.slice none 0 0],.slice none 0 0,.int .i64 0]
theorem laid_met (os:Os):laidMet Tryz.prog Rows.designAppliesAsSpecifiedUptoRow.laid ((laidWorld os).forCall (fun _ _=>0) ⟨#[],XE,[]⟩).memory:=
 laidMet_of_run' 8 aA aA
theorem reads (os:Os){H:Type}(enc:TypeId×Value->H):∃places,DataW.whole enc Tryz.prog ((laidWorld os).forCall (fun _ _=>0) ⟨#[],XE,[]⟩).memory Tryz.f8.params.toList Rows.designAppliesAsSpecifiedSpec.vars false XE.toList 8=some ([.agg [.lit (.int .i64 0),.lit (.int .i64 0),.nil],.nil,.lit (.int .i64 0)],[],places):=
 ⟨[],aA⟩
theorem liftedUpto (os:Os)(started:os.Started)(H:Type)(enc:TypeId×Value->H)(F:Stop.Interp):
 ReturnsInHanded {} Tryz.checked os 8 .any ((Rows.OpenSpec.upto Rows.designAppliesAsSpecifiedSpec).preRow enc Tryz.prog Tryz.f8 Rows.designAppliesAsSpecifiedUptoRow.domain false Rows.designAppliesAsSpecifiedUptoRow.laid) (((Rows.OpenSpec.upto Rows.designAppliesAsSpecifiedSpec).at F).post enc Tryz.prog Tryz.f8 false true false false):=by
 obtain⟨places,hx⟩:=reads os enc;refine returnsInHanded_of_row (C:=Tryz.checked) (s:=Rows.OpenSpec.upto Rows.designAppliesAsSpecifiedSpec) own started aA Tryz.func8
  (witness_row_at (enc:=enc) (C:=Tryz.checked) false (laidWorld os) XE rfl aA aA aA
    (OpenSpec.preRow_of_cond 8 hx aA (fun k hk=>by cases hk;kernel_rfl) aA (laid_met os))) ?_
 intro W base args ds gs before hval hW _ hcond _ hL _ _;exact contract H enc W base args ds gs before hval hW hL (hcond _ rfl)
theorem saidUpto:Rows.DesignAppliesAsSpecifiedUptoSaid:=
 OpenClaim.holds_of_cond 8 Tryz.f8 rfl rfl rfl rfl rfl rfl rfl ⟨rfl,rfl,rfl,rfl,rfl⟩ rfl rfl rfl rfl rfl aA Tryz.func8 aA
  (of_decide_eq_true aA) (by unfold Func.isWrapper;first| (rw[if_pos (by decide+kernel)];kernel_rfl)| (rw[if_neg (by decide+kernel)];exact⟨rfl,rfl⟩))
  (fun os started H enc _ F=>by rw[OpenClaim.pre_eq_preRow];exact liftedUpto os started H enc F)
end Go.Proofs.YthadiihdjhakdaaGreat.applies
