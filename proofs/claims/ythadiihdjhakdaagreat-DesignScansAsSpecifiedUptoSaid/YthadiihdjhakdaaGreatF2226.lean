/- The law DesignScansAsSpecified holds for every input of bulk at most 1048576: the second form. -/
import Derived.Test.YthadiihdjhakdaaGreatF2225
set_option linter.all false
namespace Go.Proofs.YthadiihdjhakdaaGreat.scans
open Go Go.ChangeShapes Go.WideShapes Go.ChangeAt Go.RowKit aR Sh WO
set_option maxRecDepth 100000
theorem law {p:av R.T ([.st 1,.slice (.st 13),.st 4].map aC.d)}(h:rz (aF R ([.st 1,.slice (.st 13),.st 4].map aC.d) p)<=1048576)(hr:Wz R [.st 1,.slice (.st 13),.st 4] p):oK Sh.E 3 (aF R ([.st 1,.slice (.st 13),.st 4].map aC.d) p) (.bool true):=by
 obtain⟨s,l,q⟩:=p;have h1:kU (Sh.aJ.v s)+(kU (lv Sh.Event.v l)+(kU (Sh.Query.v q)+0))<=1048576:=h;have hs:ko (Sh.aJ.v s)<=kU (Sh.aJ.v s):=abk _;have hs2:oz s (2^34+1):=aEj (k:=1048576) ah aX aX;have e1:kU (lv Sh.Event.v l)=rz (List.map Sh.Event.v l)+1:=by unfold lv;simp only[kU]
 have hl:=aEk (l:=l) (n:=2^34+1) (k:=1048576) ah aX aX;have hq:=aEm q;exact(azJ (2^34+1) (s,(l,q)) true (aEi (n:=2^34+1) aX s l q hs2 hl.1 hl.2.1 hl.2.2 ⟨ah,ah⟩)).ok xu
theorem contract (H:Type)(enc:TypeId×Value->H)(W:World)(base:Nat)(args:Array Value)(ds gs:List (DataW H))(before:List MemPlace)(hval:∀(j:Nat) t v,Tryz.f3.params[j]? =some t->args[j]? =some v->Value.okWide Tryz.prog W .any base t v)(hW:DataW.Whole enc Tryz.prog Tryz.f3.params.toList Rows.designScansAsSpecifiedSpec.vars false W args.toList ds gs before)(hL:laidMetH Tryz.prog Rows.designScansAsSpecifiedUptoRow.laid W)(hk:Rows.uptoSmall H (ds++gs)=true):
 Calls Tryz.prog 3 args W fun e W'=>∃v,e= .returned v/\Rows.designScansAsSpecifiedSpec.post enc Tryz.prog Tryz.f3 false true false false W args v W':=by
 have hbound:=of_decide_eq_true hk;have hlen:ds.length=3:=by obtain⟨p,q,hA,_⟩:=hW;have:=(Go.trodAll_length hA).2;rw[Tryz.params3] at this;exact this
 have hgs:gs=[]:=by obtain⟨p,q,_,hV,_⟩:=hW;exact(trodVars_none hV).1
 subst hgs;rw[nV] at hbound;refine avo (E:=Sh.E) (R:=R) (awm H) bD hty kids (fun ht hu=>slices_full_of Tryz.prog full _ _ ht hu) (l:=[.st 1,.slice (.st 13),.st 4]) (tb:=4) ?_ ?_ rfl ?_ ?_ u4 hval hW awj (fun p hp hr=>law (dJ hp hbound) hr)
 ·rw[Tryz.params3];rfl
 ·rw[Tryz.params3]
  intro t ht;have hs:(33:Nat)<Tryz.prog.types.size:=of_decide_eq_true aA;simp only[fV,List.not_mem_nil,or_false] at ht;show t<Tryz.prog.types.size;rcases ht with rfl|rfl|rfl
  ·exact Nat.lt_trans aX hs
  ·exact Nat.lt_trans aX hs
  ·exact hs
 ·match ds,hlen with
  | [d1,d2,d3],_=>rfl
 ·kernel_rfl
noncomputable def laidWorld (os:Os):World:=
 World.holding Tryz.prog os ⟨#[], #[],[]⟩
def Yj:Array Value:= #[.agg #[.int .i64 0,.int .i64 0,.slice none 0 0],.slice none 0 0,.agg #[.slice none 0 0,.int .i64 0,.int .i64 0,.int .i64 0,.string ⟨#[]⟩,.int .i64 0,.int .i64 0,.string ⟨#[]⟩,.slice none 0 0,.int .i64 0,.int .i64 0,.int .i64 0]]
theorem laid_met (os:Os):laidMet Tryz.prog Rows.designScansAsSpecifiedUptoRow.laid ((laidWorld os).forCall (fun _ _=>0) ⟨#[],Yj,[]⟩).memory:=
 laidMet_of_run' 8 aA aA
theorem reads (os:Os){H:Type}(enc:TypeId×Value->H):∃places,DataW.whole enc Tryz.prog ((laidWorld os).forCall (fun _ _=>0) ⟨#[],Yj,[]⟩).memory Tryz.f3.params.toList Rows.designScansAsSpecifiedSpec.vars false Yj.toList 8=some ([.agg [.lit (.int .i64 0),.lit (.int .i64 0),.nil],.nil,.agg [.nil,.lit (.int .i64 0),.lit (.int .i64 0),.agg [.lit (.int .i64 0),.lit (.string []),.lit (.int .i64 0),.lit (.int .i64 0),.lit (.string []),.nil],.agg [.lit (.int .i64 0),.lit (.int .i64 0)],.lit (.int .i64 0)]],[],places):=
 ⟨[],aA⟩
theorem liftedUpto (os:Os)(started:os.Started)(H:Type)(enc:TypeId×Value->H)(F:Stop.Interp):
 ReturnsInHanded {} Tryz.checked os 3 .any ((Rows.OpenSpec.upto Rows.designScansAsSpecifiedSpec).preRow enc Tryz.prog Tryz.f3 Rows.designScansAsSpecifiedUptoRow.domain false Rows.designScansAsSpecifiedUptoRow.laid) (((Rows.OpenSpec.upto Rows.designScansAsSpecifiedSpec).at F).post enc Tryz.prog Tryz.f3 false true false false):=by
 obtain⟨places,hx⟩:=reads os enc;refine returnsInHanded_of_row (C:=Tryz.checked) (s:=Rows.OpenSpec.upto Rows.designScansAsSpecifiedSpec) own started aA Tryz.func3
  (witness_row_at (enc:=enc) (C:=Tryz.checked) false (laidWorld os) Yj rfl aA aA aA
    (OpenSpec.preRow_of_cond 8 hx aA (fun k hk=>by cases hk;kernel_rfl) aA (laid_met os))) ?_
 intro W base args ds gs before hval hW _ hcond _ hL _ _;exact contract H enc W base args ds gs before hval hW hL (hcond _ rfl)
theorem saidUpto:Rows.DesignScansAsSpecifiedUptoSaid:=
 OpenClaim.holds_of_cond 3 Tryz.f3 rfl rfl rfl rfl rfl rfl rfl ⟨rfl,rfl,rfl,rfl,rfl⟩ rfl rfl rfl rfl rfl aA Tryz.func3 aA
  (of_decide_eq_true aA) (by unfold Func.isWrapper;first| (rw[if_pos (by decide+kernel)];kernel_rfl)| (rw[if_neg (by decide+kernel)];exact⟨rfl,rfl⟩))
  (fun os started H enc _ F=>by rw[OpenClaim.pre_eq_preRow];exact liftedUpto os started H enc F)
end Go.Proofs.YthadiihdjhakdaaGreat.scans
