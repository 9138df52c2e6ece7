/- The law RetainGivesReceipts holds for every input of bulk at most 1048576: the card of the second form. -/
import Derived.Test.YteniejlbjfigdaaGreatDoorF529
set_option linter.all false
namespace Go.Proofs.YteniejlbjfigdaaGreatDoor.receipts
open Go Go.ChangeShapes Go.WideShapes Go.ChangeAt Go.RowKit aR Sh retain
set_option maxRecDepth 100000
theorem law {p:bB R.T ([.st 1,.slice (.st 13),.int .u8,.st 11].map bR.d)}(h:mq (dw R ([.st 1,.slice (.st 13),.int .u8,.st 11].map bR.d) p)<=1048576):tX Sh.E 7 (dw R ([.st 1,.slice (.st 13),.int .u8,.st 11].map bR.d) p) (.bool true):=by obtain⟨s,l,x3,x4⟩:=p;have h1:iQ (aG.v s)+((mq (l.map Event.v)+1)+(iQ (.int .u8 x3)+(iQ (Snapshot.v x4)+0)))<=1048576:=h;have hs:=ahP (aG.v s);have hc:=byte_of (n:=x3) (k:=1048576) RS aL;obtain⟨e1,e2,e3⟩:=aAD (l:=l) (n:=2^40) (k:=1048576) RS RS RS;have ht:=aAw (n:=2^40) (x1:=s) (x2:=l) (x3:=x3) (x4:=x4) RS (aAz (k:=1048576) RS RS RS) e1 e2 e3 hc.1 hc.2;exact(axJ (2^40) (s,(l,(x3,x4))) true ht).ok aif
theorem contract (H:Type)(enc:TypeId×Value->H)(W:World)(base:Nat)(args:Array Value)(ds gs:List (DataW H))(before:List MemPlace)(hval:∀(j:Nat) t v,Tryz.f7.params[j]? =some t->args[j]? =some v->Value.okWide Tryz.prog W .any base t v)(hW:DataW.Whole enc Tryz.prog Tryz.f7.params.toList Rows.retainGivesReceiptsSpec.vars false W args.toList ds gs before)(hL:laidMetH Tryz.prog Rows.retainGivesReceiptsUptoRow.laid W)(hk:Rows.uptoSmall H (ds++gs)=true):
 Calls Tryz.prog 7 args W fun e W'=>∃v,e= .returned v/\Rows.retainGivesReceiptsSpec.post enc Tryz.prog Tryz.f7 false true false false W args v W':=by
 have hbound:=of_decide_eq_true hk;have hlen:ds.length=4:=by obtain⟨p,q,hA,_⟩:=hW;have:=(Go.trodAll_length hA).2;rw[Tryz.params7] at this;exact this
 have hgs:gs=[]:=by obtain⟨p,q,_,hV,_⟩:=hW;exact(trodVars_none hV).1
 subst hgs;rw[iV] at hbound;refine asD (E:=Sh.E) (R:=R) (atf H) sQ hty kids (fun ht hu=>slices_full_of Tryz.prog full _ _ ht hu) (l:=[.st 1,.slice (.st 13),.int .u8,.st 11]) (tb:=4) ?_ ?_ rfl ?_ ?_ u4 hval hW (atc hL) (fun p hp=>law (eO hp hbound))
 .rw[Tryz.params7];rfl
 .rw[Tryz.params7];intro t ht;have hs:(61:Nat)<Tryz.prog.types.size:=of_decide_eq_true ay;simp only[iC,List.not_mem_nil,or_false] at ht;show t<Tryz.prog.types.size;rcases ht with rfl|rfl|rfl|rfl
  .exact Nat.lt_trans aL hs
  .exact Nat.lt_trans aL hs
  .exact Nat.lt_trans aL hs
  .exact hs
 .match ds,hlen with
  | [d1,d2,d3,d4],_=>rfl
 .kernel_rfl
noncomputable def laidWorld (os:Os):World:=
 {World.holding Tryz.prog os ⟨#[], #[],[]⟩ with heap:=(((World.holding Tryz.prog os ⟨#[], #[],[]⟩).heap.modify 0 fun
   |.cells _ t frozen=>.cells (zL.map fun z=>Value.int .u32 z).toArray t frozen
   |o=>o).modify 1 fun
   |.cells _ t frozen=>.cells (zL.map fun z=>Value.int .u32 z).toArray t frozen
   |o=>o)}
def UM:Array Value:= #[.agg #[.int .i64 0,.int .i64 0,.slice none 0 0],.slice none 0 0,.int .u8 0,.agg #[.int .i64 0,.int .i64 0]]
theorem laid_met (os:Os):laidMet Tryz.prog Rows.retainGivesReceiptsUptoRow.laid ((laidWorld os).forCall (fun _ _=>0) ⟨#[],UM,[]⟩).memory:=
 laidMet_of_run' 8 ay ay
theorem reads (os:Os){H:Type}(enc:TypeId×Value->H):∃places,DataW.whole enc Tryz.prog ((laidWorld os).forCall (fun _ _=>0) ⟨#[],UM,[]⟩).memory Tryz.f7.params.toList Rows.retainGivesReceiptsSpec.vars false UM.toList 8=some ([.agg [.lit (.int .i64 0),.lit (.int .i64 0),.nil],.nil,.lit (.int .u8 0),.agg [.lit (.int .i64 0),.lit (.int .i64 0)]],[],places):=
 ⟨[],ay⟩
theorem liftedUpto (os:Os)(started:os.Started)(H:Type)(enc:TypeId×Value->H)(F:Stop.Interp):
 ReturnsInHanded {} Tryz.checked os 7 .any ((Rows.OpenSpec.upto Rows.retainGivesReceiptsSpec).preRow enc Tryz.prog Tryz.f7 Rows.retainGivesReceiptsUptoRow.domain false Rows.retainGivesReceiptsUptoRow.laid) (((Rows.OpenSpec.upto Rows.retainGivesReceiptsSpec).at F).post enc Tryz.prog Tryz.f7 false true false false):=by
 obtain⟨places,hx⟩:=reads os enc;refine returnsInHanded_of_row (C:=Tryz.checked) (s:=Rows.OpenSpec.upto Rows.retainGivesReceiptsSpec) own started ay Tryz.func7
  (witness_row_at (enc:=enc) (C:=Tryz.checked) false (laidWorld os) UM rfl ay ay ay
    (OpenSpec.preRow_of_cond 8 hx ay (fun k hk=>by cases hk;kernel_rfl) ay (laid_met os))) ?_
 intro W base args ds gs before hval hW _ hcond _ hL _ _;exact contract H enc W base args ds gs before hval hW hL (hcond _ rfl)
theorem saidUpto:Rows.RetainGivesReceiptsUptoSaid:=
 OpenClaim.holds_of_cond 7 Tryz.f7 rfl rfl rfl rfl rfl rfl rfl ⟨rfl,rfl,rfl,rfl,rfl⟩ rfl rfl rfl rfl rfl ay Tryz.func7 ay
  (of_decide_eq_true ay) (by unfold Func.isWrapper;first| (rw[if_pos KU];kernel_rfl)| (rw[if_neg KU];exact⟨rfl,rfl⟩))
  (fun os started H enc _ F=>by rw[OpenClaim.pre_eq_preRow];exact liftedUpto os started H enc F)
theorem plain (f:FuncId)(fn:Func)(hf:Tryz.pinned.checked.prog.funcNamed "antiquary/antiquarylaw21.RetainGivesReceipts" =some f)(hfn:Tryz.pinned.checked.prog.funcs[f]? =some fn):
 false=Tryz.pinned.checked.prog.looks []/\∀(j:Nat) t,fn.params[j]? =some t->Tryz.pinned.checked.prog.wantsStandIn t=false:=by
 obtain rfl:f=7:=jW ((show Tryz.prog.funcNamed "antiquary/antiquarylaw21.RetainGivesReceipts" =some 7 by kernel_rfl).symm.trans hf)|>.symm;obtain rfl:fn=Tryz.f7:=(jW (Tryz.func7.symm.trans hfn)).symm;refine⟨ay,fun j t ht=>?_⟩;rw[Tryz.params7] at ht;have hm:t=24\/t=26\/t=5\/t=61:=by simpa using Array.mem_of_getElem? ht
 rcases hm with rfl|rfl|rfl|rfl
 .exact(show Tryz.prog.wantsStandIn 24=false by kernel_rfl)
 .exact(show Tryz.prog.wantsStandIn 26=false by kernel_rfl)
 .exact(show Tryz.prog.wantsStandIn 5=false by kernel_rfl)
 .exact(show Tryz.prog.wantsStandIn 61=false by kernel_rfl)
theorem cardUpto:Rows.RetainGivesReceiptsUptoCardSaid:=
 Claim7.holds_tied_plain_at .later [] _ _ _ _ saidUpto (fun _ h=>bU) ay (fun _ h=>bU) retainGivesReceiptsUpto_row_tie rfl ⟨rfl,rfl⟩ ay rfl plain ay
end Go.Proofs.YteniejlbjfigdaaGreatDoor.receipts
