/- The law DaybookIsAChain holds for every input of bulk at most 1048576: the card of the second form. It leans on the hash constants being laid as the text of the program lays them. -/
import Derived.Test.YtdcnajadcbedkaaGreatDoorS725
set_option linter.all false
set_option linter.unusedSimpArgs false
set_option linter.unusedSectionVars false
namespace Go.Proofs.YtdcnajadcbedkaaGreatDoor.chains
open Go Go.ChangeShapes Go.WideShapes Go.ChangeAt Go.RowKit Aq Sh daybook
set_option maxRecDepth 100000
theorem law {p:aH R.T ([.int .u8,.slice (.st 3),.int .u8,.st 3].map Sk.d)} (h:jl (bf R ([.int .u8,.slice (.st 3),.int .u8,.st 3].map Sk.d) p)≤1048576):qG Sh.E 4 (bf R ([.int .u8,.slice (.st 3),.int .u8,.st 3].map Sk.d) p) (.bool true):=by
 obtain⟨c,l,x3,x4⟩:=p
 have h1:fq (.int .u8 c)+((jl (List.map Sh.Root.v l)+1)+(fq (.int .u8 x3)+(fq (Sh.Root.v x4)+0)))≤1048576:=h
 have hc:=byte_of (n:=c) (k:=1048576) (by omega) (by decide)
 have h3:=byte_of (n:=x3) (k:=1048576) (by omega) (by decide)
 have hm:=alm (r:=x4) (k:=1048576) (by omega)
 have ht:=alh (n:=2^40) (c:=c) (x3:=x3) (x4:=x4) (l:=l) hc.1 hc.2 h3.1 h3.2 (by omega) (by omega) (by decide)
 exact(ajr (2^40) (c,(l,(x3,x4))) true ht).ok agw
theorem contract (H:Type) (enc:TypeId×Value→H) (W:World) (base:Nat) (args:Array Value) (ds gs:List (DataW H)) (before:List MemPlace)
 (hval:∀(j:Nat) t v,Tryz.f4.params[j]? =some t→args[j]? =some v→Value.okWide Tryz.prog W .any base t v)
 (hW:DataW.Whole enc Tryz.prog Tryz.f4.params.toList Rows.daybookIsAChainSpec.vars false W args.toList ds gs before) (hL:laidMetH Tryz.prog Rows.daybookIsAChainUptoRow.laid W)
 (hk:Rows.uptoSmall H (ds++gs)=true):
 Calls Tryz.prog 4 args W fun e W'=> ∃v,e= .returned v∧Rows.daybookIsAChainSpec.post enc Tryz.prog Tryz.f4 false true false false W args v W':=by
 have hbound:=of_decide_eq_true hk
 have hlen:ds.length=4:=by
  obtain⟨p,q,hA,_⟩:=hW
  have:=(Go.trodAll_length hA).2
  rw[Tryz.params4] at this
  exact this
 have hgs:gs=[]:=by
  obtain⟨p,q,_,hV,_⟩:=hW
  exact(trodVars_none hV).1
 subst hgs
 rw[List.append_nil] at hbound
 refine afC (E:=Sh.E) (R:=R) (agG H) OI hty kids (fun ht hu=>slices_full_of Tryz.prog full _ _ ht hu) (l:=[.int .u8,.slice (.st 3),.int .u8,.st 3]) (tb:=4) ?_ ?_ rfl ?_ ?_ u4 hval hW (agD hL) (fun p hp=>law (Nat.le_trans hp hbound))
 ·rw[Tryz.params4];rfl
 ·rw[Tryz.params4]
  intro t ht
  have hs:(46:Nat)<Tryz.prog.types.size:=of_decide_eq_true (by kernel_rfl)
  simp only[List.mem_cons,List.not_mem_nil,or_false] at ht
  show t<Tryz.prog.types.size
  rcases ht with rfl|rfl|rfl|rfl
  ·exact Nat.lt_trans (by decide) hs
  ·exact hs
  ·exact Nat.lt_trans (by decide) hs
  ·exact Nat.lt_trans (by decide) hs
 ·match ds,hlen with
  | [d1,d2,d3,d4],_=>rfl
 ·kernel_rfl
noncomputable def laidWorld (os:Os):World:=
 {World.holding Tryz.prog os ⟨#[], #[],[]⟩ with heap:=((World.holding Tryz.prog os ⟨#[], #[],[]⟩).heap.modify 1 fun
   |.cells _ t frozen=>.cells (vT.map fun z=>Value.int .u32 z).toArray t frozen
   |o=>o)}
def KF:Array Value:= #[.int .u8 0,.slice none 0 0,.int .u8 0,.agg #[.int .i64 0,.int .i64 0,.int .i64 0,.int .i64 0,.int .u8 0,.int .u8 0,.int .u8 0,.int .u8 0,.int .u8 0,.int .u8 0,.int .u8 0,.int .u8 0,.int .u8 0,.int .u8 0,.int .u8 0,.int .u8 0,.int .u8 0,.int .u8 0,.int .u8 0,.int .u8 0,.int .u8 0,.int .u8 0,.int .u8 0,.int .u8 0,.int .u8 0,.int .u8 0,.int .u8 0,.int .u8 0,.int .u8 0,.int .u8 0,.int .u8 0,.int .u8 0,.int .u8 0,.int .u8 0,.int .u8 0,.int .u8 0,.slice none 0 0,.int .u8 0,.int .u8 0,.int .u8 0,.int .u8 0,.int .u8 0,.int .u8 0,.int .u8 0,.int .u8 0,.int .u8 0,.int .u8 0,.int .u8 0,.int .u8 0,.int .u8 0,.int .u8 0,.int .u8 0,.int .u8 0,.int .i64 0,.int .u8 0,.int .u8 0,.int .u8 0,.int .u8 0,.int .u8 0,.int .u8 0,.int .u8 0,.int .u8 0,.int .u8 0,.int .u8 0,.int .u8 0,.int .u8 0,.int .u8 0,.int .u8 0,.int .u8 0,.int .u8 0,.int .i64 0,.int .i64 0,.int .u8 0,.int .u8 0,.int .u8 0,.int .u8 0,.int .u8 0,.int .u8 0,.int .u8 0,.int .u8 0,.int .u8 0,.int .u8 0,.int .u8 0,.int .u8 0,.int .u8 0,.int .u8 0,.int .u8 0,.int .u8 0]]
theorem laid_met (os:Os):laidMet Tryz.prog Rows.daybookIsAChainUptoRow.laid ((laidWorld os).forCall (fun _ _=>0) ⟨#[],KF,[]⟩).memory:=
 laidMet_of_run' 8 (by kernel_rfl) (by kernel_rfl)
theorem reads (os:Os) {H:Type} (enc:TypeId×Value→H):∃places,DataW.whole enc Tryz.prog ((laidWorld os).forCall (fun _ _=>0) ⟨#[],KF,[]⟩).memory Tryz.f4.params.toList Rows.daybookIsAChainSpec.vars false KF.toList 8=some ([.lit (.int .u8 0),.nil,.lit (.int .u8 0),.agg [.lit (.int .i64 0),.lit (.int .i64 0),.lit (.int .i64 0),.lit (.int .i64 0),.agg [.lit (.int .u8 0),.lit (.int .u8 0),.lit (.int .u8 0),.lit (.int .u8 0),.lit (.int .u8 0),.lit (.int .u8 0),.lit (.int .u8 0),.lit (.int .u8 0),.lit (.int .u8 0),.lit (.int .u8 0),.lit (.int .u8 0),.lit (.int .u8 0),.lit (.int .u8 0),.lit (.int .u8 0),.lit (.int .u8 0),.lit (.int .u8 0)],.agg [.lit (.int .u8 0),.lit (.int .u8 0),.lit (.int .u8 0),.lit (.int .u8 0),.lit (.int .u8 0),.lit (.int .u8 0),.lit (.int .u8 0),.lit (.int .u8 0),.lit (.int .u8 0),.lit (.int .u8 0),.lit (.int .u8 0),.lit (.int .u8 0),.lit (.int .u8 0),.lit (.int .u8 0),.lit (.int .u8 0),.lit (.int .u8 0)],.nil,.agg [.lit (.int .u8 0),.lit (.int .u8 0),.lit (.int .u8 0),.lit (.int .u8 0),.lit (.int .u8 0),.lit (.int .u8 0),.lit (.int .u8 0),.lit (.int .u8 0),.lit (.int .u8 0),.lit (.int .u8 0),.lit (.int .u8 0),.lit (.int .u8 0),.lit (.int .u8 0),.lit (.int .u8 0),.lit (.int .u8 0),.lit (.int .u8 0)],.lit (.int .i64 0),.agg [.lit (.int .u8 0),.lit (.int .u8 0),.lit (.int .u8 0),.lit (.int .u8 0),.lit (.int .u8 0),.lit (.int .u8 0),.lit (.int .u8 0),.lit (.int .u8 0),.lit (.int .u8 0),.lit (.int .u8 0),.lit (.int .u8 0),.lit (.int .u8 0),.lit (.int .u8 0),.lit (.int .u8 0),.lit (.int .u8 0),.lit (.int .u8 0)],.lit (.int .i64 0),.lit (.int .i64 0),.agg [.lit (.int .u8 0),.lit (.int .u8 0),.lit (.int .u8 0),.lit (.int .u8 0),.lit (.int .u8 0),.lit (.int .u8 0),.lit (.int .u8 0),.lit (.int .u8 0),.lit (.int .u8 0),.lit (.int .u8 0),.lit (.int .u8 0),.lit (.int .u8 0),.lit (.int .u8 0),.lit (.int .u8 0),.lit (.int .u8 0),.lit (.int .u8 0)]]],[],places):=
 ⟨[],by kernel_rfl⟩
theorem liftedUpto (os:Os) (started:os.Started) (H:Type) (enc:TypeId×Value→H) (F:Stop.Interp):
 ReturnsInHanded {} Tryz.checked os 4 .any ((Rows.OpenSpec.upto Rows.daybookIsAChainSpec).preRow enc Tryz.prog Tryz.f4 Rows.daybookIsAChainUptoRow.domain false Rows.daybookIsAChainUptoRow.laid) (((Rows.OpenSpec.upto Rows.daybookIsAChainSpec).at F).post enc Tryz.prog Tryz.f4 false true false false):=by
 obtain⟨places,hx⟩:=reads os enc
 refine returnsInHanded_of_row (C:=Tryz.checked) (s:=Rows.OpenSpec.upto Rows.daybookIsAChainSpec) own started (by kernel_rfl) Tryz.func4
  (witness_row_at (enc:=enc) (C:=Tryz.checked) false (laidWorld os) KF rfl (by kernel_rfl) (by kernel_rfl) (by kernel_rfl)
    (OpenSpec.preRow_of_cond 8 hx (by kernel_rfl) (fun k hk=>by cases hk;kernel_rfl) (by kernel_rfl) (laid_met os))) ?_
 intro W base args ds gs before hval hW _ hcond _ hL _ _
 exact contract H enc W base args ds gs before hval hW hL (hcond _ rfl)
theorem saidUpto:Rows.DaybookIsAChainUptoSaid:=
 OpenClaim.holds_of_cond 4 Tryz.f4 rfl rfl rfl rfl rfl rfl rfl ⟨rfl,rfl,rfl,rfl,rfl⟩ rfl rfl rfl rfl rfl (by kernel_rfl) Tryz.func4 (by kernel_rfl)
  (of_decide_eq_true (by kernel_rfl)) (by unfold Func.isWrapper;first| (rw[if_pos (by decide+kernel)];kernel_rfl)| (rw[if_neg (by decide+kernel)];exact⟨rfl,rfl⟩))
  (fun os started H enc _ F=>by rw[OpenClaim.pre_eq_preRow];exact liftedUpto os started H enc F)
theorem plain (f:FuncId) (fn:Func) (hf:Tryz.pinned.checked.prog.funcNamed "antiquary/antiquarylaw36.DaybookIsAChain" =some f) (hfn:Tryz.pinned.checked.prog.funcs[f]? =some fn):
 false=Tryz.pinned.checked.prog.looks []∧∀(j:Nat) t,fn.params[j]? =some t→Tryz.pinned.checked.prog.wantsStandIn t=false:=by
 obtain rfl:f=4:=Option.some.inj ((show Tryz.prog.funcNamed "antiquary/antiquarylaw36.DaybookIsAChain" =some 4 by kernel_rfl).symm.trans hf)|>.symm
 obtain rfl:fn=Tryz.f4:=(Option.some.inj (Tryz.func4.symm.trans hfn)).symm
 refine⟨by kernel_rfl,fun j t ht=> ?_⟩
 rw[Tryz.params4] at ht
 have hm:t=5∨t=46∨t=5∨t=27:=by simpa using Array.mem_of_getElem? ht
 rcases hm with rfl|rfl|rfl|rfl
 ·exact(show Tryz.prog.wantsStandIn 5=false by kernel_rfl)
 ·exact(show Tryz.prog.wantsStandIn 46=false by kernel_rfl)
 ·exact(show Tryz.prog.wantsStandIn 5=false by kernel_rfl)
 ·exact(show Tryz.prog.wantsStandIn 27=false by kernel_rfl)
theorem cardUpto:Rows.DaybookIsAChainUptoCardSaid:=
 Claim7.holds_tied_plain_at .later [] _ _ _ _ saidUpto (fun _ h=>by cases h) (by kernel_rfl) (fun _ h=>by cases h) daybookIsAChainUpto_row_tie rfl ⟨rfl,rfl⟩ (by kernel_rfl) rfl plain (by kernel_rfl)
end Go.Proofs.YtdcnajadcbedkaaGreatDoor.chains
