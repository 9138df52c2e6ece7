/- The law DaybookOpensTheVault holds for every input of bulk at most 1048576: the card of the second form. -/
import Derived.Test.YtdcnajadcbedkaaGreatDoorF1028
set_option linter.all false
namespace Go.Proofs.YtdcnajadcbedkaaGreatDoor.opens
open Go Go.ChangeShapes Go.WideShapes Go.ChangeAt Go.RowKit aQ Sh daybook
set_option maxRecDepth 100000
theorem law {p:aV R.T ([.st 8,.slice (.st 14),.st 0].map bO.d)}(h:ni (bR R ([.st 8,.slice (.st 14),.st 0].map bO.d) p)<=1048576):rT Sh.E 7 (bR R ([.st 8,.slice (.st 14),.st 0].map bO.d) p) (.bool true):=by obtain⟨s,l,x3⟩:=p;have h1:jm (aM.v s)+((ni (l.map Event.v)+1)+(jm (Sh.au.v x3)+0))<=1048576:=h;have hs:=aj7 (aM.v s);obtain⟨e1,e2,e3⟩:=aE9 (l:=l) (n:=2^40) (k:=1048576) RS RS RS;have ht:=aFf (n:=2^40) (x1:=s) (x2:=l) (x3:=x3) RS (aE5 (k:=1048576) RS RS RS) e1 e2 e3;exact(amZ (2^40) (s,(l,x3)) true ht).ok akv
theorem contract (H:Type)(enc:TypeId×Value->H)(W:World)(base:Nat)(args:Array Value)(ds gs:List (DataW H))(before:List MemPlace)(hval:∀(j:Nat) t v,Tryz.f7.params[j]? =some t->args[j]? =some v->Value.okWide Tryz.prog W .any base t v)(hW:DataW.Whole enc Tryz.prog Tryz.f7.params.toList Rows.daybookOpensTheVaultSpec.vars false W args.toList ds gs before)(hL:laidMetH Tryz.prog Rows.daybookOpensTheVaultUptoRow.laid W)(hk:Rows.uptoSmall H (ds++gs)=true):
 Calls Tryz.prog 7 args W fun e W'=>∃v,e= .returned v/\Rows.daybookOpensTheVaultSpec.post enc Tryz.prog Tryz.f7 false true false false W args v W':=by
 have hbound:=of_decide_eq_true hk;have hlen:ds.length=3:=by obtain⟨p,q,hA,_⟩:=hW;have:=(Go.trodAll_length hA).2;rw[Tryz.params7] at this;exact this
 have hgs:gs=[]:=by obtain⟨p,q,_,hV,_⟩:=hW;exact(trodVars_none hV).1
 subst hgs;rw[jD] at hbound;refine avP (E:=Sh.E) (R:=R) (awI H) p8 hty kids (fun ht hu=>slices_full_of Tryz.prog full _ _ ht hu) (l:=[.st 8,.slice (.st 14),.st 0]) (tb:=4) ?_ ?_ rfl ?_ ?_ u4 hval hW (awF hL) (fun p hp=>law (eZ hp hbound))
 .rw[Tryz.params7];rfl
 .rw[Tryz.params7];intro t ht;have hs:(60:Nat)<Tryz.prog.types.size:=of_decide_eq_true av;simp only[jr,List.not_mem_nil,or_false] at ht;show t<Tryz.prog.types.size;rcases ht with rfl|rfl|rfl
  .exact Nat.lt_trans aK hs
  .exact hs
  .exact Nat.lt_trans aK hs
 .match ds,hlen with
  | [d1,d2,d3],_=>rfl
 .kernel_rfl
noncomputable def laidWorld (os:Os):World:=
 {World.holding Tryz.prog os ⟨#[], #[],[]⟩ with heap:=(((World.holding Tryz.prog os ⟨#[], #[],[]⟩).heap.modify 1 fun
   |.cells _ t frozen=>.cells (zR.map fun z=>Value.int .u32 z).toArray t frozen
   |o=>o).modify 2 fun
   |.cells _ t frozen=>.cells (zR.map fun z=>Value.int .u32 z).toArray t frozen
   |o=>o)}
abbrev aFg (n:Nat):List Value:=List.replicate n (.int .u8 0)
abbrev aFh {H:Type}:DataW H:=.agg (List.replicate 16 (.lit (.int .u8 0)))
def VH:Array Value:= #[.agg #[.int .i64 0,.int .i64 0,.slice none 0 0],.slice none 0 0,.agg (aFg 16).toArray]
theorem laid_met (os:Os):laidMet Tryz.prog Rows.daybookOpensTheVaultUptoRow.laid ((laidWorld os).forCall (fun _ _=>0) ⟨#[],VH,[]⟩).memory:=
 laidMet_of_run' 8 av av
theorem reads (os:Os){H:Type}(enc:TypeId×Value->H):∃places,DataW.whole enc Tryz.prog ((laidWorld os).forCall (fun _ _=>0) ⟨#[],VH,[]⟩).memory Tryz.f7.params.toList Rows.daybookOpensTheVaultSpec.vars false VH.toList 8=some ([.agg [.lit (.int .i64 0),.lit (.int .i64 0),.nil],.nil,aFh],[],places):=
 ⟨[],av⟩
theorem liftedUpto (os:Os)(started:os.Started)(H:Type)(enc:TypeId×Value->H)(F:Stop.Interp):
 ReturnsInHanded {} Tryz.checked os 7 .any ((Rows.OpenSpec.upto Rows.daybookOpensTheVaultSpec).preRow enc Tryz.prog Tryz.f7 Rows.daybookOpensTheVaultUptoRow.domain false Rows.daybookOpensTheVaultUptoRow.laid) (((Rows.OpenSpec.upto Rows.daybookOpensTheVaultSpec).at F).post enc Tryz.prog Tryz.f7 false true false false):=by
 obtain⟨places,hx⟩:=reads os enc;refine returnsInHanded_of_row (C:=Tryz.checked) (s:=Rows.OpenSpec.upto Rows.daybookOpensTheVaultSpec) own started av Tryz.func7
  (witness_row_at (enc:=enc) (C:=Tryz.checked) false (laidWorld os) VH rfl av av av
    (OpenSpec.preRow_of_cond 8 hx av (fun k hk=>by cases hk;kernel_rfl) av (laid_met os))) ?_
 intro W base args ds gs before hval hW _ hcond _ hL _ _;exact contract H enc W base args ds gs before hval hW hL (hcond _ rfl)
theorem saidUpto:Rows.DaybookOpensTheVaultUptoSaid:=
 OpenClaim.holds_of_cond 7 Tryz.f7 rfl rfl rfl rfl rfl rfl rfl ⟨rfl,rfl,rfl,rfl,rfl⟩ rfl rfl rfl rfl rfl av Tryz.func7 av
  (of_decide_eq_true av) (by unfold Func.isWrapper;first| (rw[if_pos Gz];kernel_rfl)| (rw[if_neg Gz];exact⟨rfl,rfl⟩))
  (fun os started H enc _ F=>by rw[OpenClaim.pre_eq_preRow];exact liftedUpto os started H enc F)
theorem plain (f:FuncId)(fn:Func)(hf:Tryz.pinned.checked.prog.funcNamed "antiquary/antiquarylaw36.DaybookOpensTheVault" =some f)(hfn:Tryz.pinned.checked.prog.funcs[f]? =some fn):
 false=Tryz.pinned.checked.prog.looks []/\∀(j:Nat) t,fn.params[j]? =some t->Tryz.pinned.checked.prog.wantsStandIn t=false:=by
 obtain rfl:f=7:=kS ((show Tryz.prog.funcNamed "antiquary/antiquarylaw36.DaybookOpensTheVault" =some 7 by kernel_rfl).symm.trans hf)|>.symm;obtain rfl:fn=Tryz.f7:=(kS (Tryz.func7.symm.trans hfn)).symm;refine⟨av,fun j t ht=>?_⟩;rw[Tryz.params7] at ht;have hm:t=59\/t=60\/t=23:=by simpa using Array.mem_of_getElem? ht
 rcases hm with rfl|rfl|rfl
 .exact(show Tryz.prog.wantsStandIn 59=false by kernel_rfl)
 .exact(show Tryz.prog.wantsStandIn 60=false by kernel_rfl)
 .exact(show Tryz.prog.wantsStandIn 23=false by kernel_rfl)
theorem cardUpto:Rows.DaybookOpensTheVaultUptoCardSaid:=
 Claim7.holds_tied_plain_at .later [] _ _ _ _ saidUpto (fun _ h=>cZ) av (fun _ h=>cZ) daybookOpensTheVaultUpto_row_tie rfl ⟨rfl,rfl⟩ av rfl plain av
end Go.Proofs.YtdcnajadcbedkaaGreatDoor.opens
