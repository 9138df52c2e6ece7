/- The law DaybookKeepsSecrets holds for every input of bulk at most 1048576: the card of the second form. It leans on the hash constants being laid as the text of the program lays them. -/
import Derived.Test.YtdcnajadcbedkaaGreatDoorS1226
set_option linter.all false
namespace Go.Proofs.YtdcnajadcbedkaaGreatDoor.secrets
open Go Go.ChangeShapes Go.WideShapes Go.ChangeAt Go.RowKit Aq Sh daybook
set_option maxRecDepth 100000
theorem law {p:aA R.T ([.st 8,.slice (.st 14),.int .u8,.st 15,.slice (.int .i64)].map Sk.d)} (h:nT (bG R ([.st 8,.slice (.st 14),.int .u8,.st 15,.slice (.int .i64)].map Sk.d) p)<=1048576):sU Sh.E 9 (bG R ([.st 8,.slice (.st 14),.int .u8,.st 15,.slice (.int .i64)].map Sk.d) p) (.bool true):=by
 obtain⟨s,l,x3,x4,x5⟩:=p
 have h1:jY (ak.v s)+((nT (l.map Event.v)+1)+(jY (.int .u8 x3)+(jY (Snapshot.v x4)+((nT (x5.map iv)+1)+0))))<=1048576:=h
 have hs:=aaz (ak.v s)
 have hl:=G6 (l.map Event.v)
 have hx:=G6 (x5.map iv)
 have hx2:=Bf iv (fun x=>RS _) x5
 have hc:=byte_of (n:=x3) (k:=1048576) (by omega) (by decide)
 obtain⟨e1,e2,e3⟩:=aqt (l:=l) (n:=2^40) (k:=1048576) (by omega) (by omega) (by omega)
 have e4:=Bf Event.v (fun x=>by have:=VA x;omega) l
 have ht:=aqo (n:=2^40) (s:=s) (l:=l) (k:=x3) (at_:=x4) (vec:=x5) (by omega) (aqs (k:=1048576) (by omega) (by omega) (by omega)) e1 (by omega) e3 hc (by omega)
 exact(anQ (2^40) (s,(l,(x3,(x4,x5)))) true ht).ok akF
theorem contract (H:Type) (enc:TypeId×Value->H) (W:World) (base:Nat) (args:Array Value) (ds gs:List (DataW H)) (before:List MemPlace)
 (hval:∀(j:Nat) t v,Tryz.f9.params[j]? =some t->args[j]? =some v->Value.okWide Tryz.prog W .any base t v)
 (hW:DataW.Whole enc Tryz.prog Tryz.f9.params.toList Rows.daybookKeepsSecretsSpec.vars false W args.toList ds gs before) (hL:laidMetH Tryz.prog Rows.daybookKeepsSecretsUptoRow.laid W)
 (hk:Rows.uptoSmall H (ds++gs)=true):
 Calls Tryz.prog 9 args W fun e W'=> ∃v,e= .returned v/\Rows.daybookKeepsSecretsSpec.post enc Tryz.prog Tryz.f9 false true false false W args v W':=by
 have hbound:=of_decide_eq_true hk
 have hlen:ds.length=5:=by
  obtain⟨p,q,hA,_⟩:=hW
  have:=(Go.trodAll_length hA).2
  rw[Tryz.params9] at this
  exact this
 have hgs:gs=[]:=by
  obtain⟨p,q,_,hV,_⟩:=hW
  exact(trodVars_none hV).1
 subst hgs
 rw[aeX] at hbound
 refine aj8 (E:=Sh.E) (R:=R) (akP H) nU hty kids (fun ht hu=>slices_full_of Tryz.prog full _ _ ht hu) (l:=[.st 8,.slice (.st 14),.int .u8,.st 15,.slice (.int .i64)]) (tb:=4) ?_ ?_ rfl ?_ ?_ u4 hval hW (akM hL) (fun p hp=>law (aav hp hbound))
 ·rw[Tryz.params9];rfl
 ·rw[Tryz.params9]
  intro t ht
  have hs:(100:Nat)<Tryz.prog.types.size:=of_decide_eq_true (by kernel_rfl)
  simp only[adf,List.not_mem_nil,or_false] at ht
  show t<Tryz.prog.types.size
  rcases ht with rfl|rfl|rfl|rfl|rfl
  ·exact Nat.lt_trans (by decide) hs
  ·exact Nat.lt_trans (by decide) hs
  ·exact Nat.lt_trans (by decide) hs
  ·exact hs
  ·exact Nat.lt_trans (by decide) hs
 ·match ds,hlen with
  | [d1,d2,d3,d4,d5],_=>rfl
 ·kernel_rfl
noncomputable def laidWorld (os:Os):World:=
 {World.holding Tryz.prog os ⟨#[], #[],[]⟩ with heap:=((World.holding Tryz.prog os ⟨#[], #[],[]⟩).heap.modify 1 fun
   |.cells _ t frozen=>.cells (yD.map fun z=>Value.int .u32 z).toArray t frozen
   |o=>o)}
def P5:Array Value:= #[.agg #[.int .i64 0,.int .i64 0,.slice none 0 0],.slice none 0 0,.int .u8 0,.agg #[.int .i64 0,.int .i64 0],.slice none 0 0]
theorem laid_met (os:Os):laidMet Tryz.prog Rows.daybookKeepsSecretsUptoRow.laid ((laidWorld os).forCall (fun _ _=>0) ⟨#[],P5,[]⟩).memory:=
 laidMet_of_run' 8 (by kernel_rfl) (by kernel_rfl)
theorem reads (os:Os) {H:Type} (enc:TypeId×Value->H):∃places,DataW.whole enc Tryz.prog ((laidWorld os).forCall (fun _ _=>0) ⟨#[],P5,[]⟩).memory Tryz.f9.params.toList Rows.daybookKeepsSecretsSpec.vars false P5.toList 8=some ([.agg [.lit (.int .i64 0),.lit (.int .i64 0),.nil],.nil,.lit (.int .u8 0),.agg [.lit (.int .i64 0),.lit (.int .i64 0)],.nil],[],places):=
 ⟨[],by kernel_rfl⟩
theorem liftedUpto (os:Os) (started:os.Started) (H:Type) (enc:TypeId×Value->H) (F:Stop.Interp):
 ReturnsInHanded {} Tryz.checked os 9 .any ((Rows.OpenSpec.upto Rows.daybookKeepsSecretsSpec).preRow enc Tryz.prog Tryz.f9 Rows.daybookKeepsSecretsUptoRow.domain false Rows.daybookKeepsSecretsUptoRow.laid) (((Rows.OpenSpec.upto Rows.daybookKeepsSecretsSpec).at F).post enc Tryz.prog Tryz.f9 false true false false):=by
 obtain⟨places,hx⟩:=reads os enc
 refine returnsInHanded_of_row (C:=Tryz.checked) (s:=Rows.OpenSpec.upto Rows.daybookKeepsSecretsSpec) own started (by kernel_rfl) Tryz.func9
  (witness_row_at (enc:=enc) (C:=Tryz.checked) false (laidWorld os) P5 rfl (by kernel_rfl) (by kernel_rfl) (by kernel_rfl)
    (OpenSpec.preRow_of_cond 8 hx (by kernel_rfl) (fun k hk=>by cases hk;kernel_rfl) (by kernel_rfl) (laid_met os))) ?_
 intro W base args ds gs before hval hW _ hcond _ hL _ _
 exact contract H enc W base args ds gs before hval hW hL (hcond _ rfl)
theorem saidUpto:Rows.DaybookKeepsSecretsUptoSaid:=
 OpenClaim.holds_of_cond 9 Tryz.f9 rfl rfl rfl rfl rfl rfl rfl ⟨rfl,rfl,rfl,rfl,rfl⟩ rfl rfl rfl rfl rfl (by kernel_rfl) Tryz.func9 (by kernel_rfl)
  (of_decide_eq_true (by kernel_rfl)) (by unfold Func.isWrapper;first| (rw[if_pos (by decide+kernel)];kernel_rfl)| (rw[if_neg (by decide+kernel)];exact⟨rfl,rfl⟩))
  (fun os started H enc _ F=>by rw[OpenClaim.pre_eq_preRow];exact liftedUpto os started H enc F)
theorem plain (f:FuncId) (fn:Func) (hf:Tryz.pinned.checked.prog.funcNamed "antiquary/antiquarylaw36.DaybookKeepsSecrets" =some f) (hfn:Tryz.pinned.checked.prog.funcs[f]? =some fn):
 false=Tryz.pinned.checked.prog.looks []/\∀(j:Nat) t,fn.params[j]? =some t->Tryz.pinned.checked.prog.wantsStandIn t=false:=by
 obtain rfl:f=9:=adG ((show Tryz.prog.funcNamed "antiquary/antiquarylaw36.DaybookKeepsSecrets" =some 9 by kernel_rfl).symm.trans hf)|>.symm
 obtain rfl:fn=Tryz.f9:=(adG (Tryz.func9.symm.trans hfn)).symm
 refine⟨by kernel_rfl,fun j t ht=> ?_⟩
 rw[Tryz.params9] at ht
 have hm:t=59\/t=60\/t=5\/t=100\/t=61:=by simpa using Array.mem_of_getElem? ht
 rcases hm with rfl|rfl|rfl|rfl|rfl
 ·exact(show Tryz.prog.wantsStandIn 59=false by kernel_rfl)
 ·exact(show Tryz.prog.wantsStandIn 60=false by kernel_rfl)
 ·exact(show Tryz.prog.wantsStandIn 5=false by kernel_rfl)
 ·exact(show Tryz.prog.wantsStandIn 100=false by kernel_rfl)
 ·exact(show Tryz.prog.wantsStandIn 61=false by kernel_rfl)
theorem cardUpto:Rows.DaybookKeepsSecretsUptoCardSaid:=
 Claim7.holds_tied_plain_at .later [] _ _ _ _ saidUpto (fun _ h=>by cases h) (by kernel_rfl) (fun _ h=>by cases h) daybookKeepsSecretsUpto_row_tie rfl ⟨rfl,rfl⟩ (by kernel_rfl) rfl plain (by kernel_rfl)
end Go.Proofs.YtdcnajadcbedkaaGreatDoor.secrets
