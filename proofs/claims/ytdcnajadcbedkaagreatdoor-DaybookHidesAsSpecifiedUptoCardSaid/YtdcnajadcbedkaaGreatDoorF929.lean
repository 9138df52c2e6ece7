/- The law DaybookHidesAsSpecified holds for every input of bulk at most 1048576: the card of the second form. -/
import Derived.Test.YtdcnajadcbedkaaGreatDoorF928
set_option linter.all false
namespace Go.Proofs.YtdcnajadcbedkaaGreatDoor.hides
open Go Go.ChangeShapes Go.WideShapes Go.ChangeAt Go.RowKit aR Sh daybook
set_option maxRecDepth 100000
theorem law {p:aT R.T ([.st 8,.slice (.st 14),.st 0,.st 10,.slice (.st 0),.st 0,.st 3,.int .i64].map bQ.d)}(h:mK (bM R ([.st 8,.slice (.st 14),.st 0,.st 10,.slice (.st 0),.st 0,.st 3,.int .i64].map bQ.d) p)<=1048576):rJ Sh.E 6 (bM R ([.st 8,.slice (.st 14),.st 0,.st 10,.slice (.st 0),.st 0,.st 3,.int .i64].map bQ.d) p) (.bool true):=by obtain⟨s,l,x3,x4,x5,x6,x7,x8⟩:=p;have h1:iy (aM.v s)+((mK (l.map Event.v)+1)+(iy (Sh.au.v x3)+(iy (Sh.Entry.v x4)+((mK (x5.map Sh.au.v)+1)+(iy (Sh.au.v x6)+(iy (Sh.Root.v x7)+(iy (.int .i64 x8)+0)))))))<=1048576:=h;have hs:=Zm (aM.v s);obtain⟨e1,e2,e3⟩:=aGx (l:=l) (n:=2^40) (k:=1048576) RS RS RS;have e4:=aGy (e:=x4) (k:=1048576) RS;have ht:=aGr (n:=2^40) (x1:=s) (x2:=l) (x3:=x3) (x4:=x4) (x5:=x5) (x6:=x6) (x7:=x7) (x8:=x8) (iR _) (aGu (k:=1048576) RS RS RS) e1 e2 e3 RS RS (aGw (k:=1048576) RS aG);exact(aC0 (2^40) (s,(l,(x3,(x4,(x5,(x6,(x7,x8))))))) true ht).ok alj
theorem contract (H:Type)(enc:TypeId×Value->H)(W:World)(base:Nat)(args:Array Value)(ds gs:List (DataW H))(before:List MemPlace)(hval:∀(j:Nat) t v,Tryz.f6.params[j]? =some t->args[j]? =some v->Value.okWide Tryz.prog W .any base t v)(hW:DataW.Whole enc Tryz.prog Tryz.f6.params.toList Rows.daybookHidesAsSpecifiedSpec.vars false W args.toList ds gs before)(hL:laidMetH Tryz.prog Rows.daybookHidesAsSpecifiedUptoRow.laid W)(hk:Rows.uptoSmall H (ds++gs)=true):
 Calls Tryz.prog 6 args W fun e W'=>∃v,e= .returned v/\Rows.daybookHidesAsSpecifiedSpec.post enc Tryz.prog Tryz.f6 false true false false W args v W':=by
 have hbound:=of_decide_eq_true hk;have hlen:ds.length=8:=by obtain⟨p,q,hA,_⟩:=hW;have:=(Go.trodAll_length hA).2;rw[Tryz.params6] at this;exact this
 have hgs:gs=[]:=by obtain⟨p,q,_,hV,_⟩:=hW;exact(trodVars_none hV).1
 subst hgs;rw[jG] at hbound;refine awJ (E:=Sh.E) (R:=R) (axz H) oK hty kids (fun ht hu=>slices_full_of Tryz.prog full _ _ ht hu) (l:=[.st 8,.slice (.st 14),.st 0,.st 10,.slice (.st 0),.st 0,.st 3,.int .i64]) (tb:=4) ?_ ?_ rfl ?_ ?_ u4 hval hW (axw hL) (fun p hp=>law (eX hp hbound))
 .rw[Tryz.params6];rfl
 .rw[Tryz.params6];intro t ht;have hs:(65:Nat)<Tryz.prog.types.size:=of_decide_eq_true av;simp only[jd,List.not_mem_nil,or_false] at ht;show t<Tryz.prog.types.size;rcases ht with rfl|rfl|rfl|rfl|rfl|rfl|rfl|rfl
  .exact Nat.lt_trans aG hs
  .exact Nat.lt_trans aG hs
  .exact Nat.lt_trans aG hs
  .exact Nat.lt_trans aG hs
  .exact hs
  .exact Nat.lt_trans aG hs
  .exact Nat.lt_trans aG hs
  .exact Nat.lt_trans aG hs
 .match ds,hlen with
  | [d1,d2,d3,d4,d5,d6,d7,d8],_=>rfl
 .kernel_rfl
noncomputable def laidWorld (os:Os):World:=
 {World.holding Tryz.prog os ⟨#[], #[],[]⟩ with heap:=(((World.holding Tryz.prog os ⟨#[], #[],[]⟩).heap.modify 1 fun
   |.cells _ t frozen=>.cells (zY.map fun z=>Value.int .u32 z).toArray t frozen
   |o=>o).modify 2 fun
   |.cells _ t frozen=>.cells (zY.map fun z=>Value.int .u32 z).toArray t frozen
   |o=>o)}
abbrev Lr (n:Nat):List Value:=List.replicate n (.int .u8 0)
abbrev V8 (n:Nat):List Value:=List.replicate n (.int .i64 0)
abbrev agV:List Value:=[.slice none 0 0]
abbrev GN {H:Type}:DataW H:=.agg (List.replicate 16 (.lit (.int .u8 0)))
def V9:Array Value:= #[.agg #[.int .i64 0,.int .i64 0,.slice none 0 0],.slice none 0 0,.agg (Lr 16).toArray,.agg (V8 7++agV++agV).toArray,.slice none 0 0,.agg (Lr 16).toArray,.agg (V8 4++Lr 32++agV++Lr 16++V8 1++Lr 16++V8 2++Lr 16).toArray,.int .i64 0]
theorem laid_met (os:Os):laidMet Tryz.prog Rows.daybookHidesAsSpecifiedUptoRow.laid ((laidWorld os).forCall (fun _ _=>0) ⟨#[],V9,[]⟩).memory:=
 laidMet_of_run' 8 av av
theorem reads (os:Os){H:Type}(enc:TypeId×Value->H):∃places,DataW.whole enc Tryz.prog ((laidWorld os).forCall (fun _ _=>0) ⟨#[],V9,[]⟩).memory Tryz.f6.params.toList Rows.daybookHidesAsSpecifiedSpec.vars false V9.toList 8=some ([.agg [.lit (.int .i64 0),.lit (.int .i64 0),.nil],.nil,GN,.agg [.lit (.int .i64 0),.lit (.int .i64 0),.lit (.int .i64 0),.lit (.int .i64 0),.lit (.int .i64 0),.lit (.int .i64 0),.lit (.int .i64 0),.nil,.nil],.nil,GN,.agg [.lit (.int .i64 0),.lit (.int .i64 0),.lit (.int .i64 0),.lit (.int .i64 0),GN,GN,.nil,GN,.lit (.int .i64 0),GN,.lit (.int .i64 0),.lit (.int .i64 0),GN],.lit (.int .i64 0)],[],places):=
 ⟨[],av⟩
theorem liftedUpto (os:Os)(started:os.Started)(H:Type)(enc:TypeId×Value->H)(F:Stop.Interp):
 ReturnsInHanded {} Tryz.checked os 6 .any ((Rows.OpenSpec.upto Rows.daybookHidesAsSpecifiedSpec).preRow enc Tryz.prog Tryz.f6 Rows.daybookHidesAsSpecifiedUptoRow.domain false Rows.daybookHidesAsSpecifiedUptoRow.laid) (((Rows.OpenSpec.upto Rows.daybookHidesAsSpecifiedSpec).at F).post enc Tryz.prog Tryz.f6 false true false false):=by
 obtain⟨places,hx⟩:=reads os enc;refine returnsInHanded_of_row (C:=Tryz.checked) (s:=Rows.OpenSpec.upto Rows.daybookHidesAsSpecifiedSpec) own started av Tryz.func6
  (witness_row_at (enc:=enc) (C:=Tryz.checked) false (laidWorld os) V9 rfl av av av
    (OpenSpec.preRow_of_cond 8 hx av (fun k hk=>by cases hk;kernel_rfl) av (laid_met os))) ?_
 intro W base args ds gs before hval hW _ hcond _ hL _ _;exact contract H enc W base args ds gs before hval hW hL (hcond _ rfl)
theorem saidUpto:Rows.DaybookHidesAsSpecifiedUptoSaid:=
 OpenClaim.holds_of_cond 6 Tryz.f6 rfl rfl rfl rfl rfl rfl rfl ⟨rfl,rfl,rfl,rfl,rfl⟩ rfl rfl rfl rfl rfl av Tryz.func6 av
  (of_decide_eq_true av) (by unfold Func.isWrapper;first| (rw[if_pos G5];kernel_rfl)| (rw[if_neg G5];exact⟨rfl,rfl⟩))
  (fun os started H enc _ F=>by rw[OpenClaim.pre_eq_preRow];exact liftedUpto os started H enc F)
theorem plain (f:FuncId)(fn:Func)(hf:Tryz.pinned.checked.prog.funcNamed "antiquary/antiquarylaw36.DaybookHidesAsSpecified" =some f)(hfn:Tryz.pinned.checked.prog.funcs[f]? =some fn):
 false=Tryz.pinned.checked.prog.looks []/\∀(j:Nat) t,fn.params[j]? =some t->Tryz.pinned.checked.prog.wantsStandIn t=false:=by
 obtain rfl:f=6:=kP ((show Tryz.prog.funcNamed "antiquary/antiquarylaw36.DaybookHidesAsSpecified" =some 6 by kernel_rfl).symm.trans hf)|>.symm;obtain rfl:fn=Tryz.f6:=(kP (Tryz.func6.symm.trans hfn)).symm;refine⟨av,fun j t ht=>?_⟩;rw[Tryz.params6] at ht;have hm:t=59\/t=60\/t=23\/t=64\/t=65\/t=23\/t=27\/t=3:=by simpa using Array.mem_of_getElem? ht
 rcases hm with rfl|rfl|rfl|rfl|rfl|rfl|rfl|rfl
 .exact(show Tryz.prog.wantsStandIn 59=false by kernel_rfl)
 .exact(show Tryz.prog.wantsStandIn 60=false by kernel_rfl)
 .exact(show Tryz.prog.wantsStandIn 23=false by kernel_rfl)
 .exact(show Tryz.prog.wantsStandIn 64=false by kernel_rfl)
 .exact(show Tryz.prog.wantsStandIn 65=false by kernel_rfl)
 .exact(show Tryz.prog.wantsStandIn 23=false by kernel_rfl)
 .exact(show Tryz.prog.wantsStandIn 27=false by kernel_rfl)
 .exact(show Tryz.prog.wantsStandIn 3=false by kernel_rfl)
theorem cardUpto:Rows.DaybookHidesAsSpecifiedUptoCardSaid:=
 Claim7.holds_tied_plain_at .later [] _ _ _ _ saidUpto (fun _ h=>dh) av (fun _ h=>dh) daybookHidesAsSpecifiedUpto_row_tie rfl ⟨rfl,rfl⟩ av rfl plain av
end Go.Proofs.YtdcnajadcbedkaaGreatDoor.hides
