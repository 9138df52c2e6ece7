/- The law GraphWalksDown holds for every input of bulk at most 1048576: the second form. -/
import Derived.Test.YtabmooekodficaaF1424
set_option linter.all false
namespace Go.Proofs.Ytabmooekodficaa.downs
open Go Go.ChangeShapes Go.WideShapes Go.ChangeAt Go.RowKit Aq Sh graphs
set_option maxRecDepth 100000
theorem ints_small (l:List Int):l.length<=vsr (lv Aq.iv l):=by
 have h:=vsrL_len (l.map Aq.iv) (fun v hv=>by
  obtain⟨x,_,rfl⟩:=Rx.1 hv
  show 0<1+badI .i64 x
  omega)
 rw[Qm] at h
 have e:vsr (lv Aq.iv l)=vsrL (l.map Aq.iv)+1:=by unfold lv;simp only[vsr]
 omega
theorem law {p:PayL R.T ([.int .i64,.slice (.slice (.int .i64)),.st 1,.slice (.int .i64),.int .u8,.int .i64,.int .u8].map Sk.d)} (h:vsrL (encSL R ([.int .i64,.slice (.slice (.int .i64)),.st 1,.slice (.int .i64),.int .u8,.int .i64,.int .u8].map Sk.d) p)<=1048576) (hr:rngL R [.int .i64,.slice (.slice (.int .i64)),.st 1,.slice (.int .i64),.int .u8,.int .i64,.int .u8] p):PureOK Sh.E 3 (encSL R ([.int .i64,.slice (.slice (.int .i64)),.st 1,.slice (.int .i64),.int .u8,.int .i64,.int .u8].map Sk.d) p) (.bool true):=by
 obtain⟨m,l,g,v,fr,t,k⟩:=p
 obtain⟨_,_,_,_,r5,_,r7⟩:=hr
 have q5:(0:Int)<=(show Int from fr)/\(show Int from fr)<=(255:Int):=r5
 have q7:(0:Int)<=(show Int from k)/\(show Int from k)<=(255:Int):=r7
 have h1:vsr (Aq.iv m)+(vsr (lv (lv Aq.iv) l)+(vsr (Graph.v g)+(vsr (lv Aq.iv v)+(vsr (V.int .u8 fr)+(vsr (Aq.iv t)+(vsr (V.int .u8 k)+0))))))<=1048576:=h
 have hv:List.length (α:=Int) v<=1048576:=Qk (ints_small v) (by omega)
 exact(Ze_ok (2^34+1) (m,(l,(g,(v,(fr,(t,k)))))) true (PN (n:=2^34+1) (by decide) m l g v fr t k q5 q7 (Nat.lt_of_le_of_lt hv (by decide)) (Nat.lt_of_le_of_lt hv (by decide)))).ok envOK
theorem contract (H:Type) (enc:TypeId×Value->H) (W:World) (base:Nat) (args:Array Value) (ds gs:List (DataW H)) (before:List MemPlace)
 (hval:∀(j:Nat) t v,Try.f3.params[j]? =some t->args[j]? =some v->Value.okWide Try.prog W .any base t v)
 (hW:DataW.Whole enc Try.prog Try.f3.params.toList Rows.graphWalksDownSpec.vars false W args.toList ds gs before) (hL:laidMetH Try.prog Rows.graphWalksDownUptoRow.laid W)
 (hk:Rows.uptoSmall H (ds++gs)=true):
 Calls Try.prog 3 args W fun e W'=>∃v,e= .returned v/\Rows.graphWalksDownSpec.post enc Try.prog Try.f3 false true false false W args v W':=by
 have hbound:=of_decide_eq_true hk
 have hlen:ds.length=7:=by
  obtain⟨p,q,hA,_⟩:=hW
  have:=(Go.trodAll_length hA).2
  rw[Try.params3] at this
  exact this
 have hgs:gs=[]:=by
  obtain⟨p,q,_,hV,_⟩:=hW
  exact(trodVars_none hV).1
 subst hgs
 rw[QS] at hbound
 refine law_contract2 (E:=Sh.E) (R:=R) (bulkOK H) rOK hty kids (fun ht hu=>slices_full_of Try.prog full _ _ ht hu) (l:=[.int .i64,.slice (.slice (.int .i64)),.st 1,.slice (.int .i64),.int .u8,.int .i64,.int .u8]) (tb:=4) ?_ ?_ rfl ?_ ?_ u4 hval hW glob_ok (fun p hp hr=>law (Qk hp hbound) hr)
 ·rw[Try.params3];rfl
 ·rw[Try.params3]
  intro t ht
  have hs:(26:Nat)<Try.prog.types.size:=of_decide_eq_true (by kernel_rfl)
  simp only[Qt,List.not_mem_nil,or_false] at ht
  show t<Try.prog.types.size
  rcases ht with rfl|rfl|rfl|rfl|rfl|rfl|rfl
  ·exact Nat.lt_trans (by decide) hs
  ·exact Nat.lt_trans (by decide) hs
  ·exact Nat.lt_trans (by decide) hs
  ·exact hs
  ·exact Nat.lt_trans (by decide) hs
  ·exact Nat.lt_trans (by decide) hs
  ·exact Nat.lt_trans (by decide) hs
 ·match ds,hlen with
  | [d1,d2,d3,d4,d5,d6,d7],_=>rfl
 ·kernel_rfl
noncomputable def laidWorld (os:Os):World:=
 World.holding Try.prog os ⟨#[], #[],[]⟩
def wArgs2:Array Value:= #[.int .i64 0,.slice none 0 0,.agg #[.slice none 0 0],.slice none 0 0,.int .u8 0,.int .i64 0,.int .u8 0]
theorem laid_met (os:Os):laidMet Try.prog Rows.graphWalksDownUptoRow.laid ((laidWorld os).forCall (fun _ _=>0) ⟨#[],wArgs2,[]⟩).memory:=
 laidMet_of_run' 8 (by kernel_rfl) (by kernel_rfl)
theorem reads (os:Os) {H:Type} (enc:TypeId×Value->H):∃places,DataW.whole enc Try.prog ((laidWorld os).forCall (fun _ _=>0) ⟨#[],wArgs2,[]⟩).memory Try.f3.params.toList Rows.graphWalksDownSpec.vars false wArgs2.toList 8=some ([.lit (.int .i64 0),.nil,.agg [.nil],.nil,.lit (.int .u8 0),.lit (.int .i64 0),.lit (.int .u8 0)],[],places):=
 ⟨[],by kernel_rfl⟩
theorem liftedUpto (os:Os) (started:os.Started) (H:Type) (enc:TypeId×Value->H) (F:Stop.Interp):
 ReturnsInHanded {} Try.checked os 3 .any ((Rows.OpenSpec.upto Rows.graphWalksDownSpec).preRow enc Try.prog Try.f3 Rows.graphWalksDownUptoRow.domain false Rows.graphWalksDownUptoRow.laid) (((Rows.OpenSpec.upto Rows.graphWalksDownSpec).at F).post enc Try.prog Try.f3 false true false false):=by
 obtain⟨places,hx⟩:=reads os enc
 refine returnsInHanded_of_row (C:=Try.checked) (s:=Rows.OpenSpec.upto Rows.graphWalksDownSpec) own started (by kernel_rfl) Try.func3
  (witness_row_at (enc:=enc) (C:=Try.checked) false (laidWorld os) wArgs2 rfl (by kernel_rfl) (by kernel_rfl) (by kernel_rfl)
    (OpenSpec.preRow_of_cond 8 hx (by kernel_rfl) (fun k hk=>by cases hk;kernel_rfl) (by kernel_rfl) (laid_met os))) ?_
 intro W base args ds gs before hval hW _ hcond _ hL _ _
 exact contract H enc W base args ds gs before hval hW hL (hcond _ rfl)
theorem saidUpto:Rows.GraphWalksDownUptoSaid:=
 OpenClaim.holds_of_cond 3 Try.f3 rfl rfl rfl rfl rfl rfl rfl ⟨rfl,rfl,rfl,rfl,rfl⟩ rfl rfl rfl rfl rfl (by kernel_rfl) Try.func3 (by kernel_rfl)
  (of_decide_eq_true (by kernel_rfl)) (by unfold Func.isWrapper;first| (rw[if_pos (by decide+kernel)];kernel_rfl)| (rw[if_neg (by decide+kernel)];exact⟨rfl,rfl⟩))
  (fun os started H enc _ F=>by rw[OpenClaim.pre_eq_preRow];exact liftedUpto os started H enc F)
end Go.Proofs.Ytabmooekodficaa.downs
