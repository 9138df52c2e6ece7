/- The law GraphOfAllIsSure holds for every input of bulk at most 1048576: the second form. -/
import Derived.Test.YtabmooekodficaaF2124
set_option linter.all false
namespace Go.Proofs.Ytabmooekodficaa.alls
open Go Go.ChangeShapes Go.WideShapes Go.ChangeAt Go.RowKit Aq Sh graphs
set_option maxRecDepth 100000
theorem ints_small (l:List Int):l.length<=vsr (lv Aq.iv l):=by
 have h:=vsrL_len (l.map Aq.iv) (fun v hv=>by
  obtain⟨x,_,rfl⟩:=Rx.1 hv
  show 0<1+badI .i64 x
  omega)
 rw[Qy] at h
 have e:vsr (lv Aq.iv l)=vsrL (l.map Aq.iv)+1:=by unfold lv;simp only[vsr]
 omega
theorem law {p:PayL R.T ([.int .i64,.slice (.slice (.int .i64)),.slice (.int .i64),.int .u8,.int .i64,.int .u8].map Sk.d)} (h:vsrL (encSL R ([.int .i64,.slice (.slice (.int .i64)),.slice (.int .i64),.int .u8,.int .i64,.int .u8].map Sk.d) p)<=1048576) (hr:rngL R [.int .i64,.slice (.slice (.int .i64)),.slice (.int .i64),.int .u8,.int .i64,.int .u8] p):PureOK Sh.E 5 (encSL R ([.int .i64,.slice (.slice (.int .i64)),.slice (.int .i64),.int .u8,.int .i64,.int .u8].map Sk.d) p) (.bool true):=by
 obtain⟨m,l,v,fr,t,k⟩:=p
 obtain⟨_,_,_,r4,_,r6⟩:=hr
 have q4:(0:Int)<=(show Int from fr)/\(show Int from fr)<=(255:Int):=r4
 have q6:(0:Int)<=(show Int from k)/\(show Int from k)<=(255:Int):=r6
 have h1:vsr (Aq.iv m)+(vsr (lv (lv Aq.iv) l)+(vsr (lv Aq.iv v)+(vsr (V.int .u8 fr)+(vsr (Aq.iv t)+(vsr (V.int .u8 k)+0)))))<=1048576:=h
 have hv:List.length (α:=Int) v<=1048576:=Qw (ints_small v) (by omega)
 exact(ZT_ok (2^34+1) (m,(l,(v,(fr,(t,k))))) true (P8 (n:=2^34+1) (by decide) m l v fr t k q4 q6 (Nat.lt_of_le_of_lt hv (by decide)) (Nat.lt_of_le_of_lt hv (by decide)))).ok envOK
theorem contract (H:Type) (enc:TypeId×Value->H) (W:World) (base:Nat) (args:Array Value) (ds gs:List (DataW H)) (before:List MemPlace)
 (hval:∀(j:Nat) t v,Try.f5.params[j]? =some t->args[j]? =some v->Value.okWide Try.prog W .any base t v)
 (hW:DataW.Whole enc Try.prog Try.f5.params.toList Rows.graphOfAllIsSureSpec.vars false W args.toList ds gs before) (hL:laidMetH Try.prog Rows.graphOfAllIsSureUptoRow.laid W)
 (hk:Rows.uptoSmall H (ds++gs)=true):
 Calls Try.prog 5 args W fun e W'=>∃v,e= .returned v/\Rows.graphOfAllIsSureSpec.post enc Try.prog Try.f5 false true false false W args v W':=by
 have hbound:=of_decide_eq_true hk
 have hlen:ds.length=6:=by
  obtain⟨p,q,hA,_⟩:=hW
  have:=(Go.trodAll_length hA).2
  rw[Try.params5] at this
  exact this
 have hgs:gs=[]:=by
  obtain⟨p,q,_,hV,_⟩:=hW
  exact(trodVars_none hV).1
 subst hgs
 rw[QX] at hbound
 refine law_contract2 (E:=Sh.E) (R:=R) (bulkOK H) rOK hty kids (fun ht hu=>slices_full_of Try.prog full _ _ ht hu) (l:=[.int .i64,.slice (.slice (.int .i64)),.slice (.int .i64),.int .u8,.int .i64,.int .u8]) (tb:=4) ?_ ?_ rfl ?_ ?_ u4 hval hW glob_ok (fun p hp hr=>law (Qw hp hbound) hr)
 ·rw[Try.params5];rfl
 ·rw[Try.params5]
  intro t ht
  have hs:(26:Nat)<Try.prog.types.size:=of_decide_eq_true (by kernel_rfl)
  simp only[QN,List.not_mem_nil,or_false] at ht
  show t<Try.prog.types.size
  rcases ht with rfl|rfl|rfl|rfl|rfl|rfl
  ·exact Nat.lt_trans (by decide) hs
  ·exact Nat.lt_trans (by decide) hs
  ·exact hs
  ·exact Nat.lt_trans (by decide) hs
  ·exact Nat.lt_trans (by decide) hs
  ·exact Nat.lt_trans (by decide) hs
 ·match ds,hlen with
  | [d1,d2,d3,d4,d5,d6],_=>rfl
 ·kernel_rfl
noncomputable def laidWorld (os:Os):World:=
 World.holding Try.prog os ⟨#[], #[],[]⟩
def wArgs2:Array Value:= #[.int .i64 0,.slice none 0 0,.slice none 0 0,.int .u8 0,.int .i64 0,.int .u8 0]
theorem laid_met (os:Os):laidMet Try.prog Rows.graphOfAllIsSureUptoRow.laid ((laidWorld os).forCall (fun _ _=>0) ⟨#[],wArgs2,[]⟩).memory:=
 laidMet_of_run' 8 (by kernel_rfl) (by kernel_rfl)
theorem reads (os:Os) {H:Type} (enc:TypeId×Value->H):∃places,DataW.whole enc Try.prog ((laidWorld os).forCall (fun _ _=>0) ⟨#[],wArgs2,[]⟩).memory Try.f5.params.toList Rows.graphOfAllIsSureSpec.vars false wArgs2.toList 8=some ([.lit (.int .i64 0),.nil,.nil,.lit (.int .u8 0),.lit (.int .i64 0),.lit (.int .u8 0)],[],places):=
 ⟨[],by kernel_rfl⟩
theorem liftedUpto (os:Os) (started:os.Started) (H:Type) (enc:TypeId×Value->H) (F:Stop.Interp):
 ReturnsInHanded {} Try.checked os 5 .any ((Rows.OpenSpec.upto Rows.graphOfAllIsSureSpec).preRow enc Try.prog Try.f5 Rows.graphOfAllIsSureUptoRow.domain false Rows.graphOfAllIsSureUptoRow.laid) (((Rows.OpenSpec.upto Rows.graphOfAllIsSureSpec).at F).post enc Try.prog Try.f5 false true false false):=by
 obtain⟨places,hx⟩:=reads os enc
 refine returnsInHanded_of_row (C:=Try.checked) (s:=Rows.OpenSpec.upto Rows.graphOfAllIsSureSpec) own started (by kernel_rfl) Try.func5
  (witness_row_at (enc:=enc) (C:=Try.checked) false (laidWorld os) wArgs2 rfl (by kernel_rfl) (by kernel_rfl) (by kernel_rfl)
    (OpenSpec.preRow_of_cond 8 hx (by kernel_rfl) (fun k hk=>by cases hk;kernel_rfl) (by kernel_rfl) (laid_met os))) ?_
 intro W base args ds gs before hval hW _ hcond _ hL _ _
 exact contract H enc W base args ds gs before hval hW hL (hcond _ rfl)
theorem saidUpto:Rows.GraphOfAllIsSureUptoSaid:=
 OpenClaim.holds_of_cond 5 Try.f5 rfl rfl rfl rfl rfl rfl rfl ⟨rfl,rfl,rfl,rfl,rfl⟩ rfl rfl rfl rfl rfl (by kernel_rfl) Try.func5 (by kernel_rfl)
  (of_decide_eq_true (by kernel_rfl)) (by unfold Func.isWrapper;first| (rw[if_pos (by decide+kernel)];kernel_rfl)| (rw[if_neg (by decide+kernel)];exact⟨rfl,rfl⟩))
  (fun os started H enc _ F=>by rw[OpenClaim.pre_eq_preRow];exact liftedUpto os started H enc F)
end Go.Proofs.Ytabmooekodficaa.alls
