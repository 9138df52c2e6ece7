/- Part of the proof of a law. -/
import Derived.KernelRfl
import Derived.Test.YtabmooekodficaaF1918
set_option linter.all false
set_option linter.unusedSimpArgs false
set_option linter.unusedSectionVars false
open Go Go.Proofs Aq
namespace Sh
set_option maxRecDepth 100000
def dB (i:Nat) (a r:List Sk) (F:PayL R.T a→Option (PayL R.T r)):Prop:=∀p x,F p=some x→Pure E i (encSL R a p) (retV (encSL R r x))
theorem okF {n:Nat} {om:Bool} {F:Nat→List (FR R)} {A:Ann} {i:Nat} {fn:Func} {a r:List Sk} {p:PayL R.T a} {x:PayL R.T r} (hF:RegsOK E F) (h:funM E R n om F iters A fn a r p=some x) (hf:E.P.funcs[i]? =some fn) (hok:(match fn.body with|some c=>decide (a.length≤fn.ntmps)&& bL fn.ntmps c&& iB E c|none=>false)=true)
 (ha:cSkL a=true:=by rfl) (hl:(encSL R a p).length=a.length:=by rfl) (ho:E.om i=om:=by rfl) (hs:E.summ i=none:=by rfl):Pure E i (encSL R a p) (retV (encSL R r x)):=funM_ok rOK hF iters_ok h hf ha hl ho hs hok
def ref09_Few_a:Ann:=⟨[(4,⟨[0],[],⟨[(5,.d (.int .i64))],[]⟩,[(.exit 0,⟨[],[]⟩),(.ret,⟨[(4,.d .bool)],[]⟩)]⟩)],[]⟩
abbrev ref09_Few_p:List Sk:=[.d (.slice (.slice (.int .i64))),.d (.int .i64)]
abbrev ref09_Few_r:List Sk:=[.d .bool]
@[irreducible] noncomputable def ref09_Few (n:Nat) (p:PayL R.T ref09_Few_p):Option (PayL R.T ref09_Few_r):=funM E R n false (regs0 n) iters ref09_Few_a Try.f6 ref09_Few_p ref09_Few_r p
theorem ref09_Few_ok (n:Nat):dB 6 ref09_Few_p ref09_Few_r (ref09_Few n):=fun _ _ h=>by unfold ref09_Few at h;exact okF (regs0_ok n) h Try.func6 (by kernel_rfl)
noncomputable def regs1 (n:Nat):Nat→List (FR R):=addF 6 ⟨ref09_Few_p,ref09_Few_r,ref09_Few n,dflL R ref09_Few_r,false⟩ (regs0 n)
theorem regs1_ok (n:Nat):RegsOK E (regs1 n):=addF_ok (regs0_ok n) (ref09_Few_ok n)
def ref27_Few_a:Ann:=⟨[(4,⟨[1],[1],⟨[(3,.d (.int .i64))],[]⟩,[(.exit 0,⟨[],[]⟩),(.ret,⟨[(2,.d .bool)],[]⟩)]⟩)],[]⟩
abbrev ref27_Few_p:List Sk:=[.d (.st 1)]
abbrev ref27_Few_r:List Sk:=[.d .bool]
@[irreducible] noncomputable def ref27_Few (n:Nat) (p:PayL R.T ref27_Few_p):Option (PayL R.T ref27_Few_r):=funM E R n false (regs1 n) iters ref27_Few_a Try.f7 ref27_Few_p ref27_Few_r p
theorem ref27_Few_ok (n:Nat):dB 7 ref27_Few_p ref27_Few_r (ref27_Few n):=fun _ _ h=>by unfold ref27_Few at h;exact okF (regs1_ok n) h Try.func7 (by kernel_rfl)
noncomputable def regs2 (n:Nat):Nat→List (FR R):=addF 7 ⟨ref27_Few_p,ref27_Few_r,ref27_Few n,dflL R ref27_Few_r,false⟩ (regs1 n)
theorem regs2_ok (n:Nat):RegsOK E (regs2 n):=addF_ok (regs1_ok n) (ref27_Few_ok n)
def ref09_Metric_a:Ann:=⟨[],[]⟩
abbrev ref09_Metric_p:List Sk:=[.d (.int .i64)]
abbrev ref09_Metric_r:List Sk:=[.d .bool]
@[irreducible] noncomputable def ref09_Metric (n:Nat) (p:PayL R.T ref09_Metric_p):Option (PayL R.T ref09_Metric_r):=funM E R n false (regs2 n) iters ref09_Metric_a Try.f15 ref09_Metric_p ref09_Metric_r p
theorem ref09_Metric_ok (n:Nat):dB 15 ref09_Metric_p ref09_Metric_r (ref09_Metric n):=fun _ _ h=>by unfold ref09_Metric at h;exact okF (regs2_ok n) h Try.func15 (by kernel_rfl)
noncomputable def regs3 (n:Nat):Nat→List (FR R):=addF 15 ⟨ref09_Metric_p,ref09_Metric_r,ref09_Metric n,dflL R ref09_Metric_r,false⟩ (regs2 n)
theorem regs3_ok (n:Nat):RegsOK E (regs3 n):=addF_ok (regs2_ok n) (ref09_Metric_ok n)
def ref04_Valid_a:Ann:=⟨[(2,⟨[0],[],⟨[(3,.d (.int .i64))],[]⟩,[(.exit 0,⟨[],[]⟩),(.ret,⟨[(2,.d .bool)],[]⟩)]⟩)],[]⟩
abbrev ref04_Valid_p:List Sk:=[.d (.slice (.int .i64))]
abbrev ref04_Valid_r:List Sk:=[.d .bool]
@[irreducible] noncomputable def ref04_Valid (n:Nat) (p:PayL R.T ref04_Valid_p):Option (PayL R.T ref04_Valid_r):=funM E R n false (regs3 n) iters ref04_Valid_a Try.f21 ref04_Valid_p ref04_Valid_r p
theorem ref04_Valid_ok (n:Nat):dB 21 ref04_Valid_p ref04_Valid_r (ref04_Valid n):=fun _ _ h=>by unfold ref04_Valid at h;exact okF (regs3_ok n) h Try.func21 (by kernel_rfl)
noncomputable def regs4 (n:Nat):Nat→List (FR R):=addF 21 ⟨ref04_Valid_p,ref04_Valid_r,ref04_Valid n,dflL R ref04_Valid_r,false⟩ (regs3 n)
theorem regs4_ok (n:Nat):RegsOK E (regs4 n):=addF_ok (regs3_ok n) (ref04_Valid_ok n)
def ref09_Fit_a:Ann:=⟨[(2,⟨[0],[],⟨[(3,.d (.int .i64))],[]⟩,[(.exit 0,⟨[],[]⟩),(.ret,⟨[(2,.d .bool)],[]⟩)]⟩)],[]⟩
abbrev ref09_Fit_p:List Sk:=[.d (.slice (.slice (.int .i64)))]
abbrev ref09_Fit_r:List Sk:=[.d .bool]
@[irreducible] noncomputable def ref09_Fit (n:Nat) (p:PayL R.T ref09_Fit_p):Option (PayL R.T ref09_Fit_r):=funM E R n false (regs4 n) iters ref09_Fit_a Try.f16 ref09_Fit_p ref09_Fit_r p
theorem ref09_Fit_ok (n:Nat):dB 16 ref09_Fit_p ref09_Fit_r (ref09_Fit n):=fun _ _ h=>by unfold ref09_Fit at h;exact okF (regs4_ok n) h Try.func16 (by kernel_rfl)
noncomputable def regs5 (n:Nat):Nat→List (FR R):=addF 16 ⟨ref09_Fit_p,ref09_Fit_r,ref09_Fit n,dflL R ref09_Fit_r,false⟩ (regs4 n)
theorem regs5_ok (n:Nat):RegsOK E (regs5 n):=addF_ok (regs4_ok n) (ref09_Fit_ok n)
def ref27_has_a:Ann:=⟨[(2,⟨[0,1],[],⟨[(5,.d (.int .i64))],[]⟩,[(.exit 0,⟨[],[]⟩),(.ret,⟨[(4,.d .bool)],[]⟩)]⟩)],[]⟩
abbrev ref27_has_p:List Sk:=[.d (.slice (.int .i64)),.d (.int .i64)]
abbrev ref27_has_r:List Sk:=[.d .bool]
@[irreducible] noncomputable def ref27_has (n:Nat) (p:PayL R.T ref27_has_p):Option (PayL R.T ref27_has_r):=funM E R n false (regs5 n) iters ref27_has_a Try.f42 ref27_has_p ref27_has_r p
theorem ref27_has_ok (n:Nat):dB 42 ref27_has_p ref27_has_r (ref27_has n):=fun _ _ h=>by unfold ref27_has at h;exact okF (regs5_ok n) h Try.func42 (by kernel_rfl)
noncomputable def regs6 (n:Nat):Nat→List (FR R):=addF 42 ⟨ref27_has_p,ref27_has_r,ref27_has n,dflL R ref27_has_r,false⟩ (regs5 n)
theorem regs6_ok (n:Nat):RegsOK E (regs6 n):=addF_ok (regs5_ok n) (ref27_has_ok n)
def ref27_Valid_a:Ann:=⟨[(4,⟨[0,3],[3],⟨[(5,.d (.int .i64))],[]⟩,[(.exit 0,⟨[],[]⟩),(.ret,⟨[(4,.d .bool)],[]⟩)]⟩),
 (10,⟨[0,3,5,6],[3,6],⟨[(7,.d (.int .i64))],[]⟩,[(.exit 2,⟨[],[]⟩),(.ret,⟨[(4,.d .bool)],[]⟩)]⟩)],[]⟩
abbrev ref27_Valid_p:List Sk:=[.d (.int .i64),.d (.st 1)]
abbrev ref27_Valid_r:List Sk:=[.d .bool]
@[irreducible] noncomputable def ref27_Valid (n:Nat) (p:PayL R.T ref27_Valid_p):Option (PayL R.T ref27_Valid_r):=funM E R n false (regs6 n) iters ref27_Valid_a Try.f20 ref27_Valid_p ref27_Valid_r p
theorem ref27_Valid_ok (n:Nat):dB 20 ref27_Valid_p ref27_Valid_r (ref27_Valid n):=fun _ _ h=>by unfold ref27_Valid at h;exact okF (regs6_ok n) h Try.func20 (by kernel_rfl)
noncomputable def regs7 (n:Nat):Nat→List (FR R):=addF 20 ⟨ref27_Valid_p,ref27_Valid_r,ref27_Valid n,dflL R ref27_Valid_r,false⟩ (regs6 n)
theorem regs7_ok (n:Nat):RegsOK E (regs7 n):=addF_ok (regs6_ok n) (ref27_Valid_ok n)
def ref27_Right_a:Ann:=⟨[],[]⟩
abbrev ref27_Right_p:List Sk:=[.d (.int .i64),.d (.slice (.slice (.int .i64))),.d (.st 1)]
abbrev ref27_Right_r:List Sk:=[.d .bool]
@[irreducible] noncomputable def ref27_Right (n:Nat) (p:PayL R.T ref27_Right_p):Option (PayL R.T ref27_Right_r):=funM E R n false (regs7 n) iters ref27_Right_a Try.f8 ref27_Right_p ref27_Right_r p
theorem ref27_Right_ok (n:Nat):dB 8 ref27_Right_p ref27_Right_r (ref27_Right n):=fun _ _ h=>by unfold ref27_Right at h;exact okF (regs7_ok n) h Try.func8 (by kernel_rfl)
noncomputable def regs8 (n:Nat):Nat→List (FR R):=addF 8 ⟨ref27_Right_p,ref27_Right_r,ref27_Right n,dflL R ref27_Right_r,false⟩ (regs7 n)
theorem regs8_ok (n:Nat):RegsOK E (regs8 n):=addF_ok (regs7_ok n) (ref27_Right_ok n)
def ref04_Alike_a:Ann:=⟨[],[]⟩
abbrev ref04_Alike_p:List Sk:=[.d (.slice (.int .i64)),.d (.slice (.int .i64))]
abbrev ref04_Alike_r:List Sk:=[.d .bool]
@[irreducible] noncomputable def ref04_Alike (n:Nat) (p:PayL R.T ref04_Alike_p):Option (PayL R.T ref04_Alike_r):=funM E R n false (regs8 n) iters ref04_Alike_a Try.f9 ref04_Alike_p ref04_Alike_r p
theorem ref04_Alike_ok (n:Nat):dB 9 ref04_Alike_p ref04_Alike_r (ref04_Alike n):=fun _ _ h=>by unfold ref04_Alike at h;exact okF (regs8_ok n) h Try.func9 (by kernel_rfl)
noncomputable def regs9 (n:Nat):Nat→List (FR R):=addF 9 ⟨ref04_Alike_p,ref04_Alike_r,ref04_Alike n,dflL R ref04_Alike_r,false⟩ (regs8 n)
theorem regs9_ok (n:Nat):RegsOK E (regs9 n):=addF_ok (regs8_ok n) (ref04_Alike_ok n)
abbrev law27_sanity_p:List Sk:=[]
abbrev law27_sanity_r:List Sk:=[.d .bool]
@[irreducible] def law27_sanity (n:Nat) (p:PayL R.T law27_sanity_p):Option (PayL R.T law27_sanity_r):=some true
theorem law27_sanity_eq (n:Nat) (p:PayL R.T law27_sanity_p):law27_sanity n p=some true:=by unfold law27_sanity;rfl
theorem law27_sanity_ok (n:Nat) (p:PayL R.T law27_sanity_p) (x:PayL R.T law27_sanity_r) (h:law27_sanity n p=some x):Pure E 10 (encSL R law27_sanity_p p) (retV (encSL R law27_sanity_r x)):=by
 unfold law27_sanity at h
 exact sanP p x h
noncomputable def regs10 (n:Nat):Nat→List (FR R):=addF 10 ⟨law27_sanity_p,law27_sanity_r,law27_sanity n,dflL R law27_sanity_r,false⟩ (regs9 n)
theorem regs10_ok (n:Nat):RegsOK E (regs10 n):=addF_ok (regs9_ok n) (law27_sanity_ok n)
def metric_clamp_int_a:Ann:=⟨[],[]⟩
abbrev metric_clamp_int_p:List Sk:=[.d (.int .i64),.d (.int .i64),.d (.int .i64)]
abbrev metric_clamp_int_r:List Sk:=[.d (.int .i64)]
@[irreducible] noncomputable def metric_clamp_int (n:Nat) (p:PayL R.T metric_clamp_int_p):Option (PayL R.T metric_clamp_int_r):=funM E R n false (regs10 n) iters metric_clamp_int_a Try.f67 metric_clamp_int_p metric_clamp_int_r p
theorem metric_clamp_int_ok (n:Nat):dB 67 metric_clamp_int_p metric_clamp_int_r (metric_clamp_int n):=fun _ _ h=>by unfold metric_clamp_int at h;exact okF (regs10_ok n) h Try.func67 (by kernel_rfl)
noncomputable def regs11 (n:Nat):Nat→List (FR R):=addF 67 ⟨metric_clamp_int_p,metric_clamp_int_r,metric_clamp_int n,dflL R metric_clamp_int_r,false⟩ (regs10 n)
theorem regs11_ok (n:Nat):RegsOK E (regs11 n):=addF_ok (regs10_ok n) (metric_clamp_int_ok n)
def metric_Valid_a:Ann:=⟨[],[]⟩
abbrev metric_Valid_p:List Sk:=[.d (.int .i64),.d (.int .i64)]
abbrev metric_Valid_r:List Sk:=[.d .bool]
@[irreducible] noncomputable def metric_Valid (n:Nat) (p:PayL R.T metric_Valid_p):Option (PayL R.T metric_Valid_r):=funM E R n false (regs11 n) iters metric_Valid_a Try.f57 metric_Valid_p metric_Valid_r p
theorem metric_Valid_ok (n:Nat):dB 57 metric_Valid_p metric_Valid_r (metric_Valid n):=fun _ _ h=>by unfold metric_Valid at h;exact okF (regs11_ok n) h Try.func57 (by kernel_rfl)
noncomputable def regs12 (n:Nat):Nat→List (FR R):=addF 57 ⟨metric_Valid_p,metric_Valid_r,metric_Valid n,dflL R metric_Valid_r,false⟩ (regs11 n)
theorem regs12_ok (n:Nat):RegsOK E (regs12 n):=addF_ok (regs11_ok n) (metric_Valid_ok n)
def vector_Valid_1_a:Ann:=⟨[],[]⟩
abbrev vector_Valid_1_p:List Sk:=[.d .bool,.d (.int .i64)]
abbrev vector_Valid_1_r:List Sk:=[.d .bool]
@[irreducible] noncomputable def vector_Valid_1 (n:Nat) (p:PayL R.T vector_Valid_1_p):Option (PayL R.T vector_Valid_1_r):=funM E R n false (regs12 n) iters vector_Valid_1_a Try.f73 vector_Valid_1_p vector_Valid_1_r p
theorem vector_Valid_1_ok (n:Nat):dB 73 vector_Valid_1_p vector_Valid_1_r (vector_Valid_1 n):=fun _ _ h=>by unfold vector_Valid_1 at h;exact okF (regs12_ok n) h Try.func73 (by kernel_rfl)
noncomputable def regs13 (n:Nat):Nat→List (FR R):=addF 73 ⟨vector_Valid_1_p,vector_Valid_1_r,vector_Valid_1 n,dflL R vector_Valid_1_r,false⟩ (regs12 n)
theorem regs13_ok (n:Nat):RegsOK E (regs13 n):=addF_ok (regs12_ok n) (vector_Valid_1_ok n)
def vector_fold_bool_a:Ann:=⟨[(2,⟨[2,9,10],[],⟨[(1,.d .bool),(11,.d (.int .i64))],[]⟩,[(.exit 0,⟨[(1,.d .bool)],[]⟩)]⟩)],[]⟩
abbrev vector_fold_bool_p:List Sk:=[.d (.slice (.int .i64)),.d .bool,.fn 73 [] []]
abbrev vector_fold_bool_r:List Sk:=[.d .bool]
@[irreducible] noncomputable def vector_fold_bool (n:Nat) (p:PayL R.T vector_fold_bool_p):Option (PayL R.T vector_fold_bool_r):=funM E R n false (regs13 n) iters vector_fold_bool_a Try.f72 vector_fold_bool_p vector_fold_bool_r p
theorem vector_fold_bool_ok (n:Nat):dB 72 vector_fold_bool_p vector_fold_bool_r (vector_fold_bool n):=fun _ _ h=>by unfold vector_fold_bool at h;exact okF (regs13_ok n) h Try.func72 (by kernel_rfl)
noncomputable def regs14 (n:Nat):Nat→List (FR R):=addF 72 ⟨vector_fold_bool_p,vector_fold_bool_r,vector_fold_bool n,dflL R vector_fold_bool_r,false⟩ (regs13 n)
theorem regs14_ok (n:Nat):RegsOK E (regs14 n):=addF_ok (regs13_ok n) (vector_fold_bool_ok n)
def vector_Valid_a:Ann:=⟨[],[]⟩
abbrev vector_Valid_p:List Sk:=[.d (.slice (.int .i64))]
abbrev vector_Valid_r:List Sk:=[.d .bool]
@[irreducible] noncomputable def vector_Valid (n:Nat) (p:PayL R.T vector_Valid_p):Option (PayL R.T vector_Valid_r):=funM E R n false (regs14 n) iters vector_Valid_a Try.f63 vector_Valid_p vector_Valid_r p
theorem vector_Valid_ok (n:Nat):dB 63 vector_Valid_p vector_Valid_r (vector_Valid n):=fun _ _ h=>by unfold vector_Valid at h;exact okF (regs14_ok n) h Try.func63 (by kernel_rfl)
noncomputable def regs15 (n:Nat):Nat→List (FR R):=addF 63 ⟨vector_Valid_p,vector_Valid_r,vector_Valid n,dflL R vector_Valid_r,false⟩ (regs14 n)
theorem regs15_ok (n:Nat):RegsOK E (regs15 n):=addF_ok (regs14_ok n) (vector_Valid_ok n)
def vector_Alike_a:Ann:=⟨[],[]⟩
abbrev vector_Alike_p:List Sk:=[.d (.slice (.int .i64)),.d (.slice (.int .i64))]
abbrev vector_Alike_r:List Sk:=[.d .bool]
@[irreducible] noncomputable def vector_Alike (n:Nat) (p:PayL R.T vector_Alike_p):Option (PayL R.T vector_Alike_r):=funM E R n false (regs15 n) iters vector_Alike_a Try.f44 vector_Alike_p vector_Alike_r p
theorem vector_Alike_ok (n:Nat):dB 44 vector_Alike_p vector_Alike_r (vector_Alike n):=fun _ _ h=>by unfold vector_Alike at h;exact okF (regs15_ok n) h Try.func44 (by kernel_rfl)
noncomputable def regs16 (n:Nat):Nat→List (FR R):=addF 44 ⟨vector_Alike_p,vector_Alike_r,vector_Alike n,dflL R vector_Alike_r,false⟩ (regs15 n)
theorem regs16_ok (n:Nat):RegsOK E (regs16 n):=addF_ok (regs15_ok n) (vector_Alike_ok n)
def graph_space_isRight_1_a:Ann:=⟨[],[]⟩
abbrev graph_space_isRight_1_p:List Sk:=[.d (.slice (.int .i64)),.cref [.d (.int .i64),.d (.slice (.slice (.int .i64)))] 0]
abbrev graph_space_isRight_1_r:List Sk:=[.d .bool]
@[irreducible] noncomputable def graph_space_isRight_1 (n:Nat) (p:PayL R.T graph_space_isRight_1_p):Option (PayL R.T graph_space_isRight_1_r):=funM E R n false (regs16 n) iters graph_space_isRight_1_a Try.f56 graph_space_isRight_1_p graph_space_isRight_1_r p
theorem graph_space_isRight_1_ok (n:Nat):dB 56 graph_space_isRight_1_p graph_space_isRight_1_r (graph_space_isRight_1 n):=fun _ _ h=>by unfold graph_space_isRight_1 at h;exact okF (regs16_ok n) h Try.func56 (by kernel_rfl)
noncomputable def regs17 (n:Nat):Nat→List (FR R):=addF 56 ⟨graph_space_isRight_1_p,graph_space_isRight_1_r,graph_space_isRight_1 n,dflL R graph_space_isRight_1_r,false⟩ (regs16 n)
theorem regs17_ok (n:Nat):RegsOK E (regs17 n):=addF_ok (regs16_ok n) (graph_space_isRight_1_ok n)
def slices_IndexFunc_int_intx_a:Ann:=⟨[(2,⟨[0,1,7],[],⟨[(8,.d (.int .i64))],[]⟩,[(.exit 0,⟨[],[]⟩),(.ret,⟨[(4,.d (.int .i64))],[]⟩)]⟩)],[]⟩
abbrev slices_IndexFunc_int_intx_p:List Sk:=[.d (.slice (.slice (.int .i64))),.fn 56 [] [.cref [.d (.int .i64),.d (.slice (.slice (.int .i64)))] 0]]
abbrev slices_IndexFunc_int_intx_r:List Sk:=[.d (.int .i64)]
@[irreducible] noncomputable def slices_IndexFunc_int_intx (n:Nat) (p:PayL R.T slices_IndexFunc_int_intx_p):Option (PayL R.T slices_IndexFunc_int_intx_r):=funM E R n false (regs17 n) iters slices_IndexFunc_int_intx_a Try.f68 slices_IndexFunc_int_intx_p slices_IndexFunc_int_intx_r p
theorem slices_IndexFunc_int_intx_ok (n:Nat):dB 68 slices_IndexFunc_int_intx_p slices_IndexFunc_int_intx_r (slices_IndexFunc_int_intx n):=fun _ _ h=>by unfold slices_IndexFunc_int_intx at h;exact okF (regs17_ok n) h Try.func68 (by kernel_rfl)
noncomputable def regs18 (n:Nat):Nat→List (FR R):=addF 68 ⟨slices_IndexFunc_int_intx_p,slices_IndexFunc_int_intx_r,slices_IndexFunc_int_intx n,dflL R slices_IndexFunc_int_intx_r,false⟩ (regs17 n)
theorem regs18_ok (n:Nat):RegsOK E (regs18 n):=addF_ok (regs17_ok n) (slices_IndexFunc_int_intx_ok n)
def slices_ContainsFunc_int_int_a:Ann:=⟨[],[]⟩
abbrev slices_ContainsFunc_int_int_p:List Sk:=[.d (.slice (.slice (.int .i64))),.fn 56 [] [.cref [.d (.int .i64),.d (.slice (.slice (.int .i64)))] 0]]
abbrev slices_ContainsFunc_int_int_r:List Sk:=[.d .bool]
@[irreducible] noncomputable def slices_ContainsFunc_int_int (n:Nat) (p:PayL R.T slices_ContainsFunc_int_int_p):Option (PayL R.T slices_ContainsFunc_int_int_r):=funM E R n false (regs18 n) iters slices_ContainsFunc_int_int_a Try.f58 slices_ContainsFunc_int_int_p slices_ContainsFunc_int_int_r p
theorem slices_ContainsFunc_int_int_ok (n:Nat):dB 58 slices_ContainsFunc_int_int_p slices_ContainsFunc_int_int_r (slices_ContainsFunc_int_int n):=fun _ _ h=>by unfold slices_ContainsFunc_int_int at h;exact okF (regs18_ok n) h Try.func58 (by kernel_rfl)
noncomputable def regs19 (n:Nat):Nat→List (FR R):=addF 58 ⟨slices_ContainsFunc_int_int_p,slices_ContainsFunc_int_int_r,slices_ContainsFunc_int_int n,dflL R slices_ContainsFunc_int_int_r,false⟩ (regs18 n)
theorem regs19_ok (n:Nat):RegsOK E (regs19 n):=addF_ok (regs18_ok n) (slices_ContainsFunc_int_int_ok n)
def graph_space_isRight_a:Ann:=⟨[],[]⟩
abbrev graph_space_isRight_p:List Sk:=[.d (.st 2)]
abbrev graph_space_isRight_r:List Sk:=[.d .bool]
@[irreducible] noncomputable def graph_space_isRight (n:Nat) (p:PayL R.T graph_space_isRight_p):Option (PayL R.T graph_space_isRight_r):=funM E R n false (regs19 n) iters graph_space_isRight_a Try.f35 graph_space_isRight_p graph_space_isRight_r p
theorem graph_space_isRight_ok (n:Nat):dB 35 graph_space_isRight_p graph_space_isRight_r (graph_space_isRight n):=fun _ _ h=>by unfold graph_space_isRight at h;exact okF (regs19_ok n) h Try.func35 (by kernel_rfl)
noncomputable def regs20 (n:Nat):Nat→List (FR R):=addF 35 ⟨graph_space_isRight_p,graph_space_isRight_r,graph_space_isRight n,dflL R graph_space_isRight_r,false⟩ (regs19 n)
theorem regs20_ok (n:Nat):RegsOK E (regs20 n):=addF_ok (regs19_ok n) (graph_space_isRight_ok n)
def slices_Index_int_int_a:Ann:=⟨[(2,⟨[0,1,7],[],⟨[(8,.d (.int .i64))],[]⟩,[(.exit 0,⟨[],[]⟩),(.ret,⟨[(4,.d (.int .i64))],[]⟩)]⟩)],[]⟩
abbrev slices_Index_int_int_p:List Sk:=[.d (.slice (.int .i64)),.d (.int .i64)]
abbrev slices_Index_int_int_r:List Sk:=[.d (.int .i64)]
@[irreducible] noncomputable def slices_Index_int_int (n:Nat) (p:PayL R.T slices_Index_int_int_p):Option (PayL R.T slices_Index_int_int_r):=funM E R n false (regs20 n) iters slices_Index_int_int_a Try.f61 slices_Index_int_int_p slices_Index_int_int_r p
theorem slices_Index_int_int_ok (n:Nat):dB 61 slices_Index_int_int_p slices_Index_int_int_r (slices_Index_int_int n):=fun _ _ h=>by unfold slices_Index_int_int at h;exact okF (regs20_ok n) h Try.func61 (by kernel_rfl)
noncomputable def regs21 (n:Nat):Nat→List (FR R):=addF 61 ⟨slices_Index_int_int_p,slices_Index_int_int_r,slices_Index_int_int n,dflL R slices_Index_int_int_r,false⟩ (regs20 n)
theorem regs21_ok (n:Nat):RegsOK E (regs21 n):=addF_ok (regs20_ok n) (slices_Index_int_int_ok n)
def slices_Contains_int_int_a:Ann:=⟨[],[]⟩
abbrev slices_Contains_int_int_p:List Sk:=[.d (.slice (.int .i64)),.d (.int .i64)]
abbrev slices_Contains_int_int_r:List Sk:=[.d .bool]
@[irreducible] noncomputable def slices_Contains_int_int (n:Nat) (p:PayL R.T slices_Contains_int_int_p):Option (PayL R.T slices_Contains_int_int_r):=funM E R n false (regs21 n) iters slices_Contains_int_int_a Try.f41 slices_Contains_int_int_p slices_Contains_int_int_r p
theorem slices_Contains_int_int_ok (n:Nat):dB 41 slices_Contains_int_int_p slices_Contains_int_int_r (slices_Contains_int_int n):=fun _ _ h=>by unfold slices_Contains_int_int at h;exact okF (regs21_ok n) h Try.func41 (by kernel_rfl)
noncomputable def regs22 (n:Nat):Nat→List (FR R):=addF 41 ⟨slices_Contains_int_int_p,slices_Contains_int_int_r,slices_Contains_int_int n,dflL R slices_Contains_int_int_r,false⟩ (regs21 n)
theorem regs22_ok (n:Nat):RegsOK E (regs22 n):=addF_ok (regs21_ok n) (slices_Contains_int_int_ok n)
def graph_Valid_a:Ann:=⟨[(4,⟨[0,23,24],[],⟨[(25,.d (.int .i64))],[]⟩,[(.exit 0,⟨[],[]⟩),(.ret,⟨[(4,.d .bool)],[]⟩)]⟩),
 (9,⟨[0,6,23,24,25,46,47],[6],⟨[(48,.d (.int .i64))],[]⟩,[(.exit 2,⟨[],[]⟩),(.ret,⟨[(4,.d .bool)],[]⟩)]⟩)],[]⟩
abbrev graph_Valid_p:List Sk:=[.d (.int .i64),.d (.st 1)]
abbrev graph_Valid_r:List Sk:=[.d .bool]
@[irreducible] noncomputable def graph_Valid (n:Nat) (p:PayL R.T graph_Valid_p):Option (PayL R.T graph_Valid_r):=funM E R n false (regs22 n) iters graph_Valid_a Try.f19 graph_Valid_p graph_Valid_r p
theorem graph_Valid_ok (n:Nat):dB 19 graph_Valid_p graph_Valid_r (graph_Valid n):=fun _ _ h=>by unfold graph_Valid at h;exact okF (regs22_ok n) h Try.func19 (by kernel_rfl)
noncomputable def regs23 (n:Nat):Nat→List (FR R):=addF 19 ⟨graph_Valid_p,graph_Valid_r,graph_Valid n,dflL R graph_Valid_r,false⟩ (regs22 n)
theorem regs23_ok (n:Nat):RegsOK E (regs23 n):=addF_ok (regs22_ok n) (graph_Valid_ok n)
def slices_Clone_int_int_a:Ann:=⟨[],[]⟩
abbrev slices_Clone_int_int_p:List Sk:=[.d (.slice (.int .i64))]
abbrev slices_Clone_int_int_o:List (Nat×ObSk):=[]
abbrev slices_Clone_int_int_w:List (Nat×ObSk):=[]
abbrev slices_Clone_int_int_k:NK:=.arr (.int .i64)
@[irreducible] noncomputable def slices_Clone_int_int (n:Nat) (p:PayL R.T slices_Clone_int_int_p) (q:PayOs R.T slices_Clone_int_int_o):Option (PayN R.T slices_Clone_int_int_k×PayOs R.T slices_Clone_int_int_w):=funN E R n true (regs23 n) iters slices_Clone_int_int_a Try.f30 slices_Clone_int_int_p slices_Clone_int_int_o slices_Clone_int_int_k slices_Clone_int_int_w p q
theorem slices_Clone_int_int_ok (n:Nat):FNOK1 E 30 slices_Clone_int_int_p slices_Clone_int_int_o slices_Clone_int_int_k slices_Clone_int_int_w (slices_Clone_int_int n):=by
 intro p q y q' h
 have h:slices_Clone_int_int n p q=some (y,q'):=h
 unfold slices_Clone_int_int at h
 exact funN_ok' rOK (regs23_ok n) iters_ok h Try.func30 rfl (by kernel_rfl)
noncomputable def its1 (n:Nat):IR R:=addM 30 (mkN slices_Clone_int_int_p slices_Clone_int_int_o slices_Clone_int_int_k slices_Clone_int_int_w (slices_Clone_int_int n)) iters
theorem its1_ok (n:Nat):ItersOK E (its1 n):=addM_ok (m:=mkN slices_Clone_int_int_p slices_Clone_int_int_o slices_Clone_int_int_k slices_Clone_int_int_w (slices_Clone_int_int n)) iters_ok (FMOK.N (slices_Clone_int_int_ok n))
def vector_Sub_a:Ann:=⟨[(3,⟨[1,5,10],[],⟨[(11,.d (.int .i64))],[(8,.arr (.int .i64))]⟩,[(.exit 0,⟨[],[(8,.arr (.int .i64))]⟩)]⟩)],[]⟩
abbrev vector_Sub_p:List Sk:=[.d (.slice (.int .i64)),.d (.slice (.int .i64))]
abbrev vector_Sub_r:List Sk:=[.d (.slice (.int .i64))]
@[irreducible] noncomputable def vector_Sub (n:Nat) (p:PayL R.T vector_Sub_p):Option (PayL R.T vector_Sub_r):=funM E R n false (regs23 n) (its1 n) vector_Sub_a Try.f34 vector_Sub_p vector_Sub_r p
theorem vector_Sub_ok (n:Nat) (p:PayL R.T vector_Sub_p) (x:PayL R.T vector_Sub_r) (h:vector_Sub n p=some x):Pure E 34 (encSL R vector_Sub_p p) (retV (encSL R vector_Sub_r x)):=by
 unfold vector_Sub at h
 exact funM_ok rOK (regs23_ok n) (its1_ok n) h Try.func34 rfl rfl rfl rfl (by kernel_rfl)
noncomputable def regs24 (n:Nat):Nat→List (FR R):=addF 34 ⟨vector_Sub_p,vector_Sub_r,vector_Sub n,dflL R vector_Sub_r,false⟩ (regs23 n)
theorem regs24_ok (n:Nat):RegsOK E (regs24 n):=addF_ok (regs23_ok n) (vector_Sub_ok n)
def vector_Norm_1_a:Ann:=⟨[],[]⟩
abbrev vector_Norm_1_p:List Sk:=[.d (.int .i64),.d (.int .i64)]
abbrev vector_Norm_1_r:List Sk:=[.d (.int .i64)]
@[irreducible] noncomputable def vector_Norm_1 (n:Nat) (p:PayL R.T vector_Norm_1_p):Option (PayL R.T vector_Norm_1_r):=funM E R n false (regs24 n) (its1 n) vector_Norm_1_a Try.f52 vector_Norm_1_p vector_Norm_1_r p
theorem vector_Norm_1_ok (n:Nat) (p:PayL R.T vector_Norm_1_p) (x:PayL R.T vector_Norm_1_r) (h:vector_Norm_1 n p=some x):Pure E 52 (encSL R vector_Norm_1_p p) (retV (encSL R vector_Norm_1_r x)):=by
 unfold vector_Norm_1 at h
 exact funM_ok rOK (regs24_ok n) (its1_ok n) h Try.func52 rfl rfl rfl rfl (by kernel_rfl)
noncomputable def regs25 (n:Nat):Nat→List (FR R):=addF 52 ⟨vector_Norm_1_p,vector_Norm_1_r,vector_Norm_1 n,dflL R vector_Norm_1_r,false⟩ (regs24 n)
theorem regs25_ok (n:Nat):RegsOK E (regs25 n):=addF_ok (regs24_ok n) (vector_Norm_1_ok n)
def vector_fold_int_a:Ann:=⟨[(2,⟨[2,9,10],[],⟨[(1,.d (.int .i64)),(11,.d (.int .i64))],[]⟩,[(.exit 0,⟨[(1,.d (.int .i64))],[]⟩)]⟩)],[]⟩
abbrev vector_fold_int_p:List Sk:=[.d (.slice (.int .i64)),.d (.int .i64),.fn 52 [] []]
abbrev vector_fold_int_r:List Sk:=[.d (.int .i64)]
@[irreducible] noncomputable def vector_fold_int (n:Nat) (p:PayL R.T vector_fold_int_p):Option (PayL R.T vector_fold_int_r):=funM E R n false (regs25 n) (its1 n) vector_fold_int_a Try.f55 vector_fold_int_p vector_fold_int_r p
theorem vector_fold_int_ok (n:Nat) (p:PayL R.T vector_fold_int_p) (x:PayL R.T vector_fold_int_r) (h:vector_fold_int n p=some x):Pure E 55 (encSL R vector_fold_int_p p) (retV (encSL R vector_fold_int_r x)):=by
 unfold vector_fold_int at h
 exact funM_ok rOK (regs25_ok n) (its1_ok n) h Try.func55 rfl rfl rfl rfl (by kernel_rfl)
noncomputable def regs26 (n:Nat):Nat→List (FR R):=addF 55 ⟨vector_fold_int_p,vector_fold_int_r,vector_fold_int n,dflL R vector_fold_int_r,false⟩ (regs25 n)
theorem regs26_ok (n:Nat):RegsOK E (regs26 n):=addF_ok (regs25_ok n) (vector_fold_int_ok n)
def vector_Norm_2_a:Ann:=⟨[],[]⟩
abbrev vector_Norm_2_p:List Sk:=[.d (.int .i64),.d (.int .i64)]
abbrev vector_Norm_2_r:List Sk:=[.d (.int .i64)]
@[irreducible] noncomputable def vector_Norm_2 (n:Nat) (p:PayL R.T vector_Norm_2_p):Option (PayL R.T vector_Norm_2_r):=funM E R n false (regs26 n) (its1 n) vector_Norm_2_a Try.f53 vector_Norm_2_p vector_Norm_2_r p
theorem vector_Norm_2_ok (n:Nat) (p:PayL R.T vector_Norm_2_p) (x:PayL R.T vector_Norm_2_r) (h:vector_Norm_2 n p=some x):Pure E 53 (encSL R vector_Norm_2_p p) (retV (encSL R vector_Norm_2_r x)):=by
 unfold vector_Norm_2 at h
 exact funM_ok rOK (regs26_ok n) (its1_ok n) h Try.func53 rfl rfl rfl rfl (by kernel_rfl)
noncomputable def regs27 (n:Nat):Nat→List (FR R):=addF 53 ⟨vector_Norm_2_p,vector_Norm_2_r,vector_Norm_2 n,dflL R vector_Norm_2_r,false⟩ (regs26 n)
theorem regs27_ok (n:Nat):RegsOK E (regs27 n):=addF_ok (regs26_ok n) (vector_Norm_2_ok n)
def vector_fold_int_2_a:Ann:=⟨[(2,⟨[2,9,10],[],⟨[(1,.d (.int .i64)),(11,.d (.int .i64))],[]⟩,[(.exit 0,⟨[(1,.d (.int .i64))],[]⟩)]⟩)],[]⟩
abbrev vector_fold_int_2_p:List Sk:=[.d (.slice (.int .i64)),.d (.int .i64),.fn 53 [] []]
abbrev vector_fold_int_2_r:List Sk:=[.d (.int .i64)]
@[irreducible] noncomputable def vector_fold_int_2 (n:Nat) (p:PayL R.T vector_fold_int_2_p):Option (PayL R.T vector_fold_int_2_r):=funM E R n false (regs27 n) (its1 n) vector_fold_int_2_a Try.f55 vector_fold_int_2_p vector_fold_int_2_r p
theorem vector_fold_int_2_ok (n:Nat) (p:PayL R.T vector_fold_int_2_p) (x:PayL R.T vector_fold_int_2_r) (h:vector_fold_int_2 n p=some x):Pure E 55 (encSL R vector_fold_int_2_p p) (retV (encSL R vector_fold_int_2_r x)):=by
 unfold vector_fold_int_2 at h
 exact funM_ok rOK (regs27_ok n) (its1_ok n) h Try.func55 rfl rfl rfl rfl (by kernel_rfl)
noncomputable def regs28 (n:Nat):Nat→List (FR R):=addF 55 ⟨vector_fold_int_2_p,vector_fold_int_2_r,vector_fold_int_2 n,dflL R vector_fold_int_2_r,false⟩ (regs27 n)
theorem regs28_ok (n:Nat):RegsOK E (regs28 n):=addF_ok (regs27_ok n) (vector_fold_int_2_ok n)
def vector_Norm_3_a:Ann:=⟨[],[]⟩
abbrev vector_Norm_3_p:List Sk:=[.d (.int .i64),.d (.int .i64)]
abbrev vector_Norm_3_r:List Sk:=[.d (.int .i64)]
@[irreducible] noncomputable def vector_Norm_3 (n:Nat) (p:PayL R.T vector_Norm_3_p):Option (PayL R.T vector_Norm_3_r):=funM E R n false (regs28 n) (its1 n) vector_Norm_3_a Try.f54 vector_Norm_3_p vector_Norm_3_r p
theorem vector_Norm_3_ok (n:Nat) (p:PayL R.T vector_Norm_3_p) (x:PayL R.T vector_Norm_3_r) (h:vector_Norm_3 n p=some x):Pure E 54 (encSL R vector_Norm_3_p p) (retV (encSL R vector_Norm_3_r x)):=by
 unfold vector_Norm_3 at h
 exact funM_ok rOK (regs28_ok n) (its1_ok n) h Try.func54 rfl rfl rfl rfl (by kernel_rfl)
noncomputable def regs29 (n:Nat):Nat→List (FR R):=addF 54 ⟨vector_Norm_3_p,vector_Norm_3_r,vector_Norm_3 n,dflL R vector_Norm_3_r,false⟩ (regs28 n)
theorem regs29_ok (n:Nat):RegsOK E (regs29 n):=addF_ok (regs28_ok n) (vector_Norm_3_ok n)
def vector_fold_int_3_a:Ann:=⟨[(2,⟨[2,9,10],[],⟨[(1,.d (.int .i64)),(11,.d (.int .i64))],[]⟩,[(.exit 0,⟨[(1,.d (.int .i64))],[]⟩)]⟩)],[]⟩
abbrev vector_fold_int_3_p:List Sk:=[.d (.slice (.int .i64)),.d (.int .i64),.fn 54 [] []]
abbrev vector_fold_int_3_r:List Sk:=[.d (.int .i64)]
@[irreducible] noncomputable def vector_fold_int_3 (n:Nat) (p:PayL R.T vector_fold_int_3_p):Option (PayL R.T vector_fold_int_3_r):=funM E R n false (regs29 n) (its1 n) vector_fold_int_3_a Try.f55 vector_fold_int_3_p vector_fold_int_3_r p
theorem vector_fold_int_3_ok (n:Nat) (p:PayL R.T vector_fold_int_3_p) (x:PayL R.T vector_fold_int_3_r) (h:vector_fold_int_3 n p=some x):Pure E 55 (encSL R vector_fold_int_3_p p) (retV (encSL R vector_fold_int_3_r x)):=by
 unfold vector_fold_int_3 at h
 exact funM_ok rOK (regs29_ok n) (its1_ok n) h Try.func55 rfl rfl rfl rfl (by kernel_rfl)
noncomputable def regs30 (n:Nat):Nat→List (FR R):=addF 55 ⟨vector_fold_int_3_p,vector_fold_int_3_r,vector_fold_int_3 n,dflL R vector_fold_int_3_r,false⟩ (regs29 n)
theorem regs30_ok (n:Nat):RegsOK E (regs30 n):=addF_ok (regs29_ok n) (vector_fold_int_3_ok n)
def vector_Norm_a:Ann:=⟨[],[]⟩
abbrev vector_Norm_p:List Sk:=[.d (.int .i64),.d (.slice (.int .i64))]
abbrev vector_Norm_r:List Sk:=[.d (.int .i64)]
@[irreducible] noncomputable def vector_Norm (n:Nat) (p:PayL R.T vector_Norm_p):Option (PayL R.T vector_Norm_r):=funM E R n false (regs30 n) (its1 n) vector_Norm_a Try.f33 vector_Norm_p vector_Norm_r p
theorem vector_Norm_ok (n:Nat) (p:PayL R.T vector_Norm_p) (x:PayL R.T vector_Norm_r) (h:vector_Norm n p=some x):Pure E 33 (encSL R vector_Norm_p p) (retV (encSL R vector_Norm_r x)):=by
 unfold vector_Norm at h
 exact funM_ok rOK (regs30_ok n) (its1_ok n) h Try.func33 rfl rfl rfl rfl (by kernel_rfl)
noncomputable def regs31 (n:Nat):Nat→List (FR R):=addF 33 ⟨vector_Norm_p,vector_Norm_r,vector_Norm n,dflL R vector_Norm_r,false⟩ (regs30 n)
theorem regs31_ok (n:Nat):RegsOK E (regs31 n):=addF_ok (regs30_ok n) (vector_Norm_ok n)
def vector_Key_a:Ann:=⟨[],[]⟩
abbrev vector_Key_p:List Sk:=[.d (.int .i64),.d (.slice (.int .i64)),.d (.slice (.int .i64))]
abbrev vector_Key_r:List Sk:=[.d (.int .i64)]
@[irreducible] noncomputable def vector_Key (n:Nat) (p:PayL R.T vector_Key_p):Option (PayL R.T vector_Key_r):=funM E R n false (regs31 n) (its1 n) vector_Key_a Try.f14 vector_Key_p vector_Key_r p
theorem vector_Key_ok (n:Nat) (p:PayL R.T vector_Key_p) (x:PayL R.T vector_Key_r) (h:vector_Key n p=some x):Pure E 14 (encSL R vector_Key_p p) (retV (encSL R vector_Key_r x)):=by
 unfold vector_Key at h
 exact funM_ok rOK (regs31_ok n) (its1_ok n) h Try.func14 rfl rfl rfl rfl (by kernel_rfl)
noncomputable def regs32 (n:Nat):Nat→List (FR R):=addF 14 ⟨vector_Key_p,vector_Key_r,vector_Key n,dflL R vector_Key_r,false⟩ (regs31 n)
theorem regs32_ok (n:Nat):RegsOK E (regs32 n):=addF_ok (regs31_ok n) (vector_Key_ok n)
def graph_space_keys_a:Ann:=⟨[(3,⟨[1,2,9,10],[2],⟨[(5,.l (.own 22) (.int .i64)),(11,.d (.int .i64))],[]⟩,[(.exit 0,⟨[(5,.l (.own 22) (.int .i64))],[]⟩)]⟩)],[]⟩
abbrev graph_space_keys_p:List Sk:=[.d (.st 2),.d (.slice (.int .i64))]
abbrev graph_space_keys_r:List Sk:=[.d (.slice (.int .i64))]
@[irreducible] noncomputable def graph_space_keys (n:Nat) (p:PayL R.T graph_space_keys_p):Option (PayL R.T graph_space_keys_r):=funM E R n false (regs32 n) (its1 n) graph_space_keys_a Try.f36 graph_space_keys_p graph_space_keys_r p
theorem graph_space_keys_ok (n:Nat) (p:PayL R.T graph_space_keys_p) (x:PayL R.T graph_space_keys_r) (h:graph_space_keys n p=some x):Pure E 36 (encSL R graph_space_keys_p p) (retV (encSL R graph_space_keys_r x)):=by
 unfold graph_space_keys at h
 exact funM_ok rOK (regs32_ok n) (its1_ok n) h Try.func36 rfl rfl rfl rfl (by kernel_rfl)
noncomputable def regs33 (n:Nat):Nat→List (FR R):=addF 36 ⟨graph_space_keys_p,graph_space_keys_r,graph_space_keys n,dflL R graph_space_keys_r,false⟩ (regs32 n)
theorem regs33_ok (n:Nat):RegsOK E (regs33 n):=addF_ok (regs32_ok n) (graph_space_keys_ok n)
def graph_begin_a:Ann:=⟨[],[]⟩
abbrev graph_begin_p:List Sk:=[.d (.int .i64),.d (.slice (.slice (.int .i64))),.d (.st 1),.d (.slice (.int .i64)),.d (.int .i64)]
abbrev graph_begin_r:List Sk:=[.d (.st 3),.d .bool]
@[irreducible] noncomputable def graph_begin (n:Nat) (p:PayL R.T graph_begin_p):Option (PayL R.T graph_begin_r):=funM E R n false (regs33 n) (its1 n) graph_begin_a Try.f25 graph_begin_p graph_begin_r p
theorem graph_begin_ok (n:Nat) (p:PayL R.T graph_begin_p) (x:PayL R.T graph_begin_r) (h:graph_begin n p=some x):Pure E 25 (encSL R graph_begin_p p) (retV (encSL R graph_begin_r x)):=by
 unfold graph_begin at h
 exact funM_ok rOK (regs33_ok n) (its1_ok n) h Try.func25 rfl rfl rfl rfl (by kernel_rfl)
noncomputable def regs34 (n:Nat):Nat→List (FR R):=addF 25 ⟨graph_begin_p,graph_begin_r,graph_begin n,dflL R graph_begin_r,false⟩ (regs33 n)
theorem regs34_ok (n:Nat):RegsOK E (regs34 n):=addF_ok (regs33_ok n) (graph_begin_ok n)
def graph_search_walk_a:Ann:=⟨[],[]⟩
abbrev graph_search_walk_p:List Sk:=[.d (.st 3),.d (.int .i64)]
abbrev graph_search_walk_o:List (Nat×ObSk):=[]
abbrev graph_search_walk_w:List (Nat×ObSk):=[]
abbrev graph_search_walk_k:NK:=.fnc 46 [] [.cref [.d (.int .i64),.d (.slice (.slice (.int .i64))),.d (.slice (.st 0)),.d (.slice (.int .i64))] 0] [.d (.int .i64)]
@[irreducible] noncomputable def graph_search_walk (n:Nat) (p:PayL R.T graph_search_walk_p) (q:PayOs R.T graph_search_walk_o):Option (PayN R.T graph_search_walk_k×PayOs R.T graph_search_walk_w):=funN E R n false (regs34 n) (its1 n) graph_search_walk_a Try.f27 graph_search_walk_p graph_search_walk_o graph_search_walk_k graph_search_walk_w p q
theorem graph_search_walk_ok (n:Nat):FNOK1 E 27 graph_search_walk_p graph_search_walk_o graph_search_walk_k graph_search_walk_w (graph_search_walk n):=by
 intro p q y q' h
 have h:graph_search_walk n p q=some (y,q'):=h
 unfold graph_search_walk at h
 exact funN_ok' rOK (regs34_ok n) (its1_ok n) h Try.func27 rfl (by kernel_rfl)
noncomputable def its2 (n:Nat):IR R:=addM 27 (mkN graph_search_walk_p graph_search_walk_o graph_search_walk_k graph_search_walk_w (graph_search_walk n)) (its1 n)
theorem its2_ok (n:Nat):ItersOK E (its2 n):=addM_ok (m:=mkN graph_search_walk_p graph_search_walk_o graph_search_walk_k graph_search_walk_w (graph_search_walk n)) (its1_ok n) (FMOK.N (graph_search_walk_ok n))
def slices_AppendSeq_int_int_a:Ann:=⟨[(3,⟨[2],[],⟨[],[(2,.cells [.vw 11 (.int .i64)]),(11,.arr (.int .i64))]⟩,[(.normal,⟨[],[(2,.cells [.vw 11 (.int .i64)]),(11,.arr (.int .i64))]⟩)]⟩)],[]⟩
abbrev slices_AppendSeq_int_int_p:List Sk:=[.nils,.fn 46 [] [.ref 1000000 0,.cref [.d (.int .i64),.d (.slice (.slice (.int .i64))),.d (.slice (.st 0)),.d (.slice (.int .i64))] 0]]
abbrev slices_AppendSeq_int_int_o:List (Nat×ObSk):=[(1000000,.cells [.d (.int .i64)])]
abbrev slices_AppendSeq_int_int_w:List (Nat×ObSk):=[]
abbrev slices_AppendSeq_int_int_k:NK:=.arr (.int .i64)
@[irreducible] noncomputable def slices_AppendSeq_int_int (n:Nat) (p:PayL R.T slices_AppendSeq_int_int_p) (q:PayOs R.T slices_AppendSeq_int_int_o):Option (PayN R.T slices_AppendSeq_int_int_k×PayOs R.T slices_AppendSeq_int_int_w):=funN E R n true (regs34 n) (its2 n) slices_AppendSeq_int_int_a Try.f45 slices_AppendSeq_int_int_p slices_AppendSeq_int_int_o slices_AppendSeq_int_int_k slices_AppendSeq_int_int_w p q
theorem slices_AppendSeq_int_int_ok (n:Nat):FNOK1 E 45 slices_AppendSeq_int_int_p slices_AppendSeq_int_int_o slices_AppendSeq_int_int_k slices_AppendSeq_int_int_w (slices_AppendSeq_int_int n):=by
 intro p q y q' h
 have h:slices_AppendSeq_int_int n p q=some (y,q'):=h
 unfold slices_AppendSeq_int_int at h
 exact funN_ok' rOK (regs34_ok n) (its2_ok n) h Try.func45 rfl (by kernel_rfl)
noncomputable def its3 (n:Nat):IR R:=addM 45 (mkN slices_AppendSeq_int_int_p slices_AppendSeq_int_int_o slices_AppendSeq_int_int_k slices_AppendSeq_int_int_w (slices_AppendSeq_int_int n)) (its2 n)
theorem its3_ok (n:Nat):ItersOK E (its3 n):=addM_ok (m:=mkN slices_AppendSeq_int_int_p slices_AppendSeq_int_int_o slices_AppendSeq_int_int_k slices_AppendSeq_int_int_w (slices_AppendSeq_int_int n)) (its2_ok n) (FMOK.N (slices_AppendSeq_int_int_ok n))
def slices_Collect_int_a:Ann:=⟨[],[]⟩
abbrev slices_Collect_int_p:List Sk:=[.fn 46 [] [.ref 1000000 0,.cref [.d (.int .i64),.d (.slice (.slice (.int .i64))),.d (.slice (.st 0)),.d (.slice (.int .i64))] 0]]
abbrev slices_Collect_int_o:List (Nat×ObSk):=[(1000000,.cells [.d (.int .i64)])]
abbrev slices_Collect_int_w:List (Nat×ObSk):=[]
abbrev slices_Collect_int_k:NK:=.arr (.int .i64)
@[irreducible] noncomputable def slices_Collect_int (n:Nat) (p:PayL R.T slices_Collect_int_p) (q:PayOs R.T slices_Collect_int_o):Option (PayN R.T slices_Collect_int_k×PayOs R.T slices_Collect_int_w):=funN E R n false (regs34 n) (its3 n) slices_Collect_int_a Try.f26 slices_Collect_int_p slices_Collect_int_o slices_Collect_int_k slices_Collect_int_w p q
theorem slices_Collect_int_ok (n:Nat):FNOK1 E 26 slices_Collect_int_p slices_Collect_int_o slices_Collect_int_k slices_Collect_int_w (slices_Collect_int n):=by
 intro p q y q' h
 have h:slices_Collect_int n p q=some (y,q'):=h
 unfold slices_Collect_int at h
 exact funN_ok' rOK (regs34_ok n) (its3_ok n) h Try.func26 rfl (by kernel_rfl)
noncomputable def its4 (n:Nat):IR R:=addM 26 (mkN slices_Collect_int_p slices_Collect_int_o slices_Collect_int_k slices_Collect_int_w (slices_Collect_int n)) (its3 n)
theorem its4_ok (n:Nat):ItersOK E (its4 n):=addM_ok (m:=mkN slices_Collect_int_p slices_Collect_int_o slices_Collect_int_k slices_Collect_int_w (slices_Collect_int n)) (its3_ok n) (FMOK.N (slices_Collect_int_ok n))
def graph_Walk_a:Ann:=⟨[],[]⟩
abbrev graph_Walk_p:List Sk:=[.d (.int .i64),.d (.slice (.slice (.int .i64))),.d (.st 1),.d (.slice (.int .i64)),.d (.int .i64)]
abbrev graph_Walk_r:List Sk:=[.d (.slice (.int .i64)),.d (.int .i64)]
@[irreducible] noncomputable def graph_Walk (n:Nat) (p:PayL R.T graph_Walk_p):Option (PayL R.T graph_Walk_r):=funM E R n false (regs34 n) (its4 n) graph_Walk_a Try.f11 graph_Walk_p graph_Walk_r p
theorem graph_Walk_ok (n:Nat) (p:PayL R.T graph_Walk_p) (x:PayL R.T graph_Walk_r) (h:graph_Walk n p=some x):Pure E 11 (encSL R graph_Walk_p p) (retV (encSL R graph_Walk_r x)):=by
 unfold graph_Walk at h
 exact funM_ok rOK (regs34_ok n) (its4_ok n) h Try.func11 rfl rfl rfl rfl (by kernel_rfl)
noncomputable def regs35 (n:Nat):Nat→List (FR R):=addF 11 ⟨graph_Walk_p,graph_Walk_r,graph_Walk n,dflL R graph_Walk_r,false⟩ (regs34 n)
theorem regs35_ok (n:Nat):RegsOK E (regs35 n):=addF_ok (regs34_ok n) (graph_Walk_ok n)
def math_bits_Len32_a:Ann:=⟨[],[]⟩
abbrev math_bits_Len32_p:List Sk:=[.d (.int .u32)]
abbrev math_bits_Len32_r:List Sk:=[.d (.int .i64)]
@[irreducible] noncomputable def math_bits_Len32 (n:Nat) (p:PayL R.T math_bits_Len32_p):Option (PayL R.T math_bits_Len32_r):=funM E R n false (regs35 n) (its4 n) math_bits_Len32_a Try.f82 math_bits_Len32_p math_bits_Len32_r p
theorem math_bits_Len32_ok (n:Nat) (p:PayL R.T math_bits_Len32_p) (x:PayL R.T math_bits_Len32_r) (h:math_bits_Len32 n p=some x):Pure E 82 (encSL R math_bits_Len32_p p) (retV (encSL R math_bits_Len32_r x)):=by
 unfold math_bits_Len32 at h
 exact funM_ok rOK (regs35_ok n) (its4_ok n) h Try.func82 rfl rfl rfl rfl (by kernel_rfl)
noncomputable def regs36 (n:Nat):Nat→List (FR R):=addF 82 ⟨math_bits_Len32_p,math_bits_Len32_r,math_bits_Len32 n,dflL R math_bits_Len32_r,false⟩ (regs35 n)
theorem regs36_ok (n:Nat):RegsOK E (regs36 n):=addF_ok (regs35_ok n) (math_bits_Len32_ok n)
def math_bits_Len64_a:Ann:=⟨[],[]⟩
abbrev math_bits_Len64_p:List Sk:=[.d (.int .u64)]
abbrev math_bits_Len64_r:List Sk:=[.d (.int .i64)]
@[irreducible] noncomputable def math_bits_Len64 (n:Nat) (p:PayL R.T math_bits_Len64_p):Option (PayL R.T math_bits_Len64_r):=funM E R n false (regs36 n) (its4 n) math_bits_Len64_a Try.f83 math_bits_Len64_p math_bits_Len64_r p
theorem math_bits_Len64_ok (n:Nat) (p:PayL R.T math_bits_Len64_p) (x:PayL R.T math_bits_Len64_r) (h:math_bits_Len64 n p=some x):Pure E 83 (encSL R math_bits_Len64_p p) (retV (encSL R math_bits_Len64_r x)):=by
 unfold math_bits_Len64 at h
 exact funM_ok rOK (regs36_ok n) (its4_ok n) h Try.func83 rfl rfl rfl rfl (by kernel_rfl)
noncomputable def regs37 (n:Nat):Nat→List (FR R):=addF 83 ⟨math_bits_Len64_p,math_bits_Len64_r,math_bits_Len64 n,dflL R math_bits_Len64_r,false⟩ (regs36 n)
theorem regs37_ok (n:Nat):RegsOK E (regs37 n):=addF_ok (regs36_ok n) (math_bits_Len64_ok n)
def math_bits_Len_a:Ann:=⟨[],[]⟩
abbrev math_bits_Len_p:List Sk:=[.d (.int .u64)]
abbrev math_bits_Len_r:List Sk:=[.d (.int .i64)]
@[irreducible] noncomputable def math_bits_Len (n:Nat) (p:PayL R.T math_bits_Len_p):Option (PayL R.T math_bits_Len_r):=funM E R n false (regs37 n) (its4 n) math_bits_Len_a Try.f65 math_bits_Len_p math_bits_Len_r p
theorem math_bits_Len_ok (n:Nat) (p:PayL R.T math_bits_Len_p) (x:PayL R.T math_bits_Len_r) (h:math_bits_Len n p=some x):Pure E 65 (encSL R math_bits_Len_p p) (retV (encSL R math_bits_Len_r x)):=by
 unfold math_bits_Len at h
 exact funM_ok rOK (regs37_ok n) (its4_ok n) h Try.func65 rfl rfl rfl rfl (by kernel_rfl)
noncomputable def regs38 (n:Nat):Nat→List (FR R):=addF 65 ⟨math_bits_Len_p,math_bits_Len_r,math_bits_Len n,dflL R math_bits_Len_r,false⟩ (regs37 n)
theorem regs38_ok (n:Nat):RegsOK E (regs38 n):=addF_ok (regs37_ok n) (math_bits_Len_ok n)
def metric_Isqrt_a:Ann:=⟨[(5,⟨[0],[],⟨[(3,.d (.int .i64))],[]⟩,[(.ret,⟨[(2,.d (.int .i64))],[]⟩)]⟩)],[]⟩
abbrev metric_Isqrt_p:List Sk:=[.d (.int .i64)]
abbrev metric_Isqrt_r:List Sk:=[.d (.int .i64)]
@[irreducible] noncomputable def metric_Isqrt (n:Nat) (p:PayL R.T metric_Isqrt_p):Option (PayL R.T metric_Isqrt_r):=funM E R n false (regs38 n) (its4 n) metric_Isqrt_a Try.f95 metric_Isqrt_p metric_Isqrt_r p
theorem metric_Isqrt_ok (n:Nat) (p:PayL R.T metric_Isqrt_p) (x:PayL R.T metric_Isqrt_r) (h:metric_Isqrt n p=some x):Pure E 95 (encSL R metric_Isqrt_p p) (retV (encSL R metric_Isqrt_r x)):=by
 unfold metric_Isqrt at h
 exact funM_ok rOK (regs38_ok n) (its4_ok n) h Try.func95 rfl rfl rfl rfl (by kernel_rfl)
noncomputable def regs39 (n:Nat):Nat→List (FR R):=addF 95 ⟨metric_Isqrt_p,metric_Isqrt_r,metric_Isqrt n,dflL R metric_Isqrt_r,false⟩ (regs38 n)
theorem regs39_ok (n:Nat):RegsOK E (regs39 n):=addF_ok (regs38_ok n) (metric_Isqrt_ok n)
def metric_square_1_1_a:Ann:=⟨[],[]⟩
abbrev metric_square_1_1_p:List Sk:=[.d (.int .i64),.d (.int .i64),.cref [.d (.int .i64)] 0]
abbrev metric_square_1_1_r:List Sk:=[.d (.int .i64)]
@[irreducible] noncomputable def metric_square_1_1 (n:Nat) (p:PayL R.T metric_square_1_1_p):Option (PayL R.T metric_square_1_1_r):=funM E R n false (regs39 n) (its4 n) metric_square_1_1_a Try.f94 metric_square_1_1_p metric_square_1_1_r p
theorem metric_square_1_1_ok (n:Nat) (p:PayL R.T metric_square_1_1_p) (x:PayL R.T metric_square_1_1_r) (h:metric_square_1_1 n p=some x):Pure E 94 (encSL R metric_square_1_1_p p) (retV (encSL R metric_square_1_1_r x)):=by
 unfold metric_square_1_1 at h
 exact funM_ok rOK (regs39_ok n) (its4_ok n) h Try.func94 rfl rfl rfl rfl (by kernel_rfl)
noncomputable def regs40 (n:Nat):Nat→List (FR R):=addF 94 ⟨metric_square_1_1_p,metric_square_1_1_r,metric_square_1_1 n,dflL R metric_square_1_1_r,false⟩ (regs39 n)
theorem regs40_ok (n:Nat):RegsOK E (regs40 n):=addF_ok (regs39_ok n) (metric_square_1_1_ok n)
def metric_sum_2_a:Ann:=⟨[],[]⟩
abbrev metric_sum_2_p:List Sk:=[.d (.int .i64),.d (.int .i64)]
abbrev metric_sum_2_r:List Sk:=[.d (.int .i64)]
@[irreducible] noncomputable def metric_sum_2 (n:Nat) (p:PayL R.T metric_sum_2_p):Option (PayL R.T metric_sum_2_r):=funM E R n false (regs40 n) (its4 n) metric_sum_2_a Try.f97 metric_sum_2_p metric_sum_2_r p
theorem metric_sum_2_ok (n:Nat) (p:PayL R.T metric_sum_2_p) (x:PayL R.T metric_sum_2_r) (h:metric_sum_2 n p=some x):Pure E 97 (encSL R metric_sum_2_p p) (retV (encSL R metric_sum_2_r x)):=by
 unfold metric_sum_2 at h
 exact funM_ok rOK (regs40_ok n) (its4_ok n) h Try.func97 rfl rfl rfl rfl (by kernel_rfl)
noncomputable def regs41 (n:Nat):Nat→List (FR R):=addF 97 ⟨metric_sum_2_p,metric_sum_2_r,metric_sum_2 n,dflL R metric_sum_2_r,false⟩ (regs40 n)
theorem regs41_ok (n:Nat):RegsOK E (regs41 n):=addF_ok (regs40_ok n) (metric_sum_2_ok n)
def cmp_isNaN_int_a:Ann:=⟨[],[]⟩
abbrev cmp_isNaN_int_p:List Sk:=[.d (.int .i64)]
abbrev cmp_isNaN_int_r:List Sk:=[.d .bool]
@[irreducible] noncomputable def cmp_isNaN_int (n:Nat) (p:PayL R.T cmp_isNaN_int_p):Option (PayL R.T cmp_isNaN_int_r):=funM E R n false (regs41 n) (its4 n) cmp_isNaN_int_a Try.f66 cmp_isNaN_int_p cmp_isNaN_int_r p
theorem cmp_isNaN_int_ok (n:Nat) (p:PayL R.T cmp_isNaN_int_p) (x:PayL R.T cmp_isNaN_int_r) (h:cmp_isNaN_int n p=some x):Pure E 66 (encSL R cmp_isNaN_int_p p) (retV (encSL R cmp_isNaN_int_r x)):=by
 unfold cmp_isNaN_int at h
 exact funM_ok rOK (regs41_ok n) (its4_ok n) h Try.func66 rfl rfl rfl rfl (by kernel_rfl)
noncomputable def regs42 (n:Nat):Nat→List (FR R):=addF 66 ⟨cmp_isNaN_int_p,cmp_isNaN_int_r,cmp_isNaN_int n,dflL R cmp_isNaN_int_r,false⟩ (regs41 n)
theorem regs42_ok (n:Nat):RegsOK E (regs42 n):=addF_ok (regs41_ok n) (cmp_isNaN_int_ok n)
def cmp_Compare_int_a:Ann:=⟨[],[]⟩
abbrev cmp_Compare_int_p:List Sk:=[.d (.int .i64),.d (.int .i64)]
abbrev cmp_Compare_int_r:List Sk:=[.d (.int .i64)]
@[irreducible] noncomputable def cmp_Compare_int (n:Nat) (p:PayL R.T cmp_Compare_int_p):Option (PayL R.T cmp_Compare_int_r):=funM E R n false (regs42 n) (its4 n) cmp_Compare_int_a Try.f51 cmp_Compare_int_p cmp_Compare_int_r p
theorem cmp_Compare_int_ok (n:Nat) (p:PayL R.T cmp_Compare_int_p) (x:PayL R.T cmp_Compare_int_r) (h:cmp_Compare_int n p=some x):Pure E 51 (encSL R cmp_Compare_int_p p) (retV (encSL R cmp_Compare_int_r x)):=by
 unfold cmp_Compare_int at h
 exact funM_ok rOK (regs42_ok n) (its4_ok n) h Try.func51 rfl rfl rfl rfl (by kernel_rfl)
noncomputable def regs43 (n:Nat):Nat→List (FR R):=addF 51 ⟨cmp_Compare_int_p,cmp_Compare_int_r,cmp_Compare_int n,dflL R cmp_Compare_int_r,false⟩ (regs42 n)
theorem regs43_ok (n:Nat):RegsOK E (regs43 n):=addF_ok (regs42_ok n) (cmp_Compare_int_ok n)
def cmp_Or_int_a:Ann:=⟨[(3,⟨[3,6,7],[],⟨[(8,.d (.int .i64))],[]⟩,[(.exit 0,⟨[],[]⟩),(.ret,⟨[(2,.d (.int .i64))],[]⟩)]⟩)],[]⟩
abbrev cmp_Or_int_p:List Sk:=[.d (.slice (.int .i64))]
abbrev cmp_Or_int_r:List Sk:=[.d (.int .i64)]
@[irreducible] noncomputable def cmp_Or_int (n:Nat) (p:PayL R.T cmp_Or_int_p):Option (PayL R.T cmp_Or_int_r):=funM E R n false (regs43 n) (its4 n) cmp_Or_int_a Try.f50 cmp_Or_int_p cmp_Or_int_r p
theorem cmp_Or_int_ok (n:Nat) (p:PayL R.T cmp_Or_int_p) (x:PayL R.T cmp_Or_int_r) (h:cmp_Or_int n p=some x):Pure E 50 (encSL R cmp_Or_int_p p) (retV (encSL R cmp_Or_int_r x)):=by
 unfold cmp_Or_int at h
 exact funM_ok rOK (regs43_ok n) (its4_ok n) h Try.func50 rfl rfl rfl rfl (by kernel_rfl)
noncomputable def regs44 (n:Nat):Nat→List (FR R):=addF 50 ⟨cmp_Or_int_p,cmp_Or_int_r,cmp_Or_int n,dflL R cmp_Or_int_r,false⟩ (regs43 n)
theorem regs44_ok (n:Nat):RegsOK E (regs44 n):=addF_ok (regs43_ok n) (cmp_Or_int_ok n)
def graph_search_order_a:Ann:=⟨[],[]⟩
abbrev graph_search_order_p:List Sk:=[.d (.st 3),.d (.int .i64),.d (.int .i64)]
abbrev graph_search_order_r:List Sk:=[.d (.int .i64)]
@[irreducible] noncomputable def graph_search_order (n:Nat) (p:PayL R.T graph_search_order_p):Option (PayL R.T graph_search_order_r):=funM E R n false (regs44 n) (its4 n) graph_search_order_a Try.f32 graph_search_order_p graph_search_order_r p
theorem graph_search_order_ok (n:Nat) (p:PayL R.T graph_search_order_p) (x:PayL R.T graph_search_order_r) (h:graph_search_order n p=some x):Pure E 32 (encSL R graph_search_order_p p) (retV (encSL R graph_search_order_r x)):=by
 unfold graph_search_order at h
 exact funM_ok rOK (regs44_ok n) (its4_ok n) h Try.func32 rfl rfl rfl rfl (by kernel_rfl)
noncomputable def regs45 (n:Nat):Nat→List (FR R):=addF 32 ⟨graph_search_order_p,graph_search_order_r,graph_search_order n,dflL R graph_search_order_r,false⟩ (regs44 n)
theorem regs45_ok (n:Nat):RegsOK E (regs45 n):=addF_ok (regs44_ok n) (graph_search_order_ok n)
def slices_MinFunc_int_int_a:Ann:=⟨[(5,⟨[0,1],[],⟨[(5,.d (.int .i64)),(6,.d (.int .i64))],[]⟩,[(.exit 0,⟨[(5,.d (.int .i64))],[]⟩)]⟩)],[]⟩
abbrev slices_MinFunc_int_int_p:List Sk:=[.d (.slice (.int .i64)),.fn 32 [.d (.st 3)] []]
abbrev slices_MinFunc_int_int_r:List Sk:=[.d (.int .i64)]
@[irreducible] noncomputable def slices_MinFunc_int_int (n:Nat) (p:PayL R.T slices_MinFunc_int_int_p):Option (PayL R.T slices_MinFunc_int_int_r):=funM E R n false (regs45 n) (its4 n) slices_MinFunc_int_int_a Try.f47 slices_MinFunc_int_int_p slices_MinFunc_int_int_r p
theorem slices_MinFunc_int_int_ok (n:Nat) (p:PayL R.T slices_MinFunc_int_int_p) (x:PayL R.T slices_MinFunc_int_int_r) (h:slices_MinFunc_int_int n p=some x):Pure E 47 (encSL R slices_MinFunc_int_int_p p) (retV (encSL R slices_MinFunc_int_int_r x)):=by
 unfold slices_MinFunc_int_int at h
 exact funM_ok rOK (regs45_ok n) (its4_ok n) h Try.func47 rfl rfl rfl rfl (by kernel_rfl)
noncomputable def regs46 (n:Nat):Nat→List (FR R):=addF 47 ⟨slices_MinFunc_int_int_p,slices_MinFunc_int_int_r,slices_MinFunc_int_int n,dflL R slices_MinFunc_int_int_r,false⟩ (regs45 n)
theorem regs46_ok (n:Nat):RegsOK E (regs46 n):=addF_ok (regs45_ok n) (slices_MinFunc_int_int_ok n)
abbrev metric_High_p:List Sk:=[.d (.int .i64),.d (.int .i64),.d (.int .i64)]
abbrev metric_High_r:List Sk:=[.d (.int .i64)]
@[irreducible] noncomputable def metric_High (n:Nat) (p:PayL R.T metric_High_p):Option (PayL R.T metric_High_r):=highF (metric_square_1_1 n) (metric_sum_2 n) (slices_MinFunc_int_int n) p
theorem metric_High_ok (n:Nat) (p:PayL R.T metric_High_p) (x:PayL R.T metric_High_r) (h:metric_High n p=some x):Pure E 43 (encSL R metric_High_p p) (retV (encSL R metric_High_r x)):=by
 unfold metric_High at h
 exact high_ok (metric_square_1_1_ok n) (metric_sum_2_ok n) (slices_MinFunc_int_int_ok n) p x h
noncomputable def regs47 (n:Nat):Nat→List (FR R):=addF 43 ⟨metric_High_p,metric_High_r,metric_High n,dflL R metric_High_r,false⟩ (regs46 n)
theorem regs47_ok (n:Nat):RegsOK E (regs47 n):=addF_ok (regs46_ok n) (metric_High_ok n)
def graph_Covers_a:Ann:=⟨[],[]⟩
abbrev graph_Covers_p:List Sk:=[.d (.int .i64),.d (.int .i64),.d (.int .i64),.d (.int .i64)]
abbrev graph_Covers_r:List Sk:=[.d .bool]
@[irreducible] noncomputable def graph_Covers (n:Nat) (p:PayL R.T graph_Covers_p):Option (PayL R.T graph_Covers_r):=funM E R n false (regs47 n) (its4 n) graph_Covers_a Try.f24 graph_Covers_p graph_Covers_r p
theorem graph_Covers_ok (n:Nat) (p:PayL R.T graph_Covers_p) (x:PayL R.T graph_Covers_r) (h:graph_Covers n p=some x):Pure E 24 (encSL R graph_Covers_p p) (retV (encSL R graph_Covers_r x)):=by
 unfold graph_Covers at h
 exact funM_ok rOK (regs47_ok n) (its4_ok n) h Try.func24 rfl rfl rfl rfl (by kernel_rfl)
noncomputable def regs48 (n:Nat):Nat→List (FR R):=addF 24 ⟨graph_Covers_p,graph_Covers_r,graph_Covers n,dflL R graph_Covers_r,false⟩ (regs47 n)
theorem regs48_ok (n:Nat):RegsOK E (regs48 n):=addF_ok (regs47_ok n) (graph_Covers_ok n)
def graph_Within_1_a:Ann:=⟨[],[]⟩
abbrev graph_Within_1_p:List Sk:=[.d (.int .i64),.cref [.d (.int .i64),.d (.slice (.slice (.int .i64))),.d (.slice (.st 0)),.d (.slice (.int .i64))] 0,.cref [.d (.int .i64)] 0]
abbrev graph_Within_1_r:List Sk:=[.d .bool]
@[irreducible] noncomputable def graph_Within_1 (n:Nat) (p:PayL R.T graph_Within_1_p):Option (PayL R.T graph_Within_1_r):=funM E R n false (regs48 n) (its4 n) graph_Within_1_a Try.f28 graph_Within_1_p graph_Within_1_r p
theorem graph_Within_1_ok (n:Nat) (p:PayL R.T graph_Within_1_p) (x:PayL R.T graph_Within_1_r) (h:graph_Within_1 n p=some x):Pure E 28 (encSL R graph_Within_1_p p) (retV (encSL R graph_Within_1_r x)):=by
 unfold graph_Within_1 at h
 exact funM_ok rOK (regs48_ok n) (its4_ok n) h Try.func28 rfl rfl rfl rfl (by kernel_rfl)
noncomputable def regs49 (n:Nat):Nat→List (FR R):=addF 28 ⟨graph_Within_1_p,graph_Within_1_r,graph_Within_1 n,dflL R graph_Within_1_r,false⟩ (regs48 n)
theorem regs49_ok (n:Nat):RegsOK E (regs49 n):=addF_ok (regs48_ok n) (graph_Within_1_ok n)
def slices_IndexFunc_int_int_a:Ann:=⟨[(2,⟨[0,1,7],[],⟨[(8,.d (.int .i64))],[]⟩,[(.exit 0,⟨[],[]⟩),(.ret,⟨[(4,.d (.int .i64))],[]⟩)]⟩)],[]⟩
abbrev slices_IndexFunc_int_int_p:List Sk:=[.d (.slice (.int .i64)),.fn 28 [] [.cref [.d (.int .i64),.d (.slice (.slice (.int .i64))),.d (.slice (.st 0)),.d (.slice (.int .i64))] 0,.cref [.d (.int .i64)] 0]]
abbrev slices_IndexFunc_int_int_r:List Sk:=[.d (.int .i64)]
@[irreducible] noncomputable def slices_IndexFunc_int_int (n:Nat) (p:PayL R.T slices_IndexFunc_int_int_p):Option (PayL R.T slices_IndexFunc_int_int_r):=funM E R n false (regs49 n) (its4 n) slices_IndexFunc_int_int_a Try.f48 slices_IndexFunc_int_int_p slices_IndexFunc_int_int_r p
theorem slices_IndexFunc_int_int_ok (n:Nat) (p:PayL R.T slices_IndexFunc_int_int_p) (x:PayL R.T slices_IndexFunc_int_int_r) (h:slices_IndexFunc_int_int n p=some x):Pure E 48 (encSL R slices_IndexFunc_int_int_p p) (retV (encSL R slices_IndexFunc_int_int_r x)):=by
 unfold slices_IndexFunc_int_int at h
 exact funM_ok rOK (regs49_ok n) (its4_ok n) h Try.func48 rfl rfl rfl rfl (by kernel_rfl)
noncomputable def regs50 (n:Nat):Nat→List (FR R):=addF 48 ⟨slices_IndexFunc_int_int_p,slices_IndexFunc_int_int_r,slices_IndexFunc_int_int n,dflL R slices_IndexFunc_int_int_r,false⟩ (regs49 n)
theorem regs50_ok (n:Nat):RegsOK E (regs50 n):=addF_ok (regs49_ok n) (slices_IndexFunc_int_int_ok n)
def slices_DeleteFunc_int_int_a:Ann:=⟨[(5,⟨[0,1],[1000001,1000002],⟨[(5,.d (.int .i64)),(6,.d (.int .i64))],[(1000000,.arr (.int .i64))]⟩,[(.exit 0,⟨[(5,.d (.int .i64))],[(1000000,.arr (.int .i64))]⟩)]⟩)],[]⟩
abbrev slices_DeleteFunc_int_int_p:List Sk:=[.vw 1000000 (.int .i64),.fn 28 [] [.ref 1000001 0,.ref 1000002 0]]
abbrev slices_DeleteFunc_int_int_r:List Sk:=[.sub 1000000 (.int .i64)]
abbrev slices_DeleteFunc_int_int_o:List (Nat×ObSk):=[(1000000,.arr (.int .i64)),(1000001,.st 3),(1000002,.cells [.d (.int .i64)])]
@[irreducible] noncomputable def slices_DeleteFunc_int_int (n:Nat) (p:PayL R.T slices_DeleteFunc_int_int_p) (q:PayOs R.T slices_DeleteFunc_int_int_o):Option (PayL R.T slices_DeleteFunc_int_int_r×PayOs R.T slices_DeleteFunc_int_int_o):=funI E R n false (regs50 n) (its4 n) slices_DeleteFunc_int_int_a Try.f29 slices_DeleteFunc_int_int_p slices_DeleteFunc_int_int_o slices_DeleteFunc_int_int_r p q
theorem slices_DeleteFunc_int_int_ok (n:Nat):FMOK1 E 29 slices_DeleteFunc_int_int_p slices_DeleteFunc_int_int_o slices_DeleteFunc_int_int_r (slices_DeleteFunc_int_int n):=by
 intro p q y q' h
 have h:slices_DeleteFunc_int_int n p q=some (y,q'):=h
 unfold slices_DeleteFunc_int_int at h
 exact funI_ok rOK (regs50_ok n) (its4_ok n) h Try.func29 rfl (by kernel_rfl)
noncomputable def its5 (n:Nat):IR R:=addM 29 (mkM slices_DeleteFunc_int_int_p slices_DeleteFunc_int_int_o slices_DeleteFunc_int_int_r (slices_DeleteFunc_int_int n)) (its4 n)
theorem its5_ok (n:Nat):ItersOK E (its5 n):=addM_ok (m:=mkM slices_DeleteFunc_int_int_p slices_DeleteFunc_int_int_o slices_DeleteFunc_int_int_r (slices_DeleteFunc_int_int n)) (its4_ok n) (FMOK.M (slices_DeleteFunc_int_int_ok n))
def graph_Within_a:Ann:=⟨[(7,⟨[6,8,11,12,13,14,15,16,18],[6,8],⟨[],[(11,.cells [.d (.int .i64)]),(12,.cells [.sub 65 (.int .i64)]),(13,.cells [.d (.int .i64)]),(14,.cells [.d .bool]),(15,.cells [.d (.int .i64)]),(16,.st 3),(18,.cells [.d (.int .i64)]),(65,.arr (.int .i64))]⟩,[(.normal,⟨[],[(11,.cells [.d (.int .i64)]),(12,.cells [.sub 65 (.int .i64)]),(13,.cells [.d (.int .i64)]),(14,.cells [.d .bool]),(15,.cells [.d (.int .i64)]),(16,.st 3),(18,.cells [.d (.int .i64)]),(65,.arr (.int .i64))]⟩),(.ret,⟨[],[(11,.cells [.d (.int .i64)]),(12,.cells [.sub 65 (.int .i64)]),(13,.cells [.d (.int .i64)]),(14,.cells [.d .bool]),(15,.cells [.d (.int .i64)]),(16,.st 3),(18,.cells [.d (.int .i64)]),(65,.arr (.int .i64))]⟩)]⟩)],[]⟩
abbrev graph_Within_p:List Sk:=[.d (.int .i64),.d (.slice (.slice (.int .i64))),.d (.st 1),.d (.slice (.int .i64)),.d (.int .i64),.d (.int .i64)]
abbrev graph_Within_r:List Sk:=[.d (.slice (.int .i64)),.d (.int .i64),.d .bool,.d (.int .i64)]
@[irreducible] noncomputable def graph_Within (n:Nat) (p:PayL R.T graph_Within_p):Option (PayL R.T graph_Within_r):=funM E R n false (regs50 n) (its5 n) graph_Within_a Try.f12 graph_Within_p graph_Within_r p
theorem graph_Within_ok (n:Nat) (p:PayL R.T graph_Within_p) (x:PayL R.T graph_Within_r) (h:graph_Within n p=some x):Pure E 12 (encSL R graph_Within_p p) (retV (encSL R graph_Within_r x)):=by
 unfold graph_Within at h
 exact funM_ok rOK (regs50_ok n) (its5_ok n) h Try.func12 rfl rfl rfl rfl (by kernel_rfl)
noncomputable def regs51 (n:Nat):Nat→List (FR R):=addF 12 ⟨graph_Within_p,graph_Within_r,graph_Within n,dflL R graph_Within_r,false⟩ (regs50 n)
theorem regs51_ok (n:Nat):RegsOK E (regs51 n):=addF_ok (regs50_ok n) (graph_Within_ok n)
def slices_insertionSortCmpFunc_int_a:Ann:=⟨[(1,⟨[0,1,2,3],[],⟨[(8,.d (.int .i64))],[(1000000,.arr (.int .i64))]⟩,[(.exit 0,⟨[],[(1000000,.arr (.int .i64))]⟩)]⟩),
 (4,⟨[0,1,2,3,8],[],⟨[(9,.d (.int .i64))],[(1000000,.arr (.int .i64))]⟩,[(.exit 2,⟨[],[(1000000,.arr (.int .i64))]⟩)]⟩)],[]⟩
abbrev slices_insertionSortCmpFunc_int_p:List Sk:=[.vw 1000000 (.int .i64),.d (.int .i64),.d (.int .i64),.fn 32 [.d (.st 3)] []]
abbrev slices_insertionSortCmpFunc_int_r:List Sk:=[]
abbrev slices_insertionSortCmpFunc_int_o:List (Nat×ObSk):=[(1000000,.arr (.int .i64))]
@[irreducible] noncomputable def slices_insertionSortCmpFunc_int (n:Nat) (p:PayL R.T slices_insertionSortCmpFunc_int_p) (q:PayOs R.T slices_insertionSortCmpFunc_int_o):Option (PayL R.T slices_insertionSortCmpFunc_int_r×PayOs R.T slices_insertionSortCmpFunc_int_o):=funI E R n false (regs51 n) (its5 n) slices_insertionSortCmpFunc_int_a Try.f74 slices_insertionSortCmpFunc_int_p slices_insertionSortCmpFunc_int_o slices_insertionSortCmpFunc_int_r p q
theorem slices_insertionSortCmpFunc_int_ok (n:Nat):FMOK1 E 74 slices_insertionSortCmpFunc_int_p slices_insertionSortCmpFunc_int_o slices_insertionSortCmpFunc_int_r (slices_insertionSortCmpFunc_int n):=by
 intro p q y q' h
 have h:slices_insertionSortCmpFunc_int n p q=some (y,q'):=h
 unfold slices_insertionSortCmpFunc_int at h
 exact funI_ok rOK (regs51_ok n) (its5_ok n) h Try.func74 rfl (by kernel_rfl)
noncomputable def its6 (n:Nat):IR R:=addM 74 (mkM slices_insertionSortCmpFunc_int_p slices_insertionSortCmpFunc_int_o slices_insertionSortCmpFunc_int_r (slices_insertionSortCmpFunc_int n)) (its5 n)
theorem its6_ok (n:Nat):ItersOK E (its6 n):=addM_ok (m:=mkM slices_insertionSortCmpFunc_int_p slices_insertionSortCmpFunc_int_o slices_insertionSortCmpFunc_int_r (slices_insertionSortCmpFunc_int n)) (its5_ok n) (FMOK.M (slices_insertionSortCmpFunc_int_ok n))
def slices_siftDownCmpFunc_int_a:Ann:=⟨[(1,⟨[0,2,3,4],[],⟨[(10,.d (.int .i64))],[(1000000,.arr (.int .i64))]⟩,[(.exit 0,⟨[],[(1000000,.arr (.int .i64))]⟩),(.ret,⟨[],[(1000000,.arr (.int .i64))]⟩)]⟩)],[(5,⟨[0,2,3,4,10],[1000000],⟨[],[]⟩,[(.normal,⟨[(11,.d (.int .i64))],[]⟩)]⟩)]⟩
abbrev slices_siftDownCmpFunc_int_p:List Sk:=[.vw 1000000 (.int .i64),.d (.int .i64),.d (.int .i64),.d (.int .i64),.fn 32 [.d (.st 3)] []]
abbrev slices_siftDownCmpFunc_int_r:List Sk:=[]
abbrev slices_siftDownCmpFunc_int_o:List (Nat×ObSk):=[(1000000,.arr (.int .i64))]
@[irreducible] noncomputable def slices_siftDownCmpFunc_int (n:Nat) (p:PayL R.T slices_siftDownCmpFunc_int_p) (q:PayOs R.T slices_siftDownCmpFunc_int_o):Option (PayL R.T slices_siftDownCmpFunc_int_r×PayOs R.T slices_siftDownCmpFunc_int_o):=funI E R n false (regs51 n) (its6 n) slices_siftDownCmpFunc_int_a Try.f98 slices_siftDownCmpFunc_int_p slices_siftDownCmpFunc_int_o slices_siftDownCmpFunc_int_r p q
theorem slices_siftDownCmpFunc_int_ok (n:Nat):FMOK1 E 98 slices_siftDownCmpFunc_int_p slices_siftDownCmpFunc_int_o slices_siftDownCmpFunc_int_r (slices_siftDownCmpFunc_int n):=by
 intro p q y q' h
 have h:slices_siftDownCmpFunc_int n p q=some (y,q'):=h
 unfold slices_siftDownCmpFunc_int at h
 exact funI_ok rOK (regs51_ok n) (its6_ok n) h Try.func98 rfl (by kernel_rfl)
noncomputable def its7 (n:Nat):IR R:=addM 98 (mkM slices_siftDownCmpFunc_int_p slices_siftDownCmpFunc_int_o slices_siftDownCmpFunc_int_r (slices_siftDownCmpFunc_int n)) (its6 n)
theorem its7_ok (n:Nat):ItersOK E (its7 n):=addM_ok (m:=mkM slices_siftDownCmpFunc_int_p slices_siftDownCmpFunc_int_o slices_siftDownCmpFunc_int_r (slices_siftDownCmpFunc_int n)) (its6_ok n) (FMOK.M (slices_siftDownCmpFunc_int_ok n))
def slices_heapSortCmpFunc_int_a:Ann:=⟨[(4,⟨[0,3,8,9,10],[],⟨[(11,.d (.int .i64))],[(1000000,.arr (.int .i64))]⟩,[(.exit 0,⟨[],[(1000000,.arr (.int .i64))]⟩)]⟩),
 (8,⟨[0,3,8,9],[],⟨[(12,.d (.int .i64))],[(1000000,.arr (.int .i64))]⟩,[(.exit 2,⟨[],[(1000000,.arr (.int .i64))]⟩)]⟩)],[]⟩
abbrev slices_heapSortCmpFunc_int_p:List Sk:=[.vw 1000000 (.int .i64),.d (.int .i64),.d (.int .i64),.fn 32 [.d (.st 3)] []]
abbrev slices_heapSortCmpFunc_int_r:List Sk:=[]
abbrev slices_heapSortCmpFunc_int_o:List (Nat×ObSk):=[(1000000,.arr (.int .i64))]
@[irreducible] noncomputable def slices_heapSortCmpFunc_int (n:Nat) (p:PayL R.T slices_heapSortCmpFunc_int_p) (q:PayOs R.T slices_heapSortCmpFunc_int_o):Option (PayL R.T slices_heapSortCmpFunc_int_r×PayOs R.T slices_heapSortCmpFunc_int_o):=funI E R n false (regs51 n) (its7 n) slices_heapSortCmpFunc_int_a Try.f75 slices_heapSortCmpFunc_int_p slices_heapSortCmpFunc_int_o slices_heapSortCmpFunc_int_r p q
theorem slices_heapSortCmpFunc_int_ok (n:Nat):FMOK1 E 75 slices_heapSortCmpFunc_int_p slices_heapSortCmpFunc_int_o slices_heapSortCmpFunc_int_r (slices_heapSortCmpFunc_int n):=by
 intro p q y q' h
 have h:slices_heapSortCmpFunc_int n p q=some (y,q'):=h
 unfold slices_heapSortCmpFunc_int at h
 exact funI_ok rOK (regs51_ok n) (its7_ok n) h Try.func75 rfl (by kernel_rfl)
noncomputable def its8 (n:Nat):IR R:=addM 75 (mkM slices_heapSortCmpFunc_int_p slices_heapSortCmpFunc_int_o slices_heapSortCmpFunc_int_r (slices_heapSortCmpFunc_int n)) (its7 n)
theorem its8_ok (n:Nat):ItersOK E (its8 n):=addM_ok (m:=mkM slices_heapSortCmpFunc_int_p slices_heapSortCmpFunc_int_o slices_heapSortCmpFunc_int_r (slices_heapSortCmpFunc_int n)) (its7_ok n) (FMOK.M (slices_heapSortCmpFunc_int_ok n))
def slices_nextPowerOfTwo_a:Ann:=⟨[],[]⟩
abbrev slices_nextPowerOfTwo_p:List Sk:=[.d (.int .i64)]
abbrev slices_nextPowerOfTwo_r:List Sk:=[.d (.int .u64)]
@[irreducible] noncomputable def slices_nextPowerOfTwo (n:Nat) (p:PayL R.T slices_nextPowerOfTwo_p):Option (PayL R.T slices_nextPowerOfTwo_r):=funM E R n false (regs51 n) (its8 n) slices_nextPowerOfTwo_a Try.f99 slices_nextPowerOfTwo_p slices_nextPowerOfTwo_r p
theorem slices_nextPowerOfTwo_ok (n:Nat) (p:PayL R.T slices_nextPowerOfTwo_p) (x:PayL R.T slices_nextPowerOfTwo_r) (h:slices_nextPowerOfTwo n p=some x):Pure E 99 (encSL R slices_nextPowerOfTwo_p p) (retV (encSL R slices_nextPowerOfTwo_r x)):=by
 unfold slices_nextPowerOfTwo at h
 exact funM_ok rOK (regs51_ok n) (its8_ok n) h Try.func99 rfl rfl rfl rfl (by kernel_rfl)
noncomputable def regs52 (n:Nat):Nat→List (FR R):=addF 99 ⟨slices_nextPowerOfTwo_p,slices_nextPowerOfTwo_r,slices_nextPowerOfTwo n,dflL R slices_nextPowerOfTwo_r,false⟩ (regs51 n)
theorem regs52_ok (n:Nat):RegsOK E (regs52 n):=addF_ok (regs51_ok n) (slices_nextPowerOfTwo_ok n)
def slices_xorshift_Next_a:Ann:=⟨[],[]⟩
abbrev slices_xorshift_Next_p:List Sk:=[.ref 1000000 0]
abbrev slices_xorshift_Next_r:List Sk:=[.d (.int .u64)]
abbrev slices_xorshift_Next_o:List (Nat×ObSk):=[(1000000,.cells [.d (.int .u64)])]
@[irreducible] noncomputable def slices_xorshift_Next (n:Nat) (p:PayL R.T slices_xorshift_Next_p) (q:PayOs R.T slices_xorshift_Next_o):Option (PayL R.T slices_xorshift_Next_r×PayOs R.T slices_xorshift_Next_o):=funI E R n false (regs52 n) (its8 n) slices_xorshift_Next_a Try.f100 slices_xorshift_Next_p slices_xorshift_Next_o slices_xorshift_Next_r p q
theorem slices_xorshift_Next_ok (n:Nat):FMOK1 E 100 slices_xorshift_Next_p slices_xorshift_Next_o slices_xorshift_Next_r (slices_xorshift_Next n):=by
 intro p q y q' h
 have h:slices_xorshift_Next n p q=some (y,q'):=h
 unfold slices_xorshift_Next at h
 exact funI_ok rOK (regs52_ok n) (its8_ok n) h Try.func100 rfl (by kernel_rfl)
noncomputable def its9 (n:Nat):IR R:=addM 100 (mkM slices_xorshift_Next_p slices_xorshift_Next_o slices_xorshift_Next_r (slices_xorshift_Next n)) (its8 n)
theorem its9_ok (n:Nat):ItersOK E (its9 n):=addM_ok (m:=mkM slices_xorshift_Next_p slices_xorshift_Next_o slices_xorshift_Next_r (slices_xorshift_Next n)) (its8_ok n) (FMOK.M (slices_xorshift_Next_ok n))
def slices_breakPatternsCmpFunc_int_a:Ann:=⟨[(5,⟨[0,1,8,9,10],[],⟨[(11,.d (.int .i64))],[(9,.cells [.d (.int .u64)]),(1000000,.arr (.int .i64))]⟩,[(.exit 0,⟨[],[(1000000,.arr (.int .i64))]⟩)]⟩)],[(10,⟨[0,1,8,9,10,11],[9,1000000],⟨[],[]⟩,[(.normal,⟨[(12,.d (.int .i64))],[]⟩)]⟩)]⟩
abbrev slices_breakPatternsCmpFunc_int_p:List Sk:=[.vw 1000000 (.int .i64),.d (.int .i64),.d (.int .i64),.fn 32 [.d (.st 3)] []]
abbrev slices_breakPatternsCmpFunc_int_r:List Sk:=[]
abbrev slices_breakPatternsCmpFunc_int_o:List (Nat×ObSk):=[(1000000,.arr (.int .i64))]
@[irreducible] noncomputable def slices_breakPatternsCmpFunc_int (n:Nat) (p:PayL R.T slices_breakPatternsCmpFunc_int_p) (q:PayOs R.T slices_breakPatternsCmpFunc_int_o):Option (PayL R.T slices_breakPatternsCmpFunc_int_r×PayOs R.T slices_breakPatternsCmpFunc_int_o):=funI E R n false (regs52 n) (its9 n) slices_breakPatternsCmpFunc_int_a Try.f76 slices_breakPatternsCmpFunc_int_p slices_breakPatternsCmpFunc_int_o slices_breakPatternsCmpFunc_int_r p q
theorem slices_breakPatternsCmpFunc_int_ok (n:Nat):FMOK1 E 76 slices_breakPatternsCmpFunc_int_p slices_breakPatternsCmpFunc_int_o slices_breakPatternsCmpFunc_int_r (slices_breakPatternsCmpFunc_int n):=by
 intro p q y q' h
 have h:slices_breakPatternsCmpFunc_int n p q=some (y,q'):=h
 unfold slices_breakPatternsCmpFunc_int at h
 exact funI_ok rOK (regs52_ok n) (its9_ok n) h Try.func76 rfl (by kernel_rfl)
noncomputable def its10 (n:Nat):IR R:=addM 76 (mkM slices_breakPatternsCmpFunc_int_p slices_breakPatternsCmpFunc_int_o slices_breakPatternsCmpFunc_int_r (slices_breakPatternsCmpFunc_int n)) (its9 n)
theorem its10_ok (n:Nat):ItersOK E (its10 n):=addM_ok (m:=mkM slices_breakPatternsCmpFunc_int_p slices_breakPatternsCmpFunc_int_o slices_breakPatternsCmpFunc_int_r (slices_breakPatternsCmpFunc_int n)) (its9_ok n) (FMOK.M (slices_breakPatternsCmpFunc_int_ok n))
def slices_order2CmpFunc_int_a:Ann:=⟨[],[]⟩
abbrev slices_order2CmpFunc_int_p:List Sk:=[.d (.slice (.int .i64)),.d (.int .i64),.d (.int .i64),.ref 1000000 0,.fn 32 [.d (.st 3)] []]
abbrev slices_order2CmpFunc_int_r:List Sk:=[.d (.int .i64),.d (.int .i64)]
abbrev slices_order2CmpFunc_int_o:List (Nat×ObSk):=[(1000000,.cells [.d (.int .i64)])]
@[irreducible] noncomputable def slices_order2CmpFunc_int (n:Nat) (p:PayL R.T slices_order2CmpFunc_int_p) (q:PayOs R.T slices_order2CmpFunc_int_o):Option (PayL R.T slices_order2CmpFunc_int_r×PayOs R.T slices_order2CmpFunc_int_o):=funI E R n false (regs52 n) (its10 n) slices_order2CmpFunc_int_a Try.f106 slices_order2CmpFunc_int_p slices_order2CmpFunc_int_o slices_order2CmpFunc_int_r p q
theorem slices_order2CmpFunc_int_ok (n:Nat):FMOK1 E 106 slices_order2CmpFunc_int_p slices_order2CmpFunc_int_o slices_order2CmpFunc_int_r (slices_order2CmpFunc_int n):=by
 intro p q y q' h
 have h:slices_order2CmpFunc_int n p q=some (y,q'):=h
 unfold slices_order2CmpFunc_int at h
 exact funI_ok rOK (regs52_ok n) (its10_ok n) h Try.func106 rfl (by kernel_rfl)
noncomputable def its11 (n:Nat):IR R:=addM 106 (mkM slices_order2CmpFunc_int_p slices_order2CmpFunc_int_o slices_order2CmpFunc_int_r (slices_order2CmpFunc_int n)) (its10 n)
theorem its11_ok (n:Nat):ItersOK E (its11 n):=addM_ok (m:=mkM slices_order2CmpFunc_int_p slices_order2CmpFunc_int_o slices_order2CmpFunc_int_r (slices_order2CmpFunc_int n)) (its10_ok n) (FMOK.M (slices_order2CmpFunc_int_ok n))
def slices_medianCmpFunc_int_a:Ann:=⟨[],[]⟩
abbrev slices_medianCmpFunc_int_p:List Sk:=[.d (.slice (.int .i64)),.d (.int .i64),.d (.int .i64),.d (.int .i64),.ref 1000000 0,.fn 32 [.d (.st 3)] []]
abbrev slices_medianCmpFunc_int_r:List Sk:=[.d (.int .i64)]
abbrev slices_medianCmpFunc_int_o:List (Nat×ObSk):=[(1000000,.cells [.d (.int .i64)])]
@[irreducible] noncomputable def slices_medianCmpFunc_int (n:Nat) (p:PayL R.T slices_medianCmpFunc_int_p) (q:PayOs R.T slices_medianCmpFunc_int_o):Option (PayL R.T slices_medianCmpFunc_int_r×PayOs R.T slices_medianCmpFunc_int_o):=funI E R n false (regs52 n) (its11 n) slices_medianCmpFunc_int_a Try.f102 slices_medianCmpFunc_int_p slices_medianCmpFunc_int_o slices_medianCmpFunc_int_r p q
theorem slices_medianCmpFunc_int_ok (n:Nat):FMOK1 E 102 slices_medianCmpFunc_int_p slices_medianCmpFunc_int_o slices_medianCmpFunc_int_r (slices_medianCmpFunc_int n):=by
 intro p q y q' h
 have h:slices_medianCmpFunc_int n p q=some (y,q'):=h
 unfold slices_medianCmpFunc_int at h
 exact funI_ok rOK (regs52_ok n) (its11_ok n) h Try.func102 rfl (by kernel_rfl)
noncomputable def its12 (n:Nat):IR R:=addM 102 (mkM slices_medianCmpFunc_int_p slices_medianCmpFunc_int_o slices_medianCmpFunc_int_r (slices_medianCmpFunc_int n)) (its11 n)
theorem its12_ok (n:Nat):ItersOK E (its12 n):=addM_ok (m:=mkM slices_medianCmpFunc_int_p slices_medianCmpFunc_int_o slices_medianCmpFunc_int_r (slices_medianCmpFunc_int n)) (its11_ok n) (FMOK.M (slices_medianCmpFunc_int_ok n))
def slices_medianAdjacentCmpFunc_int_a:Ann:=⟨[],[]⟩
abbrev slices_medianAdjacentCmpFunc_int_p:List Sk:=[.d (.slice (.int .i64)),.d (.int .i64),.ref 1000000 0,.fn 32 [.d (.st 3)] []]
abbrev slices_medianAdjacentCmpFunc_int_r:List Sk:=[.d (.int .i64)]
abbrev slices_medianAdjacentCmpFunc_int_o:List (Nat×ObSk):=[(1000000,.cells [.d (.int .i64)])]
@[irreducible] noncomputable def slices_medianAdjacentCmpFunc_int (n:Nat) (p:PayL R.T slices_medianAdjacentCmpFunc_int_p) (q:PayOs R.T slices_medianAdjacentCmpFunc_int_o):Option (PayL R.T slices_medianAdjacentCmpFunc_int_r×PayOs R.T slices_medianAdjacentCmpFunc_int_o):=funI E R n false (regs52 n) (its12 n) slices_medianAdjacentCmpFunc_int_a Try.f101 slices_medianAdjacentCmpFunc_int_p slices_medianAdjacentCmpFunc_int_o slices_medianAdjacentCmpFunc_int_r p q
theorem slices_medianAdjacentCmpFunc_int_ok (n:Nat):FMOK1 E 101 slices_medianAdjacentCmpFunc_int_p slices_medianAdjacentCmpFunc_int_o slices_medianAdjacentCmpFunc_int_r (slices_medianAdjacentCmpFunc_int n):=by
 intro p q y q' h
 have h:slices_medianAdjacentCmpFunc_int n p q=some (y,q'):=h
 unfold slices_medianAdjacentCmpFunc_int at h
 exact funI_ok rOK (regs52_ok n) (its12_ok n) h Try.func101 rfl (by kernel_rfl)
noncomputable def its13 (n:Nat):IR R:=addM 101 (mkM slices_medianAdjacentCmpFunc_int_p slices_medianAdjacentCmpFunc_int_o slices_medianAdjacentCmpFunc_int_r (slices_medianAdjacentCmpFunc_int n)) (its12 n)
theorem its13_ok (n:Nat):ItersOK E (its13 n):=addM_ok (m:=mkM slices_medianAdjacentCmpFunc_int_p slices_medianAdjacentCmpFunc_int_o slices_medianAdjacentCmpFunc_int_r (slices_medianAdjacentCmpFunc_int n)) (its12_ok n) (FMOK.M (slices_medianAdjacentCmpFunc_int_ok n))
def slices_choosePivotCmpFunc_int_a:Ann:=⟨[],[]⟩
abbrev slices_choosePivotCmpFunc_int_p:List Sk:=[.d (.slice (.int .i64)),.d (.int .i64),.d (.int .i64),.fn 32 [.d (.st 3)] []]
abbrev slices_choosePivotCmpFunc_int_r:List Sk:=[.d (.int .i64),.d (.int .i64)]
@[irreducible] noncomputable def slices_choosePivotCmpFunc_int (n:Nat) (p:PayL R.T slices_choosePivotCmpFunc_int_p):Option (PayL R.T slices_choosePivotCmpFunc_int_r):=funM E R n false (regs52 n) (its13 n) slices_choosePivotCmpFunc_int_a Try.f77 slices_choosePivotCmpFunc_int_p slices_choosePivotCmpFunc_int_r p
theorem slices_choosePivotCmpFunc_int_ok (n:Nat) (p:PayL R.T slices_choosePivotCmpFunc_int_p) (x:PayL R.T slices_choosePivotCmpFunc_int_r) (h:slices_choosePivotCmpFunc_int n p=some x):Pure E 77 (encSL R slices_choosePivotCmpFunc_int_p p) (retV (encSL R slices_choosePivotCmpFunc_int_r x)):=by
 unfold slices_choosePivotCmpFunc_int at h
 exact funM_ok rOK (regs52_ok n) (its13_ok n) h Try.func77 rfl rfl rfl rfl (by kernel_rfl)
noncomputable def regs53 (n:Nat):Nat→List (FR R):=addF 77 ⟨slices_choosePivotCmpFunc_int_p,slices_choosePivotCmpFunc_int_r,slices_choosePivotCmpFunc_int n,dflL R slices_choosePivotCmpFunc_int_r,false⟩ (regs52 n)
theorem regs53_ok (n:Nat):RegsOK E (regs53 n):=addF_ok (regs52_ok n) (slices_choosePivotCmpFunc_int_ok n)
def slices_reverseRangeCmpFunc_int_a:Ann:=⟨[(2,⟨[0],[],⟨[(8,.d (.int .i64)),(9,.d (.int .i64))],[(1000000,.arr (.int .i64))]⟩,[(.exit 0,⟨[],[(1000000,.arr (.int .i64))]⟩)]⟩)],[]⟩
abbrev slices_reverseRangeCmpFunc_int_p:List Sk:=[.vw 1000000 (.int .i64),.d (.int .i64),.d (.int .i64),.fn 32 [.d (.st 3)] []]
abbrev slices_reverseRangeCmpFunc_int_r:List Sk:=[]
abbrev slices_reverseRangeCmpFunc_int_o:List (Nat×ObSk):=[(1000000,.arr (.int .i64))]
@[irreducible] noncomputable def slices_reverseRangeCmpFunc_int (n:Nat) (p:PayL R.T slices_reverseRangeCmpFunc_int_p) (q:PayOs R.T slices_reverseRangeCmpFunc_int_o):Option (PayL R.T slices_reverseRangeCmpFunc_int_r×PayOs R.T slices_reverseRangeCmpFunc_int_o):=funI E R n false (regs53 n) (its13 n) slices_reverseRangeCmpFunc_int_a Try.f78 slices_reverseRangeCmpFunc_int_p slices_reverseRangeCmpFunc_int_o slices_reverseRangeCmpFunc_int_r p q
theorem slices_reverseRangeCmpFunc_int_ok (n:Nat):FMOK1 E 78 slices_reverseRangeCmpFunc_int_p slices_reverseRangeCmpFunc_int_o slices_reverseRangeCmpFunc_int_r (slices_reverseRangeCmpFunc_int n):=by
 intro p q y q' h
 have h:slices_reverseRangeCmpFunc_int n p q=some (y,q'):=h
 unfold slices_reverseRangeCmpFunc_int at h
 exact funI_ok rOK (regs53_ok n) (its13_ok n) h Try.func78 rfl (by kernel_rfl)
noncomputable def its14 (n:Nat):IR R:=addM 78 (mkM slices_reverseRangeCmpFunc_int_p slices_reverseRangeCmpFunc_int_o slices_reverseRangeCmpFunc_int_r (slices_reverseRangeCmpFunc_int n)) (its13 n)
theorem its14_ok (n:Nat):ItersOK E (its14 n):=addM_ok (m:=mkM slices_reverseRangeCmpFunc_int_p slices_reverseRangeCmpFunc_int_o slices_reverseRangeCmpFunc_int_r (slices_reverseRangeCmpFunc_int n)) (its13_ok n) (FMOK.M (slices_reverseRangeCmpFunc_int_ok n))
def slices_partialInsertionSortCmpFunc_int_a:Ann:=⟨[(3,⟨[0,1,2,3],[],⟨[(9,.d (.int .i64)),(10,.d (.int .i64))],[(1000000,.arr (.int .i64))]⟩,[(.exit 0,⟨[],[(1000000,.arr (.int .i64))]⟩),(.ret,⟨[(8,.d .bool)],[(1000000,.arr (.int .i64))]⟩)]⟩),
 (5,⟨[0,1,2,3,10],[1000000],⟨[(9,.d (.int .i64))],[]⟩,[(.exit 2,⟨[(9,.d (.int .i64))],[]⟩)]⟩),
 (14,⟨[0,1,2,3,9,10],[],⟨[(11,.d (.int .i64))],[(1000000,.arr (.int .i64))]⟩,[(.exit 4,⟨[],[(1000000,.arr (.int .i64))]⟩)]⟩),
 (20,⟨[0,1,2,3,9,10],[],⟨[(12,.d (.int .i64))],[(1000000,.arr (.int .i64))]⟩,[(.exit 6,⟨[],[(1000000,.arr (.int .i64))]⟩)]⟩)],[(18,⟨[0,1,2,3,9,10],[],⟨[],[]⟩,[(.normal,⟨[],[(1000000,.arr (.int .i64))]⟩)]⟩)]⟩
abbrev slices_partialInsertionSortCmpFunc_int_p:List Sk:=[.vw 1000000 (.int .i64),.d (.int .i64),.d (.int .i64),.fn 32 [.d (.st 3)] []]
abbrev slices_partialInsertionSortCmpFunc_int_r:List Sk:=[.d .bool]
abbrev slices_partialInsertionSortCmpFunc_int_o:List (Nat×ObSk):=[(1000000,.arr (.int .i64))]
@[irreducible] noncomputable def slices_partialInsertionSortCmpFunc_int (n:Nat) (p:PayL R.T slices_partialInsertionSortCmpFunc_int_p) (q:PayOs R.T slices_partialInsertionSortCmpFunc_int_o):Option (PayL R.T slices_partialInsertionSortCmpFunc_int_r×PayOs R.T slices_partialInsertionSortCmpFunc_int_o):=funI E R n false (regs53 n) (its14 n) slices_partialInsertionSortCmpFunc_int_a Try.f79 slices_partialInsertionSortCmpFunc_int_p slices_partialInsertionSortCmpFunc_int_o slices_partialInsertionSortCmpFunc_int_r p q
theorem slices_partialInsertionSortCmpFunc_int_ok (n:Nat):FMOK1 E 79 slices_partialInsertionSortCmpFunc_int_p slices_partialInsertionSortCmpFunc_int_o slices_partialInsertionSortCmpFunc_int_r (slices_partialInsertionSortCmpFunc_int n):=by
 intro p q y q' h
 have h:slices_partialInsertionSortCmpFunc_int n p q=some (y,q'):=h
 unfold slices_partialInsertionSortCmpFunc_int at h
 exact funI_ok rOK (regs53_ok n) (its14_ok n) h Try.func79 rfl (by kernel_rfl)
noncomputable def its15 (n:Nat):IR R:=addM 79 (mkM slices_partialInsertionSortCmpFunc_int_p slices_partialInsertionSortCmpFunc_int_o slices_partialInsertionSortCmpFunc_int_r (slices_partialInsertionSortCmpFunc_int n)) (its14 n)
theorem its15_ok (n:Nat):ItersOK E (its15 n):=addM_ok (m:=mkM slices_partialInsertionSortCmpFunc_int_p slices_partialInsertionSortCmpFunc_int_o slices_partialInsertionSortCmpFunc_int_r (slices_partialInsertionSortCmpFunc_int n)) (its14_ok n) (FMOK.M (slices_partialInsertionSortCmpFunc_int_ok n))
def slices_partitionEqualCmpFunc_int_a:Ann:=⟨[(503,⟨[0,1,4],[],⟨[(11,.d (.int .i64)),(12,.d (.int .i64))],[(1000000,.arr (.int .i64))]⟩,[(.exit 0,⟨[(11,.d (.int .i64))],[(1000000,.arr (.int .i64))]⟩)]⟩),
 (3,⟨[0,1,4,12],[1000000],⟨[(11,.d (.int .i64))],[]⟩,[(.exit 2,⟨[(11,.d (.int .i64))],[]⟩)]⟩),
 (5,⟨[0,1,4,11],[1000000],⟨[(12,.d (.int .i64))],[]⟩,[(.exit 4,⟨[(12,.d (.int .i64))],[]⟩)]⟩)],[]⟩
abbrev slices_partitionEqualCmpFunc_int_p:List Sk:=[.vw 1000000 (.int .i64),.d (.int .i64),.d (.int .i64),.d (.int .i64),.fn 32 [.d (.st 3)] []]
abbrev slices_partitionEqualCmpFunc_int_r:List Sk:=[.d (.int .i64)]
abbrev slices_partitionEqualCmpFunc_int_o:List (Nat×ObSk):=[(1000000,.arr (.int .i64))]
@[irreducible] noncomputable def slices_partitionEqualCmpFunc_int (n:Nat) (p:PayL R.T slices_partitionEqualCmpFunc_int_p) (q:PayOs R.T slices_partitionEqualCmpFunc_int_o):Option (PayL R.T slices_partitionEqualCmpFunc_int_r×PayOs R.T slices_partitionEqualCmpFunc_int_o):=funI E R n false (regs53 n) (its15 n) slices_partitionEqualCmpFunc_int_a Try.f80 slices_partitionEqualCmpFunc_int_p slices_partitionEqualCmpFunc_int_o slices_partitionEqualCmpFunc_int_r p q
theorem slices_partitionEqualCmpFunc_int_ok (n:Nat):FMOK1 E 80 slices_partitionEqualCmpFunc_int_p slices_partitionEqualCmpFunc_int_o slices_partitionEqualCmpFunc_int_r (slices_partitionEqualCmpFunc_int n):=by
 intro p q y q' h
 have h:slices_partitionEqualCmpFunc_int n p q=some (y,q'):=h
 unfold slices_partitionEqualCmpFunc_int at h
 exact funI_ok rOK (regs53_ok n) (its15_ok n) h Try.func80 rfl (by kernel_rfl)
noncomputable def its16 (n:Nat):IR R:=addM 80 (mkM slices_partitionEqualCmpFunc_int_p slices_partitionEqualCmpFunc_int_o slices_partitionEqualCmpFunc_int_r (slices_partitionEqualCmpFunc_int n)) (its15 n)
theorem its16_ok (n:Nat):ItersOK E (its16 n):=addM_ok (m:=mkM slices_partitionEqualCmpFunc_int_p slices_partitionEqualCmpFunc_int_o slices_partitionEqualCmpFunc_int_r (slices_partitionEqualCmpFunc_int n)) (its15_ok n) (FMOK.M (slices_partitionEqualCmpFunc_int_ok n))
def slices_partitionCmpFunc_int_a:Ann:=⟨[(3,⟨[0,1,4,13],[1000000],⟨[(12,.d (.int .i64))],[]⟩,[(.exit 0,⟨[(12,.d (.int .i64))],[]⟩)]⟩),
 (5,⟨[0,1,4,12],[1000000],⟨[(13,.d (.int .i64))],[]⟩,[(.exit 2,⟨[(13,.d (.int .i64))],[]⟩)]⟩),
 (513,⟨[0,1,4],[],⟨[(12,.d (.int .i64)),(13,.d (.int .i64))],[(1000000,.arr (.int .i64))]⟩,[(.exit 4,⟨[(13,.d (.int .i64))],[(1000000,.arr (.int .i64))]⟩)]⟩),
 (13,⟨[0,1,4,13],[1000000],⟨[(12,.d (.int .i64))],[]⟩,[(.exit 6,⟨[(12,.d (.int .i64))],[]⟩)]⟩),
 (15,⟨[0,1,4,12],[1000000],⟨[(13,.d (.int .i64))],[]⟩,[(.exit 8,⟨[(13,.d (.int .i64))],[]⟩)]⟩)],[]⟩
abbrev slices_partitionCmpFunc_int_p:List Sk:=[.vw 1000000 (.int .i64),.d (.int .i64),.d (.int .i64),.d (.int .i64),.fn 32 [.d (.st 3)] []]
abbrev slices_partitionCmpFunc_int_r:List Sk:=[.d (.int .i64),.d .bool]
abbrev slices_partitionCmpFunc_int_o:List (Nat×ObSk):=[(1000000,.arr (.int .i64))]
@[irreducible] noncomputable def slices_partitionCmpFunc_int (n:Nat) (p:PayL R.T slices_partitionCmpFunc_int_p) (q:PayOs R.T slices_partitionCmpFunc_int_o):Option (PayL R.T slices_partitionCmpFunc_int_r×PayOs R.T slices_partitionCmpFunc_int_o):=funI E R n false (regs53 n) (its16 n) slices_partitionCmpFunc_int_a Try.f81 slices_partitionCmpFunc_int_p slices_partitionCmpFunc_int_o slices_partitionCmpFunc_int_r p q
theorem slices_partitionCmpFunc_int_ok (n:Nat):FMOK1 E 81 slices_partitionCmpFunc_int_p slices_partitionCmpFunc_int_o slices_partitionCmpFunc_int_r (slices_partitionCmpFunc_int n):=by
 intro p q y q' h
 have h:slices_partitionCmpFunc_int n p q=some (y,q'):=h
 unfold slices_partitionCmpFunc_int at h
 exact funI_ok rOK (regs53_ok n) (its16_ok n) h Try.func81 rfl (by kernel_rfl)
noncomputable def its17 (n:Nat):IR R:=addM 81 (mkM slices_partitionCmpFunc_int_p slices_partitionCmpFunc_int_o slices_partitionCmpFunc_int_r (slices_partitionCmpFunc_int n)) (its16 n)
theorem its17_ok (n:Nat):ItersOK E (its17 n):=addM_ok (m:=mkM slices_partitionCmpFunc_int_p slices_partitionCmpFunc_int_o slices_partitionCmpFunc_int_r (slices_partitionCmpFunc_int n)) (its16_ok n) (FMOK.M (slices_partitionCmpFunc_int_ok n))
def slices_pdqsortCmpFunc_int_a:Ann:=⟨[(2,⟨[0,4],[],⟨[(1,.d (.int .i64)),(2,.d (.int .i64)),(3,.d (.int .i64)),(10,.d .bool),(11,.d .bool)],[(1000000,.arr (.int .i64))]⟩,[(.ret,⟨[],[(1000000,.arr (.int .i64))]⟩)]⟩)],[(10,⟨[0,1,2,4,10,11,12],[],⟨[],[]⟩,[(.normal,⟨[(3,.d (.int .i64))],[(1000000,.arr (.int .i64))]⟩)]⟩),(15,⟨[0,1,2,3,4,10,11,12],[],⟨[],[]⟩,[(.normal,⟨[(13,.d (.int .i64)),(14,.d (.int .i64))],[(1000000,.arr (.int .i64))]⟩)]⟩),(17,⟨[0,1,2,3,4,10,11,12,13],[],⟨[],[]⟩,[(.normal,⟨[],[(1000000,.arr (.int .i64))]⟩),(.ret,⟨[],[(1000000,.arr (.int .i64))]⟩)]⟩)]⟩
abbrev slices_pdqsortCmpFunc_int_p:List Sk:=[.vw 1000000 (.int .i64),.d (.int .i64),.d (.int .i64),.d (.int .i64),.fn 32 [.d (.st 3)] []]
abbrev slices_pdqsortCmpFunc_int_r:List Sk:=[]
abbrev slices_pdqsortCmpFunc_int_o:List (Nat×ObSk):=[(1000000,.arr (.int .i64))]
noncomputable def slices_pdqsortCmpFunc_int_m (n:Nat):Nat→PayL R.T slices_pdqsortCmpFunc_int_p→PayOs R.T slices_pdqsortCmpFunc_int_o→Option (PayL R.T slices_pdqsortCmpFunc_int_r×PayOs R.T slices_pdqsortCmpFunc_int_o)
 |0,_,_=>none
 |m+1,p,q=>funI E R n false (regs53 n) (addM 64 (mkM slices_pdqsortCmpFunc_int_p slices_pdqsortCmpFunc_int_o slices_pdqsortCmpFunc_int_r (slices_pdqsortCmpFunc_int_m n m)) (its17 n)) slices_pdqsortCmpFunc_int_a Try.f64 slices_pdqsortCmpFunc_int_p slices_pdqsortCmpFunc_int_o slices_pdqsortCmpFunc_int_r p q
attribute [irreducible] slices_pdqsortCmpFunc_int_m
theorem slices_pdqsortCmpFunc_int_e (n m:Nat) (p:PayL R.T slices_pdqsortCmpFunc_int_p) (q:PayOs R.T slices_pdqsortCmpFunc_int_o):slices_pdqsortCmpFunc_int_m n (m+1) p q=funI E R n false (regs53 n) (addM 64 (mkM slices_pdqsortCmpFunc_int_p slices_pdqsortCmpFunc_int_o slices_pdqsortCmpFunc_int_r (slices_pdqsortCmpFunc_int_m n m)) (its17 n)) slices_pdqsortCmpFunc_int_a Try.f64 slices_pdqsortCmpFunc_int_p slices_pdqsortCmpFunc_int_o slices_pdqsortCmpFunc_int_r p q:=by kernel_rfl
theorem slices_pdqsortCmpFunc_int_e0 (n:Nat) (p:PayL R.T slices_pdqsortCmpFunc_int_p) (q:PayOs R.T slices_pdqsortCmpFunc_int_o):slices_pdqsortCmpFunc_int_m n 0 p q=none:=by kernel_rfl
theorem slices_pdqsortCmpFunc_int_mok (n:Nat):∀m,FMOK1 E 64 slices_pdqsortCmpFunc_int_p slices_pdqsortCmpFunc_int_o slices_pdqsortCmpFunc_int_r (slices_pdqsortCmpFunc_int_m n m)
 |0=>fun p q y q' h=>absurd (((slices_pdqsortCmpFunc_int_e0 n p q).symm.trans h)) nofun
 |m+1=>fun p q y q' h=>funI_ok rOK (regs53_ok n) (addM_ok (m:=(mkM slices_pdqsortCmpFunc_int_p slices_pdqsortCmpFunc_int_o slices_pdqsortCmpFunc_int_r (slices_pdqsortCmpFunc_int_m n m))) (its17_ok n) (FMOK.M (slices_pdqsortCmpFunc_int_mok n m))) ((slices_pdqsortCmpFunc_int_e n m p q).symm.trans h) Try.func64 rfl (by kernel_rfl)
@[irreducible] noncomputable def slices_pdqsortCmpFunc_int (n:Nat):PayL R.T slices_pdqsortCmpFunc_int_p→PayOs R.T slices_pdqsortCmpFunc_int_o→Option (PayL R.T slices_pdqsortCmpFunc_int_r×PayOs R.T slices_pdqsortCmpFunc_int_o):=slices_pdqsortCmpFunc_int_m n n
theorem slices_pdqsortCmpFunc_int_ok (n:Nat):FMOK1 E 64 slices_pdqsortCmpFunc_int_p slices_pdqsortCmpFunc_int_o slices_pdqsortCmpFunc_int_r (slices_pdqsortCmpFunc_int n):=by
 unfold slices_pdqsortCmpFunc_int
 exact slices_pdqsortCmpFunc_int_mok n n
noncomputable def its18 (n:Nat):IR R:=addM 64 (mkM slices_pdqsortCmpFunc_int_p slices_pdqsortCmpFunc_int_o slices_pdqsortCmpFunc_int_r (slices_pdqsortCmpFunc_int n)) (its17 n)
theorem its18_ok (n:Nat):ItersOK E (its18 n):=addM_ok (m:=mkM slices_pdqsortCmpFunc_int_p slices_pdqsortCmpFunc_int_o slices_pdqsortCmpFunc_int_r (slices_pdqsortCmpFunc_int n)) (its17_ok n) (FMOK.M (slices_pdqsortCmpFunc_int_ok n))
def slices_SortFunc_int_int_a:Ann:=⟨[],[]⟩
abbrev slices_SortFunc_int_int_p:List Sk:=[.vw 1000000 (.int .i64),.fn 32 [.d (.st 3)] []]
abbrev slices_SortFunc_int_int_r:List Sk:=[]
abbrev slices_SortFunc_int_int_o:List (Nat×ObSk):=[(1000000,.arr (.int .i64))]
@[irreducible] noncomputable def slices_SortFunc_int_int (n:Nat) (p:PayL R.T slices_SortFunc_int_int_p) (q:PayOs R.T slices_SortFunc_int_int_o):Option (PayL R.T slices_SortFunc_int_int_r×PayOs R.T slices_SortFunc_int_int_o):=funI E R n false (regs53 n) (its18 n) slices_SortFunc_int_int_a Try.f49 slices_SortFunc_int_int_p slices_SortFunc_int_int_o slices_SortFunc_int_int_r p q
theorem slices_SortFunc_int_int_ok (n:Nat):FMOK1 E 49 slices_SortFunc_int_int_p slices_SortFunc_int_int_o slices_SortFunc_int_int_r (slices_SortFunc_int_int n):=by
 intro p q y q' h
 have h:slices_SortFunc_int_int n p q=some (y,q'):=h
 unfold slices_SortFunc_int_int at h
 exact funI_ok rOK (regs53_ok n) (its18_ok n) h Try.func49 rfl (by kernel_rfl)
noncomputable def its19 (n:Nat):IR R:=addM 49 (mkM slices_SortFunc_int_int_p slices_SortFunc_int_int_o slices_SortFunc_int_int_r (slices_SortFunc_int_int n)) (its18 n)
theorem its19_ok (n:Nat):ItersOK E (its19 n):=addM_ok (m:=mkM slices_SortFunc_int_int_p slices_SortFunc_int_int_o slices_SortFunc_int_int_r (slices_SortFunc_int_int n)) (its18_ok n) (FMOK.M (slices_SortFunc_int_int_ok n))
def graph_sorted_int_a:Ann:=⟨[],[]⟩
abbrev graph_sorted_int_p:List Sk:=[.d (.slice (.int .i64)),.fn 32 [.d (.st 3)] []]
abbrev graph_sorted_int_r:List Sk:=[.d (.slice (.int .i64))]
@[irreducible] noncomputable def graph_sorted_int (n:Nat) (p:PayL R.T graph_sorted_int_p):Option (PayL R.T graph_sorted_int_r):=funM E R n false (regs53 n) (its19 n) graph_sorted_int_a Try.f31 graph_sorted_int_p graph_sorted_int_r p
theorem graph_sorted_int_ok (n:Nat) (p:PayL R.T graph_sorted_int_p) (x:PayL R.T graph_sorted_int_r) (h:graph_sorted_int n p=some x):Pure E 31 (encSL R graph_sorted_int_p p) (retV (encSL R graph_sorted_int_r x)):=by
 unfold graph_sorted_int at h
 exact funM_ok rOK (regs53_ok n) (its19_ok n) h Try.func31 rfl rfl rfl rfl (by kernel_rfl)
noncomputable def regs54 (n:Nat):Nat→List (FR R):=addF 31 ⟨graph_sorted_int_p,graph_sorted_int_r,graph_sorted_int n,dflL R graph_sorted_int_r,false⟩ (regs53 n)
theorem regs54_ok (n:Nat):RegsOK E (regs54 n):=addF_ok (regs53_ok n) (graph_sorted_int_ok n)
def graph_Nearest_a:Ann:=⟨[(7,⟨[0,1,5,8,16,18],[8,16],⟨[],[(18,.cells [.d (.int .i64)])]⟩,[(.normal,⟨[],[(18,.cells [.d (.int .i64)])]⟩)]⟩)],[]⟩
abbrev graph_Nearest_p:List Sk:=[.d (.int .i64),.d (.slice (.slice (.int .i64))),.d (.st 1),.d (.slice (.int .i64)),.d (.int .i64),.d (.int .i64)]
abbrev graph_Nearest_r:List Sk:=[.d (.slice (.int .i64)),.d (.int .i64),.d .bool,.d (.int .i64)]
@[irreducible] noncomputable def graph_Nearest (n:Nat) (p:PayL R.T graph_Nearest_p):Option (PayL R.T graph_Nearest_r):=funM E R n false (regs54 n) (its19 n) graph_Nearest_a Try.f13 graph_Nearest_p graph_Nearest_r p
theorem graph_Nearest_ok (n:Nat) (p:PayL R.T graph_Nearest_p) (x:PayL R.T graph_Nearest_r) (h:graph_Nearest n p=some x):Pure E 13 (encSL R graph_Nearest_p p) (retV (encSL R graph_Nearest_r x)):=by
 unfold graph_Nearest at h
 exact funM_ok rOK (regs54_ok n) (its19_ok n) h Try.func13 rfl rfl rfl rfl (by kernel_rfl)
noncomputable def regs55 (n:Nat):Nat→List (FR R):=addF 13 ⟨graph_Nearest_p,graph_Nearest_r,graph_Nearest n,dflL R graph_Nearest_r,false⟩ (regs54 n)
theorem regs55_ok (n:Nat):RegsOK E (regs55 n):=addF_ok (regs54_ok n) (graph_Nearest_ok n)
def law27_GraphWalksDown_a:Ann:=⟨[(11,⟨[0,1,3,9,16,19],[9],⟨[(26,.d .bool),(27,.d (.int .i64))],[]⟩,[(.exit 0,⟨[(26,.d .bool)],[]⟩),(.ret,⟨[(14,.d .bool)],[]⟩)]⟩),
 (19,⟨[0,1,3,9,16,19,26,27,28],[9],⟨[(29,.d .bool),(30,.d (.int .i64))],[]⟩,[(.exit 2,⟨[(29,.d .bool)],[]⟩),(.ret,⟨[(14,.d .bool)],[]⟩)]⟩)],[]⟩
abbrev law27_GraphWalksDown_p:List Sk:=[.d (.int .i64),.d (.slice (.slice (.int .i64))),.d (.st 1),.d (.slice (.int .i64)),.d (.int .u8),.d (.int .i64),.d (.int .u8)]
abbrev law27_GraphWalksDown_r:List Sk:=[.d .bool]
@[irreducible] noncomputable def law27_GraphWalksDown (n:Nat) (p:PayL R.T law27_GraphWalksDown_p):Option (PayL R.T law27_GraphWalksDown_r):=funM E R n false (regs55 n) (its19 n) law27_GraphWalksDown_a Try.f3 law27_GraphWalksDown_p law27_GraphWalksDown_r p
theorem law27_GraphWalksDown_ok (n:Nat) (p:PayL R.T law27_GraphWalksDown_p) (x:PayL R.T law27_GraphWalksDown_r) (h:law27_GraphWalksDown n p=some x):Pure E 3 (encSL R law27_GraphWalksDown_p p) (retV (encSL R law27_GraphWalksDown_r x)):=by
 unfold law27_GraphWalksDown at h
 exact funM_ok rOK (regs55_ok n) (its19_ok n) h Try.func3 rfl rfl rfl rfl (by kernel_rfl)
noncomputable def regs56 (n:Nat):Nat→List (FR R):=addF 3 ⟨law27_GraphWalksDown_p,law27_GraphWalksDown_r,law27_GraphWalksDown n,dflL R law27_GraphWalksDown_r,false⟩ (regs55 n)
theorem regs56_ok (n:Nat):RegsOK E (regs56 n):=addF_ok (regs55_ok n) (law27_GraphWalksDown_ok n)
def slices_Values_int_int_a:Ann:=⟨[],[]⟩
abbrev slices_Values_int_int_p:List Sk:=[.d (.slice (.int .i64))]
abbrev slices_Values_int_int_r:List Sk:=[.fn 60 [] [.cref [.d (.slice (.int .i64))] 0]]
@[irreducible] noncomputable def slices_Values_int_int (n:Nat) (p:PayL R.T slices_Values_int_int_p):Option (PayL R.T slices_Values_int_int_r):=funM E R n false (regs56 n) (its19 n) slices_Values_int_int_a Try.f38 slices_Values_int_int_p slices_Values_int_int_r p
theorem slices_Values_int_int_ok (n:Nat) (p:PayL R.T slices_Values_int_int_p) (x:PayL R.T slices_Values_int_int_r) (h:slices_Values_int_int n p=some x):Pure E 38 (encSL R slices_Values_int_int_p p) (retV (encSL R slices_Values_int_int_r x)):=by
 unfold slices_Values_int_int at h
 exact funM_ok rOK (regs56_ok n) (its19_ok n) h Try.func38 rfl rfl rfl rfl (by kernel_rfl)
noncomputable def regs57 (n:Nat):Nat→List (FR R):=addF 38 ⟨slices_Values_int_int_p,slices_Values_int_int_r,slices_Values_int_int n,dflL R slices_Values_int_int_r,false⟩ (regs56 n)
theorem regs57_ok (n:Nat):RegsOK E (regs57 n):=addF_ok (regs56_ok n) (slices_Values_int_int_ok n)
def slices_AppendSeq_int_int_2_a:Ann:=⟨[(3,⟨[2],[],⟨[],[(2,.cells [.vw 11 (.int .i64)]),(11,.arr (.int .i64))]⟩,[(.normal,⟨[],[(2,.cells [.vw 11 (.int .i64)]),(11,.arr (.int .i64))]⟩)]⟩)],[]⟩
abbrev slices_AppendSeq_int_int_2_p:List Sk:=[.nils,.fn 60 [] [.cref [.d (.slice (.int .i64))] 0]]
abbrev slices_AppendSeq_int_int_2_o:List (Nat×ObSk):=[]
abbrev slices_AppendSeq_int_int_2_w:List (Nat×ObSk):=[]
abbrev slices_AppendSeq_int_int_2_k:NK:=.arr (.int .i64)
@[irreducible] noncomputable def slices_AppendSeq_int_int_2 (n:Nat) (p:PayL R.T slices_AppendSeq_int_int_2_p) (q:PayOs R.T slices_AppendSeq_int_int_2_o):Option (PayN R.T slices_AppendSeq_int_int_2_k×PayOs R.T slices_AppendSeq_int_int_2_w):=funN E R n true (regs57 n) (its19 n) slices_AppendSeq_int_int_2_a Try.f45 slices_AppendSeq_int_int_2_p slices_AppendSeq_int_int_2_o slices_AppendSeq_int_int_2_k slices_AppendSeq_int_int_2_w p q
theorem slices_AppendSeq_int_int_2_ok (n:Nat):FNOK1 E 45 slices_AppendSeq_int_int_2_p slices_AppendSeq_int_int_2_o slices_AppendSeq_int_int_2_k slices_AppendSeq_int_int_2_w (slices_AppendSeq_int_int_2 n):=by
 intro p q y q' h
 have h:slices_AppendSeq_int_int_2 n p q=some (y,q'):=h
 unfold slices_AppendSeq_int_int_2 at h
 exact funN_ok' rOK (regs57_ok n) (its19_ok n) h Try.func45 rfl (by kernel_rfl)
noncomputable def its20 (n:Nat):IR R:=addM 45 (mkN slices_AppendSeq_int_int_2_p slices_AppendSeq_int_int_2_o slices_AppendSeq_int_int_2_k slices_AppendSeq_int_int_2_w (slices_AppendSeq_int_int_2 n)) (its19 n)
theorem its20_ok (n:Nat):ItersOK E (its20 n):=addM_ok (m:=mkN slices_AppendSeq_int_int_2_p slices_AppendSeq_int_int_2_o slices_AppendSeq_int_int_2_k slices_AppendSeq_int_int_2_w (slices_AppendSeq_int_int_2 n)) (its19_ok n) (FMOK.N (slices_AppendSeq_int_int_2_ok n))
def slices_Collect_int_2_a:Ann:=⟨[],[]⟩
abbrev slices_Collect_int_2_p:List Sk:=[.fn 60 [] [.cref [.d (.slice (.int .i64))] 0]]
abbrev slices_Collect_int_2_o:List (Nat×ObSk):=[]
abbrev slices_Collect_int_2_w:List (Nat×ObSk):=[]
abbrev slices_Collect_int_2_k:NK:=.arr (.int .i64)
@[irreducible] noncomputable def slices_Collect_int_2 (n:Nat) (p:PayL R.T slices_Collect_int_2_p) (q:PayOs R.T slices_Collect_int_2_o):Option (PayN R.T slices_Collect_int_2_k×PayOs R.T slices_Collect_int_2_w):=funN E R n false (regs57 n) (its20 n) slices_Collect_int_2_a Try.f26 slices_Collect_int_2_p slices_Collect_int_2_o slices_Collect_int_2_k slices_Collect_int_2_w p q
theorem slices_Collect_int_2_ok (n:Nat):FNOK1 E 26 slices_Collect_int_2_p slices_Collect_int_2_o slices_Collect_int_2_k slices_Collect_int_2_w (slices_Collect_int_2 n):=by
 intro p q y q' h
 have h:slices_Collect_int_2 n p q=some (y,q'):=h
 unfold slices_Collect_int_2 at h
 exact funN_ok' rOK (regs57_ok n) (its20_ok n) h Try.func26 rfl (by kernel_rfl)
noncomputable def its21 (n:Nat):IR R:=addM 26 (mkN slices_Collect_int_2_p slices_Collect_int_2_o slices_Collect_int_2_k slices_Collect_int_2_w (slices_Collect_int_2 n)) (its20 n)
theorem its21_ok (n:Nat):ItersOK E (its21 n):=addM_ok (m:=mkN slices_Collect_int_2_p slices_Collect_int_2_o slices_Collect_int_2_k slices_Collect_int_2_w (slices_Collect_int_2 n)) (its20_ok n) (FMOK.N (slices_Collect_int_2_ok n))
def cmp_Less_int_a:Ann:=⟨[],[]⟩
abbrev cmp_Less_int_p:List Sk:=[.d (.int .i64),.d (.int .i64)]
abbrev cmp_Less_int_r:List Sk:=[.d .bool]
@[irreducible] noncomputable def cmp_Less_int (n:Nat) (p:PayL R.T cmp_Less_int_p):Option (PayL R.T cmp_Less_int_r):=funM E R n false (regs57 n) (its21 n) cmp_Less_int_a Try.f90 cmp_Less_int_p cmp_Less_int_r p
theorem cmp_Less_int_ok (n:Nat) (p:PayL R.T cmp_Less_int_p) (x:PayL R.T cmp_Less_int_r) (h:cmp_Less_int n p=some x):Pure E 90 (encSL R cmp_Less_int_p p) (retV (encSL R cmp_Less_int_r x)):=by
 unfold cmp_Less_int at h
 exact funM_ok rOK (regs57_ok n) (its21_ok n) h Try.func90 rfl rfl rfl rfl (by kernel_rfl)
noncomputable def regs58 (n:Nat):Nat→List (FR R):=addF 90 ⟨cmp_Less_int_p,cmp_Less_int_r,cmp_Less_int n,dflL R cmp_Less_int_r,false⟩ (regs57 n)
theorem regs58_ok (n:Nat):RegsOK E (regs58 n):=addF_ok (regs57_ok n) (cmp_Less_int_ok n)
def slices_insertionSortOrdered_int_a:Ann:=⟨[(1,⟨[0,1,2],[],⟨[(6,.d (.int .i64))],[(1000000,.arr (.int .i64))]⟩,[(.exit 0,⟨[],[(1000000,.arr (.int .i64))]⟩)]⟩),
 (4,⟨[0,1,2,6],[],⟨[(7,.d (.int .i64))],[(1000000,.arr (.int .i64))]⟩,[(.exit 2,⟨[],[(1000000,.arr (.int .i64))]⟩)]⟩)],[]⟩
abbrev slices_insertionSortOrdered_int_p:List Sk:=[.vw 1000000 (.int .i64),.d (.int .i64),.d (.int .i64)]
abbrev slices_insertionSortOrdered_int_r:List Sk:=[]
abbrev slices_insertionSortOrdered_int_o:List (Nat×ObSk):=[(1000000,.arr (.int .i64))]
@[irreducible] noncomputable def slices_insertionSortOrdered_int (n:Nat) (p:PayL R.T slices_insertionSortOrdered_int_p) (q:PayOs R.T slices_insertionSortOrdered_int_o):Option (PayL R.T slices_insertionSortOrdered_int_r×PayOs R.T slices_insertionSortOrdered_int_o):=funI E R n false (regs58 n) (its21 n) slices_insertionSortOrdered_int_a Try.f84 slices_insertionSortOrdered_int_p slices_insertionSortOrdered_int_o slices_insertionSortOrdered_int_r p q
theorem slices_insertionSortOrdered_int_ok (n:Nat):FMOK1 E 84 slices_insertionSortOrdered_int_p slices_insertionSortOrdered_int_o slices_insertionSortOrdered_int_r (slices_insertionSortOrdered_int n):=by
 intro p q y q' h
 have h:slices_insertionSortOrdered_int n p q=some (y,q'):=h
 unfold slices_insertionSortOrdered_int at h
 exact funI_ok rOK (regs58_ok n) (its21_ok n) h Try.func84 rfl (by kernel_rfl)
noncomputable def its22 (n:Nat):IR R:=addM 84 (mkM slices_insertionSortOrdered_int_p slices_insertionSortOrdered_int_o slices_insertionSortOrdered_int_r (slices_insertionSortOrdered_int n)) (its21 n)
theorem its22_ok (n:Nat):ItersOK E (its22 n):=addM_ok (m:=mkM slices_insertionSortOrdered_int_p slices_insertionSortOrdered_int_o slices_insertionSortOrdered_int_r (slices_insertionSortOrdered_int n)) (its21_ok n) (FMOK.M (slices_insertionSortOrdered_int_ok n))
def slices_siftDownOrdered_int_a:Ann:=⟨[(1,⟨[0,2,3],[],⟨[(8,.d (.int .i64))],[(1000000,.arr (.int .i64))]⟩,[(.exit 0,⟨[],[(1000000,.arr (.int .i64))]⟩),(.ret,⟨[],[(1000000,.arr (.int .i64))]⟩)]⟩)],[(5,⟨[0,2,3,8],[1000000],⟨[],[]⟩,[(.normal,⟨[(9,.d (.int .i64))],[]⟩)]⟩)]⟩
abbrev slices_siftDownOrdered_int_p:List Sk:=[.vw 1000000 (.int .i64),.d (.int .i64),.d (.int .i64),.d (.int .i64)]
abbrev slices_siftDownOrdered_int_r:List Sk:=[]
abbrev slices_siftDownOrdered_int_o:List (Nat×ObSk):=[(1000000,.arr (.int .i64))]
@[irreducible] noncomputable def slices_siftDownOrdered_int (n:Nat) (p:PayL R.T slices_siftDownOrdered_int_p) (q:PayOs R.T slices_siftDownOrdered_int_o):Option (PayL R.T slices_siftDownOrdered_int_r×PayOs R.T slices_siftDownOrdered_int_o):=funI E R n false (regs58 n) (its22 n) slices_siftDownOrdered_int_a Try.f103 slices_siftDownOrdered_int_p slices_siftDownOrdered_int_o slices_siftDownOrdered_int_r p q
theorem slices_siftDownOrdered_int_ok (n:Nat):FMOK1 E 103 slices_siftDownOrdered_int_p slices_siftDownOrdered_int_o slices_siftDownOrdered_int_r (slices_siftDownOrdered_int n):=by
 intro p q y q' h
 have h:slices_siftDownOrdered_int n p q=some (y,q'):=h
 unfold slices_siftDownOrdered_int at h
 exact funI_ok rOK (regs58_ok n) (its22_ok n) h Try.func103 rfl (by kernel_rfl)
noncomputable def its23 (n:Nat):IR R:=addM 103 (mkM slices_siftDownOrdered_int_p slices_siftDownOrdered_int_o slices_siftDownOrdered_int_r (slices_siftDownOrdered_int n)) (its22 n)
theorem its23_ok (n:Nat):ItersOK E (its23 n):=addM_ok (m:=mkM slices_siftDownOrdered_int_p slices_siftDownOrdered_int_o slices_siftDownOrdered_int_r (slices_siftDownOrdered_int n)) (its22_ok n) (FMOK.M (slices_siftDownOrdered_int_ok n))
def slices_heapSortOrdered_int_a:Ann:=⟨[(4,⟨[0,6,7,8],[],⟨[(9,.d (.int .i64))],[(1000000,.arr (.int .i64))]⟩,[(.exit 0,⟨[],[(1000000,.arr (.int .i64))]⟩)]⟩),
 (8,⟨[0,6,7],[],⟨[(10,.d (.int .i64))],[(1000000,.arr (.int .i64))]⟩,[(.exit 2,⟨[],[(1000000,.arr (.int .i64))]⟩)]⟩)],[]⟩
abbrev slices_heapSortOrdered_int_p:List Sk:=[.vw 1000000 (.int .i64),.d (.int .i64),.d (.int .i64)]
abbrev slices_heapSortOrdered_int_r:List Sk:=[]
abbrev slices_heapSortOrdered_int_o:List (Nat×ObSk):=[(1000000,.arr (.int .i64))]
@[irreducible] noncomputable def slices_heapSortOrdered_int (n:Nat) (p:PayL R.T slices_heapSortOrdered_int_p) (q:PayOs R.T slices_heapSortOrdered_int_o):Option (PayL R.T slices_heapSortOrdered_int_r×PayOs R.T slices_heapSortOrdered_int_o):=funI E R n false (regs58 n) (its23 n) slices_heapSortOrdered_int_a Try.f85 slices_heapSortOrdered_int_p slices_heapSortOrdered_int_o slices_heapSortOrdered_int_r p q
theorem slices_heapSortOrdered_int_ok (n:Nat):FMOK1 E 85 slices_heapSortOrdered_int_p slices_heapSortOrdered_int_o slices_heapSortOrdered_int_r (slices_heapSortOrdered_int n):=by
 intro p q y q' h
 have h:slices_heapSortOrdered_int n p q=some (y,q'):=h
 unfold slices_heapSortOrdered_int at h
 exact funI_ok rOK (regs58_ok n) (its23_ok n) h Try.func85 rfl (by kernel_rfl)
noncomputable def its24 (n:Nat):IR R:=addM 85 (mkM slices_heapSortOrdered_int_p slices_heapSortOrdered_int_o slices_heapSortOrdered_int_r (slices_heapSortOrdered_int n)) (its23 n)
theorem its24_ok (n:Nat):ItersOK E (its24 n):=addM_ok (m:=mkM slices_heapSortOrdered_int_p slices_heapSortOrdered_int_o slices_heapSortOrdered_int_r (slices_heapSortOrdered_int n)) (its23_ok n) (FMOK.M (slices_heapSortOrdered_int_ok n))
def slices_breakPatternsOrdered_int_a:Ann:=⟨[(5,⟨[0,1,6,7,8],[],⟨[(9,.d (.int .i64))],[(7,.cells [.d (.int .u64)]),(1000000,.arr (.int .i64))]⟩,[(.exit 0,⟨[],[(1000000,.arr (.int .i64))]⟩)]⟩)],[(10,⟨[0,1,6,7,8,9],[7,1000000],⟨[],[]⟩,[(.normal,⟨[(10,.d (.int .i64))],[]⟩)]⟩)]⟩
abbrev slices_breakPatternsOrdered_int_p:List Sk:=[.vw 1000000 (.int .i64),.d (.int .i64),.d (.int .i64)]
abbrev slices_breakPatternsOrdered_int_r:List Sk:=[]
abbrev slices_breakPatternsOrdered_int_o:List (Nat×ObSk):=[(1000000,.arr (.int .i64))]
@[irreducible] noncomputable def slices_breakPatternsOrdered_int (n:Nat) (p:PayL R.T slices_breakPatternsOrdered_int_p) (q:PayOs R.T slices_breakPatternsOrdered_int_o):Option (PayL R.T slices_breakPatternsOrdered_int_r×PayOs R.T slices_breakPatternsOrdered_int_o):=funI E R n false (regs58 n) (its24 n) slices_breakPatternsOrdered_int_a Try.f86 slices_breakPatternsOrdered_int_p slices_breakPatternsOrdered_int_o slices_breakPatternsOrdered_int_r p q
theorem slices_breakPatternsOrdered_int_ok (n:Nat):FMOK1 E 86 slices_breakPatternsOrdered_int_p slices_breakPatternsOrdered_int_o slices_breakPatternsOrdered_int_r (slices_breakPatternsOrdered_int n):=by
 intro p q y q' h
 have h:slices_breakPatternsOrdered_int n p q=some (y,q'):=h
 unfold slices_breakPatternsOrdered_int at h
 exact funI_ok rOK (regs58_ok n) (its24_ok n) h Try.func86 rfl (by kernel_rfl)
noncomputable def its25 (n:Nat):IR R:=addM 86 (mkM slices_breakPatternsOrdered_int_p slices_breakPatternsOrdered_int_o slices_breakPatternsOrdered_int_r (slices_breakPatternsOrdered_int n)) (its24 n)
theorem its25_ok (n:Nat):ItersOK E (its25 n):=addM_ok (m:=mkM slices_breakPatternsOrdered_int_p slices_breakPatternsOrdered_int_o slices_breakPatternsOrdered_int_r (slices_breakPatternsOrdered_int n)) (its24_ok n) (FMOK.M (slices_breakPatternsOrdered_int_ok n))
def slices_order2Ordered_int_a:Ann:=⟨[],[]⟩
abbrev slices_order2Ordered_int_p:List Sk:=[.d (.slice (.int .i64)),.d (.int .i64),.d (.int .i64),.ref 1000000 0]
abbrev slices_order2Ordered_int_r:List Sk:=[.d (.int .i64),.d (.int .i64)]
abbrev slices_order2Ordered_int_o:List (Nat×ObSk):=[(1000000,.cells [.d (.int .i64)])]
@[irreducible] noncomputable def slices_order2Ordered_int (n:Nat) (p:PayL R.T slices_order2Ordered_int_p) (q:PayOs R.T slices_order2Ordered_int_o):Option (PayL R.T slices_order2Ordered_int_r×PayOs R.T slices_order2Ordered_int_o):=funI E R n false (regs58 n) (its25 n) slices_order2Ordered_int_a Try.f107 slices_order2Ordered_int_p slices_order2Ordered_int_o slices_order2Ordered_int_r p q
theorem slices_order2Ordered_int_ok (n:Nat):FMOK1 E 107 slices_order2Ordered_int_p slices_order2Ordered_int_o slices_order2Ordered_int_r (slices_order2Ordered_int n):=by
 intro p q y q' h
 have h:slices_order2Ordered_int n p q=some (y,q'):=h
 unfold slices_order2Ordered_int at h
 exact funI_ok rOK (regs58_ok n) (its25_ok n) h Try.func107 rfl (by kernel_rfl)
noncomputable def its26 (n:Nat):IR R:=addM 107 (mkM slices_order2Ordered_int_p slices_order2Ordered_int_o slices_order2Ordered_int_r (slices_order2Ordered_int n)) (its25 n)
theorem its26_ok (n:Nat):ItersOK E (its26 n):=addM_ok (m:=mkM slices_order2Ordered_int_p slices_order2Ordered_int_o slices_order2Ordered_int_r (slices_order2Ordered_int n)) (its25_ok n) (FMOK.M (slices_order2Ordered_int_ok n))
def slices_medianOrdered_int_a:Ann:=⟨[],[]⟩
abbrev slices_medianOrdered_int_p:List Sk:=[.d (.slice (.int .i64)),.d (.int .i64),.d (.int .i64),.d (.int .i64),.ref 1000000 0]
abbrev slices_medianOrdered_int_r:List Sk:=[.d (.int .i64)]
abbrev slices_medianOrdered_int_o:List (Nat×ObSk):=[(1000000,.cells [.d (.int .i64)])]
@[irreducible] noncomputable def slices_medianOrdered_int (n:Nat) (p:PayL R.T slices_medianOrdered_int_p) (q:PayOs R.T slices_medianOrdered_int_o):Option (PayL R.T slices_medianOrdered_int_r×PayOs R.T slices_medianOrdered_int_o):=funI E R n false (regs58 n) (its26 n) slices_medianOrdered_int_a Try.f105 slices_medianOrdered_int_p slices_medianOrdered_int_o slices_medianOrdered_int_r p q
theorem slices_medianOrdered_int_ok (n:Nat):FMOK1 E 105 slices_medianOrdered_int_p slices_medianOrdered_int_o slices_medianOrdered_int_r (slices_medianOrdered_int n):=by
 intro p q y q' h
 have h:slices_medianOrdered_int n p q=some (y,q'):=h
 unfold slices_medianOrdered_int at h
 exact funI_ok rOK (regs58_ok n) (its26_ok n) h Try.func105 rfl (by kernel_rfl)
noncomputable def its27 (n:Nat):IR R:=addM 105 (mkM slices_medianOrdered_int_p slices_medianOrdered_int_o slices_medianOrdered_int_r (slices_medianOrdered_int n)) (its26 n)
theorem its27_ok (n:Nat):ItersOK E (its27 n):=addM_ok (m:=mkM slices_medianOrdered_int_p slices_medianOrdered_int_o slices_medianOrdered_int_r (slices_medianOrdered_int n)) (its26_ok n) (FMOK.M (slices_medianOrdered_int_ok n))
def slices_medianAdjacentOrdered_int_a:Ann:=⟨[],[]⟩
abbrev slices_medianAdjacentOrdered_int_p:List Sk:=[.d (.slice (.int .i64)),.d (.int .i64),.ref 1000000 0]
abbrev slices_medianAdjacentOrdered_int_r:List Sk:=[.d (.int .i64)]
abbrev slices_medianAdjacentOrdered_int_o:List (Nat×ObSk):=[(1000000,.cells [.d (.int .i64)])]
@[irreducible] noncomputable def slices_medianAdjacentOrdered_int (n:Nat) (p:PayL R.T slices_medianAdjacentOrdered_int_p) (q:PayOs R.T slices_medianAdjacentOrdered_int_o):Option (PayL R.T slices_medianAdjacentOrdered_int_r×PayOs R.T slices_medianAdjacentOrdered_int_o):=funI E R n false (regs58 n) (its27 n) slices_medianAdjacentOrdered_int_a Try.f104 slices_medianAdjacentOrdered_int_p slices_medianAdjacentOrdered_int_o slices_medianAdjacentOrdered_int_r p q
theorem slices_medianAdjacentOrdered_int_ok (n:Nat):FMOK1 E 104 slices_medianAdjacentOrdered_int_p slices_medianAdjacentOrdered_int_o slices_medianAdjacentOrdered_int_r (slices_medianAdjacentOrdered_int n):=by
 intro p q y q' h
 have h:slices_medianAdjacentOrdered_int n p q=some (y,q'):=h
 unfold slices_medianAdjacentOrdered_int at h
 exact funI_ok rOK (regs58_ok n) (its27_ok n) h Try.func104 rfl (by kernel_rfl)
noncomputable def its28 (n:Nat):IR R:=addM 104 (mkM slices_medianAdjacentOrdered_int_p slices_medianAdjacentOrdered_int_o slices_medianAdjacentOrdered_int_r (slices_medianAdjacentOrdered_int n)) (its27 n)
theorem its28_ok (n:Nat):ItersOK E (its28 n):=addM_ok (m:=mkM slices_medianAdjacentOrdered_int_p slices_medianAdjacentOrdered_int_o slices_medianAdjacentOrdered_int_r (slices_medianAdjacentOrdered_int n)) (its27_ok n) (FMOK.M (slices_medianAdjacentOrdered_int_ok n))
def slices_choosePivotOrdered_int_a:Ann:=⟨[],[]⟩
abbrev slices_choosePivotOrdered_int_p:List Sk:=[.d (.slice (.int .i64)),.d (.int .i64),.d (.int .i64)]
abbrev slices_choosePivotOrdered_int_r:List Sk:=[.d (.int .i64),.d (.int .i64)]
@[irreducible] noncomputable def slices_choosePivotOrdered_int (n:Nat) (p:PayL R.T slices_choosePivotOrdered_int_p):Option (PayL R.T slices_choosePivotOrdered_int_r):=funM E R n false (regs58 n) (its28 n) slices_choosePivotOrdered_int_a Try.f87 slices_choosePivotOrdered_int_p slices_choosePivotOrdered_int_r p
theorem slices_choosePivotOrdered_int_ok (n:Nat) (p:PayL R.T slices_choosePivotOrdered_int_p) (x:PayL R.T slices_choosePivotOrdered_int_r) (h:slices_choosePivotOrdered_int n p=some x):Pure E 87 (encSL R slices_choosePivotOrdered_int_p p) (retV (encSL R slices_choosePivotOrdered_int_r x)):=by
 unfold slices_choosePivotOrdered_int at h
 exact funM_ok rOK (regs58_ok n) (its28_ok n) h Try.func87 rfl rfl rfl rfl (by kernel_rfl)
noncomputable def regs59 (n:Nat):Nat→List (FR R):=addF 87 ⟨slices_choosePivotOrdered_int_p,slices_choosePivotOrdered_int_r,slices_choosePivotOrdered_int n,dflL R slices_choosePivotOrdered_int_r,false⟩ (regs58 n)
theorem regs59_ok (n:Nat):RegsOK E (regs59 n):=addF_ok (regs58_ok n) (slices_choosePivotOrdered_int_ok n)
def slices_reverseRangeOrdered_int_a:Ann:=⟨[(2,⟨[0],[],⟨[(6,.d (.int .i64)),(7,.d (.int .i64))],[(1000000,.arr (.int .i64))]⟩,[(.exit 0,⟨[],[(1000000,.arr (.int .i64))]⟩)]⟩)],[]⟩
abbrev slices_reverseRangeOrdered_int_p:List Sk:=[.vw 1000000 (.int .i64),.d (.int .i64),.d (.int .i64)]
abbrev slices_reverseRangeOrdered_int_r:List Sk:=[]
abbrev slices_reverseRangeOrdered_int_o:List (Nat×ObSk):=[(1000000,.arr (.int .i64))]
@[irreducible] noncomputable def slices_reverseRangeOrdered_int (n:Nat) (p:PayL R.T slices_reverseRangeOrdered_int_p) (q:PayOs R.T slices_reverseRangeOrdered_int_o):Option (PayL R.T slices_reverseRangeOrdered_int_r×PayOs R.T slices_reverseRangeOrdered_int_o):=funI E R n false (regs59 n) (its28 n) slices_reverseRangeOrdered_int_a Try.f88 slices_reverseRangeOrdered_int_p slices_reverseRangeOrdered_int_o slices_reverseRangeOrdered_int_r p q
theorem slices_reverseRangeOrdered_int_ok (n:Nat):FMOK1 E 88 slices_reverseRangeOrdered_int_p slices_reverseRangeOrdered_int_o slices_reverseRangeOrdered_int_r (slices_reverseRangeOrdered_int n):=by
 intro p q y q' h
 have h:slices_reverseRangeOrdered_int n p q=some (y,q'):=h
 unfold slices_reverseRangeOrdered_int at h
 exact funI_ok rOK (regs59_ok n) (its28_ok n) h Try.func88 rfl (by kernel_rfl)
noncomputable def its29 (n:Nat):IR R:=addM 88 (mkM slices_reverseRangeOrdered_int_p slices_reverseRangeOrdered_int_o slices_reverseRangeOrdered_int_r (slices_reverseRangeOrdered_int n)) (its28 n)
theorem its29_ok (n:Nat):ItersOK E (its29 n):=addM_ok (m:=mkM slices_reverseRangeOrdered_int_p slices_reverseRangeOrdered_int_o slices_reverseRangeOrdered_int_r (slices_reverseRangeOrdered_int n)) (its28_ok n) (FMOK.M (slices_reverseRangeOrdered_int_ok n))
def slices_partialInsertionSortOrdered_int_a:Ann:=⟨[(3,⟨[0,1,2],[],⟨[(7,.d (.int .i64)),(8,.d (.int .i64))],[(1000000,.arr (.int .i64))]⟩,[(.exit 0,⟨[],[(1000000,.arr (.int .i64))]⟩),(.ret,⟨[(6,.d .bool)],[(1000000,.arr (.int .i64))]⟩)]⟩),
 (5,⟨[0,1,2,8],[1000000],⟨[(7,.d (.int .i64))],[]⟩,[(.exit 2,⟨[(7,.d (.int .i64))],[]⟩)]⟩),
 (14,⟨[0,1,2,7,8],[],⟨[(9,.d (.int .i64))],[(1000000,.arr (.int .i64))]⟩,[(.exit 4,⟨[],[(1000000,.arr (.int .i64))]⟩)]⟩),
 (20,⟨[0,1,2,7,8],[],⟨[(10,.d (.int .i64))],[(1000000,.arr (.int .i64))]⟩,[(.exit 6,⟨[],[(1000000,.arr (.int .i64))]⟩)]⟩)],[(18,⟨[0,1,2,7,8],[],⟨[],[]⟩,[(.normal,⟨[],[(1000000,.arr (.int .i64))]⟩)]⟩)]⟩
abbrev slices_partialInsertionSortOrdered_int_p:List Sk:=[.vw 1000000 (.int .i64),.d (.int .i64),.d (.int .i64)]
abbrev slices_partialInsertionSortOrdered_int_r:List Sk:=[.d .bool]
abbrev slices_partialInsertionSortOrdered_int_o:List (Nat×ObSk):=[(1000000,.arr (.int .i64))]
@[irreducible] noncomputable def slices_partialInsertionSortOrdered_int (n:Nat) (p:PayL R.T slices_partialInsertionSortOrdered_int_p) (q:PayOs R.T slices_partialInsertionSortOrdered_int_o):Option (PayL R.T slices_partialInsertionSortOrdered_int_r×PayOs R.T slices_partialInsertionSortOrdered_int_o):=funI E R n false (regs59 n) (its29 n) slices_partialInsertionSortOrdered_int_a Try.f89 slices_partialInsertionSortOrdered_int_p slices_partialInsertionSortOrdered_int_o slices_partialInsertionSortOrdered_int_r p q
theorem slices_partialInsertionSortOrdered_int_ok (n:Nat):FMOK1 E 89 slices_partialInsertionSortOrdered_int_p slices_partialInsertionSortOrdered_int_o slices_partialInsertionSortOrdered_int_r (slices_partialInsertionSortOrdered_int n):=by
 intro p q y q' h
 have h:slices_partialInsertionSortOrdered_int n p q=some (y,q'):=h
 unfold slices_partialInsertionSortOrdered_int at h
 exact funI_ok rOK (regs59_ok n) (its29_ok n) h Try.func89 rfl (by kernel_rfl)
noncomputable def its30 (n:Nat):IR R:=addM 89 (mkM slices_partialInsertionSortOrdered_int_p slices_partialInsertionSortOrdered_int_o slices_partialInsertionSortOrdered_int_r (slices_partialInsertionSortOrdered_int n)) (its29 n)
theorem its30_ok (n:Nat):ItersOK E (its30 n):=addM_ok (m:=mkM slices_partialInsertionSortOrdered_int_p slices_partialInsertionSortOrdered_int_o slices_partialInsertionSortOrdered_int_r (slices_partialInsertionSortOrdered_int n)) (its29_ok n) (FMOK.M (slices_partialInsertionSortOrdered_int_ok n))
def slices_partitionEqualOrdered_int_a:Ann:=⟨[(503,⟨[0,1],[],⟨[(9,.d (.int .i64)),(10,.d (.int .i64))],[(1000000,.arr (.int .i64))]⟩,[(.exit 0,⟨[(9,.d (.int .i64))],[(1000000,.arr (.int .i64))]⟩)]⟩),
 (3,⟨[0,1,10],[1000000],⟨[(9,.d (.int .i64))],[]⟩,[(.exit 2,⟨[(9,.d (.int .i64))],[]⟩)]⟩),
 (5,⟨[0,1,9],[1000000],⟨[(10,.d (.int .i64))],[]⟩,[(.exit 4,⟨[(10,.d (.int .i64))],[]⟩)]⟩)],[]⟩
abbrev slices_partitionEqualOrdered_int_p:List Sk:=[.vw 1000000 (.int .i64),.d (.int .i64),.d (.int .i64),.d (.int .i64)]
abbrev slices_partitionEqualOrdered_int_r:List Sk:=[.d (.int .i64)]
abbrev slices_partitionEqualOrdered_int_o:List (Nat×ObSk):=[(1000000,.arr (.int .i64))]
@[irreducible] noncomputable def slices_partitionEqualOrdered_int (n:Nat) (p:PayL R.T slices_partitionEqualOrdered_int_p) (q:PayOs R.T slices_partitionEqualOrdered_int_o):Option (PayL R.T slices_partitionEqualOrdered_int_r×PayOs R.T slices_partitionEqualOrdered_int_o):=funI E R n false (regs59 n) (its30 n) slices_partitionEqualOrdered_int_a Try.f91 slices_partitionEqualOrdered_int_p slices_partitionEqualOrdered_int_o slices_partitionEqualOrdered_int_r p q
theorem slices_partitionEqualOrdered_int_ok (n:Nat):FMOK1 E 91 slices_partitionEqualOrdered_int_p slices_partitionEqualOrdered_int_o slices_partitionEqualOrdered_int_r (slices_partitionEqualOrdered_int n):=by
 intro p q y q' h
 have h:slices_partitionEqualOrdered_int n p q=some (y,q'):=h
 unfold slices_partitionEqualOrdered_int at h
 exact funI_ok rOK (regs59_ok n) (its30_ok n) h Try.func91 rfl (by kernel_rfl)
noncomputable def its31 (n:Nat):IR R:=addM 91 (mkM slices_partitionEqualOrdered_int_p slices_partitionEqualOrdered_int_o slices_partitionEqualOrdered_int_r (slices_partitionEqualOrdered_int n)) (its30 n)
theorem its31_ok (n:Nat):ItersOK E (its31 n):=addM_ok (m:=mkM slices_partitionEqualOrdered_int_p slices_partitionEqualOrdered_int_o slices_partitionEqualOrdered_int_r (slices_partitionEqualOrdered_int n)) (its30_ok n) (FMOK.M (slices_partitionEqualOrdered_int_ok n))
def slices_partitionOrdered_int_a:Ann:=⟨[(3,⟨[0,1,11],[1000000],⟨[(10,.d (.int .i64))],[]⟩,[(.exit 0,⟨[(10,.d (.int .i64))],[]⟩)]⟩),
 (5,⟨[0,1,10],[1000000],⟨[(11,.d (.int .i64))],[]⟩,[(.exit 2,⟨[(11,.d (.int .i64))],[]⟩)]⟩),
 (513,⟨[0,1],[],⟨[(10,.d (.int .i64)),(11,.d (.int .i64))],[(1000000,.arr (.int .i64))]⟩,[(.exit 4,⟨[(11,.d (.int .i64))],[(1000000,.arr (.int .i64))]⟩)]⟩),
 (13,⟨[0,1,11],[1000000],⟨[(10,.d (.int .i64))],[]⟩,[(.exit 6,⟨[(10,.d (.int .i64))],[]⟩)]⟩),
 (15,⟨[0,1,10],[1000000],⟨[(11,.d (.int .i64))],[]⟩,[(.exit 8,⟨[(11,.d (.int .i64))],[]⟩)]⟩)],[]⟩
abbrev slices_partitionOrdered_int_p:List Sk:=[.vw 1000000 (.int .i64),.d (.int .i64),.d (.int .i64),.d (.int .i64)]
abbrev slices_partitionOrdered_int_r:List Sk:=[.d (.int .i64),.d .bool]
abbrev slices_partitionOrdered_int_o:List (Nat×ObSk):=[(1000000,.arr (.int .i64))]
@[irreducible] noncomputable def slices_partitionOrdered_int (n:Nat) (p:PayL R.T slices_partitionOrdered_int_p) (q:PayOs R.T slices_partitionOrdered_int_o):Option (PayL R.T slices_partitionOrdered_int_r×PayOs R.T slices_partitionOrdered_int_o):=funI E R n false (regs59 n) (its31 n) slices_partitionOrdered_int_a Try.f92 slices_partitionOrdered_int_p slices_partitionOrdered_int_o slices_partitionOrdered_int_r p q
theorem slices_partitionOrdered_int_ok (n:Nat):FMOK1 E 92 slices_partitionOrdered_int_p slices_partitionOrdered_int_o slices_partitionOrdered_int_r (slices_partitionOrdered_int n):=by
 intro p q y q' h
 have h:slices_partitionOrdered_int n p q=some (y,q'):=h
 unfold slices_partitionOrdered_int at h
 exact funI_ok rOK (regs59_ok n) (its31_ok n) h Try.func92 rfl (by kernel_rfl)
noncomputable def its32 (n:Nat):IR R:=addM 92 (mkM slices_partitionOrdered_int_p slices_partitionOrdered_int_o slices_partitionOrdered_int_r (slices_partitionOrdered_int n)) (its31 n)
theorem its32_ok (n:Nat):ItersOK E (its32 n):=addM_ok (m:=mkM slices_partitionOrdered_int_p slices_partitionOrdered_int_o slices_partitionOrdered_int_r (slices_partitionOrdered_int n)) (its31_ok n) (FMOK.M (slices_partitionOrdered_int_ok n))
def slices_pdqsortOrdered_int_a:Ann:=⟨[(2,⟨[0],[],⟨[(1,.d (.int .i64)),(2,.d (.int .i64)),(3,.d (.int .i64)),(8,.d .bool),(9,.d .bool)],[(1000000,.arr (.int .i64))]⟩,[(.ret,⟨[],[(1000000,.arr (.int .i64))]⟩)]⟩)],[(10,⟨[0,1,2,8,9,10],[],⟨[],[]⟩,[(.normal,⟨[(3,.d (.int .i64))],[(1000000,.arr (.int .i64))]⟩)]⟩),(15,⟨[0,1,2,3,8,9,10],[],⟨[],[]⟩,[(.normal,⟨[(11,.d (.int .i64)),(12,.d (.int .i64))],[(1000000,.arr (.int .i64))]⟩)]⟩),(17,⟨[0,1,2,3,8,9,10,11],[],⟨[],[]⟩,[(.normal,⟨[],[(1000000,.arr (.int .i64))]⟩),(.ret,⟨[],[(1000000,.arr (.int .i64))]⟩)]⟩)]⟩
abbrev slices_pdqsortOrdered_int_p:List Sk:=[.vw 1000000 (.int .i64),.d (.int .i64),.d (.int .i64),.d (.int .i64)]
abbrev slices_pdqsortOrdered_int_r:List Sk:=[]
abbrev slices_pdqsortOrdered_int_o:List (Nat×ObSk):=[(1000000,.arr (.int .i64))]
noncomputable def slices_pdqsortOrdered_int_m (n:Nat):Nat→PayL R.T slices_pdqsortOrdered_int_p→PayOs R.T slices_pdqsortOrdered_int_o→Option (PayL R.T slices_pdqsortOrdered_int_r×PayOs R.T slices_pdqsortOrdered_int_o)
 |0,_,_=>none
 |m+1,p,q=>funI E R n false (regs59 n) (addM 69 (mkM slices_pdqsortOrdered_int_p slices_pdqsortOrdered_int_o slices_pdqsortOrdered_int_r (slices_pdqsortOrdered_int_m n m)) (its32 n)) slices_pdqsortOrdered_int_a Try.f69 slices_pdqsortOrdered_int_p slices_pdqsortOrdered_int_o slices_pdqsortOrdered_int_r p q
attribute [irreducible] slices_pdqsortOrdered_int_m
theorem slices_pdqsortOrdered_int_e (n m:Nat) (p:PayL R.T slices_pdqsortOrdered_int_p) (q:PayOs R.T slices_pdqsortOrdered_int_o):slices_pdqsortOrdered_int_m n (m+1) p q=funI E R n false (regs59 n) (addM 69 (mkM slices_pdqsortOrdered_int_p slices_pdqsortOrdered_int_o slices_pdqsortOrdered_int_r (slices_pdqsortOrdered_int_m n m)) (its32 n)) slices_pdqsortOrdered_int_a Try.f69 slices_pdqsortOrdered_int_p slices_pdqsortOrdered_int_o slices_pdqsortOrdered_int_r p q:=by kernel_rfl
theorem slices_pdqsortOrdered_int_e0 (n:Nat) (p:PayL R.T slices_pdqsortOrdered_int_p) (q:PayOs R.T slices_pdqsortOrdered_int_o):slices_pdqsortOrdered_int_m n 0 p q=none:=by kernel_rfl
theorem slices_pdqsortOrdered_int_mok (n:Nat):∀m,FMOK1 E 69 slices_pdqsortOrdered_int_p slices_pdqsortOrdered_int_o slices_pdqsortOrdered_int_r (slices_pdqsortOrdered_int_m n m)
 |0=>fun p q y q' h=>absurd (((slices_pdqsortOrdered_int_e0 n p q).symm.trans h)) nofun
 |m+1=>fun p q y q' h=>funI_ok rOK (regs59_ok n) (addM_ok (m:=(mkM slices_pdqsortOrdered_int_p slices_pdqsortOrdered_int_o slices_pdqsortOrdered_int_r (slices_pdqsortOrdered_int_m n m))) (its32_ok n) (FMOK.M (slices_pdqsortOrdered_int_mok n m))) ((slices_pdqsortOrdered_int_e n m p q).symm.trans h) Try.func69 rfl (by kernel_rfl)
@[irreducible] noncomputable def slices_pdqsortOrdered_int (n:Nat):PayL R.T slices_pdqsortOrdered_int_p→PayOs R.T slices_pdqsortOrdered_int_o→Option (PayL R.T slices_pdqsortOrdered_int_r×PayOs R.T slices_pdqsortOrdered_int_o):=slices_pdqsortOrdered_int_m n n
theorem slices_pdqsortOrdered_int_ok (n:Nat):FMOK1 E 69 slices_pdqsortOrdered_int_p slices_pdqsortOrdered_int_o slices_pdqsortOrdered_int_r (slices_pdqsortOrdered_int n):=by
 unfold slices_pdqsortOrdered_int
 exact slices_pdqsortOrdered_int_mok n n
noncomputable def its33 (n:Nat):IR R:=addM 69 (mkM slices_pdqsortOrdered_int_p slices_pdqsortOrdered_int_o slices_pdqsortOrdered_int_r (slices_pdqsortOrdered_int n)) (its32 n)
theorem its33_ok (n:Nat):ItersOK E (its33 n):=addM_ok (m:=mkM slices_pdqsortOrdered_int_p slices_pdqsortOrdered_int_o slices_pdqsortOrdered_int_r (slices_pdqsortOrdered_int n)) (its32_ok n) (FMOK.M (slices_pdqsortOrdered_int_ok n))
def slices_Sort_int_int_a:Ann:=⟨[],[]⟩
abbrev slices_Sort_int_int_p:List Sk:=[.vw 1000000 (.int .i64)]
abbrev slices_Sort_int_int_r:List Sk:=[]
abbrev slices_Sort_int_int_o:List (Nat×ObSk):=[(1000000,.arr (.int .i64))]
@[irreducible] noncomputable def slices_Sort_int_int (n:Nat) (p:PayL R.T slices_Sort_int_int_p) (q:PayOs R.T slices_Sort_int_int_o):Option (PayL R.T slices_Sort_int_int_r×PayOs R.T slices_Sort_int_int_o):=funI E R n false (regs59 n) (its33 n) slices_Sort_int_int_a Try.f59 slices_Sort_int_int_p slices_Sort_int_int_o slices_Sort_int_int_r p q
theorem slices_Sort_int_int_ok (n:Nat):FMOK1 E 59 slices_Sort_int_int_p slices_Sort_int_int_o slices_Sort_int_int_r (slices_Sort_int_int n):=by
 intro p q y q' h
 have h:slices_Sort_int_int n p q=some (y,q'):=h
 unfold slices_Sort_int_int at h
 exact funI_ok rOK (regs59_ok n) (its33_ok n) h Try.func59 rfl (by kernel_rfl)
noncomputable def its34 (n:Nat):IR R:=addM 59 (mkM slices_Sort_int_int_p slices_Sort_int_int_o slices_Sort_int_int_r (slices_Sort_int_int n)) (its33 n)
theorem its34_ok (n:Nat):ItersOK E (its34 n):=addM_ok (m:=mkM slices_Sort_int_int_p slices_Sort_int_int_o slices_Sort_int_int_r (slices_Sort_int_int n)) (its33_ok n) (FMOK.M (slices_Sort_int_int_ok n))
def slices_Sorted_int_a:Ann:=⟨[],[]⟩
abbrev slices_Sorted_int_p:List Sk:=[.fn 60 [] [.cref [.d (.slice (.int .i64))] 0]]
abbrev slices_Sorted_int_r:List Sk:=[.d (.slice (.int .i64))]
@[irreducible] noncomputable def slices_Sorted_int (n:Nat) (p:PayL R.T slices_Sorted_int_p):Option (PayL R.T slices_Sorted_int_r):=funM E R n false (regs59 n) (its34 n) slices_Sorted_int_a Try.f37 slices_Sorted_int_p slices_Sorted_int_r p
theorem slices_Sorted_int_ok (n:Nat) (p:PayL R.T slices_Sorted_int_p) (x:PayL R.T slices_Sorted_int_r) (h:slices_Sorted_int n p=some x):Pure E 37 (encSL R slices_Sorted_int_p p) (retV (encSL R slices_Sorted_int_r x)):=by
 unfold slices_Sorted_int at h
 exact funM_ok rOK (regs59_ok n) (its34_ok n) h Try.func37 rfl rfl rfl rfl (by kernel_rfl)
noncomputable def regs60 (n:Nat):Nat→List (FR R):=addF 37 ⟨slices_Sorted_int_p,slices_Sorted_int_r,slices_Sorted_int n,dflL R slices_Sorted_int_r,false⟩ (regs59 n)
theorem regs60_ok (n:Nat):RegsOK E (regs60 n):=addF_ok (regs59_ok n) (slices_Sorted_int_ok n)
def graph_around_a:Ann:=⟨[(3,⟨[1,8,9],[],⟨[(5,.l (.own 21) (.int .i64)),(10,.d (.int .i64))],[]⟩,[(.exit 0,⟨[(5,.l (.own 21) (.int .i64))],[]⟩)]⟩)],[]⟩
abbrev graph_around_p:List Sk:=[.d (.slice (.int .i64)),.d (.int .i64)]
abbrev graph_around_r:List Sk:=[.d (.slice (.int .i64))]
@[irreducible] noncomputable def graph_around (n:Nat) (p:PayL R.T graph_around_p):Option (PayL R.T graph_around_r):=funM E R n false (regs60 n) (its34 n) graph_around_a Try.f39 graph_around_p graph_around_r p
theorem graph_around_ok (n:Nat) (p:PayL R.T graph_around_p) (x:PayL R.T graph_around_r) (h:graph_around n p=some x):Pure E 39 (encSL R graph_around_p p) (retV (encSL R graph_around_r x)):=by
 unfold graph_around at h
 exact funM_ok rOK (regs60_ok n) (its34_ok n) h Try.func39 rfl rfl rfl rfl (by kernel_rfl)
noncomputable def regs61 (n:Nat):Nat→List (FR R):=addF 39 ⟨graph_around_p,graph_around_r,graph_around n,dflL R graph_around_r,false⟩ (regs60 n)
theorem regs61_ok (n:Nat):RegsOK E (regs61 n):=addF_ok (regs60_ok n) (graph_around_ok n)
def graph_Build_a:Ann:=⟨[(6,⟨[1,2,6,8,9,29,30],[6,8],⟨[(31,.d (.int .i64))],[(9,.cells [.l (.own 56) (.st 0)])]⟩,[(.exit 0,⟨[],[(9,.cells [.l (.own 56) (.st 0)])]⟩)]⟩)],[]⟩
abbrev graph_Build_p:List Sk:=[.d (.int .i64),.d (.slice (.slice (.int .i64))),.d (.int .i64)]
abbrev graph_Build_r:List Sk:=[.d (.st 1),.d (.int .i64)]
@[irreducible] noncomputable def graph_Build (n:Nat) (p:PayL R.T graph_Build_p):Option (PayL R.T graph_Build_r):=funM E R n false (regs61 n) (its34 n) graph_Build_a Try.f17 graph_Build_p graph_Build_r p
theorem graph_Build_ok (n:Nat) (p:PayL R.T graph_Build_p) (x:PayL R.T graph_Build_r) (h:graph_Build n p=some x):Pure E 17 (encSL R graph_Build_p p) (retV (encSL R graph_Build_r x)):=by
 unfold graph_Build at h
 exact funM_ok rOK (regs61_ok n) (its34_ok n) h Try.func17 rfl rfl rfl rfl (by kernel_rfl)
noncomputable def regs62 (n:Nat):Nat→List (FR R):=addF 17 ⟨graph_Build_p,graph_Build_r,graph_Build n,dflL R graph_Build_r,false⟩ (regs61 n)
theorem regs62_ok (n:Nat):RegsOK E (regs62 n):=addF_ok (regs61_ok n) (graph_Build_ok n)
def slices_Equal_int_int_a:Ann:=⟨[(4,⟨[0,1,12],[],⟨[(13,.d (.int .i64))],[]⟩,[(.exit 0,⟨[],[]⟩),(.ret,⟨[(4,.d .bool)],[]⟩)]⟩)],[]⟩
abbrev slices_Equal_int_int_p:List Sk:=[.d (.slice (.int .i64)),.d (.slice (.int .i64))]
abbrev slices_Equal_int_int_r:List Sk:=[.d .bool]
@[irreducible] noncomputable def slices_Equal_int_int (n:Nat) (p:PayL R.T slices_Equal_int_int_p):Option (PayL R.T slices_Equal_int_int_r):=funM E R n false (regs62 n) (its34 n) slices_Equal_int_int_a Try.f40 slices_Equal_int_int_p slices_Equal_int_int_r p
theorem slices_Equal_int_int_ok (n:Nat) (p:PayL R.T slices_Equal_int_int_p) (x:PayL R.T slices_Equal_int_int_r) (h:slices_Equal_int_int n p=some x):Pure E 40 (encSL R slices_Equal_int_int_p p) (retV (encSL R slices_Equal_int_int_r x)):=by
 unfold slices_Equal_int_int at h
 exact funM_ok rOK (regs62_ok n) (its34_ok n) h Try.func40 rfl rfl rfl rfl (by kernel_rfl)
noncomputable def regs63 (n:Nat):Nat→List (FR R):=addF 40 ⟨slices_Equal_int_int_p,slices_Equal_int_int_r,slices_Equal_int_int n,dflL R slices_Equal_int_int_r,false⟩ (regs62 n)
theorem regs63_ok (n:Nat):RegsOK E (regs63 n):=addF_ok (regs62_ok n) (slices_Equal_int_int_ok n)
def graph_Check_a:Ann:=⟨[(5,⟨[1,8,25,26],[8],⟨[(27,.d (.int .i64))],[]⟩,[(.exit 0,⟨[],[]⟩),(.ret,⟨[(6,.d (.int .i64)),(7,.d (.int .i64))],[]⟩)]⟩)],[]⟩
abbrev graph_Check_p:List Sk:=[.d (.int .i64),.d (.slice (.slice (.int .i64))),.d (.st 1)]
abbrev graph_Check_r:List Sk:=[.d (.int .i64),.d (.int .i64)]
@[irreducible] noncomputable def graph_Check (n:Nat) (p:PayL R.T graph_Check_p):Option (PayL R.T graph_Check_r):=funM E R n false (regs63 n) (its34 n) graph_Check_a Try.f18 graph_Check_p graph_Check_r p
theorem graph_Check_ok (n:Nat) (p:PayL R.T graph_Check_p) (x:PayL R.T graph_Check_r) (h:graph_Check n p=some x):Pure E 18 (encSL R graph_Check_p p) (retV (encSL R graph_Check_r x)):=by
 unfold graph_Check at h
 exact funM_ok rOK (regs63_ok n) (its34_ok n) h Try.func18 rfl rfl rfl rfl (by kernel_rfl)
noncomputable def regs64 (n:Nat):Nat→List (FR R):=addF 18 ⟨graph_Check_p,graph_Check_r,graph_Check n,dflL R graph_Check_r,false⟩ (regs63 n)
theorem regs64_ok (n:Nat):RegsOK E (regs64 n):=addF_ok (regs63_ok n) (graph_Check_ok n)
def law27_GraphBuildIsExact_a:Ann:=⟨[(9,⟨[0,1,7,8],[8],⟨[(12,.d (.int .i64))],[]⟩,[(.exit 0,⟨[],[]⟩),(.ret,⟨[(6,.d .bool)],[]⟩)]⟩),
 (14,⟨[0,1,7,8,12,13],[8,13],⟨[(14,.d (.int .i64)),(15,.d (.int .i64))],[]⟩,[(.exit 2,⟨[(14,.d (.int .i64))],[]⟩)]⟩)],[]⟩
abbrev law27_GraphBuildIsExact_p:List Sk:=[.d (.int .i64),.d (.slice (.slice (.int .i64))),.d (.int .u8)]
abbrev law27_GraphBuildIsExact_r:List Sk:=[.d .bool]
@[irreducible] noncomputable def law27_GraphBuildIsExact (n:Nat) (p:PayL R.T law27_GraphBuildIsExact_p):Option (PayL R.T law27_GraphBuildIsExact_r):=funM E R n false (regs64 n) (its34 n) law27_GraphBuildIsExact_a Try.f4 law27_GraphBuildIsExact_p law27_GraphBuildIsExact_r p
theorem law27_GraphBuildIsExact_ok (n:Nat) (p:PayL R.T law27_GraphBuildIsExact_p) (x:PayL R.T law27_GraphBuildIsExact_r) (h:law27_GraphBuildIsExact n p=some x):Pure E 4 (encSL R law27_GraphBuildIsExact_p p) (retV (encSL R law27_GraphBuildIsExact_r x)):=by
 unfold law27_GraphBuildIsExact at h
 exact funM_ok rOK (regs64_ok n) (its34_ok n) h Try.func4 rfl rfl rfl rfl (by kernel_rfl)
end Sh
