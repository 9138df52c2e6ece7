/- Part of the proof of a law. -/
import Derived.KernelRfl
import Derived.Test.YtabmooekodficaaGreatF1818
set_option linter.all false
set_option linter.unusedSimpArgs false
set_option linter.unusedSectionVars false
open Go Go.Proofs Aq
namespace Sh
set_option maxRecDepth 100000
def iW (i:Nat) (a r:List Sk) (F:PayL R.T a→Option (PayL R.T r)):Prop:=∀p x,F p=some x→Pure E i (encSL R a p) (retV (encSL R r x))
theorem okF {n:Nat} {om:Bool} {F:Nat→List (FR R)} {A:Ann} {i:Nat} {fn:Func} {a r:List Sk} {p:PayL R.T a} {x:PayL R.T r} (hF:RegsOK E F) (h:funM E R n om F iters A fn a r p=some x) (hf:E.P.funcs[i]? =some fn) (hok:(match fn.body with|some c=>decide (a.length≤fn.ntmps)&& bU fn.ntmps c&& iJ E c|none=>false)=true)
 (ha:cSkL a=true:=by rfl) (hl:(encSL R a p).length=a.length:=by rfl) (ho:E.om i=om:=by rfl) (hs:E.summ i=none:=by rfl):Pure E i (encSL R a p) (retV (encSL R r x)):=funM_ok rOK hF iters_ok h hf ha hl ho hs hok
def ref09_Few_a:Ann:=⟨[(4,⟨[0],[],⟨[(5,.d (.int .i64))],[]⟩,[(.exit 0,⟨[],[]⟩),(.ret,⟨[(4,.d .bool)],[]⟩)]⟩)],[]⟩
abbrev ref09_Few_p:List Sk:=[.d (.slice (.slice (.int .i64))),.d (.int .i64)]
abbrev ref09_Few_r:List Sk:=[.d .bool]
@[irreducible] noncomputable def ref09_Few (n:Nat) (p:PayL R.T ref09_Few_p):Option (PayL R.T ref09_Few_r):=funM E R n false (regs0 n) iters ref09_Few_a Tryz.f6 ref09_Few_p ref09_Few_r p
theorem ref09_Few_ok (n:Nat):iW 6 ref09_Few_p ref09_Few_r (ref09_Few n):=fun _ _ h=>by unfold ref09_Few at h;exact okF (regs0_ok n) h Tryz.func6 (by kernel_rfl)
noncomputable def regs1 (n:Nat):Nat→List (FR R):=addF 6 ⟨ref09_Few_p,ref09_Few_r,ref09_Few n,dflL R ref09_Few_r,false⟩ (regs0 n)
theorem regs1_ok (n:Nat):RegsOK E (regs1 n):=addF_ok (regs0_ok n) (ref09_Few_ok n)
def ref27_Few_a:Ann:=⟨[(4,⟨[1],[1],⟨[(3,.d (.int .i64))],[]⟩,[(.exit 0,⟨[],[]⟩),(.ret,⟨[(2,.d .bool)],[]⟩)]⟩)],[]⟩
abbrev ref27_Few_p:List Sk:=[.d (.st 1)]
abbrev ref27_Few_r:List Sk:=[.d .bool]
@[irreducible] noncomputable def ref27_Few (n:Nat) (p:PayL R.T ref27_Few_p):Option (PayL R.T ref27_Few_r):=funM E R n false (regs1 n) iters ref27_Few_a Tryz.f7 ref27_Few_p ref27_Few_r p
theorem ref27_Few_ok (n:Nat):iW 7 ref27_Few_p ref27_Few_r (ref27_Few n):=fun _ _ h=>by unfold ref27_Few at h;exact okF (regs1_ok n) h Tryz.func7 (by kernel_rfl)
noncomputable def regs2 (n:Nat):Nat→List (FR R):=addF 7 ⟨ref27_Few_p,ref27_Few_r,ref27_Few n,dflL R ref27_Few_r,false⟩ (regs1 n)
theorem regs2_ok (n:Nat):RegsOK E (regs2 n):=addF_ok (regs1_ok n) (ref27_Few_ok n)
abbrev law27_sanity_p:List Sk:=[]
abbrev law27_sanity_r:List Sk:=[.d .bool]
@[irreducible] def law27_sanity (n:Nat) (p:PayL R.T law27_sanity_p):Option (PayL R.T law27_sanity_r):=some true
theorem law27_sanity_eq (n:Nat) (p:PayL R.T law27_sanity_p):law27_sanity n p=some true:=by unfold law27_sanity;rfl
theorem law27_sanity_ok (n:Nat) (p:PayL R.T law27_sanity_p) (x:PayL R.T law27_sanity_r) (h:law27_sanity n p=some x):Pure E 8 (encSL R law27_sanity_p p) (retV (encSL R law27_sanity_r x)):=by
 unfold law27_sanity at h
 exact sanP p x h
noncomputable def regs3 (n:Nat):Nat→List (FR R):=addF 8 ⟨law27_sanity_p,law27_sanity_r,law27_sanity n,dflL R law27_sanity_r,false⟩ (regs2 n)
theorem regs3_ok (n:Nat):RegsOK E (regs3 n):=addF_ok (regs2_ok n) (law27_sanity_ok n)
def metric_clamp_int_a:Ann:=⟨[],[]⟩
abbrev metric_clamp_int_p:List Sk:=[.d (.int .i64),.d (.int .i64),.d (.int .i64)]
abbrev metric_clamp_int_r:List Sk:=[.d (.int .i64)]
@[irreducible] noncomputable def metric_clamp_int (n:Nat) (p:PayL R.T metric_clamp_int_p):Option (PayL R.T metric_clamp_int_r):=funM E R n false (regs3 n) iters metric_clamp_int_a Tryz.f84 metric_clamp_int_p metric_clamp_int_r p
theorem metric_clamp_int_ok (n:Nat):iW 84 metric_clamp_int_p metric_clamp_int_r (metric_clamp_int n):=fun _ _ h=>by unfold metric_clamp_int at h;exact okF (regs3_ok n) h Tryz.func84 (by kernel_rfl)
noncomputable def regs4 (n:Nat):Nat→List (FR R):=addF 84 ⟨metric_clamp_int_p,metric_clamp_int_r,metric_clamp_int n,dflL R metric_clamp_int_r,false⟩ (regs3 n)
theorem regs4_ok (n:Nat):RegsOK E (regs4 n):=addF_ok (regs3_ok n) (metric_clamp_int_ok n)
def metric_Valid_a:Ann:=⟨[],[]⟩
abbrev metric_Valid_p:List Sk:=[.d (.int .i64),.d (.int .i64)]
abbrev metric_Valid_r:List Sk:=[.d .bool]
@[irreducible] noncomputable def metric_Valid (n:Nat) (p:PayL R.T metric_Valid_p):Option (PayL R.T metric_Valid_r):=funM E R n false (regs4 n) iters metric_Valid_a Tryz.f68 metric_Valid_p metric_Valid_r p
theorem metric_Valid_ok (n:Nat):iW 68 metric_Valid_p metric_Valid_r (metric_Valid n):=fun _ _ h=>by unfold metric_Valid at h;exact okF (regs4_ok n) h Tryz.func68 (by kernel_rfl)
noncomputable def regs5 (n:Nat):Nat→List (FR R):=addF 68 ⟨metric_Valid_p,metric_Valid_r,metric_Valid n,dflL R metric_Valid_r,false⟩ (regs4 n)
theorem regs5_ok (n:Nat):RegsOK E (regs5 n):=addF_ok (regs4_ok n) (metric_Valid_ok n)
def vector_Valid_1_a:Ann:=⟨[],[]⟩
abbrev vector_Valid_1_p:List Sk:=[.d .bool,.d (.int .i64)]
abbrev vector_Valid_1_r:List Sk:=[.d .bool]
@[irreducible] noncomputable def vector_Valid_1 (n:Nat) (p:PayL R.T vector_Valid_1_p):Option (PayL R.T vector_Valid_1_r):=funM E R n false (regs5 n) iters vector_Valid_1_a Tryz.f88 vector_Valid_1_p vector_Valid_1_r p
theorem vector_Valid_1_ok (n:Nat):iW 88 vector_Valid_1_p vector_Valid_1_r (vector_Valid_1 n):=fun _ _ h=>by unfold vector_Valid_1 at h;exact okF (regs5_ok n) h Tryz.func88 (by kernel_rfl)
noncomputable def regs6 (n:Nat):Nat→List (FR R):=addF 88 ⟨vector_Valid_1_p,vector_Valid_1_r,vector_Valid_1 n,dflL R vector_Valid_1_r,false⟩ (regs5 n)
theorem regs6_ok (n:Nat):RegsOK E (regs6 n):=addF_ok (regs5_ok n) (vector_Valid_1_ok n)
def vector_fold_bool_a:Ann:=⟨[(2,⟨[2,9,10],[],⟨[(1,.d .bool),(11,.d (.int .i64))],[]⟩,[(.exit 0,⟨[(1,.d .bool)],[]⟩)]⟩)],[]⟩
abbrev vector_fold_bool_p:List Sk:=[.d (.slice (.int .i64)),.d .bool,.fn 88 [] []]
abbrev vector_fold_bool_r:List Sk:=[.d .bool]
@[irreducible] noncomputable def vector_fold_bool (n:Nat) (p:PayL R.T vector_fold_bool_p):Option (PayL R.T vector_fold_bool_r):=funM E R n false (regs6 n) iters vector_fold_bool_a Tryz.f87 vector_fold_bool_p vector_fold_bool_r p
theorem vector_fold_bool_ok (n:Nat):iW 87 vector_fold_bool_p vector_fold_bool_r (vector_fold_bool n):=fun _ _ h=>by unfold vector_fold_bool at h;exact okF (regs6_ok n) h Tryz.func87 (by kernel_rfl)
noncomputable def regs7 (n:Nat):Nat→List (FR R):=addF 87 ⟨vector_fold_bool_p,vector_fold_bool_r,vector_fold_bool n,dflL R vector_fold_bool_r,false⟩ (regs6 n)
theorem regs7_ok (n:Nat):RegsOK E (regs7 n):=addF_ok (regs6_ok n) (vector_fold_bool_ok n)
def vector_Valid_a:Ann:=⟨[],[]⟩
abbrev vector_Valid_p:List Sk:=[.d (.slice (.int .i64))]
abbrev vector_Valid_r:List Sk:=[.d .bool]
@[irreducible] noncomputable def vector_Valid (n:Nat) (p:PayL R.T vector_Valid_p):Option (PayL R.T vector_Valid_r):=funM E R n false (regs7 n) iters vector_Valid_a Tryz.f77 vector_Valid_p vector_Valid_r p
theorem vector_Valid_ok (n:Nat):iW 77 vector_Valid_p vector_Valid_r (vector_Valid n):=fun _ _ h=>by unfold vector_Valid at h;exact okF (regs7_ok n) h Tryz.func77 (by kernel_rfl)
noncomputable def regs8 (n:Nat):Nat→List (FR R):=addF 77 ⟨vector_Valid_p,vector_Valid_r,vector_Valid n,dflL R vector_Valid_r,false⟩ (regs7 n)
theorem regs8_ok (n:Nat):RegsOK E (regs8 n):=addF_ok (regs7_ok n) (vector_Valid_ok n)
def vector_Alike_a:Ann:=⟨[],[]⟩
abbrev vector_Alike_p:List Sk:=[.d (.slice (.int .i64)),.d (.slice (.int .i64))]
abbrev vector_Alike_r:List Sk:=[.d .bool]
@[irreducible] noncomputable def vector_Alike (n:Nat) (p:PayL R.T vector_Alike_p):Option (PayL R.T vector_Alike_r):=funM E R n false (regs8 n) iters vector_Alike_a Tryz.f55 vector_Alike_p vector_Alike_r p
theorem vector_Alike_ok (n:Nat):iW 55 vector_Alike_p vector_Alike_r (vector_Alike n):=fun _ _ h=>by unfold vector_Alike at h;exact okF (regs8_ok n) h Tryz.func55 (by kernel_rfl)
noncomputable def regs9 (n:Nat):Nat→List (FR R):=addF 55 ⟨vector_Alike_p,vector_Alike_r,vector_Alike n,dflL R vector_Alike_r,false⟩ (regs8 n)
theorem regs9_ok (n:Nat):RegsOK E (regs9 n):=addF_ok (regs8_ok n) (vector_Alike_ok n)
def graph_space_isRight_1_a:Ann:=⟨[],[]⟩
abbrev graph_space_isRight_1_p:List Sk:=[.d (.slice (.int .i64)),.cref [.d (.int .i64),.d (.slice (.slice (.int .i64)))] 0]
abbrev graph_space_isRight_1_r:List Sk:=[.d .bool]
@[irreducible] noncomputable def graph_space_isRight_1 (n:Nat) (p:PayL R.T graph_space_isRight_1_p):Option (PayL R.T graph_space_isRight_1_r):=funM E R n false (regs9 n) iters graph_space_isRight_1_a Tryz.f67 graph_space_isRight_1_p graph_space_isRight_1_r p
theorem graph_space_isRight_1_ok (n:Nat):iW 67 graph_space_isRight_1_p graph_space_isRight_1_r (graph_space_isRight_1 n):=fun _ _ h=>by unfold graph_space_isRight_1 at h;exact okF (regs9_ok n) h Tryz.func67 (by kernel_rfl)
noncomputable def regs10 (n:Nat):Nat→List (FR R):=addF 67 ⟨graph_space_isRight_1_p,graph_space_isRight_1_r,graph_space_isRight_1 n,dflL R graph_space_isRight_1_r,false⟩ (regs9 n)
theorem regs10_ok (n:Nat):RegsOK E (regs10 n):=addF_ok (regs9_ok n) (graph_space_isRight_1_ok n)
def slices_IndexFunc_int_intx_a:Ann:=⟨[(2,⟨[0,1,7],[],⟨[(8,.d (.int .i64))],[]⟩,[(.exit 0,⟨[],[]⟩),(.ret,⟨[(4,.d (.int .i64))],[]⟩)]⟩)],[]⟩
abbrev slices_IndexFunc_int_intx_p:List Sk:=[.d (.slice (.slice (.int .i64))),.fn 67 [] [.cref [.d (.int .i64),.d (.slice (.slice (.int .i64)))] 0]]
abbrev slices_IndexFunc_int_intx_r:List Sk:=[.d (.int .i64)]
@[irreducible] noncomputable def slices_IndexFunc_int_intx (n:Nat) (p:PayL R.T slices_IndexFunc_int_intx_p):Option (PayL R.T slices_IndexFunc_int_intx_r):=funM E R n false (regs10 n) iters slices_IndexFunc_int_intx_a Tryz.f85 slices_IndexFunc_int_intx_p slices_IndexFunc_int_intx_r p
theorem slices_IndexFunc_int_intx_ok (n:Nat):iW 85 slices_IndexFunc_int_intx_p slices_IndexFunc_int_intx_r (slices_IndexFunc_int_intx n):=fun _ _ h=>by unfold slices_IndexFunc_int_intx at h;exact okF (regs10_ok n) h Tryz.func85 (by kernel_rfl)
noncomputable def regs11 (n:Nat):Nat→List (FR R):=addF 85 ⟨slices_IndexFunc_int_intx_p,slices_IndexFunc_int_intx_r,slices_IndexFunc_int_intx n,dflL R slices_IndexFunc_int_intx_r,false⟩ (regs10 n)
theorem regs11_ok (n:Nat):RegsOK E (regs11 n):=addF_ok (regs10_ok n) (slices_IndexFunc_int_intx_ok n)
def slices_ContainsFunc_int_int_a:Ann:=⟨[],[]⟩
abbrev slices_ContainsFunc_int_int_p:List Sk:=[.d (.slice (.slice (.int .i64))),.fn 67 [] [.cref [.d (.int .i64),.d (.slice (.slice (.int .i64)))] 0]]
abbrev slices_ContainsFunc_int_int_r:List Sk:=[.d .bool]
@[irreducible] noncomputable def slices_ContainsFunc_int_int (n:Nat) (p:PayL R.T slices_ContainsFunc_int_int_p):Option (PayL R.T slices_ContainsFunc_int_int_r):=funM E R n false (regs11 n) iters slices_ContainsFunc_int_int_a Tryz.f69 slices_ContainsFunc_int_int_p slices_ContainsFunc_int_int_r p
theorem slices_ContainsFunc_int_int_ok (n:Nat):iW 69 slices_ContainsFunc_int_int_p slices_ContainsFunc_int_int_r (slices_ContainsFunc_int_int n):=fun _ _ h=>by unfold slices_ContainsFunc_int_int at h;exact okF (regs11_ok n) h Tryz.func69 (by kernel_rfl)
noncomputable def regs12 (n:Nat):Nat→List (FR R):=addF 69 ⟨slices_ContainsFunc_int_int_p,slices_ContainsFunc_int_int_r,slices_ContainsFunc_int_int n,dflL R slices_ContainsFunc_int_int_r,false⟩ (regs11 n)
theorem regs12_ok (n:Nat):RegsOK E (regs12 n):=addF_ok (regs11_ok n) (slices_ContainsFunc_int_int_ok n)
def graph_space_isRight_a:Ann:=⟨[],[]⟩
abbrev graph_space_isRight_p:List Sk:=[.d (.st 5)]
abbrev graph_space_isRight_r:List Sk:=[.d .bool]
@[irreducible] noncomputable def graph_space_isRight (n:Nat) (p:PayL R.T graph_space_isRight_p):Option (PayL R.T graph_space_isRight_r):=funM E R n false (regs12 n) iters graph_space_isRight_a Tryz.f42 graph_space_isRight_p graph_space_isRight_r p
theorem graph_space_isRight_ok (n:Nat):iW 42 graph_space_isRight_p graph_space_isRight_r (graph_space_isRight n):=fun _ _ h=>by unfold graph_space_isRight at h;exact okF (regs12_ok n) h Tryz.func42 (by kernel_rfl)
noncomputable def regs13 (n:Nat):Nat→List (FR R):=addF 42 ⟨graph_space_isRight_p,graph_space_isRight_r,graph_space_isRight n,dflL R graph_space_isRight_r,false⟩ (regs12 n)
theorem regs13_ok (n:Nat):RegsOK E (regs13 n):=addF_ok (regs12_ok n) (graph_space_isRight_ok n)
def slices_Clone_int_int_a:Ann:=⟨[],[]⟩
abbrev slices_Clone_int_int_p:List Sk:=[.d (.slice (.int .i64))]
abbrev slices_Clone_int_int_o:List (Nat×ObSk):=[]
abbrev slices_Clone_int_int_w:List (Nat×ObSk):=[]
abbrev slices_Clone_int_int_k:NK:=.arr (.int .i64)
@[irreducible] noncomputable def slices_Clone_int_int (n:Nat) (p:PayL R.T slices_Clone_int_int_p) (q:PayOs R.T slices_Clone_int_int_o):Option (PayN R.T slices_Clone_int_int_k×PayOs R.T slices_Clone_int_int_w):=funN E R n true (regs13 n) iters slices_Clone_int_int_a Tryz.f35 slices_Clone_int_int_p slices_Clone_int_int_o slices_Clone_int_int_k slices_Clone_int_int_w p q
theorem slices_Clone_int_int_ok (n:Nat):FNOK1 E 35 slices_Clone_int_int_p slices_Clone_int_int_o slices_Clone_int_int_k slices_Clone_int_int_w (slices_Clone_int_int n):=by
 intro p q y q' h
 have h:slices_Clone_int_int n p q=some (y,q'):=h
 unfold slices_Clone_int_int at h
 exact funN_ok' rOK (regs13_ok n) iters_ok h Tryz.func35 rfl (by kernel_rfl)
noncomputable def its1 (n:Nat):IR R:=addM 35 (mkN slices_Clone_int_int_p slices_Clone_int_int_o slices_Clone_int_int_k slices_Clone_int_int_w (slices_Clone_int_int n)) iters
theorem its1_ok (n:Nat):ItersOK E (its1 n):=addM_ok (m:=mkN slices_Clone_int_int_p slices_Clone_int_int_o slices_Clone_int_int_k slices_Clone_int_int_w (slices_Clone_int_int n)) iters_ok (FMOK.N (slices_Clone_int_int_ok n))
def vector_Sub_a:Ann:=⟨[(3,⟨[1,5,10],[],⟨[(11,.d (.int .i64))],[(8,.arr (.int .i64))]⟩,[(.exit 0,⟨[],[(8,.arr (.int .i64))]⟩)]⟩)],[]⟩
abbrev vector_Sub_p:List Sk:=[.d (.slice (.int .i64)),.d (.slice (.int .i64))]
abbrev vector_Sub_r:List Sk:=[.d (.slice (.int .i64))]
@[irreducible] noncomputable def vector_Sub (n:Nat) (p:PayL R.T vector_Sub_p):Option (PayL R.T vector_Sub_r):=funM E R n false (regs13 n) (its1 n) vector_Sub_a Tryz.f54 vector_Sub_p vector_Sub_r p
theorem vector_Sub_ok (n:Nat) (p:PayL R.T vector_Sub_p) (x:PayL R.T vector_Sub_r) (h:vector_Sub n p=some x):Pure E 54 (encSL R vector_Sub_p p) (retV (encSL R vector_Sub_r x)):=by
 unfold vector_Sub at h
 exact funM_ok rOK (regs13_ok n) (its1_ok n) h Tryz.func54 rfl rfl rfl rfl (by kernel_rfl)
noncomputable def regs14 (n:Nat):Nat→List (FR R):=addF 54 ⟨vector_Sub_p,vector_Sub_r,vector_Sub n,dflL R vector_Sub_r,false⟩ (regs13 n)
theorem regs14_ok (n:Nat):RegsOK E (regs14 n):=addF_ok (regs13_ok n) (vector_Sub_ok n)
def vector_Norm_1_a:Ann:=⟨[],[]⟩
abbrev vector_Norm_1_p:List Sk:=[.d (.int .i64),.d (.int .i64)]
abbrev vector_Norm_1_r:List Sk:=[.d (.int .i64)]
@[irreducible] noncomputable def vector_Norm_1 (n:Nat) (p:PayL R.T vector_Norm_1_p):Option (PayL R.T vector_Norm_1_r):=funM E R n false (regs14 n) (its1 n) vector_Norm_1_a Tryz.f73 vector_Norm_1_p vector_Norm_1_r p
theorem vector_Norm_1_ok (n:Nat) (p:PayL R.T vector_Norm_1_p) (x:PayL R.T vector_Norm_1_r) (h:vector_Norm_1 n p=some x):Pure E 73 (encSL R vector_Norm_1_p p) (retV (encSL R vector_Norm_1_r x)):=by
 unfold vector_Norm_1 at h
 exact funM_ok rOK (regs14_ok n) (its1_ok n) h Tryz.func73 rfl rfl rfl rfl (by kernel_rfl)
noncomputable def regs15 (n:Nat):Nat→List (FR R):=addF 73 ⟨vector_Norm_1_p,vector_Norm_1_r,vector_Norm_1 n,dflL R vector_Norm_1_r,false⟩ (regs14 n)
theorem regs15_ok (n:Nat):RegsOK E (regs15 n):=addF_ok (regs14_ok n) (vector_Norm_1_ok n)
def vector_fold_int_a:Ann:=⟨[(2,⟨[2,9,10],[],⟨[(1,.d (.int .i64)),(11,.d (.int .i64))],[]⟩,[(.exit 0,⟨[(1,.d (.int .i64))],[]⟩)]⟩)],[]⟩
abbrev vector_fold_int_p:List Sk:=[.d (.slice (.int .i64)),.d (.int .i64),.fn 73 [] []]
abbrev vector_fold_int_r:List Sk:=[.d (.int .i64)]
@[irreducible] noncomputable def vector_fold_int (n:Nat) (p:PayL R.T vector_fold_int_p):Option (PayL R.T vector_fold_int_r):=funM E R n false (regs15 n) (its1 n) vector_fold_int_a Tryz.f76 vector_fold_int_p vector_fold_int_r p
theorem vector_fold_int_ok (n:Nat) (p:PayL R.T vector_fold_int_p) (x:PayL R.T vector_fold_int_r) (h:vector_fold_int n p=some x):Pure E 76 (encSL R vector_fold_int_p p) (retV (encSL R vector_fold_int_r x)):=by
 unfold vector_fold_int at h
 exact funM_ok rOK (regs15_ok n) (its1_ok n) h Tryz.func76 rfl rfl rfl rfl (by kernel_rfl)
noncomputable def regs16 (n:Nat):Nat→List (FR R):=addF 76 ⟨vector_fold_int_p,vector_fold_int_r,vector_fold_int n,dflL R vector_fold_int_r,false⟩ (regs15 n)
theorem regs16_ok (n:Nat):RegsOK E (regs16 n):=addF_ok (regs15_ok n) (vector_fold_int_ok n)
def vector_Norm_2_a:Ann:=⟨[],[]⟩
abbrev vector_Norm_2_p:List Sk:=[.d (.int .i64),.d (.int .i64)]
abbrev vector_Norm_2_r:List Sk:=[.d (.int .i64)]
@[irreducible] noncomputable def vector_Norm_2 (n:Nat) (p:PayL R.T vector_Norm_2_p):Option (PayL R.T vector_Norm_2_r):=funM E R n false (regs16 n) (its1 n) vector_Norm_2_a Tryz.f74 vector_Norm_2_p vector_Norm_2_r p
theorem vector_Norm_2_ok (n:Nat) (p:PayL R.T vector_Norm_2_p) (x:PayL R.T vector_Norm_2_r) (h:vector_Norm_2 n p=some x):Pure E 74 (encSL R vector_Norm_2_p p) (retV (encSL R vector_Norm_2_r x)):=by
 unfold vector_Norm_2 at h
 exact funM_ok rOK (regs16_ok n) (its1_ok n) h Tryz.func74 rfl rfl rfl rfl (by kernel_rfl)
noncomputable def regs17 (n:Nat):Nat→List (FR R):=addF 74 ⟨vector_Norm_2_p,vector_Norm_2_r,vector_Norm_2 n,dflL R vector_Norm_2_r,false⟩ (regs16 n)
theorem regs17_ok (n:Nat):RegsOK E (regs17 n):=addF_ok (regs16_ok n) (vector_Norm_2_ok n)
def vector_fold_int_2_a:Ann:=⟨[(2,⟨[2,9,10],[],⟨[(1,.d (.int .i64)),(11,.d (.int .i64))],[]⟩,[(.exit 0,⟨[(1,.d (.int .i64))],[]⟩)]⟩)],[]⟩
abbrev vector_fold_int_2_p:List Sk:=[.d (.slice (.int .i64)),.d (.int .i64),.fn 74 [] []]
abbrev vector_fold_int_2_r:List Sk:=[.d (.int .i64)]
@[irreducible] noncomputable def vector_fold_int_2 (n:Nat) (p:PayL R.T vector_fold_int_2_p):Option (PayL R.T vector_fold_int_2_r):=funM E R n false (regs17 n) (its1 n) vector_fold_int_2_a Tryz.f76 vector_fold_int_2_p vector_fold_int_2_r p
theorem vector_fold_int_2_ok (n:Nat) (p:PayL R.T vector_fold_int_2_p) (x:PayL R.T vector_fold_int_2_r) (h:vector_fold_int_2 n p=some x):Pure E 76 (encSL R vector_fold_int_2_p p) (retV (encSL R vector_fold_int_2_r x)):=by
 unfold vector_fold_int_2 at h
 exact funM_ok rOK (regs17_ok n) (its1_ok n) h Tryz.func76 rfl rfl rfl rfl (by kernel_rfl)
noncomputable def regs18 (n:Nat):Nat→List (FR R):=addF 76 ⟨vector_fold_int_2_p,vector_fold_int_2_r,vector_fold_int_2 n,dflL R vector_fold_int_2_r,false⟩ (regs17 n)
theorem regs18_ok (n:Nat):RegsOK E (regs18 n):=addF_ok (regs17_ok n) (vector_fold_int_2_ok n)
def vector_Norm_3_a:Ann:=⟨[],[]⟩
abbrev vector_Norm_3_p:List Sk:=[.d (.int .i64),.d (.int .i64)]
abbrev vector_Norm_3_r:List Sk:=[.d (.int .i64)]
@[irreducible] noncomputable def vector_Norm_3 (n:Nat) (p:PayL R.T vector_Norm_3_p):Option (PayL R.T vector_Norm_3_r):=funM E R n false (regs18 n) (its1 n) vector_Norm_3_a Tryz.f75 vector_Norm_3_p vector_Norm_3_r p
theorem vector_Norm_3_ok (n:Nat) (p:PayL R.T vector_Norm_3_p) (x:PayL R.T vector_Norm_3_r) (h:vector_Norm_3 n p=some x):Pure E 75 (encSL R vector_Norm_3_p p) (retV (encSL R vector_Norm_3_r x)):=by
 unfold vector_Norm_3 at h
 exact funM_ok rOK (regs18_ok n) (its1_ok n) h Tryz.func75 rfl rfl rfl rfl (by kernel_rfl)
noncomputable def regs19 (n:Nat):Nat→List (FR R):=addF 75 ⟨vector_Norm_3_p,vector_Norm_3_r,vector_Norm_3 n,dflL R vector_Norm_3_r,false⟩ (regs18 n)
theorem regs19_ok (n:Nat):RegsOK E (regs19 n):=addF_ok (regs18_ok n) (vector_Norm_3_ok n)
def vector_fold_int_3_a:Ann:=⟨[(2,⟨[2,9,10],[],⟨[(1,.d (.int .i64)),(11,.d (.int .i64))],[]⟩,[(.exit 0,⟨[(1,.d (.int .i64))],[]⟩)]⟩)],[]⟩
abbrev vector_fold_int_3_p:List Sk:=[.d (.slice (.int .i64)),.d (.int .i64),.fn 75 [] []]
abbrev vector_fold_int_3_r:List Sk:=[.d (.int .i64)]
@[irreducible] noncomputable def vector_fold_int_3 (n:Nat) (p:PayL R.T vector_fold_int_3_p):Option (PayL R.T vector_fold_int_3_r):=funM E R n false (regs19 n) (its1 n) vector_fold_int_3_a Tryz.f76 vector_fold_int_3_p vector_fold_int_3_r p
theorem vector_fold_int_3_ok (n:Nat) (p:PayL R.T vector_fold_int_3_p) (x:PayL R.T vector_fold_int_3_r) (h:vector_fold_int_3 n p=some x):Pure E 76 (encSL R vector_fold_int_3_p p) (retV (encSL R vector_fold_int_3_r x)):=by
 unfold vector_fold_int_3 at h
 exact funM_ok rOK (regs19_ok n) (its1_ok n) h Tryz.func76 rfl rfl rfl rfl (by kernel_rfl)
noncomputable def regs20 (n:Nat):Nat→List (FR R):=addF 76 ⟨vector_fold_int_3_p,vector_fold_int_3_r,vector_fold_int_3 n,dflL R vector_fold_int_3_r,false⟩ (regs19 n)
theorem regs20_ok (n:Nat):RegsOK E (regs20 n):=addF_ok (regs19_ok n) (vector_fold_int_3_ok n)
def vector_Norm_a:Ann:=⟨[],[]⟩
abbrev vector_Norm_p:List Sk:=[.d (.int .i64),.d (.slice (.int .i64))]
abbrev vector_Norm_r:List Sk:=[.d (.int .i64)]
@[irreducible] noncomputable def vector_Norm (n:Nat) (p:PayL R.T vector_Norm_p):Option (PayL R.T vector_Norm_r):=funM E R n false (regs20 n) (its1 n) vector_Norm_a Tryz.f53 vector_Norm_p vector_Norm_r p
theorem vector_Norm_ok (n:Nat) (p:PayL R.T vector_Norm_p) (x:PayL R.T vector_Norm_r) (h:vector_Norm n p=some x):Pure E 53 (encSL R vector_Norm_p p) (retV (encSL R vector_Norm_r x)):=by
 unfold vector_Norm at h
 exact funM_ok rOK (regs20_ok n) (its1_ok n) h Tryz.func53 rfl rfl rfl rfl (by kernel_rfl)
noncomputable def regs21 (n:Nat):Nat→List (FR R):=addF 53 ⟨vector_Norm_p,vector_Norm_r,vector_Norm n,dflL R vector_Norm_r,false⟩ (regs20 n)
theorem regs21_ok (n:Nat):RegsOK E (regs21 n):=addF_ok (regs20_ok n) (vector_Norm_ok n)
def vector_Key_a:Ann:=⟨[],[]⟩
abbrev vector_Key_p:List Sk:=[.d (.int .i64),.d (.slice (.int .i64)),.d (.slice (.int .i64))]
abbrev vector_Key_r:List Sk:=[.d (.int .i64)]
@[irreducible] noncomputable def vector_Key (n:Nat) (p:PayL R.T vector_Key_p):Option (PayL R.T vector_Key_r):=funM E R n false (regs21 n) (its1 n) vector_Key_a Tryz.f28 vector_Key_p vector_Key_r p
theorem vector_Key_ok (n:Nat) (p:PayL R.T vector_Key_p) (x:PayL R.T vector_Key_r) (h:vector_Key n p=some x):Pure E 28 (encSL R vector_Key_p p) (retV (encSL R vector_Key_r x)):=by
 unfold vector_Key at h
 exact funM_ok rOK (regs21_ok n) (its1_ok n) h Tryz.func28 rfl rfl rfl rfl (by kernel_rfl)
noncomputable def regs22 (n:Nat):Nat→List (FR R):=addF 28 ⟨vector_Key_p,vector_Key_r,vector_Key n,dflL R vector_Key_r,false⟩ (regs21 n)
theorem regs22_ok (n:Nat):RegsOK E (regs22 n):=addF_ok (regs21_ok n) (vector_Key_ok n)
def graph_space_keys_a:Ann:=⟨[(3,⟨[1,2,9,10],[2],⟨[(5,.l (.own 22) (.int .i64)),(11,.d (.int .i64))],[]⟩,[(.exit 0,⟨[(5,.l (.own 22) (.int .i64))],[]⟩)]⟩)],[]⟩
abbrev graph_space_keys_p:List Sk:=[.d (.st 5),.d (.slice (.int .i64))]
abbrev graph_space_keys_r:List Sk:=[.d (.slice (.int .i64))]
@[irreducible] noncomputable def graph_space_keys (n:Nat) (p:PayL R.T graph_space_keys_p):Option (PayL R.T graph_space_keys_r):=funM E R n false (regs22 n) (its1 n) graph_space_keys_a Tryz.f43 graph_space_keys_p graph_space_keys_r p
theorem graph_space_keys_ok (n:Nat) (p:PayL R.T graph_space_keys_p) (x:PayL R.T graph_space_keys_r) (h:graph_space_keys n p=some x):Pure E 43 (encSL R graph_space_keys_p p) (retV (encSL R graph_space_keys_r x)):=by
 unfold graph_space_keys at h
 exact funM_ok rOK (regs22_ok n) (its1_ok n) h Tryz.func43 rfl rfl rfl rfl (by kernel_rfl)
noncomputable def regs23 (n:Nat):Nat→List (FR R):=addF 43 ⟨graph_space_keys_p,graph_space_keys_r,graph_space_keys n,dflL R graph_space_keys_r,false⟩ (regs22 n)
theorem regs23_ok (n:Nat):RegsOK E (regs23 n):=addF_ok (regs22_ok n) (graph_space_keys_ok n)
def slices_Values_int_int_a:Ann:=⟨[],[]⟩
abbrev slices_Values_int_int_p:List Sk:=[.d (.slice (.int .i64))]
abbrev slices_Values_int_int_r:List Sk:=[.fn 71 [] [.cref [.d (.slice (.int .i64))] 0]]
@[irreducible] noncomputable def slices_Values_int_int (n:Nat) (p:PayL R.T slices_Values_int_int_p):Option (PayL R.T slices_Values_int_int_r):=funM E R n false (regs23 n) (its1 n) slices_Values_int_int_a Tryz.f45 slices_Values_int_int_p slices_Values_int_int_r p
theorem slices_Values_int_int_ok (n:Nat) (p:PayL R.T slices_Values_int_int_p) (x:PayL R.T slices_Values_int_int_r) (h:slices_Values_int_int n p=some x):Pure E 45 (encSL R slices_Values_int_int_p p) (retV (encSL R slices_Values_int_int_r x)):=by
 unfold slices_Values_int_int at h
 exact funM_ok rOK (regs23_ok n) (its1_ok n) h Tryz.func45 rfl rfl rfl rfl (by kernel_rfl)
noncomputable def regs24 (n:Nat):Nat→List (FR R):=addF 45 ⟨slices_Values_int_int_p,slices_Values_int_int_r,slices_Values_int_int n,dflL R slices_Values_int_int_r,false⟩ (regs23 n)
theorem regs24_ok (n:Nat):RegsOK E (regs24 n):=addF_ok (regs23_ok n) (slices_Values_int_int_ok n)
def slices_AppendSeq_int_int_a:Ann:=⟨[(3,⟨[2],[],⟨[],[(2,.cells [.vw 11 (.int .i64)]),(11,.arr (.int .i64))]⟩,[(.normal,⟨[],[(2,.cells [.vw 11 (.int .i64)]),(11,.arr (.int .i64))]⟩)]⟩)],[]⟩
abbrev slices_AppendSeq_int_int_p:List Sk:=[.nils,.fn 71 [] [.cref [.d (.slice (.int .i64))] 0]]
abbrev slices_AppendSeq_int_int_o:List (Nat×ObSk):=[]
abbrev slices_AppendSeq_int_int_w:List (Nat×ObSk):=[]
abbrev slices_AppendSeq_int_int_k:NK:=.arr (.int .i64)
@[irreducible] noncomputable def slices_AppendSeq_int_int (n:Nat) (p:PayL R.T slices_AppendSeq_int_int_p) (q:PayOs R.T slices_AppendSeq_int_int_o):Option (PayN R.T slices_AppendSeq_int_int_k×PayOs R.T slices_AppendSeq_int_int_w):=funN E R n true (regs24 n) (its1 n) slices_AppendSeq_int_int_a Tryz.f56 slices_AppendSeq_int_int_p slices_AppendSeq_int_int_o slices_AppendSeq_int_int_k slices_AppendSeq_int_int_w p q
theorem slices_AppendSeq_int_int_ok (n:Nat):FNOK1 E 56 slices_AppendSeq_int_int_p slices_AppendSeq_int_int_o slices_AppendSeq_int_int_k slices_AppendSeq_int_int_w (slices_AppendSeq_int_int n):=by
 intro p q y q' h
 have h:slices_AppendSeq_int_int n p q=some (y,q'):=h
 unfold slices_AppendSeq_int_int at h
 exact funN_ok' rOK (regs24_ok n) (its1_ok n) h Tryz.func56 rfl (by kernel_rfl)
noncomputable def its2 (n:Nat):IR R:=addM 56 (mkN slices_AppendSeq_int_int_p slices_AppendSeq_int_int_o slices_AppendSeq_int_int_k slices_AppendSeq_int_int_w (slices_AppendSeq_int_int n)) (its1 n)
theorem its2_ok (n:Nat):ItersOK E (its2 n):=addM_ok (m:=mkN slices_AppendSeq_int_int_p slices_AppendSeq_int_int_o slices_AppendSeq_int_int_k slices_AppendSeq_int_int_w (slices_AppendSeq_int_int n)) (its1_ok n) (FMOK.N (slices_AppendSeq_int_int_ok n))
def slices_Collect_int_a:Ann:=⟨[],[]⟩
abbrev slices_Collect_int_p:List Sk:=[.fn 71 [] [.cref [.d (.slice (.int .i64))] 0]]
abbrev slices_Collect_int_o:List (Nat×ObSk):=[]
abbrev slices_Collect_int_w:List (Nat×ObSk):=[]
abbrev slices_Collect_int_k:NK:=.arr (.int .i64)
@[irreducible] noncomputable def slices_Collect_int (n:Nat) (p:PayL R.T slices_Collect_int_p) (q:PayOs R.T slices_Collect_int_o):Option (PayN R.T slices_Collect_int_k×PayOs R.T slices_Collect_int_w):=funN E R n false (regs24 n) (its2 n) slices_Collect_int_a Tryz.f31 slices_Collect_int_p slices_Collect_int_o slices_Collect_int_k slices_Collect_int_w p q
theorem slices_Collect_int_ok (n:Nat):FNOK1 E 31 slices_Collect_int_p slices_Collect_int_o slices_Collect_int_k slices_Collect_int_w (slices_Collect_int n):=by
 intro p q y q' h
 have h:slices_Collect_int n p q=some (y,q'):=h
 unfold slices_Collect_int at h
 exact funN_ok' rOK (regs24_ok n) (its2_ok n) h Tryz.func31 rfl (by kernel_rfl)
noncomputable def its3 (n:Nat):IR R:=addM 31 (mkN slices_Collect_int_p slices_Collect_int_o slices_Collect_int_k slices_Collect_int_w (slices_Collect_int n)) (its2 n)
theorem its3_ok (n:Nat):ItersOK E (its3 n):=addM_ok (m:=mkN slices_Collect_int_p slices_Collect_int_o slices_Collect_int_k slices_Collect_int_w (slices_Collect_int n)) (its2_ok n) (FMOK.N (slices_Collect_int_ok n))
def math_bits_Len32_a:Ann:=⟨[],[]⟩
abbrev math_bits_Len32_p:List Sk:=[.d (.int .u32)]
abbrev math_bits_Len32_r:List Sk:=[.d (.int .i64)]
@[irreducible] noncomputable def math_bits_Len32 (n:Nat) (p:PayL R.T math_bits_Len32_p):Option (PayL R.T math_bits_Len32_r):=funM E R n false (regs24 n) (its3 n) math_bits_Len32_a Tryz.f97 math_bits_Len32_p math_bits_Len32_r p
theorem math_bits_Len32_ok (n:Nat) (p:PayL R.T math_bits_Len32_p) (x:PayL R.T math_bits_Len32_r) (h:math_bits_Len32 n p=some x):Pure E 97 (encSL R math_bits_Len32_p p) (retV (encSL R math_bits_Len32_r x)):=by
 unfold math_bits_Len32 at h
 exact funM_ok rOK (regs24_ok n) (its3_ok n) h Tryz.func97 rfl rfl rfl rfl (by kernel_rfl)
noncomputable def regs25 (n:Nat):Nat→List (FR R):=addF 97 ⟨math_bits_Len32_p,math_bits_Len32_r,math_bits_Len32 n,dflL R math_bits_Len32_r,false⟩ (regs24 n)
theorem regs25_ok (n:Nat):RegsOK E (regs25 n):=addF_ok (regs24_ok n) (math_bits_Len32_ok n)
def math_bits_Len64_a:Ann:=⟨[],[]⟩
abbrev math_bits_Len64_p:List Sk:=[.d (.int .u64)]
abbrev math_bits_Len64_r:List Sk:=[.d (.int .i64)]
@[irreducible] noncomputable def math_bits_Len64 (n:Nat) (p:PayL R.T math_bits_Len64_p):Option (PayL R.T math_bits_Len64_r):=funM E R n false (regs25 n) (its3 n) math_bits_Len64_a Tryz.f98 math_bits_Len64_p math_bits_Len64_r p
theorem math_bits_Len64_ok (n:Nat) (p:PayL R.T math_bits_Len64_p) (x:PayL R.T math_bits_Len64_r) (h:math_bits_Len64 n p=some x):Pure E 98 (encSL R math_bits_Len64_p p) (retV (encSL R math_bits_Len64_r x)):=by
 unfold math_bits_Len64 at h
 exact funM_ok rOK (regs25_ok n) (its3_ok n) h Tryz.func98 rfl rfl rfl rfl (by kernel_rfl)
noncomputable def regs26 (n:Nat):Nat→List (FR R):=addF 98 ⟨math_bits_Len64_p,math_bits_Len64_r,math_bits_Len64 n,dflL R math_bits_Len64_r,false⟩ (regs25 n)
theorem regs26_ok (n:Nat):RegsOK E (regs26 n):=addF_ok (regs25_ok n) (math_bits_Len64_ok n)
def math_bits_Len_a:Ann:=⟨[],[]⟩
abbrev math_bits_Len_p:List Sk:=[.d (.int .u64)]
abbrev math_bits_Len_r:List Sk:=[.d (.int .i64)]
@[irreducible] noncomputable def math_bits_Len (n:Nat) (p:PayL R.T math_bits_Len_p):Option (PayL R.T math_bits_Len_r):=funM E R n false (regs26 n) (its3 n) math_bits_Len_a Tryz.f79 math_bits_Len_p math_bits_Len_r p
theorem math_bits_Len_ok (n:Nat) (p:PayL R.T math_bits_Len_p) (x:PayL R.T math_bits_Len_r) (h:math_bits_Len n p=some x):Pure E 79 (encSL R math_bits_Len_p p) (retV (encSL R math_bits_Len_r x)):=by
 unfold math_bits_Len at h
 exact funM_ok rOK (regs26_ok n) (its3_ok n) h Tryz.func79 rfl rfl rfl rfl (by kernel_rfl)
noncomputable def regs27 (n:Nat):Nat→List (FR R):=addF 79 ⟨math_bits_Len_p,math_bits_Len_r,math_bits_Len n,dflL R math_bits_Len_r,false⟩ (regs26 n)
theorem regs27_ok (n:Nat):RegsOK E (regs27 n):=addF_ok (regs26_ok n) (math_bits_Len_ok n)
def cmp_isNaN_int_a:Ann:=⟨[],[]⟩
abbrev cmp_isNaN_int_p:List Sk:=[.d (.int .i64)]
abbrev cmp_isNaN_int_r:List Sk:=[.d .bool]
@[irreducible] noncomputable def cmp_isNaN_int (n:Nat) (p:PayL R.T cmp_isNaN_int_p):Option (PayL R.T cmp_isNaN_int_r):=funM E R n false (regs27 n) (its3 n) cmp_isNaN_int_a Tryz.f80 cmp_isNaN_int_p cmp_isNaN_int_r p
theorem cmp_isNaN_int_ok (n:Nat) (p:PayL R.T cmp_isNaN_int_p) (x:PayL R.T cmp_isNaN_int_r) (h:cmp_isNaN_int n p=some x):Pure E 80 (encSL R cmp_isNaN_int_p p) (retV (encSL R cmp_isNaN_int_r x)):=by
 unfold cmp_isNaN_int at h
 exact funM_ok rOK (regs27_ok n) (its3_ok n) h Tryz.func80 rfl rfl rfl rfl (by kernel_rfl)
noncomputable def regs28 (n:Nat):Nat→List (FR R):=addF 80 ⟨cmp_isNaN_int_p,cmp_isNaN_int_r,cmp_isNaN_int n,dflL R cmp_isNaN_int_r,false⟩ (regs27 n)
theorem regs28_ok (n:Nat):RegsOK E (regs28 n):=addF_ok (regs27_ok n) (cmp_isNaN_int_ok n)
def cmp_Less_int_a:Ann:=⟨[],[]⟩
abbrev cmp_Less_int_p:List Sk:=[.d (.int .i64),.d (.int .i64)]
abbrev cmp_Less_int_r:List Sk:=[.d .bool]
@[irreducible] noncomputable def cmp_Less_int (n:Nat) (p:PayL R.T cmp_Less_int_p):Option (PayL R.T cmp_Less_int_r):=funM E R n false (regs28 n) (its3 n) cmp_Less_int_a Tryz.f110 cmp_Less_int_p cmp_Less_int_r p
theorem cmp_Less_int_ok (n:Nat) (p:PayL R.T cmp_Less_int_p) (x:PayL R.T cmp_Less_int_r) (h:cmp_Less_int n p=some x):Pure E 110 (encSL R cmp_Less_int_p p) (retV (encSL R cmp_Less_int_r x)):=by
 unfold cmp_Less_int at h
 exact funM_ok rOK (regs28_ok n) (its3_ok n) h Tryz.func110 rfl rfl rfl rfl (by kernel_rfl)
noncomputable def regs29 (n:Nat):Nat→List (FR R):=addF 110 ⟨cmp_Less_int_p,cmp_Less_int_r,cmp_Less_int n,dflL R cmp_Less_int_r,false⟩ (regs28 n)
theorem regs29_ok (n:Nat):RegsOK E (regs29 n):=addF_ok (regs28_ok n) (cmp_Less_int_ok n)
def slices_insertionSortOrdered_int_a:Ann:=⟨[(1,⟨[0,1,2],[],⟨[(6,.d (.int .i64))],[(1000000,.arr (.int .i64))]⟩,[(.exit 0,⟨[],[(1000000,.arr (.int .i64))]⟩)]⟩),
 (4,⟨[0,1,2,6],[],⟨[(7,.d (.int .i64))],[(1000000,.arr (.int .i64))]⟩,[(.exit 2,⟨[],[(1000000,.arr (.int .i64))]⟩)]⟩)],[]⟩
abbrev slices_insertionSortOrdered_int_p:List Sk:=[.vw 1000000 (.int .i64),.d (.int .i64),.d (.int .i64)]
abbrev slices_insertionSortOrdered_int_r:List Sk:=[]
abbrev slices_insertionSortOrdered_int_o:List (Nat×ObSk):=[(1000000,.arr (.int .i64))]
@[irreducible] noncomputable def slices_insertionSortOrdered_int (n:Nat) (p:PayL R.T slices_insertionSortOrdered_int_p) (q:PayOs R.T slices_insertionSortOrdered_int_o):Option (PayL R.T slices_insertionSortOrdered_int_r×PayOs R.T slices_insertionSortOrdered_int_o):=funI E R n false (regs29 n) (its3 n) slices_insertionSortOrdered_int_a Tryz.f104 slices_insertionSortOrdered_int_p slices_insertionSortOrdered_int_o slices_insertionSortOrdered_int_r p q
theorem slices_insertionSortOrdered_int_ok (n:Nat):FMOK1 E 104 slices_insertionSortOrdered_int_p slices_insertionSortOrdered_int_o slices_insertionSortOrdered_int_r (slices_insertionSortOrdered_int n):=by
 intro p q y q' h
 have h:slices_insertionSortOrdered_int n p q=some (y,q'):=h
 unfold slices_insertionSortOrdered_int at h
 exact funI_ok rOK (regs29_ok n) (its3_ok n) h Tryz.func104 rfl (by kernel_rfl)
noncomputable def its4 (n:Nat):IR R:=addM 104 (mkM slices_insertionSortOrdered_int_p slices_insertionSortOrdered_int_o slices_insertionSortOrdered_int_r (slices_insertionSortOrdered_int n)) (its3 n)
theorem its4_ok (n:Nat):ItersOK E (its4 n):=addM_ok (m:=mkM slices_insertionSortOrdered_int_p slices_insertionSortOrdered_int_o slices_insertionSortOrdered_int_r (slices_insertionSortOrdered_int n)) (its3_ok n) (FMOK.M (slices_insertionSortOrdered_int_ok n))
def slices_siftDownOrdered_int_a:Ann:=⟨[(1,⟨[0,2,3],[],⟨[(8,.d (.int .i64))],[(1000000,.arr (.int .i64))]⟩,[(.exit 0,⟨[],[(1000000,.arr (.int .i64))]⟩),(.ret,⟨[],[(1000000,.arr (.int .i64))]⟩)]⟩)],[(5,⟨[0,2,3,8],[1000000],⟨[],[]⟩,[(.normal,⟨[(9,.d (.int .i64))],[]⟩)]⟩)]⟩
abbrev slices_siftDownOrdered_int_p:List Sk:=[.vw 1000000 (.int .i64),.d (.int .i64),.d (.int .i64),.d (.int .i64)]
abbrev slices_siftDownOrdered_int_r:List Sk:=[]
abbrev slices_siftDownOrdered_int_o:List (Nat×ObSk):=[(1000000,.arr (.int .i64))]
@[irreducible] noncomputable def slices_siftDownOrdered_int (n:Nat) (p:PayL R.T slices_siftDownOrdered_int_p) (q:PayOs R.T slices_siftDownOrdered_int_o):Option (PayL R.T slices_siftDownOrdered_int_r×PayOs R.T slices_siftDownOrdered_int_o):=funI E R n false (regs29 n) (its4 n) slices_siftDownOrdered_int_a Tryz.f118 slices_siftDownOrdered_int_p slices_siftDownOrdered_int_o slices_siftDownOrdered_int_r p q
theorem slices_siftDownOrdered_int_ok (n:Nat):FMOK1 E 118 slices_siftDownOrdered_int_p slices_siftDownOrdered_int_o slices_siftDownOrdered_int_r (slices_siftDownOrdered_int n):=by
 intro p q y q' h
 have h:slices_siftDownOrdered_int n p q=some (y,q'):=h
 unfold slices_siftDownOrdered_int at h
 exact funI_ok rOK (regs29_ok n) (its4_ok n) h Tryz.func118 rfl (by kernel_rfl)
noncomputable def its5 (n:Nat):IR R:=addM 118 (mkM slices_siftDownOrdered_int_p slices_siftDownOrdered_int_o slices_siftDownOrdered_int_r (slices_siftDownOrdered_int n)) (its4 n)
theorem its5_ok (n:Nat):ItersOK E (its5 n):=addM_ok (m:=mkM slices_siftDownOrdered_int_p slices_siftDownOrdered_int_o slices_siftDownOrdered_int_r (slices_siftDownOrdered_int n)) (its4_ok n) (FMOK.M (slices_siftDownOrdered_int_ok n))
def slices_heapSortOrdered_int_a:Ann:=⟨[(4,⟨[0,6,7,8],[],⟨[(9,.d (.int .i64))],[(1000000,.arr (.int .i64))]⟩,[(.exit 0,⟨[],[(1000000,.arr (.int .i64))]⟩)]⟩),
 (8,⟨[0,6,7],[],⟨[(10,.d (.int .i64))],[(1000000,.arr (.int .i64))]⟩,[(.exit 2,⟨[],[(1000000,.arr (.int .i64))]⟩)]⟩)],[]⟩
abbrev slices_heapSortOrdered_int_p:List Sk:=[.vw 1000000 (.int .i64),.d (.int .i64),.d (.int .i64)]
abbrev slices_heapSortOrdered_int_r:List Sk:=[]
abbrev slices_heapSortOrdered_int_o:List (Nat×ObSk):=[(1000000,.arr (.int .i64))]
@[irreducible] noncomputable def slices_heapSortOrdered_int (n:Nat) (p:PayL R.T slices_heapSortOrdered_int_p) (q:PayOs R.T slices_heapSortOrdered_int_o):Option (PayL R.T slices_heapSortOrdered_int_r×PayOs R.T slices_heapSortOrdered_int_o):=funI E R n false (regs29 n) (its5 n) slices_heapSortOrdered_int_a Tryz.f105 slices_heapSortOrdered_int_p slices_heapSortOrdered_int_o slices_heapSortOrdered_int_r p q
theorem slices_heapSortOrdered_int_ok (n:Nat):FMOK1 E 105 slices_heapSortOrdered_int_p slices_heapSortOrdered_int_o slices_heapSortOrdered_int_r (slices_heapSortOrdered_int n):=by
 intro p q y q' h
 have h:slices_heapSortOrdered_int n p q=some (y,q'):=h
 unfold slices_heapSortOrdered_int at h
 exact funI_ok rOK (regs29_ok n) (its5_ok n) h Tryz.func105 rfl (by kernel_rfl)
noncomputable def its6 (n:Nat):IR R:=addM 105 (mkM slices_heapSortOrdered_int_p slices_heapSortOrdered_int_o slices_heapSortOrdered_int_r (slices_heapSortOrdered_int n)) (its5 n)
theorem its6_ok (n:Nat):ItersOK E (its6 n):=addM_ok (m:=mkM slices_heapSortOrdered_int_p slices_heapSortOrdered_int_o slices_heapSortOrdered_int_r (slices_heapSortOrdered_int n)) (its5_ok n) (FMOK.M (slices_heapSortOrdered_int_ok n))
def slices_nextPowerOfTwo_a:Ann:=⟨[],[]⟩
abbrev slices_nextPowerOfTwo_p:List Sk:=[.d (.int .i64)]
abbrev slices_nextPowerOfTwo_r:List Sk:=[.d (.int .u64)]
@[irreducible] noncomputable def slices_nextPowerOfTwo (n:Nat) (p:PayL R.T slices_nextPowerOfTwo_p):Option (PayL R.T slices_nextPowerOfTwo_r):=funM E R n false (regs29 n) (its6 n) slices_nextPowerOfTwo_a Tryz.f114 slices_nextPowerOfTwo_p slices_nextPowerOfTwo_r p
theorem slices_nextPowerOfTwo_ok (n:Nat) (p:PayL R.T slices_nextPowerOfTwo_p) (x:PayL R.T slices_nextPowerOfTwo_r) (h:slices_nextPowerOfTwo n p=some x):Pure E 114 (encSL R slices_nextPowerOfTwo_p p) (retV (encSL R slices_nextPowerOfTwo_r x)):=by
 unfold slices_nextPowerOfTwo at h
 exact funM_ok rOK (regs29_ok n) (its6_ok n) h Tryz.func114 rfl rfl rfl rfl (by kernel_rfl)
noncomputable def regs30 (n:Nat):Nat→List (FR R):=addF 114 ⟨slices_nextPowerOfTwo_p,slices_nextPowerOfTwo_r,slices_nextPowerOfTwo n,dflL R slices_nextPowerOfTwo_r,false⟩ (regs29 n)
theorem regs30_ok (n:Nat):RegsOK E (regs30 n):=addF_ok (regs29_ok n) (slices_nextPowerOfTwo_ok n)
def slices_xorshift_Next_a:Ann:=⟨[],[]⟩
abbrev slices_xorshift_Next_p:List Sk:=[.ref 1000000 0]
abbrev slices_xorshift_Next_r:List Sk:=[.d (.int .u64)]
abbrev slices_xorshift_Next_o:List (Nat×ObSk):=[(1000000,.cells [.d (.int .u64)])]
@[irreducible] noncomputable def slices_xorshift_Next (n:Nat) (p:PayL R.T slices_xorshift_Next_p) (q:PayOs R.T slices_xorshift_Next_o):Option (PayL R.T slices_xorshift_Next_r×PayOs R.T slices_xorshift_Next_o):=funI E R n false (regs30 n) (its6 n) slices_xorshift_Next_a Tryz.f115 slices_xorshift_Next_p slices_xorshift_Next_o slices_xorshift_Next_r p q
theorem slices_xorshift_Next_ok (n:Nat):FMOK1 E 115 slices_xorshift_Next_p slices_xorshift_Next_o slices_xorshift_Next_r (slices_xorshift_Next n):=by
 intro p q y q' h
 have h:slices_xorshift_Next n p q=some (y,q'):=h
 unfold slices_xorshift_Next at h
 exact funI_ok rOK (regs30_ok n) (its6_ok n) h Tryz.func115 rfl (by kernel_rfl)
noncomputable def its7 (n:Nat):IR R:=addM 115 (mkM slices_xorshift_Next_p slices_xorshift_Next_o slices_xorshift_Next_r (slices_xorshift_Next n)) (its6 n)
theorem its7_ok (n:Nat):ItersOK E (its7 n):=addM_ok (m:=mkM slices_xorshift_Next_p slices_xorshift_Next_o slices_xorshift_Next_r (slices_xorshift_Next n)) (its6_ok n) (FMOK.M (slices_xorshift_Next_ok n))
def slices_breakPatternsOrdered_int_a:Ann:=⟨[(5,⟨[0,1,6,7,8],[],⟨[(9,.d (.int .i64))],[(7,.cells [.d (.int .u64)]),(1000000,.arr (.int .i64))]⟩,[(.exit 0,⟨[],[(1000000,.arr (.int .i64))]⟩)]⟩)],[(10,⟨[0,1,6,7,8,9],[7,1000000],⟨[],[]⟩,[(.normal,⟨[(10,.d (.int .i64))],[]⟩)]⟩)]⟩
abbrev slices_breakPatternsOrdered_int_p:List Sk:=[.vw 1000000 (.int .i64),.d (.int .i64),.d (.int .i64)]
abbrev slices_breakPatternsOrdered_int_r:List Sk:=[]
abbrev slices_breakPatternsOrdered_int_o:List (Nat×ObSk):=[(1000000,.arr (.int .i64))]
@[irreducible] noncomputable def slices_breakPatternsOrdered_int (n:Nat) (p:PayL R.T slices_breakPatternsOrdered_int_p) (q:PayOs R.T slices_breakPatternsOrdered_int_o):Option (PayL R.T slices_breakPatternsOrdered_int_r×PayOs R.T slices_breakPatternsOrdered_int_o):=funI E R n false (regs30 n) (its7 n) slices_breakPatternsOrdered_int_a Tryz.f106 slices_breakPatternsOrdered_int_p slices_breakPatternsOrdered_int_o slices_breakPatternsOrdered_int_r p q
theorem slices_breakPatternsOrdered_int_ok (n:Nat):FMOK1 E 106 slices_breakPatternsOrdered_int_p slices_breakPatternsOrdered_int_o slices_breakPatternsOrdered_int_r (slices_breakPatternsOrdered_int n):=by
 intro p q y q' h
 have h:slices_breakPatternsOrdered_int n p q=some (y,q'):=h
 unfold slices_breakPatternsOrdered_int at h
 exact funI_ok rOK (regs30_ok n) (its7_ok n) h Tryz.func106 rfl (by kernel_rfl)
noncomputable def its8 (n:Nat):IR R:=addM 106 (mkM slices_breakPatternsOrdered_int_p slices_breakPatternsOrdered_int_o slices_breakPatternsOrdered_int_r (slices_breakPatternsOrdered_int n)) (its7 n)
theorem its8_ok (n:Nat):ItersOK E (its8 n):=addM_ok (m:=mkM slices_breakPatternsOrdered_int_p slices_breakPatternsOrdered_int_o slices_breakPatternsOrdered_int_r (slices_breakPatternsOrdered_int n)) (its7_ok n) (FMOK.M (slices_breakPatternsOrdered_int_ok n))
def slices_order2Ordered_int_a:Ann:=⟨[],[]⟩
abbrev slices_order2Ordered_int_p:List Sk:=[.d (.slice (.int .i64)),.d (.int .i64),.d (.int .i64),.ref 1000000 0]
abbrev slices_order2Ordered_int_r:List Sk:=[.d (.int .i64),.d (.int .i64)]
abbrev slices_order2Ordered_int_o:List (Nat×ObSk):=[(1000000,.cells [.d (.int .i64)])]
@[irreducible] noncomputable def slices_order2Ordered_int (n:Nat) (p:PayL R.T slices_order2Ordered_int_p) (q:PayOs R.T slices_order2Ordered_int_o):Option (PayL R.T slices_order2Ordered_int_r×PayOs R.T slices_order2Ordered_int_o):=funI E R n false (regs30 n) (its8 n) slices_order2Ordered_int_a Tryz.f122 slices_order2Ordered_int_p slices_order2Ordered_int_o slices_order2Ordered_int_r p q
theorem slices_order2Ordered_int_ok (n:Nat):FMOK1 E 122 slices_order2Ordered_int_p slices_order2Ordered_int_o slices_order2Ordered_int_r (slices_order2Ordered_int n):=by
 intro p q y q' h
 have h:slices_order2Ordered_int n p q=some (y,q'):=h
 unfold slices_order2Ordered_int at h
 exact funI_ok rOK (regs30_ok n) (its8_ok n) h Tryz.func122 rfl (by kernel_rfl)
noncomputable def its9 (n:Nat):IR R:=addM 122 (mkM slices_order2Ordered_int_p slices_order2Ordered_int_o slices_order2Ordered_int_r (slices_order2Ordered_int n)) (its8 n)
theorem its9_ok (n:Nat):ItersOK E (its9 n):=addM_ok (m:=mkM slices_order2Ordered_int_p slices_order2Ordered_int_o slices_order2Ordered_int_r (slices_order2Ordered_int n)) (its8_ok n) (FMOK.M (slices_order2Ordered_int_ok n))
def slices_medianOrdered_int_a:Ann:=⟨[],[]⟩
abbrev slices_medianOrdered_int_p:List Sk:=[.d (.slice (.int .i64)),.d (.int .i64),.d (.int .i64),.d (.int .i64),.ref 1000000 0]
abbrev slices_medianOrdered_int_r:List Sk:=[.d (.int .i64)]
abbrev slices_medianOrdered_int_o:List (Nat×ObSk):=[(1000000,.cells [.d (.int .i64)])]
@[irreducible] noncomputable def slices_medianOrdered_int (n:Nat) (p:PayL R.T slices_medianOrdered_int_p) (q:PayOs R.T slices_medianOrdered_int_o):Option (PayL R.T slices_medianOrdered_int_r×PayOs R.T slices_medianOrdered_int_o):=funI E R n false (regs30 n) (its9 n) slices_medianOrdered_int_a Tryz.f120 slices_medianOrdered_int_p slices_medianOrdered_int_o slices_medianOrdered_int_r p q
theorem slices_medianOrdered_int_ok (n:Nat):FMOK1 E 120 slices_medianOrdered_int_p slices_medianOrdered_int_o slices_medianOrdered_int_r (slices_medianOrdered_int n):=by
 intro p q y q' h
 have h:slices_medianOrdered_int n p q=some (y,q'):=h
 unfold slices_medianOrdered_int at h
 exact funI_ok rOK (regs30_ok n) (its9_ok n) h Tryz.func120 rfl (by kernel_rfl)
noncomputable def its10 (n:Nat):IR R:=addM 120 (mkM slices_medianOrdered_int_p slices_medianOrdered_int_o slices_medianOrdered_int_r (slices_medianOrdered_int n)) (its9 n)
theorem its10_ok (n:Nat):ItersOK E (its10 n):=addM_ok (m:=mkM slices_medianOrdered_int_p slices_medianOrdered_int_o slices_medianOrdered_int_r (slices_medianOrdered_int n)) (its9_ok n) (FMOK.M (slices_medianOrdered_int_ok n))
def slices_medianAdjacentOrdered_int_a:Ann:=⟨[],[]⟩
abbrev slices_medianAdjacentOrdered_int_p:List Sk:=[.d (.slice (.int .i64)),.d (.int .i64),.ref 1000000 0]
abbrev slices_medianAdjacentOrdered_int_r:List Sk:=[.d (.int .i64)]
abbrev slices_medianAdjacentOrdered_int_o:List (Nat×ObSk):=[(1000000,.cells [.d (.int .i64)])]
@[irreducible] noncomputable def slices_medianAdjacentOrdered_int (n:Nat) (p:PayL R.T slices_medianAdjacentOrdered_int_p) (q:PayOs R.T slices_medianAdjacentOrdered_int_o):Option (PayL R.T slices_medianAdjacentOrdered_int_r×PayOs R.T slices_medianAdjacentOrdered_int_o):=funI E R n false (regs30 n) (its10 n) slices_medianAdjacentOrdered_int_a Tryz.f119 slices_medianAdjacentOrdered_int_p slices_medianAdjacentOrdered_int_o slices_medianAdjacentOrdered_int_r p q
theorem slices_medianAdjacentOrdered_int_ok (n:Nat):FMOK1 E 119 slices_medianAdjacentOrdered_int_p slices_medianAdjacentOrdered_int_o slices_medianAdjacentOrdered_int_r (slices_medianAdjacentOrdered_int n):=by
 intro p q y q' h
 have h:slices_medianAdjacentOrdered_int n p q=some (y,q'):=h
 unfold slices_medianAdjacentOrdered_int at h
 exact funI_ok rOK (regs30_ok n) (its10_ok n) h Tryz.func119 rfl (by kernel_rfl)
noncomputable def its11 (n:Nat):IR R:=addM 119 (mkM slices_medianAdjacentOrdered_int_p slices_medianAdjacentOrdered_int_o slices_medianAdjacentOrdered_int_r (slices_medianAdjacentOrdered_int n)) (its10 n)
theorem its11_ok (n:Nat):ItersOK E (its11 n):=addM_ok (m:=mkM slices_medianAdjacentOrdered_int_p slices_medianAdjacentOrdered_int_o slices_medianAdjacentOrdered_int_r (slices_medianAdjacentOrdered_int n)) (its10_ok n) (FMOK.M (slices_medianAdjacentOrdered_int_ok n))
def slices_choosePivotOrdered_int_a:Ann:=⟨[],[]⟩
abbrev slices_choosePivotOrdered_int_p:List Sk:=[.d (.slice (.int .i64)),.d (.int .i64),.d (.int .i64)]
abbrev slices_choosePivotOrdered_int_r:List Sk:=[.d (.int .i64),.d (.int .i64)]
@[irreducible] noncomputable def slices_choosePivotOrdered_int (n:Nat) (p:PayL R.T slices_choosePivotOrdered_int_p):Option (PayL R.T slices_choosePivotOrdered_int_r):=funM E R n false (regs30 n) (its11 n) slices_choosePivotOrdered_int_a Tryz.f107 slices_choosePivotOrdered_int_p slices_choosePivotOrdered_int_r p
theorem slices_choosePivotOrdered_int_ok (n:Nat) (p:PayL R.T slices_choosePivotOrdered_int_p) (x:PayL R.T slices_choosePivotOrdered_int_r) (h:slices_choosePivotOrdered_int n p=some x):Pure E 107 (encSL R slices_choosePivotOrdered_int_p p) (retV (encSL R slices_choosePivotOrdered_int_r x)):=by
 unfold slices_choosePivotOrdered_int at h
 exact funM_ok rOK (regs30_ok n) (its11_ok n) h Tryz.func107 rfl rfl rfl rfl (by kernel_rfl)
noncomputable def regs31 (n:Nat):Nat→List (FR R):=addF 107 ⟨slices_choosePivotOrdered_int_p,slices_choosePivotOrdered_int_r,slices_choosePivotOrdered_int n,dflL R slices_choosePivotOrdered_int_r,false⟩ (regs30 n)
theorem regs31_ok (n:Nat):RegsOK E (regs31 n):=addF_ok (regs30_ok n) (slices_choosePivotOrdered_int_ok n)
def slices_reverseRangeOrdered_int_a:Ann:=⟨[(2,⟨[0],[],⟨[(6,.d (.int .i64)),(7,.d (.int .i64))],[(1000000,.arr (.int .i64))]⟩,[(.exit 0,⟨[],[(1000000,.arr (.int .i64))]⟩)]⟩)],[]⟩
abbrev slices_reverseRangeOrdered_int_p:List Sk:=[.vw 1000000 (.int .i64),.d (.int .i64),.d (.int .i64)]
abbrev slices_reverseRangeOrdered_int_r:List Sk:=[]
abbrev slices_reverseRangeOrdered_int_o:List (Nat×ObSk):=[(1000000,.arr (.int .i64))]
@[irreducible] noncomputable def slices_reverseRangeOrdered_int (n:Nat) (p:PayL R.T slices_reverseRangeOrdered_int_p) (q:PayOs R.T slices_reverseRangeOrdered_int_o):Option (PayL R.T slices_reverseRangeOrdered_int_r×PayOs R.T slices_reverseRangeOrdered_int_o):=funI E R n false (regs31 n) (its11 n) slices_reverseRangeOrdered_int_a Tryz.f108 slices_reverseRangeOrdered_int_p slices_reverseRangeOrdered_int_o slices_reverseRangeOrdered_int_r p q
theorem slices_reverseRangeOrdered_int_ok (n:Nat):FMOK1 E 108 slices_reverseRangeOrdered_int_p slices_reverseRangeOrdered_int_o slices_reverseRangeOrdered_int_r (slices_reverseRangeOrdered_int n):=by
 intro p q y q' h
 have h:slices_reverseRangeOrdered_int n p q=some (y,q'):=h
 unfold slices_reverseRangeOrdered_int at h
 exact funI_ok rOK (regs31_ok n) (its11_ok n) h Tryz.func108 rfl (by kernel_rfl)
noncomputable def its12 (n:Nat):IR R:=addM 108 (mkM slices_reverseRangeOrdered_int_p slices_reverseRangeOrdered_int_o slices_reverseRangeOrdered_int_r (slices_reverseRangeOrdered_int n)) (its11 n)
theorem its12_ok (n:Nat):ItersOK E (its12 n):=addM_ok (m:=mkM slices_reverseRangeOrdered_int_p slices_reverseRangeOrdered_int_o slices_reverseRangeOrdered_int_r (slices_reverseRangeOrdered_int n)) (its11_ok n) (FMOK.M (slices_reverseRangeOrdered_int_ok n))
def slices_partialInsertionSortOrdered_int_a:Ann:=⟨[(3,⟨[0,1,2],[],⟨[(7,.d (.int .i64)),(8,.d (.int .i64))],[(1000000,.arr (.int .i64))]⟩,[(.exit 0,⟨[],[(1000000,.arr (.int .i64))]⟩),(.ret,⟨[(6,.d .bool)],[(1000000,.arr (.int .i64))]⟩)]⟩),
 (5,⟨[0,1,2,8],[1000000],⟨[(7,.d (.int .i64))],[]⟩,[(.exit 2,⟨[(7,.d (.int .i64))],[]⟩)]⟩),
 (14,⟨[0,1,2,7,8],[],⟨[(9,.d (.int .i64))],[(1000000,.arr (.int .i64))]⟩,[(.exit 4,⟨[],[(1000000,.arr (.int .i64))]⟩)]⟩),
 (20,⟨[0,1,2,7,8],[],⟨[(10,.d (.int .i64))],[(1000000,.arr (.int .i64))]⟩,[(.exit 6,⟨[],[(1000000,.arr (.int .i64))]⟩)]⟩)],[(18,⟨[0,1,2,7,8],[],⟨[],[]⟩,[(.normal,⟨[],[(1000000,.arr (.int .i64))]⟩)]⟩)]⟩
abbrev slices_partialInsertionSortOrdered_int_p:List Sk:=[.vw 1000000 (.int .i64),.d (.int .i64),.d (.int .i64)]
abbrev slices_partialInsertionSortOrdered_int_r:List Sk:=[.d .bool]
abbrev slices_partialInsertionSortOrdered_int_o:List (Nat×ObSk):=[(1000000,.arr (.int .i64))]
@[irreducible] noncomputable def slices_partialInsertionSortOrdered_int (n:Nat) (p:PayL R.T slices_partialInsertionSortOrdered_int_p) (q:PayOs R.T slices_partialInsertionSortOrdered_int_o):Option (PayL R.T slices_partialInsertionSortOrdered_int_r×PayOs R.T slices_partialInsertionSortOrdered_int_o):=funI E R n false (regs31 n) (its12 n) slices_partialInsertionSortOrdered_int_a Tryz.f109 slices_partialInsertionSortOrdered_int_p slices_partialInsertionSortOrdered_int_o slices_partialInsertionSortOrdered_int_r p q
theorem slices_partialInsertionSortOrdered_int_ok (n:Nat):FMOK1 E 109 slices_partialInsertionSortOrdered_int_p slices_partialInsertionSortOrdered_int_o slices_partialInsertionSortOrdered_int_r (slices_partialInsertionSortOrdered_int n):=by
 intro p q y q' h
 have h:slices_partialInsertionSortOrdered_int n p q=some (y,q'):=h
 unfold slices_partialInsertionSortOrdered_int at h
 exact funI_ok rOK (regs31_ok n) (its12_ok n) h Tryz.func109 rfl (by kernel_rfl)
noncomputable def its13 (n:Nat):IR R:=addM 109 (mkM slices_partialInsertionSortOrdered_int_p slices_partialInsertionSortOrdered_int_o slices_partialInsertionSortOrdered_int_r (slices_partialInsertionSortOrdered_int n)) (its12 n)
theorem its13_ok (n:Nat):ItersOK E (its13 n):=addM_ok (m:=mkM slices_partialInsertionSortOrdered_int_p slices_partialInsertionSortOrdered_int_o slices_partialInsertionSortOrdered_int_r (slices_partialInsertionSortOrdered_int n)) (its12_ok n) (FMOK.M (slices_partialInsertionSortOrdered_int_ok n))
def slices_partitionEqualOrdered_int_a:Ann:=⟨[(503,⟨[0,1],[],⟨[(9,.d (.int .i64)),(10,.d (.int .i64))],[(1000000,.arr (.int .i64))]⟩,[(.exit 0,⟨[(9,.d (.int .i64))],[(1000000,.arr (.int .i64))]⟩)]⟩),
 (3,⟨[0,1,10],[1000000],⟨[(9,.d (.int .i64))],[]⟩,[(.exit 2,⟨[(9,.d (.int .i64))],[]⟩)]⟩),
 (5,⟨[0,1,9],[1000000],⟨[(10,.d (.int .i64))],[]⟩,[(.exit 4,⟨[(10,.d (.int .i64))],[]⟩)]⟩)],[]⟩
abbrev slices_partitionEqualOrdered_int_p:List Sk:=[.vw 1000000 (.int .i64),.d (.int .i64),.d (.int .i64),.d (.int .i64)]
abbrev slices_partitionEqualOrdered_int_r:List Sk:=[.d (.int .i64)]
abbrev slices_partitionEqualOrdered_int_o:List (Nat×ObSk):=[(1000000,.arr (.int .i64))]
@[irreducible] noncomputable def slices_partitionEqualOrdered_int (n:Nat) (p:PayL R.T slices_partitionEqualOrdered_int_p) (q:PayOs R.T slices_partitionEqualOrdered_int_o):Option (PayL R.T slices_partitionEqualOrdered_int_r×PayOs R.T slices_partitionEqualOrdered_int_o):=funI E R n false (regs31 n) (its13 n) slices_partitionEqualOrdered_int_a Tryz.f111 slices_partitionEqualOrdered_int_p slices_partitionEqualOrdered_int_o slices_partitionEqualOrdered_int_r p q
theorem slices_partitionEqualOrdered_int_ok (n:Nat):FMOK1 E 111 slices_partitionEqualOrdered_int_p slices_partitionEqualOrdered_int_o slices_partitionEqualOrdered_int_r (slices_partitionEqualOrdered_int n):=by
 intro p q y q' h
 have h:slices_partitionEqualOrdered_int n p q=some (y,q'):=h
 unfold slices_partitionEqualOrdered_int at h
 exact funI_ok rOK (regs31_ok n) (its13_ok n) h Tryz.func111 rfl (by kernel_rfl)
noncomputable def its14 (n:Nat):IR R:=addM 111 (mkM slices_partitionEqualOrdered_int_p slices_partitionEqualOrdered_int_o slices_partitionEqualOrdered_int_r (slices_partitionEqualOrdered_int n)) (its13 n)
theorem its14_ok (n:Nat):ItersOK E (its14 n):=addM_ok (m:=mkM slices_partitionEqualOrdered_int_p slices_partitionEqualOrdered_int_o slices_partitionEqualOrdered_int_r (slices_partitionEqualOrdered_int n)) (its13_ok n) (FMOK.M (slices_partitionEqualOrdered_int_ok n))
def slices_partitionOrdered_int_a:Ann:=⟨[(3,⟨[0,1,11],[1000000],⟨[(10,.d (.int .i64))],[]⟩,[(.exit 0,⟨[(10,.d (.int .i64))],[]⟩)]⟩),
 (5,⟨[0,1,10],[1000000],⟨[(11,.d (.int .i64))],[]⟩,[(.exit 2,⟨[(11,.d (.int .i64))],[]⟩)]⟩),
 (513,⟨[0,1],[],⟨[(10,.d (.int .i64)),(11,.d (.int .i64))],[(1000000,.arr (.int .i64))]⟩,[(.exit 4,⟨[(11,.d (.int .i64))],[(1000000,.arr (.int .i64))]⟩)]⟩),
 (13,⟨[0,1,11],[1000000],⟨[(10,.d (.int .i64))],[]⟩,[(.exit 6,⟨[(10,.d (.int .i64))],[]⟩)]⟩),
 (15,⟨[0,1,10],[1000000],⟨[(11,.d (.int .i64))],[]⟩,[(.exit 8,⟨[(11,.d (.int .i64))],[]⟩)]⟩)],[]⟩
abbrev slices_partitionOrdered_int_p:List Sk:=[.vw 1000000 (.int .i64),.d (.int .i64),.d (.int .i64),.d (.int .i64)]
abbrev slices_partitionOrdered_int_r:List Sk:=[.d (.int .i64),.d .bool]
abbrev slices_partitionOrdered_int_o:List (Nat×ObSk):=[(1000000,.arr (.int .i64))]
@[irreducible] noncomputable def slices_partitionOrdered_int (n:Nat) (p:PayL R.T slices_partitionOrdered_int_p) (q:PayOs R.T slices_partitionOrdered_int_o):Option (PayL R.T slices_partitionOrdered_int_r×PayOs R.T slices_partitionOrdered_int_o):=funI E R n false (regs31 n) (its14 n) slices_partitionOrdered_int_a Tryz.f112 slices_partitionOrdered_int_p slices_partitionOrdered_int_o slices_partitionOrdered_int_r p q
theorem slices_partitionOrdered_int_ok (n:Nat):FMOK1 E 112 slices_partitionOrdered_int_p slices_partitionOrdered_int_o slices_partitionOrdered_int_r (slices_partitionOrdered_int n):=by
 intro p q y q' h
 have h:slices_partitionOrdered_int n p q=some (y,q'):=h
 unfold slices_partitionOrdered_int at h
 exact funI_ok rOK (regs31_ok n) (its14_ok n) h Tryz.func112 rfl (by kernel_rfl)
noncomputable def its15 (n:Nat):IR R:=addM 112 (mkM slices_partitionOrdered_int_p slices_partitionOrdered_int_o slices_partitionOrdered_int_r (slices_partitionOrdered_int n)) (its14 n)
theorem its15_ok (n:Nat):ItersOK E (its15 n):=addM_ok (m:=mkM slices_partitionOrdered_int_p slices_partitionOrdered_int_o slices_partitionOrdered_int_r (slices_partitionOrdered_int n)) (its14_ok n) (FMOK.M (slices_partitionOrdered_int_ok n))
def slices_pdqsortOrdered_int_a:Ann:=⟨[(2,⟨[0],[],⟨[(1,.d (.int .i64)),(2,.d (.int .i64)),(3,.d (.int .i64)),(8,.d .bool),(9,.d .bool)],[(1000000,.arr (.int .i64))]⟩,[(.ret,⟨[],[(1000000,.arr (.int .i64))]⟩)]⟩)],[(10,⟨[0,1,2,8,9,10],[],⟨[],[]⟩,[(.normal,⟨[(3,.d (.int .i64))],[(1000000,.arr (.int .i64))]⟩)]⟩),(15,⟨[0,1,2,3,8,9,10],[],⟨[],[]⟩,[(.normal,⟨[(11,.d (.int .i64)),(12,.d (.int .i64))],[(1000000,.arr (.int .i64))]⟩)]⟩),(17,⟨[0,1,2,3,8,9,10,11],[],⟨[],[]⟩,[(.normal,⟨[],[(1000000,.arr (.int .i64))]⟩),(.ret,⟨[],[(1000000,.arr (.int .i64))]⟩)]⟩)]⟩
abbrev slices_pdqsortOrdered_int_p:List Sk:=[.vw 1000000 (.int .i64),.d (.int .i64),.d (.int .i64),.d (.int .i64)]
abbrev slices_pdqsortOrdered_int_r:List Sk:=[]
abbrev slices_pdqsortOrdered_int_o:List (Nat×ObSk):=[(1000000,.arr (.int .i64))]
noncomputable def slices_pdqsortOrdered_int_m (n:Nat):Nat→PayL R.T slices_pdqsortOrdered_int_p→PayOs R.T slices_pdqsortOrdered_int_o→Option (PayL R.T slices_pdqsortOrdered_int_r×PayOs R.T slices_pdqsortOrdered_int_o)
 |0,_,_=>none
 |m+1,p,q=>funI E R n false (regs31 n) (addM 86 (mkM slices_pdqsortOrdered_int_p slices_pdqsortOrdered_int_o slices_pdqsortOrdered_int_r (slices_pdqsortOrdered_int_m n m)) (its15 n)) slices_pdqsortOrdered_int_a Tryz.f86 slices_pdqsortOrdered_int_p slices_pdqsortOrdered_int_o slices_pdqsortOrdered_int_r p q
attribute [irreducible] slices_pdqsortOrdered_int_m
theorem slices_pdqsortOrdered_int_e (n m:Nat) (p:PayL R.T slices_pdqsortOrdered_int_p) (q:PayOs R.T slices_pdqsortOrdered_int_o):slices_pdqsortOrdered_int_m n (m+1) p q=funI E R n false (regs31 n) (addM 86 (mkM slices_pdqsortOrdered_int_p slices_pdqsortOrdered_int_o slices_pdqsortOrdered_int_r (slices_pdqsortOrdered_int_m n m)) (its15 n)) slices_pdqsortOrdered_int_a Tryz.f86 slices_pdqsortOrdered_int_p slices_pdqsortOrdered_int_o slices_pdqsortOrdered_int_r p q:=by kernel_rfl
theorem slices_pdqsortOrdered_int_e0 (n:Nat) (p:PayL R.T slices_pdqsortOrdered_int_p) (q:PayOs R.T slices_pdqsortOrdered_int_o):slices_pdqsortOrdered_int_m n 0 p q=none:=by kernel_rfl
theorem slices_pdqsortOrdered_int_mok (n:Nat):∀m,FMOK1 E 86 slices_pdqsortOrdered_int_p slices_pdqsortOrdered_int_o slices_pdqsortOrdered_int_r (slices_pdqsortOrdered_int_m n m)
 |0=>fun p q y q' h=>absurd (((slices_pdqsortOrdered_int_e0 n p q).symm.trans h)) nofun
 |m+1=>fun p q y q' h=>funI_ok rOK (regs31_ok n) (addM_ok (m:=(mkM slices_pdqsortOrdered_int_p slices_pdqsortOrdered_int_o slices_pdqsortOrdered_int_r (slices_pdqsortOrdered_int_m n m))) (its15_ok n) (FMOK.M (slices_pdqsortOrdered_int_mok n m))) ((slices_pdqsortOrdered_int_e n m p q).symm.trans h) Tryz.func86 rfl (by kernel_rfl)
@[irreducible] noncomputable def slices_pdqsortOrdered_int (n:Nat):PayL R.T slices_pdqsortOrdered_int_p→PayOs R.T slices_pdqsortOrdered_int_o→Option (PayL R.T slices_pdqsortOrdered_int_r×PayOs R.T slices_pdqsortOrdered_int_o):=slices_pdqsortOrdered_int_m n n
theorem slices_pdqsortOrdered_int_ok (n:Nat):FMOK1 E 86 slices_pdqsortOrdered_int_p slices_pdqsortOrdered_int_o slices_pdqsortOrdered_int_r (slices_pdqsortOrdered_int n):=by
 unfold slices_pdqsortOrdered_int
 exact slices_pdqsortOrdered_int_mok n n
noncomputable def its16 (n:Nat):IR R:=addM 86 (mkM slices_pdqsortOrdered_int_p slices_pdqsortOrdered_int_o slices_pdqsortOrdered_int_r (slices_pdqsortOrdered_int n)) (its15 n)
theorem its16_ok (n:Nat):ItersOK E (its16 n):=addM_ok (m:=mkM slices_pdqsortOrdered_int_p slices_pdqsortOrdered_int_o slices_pdqsortOrdered_int_r (slices_pdqsortOrdered_int n)) (its15_ok n) (FMOK.M (slices_pdqsortOrdered_int_ok n))
def slices_Sort_int_int_a:Ann:=⟨[],[]⟩
abbrev slices_Sort_int_int_p:List Sk:=[.vw 1000000 (.int .i64)]
abbrev slices_Sort_int_int_r:List Sk:=[]
abbrev slices_Sort_int_int_o:List (Nat×ObSk):=[(1000000,.arr (.int .i64))]
@[irreducible] noncomputable def slices_Sort_int_int (n:Nat) (p:PayL R.T slices_Sort_int_int_p) (q:PayOs R.T slices_Sort_int_int_o):Option (PayL R.T slices_Sort_int_int_r×PayOs R.T slices_Sort_int_int_o):=funI E R n false (regs31 n) (its16 n) slices_Sort_int_int_a Tryz.f70 slices_Sort_int_int_p slices_Sort_int_int_o slices_Sort_int_int_r p q
theorem slices_Sort_int_int_ok (n:Nat):FMOK1 E 70 slices_Sort_int_int_p slices_Sort_int_int_o slices_Sort_int_int_r (slices_Sort_int_int n):=by
 intro p q y q' h
 have h:slices_Sort_int_int n p q=some (y,q'):=h
 unfold slices_Sort_int_int at h
 exact funI_ok rOK (regs31_ok n) (its16_ok n) h Tryz.func70 rfl (by kernel_rfl)
noncomputable def its17 (n:Nat):IR R:=addM 70 (mkM slices_Sort_int_int_p slices_Sort_int_int_o slices_Sort_int_int_r (slices_Sort_int_int n)) (its16 n)
theorem its17_ok (n:Nat):ItersOK E (its17 n):=addM_ok (m:=mkM slices_Sort_int_int_p slices_Sort_int_int_o slices_Sort_int_int_r (slices_Sort_int_int n)) (its16_ok n) (FMOK.M (slices_Sort_int_int_ok n))
def slices_Sorted_int_a:Ann:=⟨[],[]⟩
abbrev slices_Sorted_int_p:List Sk:=[.fn 71 [] [.cref [.d (.slice (.int .i64))] 0]]
abbrev slices_Sorted_int_r:List Sk:=[.d (.slice (.int .i64))]
@[irreducible] noncomputable def slices_Sorted_int (n:Nat) (p:PayL R.T slices_Sorted_int_p):Option (PayL R.T slices_Sorted_int_r):=funM E R n false (regs31 n) (its17 n) slices_Sorted_int_a Tryz.f44 slices_Sorted_int_p slices_Sorted_int_r p
theorem slices_Sorted_int_ok (n:Nat) (p:PayL R.T slices_Sorted_int_p) (x:PayL R.T slices_Sorted_int_r) (h:slices_Sorted_int n p=some x):Pure E 44 (encSL R slices_Sorted_int_p p) (retV (encSL R slices_Sorted_int_r x)):=by
 unfold slices_Sorted_int at h
 exact funM_ok rOK (regs31_ok n) (its17_ok n) h Tryz.func44 rfl rfl rfl rfl (by kernel_rfl)
noncomputable def regs32 (n:Nat):Nat→List (FR R):=addF 44 ⟨slices_Sorted_int_p,slices_Sorted_int_r,slices_Sorted_int n,dflL R slices_Sorted_int_r,false⟩ (regs31 n)
theorem regs32_ok (n:Nat):RegsOK E (regs32 n):=addF_ok (regs31_ok n) (slices_Sorted_int_ok n)
def graph_around_a:Ann:=⟨[(3,⟨[1,8,9],[],⟨[(5,.l (.own 21) (.int .i64)),(10,.d (.int .i64))],[]⟩,[(.exit 0,⟨[(5,.l (.own 21) (.int .i64))],[]⟩)]⟩)],[]⟩
abbrev graph_around_p:List Sk:=[.d (.slice (.int .i64)),.d (.int .i64)]
abbrev graph_around_r:List Sk:=[.d (.slice (.int .i64))]
@[irreducible] noncomputable def graph_around (n:Nat) (p:PayL R.T graph_around_p):Option (PayL R.T graph_around_r):=funM E R n false (regs32 n) (its17 n) graph_around_a Tryz.f46 graph_around_p graph_around_r p
theorem graph_around_ok (n:Nat) (p:PayL R.T graph_around_p) (x:PayL R.T graph_around_r) (h:graph_around n p=some x):Pure E 46 (encSL R graph_around_p p) (retV (encSL R graph_around_r x)):=by
 unfold graph_around at h
 exact funM_ok rOK (regs32_ok n) (its17_ok n) h Tryz.func46 rfl rfl rfl rfl (by kernel_rfl)
noncomputable def regs33 (n:Nat):Nat→List (FR R):=addF 46 ⟨graph_around_p,graph_around_r,graph_around n,dflL R graph_around_r,false⟩ (regs32 n)
theorem regs33_ok (n:Nat):RegsOK E (regs33 n):=addF_ok (regs32_ok n) (graph_around_ok n)
def graph_Build_a:Ann:=⟨[(6,⟨[1,2,6,8,9,29,30],[6,8],⟨[(31,.d (.int .i64))],[(9,.cells [.l (.own 56) (.st 0)])]⟩,[(.exit 0,⟨[],[(9,.cells [.l (.own 56) (.st 0)])]⟩)]⟩)],[]⟩
abbrev graph_Build_p:List Sk:=[.d (.int .i64),.d (.slice (.slice (.int .i64))),.d (.int .i64)]
abbrev graph_Build_r:List Sk:=[.d (.st 1),.d (.int .i64)]
@[irreducible] noncomputable def graph_Build (n:Nat) (p:PayL R.T graph_Build_p):Option (PayL R.T graph_Build_r):=funM E R n false (regs33 n) (its17 n) graph_Build_a Tryz.f19 graph_Build_p graph_Build_r p
theorem graph_Build_ok (n:Nat) (p:PayL R.T graph_Build_p) (x:PayL R.T graph_Build_r) (h:graph_Build n p=some x):Pure E 19 (encSL R graph_Build_p p) (retV (encSL R graph_Build_r x)):=by
 unfold graph_Build at h
 exact funM_ok rOK (regs33_ok n) (its17_ok n) h Tryz.func19 rfl rfl rfl rfl (by kernel_rfl)
noncomputable def regs34 (n:Nat):Nat→List (FR R):=addF 19 ⟨graph_Build_p,graph_Build_r,graph_Build n,dflL R graph_Build_r,false⟩ (regs33 n)
theorem regs34_ok (n:Nat):RegsOK E (regs34 n):=addF_ok (regs33_ok n) (graph_Build_ok n)
def slices_Index_int_int_a:Ann:=⟨[(2,⟨[0,1,7],[],⟨[(8,.d (.int .i64))],[]⟩,[(.exit 0,⟨[],[]⟩),(.ret,⟨[(4,.d (.int .i64))],[]⟩)]⟩)],[]⟩
abbrev slices_Index_int_int_p:List Sk:=[.d (.slice (.int .i64)),.d (.int .i64)]
abbrev slices_Index_int_int_r:List Sk:=[.d (.int .i64)]
@[irreducible] noncomputable def slices_Index_int_int (n:Nat) (p:PayL R.T slices_Index_int_int_p):Option (PayL R.T slices_Index_int_int_r):=funM E R n false (regs34 n) (its17 n) slices_Index_int_int_a Tryz.f72 slices_Index_int_int_p slices_Index_int_int_r p
theorem slices_Index_int_int_ok (n:Nat) (p:PayL R.T slices_Index_int_int_p) (x:PayL R.T slices_Index_int_int_r) (h:slices_Index_int_int n p=some x):Pure E 72 (encSL R slices_Index_int_int_p p) (retV (encSL R slices_Index_int_int_r x)):=by
 unfold slices_Index_int_int at h
 exact funM_ok rOK (regs34_ok n) (its17_ok n) h Tryz.func72 rfl rfl rfl rfl (by kernel_rfl)
noncomputable def regs35 (n:Nat):Nat→List (FR R):=addF 72 ⟨slices_Index_int_int_p,slices_Index_int_int_r,slices_Index_int_int n,dflL R slices_Index_int_int_r,false⟩ (regs34 n)
theorem regs35_ok (n:Nat):RegsOK E (regs35 n):=addF_ok (regs34_ok n) (slices_Index_int_int_ok n)
def slices_Contains_int_int_a:Ann:=⟨[],[]⟩
abbrev slices_Contains_int_int_p:List Sk:=[.d (.slice (.int .i64)),.d (.int .i64)]
abbrev slices_Contains_int_int_r:List Sk:=[.d .bool]
@[irreducible] noncomputable def slices_Contains_int_int (n:Nat) (p:PayL R.T slices_Contains_int_int_p):Option (PayL R.T slices_Contains_int_int_r):=funM E R n false (regs35 n) (its17 n) slices_Contains_int_int_a Tryz.f50 slices_Contains_int_int_p slices_Contains_int_int_r p
theorem slices_Contains_int_int_ok (n:Nat) (p:PayL R.T slices_Contains_int_int_p) (x:PayL R.T slices_Contains_int_int_r) (h:slices_Contains_int_int n p=some x):Pure E 50 (encSL R slices_Contains_int_int_p p) (retV (encSL R slices_Contains_int_int_r x)):=by
 unfold slices_Contains_int_int at h
 exact funM_ok rOK (regs35_ok n) (its17_ok n) h Tryz.func50 rfl rfl rfl rfl (by kernel_rfl)
noncomputable def regs36 (n:Nat):Nat→List (FR R):=addF 50 ⟨slices_Contains_int_int_p,slices_Contains_int_int_r,slices_Contains_int_int n,dflL R slices_Contains_int_int_r,false⟩ (regs35 n)
theorem regs36_ok (n:Nat):RegsOK E (regs36 n):=addF_ok (regs35_ok n) (slices_Contains_int_int_ok n)
def graph_Valid_a:Ann:=⟨[(4,⟨[0,23,24],[],⟨[(25,.d (.int .i64))],[]⟩,[(.exit 0,⟨[],[]⟩),(.ret,⟨[(4,.d .bool)],[]⟩)]⟩),
 (9,⟨[0,6,23,24,25,46,47],[6],⟨[(48,.d (.int .i64))],[]⟩,[(.exit 2,⟨[],[]⟩),(.ret,⟨[(4,.d .bool)],[]⟩)]⟩)],[]⟩
abbrev graph_Valid_p:List Sk:=[.d (.int .i64),.d (.st 1)]
abbrev graph_Valid_r:List Sk:=[.d .bool]
@[irreducible] noncomputable def graph_Valid (n:Nat) (p:PayL R.T graph_Valid_p):Option (PayL R.T graph_Valid_r):=funM E R n false (regs36 n) (its17 n) graph_Valid_a Tryz.f24 graph_Valid_p graph_Valid_r p
theorem graph_Valid_ok (n:Nat) (p:PayL R.T graph_Valid_p) (x:PayL R.T graph_Valid_r) (h:graph_Valid n p=some x):Pure E 24 (encSL R graph_Valid_p p) (retV (encSL R graph_Valid_r x)):=by
 unfold graph_Valid at h
 exact funM_ok rOK (regs36_ok n) (its17_ok n) h Tryz.func24 rfl rfl rfl rfl (by kernel_rfl)
noncomputable def regs37 (n:Nat):Nat→List (FR R):=addF 24 ⟨graph_Valid_p,graph_Valid_r,graph_Valid n,dflL R graph_Valid_r,false⟩ (regs36 n)
theorem regs37_ok (n:Nat):RegsOK E (regs37 n):=addF_ok (regs36_ok n) (graph_Valid_ok n)
def slices_Equal_int_int_a:Ann:=⟨[(4,⟨[0,1,12],[],⟨[(13,.d (.int .i64))],[]⟩,[(.exit 0,⟨[],[]⟩),(.ret,⟨[(4,.d .bool)],[]⟩)]⟩)],[]⟩
abbrev slices_Equal_int_int_p:List Sk:=[.d (.slice (.int .i64)),.d (.slice (.int .i64))]
abbrev slices_Equal_int_int_r:List Sk:=[.d .bool]
@[irreducible] noncomputable def slices_Equal_int_int (n:Nat) (p:PayL R.T slices_Equal_int_int_p):Option (PayL R.T slices_Equal_int_int_r):=funM E R n false (regs37 n) (its17 n) slices_Equal_int_int_a Tryz.f47 slices_Equal_int_int_p slices_Equal_int_int_r p
theorem slices_Equal_int_int_ok (n:Nat) (p:PayL R.T slices_Equal_int_int_p) (x:PayL R.T slices_Equal_int_int_r) (h:slices_Equal_int_int n p=some x):Pure E 47 (encSL R slices_Equal_int_int_p p) (retV (encSL R slices_Equal_int_int_r x)):=by
 unfold slices_Equal_int_int at h
 exact funM_ok rOK (regs37_ok n) (its17_ok n) h Tryz.func47 rfl rfl rfl rfl (by kernel_rfl)
noncomputable def regs38 (n:Nat):Nat→List (FR R):=addF 47 ⟨slices_Equal_int_int_p,slices_Equal_int_int_r,slices_Equal_int_int n,dflL R slices_Equal_int_int_r,false⟩ (regs37 n)
theorem regs38_ok (n:Nat):RegsOK E (regs38 n):=addF_ok (regs37_ok n) (slices_Equal_int_int_ok n)
def graph_Check_a:Ann:=⟨[(5,⟨[1,8,25,26],[8],⟨[(27,.d (.int .i64))],[]⟩,[(.exit 0,⟨[],[]⟩),(.ret,⟨[(6,.d (.int .i64)),(7,.d (.int .i64))],[]⟩)]⟩)],[]⟩
abbrev graph_Check_p:List Sk:=[.d (.int .i64),.d (.slice (.slice (.int .i64))),.d (.st 1)]
abbrev graph_Check_r:List Sk:=[.d (.int .i64),.d (.int .i64)]
@[irreducible] noncomputable def graph_Check (n:Nat) (p:PayL R.T graph_Check_p):Option (PayL R.T graph_Check_r):=funM E R n false (regs38 n) (its17 n) graph_Check_a Tryz.f20 graph_Check_p graph_Check_r p
theorem graph_Check_ok (n:Nat) (p:PayL R.T graph_Check_p) (x:PayL R.T graph_Check_r) (h:graph_Check n p=some x):Pure E 20 (encSL R graph_Check_p p) (retV (encSL R graph_Check_r x)):=by
 unfold graph_Check at h
 exact funM_ok rOK (regs38_ok n) (its17_ok n) h Tryz.func20 rfl rfl rfl rfl (by kernel_rfl)
noncomputable def regs39 (n:Nat):Nat→List (FR R):=addF 20 ⟨graph_Check_p,graph_Check_r,graph_Check n,dflL R graph_Check_r,false⟩ (regs38 n)
theorem regs39_ok (n:Nat):RegsOK E (regs39 n):=addF_ok (regs38_ok n) (graph_Check_ok n)
def ref09_Metric_a:Ann:=⟨[],[]⟩
abbrev ref09_Metric_p:List Sk:=[.d (.int .i64)]
abbrev ref09_Metric_r:List Sk:=[.d .bool]
@[irreducible] noncomputable def ref09_Metric (n:Nat) (p:PayL R.T ref09_Metric_p):Option (PayL R.T ref09_Metric_r):=funM E R n false (regs39 n) (its17 n) ref09_Metric_a Tryz.f16 ref09_Metric_p ref09_Metric_r p
theorem ref09_Metric_ok (n:Nat) (p:PayL R.T ref09_Metric_p) (x:PayL R.T ref09_Metric_r) (h:ref09_Metric n p=some x):Pure E 16 (encSL R ref09_Metric_p p) (retV (encSL R ref09_Metric_r x)):=by
 unfold ref09_Metric at h
 exact funM_ok rOK (regs39_ok n) (its17_ok n) h Tryz.func16 rfl rfl rfl rfl (by kernel_rfl)
noncomputable def regs40 (n:Nat):Nat→List (FR R):=addF 16 ⟨ref09_Metric_p,ref09_Metric_r,ref09_Metric n,dflL R ref09_Metric_r,false⟩ (regs39 n)
theorem regs40_ok (n:Nat):RegsOK E (regs40 n):=addF_ok (regs39_ok n) (ref09_Metric_ok n)
def ref04_Valid_a:Ann:=⟨[(2,⟨[0],[],⟨[(3,.d (.int .i64))],[]⟩,[(.exit 0,⟨[],[]⟩),(.ret,⟨[(2,.d .bool)],[]⟩)]⟩)],[]⟩
abbrev ref04_Valid_p:List Sk:=[.d (.slice (.int .i64))]
abbrev ref04_Valid_r:List Sk:=[.d .bool]
@[irreducible] noncomputable def ref04_Valid (n:Nat) (p:PayL R.T ref04_Valid_p):Option (PayL R.T ref04_Valid_r):=funM E R n false (regs40 n) (its17 n) ref04_Valid_a Tryz.f52 ref04_Valid_p ref04_Valid_r p
theorem ref04_Valid_ok (n:Nat) (p:PayL R.T ref04_Valid_p) (x:PayL R.T ref04_Valid_r) (h:ref04_Valid n p=some x):Pure E 52 (encSL R ref04_Valid_p p) (retV (encSL R ref04_Valid_r x)):=by
 unfold ref04_Valid at h
 exact funM_ok rOK (regs40_ok n) (its17_ok n) h Tryz.func52 rfl rfl rfl rfl (by kernel_rfl)
noncomputable def regs41 (n:Nat):Nat→List (FR R):=addF 52 ⟨ref04_Valid_p,ref04_Valid_r,ref04_Valid n,dflL R ref04_Valid_r,false⟩ (regs40 n)
theorem regs41_ok (n:Nat):RegsOK E (regs41 n):=addF_ok (regs40_ok n) (ref04_Valid_ok n)
def ref09_Fit_a:Ann:=⟨[(2,⟨[0],[],⟨[(3,.d (.int .i64))],[]⟩,[(.exit 0,⟨[],[]⟩),(.ret,⟨[(2,.d .bool)],[]⟩)]⟩)],[]⟩
abbrev ref09_Fit_p:List Sk:=[.d (.slice (.slice (.int .i64)))]
abbrev ref09_Fit_r:List Sk:=[.d .bool]
@[irreducible] noncomputable def ref09_Fit (n:Nat) (p:PayL R.T ref09_Fit_p):Option (PayL R.T ref09_Fit_r):=funM E R n false (regs41 n) (its17 n) ref09_Fit_a Tryz.f26 ref09_Fit_p ref09_Fit_r p
theorem ref09_Fit_ok (n:Nat) (p:PayL R.T ref09_Fit_p) (x:PayL R.T ref09_Fit_r) (h:ref09_Fit n p=some x):Pure E 26 (encSL R ref09_Fit_p p) (retV (encSL R ref09_Fit_r x)):=by
 unfold ref09_Fit at h
 exact funM_ok rOK (regs41_ok n) (its17_ok n) h Tryz.func26 rfl rfl rfl rfl (by kernel_rfl)
noncomputable def regs42 (n:Nat):Nat→List (FR R):=addF 26 ⟨ref09_Fit_p,ref09_Fit_r,ref09_Fit n,dflL R ref09_Fit_r,false⟩ (regs41 n)
theorem regs42_ok (n:Nat):RegsOK E (regs42 n):=addF_ok (regs41_ok n) (ref09_Fit_ok n)
def ref04_Sub_a:Ann:=⟨[(3,⟨[0,1],[],⟨[(5,.l (.own 24) (.int .i64)),(6,.d (.int .i64))],[]⟩,[(.exit 0,⟨[(5,.l (.own 24) (.int .i64))],[]⟩)]⟩)],[]⟩
abbrev ref04_Sub_p:List Sk:=[.d (.slice (.int .i64)),.d (.slice (.int .i64))]
abbrev ref04_Sub_r:List Sk:=[.d (.slice (.int .i64))]
@[irreducible] noncomputable def ref04_Sub (n:Nat) (p:PayL R.T ref04_Sub_p):Option (PayL R.T ref04_Sub_r):=funM E R n false (regs42 n) (its17 n) ref04_Sub_a Tryz.f64 ref04_Sub_p ref04_Sub_r p
theorem ref04_Sub_ok (n:Nat) (p:PayL R.T ref04_Sub_p) (x:PayL R.T ref04_Sub_r) (h:ref04_Sub n p=some x):Pure E 64 (encSL R ref04_Sub_p p) (retV (encSL R ref04_Sub_r x)):=by
 unfold ref04_Sub at h
 exact funM_ok rOK (regs42_ok n) (its17_ok n) h Tryz.func64 rfl rfl rfl rfl (by kernel_rfl)
noncomputable def regs43 (n:Nat):Nat→List (FR R):=addF 64 ⟨ref04_Sub_p,ref04_Sub_r,ref04_Sub n,dflL R ref04_Sub_r,false⟩ (regs42 n)
theorem regs43_ok (n:Nat):RegsOK E (regs43 n):=addF_ok (regs42_ok n) (ref04_Sub_ok n)
def ref04_size_a:Ann:=⟨[],[]⟩
abbrev ref04_size_p:List Sk:=[.d (.int .i64)]
abbrev ref04_size_r:List Sk:=[.d (.int .i64)]
@[irreducible] noncomputable def ref04_size (n:Nat) (p:PayL R.T ref04_size_p):Option (PayL R.T ref04_size_r):=funM E R n false (regs43 n) (its17 n) ref04_size_a Tryz.f81 ref04_size_p ref04_size_r p
theorem ref04_size_ok (n:Nat) (p:PayL R.T ref04_size_p) (x:PayL R.T ref04_size_r) (h:ref04_size n p=some x):Pure E 81 (encSL R ref04_size_p p) (retV (encSL R ref04_size_r x)):=by
 unfold ref04_size at h
 exact funM_ok rOK (regs43_ok n) (its17_ok n) h Tryz.func81 rfl rfl rfl rfl (by kernel_rfl)
noncomputable def regs44 (n:Nat):Nat→List (FR R):=addF 81 ⟨ref04_size_p,ref04_size_r,ref04_size n,dflL R ref04_size_r,false⟩ (regs43 n)
theorem regs44_ok (n:Nat):RegsOK E (regs44 n):=addF_ok (regs43_ok n) (ref04_size_ok n)
def ref04_Norm_a:Ann:=⟨[(3,⟨[0,1],[],⟨[(5,.d (.int .i64)),(6,.d (.int .i64))],[]⟩,[(.exit 0,⟨[(5,.d (.int .i64))],[]⟩)]⟩)],[]⟩
abbrev ref04_Norm_p:List Sk:=[.d (.int .i64),.d (.slice (.int .i64))]
abbrev ref04_Norm_r:List Sk:=[.d (.int .i64)]
@[irreducible] noncomputable def ref04_Norm (n:Nat) (p:PayL R.T ref04_Norm_p):Option (PayL R.T ref04_Norm_r):=funM E R n false (regs44 n) (its17 n) ref04_Norm_a Tryz.f63 ref04_Norm_p ref04_Norm_r p
theorem ref04_Norm_ok (n:Nat) (p:PayL R.T ref04_Norm_p) (x:PayL R.T ref04_Norm_r) (h:ref04_Norm n p=some x):Pure E 63 (encSL R ref04_Norm_p p) (retV (encSL R ref04_Norm_r x)):=by
 unfold ref04_Norm at h
 exact funM_ok rOK (regs44_ok n) (its17_ok n) h Tryz.func63 rfl rfl rfl rfl (by kernel_rfl)
noncomputable def regs45 (n:Nat):Nat→List (FR R):=addF 63 ⟨ref04_Norm_p,ref04_Norm_r,ref04_Norm n,dflL R ref04_Norm_r,false⟩ (regs44 n)
theorem regs45_ok (n:Nat):RegsOK E (regs45 n):=addF_ok (regs44_ok n) (ref04_Norm_ok n)
def ref04_Key_a:Ann:=⟨[],[]⟩
abbrev ref04_Key_p:List Sk:=[.d (.int .i64),.d (.slice (.int .i64)),.d (.slice (.int .i64))]
abbrev ref04_Key_r:List Sk:=[.d (.int .i64)]
@[irreducible] noncomputable def ref04_Key (n:Nat) (p:PayL R.T ref04_Key_p):Option (PayL R.T ref04_Key_r):=funM E R n false (regs45 n) (its17 n) ref04_Key_a Tryz.f39 ref04_Key_p ref04_Key_r p
theorem ref04_Key_ok (n:Nat) (p:PayL R.T ref04_Key_p) (x:PayL R.T ref04_Key_r) (h:ref04_Key n p=some x):Pure E 39 (encSL R ref04_Key_p p) (retV (encSL R ref04_Key_r x)):=by
 unfold ref04_Key at h
 exact funM_ok rOK (regs45_ok n) (its17_ok n) h Tryz.func39 rfl rfl rfl rfl (by kernel_rfl)
noncomputable def regs46 (n:Nat):Nat→List (FR R):=addF 39 ⟨ref04_Key_p,ref04_Key_r,ref04_Key n,dflL R ref04_Key_r,false⟩ (regs45 n)
theorem regs46_ok (n:Nat):RegsOK E (regs46 n):=addF_ok (regs45_ok n) (ref04_Key_ok n)
def ref27_around_a:Ann:=⟨[(3,⟨[0,1,2,3],[],⟨[(9,.l (.own 29) (.int .i64)),(10,.d (.int .i64))],[]⟩,[(.exit 0,⟨[(9,.l (.own 29) (.int .i64))],[]⟩)]⟩)],[]⟩
abbrev ref27_around_p:List Sk:=[.d (.int .i64),.d (.slice (.slice (.int .i64))),.d (.slice (.int .i64)),.d (.int .i64)]
abbrev ref27_around_r:List Sk:=[.d (.slice (.int .i64))]
@[irreducible] noncomputable def ref27_around (n:Nat) (p:PayL R.T ref27_around_p):Option (PayL R.T ref27_around_r):=funM E R n false (regs46 n) (its17 n) ref27_around_a Tryz.f48 ref27_around_p ref27_around_r p
theorem ref27_around_ok (n:Nat) (p:PayL R.T ref27_around_p) (x:PayL R.T ref27_around_r) (h:ref27_around n p=some x):Pure E 48 (encSL R ref27_around_p p) (retV (encSL R ref27_around_r x)):=by
 unfold ref27_around at h
 exact funM_ok rOK (regs46_ok n) (its17_ok n) h Tryz.func48 rfl rfl rfl rfl (by kernel_rfl)
noncomputable def regs47 (n:Nat):Nat→List (FR R):=addF 48 ⟨ref27_around_p,ref27_around_r,ref27_around n,dflL R ref27_around_r,false⟩ (regs46 n)
theorem regs47_ok (n:Nat):RegsOK E (regs47 n):=addF_ok (regs46_ok n) (ref27_around_ok n)
def ref27_Build_a:Ann:=⟨[(5,⟨[0,1,2,6,7],[6],⟨[(8,.d (.int .i64))],[(7,.cells [.l (.own 84) (.st 0)])]⟩,[(.exit 0,⟨[],[(7,.cells [.l (.own 84) (.st 0)])]⟩)]⟩),
 (9,⟨[0,1,2,6,7,8],[6],⟨[(9,.d (.int .i64)),(10,.d (.int .i64))],[(7,.cells [.l (.own 84) (.st 0)])]⟩,[(.exit 2,⟨[(9,.d (.int .i64))],[(7,.cells [.l (.own 84) (.st 0)])]⟩)]⟩)],[]⟩
abbrev ref27_Build_p:List Sk:=[.d (.int .i64),.d (.slice (.slice (.int .i64))),.d (.int .i64)]
abbrev ref27_Build_r:List Sk:=[.d (.st 3)]
@[irreducible] noncomputable def ref27_Build (n:Nat) (p:PayL R.T ref27_Build_p):Option (PayL R.T ref27_Build_r):=funM E R n false (regs47 n) (its17 n) ref27_Build_a Tryz.f21 ref27_Build_p ref27_Build_r p
theorem ref27_Build_ok (n:Nat) (p:PayL R.T ref27_Build_p) (x:PayL R.T ref27_Build_r) (h:ref27_Build n p=some x):Pure E 21 (encSL R ref27_Build_p p) (retV (encSL R ref27_Build_r x)):=by
 unfold ref27_Build at h
 exact funM_ok rOK (regs47_ok n) (its17_ok n) h Tryz.func21 rfl rfl rfl rfl (by kernel_rfl)
noncomputable def regs48 (n:Nat):Nat→List (FR R):=addF 21 ⟨ref27_Build_p,ref27_Build_r,ref27_Build n,dflL R ref27_Build_r,false⟩ (regs47 n)
theorem regs48_ok (n:Nat):RegsOK E (regs48 n):=addF_ok (regs47_ok n) (ref27_Build_ok n)
def ref27_has_a:Ann:=⟨[(2,⟨[0,1],[],⟨[(5,.d (.int .i64))],[]⟩,[(.exit 0,⟨[],[]⟩),(.ret,⟨[(4,.d .bool)],[]⟩)]⟩)],[]⟩
abbrev ref27_has_p:List Sk:=[.d (.slice (.int .i64)),.d (.int .i64)]
abbrev ref27_has_r:List Sk:=[.d .bool]
@[irreducible] noncomputable def ref27_has (n:Nat) (p:PayL R.T ref27_has_p):Option (PayL R.T ref27_has_r):=funM E R n false (regs48 n) (its17 n) ref27_has_a Tryz.f51 ref27_has_p ref27_has_r p
theorem ref27_has_ok (n:Nat) (p:PayL R.T ref27_has_p) (x:PayL R.T ref27_has_r) (h:ref27_has n p=some x):Pure E 51 (encSL R ref27_has_p p) (retV (encSL R ref27_has_r x)):=by
 unfold ref27_has at h
 exact funM_ok rOK (regs48_ok n) (its17_ok n) h Tryz.func51 rfl rfl rfl rfl (by kernel_rfl)
noncomputable def regs49 (n:Nat):Nat→List (FR R):=addF 51 ⟨ref27_has_p,ref27_has_r,ref27_has n,dflL R ref27_has_r,false⟩ (regs48 n)
theorem regs49_ok (n:Nat):RegsOK E (regs49 n):=addF_ok (regs48_ok n) (ref27_has_ok n)
def ref27_Valid_a:Ann:=⟨[(4,⟨[0,3],[3],⟨[(5,.d (.int .i64))],[]⟩,[(.exit 0,⟨[],[]⟩),(.ret,⟨[(4,.d .bool)],[]⟩)]⟩),
 (10,⟨[0,3,5,6],[3,6],⟨[(7,.d (.int .i64))],[]⟩,[(.exit 2,⟨[],[]⟩),(.ret,⟨[(4,.d .bool)],[]⟩)]⟩)],[]⟩
abbrev ref27_Valid_p:List Sk:=[.d (.int .i64),.d (.st 1)]
abbrev ref27_Valid_r:List Sk:=[.d .bool]
@[irreducible] noncomputable def ref27_Valid (n:Nat) (p:PayL R.T ref27_Valid_p):Option (PayL R.T ref27_Valid_r):=funM E R n false (regs49 n) (its17 n) ref27_Valid_a Tryz.f25 ref27_Valid_p ref27_Valid_r p
theorem ref27_Valid_ok (n:Nat) (p:PayL R.T ref27_Valid_p) (x:PayL R.T ref27_Valid_r) (h:ref27_Valid n p=some x):Pure E 25 (encSL R ref27_Valid_p p) (retV (encSL R ref27_Valid_r x)):=by
 unfold ref27_Valid at h
 exact funM_ok rOK (regs49_ok n) (its17_ok n) h Tryz.func25 rfl rfl rfl rfl (by kernel_rfl)
noncomputable def regs50 (n:Nat):Nat→List (FR R):=addF 25 ⟨ref27_Valid_p,ref27_Valid_r,ref27_Valid n,dflL R ref27_Valid_r,false⟩ (regs49 n)
theorem regs50_ok (n:Nat):RegsOK E (regs50 n):=addF_ok (regs49_ok n) (ref27_Valid_ok n)
def ref27_Right_a:Ann:=⟨[],[]⟩
abbrev ref27_Right_p:List Sk:=[.d (.int .i64),.d (.slice (.slice (.int .i64))),.d (.st 1)]
abbrev ref27_Right_r:List Sk:=[.d .bool]
@[irreducible] noncomputable def ref27_Right (n:Nat) (p:PayL R.T ref27_Right_p):Option (PayL R.T ref27_Right_r):=funM E R n false (regs50 n) (its17 n) ref27_Right_a Tryz.f49 ref27_Right_p ref27_Right_r p
theorem ref27_Right_ok (n:Nat) (p:PayL R.T ref27_Right_p) (x:PayL R.T ref27_Right_r) (h:ref27_Right n p=some x):Pure E 49 (encSL R ref27_Right_p p) (retV (encSL R ref27_Right_r x)):=by
 unfold ref27_Right at h
 exact funM_ok rOK (regs50_ok n) (its17_ok n) h Tryz.func49 rfl rfl rfl rfl (by kernel_rfl)
noncomputable def regs51 (n:Nat):Nat→List (FR R):=addF 49 ⟨ref27_Right_p,ref27_Right_r,ref27_Right n,dflL R ref27_Right_r,false⟩ (regs50 n)
theorem regs51_ok (n:Nat):RegsOK E (regs51 n):=addF_ok (regs50_ok n) (ref27_Right_ok n)
def ref27_Same_a:Ann:=⟨[(4,⟨[0,1],[],⟨[(5,.d (.int .i64))],[]⟩,[(.exit 0,⟨[],[]⟩),(.ret,⟨[(4,.d .bool)],[]⟩)]⟩)],[]⟩
abbrev ref27_Same_p:List Sk:=[.d (.slice (.int .i64)),.d (.slice (.int .i64))]
abbrev ref27_Same_r:List Sk:=[.d .bool]
@[irreducible] noncomputable def ref27_Same (n:Nat) (p:PayL R.T ref27_Same_p):Option (PayL R.T ref27_Same_r):=funM E R n false (regs51 n) (its17 n) ref27_Same_a Tryz.f15 ref27_Same_p ref27_Same_r p
theorem ref27_Same_ok (n:Nat) (p:PayL R.T ref27_Same_p) (x:PayL R.T ref27_Same_r) (h:ref27_Same n p=some x):Pure E 15 (encSL R ref27_Same_p p) (retV (encSL R ref27_Same_r x)):=by
 unfold ref27_Same at h
 exact funM_ok rOK (regs51_ok n) (its17_ok n) h Tryz.func15 rfl rfl rfl rfl (by kernel_rfl)
noncomputable def regs52 (n:Nat):Nat→List (FR R):=addF 15 ⟨ref27_Same_p,ref27_Same_r,ref27_Same n,dflL R ref27_Same_r,false⟩ (regs51 n)
theorem regs52_ok (n:Nat):RegsOK E (regs52 n):=addF_ok (regs51_ok n) (ref27_Same_ok n)
def ref27_Check_a:Ann:=⟨[(5,⟨[0,1,5,6],[5],⟨[(8,.d (.int .i64))],[(6,.st 4)]⟩,[(.exit 0,⟨[],[(6,.st 4)]⟩),(.ret,⟨[],[(6,.st 4)]⟩)]⟩)],[]⟩
abbrev ref27_Check_p:List Sk:=[.d (.int .i64),.d (.slice (.slice (.int .i64))),.d (.st 1)]
abbrev ref27_Check_r:List Sk:=[.d (.st 4)]
@[irreducible] noncomputable def ref27_Check (n:Nat) (p:PayL R.T ref27_Check_p):Option (PayL R.T ref27_Check_r):=funM E R n false (regs52 n) (its17 n) ref27_Check_a Tryz.f22 ref27_Check_p ref27_Check_r p
theorem ref27_Check_ok (n:Nat) (p:PayL R.T ref27_Check_p) (x:PayL R.T ref27_Check_r) (h:ref27_Check n p=some x):Pure E 22 (encSL R ref27_Check_p p) (retV (encSL R ref27_Check_r x)):=by
 unfold ref27_Check at h
 exact funM_ok rOK (regs52_ok n) (its17_ok n) h Tryz.func22 rfl rfl rfl rfl (by kernel_rfl)
noncomputable def regs53 (n:Nat):Nat→List (FR R):=addF 22 ⟨ref27_Check_p,ref27_Check_r,ref27_Check n,dflL R ref27_Check_r,false⟩ (regs52 n)
theorem regs53_ok (n:Nat):RegsOK E (regs53 n):=addF_ok (regs52_ok n) (ref27_Check_ok n)
def ref27_SameGraph_a:Ann:=⟨[(4,⟨[2,3],[2,3],⟨[(5,.d (.int .i64))],[]⟩,[(.exit 0,⟨[],[]⟩),(.ret,⟨[(4,.d .bool)],[]⟩)]⟩)],[]⟩
abbrev ref27_SameGraph_p:List Sk:=[.d (.st 1),.d (.st 1)]
abbrev ref27_SameGraph_r:List Sk:=[.d .bool]
@[irreducible] noncomputable def ref27_SameGraph (n:Nat) (p:PayL R.T ref27_SameGraph_p):Option (PayL R.T ref27_SameGraph_r):=funM E R n false (regs53 n) (its17 n) ref27_SameGraph_a Tryz.f23 ref27_SameGraph_p ref27_SameGraph_r p
theorem ref27_SameGraph_ok (n:Nat) (p:PayL R.T ref27_SameGraph_p) (x:PayL R.T ref27_SameGraph_r) (h:ref27_SameGraph n p=some x):Pure E 23 (encSL R ref27_SameGraph_p p) (retV (encSL R ref27_SameGraph_r x)):=by
 unfold ref27_SameGraph at h
 exact funM_ok rOK (regs53_ok n) (its17_ok n) h Tryz.func23 rfl rfl rfl rfl (by kernel_rfl)
noncomputable def regs54 (n:Nat):Nat→List (FR R):=addF 23 ⟨ref27_SameGraph_p,ref27_SameGraph_r,ref27_SameGraph n,dflL R ref27_SameGraph_r,false⟩ (regs53 n)
theorem regs54_ok (n:Nat):RegsOK E (regs54 n):=addF_ok (regs53_ok n) (ref27_SameGraph_ok n)
def law27_GraphBuildsAsSpecified_a:Ann:=⟨[],[]⟩
abbrev law27_GraphBuildsAsSpecified_p:List Sk:=[.d (.int .i64),.d (.slice (.slice (.int .i64))),.d (.int .i64),.d (.int .i64),.d (.st 1)]
abbrev law27_GraphBuildsAsSpecified_r:List Sk:=[.d .bool]
@[irreducible] noncomputable def law27_GraphBuildsAsSpecified (n:Nat) (p:PayL R.T law27_GraphBuildsAsSpecified_p):Option (PayL R.T law27_GraphBuildsAsSpecified_r):=funM E R n false (regs54 n) (its17 n) law27_GraphBuildsAsSpecified_a Tryz.f4 law27_GraphBuildsAsSpecified_p law27_GraphBuildsAsSpecified_r p
theorem law27_GraphBuildsAsSpecified_ok (n:Nat) (p:PayL R.T law27_GraphBuildsAsSpecified_p) (x:PayL R.T law27_GraphBuildsAsSpecified_r) (h:law27_GraphBuildsAsSpecified n p=some x):Pure E 4 (encSL R law27_GraphBuildsAsSpecified_p p) (retV (encSL R law27_GraphBuildsAsSpecified_r x)):=by
 unfold law27_GraphBuildsAsSpecified at h
 exact funM_ok rOK (regs54_ok n) (its17_ok n) h Tryz.func4 rfl rfl rfl rfl (by kernel_rfl)
end Sh
