import Derived.Test.YtabmooekodficaaF1418
set_option linter.all false
open Go Go.Proofs Aq
namespace Sh
set_option maxRecDepth 100000
def dB (i:Nat) (a r:List Sk) (F:PayL R.T a->Option (PayL R.T r)):Prop:=∀p x,F p=some x->Pure E i (encSL R a p) (retV (encSL R r x))
theorem okF {n:Nat} {om:Bool} {F:Nat->List (FR R)} {A:Ann} {i:Nat} {fn:Func} {a r:List Sk} {p:PayL R.T a} {x:PayL R.T r} (hF:RegsOK E F) (h:funM E R n om F iters A fn a r p=some x) (hf:E.P.funcs[i]? =some fn) (hok:(match fn.body with|some c=>decide (a.length<=fn.ntmps)&& bN fn.ntmps c&& iB E c|none=>false)=true)
 (ha:cSkL a=true:=by rfl) (hl:(encSL R a p).length=a.length:=by rfl) (ho:E.om i=om:=by rfl) (hs:E.summ i=none:=by rfl):Pure E i (encSL R a p) (retV (encSL R r x)):=funM_ok rOK hF iters_ok h hf ha hl ho hs hok
def Zq_a:Ann:=⟨[(4,⟨[0],[],⟨[(5,.d (.int .i64))],[]⟩,[(.exit 0,⟨[],[]⟩),(.ret,⟨[(4,.d .bool)],[]⟩)]⟩)],[]⟩
abbrev Zq_p:List Sk:=[.d (.slice (.slice (.int .i64))),.d (.int .i64)]
abbrev Zq_r:List Sk:=[.d .bool]
@[irreducible] noncomputable def Zq (n:Nat) (p:PayL R.T Zq_p):Option (PayL R.T Zq_r):=funM E R n false (regs0 n) iters Zq_a Try.f6 Zq_p Zq_r p
theorem Zq_ok (n:Nat):dB 6 Zq_p Zq_r (Zq n):=fun _ _ h=>by unfold Zq at h;exact okF (regs0_ok n) h Try.func6 (by kernel_rfl)
noncomputable def regs1 (n:Nat):Nat->List (FR R):=addF 6 ⟨Zq_p,Zq_r,Zq n,dflL R Zq_r,false⟩ (regs0 n)
theorem regs1_ok (n:Nat):RegsOK E (regs1 n):=addF_ok (regs0_ok n) (Zq_ok n)
def Zr_a:Ann:=⟨[(4,⟨[1],[1],⟨[(3,.d (.int .i64))],[]⟩,[(.exit 0,⟨[],[]⟩),(.ret,⟨[(2,.d .bool)],[]⟩)]⟩)],[]⟩
abbrev Zr_p:List Sk:=[.d (.st 1)]
abbrev Zr_r:List Sk:=[.d .bool]
@[irreducible] noncomputable def Zr (n:Nat) (p:PayL R.T Zr_p):Option (PayL R.T Zr_r):=funM E R n false (regs1 n) iters Zr_a Try.f7 Zr_p Zr_r p
theorem Zr_ok (n:Nat):dB 7 Zr_p Zr_r (Zr n):=fun _ _ h=>by unfold Zr at h;exact okF (regs1_ok n) h Try.func7 (by kernel_rfl)
noncomputable def regs2 (n:Nat):Nat->List (FR R):=addF 7 ⟨Zr_p,Zr_r,Zr n,dflL R Zr_r,false⟩ (regs1 n)
theorem regs2_ok (n:Nat):RegsOK E (regs2 n):=addF_ok (regs1_ok n) (Zr_ok n)
def Xi_a:Ann:=⟨[],[]⟩
abbrev Xi_p:List Sk:=[.d (.int .i64)]
abbrev Xi_r:List Sk:=[.d .bool]
@[irreducible] noncomputable def Xi (n:Nat) (p:PayL R.T Xi_p):Option (PayL R.T Xi_r):=funM E R n false (regs2 n) iters Xi_a Try.f15 Xi_p Xi_r p
theorem Xi_ok (n:Nat):dB 15 Xi_p Xi_r (Xi n):=fun _ _ h=>by unfold Xi at h;exact okF (regs2_ok n) h Try.func15 (by kernel_rfl)
noncomputable def regs3 (n:Nat):Nat->List (FR R):=addF 15 ⟨Xi_p,Xi_r,Xi n,dflL R Xi_r,false⟩ (regs2 n)
theorem regs3_ok (n:Nat):RegsOK E (regs3 n):=addF_ok (regs2_ok n) (Xi_ok n)
def Zh_a:Ann:=⟨[(2,⟨[0],[],⟨[(3,.d (.int .i64))],[]⟩,[(.exit 0,⟨[],[]⟩),(.ret,⟨[(2,.d .bool)],[]⟩)]⟩)],[]⟩
abbrev Zh_p:List Sk:=[.d (.slice (.int .i64))]
abbrev Zh_r:List Sk:=[.d .bool]
@[irreducible] noncomputable def Zh (n:Nat) (p:PayL R.T Zh_p):Option (PayL R.T Zh_r):=funM E R n false (regs3 n) iters Zh_a Try.f21 Zh_p Zh_r p
theorem Zh_ok (n:Nat):dB 21 Zh_p Zh_r (Zh n):=fun _ _ h=>by unfold Zh at h;exact okF (regs3_ok n) h Try.func21 (by kernel_rfl)
noncomputable def regs4 (n:Nat):Nat->List (FR R):=addF 21 ⟨Zh_p,Zh_r,Zh n,dflL R Zh_r,false⟩ (regs3 n)
theorem regs4_ok (n:Nat):RegsOK E (regs4 n):=addF_ok (regs3_ok n) (Zh_ok n)
def Zu_a:Ann:=⟨[(2,⟨[0],[],⟨[(3,.d (.int .i64))],[]⟩,[(.exit 0,⟨[],[]⟩),(.ret,⟨[(2,.d .bool)],[]⟩)]⟩)],[]⟩
abbrev Zu_p:List Sk:=[.d (.slice (.slice (.int .i64)))]
abbrev Zu_r:List Sk:=[.d .bool]
@[irreducible] noncomputable def Zu (n:Nat) (p:PayL R.T Zu_p):Option (PayL R.T Zu_r):=funM E R n false (regs4 n) iters Zu_a Try.f16 Zu_p Zu_r p
theorem Zu_ok (n:Nat):dB 16 Zu_p Zu_r (Zu n):=fun _ _ h=>by unfold Zu at h;exact okF (regs4_ok n) h Try.func16 (by kernel_rfl)
noncomputable def regs5 (n:Nat):Nat->List (FR R):=addF 16 ⟨Zu_p,Zu_r,Zu n,dflL R Zu_r,false⟩ (regs4 n)
theorem regs5_ok (n:Nat):RegsOK E (regs5 n):=addF_ok (regs4_ok n) (Zu_ok n)
def Zz_a:Ann:=⟨[(2,⟨[0,1],[],⟨[(5,.d (.int .i64))],[]⟩,[(.exit 0,⟨[],[]⟩),(.ret,⟨[(4,.d .bool)],[]⟩)]⟩)],[]⟩
abbrev Zz_p:List Sk:=[.d (.slice (.int .i64)),.d (.int .i64)]
abbrev Zz_r:List Sk:=[.d .bool]
@[irreducible] noncomputable def Zz (n:Nat) (p:PayL R.T Zz_p):Option (PayL R.T Zz_r):=funM E R n false (regs5 n) iters Zz_a Try.f42 Zz_p Zz_r p
theorem Zz_ok (n:Nat):dB 42 Zz_p Zz_r (Zz n):=fun _ _ h=>by unfold Zz at h;exact okF (regs5_ok n) h Try.func42 (by kernel_rfl)
noncomputable def regs6 (n:Nat):Nat->List (FR R):=addF 42 ⟨Zz_p,Zz_r,Zz n,dflL R Zz_r,false⟩ (regs5 n)
theorem regs6_ok (n:Nat):RegsOK E (regs6 n):=addF_ok (regs5_ok n) (Zz_ok n)
def Zb_a:Ann:=⟨[(4,⟨[0,3],[3],⟨[(5,.d (.int .i64))],[]⟩,[(.exit 0,⟨[],[]⟩),(.ret,⟨[(4,.d .bool)],[]⟩)]⟩),
 (10,⟨[0,3,5,6],[3,6],⟨[(7,.d (.int .i64))],[]⟩,[(.exit 2,⟨[],[]⟩),(.ret,⟨[(4,.d .bool)],[]⟩)]⟩)],[]⟩
abbrev Zb_p:List Sk:=[.d (.int .i64),.d (.st 1)]
abbrev Zb_r:List Sk:=[.d .bool]
@[irreducible] noncomputable def Zb (n:Nat) (p:PayL R.T Zb_p):Option (PayL R.T Zb_r):=funM E R n false (regs6 n) iters Zb_a Try.f20 Zb_p Zb_r p
theorem Zb_ok (n:Nat):dB 20 Zb_p Zb_r (Zb n):=fun _ _ h=>by unfold Zb at h;exact okF (regs6_ok n) h Try.func20 (by kernel_rfl)
noncomputable def regs7 (n:Nat):Nat->List (FR R):=addF 20 ⟨Zb_p,Zb_r,Zb n,dflL R Zb_r,false⟩ (regs6 n)
theorem regs7_ok (n:Nat):RegsOK E (regs7 n):=addF_ok (regs6_ok n) (Zb_ok n)
def Xj_a:Ann:=⟨[],[]⟩
abbrev Xj_p:List Sk:=[.d (.int .i64),.d (.slice (.slice (.int .i64))),.d (.st 1)]
abbrev Xj_r:List Sk:=[.d .bool]
@[irreducible] noncomputable def Xj (n:Nat) (p:PayL R.T Xj_p):Option (PayL R.T Xj_r):=funM E R n false (regs7 n) iters Xj_a Try.f8 Xj_p Xj_r p
theorem Xj_ok (n:Nat):dB 8 Xj_p Xj_r (Xj n):=fun _ _ h=>by unfold Xj at h;exact okF (regs7_ok n) h Try.func8 (by kernel_rfl)
noncomputable def regs8 (n:Nat):Nat->List (FR R):=addF 8 ⟨Xj_p,Xj_r,Xj n,dflL R Xj_r,false⟩ (regs7 n)
theorem regs8_ok (n:Nat):RegsOK E (regs8 n):=addF_ok (regs7_ok n) (Xj_ok n)
def Xk_a:Ann:=⟨[],[]⟩
abbrev Xk_p:List Sk:=[.d (.slice (.int .i64)),.d (.slice (.int .i64))]
abbrev Xk_r:List Sk:=[.d .bool]
@[irreducible] noncomputable def Xk (n:Nat) (p:PayL R.T Xk_p):Option (PayL R.T Xk_r):=funM E R n false (regs8 n) iters Xk_a Try.f9 Xk_p Xk_r p
theorem Xk_ok (n:Nat):dB 9 Xk_p Xk_r (Xk n):=fun _ _ h=>by unfold Xk at h;exact okF (regs8_ok n) h Try.func9 (by kernel_rfl)
noncomputable def regs9 (n:Nat):Nat->List (FR R):=addF 9 ⟨Xk_p,Xk_r,Xk n,dflL R Xk_r,false⟩ (regs8 n)
theorem regs9_ok (n:Nat):RegsOK E (regs9 n):=addF_ok (regs8_ok n) (Xk_ok n)
abbrev Xc_p:List Sk:=[]
abbrev Xc_r:List Sk:=[.d .bool]
@[irreducible] def Xc (n:Nat) (p:PayL R.T Xc_p):Option (PayL R.T Xc_r):=some true
theorem Xc_eq (n:Nat) (p:PayL R.T Xc_p):Xc n p=some true:=by unfold Xc;rfl
theorem Xc_ok (n:Nat) (p:PayL R.T Xc_p) (x:PayL R.T Xc_r) (h:Xc n p=some x):Pure E 10 (encSL R Xc_p p) (retV (encSL R Xc_r x)):=by
 unfold Xc at h
 exact sanP p x h
noncomputable def regs10 (n:Nat):Nat->List (FR R):=addF 10 ⟨Xc_p,Xc_r,Xc n,dflL R Xc_r,false⟩ (regs9 n)
theorem regs10_ok (n:Nat):RegsOK E (regs10 n):=addF_ok (regs9_ok n) (Xc_ok n)
def ZY_a:Ann:=⟨[],[]⟩
abbrev ZY_p:List Sk:=[.d (.int .i64),.d (.int .i64),.d (.int .i64)]
abbrev ZY_r:List Sk:=[.d (.int .i64)]
@[irreducible] noncomputable def ZY (n:Nat) (p:PayL R.T ZY_p):Option (PayL R.T ZY_r):=funM E R n false (regs10 n) iters ZY_a Try.f67 ZY_p ZY_r p
theorem ZY_ok (n:Nat):dB 67 ZY_p ZY_r (ZY n):=fun _ _ h=>by unfold ZY at h;exact okF (regs10_ok n) h Try.func67 (by kernel_rfl)
noncomputable def regs11 (n:Nat):Nat->List (FR R):=addF 67 ⟨ZY_p,ZY_r,ZY n,dflL R ZY_r,false⟩ (regs10 n)
theorem regs11_ok (n:Nat):RegsOK E (regs11 n):=addF_ok (regs10_ok n) (ZY_ok n)
def Xl_a:Ann:=⟨[],[]⟩
abbrev Xl_p:List Sk:=[.d (.int .i64),.d (.int .i64)]
abbrev Xl_r:List Sk:=[.d .bool]
@[irreducible] noncomputable def Xl (n:Nat) (p:PayL R.T Xl_p):Option (PayL R.T Xl_r):=funM E R n false (regs11 n) iters Xl_a Try.f57 Xl_p Xl_r p
theorem Xl_ok (n:Nat):dB 57 Xl_p Xl_r (Xl n):=fun _ _ h=>by unfold Xl at h;exact okF (regs11_ok n) h Try.func57 (by kernel_rfl)
noncomputable def regs12 (n:Nat):Nat->List (FR R):=addF 57 ⟨Xl_p,Xl_r,Xl n,dflL R Xl_r,false⟩ (regs11 n)
theorem regs12_ok (n:Nat):RegsOK E (regs12 n):=addF_ok (regs11_ok n) (Xl_ok n)
def Xr_a:Ann:=⟨[],[]⟩
abbrev Xr_p:List Sk:=[.d .bool,.d (.int .i64)]
abbrev Xr_r:List Sk:=[.d .bool]
@[irreducible] noncomputable def Xr (n:Nat) (p:PayL R.T Xr_p):Option (PayL R.T Xr_r):=funM E R n false (regs12 n) iters Xr_a Try.f73 Xr_p Xr_r p
theorem Xr_ok (n:Nat):dB 73 Xr_p Xr_r (Xr n):=fun _ _ h=>by unfold Xr at h;exact okF (regs12_ok n) h Try.func73 (by kernel_rfl)
noncomputable def regs13 (n:Nat):Nat->List (FR R):=addF 73 ⟨Xr_p,Xr_r,Xr n,dflL R Xr_r,false⟩ (regs12 n)
theorem regs13_ok (n:Nat):RegsOK E (regs13 n):=addF_ok (regs12_ok n) (Xr_ok n)
def ZD_a:Ann:=⟨[(2,⟨[2,9,10],[],⟨[(1,.d .bool),(11,.d (.int .i64))],[]⟩,[(.exit 0,⟨[(1,.d .bool)],[]⟩)]⟩)],[]⟩
abbrev ZD_p:List Sk:=[.d (.slice (.int .i64)),.d .bool,.fn 73 [] []]
abbrev ZD_r:List Sk:=[.d .bool]
@[irreducible] noncomputable def ZD (n:Nat) (p:PayL R.T ZD_p):Option (PayL R.T ZD_r):=funM E R n false (regs13 n) iters ZD_a Try.f72 ZD_p ZD_r p
theorem ZD_ok (n:Nat):dB 72 ZD_p ZD_r (ZD n):=fun _ _ h=>by unfold ZD at h;exact okF (regs13_ok n) h Try.func72 (by kernel_rfl)
noncomputable def regs14 (n:Nat):Nat->List (FR R):=addF 72 ⟨ZD_p,ZD_r,ZD n,dflL R ZD_r,false⟩ (regs13 n)
theorem regs14_ok (n:Nat):RegsOK E (regs14 n):=addF_ok (regs13_ok n) (ZD_ok n)
def Xd_a:Ann:=⟨[],[]⟩
abbrev Xd_p:List Sk:=[.d (.slice (.int .i64))]
abbrev Xd_r:List Sk:=[.d .bool]
@[irreducible] noncomputable def Xd (n:Nat) (p:PayL R.T Xd_p):Option (PayL R.T Xd_r):=funM E R n false (regs14 n) iters Xd_a Try.f63 Xd_p Xd_r p
theorem Xd_ok (n:Nat):dB 63 Xd_p Xd_r (Xd n):=fun _ _ h=>by unfold Xd at h;exact okF (regs14_ok n) h Try.func63 (by kernel_rfl)
noncomputable def regs15 (n:Nat):Nat->List (FR R):=addF 63 ⟨Xd_p,Xd_r,Xd n,dflL R Xd_r,false⟩ (regs14 n)
theorem regs15_ok (n:Nat):RegsOK E (regs15 n):=addF_ok (regs14_ok n) (Xd_ok n)
def Xe_a:Ann:=⟨[],[]⟩
abbrev Xe_p:List Sk:=[.d (.slice (.int .i64)),.d (.slice (.int .i64))]
abbrev Xe_r:List Sk:=[.d .bool]
@[irreducible] noncomputable def Xe (n:Nat) (p:PayL R.T Xe_p):Option (PayL R.T Xe_r):=funM E R n false (regs15 n) iters Xe_a Try.f44 Xe_p Xe_r p
theorem Xe_ok (n:Nat):dB 44 Xe_p Xe_r (Xe n):=fun _ _ h=>by unfold Xe at h;exact okF (regs15_ok n) h Try.func44 (by kernel_rfl)
noncomputable def regs16 (n:Nat):Nat->List (FR R):=addF 44 ⟨Xe_p,Xe_r,Xe n,dflL R Xe_r,false⟩ (regs15 n)
theorem regs16_ok (n:Nat):RegsOK E (regs16 n):=addF_ok (regs15_ok n) (Xe_ok n)
def Xm_a:Ann:=⟨[],[]⟩
abbrev Xm_p:List Sk:=[.d (.slice (.int .i64)),.cref [.d (.int .i64),.d (.slice (.slice (.int .i64)))] 0]
abbrev Xm_r:List Sk:=[.d .bool]
@[irreducible] noncomputable def Xm (n:Nat) (p:PayL R.T Xm_p):Option (PayL R.T Xm_r):=funM E R n false (regs16 n) iters Xm_a Try.f56 Xm_p Xm_r p
theorem Xm_ok (n:Nat):dB 56 Xm_p Xm_r (Xm n):=fun _ _ h=>by unfold Xm at h;exact okF (regs16_ok n) h Try.func56 (by kernel_rfl)
noncomputable def regs17 (n:Nat):Nat->List (FR R):=addF 56 ⟨Xm_p,Xm_r,Xm n,dflL R Xm_r,false⟩ (regs16 n)
theorem regs17_ok (n:Nat):RegsOK E (regs17 n):=addF_ok (regs16_ok n) (Xm_ok n)
def ZA_a:Ann:=⟨[(2,⟨[0,1,7],[],⟨[(8,.d (.int .i64))],[]⟩,[(.exit 0,⟨[],[]⟩),(.ret,⟨[(4,.d (.int .i64))],[]⟩)]⟩)],[]⟩
abbrev ZA_p:List Sk:=[.d (.slice (.slice (.int .i64))),.fn 56 [] [.cref [.d (.int .i64),.d (.slice (.slice (.int .i64)))] 0]]
abbrev ZA_r:List Sk:=[.d (.int .i64)]
@[irreducible] noncomputable def ZA (n:Nat) (p:PayL R.T ZA_p):Option (PayL R.T ZA_r):=funM E R n false (regs17 n) iters ZA_a Try.f68 ZA_p ZA_r p
theorem ZA_ok (n:Nat):dB 68 ZA_p ZA_r (ZA n):=fun _ _ h=>by unfold ZA at h;exact okF (regs17_ok n) h Try.func68 (by kernel_rfl)
noncomputable def regs18 (n:Nat):Nat->List (FR R):=addF 68 ⟨ZA_p,ZA_r,ZA n,dflL R ZA_r,false⟩ (regs17 n)
theorem regs18_ok (n:Nat):RegsOK E (regs18 n):=addF_ok (regs17_ok n) (ZA_ok n)
def Xn_a:Ann:=⟨[],[]⟩
abbrev Xn_p:List Sk:=[.d (.slice (.slice (.int .i64))),.fn 56 [] [.cref [.d (.int .i64),.d (.slice (.slice (.int .i64)))] 0]]
abbrev Xn_r:List Sk:=[.d .bool]
@[irreducible] noncomputable def Xn (n:Nat) (p:PayL R.T Xn_p):Option (PayL R.T Xn_r):=funM E R n false (regs18 n) iters Xn_a Try.f58 Xn_p Xn_r p
theorem Xn_ok (n:Nat):dB 58 Xn_p Xn_r (Xn n):=fun _ _ h=>by unfold Xn at h;exact okF (regs18_ok n) h Try.func58 (by kernel_rfl)
noncomputable def regs19 (n:Nat):Nat->List (FR R):=addF 58 ⟨Xn_p,Xn_r,Xn n,dflL R Xn_r,false⟩ (regs18 n)
theorem regs19_ok (n:Nat):RegsOK E (regs19 n):=addF_ok (regs18_ok n) (Xn_ok n)
def Xo_a:Ann:=⟨[],[]⟩
abbrev Xo_p:List Sk:=[.d (.st 2)]
abbrev Xo_r:List Sk:=[.d .bool]
@[irreducible] noncomputable def Xo (n:Nat) (p:PayL R.T Xo_p):Option (PayL R.T Xo_r):=funM E R n false (regs19 n) iters Xo_a Try.f35 Xo_p Xo_r p
theorem Xo_ok (n:Nat):dB 35 Xo_p Xo_r (Xo n):=fun _ _ h=>by unfold Xo at h;exact okF (regs19_ok n) h Try.func35 (by kernel_rfl)
noncomputable def regs20 (n:Nat):Nat->List (FR R):=addF 35 ⟨Xo_p,Xo_r,Xo n,dflL R Xo_r,false⟩ (regs19 n)
theorem regs20_ok (n:Nat):RegsOK E (regs20 n):=addF_ok (regs19_ok n) (Xo_ok n)
def ZB_a:Ann:=⟨[(2,⟨[0,1,7],[],⟨[(8,.d (.int .i64))],[]⟩,[(.exit 0,⟨[],[]⟩),(.ret,⟨[(4,.d (.int .i64))],[]⟩)]⟩)],[]⟩
abbrev ZB_p:List Sk:=[.d (.slice (.int .i64)),.d (.int .i64)]
abbrev ZB_r:List Sk:=[.d (.int .i64)]
@[irreducible] noncomputable def ZB (n:Nat) (p:PayL R.T ZB_p):Option (PayL R.T ZB_r):=funM E R n false (regs20 n) iters ZB_a Try.f61 ZB_p ZB_r p
theorem ZB_ok (n:Nat):dB 61 ZB_p ZB_r (ZB n):=fun _ _ h=>by unfold ZB at h;exact okF (regs20_ok n) h Try.func61 (by kernel_rfl)
noncomputable def regs21 (n:Nat):Nat->List (FR R):=addF 61 ⟨ZB_p,ZB_r,ZB n,dflL R ZB_r,false⟩ (regs20 n)
theorem regs21_ok (n:Nat):RegsOK E (regs21 n):=addF_ok (regs20_ok n) (ZB_ok n)
def Xp_a:Ann:=⟨[],[]⟩
abbrev Xp_p:List Sk:=[.d (.slice (.int .i64)),.d (.int .i64)]
abbrev Xp_r:List Sk:=[.d .bool]
@[irreducible] noncomputable def Xp (n:Nat) (p:PayL R.T Xp_p):Option (PayL R.T Xp_r):=funM E R n false (regs21 n) iters Xp_a Try.f41 Xp_p Xp_r p
theorem Xp_ok (n:Nat):dB 41 Xp_p Xp_r (Xp n):=fun _ _ h=>by unfold Xp at h;exact okF (regs21_ok n) h Try.func41 (by kernel_rfl)
noncomputable def regs22 (n:Nat):Nat->List (FR R):=addF 41 ⟨Xp_p,Xp_r,Xp n,dflL R Xp_r,false⟩ (regs21 n)
theorem regs22_ok (n:Nat):RegsOK E (regs22 n):=addF_ok (regs21_ok n) (Xp_ok n)
def Zc_a:Ann:=⟨[(4,⟨[0,23,24],[],⟨[(25,.d (.int .i64))],[]⟩,[(.exit 0,⟨[],[]⟩),(.ret,⟨[(4,.d .bool)],[]⟩)]⟩),
 (9,⟨[0,6,23,24,25,46,47],[6],⟨[(48,.d (.int .i64))],[]⟩,[(.exit 2,⟨[],[]⟩),(.ret,⟨[(4,.d .bool)],[]⟩)]⟩)],[]⟩
abbrev Zc_p:List Sk:=[.d (.int .i64),.d (.st 1)]
abbrev Zc_r:List Sk:=[.d .bool]
@[irreducible] noncomputable def Zc (n:Nat) (p:PayL R.T Zc_p):Option (PayL R.T Zc_r):=funM E R n false (regs22 n) iters Zc_a Try.f19 Zc_p Zc_r p
theorem Zc_ok (n:Nat):dB 19 Zc_p Zc_r (Zc n):=fun _ _ h=>by unfold Zc at h;exact okF (regs22_ok n) h Try.func19 (by kernel_rfl)
noncomputable def regs23 (n:Nat):Nat->List (FR R):=addF 19 ⟨Zc_p,Zc_r,Zc n,dflL R Zc_r,false⟩ (regs22 n)
theorem regs23_ok (n:Nat):RegsOK E (regs23 n):=addF_ok (regs22_ok n) (Zc_ok n)
def ZH_a:Ann:=⟨[],[]⟩
abbrev ZH_p:List Sk:=[.d (.slice (.int .i64))]
abbrev ZH_o:List (Nat×ObSk):=[]
abbrev slices_Clone_int_int_w:List (Nat×ObSk):=[]
abbrev slices_Clone_int_int_k:NK:=.arr (.int .i64)
@[irreducible] noncomputable def ZH (n:Nat) (p:PayL R.T ZH_p) (q:PayOs R.T ZH_o):Option (PayN R.T slices_Clone_int_int_k×PayOs R.T slices_Clone_int_int_w):=funN E R n true (regs23 n) iters ZH_a Try.f30 ZH_p ZH_o slices_Clone_int_int_k slices_Clone_int_int_w p q
theorem ZH_ok (n:Nat):FNOK1 E 30 ZH_p ZH_o slices_Clone_int_int_k slices_Clone_int_int_w (ZH n):=by
 intro p q y q' h
 have h:ZH n p q=some (y,q'):=h
 unfold ZH at h
 exact funN_ok' rOK (regs23_ok n) iters_ok h Try.func30 rfl (by kernel_rfl)
noncomputable def its1 (n:Nat):IR R:=addM 30 (mkN ZH_p ZH_o slices_Clone_int_int_k slices_Clone_int_int_w (ZH n)) iters
theorem its1_ok (n:Nat):ItersOK E (its1 n):=addM_ok (m:=mkN ZH_p ZH_o slices_Clone_int_int_k slices_Clone_int_int_w (ZH n)) iters_ok (FMOK.N (ZH_ok n))
def Zs_a:Ann:=⟨[(3,⟨[1,5,10],[],⟨[(11,.d (.int .i64))],[(8,.arr (.int .i64))]⟩,[(.exit 0,⟨[],[(8,.arr (.int .i64))]⟩)]⟩)],[]⟩
abbrev Zs_p:List Sk:=[.d (.slice (.int .i64)),.d (.slice (.int .i64))]
abbrev Zs_r:List Sk:=[.d (.slice (.int .i64))]
@[irreducible] noncomputable def Zs (n:Nat) (p:PayL R.T Zs_p):Option (PayL R.T Zs_r):=funM E R n false (regs23 n) (its1 n) Zs_a Try.f34 Zs_p Zs_r p
theorem Zs_ok (n:Nat) (p:PayL R.T Zs_p) (x:PayL R.T Zs_r) (h:Zs n p=some x):Pure E 34 (encSL R Zs_p p) (retV (encSL R Zs_r x)):=by
 unfold Zs at h
 exact funM_ok rOK (regs23_ok n) (its1_ok n) h Try.func34 rfl rfl rfl rfl (by kernel_rfl)
noncomputable def regs24 (n:Nat):Nat->List (FR R):=addF 34 ⟨Zs_p,Zs_r,Zs n,dflL R Zs_r,false⟩ (regs23 n)
theorem regs24_ok (n:Nat):RegsOK E (regs24 n):=addF_ok (regs23_ok n) (Zs_ok n)
def Xf_a:Ann:=⟨[],[]⟩
abbrev Xf_p:List Sk:=[.d (.int .i64),.d (.int .i64)]
abbrev Xf_r:List Sk:=[.d (.int .i64)]
@[irreducible] noncomputable def Xf (n:Nat) (p:PayL R.T Xf_p):Option (PayL R.T Xf_r):=funM E R n false (regs24 n) (its1 n) Xf_a Try.f52 Xf_p Xf_r p
theorem Xf_ok (n:Nat) (p:PayL R.T Xf_p) (x:PayL R.T Xf_r) (h:Xf n p=some x):Pure E 52 (encSL R Xf_p p) (retV (encSL R Xf_r x)):=by
 unfold Xf at h
 exact funM_ok rOK (regs24_ok n) (its1_ok n) h Try.func52 rfl rfl rfl rfl (by kernel_rfl)
noncomputable def regs25 (n:Nat):Nat->List (FR R):=addF 52 ⟨Xf_p,Xf_r,Xf n,dflL R Xf_r,false⟩ (regs24 n)
theorem regs25_ok (n:Nat):RegsOK E (regs25 n):=addF_ok (regs24_ok n) (Xf_ok n)
def Zv_a:Ann:=⟨[(2,⟨[2,9,10],[],⟨[(1,.d (.int .i64)),(11,.d (.int .i64))],[]⟩,[(.exit 0,⟨[(1,.d (.int .i64))],[]⟩)]⟩)],[]⟩
abbrev Zv_p:List Sk:=[.d (.slice (.int .i64)),.d (.int .i64),.fn 52 [] []]
abbrev Zv_r:List Sk:=[.d (.int .i64)]
@[irreducible] noncomputable def Zv (n:Nat) (p:PayL R.T Zv_p):Option (PayL R.T Zv_r):=funM E R n false (regs25 n) (its1 n) Zv_a Try.f55 Zv_p Zv_r p
theorem Zv_ok (n:Nat) (p:PayL R.T Zv_p) (x:PayL R.T Zv_r) (h:Zv n p=some x):Pure E 55 (encSL R Zv_p p) (retV (encSL R Zv_r x)):=by
 unfold Zv at h
 exact funM_ok rOK (regs25_ok n) (its1_ok n) h Try.func55 rfl rfl rfl rfl (by kernel_rfl)
noncomputable def regs26 (n:Nat):Nat->List (FR R):=addF 55 ⟨Zv_p,Zv_r,Zv n,dflL R Zv_r,false⟩ (regs25 n)
theorem regs26_ok (n:Nat):RegsOK E (regs26 n):=addF_ok (regs25_ok n) (Zv_ok n)
def Xg_a:Ann:=⟨[],[]⟩
abbrev Xg_p:List Sk:=[.d (.int .i64),.d (.int .i64)]
abbrev Xg_r:List Sk:=[.d (.int .i64)]
@[irreducible] noncomputable def Xg (n:Nat) (p:PayL R.T Xg_p):Option (PayL R.T Xg_r):=funM E R n false (regs26 n) (its1 n) Xg_a Try.f53 Xg_p Xg_r p
theorem Xg_ok (n:Nat) (p:PayL R.T Xg_p) (x:PayL R.T Xg_r) (h:Xg n p=some x):Pure E 53 (encSL R Xg_p p) (retV (encSL R Xg_r x)):=by
 unfold Xg at h
 exact funM_ok rOK (regs26_ok n) (its1_ok n) h Try.func53 rfl rfl rfl rfl (by kernel_rfl)
noncomputable def regs27 (n:Nat):Nat->List (FR R):=addF 53 ⟨Xg_p,Xg_r,Xg n,dflL R Xg_r,false⟩ (regs26 n)
theorem regs27_ok (n:Nat):RegsOK E (regs27 n):=addF_ok (regs26_ok n) (Xg_ok n)
def Zw_a:Ann:=⟨[(2,⟨[2,9,10],[],⟨[(1,.d (.int .i64)),(11,.d (.int .i64))],[]⟩,[(.exit 0,⟨[(1,.d (.int .i64))],[]⟩)]⟩)],[]⟩
abbrev Zw_p:List Sk:=[.d (.slice (.int .i64)),.d (.int .i64),.fn 53 [] []]
abbrev Zw_r:List Sk:=[.d (.int .i64)]
@[irreducible] noncomputable def Zw (n:Nat) (p:PayL R.T Zw_p):Option (PayL R.T Zw_r):=funM E R n false (regs27 n) (its1 n) Zw_a Try.f55 Zw_p Zw_r p
theorem Zw_ok (n:Nat) (p:PayL R.T Zw_p) (x:PayL R.T Zw_r) (h:Zw n p=some x):Pure E 55 (encSL R Zw_p p) (retV (encSL R Zw_r x)):=by
 unfold Zw at h
 exact funM_ok rOK (regs27_ok n) (its1_ok n) h Try.func55 rfl rfl rfl rfl (by kernel_rfl)
noncomputable def regs28 (n:Nat):Nat->List (FR R):=addF 55 ⟨Zw_p,Zw_r,Zw n,dflL R Zw_r,false⟩ (regs27 n)
theorem regs28_ok (n:Nat):RegsOK E (regs28 n):=addF_ok (regs27_ok n) (Zw_ok n)
def Xh_a:Ann:=⟨[],[]⟩
abbrev Xh_p:List Sk:=[.d (.int .i64),.d (.int .i64)]
abbrev Xh_r:List Sk:=[.d (.int .i64)]
@[irreducible] noncomputable def Xh (n:Nat) (p:PayL R.T Xh_p):Option (PayL R.T Xh_r):=funM E R n false (regs28 n) (its1 n) Xh_a Try.f54 Xh_p Xh_r p
theorem Xh_ok (n:Nat) (p:PayL R.T Xh_p) (x:PayL R.T Xh_r) (h:Xh n p=some x):Pure E 54 (encSL R Xh_p p) (retV (encSL R Xh_r x)):=by
 unfold Xh at h
 exact funM_ok rOK (regs28_ok n) (its1_ok n) h Try.func54 rfl rfl rfl rfl (by kernel_rfl)
noncomputable def regs29 (n:Nat):Nat->List (FR R):=addF 54 ⟨Xh_p,Xh_r,Xh n,dflL R Xh_r,false⟩ (regs28 n)
theorem regs29_ok (n:Nat):RegsOK E (regs29 n):=addF_ok (regs28_ok n) (Xh_ok n)
def Zx_a:Ann:=⟨[(2,⟨[2,9,10],[],⟨[(1,.d (.int .i64)),(11,.d (.int .i64))],[]⟩,[(.exit 0,⟨[(1,.d (.int .i64))],[]⟩)]⟩)],[]⟩
abbrev Zx_p:List Sk:=[.d (.slice (.int .i64)),.d (.int .i64),.fn 54 [] []]
abbrev Zx_r:List Sk:=[.d (.int .i64)]
@[irreducible] noncomputable def Zx (n:Nat) (p:PayL R.T Zx_p):Option (PayL R.T Zx_r):=funM E R n false (regs29 n) (its1 n) Zx_a Try.f55 Zx_p Zx_r p
theorem Zx_ok (n:Nat) (p:PayL R.T Zx_p) (x:PayL R.T Zx_r) (h:Zx n p=some x):Pure E 55 (encSL R Zx_p p) (retV (encSL R Zx_r x)):=by
 unfold Zx at h
 exact funM_ok rOK (regs29_ok n) (its1_ok n) h Try.func55 rfl rfl rfl rfl (by kernel_rfl)
noncomputable def regs30 (n:Nat):Nat->List (FR R):=addF 55 ⟨Zx_p,Zx_r,Zx n,dflL R Zx_r,false⟩ (regs29 n)
theorem regs30_ok (n:Nat):RegsOK E (regs30 n):=addF_ok (regs29_ok n) (Zx_ok n)
def ZZ_a:Ann:=⟨[],[]⟩
abbrev ZZ_p:List Sk:=[.d (.int .i64),.d (.slice (.int .i64))]
abbrev ZZ_r:List Sk:=[.d (.int .i64)]
@[irreducible] noncomputable def ZZ (n:Nat) (p:PayL R.T ZZ_p):Option (PayL R.T ZZ_r):=funM E R n false (regs30 n) (its1 n) ZZ_a Try.f33 ZZ_p ZZ_r p
theorem ZZ_ok (n:Nat) (p:PayL R.T ZZ_p) (x:PayL R.T ZZ_r) (h:ZZ n p=some x):Pure E 33 (encSL R ZZ_p p) (retV (encSL R ZZ_r x)):=by
 unfold ZZ at h
 exact funM_ok rOK (regs30_ok n) (its1_ok n) h Try.func33 rfl rfl rfl rfl (by kernel_rfl)
noncomputable def regs31 (n:Nat):Nat->List (FR R):=addF 33 ⟨ZZ_p,ZZ_r,ZZ n,dflL R ZZ_r,false⟩ (regs30 n)
theorem regs31_ok (n:Nat):RegsOK E (regs31 n):=addF_ok (regs30_ok n) (ZZ_ok n)
def ZN_a:Ann:=⟨[],[]⟩
abbrev ZN_p:List Sk:=[.d (.int .i64),.d (.slice (.int .i64)),.d (.slice (.int .i64))]
abbrev ZN_r:List Sk:=[.d (.int .i64)]
@[irreducible] noncomputable def ZN (n:Nat) (p:PayL R.T ZN_p):Option (PayL R.T ZN_r):=funM E R n false (regs31 n) (its1 n) ZN_a Try.f14 ZN_p ZN_r p
theorem ZN_ok (n:Nat) (p:PayL R.T ZN_p) (x:PayL R.T ZN_r) (h:ZN n p=some x):Pure E 14 (encSL R ZN_p p) (retV (encSL R ZN_r x)):=by
 unfold ZN at h
 exact funM_ok rOK (regs31_ok n) (its1_ok n) h Try.func14 rfl rfl rfl rfl (by kernel_rfl)
noncomputable def regs32 (n:Nat):Nat->List (FR R):=addF 14 ⟨ZN_p,ZN_r,ZN n,dflL R ZN_r,false⟩ (regs31 n)
theorem regs32_ok (n:Nat):RegsOK E (regs32 n):=addF_ok (regs31_ok n) (ZN_ok n)
def Zk_a:Ann:=⟨[(3,⟨[1,2,9,10],[2],⟨[(5,.l (.own 22) (.int .i64)),(11,.d (.int .i64))],[]⟩,[(.exit 0,⟨[(5,.l (.own 22) (.int .i64))],[]⟩)]⟩)],[]⟩
abbrev Zk_p:List Sk:=[.d (.st 2),.d (.slice (.int .i64))]
abbrev Zk_r:List Sk:=[.d (.slice (.int .i64))]
@[irreducible] noncomputable def Zk (n:Nat) (p:PayL R.T Zk_p):Option (PayL R.T Zk_r):=funM E R n false (regs32 n) (its1 n) Zk_a Try.f36 Zk_p Zk_r p
theorem Zk_ok (n:Nat) (p:PayL R.T Zk_p) (x:PayL R.T Zk_r) (h:Zk n p=some x):Pure E 36 (encSL R Zk_p p) (retV (encSL R Zk_r x)):=by
 unfold Zk at h
 exact funM_ok rOK (regs32_ok n) (its1_ok n) h Try.func36 rfl rfl rfl rfl (by kernel_rfl)
noncomputable def regs33 (n:Nat):Nat->List (FR R):=addF 36 ⟨Zk_p,Zk_r,Zk n,dflL R Zk_r,false⟩ (regs32 n)
theorem regs33_ok (n:Nat):RegsOK E (regs33 n):=addF_ok (regs32_ok n) (Zk_ok n)
def ZO_a:Ann:=⟨[],[]⟩
abbrev ZO_p:List Sk:=[.d (.int .i64),.d (.slice (.slice (.int .i64))),.d (.st 1),.d (.slice (.int .i64)),.d (.int .i64)]
abbrev ZO_r:List Sk:=[.d (.st 3),.d .bool]
@[irreducible] noncomputable def ZO (n:Nat) (p:PayL R.T ZO_p):Option (PayL R.T ZO_r):=funM E R n false (regs33 n) (its1 n) ZO_a Try.f25 ZO_p ZO_r p
theorem ZO_ok (n:Nat) (p:PayL R.T ZO_p) (x:PayL R.T ZO_r) (h:ZO n p=some x):Pure E 25 (encSL R ZO_p p) (retV (encSL R ZO_r x)):=by
 unfold ZO at h
 exact funM_ok rOK (regs33_ok n) (its1_ok n) h Try.func25 rfl rfl rfl rfl (by kernel_rfl)
noncomputable def regs34 (n:Nat):Nat->List (FR R):=addF 25 ⟨ZO_p,ZO_r,ZO n,dflL R ZO_r,false⟩ (regs33 n)
theorem regs34_ok (n:Nat):RegsOK E (regs34 n):=addF_ok (regs33_ok n) (ZO_ok n)
def ZJ_a:Ann:=⟨[],[]⟩
abbrev ZJ_p:List Sk:=[.d (.st 3),.d (.int .i64)]
abbrev ZJ_o:List (Nat×ObSk):=[]
abbrev graph_search_walk_w:List (Nat×ObSk):=[]
abbrev graph_search_walk_k:NK:=.fnc 46 [] [.cref [.d (.int .i64),.d (.slice (.slice (.int .i64))),.d (.slice (.st 0)),.d (.slice (.int .i64))] 0] [.d (.int .i64)]
@[irreducible] noncomputable def ZJ (n:Nat) (p:PayL R.T ZJ_p) (q:PayOs R.T ZJ_o):Option (PayN R.T graph_search_walk_k×PayOs R.T graph_search_walk_w):=funN E R n false (regs34 n) (its1 n) ZJ_a Try.f27 ZJ_p ZJ_o graph_search_walk_k graph_search_walk_w p q
theorem ZJ_ok (n:Nat):FNOK1 E 27 ZJ_p ZJ_o graph_search_walk_k graph_search_walk_w (ZJ n):=by
 intro p q y q' h
 have h:ZJ n p q=some (y,q'):=h
 unfold ZJ at h
 exact funN_ok' rOK (regs34_ok n) (its1_ok n) h Try.func27 rfl (by kernel_rfl)
noncomputable def its2 (n:Nat):IR R:=addM 27 (mkN ZJ_p ZJ_o graph_search_walk_k graph_search_walk_w (ZJ n)) (its1 n)
theorem its2_ok (n:Nat):ItersOK E (its2 n):=addM_ok (m:=mkN ZJ_p ZJ_o graph_search_walk_k graph_search_walk_w (ZJ n)) (its1_ok n) (FMOK.N (ZJ_ok n))
def Zl_a:Ann:=⟨[(3,⟨[2],[],⟨[],[(2,.cells [.vw 11 (.int .i64)]),(11,.arr (.int .i64))]⟩,[(.normal,⟨[],[(2,.cells [.vw 11 (.int .i64)]),(11,.arr (.int .i64))]⟩)]⟩)],[]⟩
abbrev Zl_p:List Sk:=[.nils,.fn 46 [] [.ref 1000000 0,.cref [.d (.int .i64),.d (.slice (.slice (.int .i64))),.d (.slice (.st 0)),.d (.slice (.int .i64))] 0]]
abbrev Zl_o:List (Nat×ObSk):=[(1000000,.cells [.d (.int .i64)])]
abbrev slices_AppendSeq_int_int_w:List (Nat×ObSk):=[]
abbrev slices_AppendSeq_int_int_k:NK:=.arr (.int .i64)
@[irreducible] noncomputable def Zl (n:Nat) (p:PayL R.T Zl_p) (q:PayOs R.T Zl_o):Option (PayN R.T slices_AppendSeq_int_int_k×PayOs R.T slices_AppendSeq_int_int_w):=funN E R n true (regs34 n) (its2 n) Zl_a Try.f45 Zl_p Zl_o slices_AppendSeq_int_int_k slices_AppendSeq_int_int_w p q
theorem Zl_ok (n:Nat):FNOK1 E 45 Zl_p Zl_o slices_AppendSeq_int_int_k slices_AppendSeq_int_int_w (Zl n):=by
 intro p q y q' h
 have h:Zl n p q=some (y,q'):=h
 unfold Zl at h
 exact funN_ok' rOK (regs34_ok n) (its2_ok n) h Try.func45 rfl (by kernel_rfl)
noncomputable def its3 (n:Nat):IR R:=addM 45 (mkN Zl_p Zl_o slices_AppendSeq_int_int_k slices_AppendSeq_int_int_w (Zl n)) (its2 n)
theorem its3_ok (n:Nat):ItersOK E (its3 n):=addM_ok (m:=mkN Zl_p Zl_o slices_AppendSeq_int_int_k slices_AppendSeq_int_int_w (Zl n)) (its2_ok n) (FMOK.N (Zl_ok n))
def ZT_a:Ann:=⟨[],[]⟩
abbrev ZT_p:List Sk:=[.fn 46 [] [.ref 1000000 0,.cref [.d (.int .i64),.d (.slice (.slice (.int .i64))),.d (.slice (.st 0)),.d (.slice (.int .i64))] 0]]
abbrev ZT_o:List (Nat×ObSk):=[(1000000,.cells [.d (.int .i64)])]
abbrev slices_Collect_int_w:List (Nat×ObSk):=[]
abbrev slices_Collect_int_k:NK:=.arr (.int .i64)
@[irreducible] noncomputable def ZT (n:Nat) (p:PayL R.T ZT_p) (q:PayOs R.T ZT_o):Option (PayN R.T slices_Collect_int_k×PayOs R.T slices_Collect_int_w):=funN E R n false (regs34 n) (its3 n) ZT_a Try.f26 ZT_p ZT_o slices_Collect_int_k slices_Collect_int_w p q
theorem ZT_ok (n:Nat):FNOK1 E 26 ZT_p ZT_o slices_Collect_int_k slices_Collect_int_w (ZT n):=by
 intro p q y q' h
 have h:ZT n p q=some (y,q'):=h
 unfold ZT at h
 exact funN_ok' rOK (regs34_ok n) (its3_ok n) h Try.func26 rfl (by kernel_rfl)
noncomputable def its4 (n:Nat):IR R:=addM 26 (mkN ZT_p ZT_o slices_Collect_int_k slices_Collect_int_w (ZT n)) (its3 n)
theorem its4_ok (n:Nat):ItersOK E (its4 n):=addM_ok (m:=mkN ZT_p ZT_o slices_Collect_int_k slices_Collect_int_w (ZT n)) (its3_ok n) (FMOK.N (ZT_ok n))
def ZP_a:Ann:=⟨[],[]⟩
abbrev ZP_p:List Sk:=[.d (.int .i64),.d (.slice (.slice (.int .i64))),.d (.st 1),.d (.slice (.int .i64)),.d (.int .i64)]
abbrev ZP_r:List Sk:=[.d (.slice (.int .i64)),.d (.int .i64)]
@[irreducible] noncomputable def ZP (n:Nat) (p:PayL R.T ZP_p):Option (PayL R.T ZP_r):=funM E R n false (regs34 n) (its4 n) ZP_a Try.f11 ZP_p ZP_r p
theorem ZP_ok (n:Nat) (p:PayL R.T ZP_p) (x:PayL R.T ZP_r) (h:ZP n p=some x):Pure E 11 (encSL R ZP_p p) (retV (encSL R ZP_r x)):=by
 unfold ZP at h
 exact funM_ok rOK (regs34_ok n) (its4_ok n) h Try.func11 rfl rfl rfl rfl (by kernel_rfl)
noncomputable def regs35 (n:Nat):Nat->List (FR R):=addF 11 ⟨ZP_p,ZP_r,ZP n,dflL R ZP_r,false⟩ (regs34 n)
theorem regs35_ok (n:Nat):RegsOK E (regs35 n):=addF_ok (regs34_ok n) (ZP_ok n)
def Xt_a:Ann:=⟨[],[]⟩
abbrev Xt_p:List Sk:=[.d (.int .u32)]
abbrev Xt_r:List Sk:=[.d (.int .i64)]
@[irreducible] noncomputable def Xt (n:Nat) (p:PayL R.T Xt_p):Option (PayL R.T Xt_r):=funM E R n false (regs35 n) (its4 n) Xt_a Try.f82 Xt_p Xt_r p
theorem Xt_ok (n:Nat) (p:PayL R.T Xt_p) (x:PayL R.T Xt_r) (h:Xt n p=some x):Pure E 82 (encSL R Xt_p p) (retV (encSL R Xt_r x)):=by
 unfold Xt at h
 exact funM_ok rOK (regs35_ok n) (its4_ok n) h Try.func82 rfl rfl rfl rfl (by kernel_rfl)
noncomputable def regs36 (n:Nat):Nat->List (FR R):=addF 82 ⟨Xt_p,Xt_r,Xt n,dflL R Xt_r,false⟩ (regs35 n)
theorem regs36_ok (n:Nat):RegsOK E (regs36 n):=addF_ok (regs35_ok n) (Xt_ok n)
def ZG_a:Ann:=⟨[],[]⟩
abbrev ZG_p:List Sk:=[.d (.int .u64)]
abbrev ZG_r:List Sk:=[.d (.int .i64)]
@[irreducible] noncomputable def ZG (n:Nat) (p:PayL R.T ZG_p):Option (PayL R.T ZG_r):=funM E R n false (regs36 n) (its4 n) ZG_a Try.f83 ZG_p ZG_r p
theorem ZG_ok (n:Nat) (p:PayL R.T ZG_p) (x:PayL R.T ZG_r) (h:ZG n p=some x):Pure E 83 (encSL R ZG_p p) (retV (encSL R ZG_r x)):=by
 unfold ZG at h
 exact funM_ok rOK (regs36_ok n) (its4_ok n) h Try.func83 rfl rfl rfl rfl (by kernel_rfl)
noncomputable def regs37 (n:Nat):Nat->List (FR R):=addF 83 ⟨ZG_p,ZG_r,ZG n,dflL R ZG_r,false⟩ (regs36 n)
theorem regs37_ok (n:Nat):RegsOK E (regs37 n):=addF_ok (regs36_ok n) (ZG_ok n)
def ZI_a:Ann:=⟨[],[]⟩
abbrev ZI_p:List Sk:=[.d (.int .u64)]
abbrev ZI_r:List Sk:=[.d (.int .i64)]
@[irreducible] noncomputable def ZI (n:Nat) (p:PayL R.T ZI_p):Option (PayL R.T ZI_r):=funM E R n false (regs37 n) (its4 n) ZI_a Try.f65 ZI_p ZI_r p
theorem ZI_ok (n:Nat) (p:PayL R.T ZI_p) (x:PayL R.T ZI_r) (h:ZI n p=some x):Pure E 65 (encSL R ZI_p p) (retV (encSL R ZI_r x)):=by
 unfold ZI at h
 exact funM_ok rOK (regs37_ok n) (its4_ok n) h Try.func65 rfl rfl rfl rfl (by kernel_rfl)
noncomputable def regs38 (n:Nat):Nat->List (FR R):=addF 65 ⟨ZI_p,ZI_r,ZI n,dflL R ZI_r,false⟩ (regs37 n)
theorem regs38_ok (n:Nat):RegsOK E (regs38 n):=addF_ok (regs37_ok n) (ZI_ok n)
def Zt_a:Ann:=⟨[(5,⟨[0],[],⟨[(3,.d (.int .i64))],[]⟩,[(.ret,⟨[(2,.d (.int .i64))],[]⟩)]⟩)],[]⟩
abbrev Zt_p:List Sk:=[.d (.int .i64)]
abbrev Zt_r:List Sk:=[.d (.int .i64)]
@[irreducible] noncomputable def Zt (n:Nat) (p:PayL R.T Zt_p):Option (PayL R.T Zt_r):=funM E R n false (regs38 n) (its4 n) Zt_a Try.f95 Zt_p Zt_r p
theorem Zt_ok (n:Nat) (p:PayL R.T Zt_p) (x:PayL R.T Zt_r) (h:Zt n p=some x):Pure E 95 (encSL R Zt_p p) (retV (encSL R Zt_r x)):=by
 unfold Zt at h
 exact funM_ok rOK (regs38_ok n) (its4_ok n) h Try.func95 rfl rfl rfl rfl (by kernel_rfl)
noncomputable def regs39 (n:Nat):Nat->List (FR R):=addF 95 ⟨Zt_p,Zt_r,Zt n,dflL R Zt_r,false⟩ (regs38 n)
theorem regs39_ok (n:Nat):RegsOK E (regs39 n):=addF_ok (regs38_ok n) (Zt_ok n)
def ZQ_a:Ann:=⟨[],[]⟩
abbrev ZQ_p:List Sk:=[.d (.int .i64),.d (.int .i64),.cref [.d (.int .i64)] 0]
abbrev ZQ_r:List Sk:=[.d (.int .i64)]
@[irreducible] noncomputable def ZQ (n:Nat) (p:PayL R.T ZQ_p):Option (PayL R.T ZQ_r):=funM E R n false (regs39 n) (its4 n) ZQ_a Try.f94 ZQ_p ZQ_r p
theorem ZQ_ok (n:Nat) (p:PayL R.T ZQ_p) (x:PayL R.T ZQ_r) (h:ZQ n p=some x):Pure E 94 (encSL R ZQ_p p) (retV (encSL R ZQ_r x)):=by
 unfold ZQ at h
 exact funM_ok rOK (regs39_ok n) (its4_ok n) h Try.func94 rfl rfl rfl rfl (by kernel_rfl)
noncomputable def regs40 (n:Nat):Nat->List (FR R):=addF 94 ⟨ZQ_p,ZQ_r,ZQ n,dflL R ZQ_r,false⟩ (regs39 n)
theorem regs40_ok (n:Nat):RegsOK E (regs40 n):=addF_ok (regs39_ok n) (ZQ_ok n)
def ZR_a:Ann:=⟨[],[]⟩
abbrev ZR_p:List Sk:=[.d (.int .i64),.d (.int .i64)]
abbrev ZR_r:List Sk:=[.d (.int .i64)]
@[irreducible] noncomputable def ZR (n:Nat) (p:PayL R.T ZR_p):Option (PayL R.T ZR_r):=funM E R n false (regs40 n) (its4 n) ZR_a Try.f97 ZR_p ZR_r p
theorem ZR_ok (n:Nat) (p:PayL R.T ZR_p) (x:PayL R.T ZR_r) (h:ZR n p=some x):Pure E 97 (encSL R ZR_p p) (retV (encSL R ZR_r x)):=by
 unfold ZR at h
 exact funM_ok rOK (regs40_ok n) (its4_ok n) h Try.func97 rfl rfl rfl rfl (by kernel_rfl)
noncomputable def regs41 (n:Nat):Nat->List (FR R):=addF 97 ⟨ZR_p,ZR_r,ZR n,dflL R ZR_r,false⟩ (regs40 n)
theorem regs41_ok (n:Nat):RegsOK E (regs41 n):=addF_ok (regs40_ok n) (ZR_ok n)
def ZU_a:Ann:=⟨[],[]⟩
abbrev ZU_p:List Sk:=[.d (.int .i64)]
abbrev ZU_r:List Sk:=[.d .bool]
@[irreducible] noncomputable def ZU (n:Nat) (p:PayL R.T ZU_p):Option (PayL R.T ZU_r):=funM E R n false (regs41 n) (its4 n) ZU_a Try.f66 ZU_p ZU_r p
theorem ZU_ok (n:Nat) (p:PayL R.T ZU_p) (x:PayL R.T ZU_r) (h:ZU n p=some x):Pure E 66 (encSL R ZU_p p) (retV (encSL R ZU_r x)):=by
 unfold ZU at h
 exact funM_ok rOK (regs41_ok n) (its4_ok n) h Try.func66 rfl rfl rfl rfl (by kernel_rfl)
noncomputable def regs42 (n:Nat):Nat->List (FR R):=addF 66 ⟨ZU_p,ZU_r,ZU n,dflL R ZU_r,false⟩ (regs41 n)
theorem regs42_ok (n:Nat):RegsOK E (regs42 n):=addF_ok (regs41_ok n) (ZU_ok n)
def ZV_a:Ann:=⟨[],[]⟩
abbrev ZV_p:List Sk:=[.d (.int .i64),.d (.int .i64)]
abbrev ZV_r:List Sk:=[.d (.int .i64)]
@[irreducible] noncomputable def ZV (n:Nat) (p:PayL R.T ZV_p):Option (PayL R.T ZV_r):=funM E R n false (regs42 n) (its4 n) ZV_a Try.f51 ZV_p ZV_r p
theorem ZV_ok (n:Nat) (p:PayL R.T ZV_p) (x:PayL R.T ZV_r) (h:ZV n p=some x):Pure E 51 (encSL R ZV_p p) (retV (encSL R ZV_r x)):=by
 unfold ZV at h
 exact funM_ok rOK (regs42_ok n) (its4_ok n) h Try.func51 rfl rfl rfl rfl (by kernel_rfl)
noncomputable def regs43 (n:Nat):Nat->List (FR R):=addF 51 ⟨ZV_p,ZV_r,ZV n,dflL R ZV_r,false⟩ (regs42 n)
theorem regs43_ok (n:Nat):RegsOK E (regs43 n):=addF_ok (regs42_ok n) (ZV_ok n)
def Zo_a:Ann:=⟨[(3,⟨[3,6,7],[],⟨[(8,.d (.int .i64))],[]⟩,[(.exit 0,⟨[],[]⟩),(.ret,⟨[(2,.d (.int .i64))],[]⟩)]⟩)],[]⟩
abbrev Zo_p:List Sk:=[.d (.slice (.int .i64))]
abbrev Zo_r:List Sk:=[.d (.int .i64)]
@[irreducible] noncomputable def Zo (n:Nat) (p:PayL R.T Zo_p):Option (PayL R.T Zo_r):=funM E R n false (regs43 n) (its4 n) Zo_a Try.f50 Zo_p Zo_r p
theorem Zo_ok (n:Nat) (p:PayL R.T Zo_p) (x:PayL R.T Zo_r) (h:Zo n p=some x):Pure E 50 (encSL R Zo_p p) (retV (encSL R Zo_r x)):=by
 unfold Zo at h
 exact funM_ok rOK (regs43_ok n) (its4_ok n) h Try.func50 rfl rfl rfl rfl (by kernel_rfl)
noncomputable def regs44 (n:Nat):Nat->List (FR R):=addF 50 ⟨Zo_p,Zo_r,Zo n,dflL R Zo_r,false⟩ (regs43 n)
theorem regs44_ok (n:Nat):RegsOK E (regs44 n):=addF_ok (regs43_ok n) (Zo_ok n)
def ZW_a:Ann:=⟨[],[]⟩
abbrev ZW_p:List Sk:=[.d (.st 3),.d (.int .i64),.d (.int .i64)]
abbrev ZW_r:List Sk:=[.d (.int .i64)]
@[irreducible] noncomputable def ZW (n:Nat) (p:PayL R.T ZW_p):Option (PayL R.T ZW_r):=funM E R n false (regs44 n) (its4 n) ZW_a Try.f32 ZW_p ZW_r p
theorem ZW_ok (n:Nat) (p:PayL R.T ZW_p) (x:PayL R.T ZW_r) (h:ZW n p=some x):Pure E 32 (encSL R ZW_p p) (retV (encSL R ZW_r x)):=by
 unfold ZW at h
 exact funM_ok rOK (regs44_ok n) (its4_ok n) h Try.func32 rfl rfl rfl rfl (by kernel_rfl)
noncomputable def regs45 (n:Nat):Nat->List (FR R):=addF 32 ⟨ZW_p,ZW_r,ZW n,dflL R ZW_r,false⟩ (regs44 n)
theorem regs45_ok (n:Nat):RegsOK E (regs45 n):=addF_ok (regs44_ok n) (ZW_ok n)
def Zi_a:Ann:=⟨[(5,⟨[0,1],[],⟨[(5,.d (.int .i64)),(6,.d (.int .i64))],[]⟩,[(.exit 0,⟨[(5,.d (.int .i64))],[]⟩)]⟩)],[]⟩
abbrev Zi_p:List Sk:=[.d (.slice (.int .i64)),.fn 32 [.d (.st 3)] []]
abbrev Zi_r:List Sk:=[.d (.int .i64)]
@[irreducible] noncomputable def Zi (n:Nat) (p:PayL R.T Zi_p):Option (PayL R.T Zi_r):=funM E R n false (regs45 n) (its4 n) Zi_a Try.f47 Zi_p Zi_r p
theorem Zi_ok (n:Nat) (p:PayL R.T Zi_p) (x:PayL R.T Zi_r) (h:Zi n p=some x):Pure E 47 (encSL R Zi_p p) (retV (encSL R Zi_r x)):=by
 unfold Zi at h
 exact funM_ok rOK (regs45_ok n) (its4_ok n) h Try.func47 rfl rfl rfl rfl (by kernel_rfl)
noncomputable def regs46 (n:Nat):Nat->List (FR R):=addF 47 ⟨Zi_p,Zi_r,Zi n,dflL R Zi_r,false⟩ (regs45 n)
theorem regs46_ok (n:Nat):RegsOK E (regs46 n):=addF_ok (regs45_ok n) (Zi_ok n)
abbrev Xq_p:List Sk:=[.d (.int .i64),.d (.int .i64),.d (.int .i64)]
abbrev Xq_r:List Sk:=[.d (.int .i64)]
@[irreducible] noncomputable def Xq (n:Nat) (p:PayL R.T Xq_p):Option (PayL R.T Xq_r):=highF (ZQ n) (ZR n) (Zi n) p
theorem Xq_eq (n:Nat) (p:PayL R.T Xq_p):Xq n p=highF (ZQ n) (ZR n) (Zi n) p:=by unfold Xq;rfl
theorem Xq_ok (n:Nat) (p:PayL R.T Xq_p) (x:PayL R.T Xq_r) (h:Xq n p=some x):Pure E 43 (encSL R Xq_p p) (retV (encSL R Xq_r x)):=by
 unfold Xq at h
 exact high_ok (ZQ_ok n) (ZR_ok n) (Zi_ok n) p x h
noncomputable def regs47 (n:Nat):Nat->List (FR R):=addF 43 ⟨Xq_p,Xq_r,Xq n,dflL R Xq_r,false⟩ (regs46 n)
theorem regs47_ok (n:Nat):RegsOK E (regs47 n):=addF_ok (regs46_ok n) (Xq_ok n)
def ZS_a:Ann:=⟨[],[]⟩
abbrev ZS_p:List Sk:=[.d (.int .i64),.d (.int .i64),.d (.int .i64),.d (.int .i64)]
abbrev ZS_r:List Sk:=[.d .bool]
@[irreducible] noncomputable def ZS (n:Nat) (p:PayL R.T ZS_p):Option (PayL R.T ZS_r):=funM E R n false (regs47 n) (its4 n) ZS_a Try.f24 ZS_p ZS_r p
theorem ZS_ok (n:Nat) (p:PayL R.T ZS_p) (x:PayL R.T ZS_r) (h:ZS n p=some x):Pure E 24 (encSL R ZS_p p) (retV (encSL R ZS_r x)):=by
 unfold ZS at h
 exact funM_ok rOK (regs47_ok n) (its4_ok n) h Try.func24 rfl rfl rfl rfl (by kernel_rfl)
noncomputable def regs48 (n:Nat):Nat->List (FR R):=addF 24 ⟨ZS_p,ZS_r,ZS n,dflL R ZS_r,false⟩ (regs47 n)
theorem regs48_ok (n:Nat):RegsOK E (regs48 n):=addF_ok (regs47_ok n) (ZS_ok n)
def ZX_a:Ann:=⟨[],[]⟩
abbrev ZX_p:List Sk:=[.d (.int .i64),.cref [.d (.int .i64),.d (.slice (.slice (.int .i64))),.d (.slice (.st 0)),.d (.slice (.int .i64))] 0,.cref [.d (.int .i64)] 0]
abbrev ZX_r:List Sk:=[.d .bool]
@[irreducible] noncomputable def ZX (n:Nat) (p:PayL R.T ZX_p):Option (PayL R.T ZX_r):=funM E R n false (regs48 n) (its4 n) ZX_a Try.f28 ZX_p ZX_r p
theorem ZX_ok (n:Nat) (p:PayL R.T ZX_p) (x:PayL R.T ZX_r) (h:ZX n p=some x):Pure E 28 (encSL R ZX_p p) (retV (encSL R ZX_r x)):=by
 unfold ZX at h
 exact funM_ok rOK (regs48_ok n) (its4_ok n) h Try.func28 rfl rfl rfl rfl (by kernel_rfl)
noncomputable def regs49 (n:Nat):Nat->List (FR R):=addF 28 ⟨ZX_p,ZX_r,ZX n,dflL R ZX_r,false⟩ (regs48 n)
theorem regs49_ok (n:Nat):RegsOK E (regs49 n):=addF_ok (regs48_ok n) (ZX_ok n)
def Zp_a:Ann:=⟨[(2,⟨[0,1,7],[],⟨[(8,.d (.int .i64))],[]⟩,[(.exit 0,⟨[],[]⟩),(.ret,⟨[(4,.d (.int .i64))],[]⟩)]⟩)],[]⟩
abbrev Zp_p:List Sk:=[.d (.slice (.int .i64)),.fn 28 [] [.cref [.d (.int .i64),.d (.slice (.slice (.int .i64))),.d (.slice (.st 0)),.d (.slice (.int .i64))] 0,.cref [.d (.int .i64)] 0]]
abbrev Zp_r:List Sk:=[.d (.int .i64)]
@[irreducible] noncomputable def Zp (n:Nat) (p:PayL R.T Zp_p):Option (PayL R.T Zp_r):=funM E R n false (regs49 n) (its4 n) Zp_a Try.f48 Zp_p Zp_r p
theorem Zp_ok (n:Nat) (p:PayL R.T Zp_p) (x:PayL R.T Zp_r) (h:Zp n p=some x):Pure E 48 (encSL R Zp_p p) (retV (encSL R Zp_r x)):=by
 unfold Zp at h
 exact funM_ok rOK (regs49_ok n) (its4_ok n) h Try.func48 rfl rfl rfl rfl (by kernel_rfl)
noncomputable def regs50 (n:Nat):Nat->List (FR R):=addF 48 ⟨Zp_p,Zp_r,Zp n,dflL R Zp_r,false⟩ (regs49 n)
theorem regs50_ok (n:Nat):RegsOK E (regs50 n):=addF_ok (regs49_ok n) (Zp_ok n)
def Za_a:Ann:=⟨[(5,⟨[0,1],[1000001,1000002],⟨[(5,.d (.int .i64)),(6,.d (.int .i64))],[(1000000,.arr (.int .i64))]⟩,[(.exit 0,⟨[(5,.d (.int .i64))],[(1000000,.arr (.int .i64))]⟩)]⟩)],[]⟩
abbrev Za_p:List Sk:=[.vw 1000000 (.int .i64),.fn 28 [] [.ref 1000001 0,.ref 1000002 0]]
abbrev Za_r:List Sk:=[.sub 1000000 (.int .i64)]
abbrev Za_o:List (Nat×ObSk):=[(1000000,.arr (.int .i64)),(1000001,.st 3),(1000002,.cells [.d (.int .i64)])]
@[irreducible] noncomputable def Za (n:Nat) (p:PayL R.T Za_p) (q:PayOs R.T Za_o):Option (PayL R.T Za_r×PayOs R.T Za_o):=funI E R n false (regs50 n) (its4 n) Za_a Try.f29 Za_p Za_o Za_r p q
theorem Za_ok (n:Nat):FMOK1 E 29 Za_p Za_o Za_r (Za n):=by
 intro p q y q' h
 have h:Za n p q=some (y,q'):=h
 unfold Za at h
 exact funI_ok rOK (regs50_ok n) (its4_ok n) h Try.func29 rfl (by kernel_rfl)
noncomputable def its5 (n:Nat):IR R:=addM 29 (mkM Za_p Za_o Za_r (Za n)) (its4 n)
theorem its5_ok (n:Nat):ItersOK E (its5 n):=addM_ok (m:=mkM Za_p Za_o Za_r (Za n)) (its4_ok n) (FMOK.M (Za_ok n))
def Zf_a:Ann:=⟨[(7,⟨[6,8,11,12,13,14,15,16,18],[6,8],⟨[],[(11,.cells [.d (.int .i64)]),(12,.cells [.sub 65 (.int .i64)]),(13,.cells [.d (.int .i64)]),(14,.cells [.d .bool]),(15,.cells [.d (.int .i64)]),(16,.st 3),(18,.cells [.d (.int .i64)]),(65,.arr (.int .i64))]⟩,[(.normal,⟨[],[(11,.cells [.d (.int .i64)]),(12,.cells [.sub 65 (.int .i64)]),(13,.cells [.d (.int .i64)]),(14,.cells [.d .bool]),(15,.cells [.d (.int .i64)]),(16,.st 3),(18,.cells [.d (.int .i64)]),(65,.arr (.int .i64))]⟩),(.ret,⟨[],[(11,.cells [.d (.int .i64)]),(12,.cells [.sub 65 (.int .i64)]),(13,.cells [.d (.int .i64)]),(14,.cells [.d .bool]),(15,.cells [.d (.int .i64)]),(16,.st 3),(18,.cells [.d (.int .i64)]),(65,.arr (.int .i64))]⟩)]⟩)],[]⟩
abbrev Zf_p:List Sk:=[.d (.int .i64),.d (.slice (.slice (.int .i64))),.d (.st 1),.d (.slice (.int .i64)),.d (.int .i64),.d (.int .i64)]
abbrev Zf_r:List Sk:=[.d (.slice (.int .i64)),.d (.int .i64),.d .bool,.d (.int .i64)]
@[irreducible] noncomputable def Zf (n:Nat) (p:PayL R.T Zf_p):Option (PayL R.T Zf_r):=funM E R n false (regs50 n) (its5 n) Zf_a Try.f12 Zf_p Zf_r p
theorem Zf_ok (n:Nat) (p:PayL R.T Zf_p) (x:PayL R.T Zf_r) (h:Zf n p=some x):Pure E 12 (encSL R Zf_p p) (retV (encSL R Zf_r x)):=by
 unfold Zf at h
 exact funM_ok rOK (regs50_ok n) (its5_ok n) h Try.func12 rfl rfl rfl rfl (by kernel_rfl)
noncomputable def regs51 (n:Nat):Nat->List (FR R):=addF 12 ⟨Zf_p,Zf_r,Zf n,dflL R Zf_r,false⟩ (regs50 n)
theorem regs51_ok (n:Nat):RegsOK E (regs51 n):=addF_ok (regs50_ok n) (Zf_ok n)
def Zg_a:Ann:=⟨[(1,⟨[0,1,2,3],[],⟨[(8,.d (.int .i64))],[(1000000,.arr (.int .i64))]⟩,[(.exit 0,⟨[],[(1000000,.arr (.int .i64))]⟩)]⟩),
 (4,⟨[0,1,2,3,8],[],⟨[(9,.d (.int .i64))],[(1000000,.arr (.int .i64))]⟩,[(.exit 2,⟨[],[(1000000,.arr (.int .i64))]⟩)]⟩)],[]⟩
abbrev Zg_p:List Sk:=[.vw 1000000 (.int .i64),.d (.int .i64),.d (.int .i64),.fn 32 [.d (.st 3)] []]
abbrev Zg_r:List Sk:=[]
abbrev Zg_o:List (Nat×ObSk):=[(1000000,.arr (.int .i64))]
@[irreducible] noncomputable def Zg (n:Nat) (p:PayL R.T Zg_p) (q:PayOs R.T Zg_o):Option (PayL R.T Zg_r×PayOs R.T Zg_o):=funI E R n false (regs51 n) (its5 n) Zg_a Try.f74 Zg_p Zg_o Zg_r p q
theorem Zg_ok (n:Nat):FMOK1 E 74 Zg_p Zg_o Zg_r (Zg n):=by
 intro p q y q' h
 have h:Zg n p q=some (y,q'):=h
 unfold Zg at h
 exact funI_ok rOK (regs51_ok n) (its5_ok n) h Try.func74 rfl (by kernel_rfl)
noncomputable def its6 (n:Nat):IR R:=addM 74 (mkM Zg_p Zg_o Zg_r (Zg n)) (its5 n)
theorem its6_ok (n:Nat):ItersOK E (its6 n):=addM_ok (m:=mkM Zg_p Zg_o Zg_r (Zg n)) (its5_ok n) (FMOK.M (Zg_ok n))
def ZC_a:Ann:=⟨[(1,⟨[0,2,3,4],[],⟨[(10,.d (.int .i64))],[(1000000,.arr (.int .i64))]⟩,[(.exit 0,⟨[],[(1000000,.arr (.int .i64))]⟩),(.ret,⟨[],[(1000000,.arr (.int .i64))]⟩)]⟩)],[(5,⟨[0,2,3,4,10],[1000000],⟨[],[]⟩,[(.normal,⟨[(11,.d (.int .i64))],[]⟩)]⟩)]⟩
abbrev ZC_p:List Sk:=[.vw 1000000 (.int .i64),.d (.int .i64),.d (.int .i64),.d (.int .i64),.fn 32 [.d (.st 3)] []]
abbrev ZC_r:List Sk:=[]
abbrev ZC_o:List (Nat×ObSk):=[(1000000,.arr (.int .i64))]
@[irreducible] noncomputable def ZC (n:Nat) (p:PayL R.T ZC_p) (q:PayOs R.T ZC_o):Option (PayL R.T ZC_r×PayOs R.T ZC_o):=funI E R n false (regs51 n) (its6 n) ZC_a Try.f98 ZC_p ZC_o ZC_r p q
theorem ZC_ok (n:Nat):FMOK1 E 98 ZC_p ZC_o ZC_r (ZC n):=by
 intro p q y q' h
 have h:ZC n p q=some (y,q'):=h
 unfold ZC at h
 exact funI_ok rOK (regs51_ok n) (its6_ok n) h Try.func98 rfl (by kernel_rfl)
noncomputable def its7 (n:Nat):IR R:=addM 98 (mkM ZC_p ZC_o ZC_r (ZC n)) (its6 n)
theorem its7_ok (n:Nat):ItersOK E (its7 n):=addM_ok (m:=mkM ZC_p ZC_o ZC_r (ZC n)) (its6_ok n) (FMOK.M (ZC_ok n))
def Zj_a:Ann:=⟨[(4,⟨[0,3,8,9,10],[],⟨[(11,.d (.int .i64))],[(1000000,.arr (.int .i64))]⟩,[(.exit 0,⟨[],[(1000000,.arr (.int .i64))]⟩)]⟩),
 (8,⟨[0,3,8,9],[],⟨[(12,.d (.int .i64))],[(1000000,.arr (.int .i64))]⟩,[(.exit 2,⟨[],[(1000000,.arr (.int .i64))]⟩)]⟩)],[]⟩
abbrev Zj_p:List Sk:=[.vw 1000000 (.int .i64),.d (.int .i64),.d (.int .i64),.fn 32 [.d (.st 3)] []]
abbrev Zj_r:List Sk:=[]
abbrev Zj_o:List (Nat×ObSk):=[(1000000,.arr (.int .i64))]
@[irreducible] noncomputable def Zj (n:Nat) (p:PayL R.T Zj_p) (q:PayOs R.T Zj_o):Option (PayL R.T Zj_r×PayOs R.T Zj_o):=funI E R n false (regs51 n) (its7 n) Zj_a Try.f75 Zj_p Zj_o Zj_r p q
theorem Zj_ok (n:Nat):FMOK1 E 75 Zj_p Zj_o Zj_r (Zj n):=by
 intro p q y q' h
 have h:Zj n p q=some (y,q'):=h
 unfold Zj at h
 exact funI_ok rOK (regs51_ok n) (its7_ok n) h Try.func75 rfl (by kernel_rfl)
noncomputable def its8 (n:Nat):IR R:=addM 75 (mkM Zj_p Zj_o Zj_r (Zj n)) (its7 n)
theorem its8_ok (n:Nat):ItersOK E (its8 n):=addM_ok (m:=mkM Zj_p Zj_o Zj_r (Zj n)) (its7_ok n) (FMOK.M (Zj_ok n))
def Xa_a:Ann:=⟨[],[]⟩
abbrev Xa_p:List Sk:=[.d (.int .i64)]
abbrev Xa_r:List Sk:=[.d (.int .u64)]
@[irreducible] noncomputable def Xa (n:Nat) (p:PayL R.T Xa_p):Option (PayL R.T Xa_r):=funM E R n false (regs51 n) (its8 n) Xa_a Try.f99 Xa_p Xa_r p
theorem Xa_ok (n:Nat) (p:PayL R.T Xa_p) (x:PayL R.T Xa_r) (h:Xa n p=some x):Pure E 99 (encSL R Xa_p p) (retV (encSL R Xa_r x)):=by
 unfold Xa at h
 exact funM_ok rOK (regs51_ok n) (its8_ok n) h Try.func99 rfl rfl rfl rfl (by kernel_rfl)
noncomputable def regs52 (n:Nat):Nat->List (FR R):=addF 99 ⟨Xa_p,Xa_r,Xa n,dflL R Xa_r,false⟩ (regs51 n)
theorem regs52_ok (n:Nat):RegsOK E (regs52 n):=addF_ok (regs51_ok n) (Xa_ok n)
def ZE_a:Ann:=⟨[],[]⟩
abbrev ZE_p:List Sk:=[.ref 1000000 0]
abbrev ZE_r:List Sk:=[.d (.int .u64)]
abbrev ZE_o:List (Nat×ObSk):=[(1000000,.cells [.d (.int .u64)])]
@[irreducible] noncomputable def ZE (n:Nat) (p:PayL R.T ZE_p) (q:PayOs R.T ZE_o):Option (PayL R.T ZE_r×PayOs R.T ZE_o):=funI E R n false (regs52 n) (its8 n) ZE_a Try.f100 ZE_p ZE_o ZE_r p q
theorem ZE_ok (n:Nat):FMOK1 E 100 ZE_p ZE_o ZE_r (ZE n):=by
 intro p q y q' h
 have h:ZE n p q=some (y,q'):=h
 unfold ZE at h
 exact funI_ok rOK (regs52_ok n) (its8_ok n) h Try.func100 rfl (by kernel_rfl)
noncomputable def its9 (n:Nat):IR R:=addM 100 (mkM ZE_p ZE_o ZE_r (ZE n)) (its8 n)
theorem its9_ok (n:Nat):ItersOK E (its9 n):=addM_ok (m:=mkM ZE_p ZE_o ZE_r (ZE n)) (its8_ok n) (FMOK.M (ZE_ok n))
def Zy_a:Ann:=⟨[(5,⟨[0,1,8,9,10],[],⟨[(11,.d (.int .i64))],[(9,.cells [.d (.int .u64)]),(1000000,.arr (.int .i64))]⟩,[(.exit 0,⟨[],[(1000000,.arr (.int .i64))]⟩)]⟩)],[(10,⟨[0,1,8,9,10,11],[9,1000000],⟨[],[]⟩,[(.normal,⟨[(12,.d (.int .i64))],[]⟩)]⟩)]⟩
abbrev Zy_p:List Sk:=[.vw 1000000 (.int .i64),.d (.int .i64),.d (.int .i64),.fn 32 [.d (.st 3)] []]
abbrev Zy_r:List Sk:=[]
abbrev Zy_o:List (Nat×ObSk):=[(1000000,.arr (.int .i64))]
@[irreducible] noncomputable def Zy (n:Nat) (p:PayL R.T Zy_p) (q:PayOs R.T Zy_o):Option (PayL R.T Zy_r×PayOs R.T Zy_o):=funI E R n false (regs52 n) (its9 n) Zy_a Try.f76 Zy_p Zy_o Zy_r p q
theorem Zy_ok (n:Nat):FMOK1 E 76 Zy_p Zy_o Zy_r (Zy n):=by
 intro p q y q' h
 have h:Zy n p q=some (y,q'):=h
 unfold Zy at h
 exact funI_ok rOK (regs52_ok n) (its9_ok n) h Try.func76 rfl (by kernel_rfl)
noncomputable def its10 (n:Nat):IR R:=addM 76 (mkM Zy_p Zy_o Zy_r (Zy n)) (its9 n)
theorem its10_ok (n:Nat):ItersOK E (its10 n):=addM_ok (m:=mkM Zy_p Zy_o Zy_r (Zy n)) (its9_ok n) (FMOK.M (Zy_ok n))
def ZK_a:Ann:=⟨[],[]⟩
abbrev ZK_p:List Sk:=[.d (.slice (.int .i64)),.d (.int .i64),.d (.int .i64),.ref 1000000 0,.fn 32 [.d (.st 3)] []]
abbrev ZK_r:List Sk:=[.d (.int .i64),.d (.int .i64)]
abbrev ZK_o:List (Nat×ObSk):=[(1000000,.cells [.d (.int .i64)])]
@[irreducible] noncomputable def ZK (n:Nat) (p:PayL R.T ZK_p) (q:PayOs R.T ZK_o):Option (PayL R.T ZK_r×PayOs R.T ZK_o):=funI E R n false (regs52 n) (its10 n) ZK_a Try.f106 ZK_p ZK_o ZK_r p q
theorem ZK_ok (n:Nat):FMOK1 E 106 ZK_p ZK_o ZK_r (ZK n):=by
 intro p q y q' h
 have h:ZK n p q=some (y,q'):=h
 unfold ZK at h
 exact funI_ok rOK (regs52_ok n) (its10_ok n) h Try.func106 rfl (by kernel_rfl)
noncomputable def its11 (n:Nat):IR R:=addM 106 (mkM ZK_p ZK_o ZK_r (ZK n)) (its10 n)
theorem its11_ok (n:Nat):ItersOK E (its11 n):=addM_ok (m:=mkM ZK_p ZK_o ZK_r (ZK n)) (its10_ok n) (FMOK.M (ZK_ok n))
def ZL_a:Ann:=⟨[],[]⟩
abbrev ZL_p:List Sk:=[.d (.slice (.int .i64)),.d (.int .i64),.d (.int .i64),.d (.int .i64),.ref 1000000 0,.fn 32 [.d (.st 3)] []]
abbrev ZL_r:List Sk:=[.d (.int .i64)]
abbrev ZL_o:List (Nat×ObSk):=[(1000000,.cells [.d (.int .i64)])]
@[irreducible] noncomputable def ZL (n:Nat) (p:PayL R.T ZL_p) (q:PayOs R.T ZL_o):Option (PayL R.T ZL_r×PayOs R.T ZL_o):=funI E R n false (regs52 n) (its11 n) ZL_a Try.f102 ZL_p ZL_o ZL_r p q
theorem ZL_ok (n:Nat):FMOK1 E 102 ZL_p ZL_o ZL_r (ZL n):=by
 intro p q y q' h
 have h:ZL n p q=some (y,q'):=h
 unfold ZL at h
 exact funI_ok rOK (regs52_ok n) (its11_ok n) h Try.func102 rfl (by kernel_rfl)
noncomputable def its12 (n:Nat):IR R:=addM 102 (mkM ZL_p ZL_o ZL_r (ZL n)) (its11 n)
theorem its12_ok (n:Nat):ItersOK E (its12 n):=addM_ok (m:=mkM ZL_p ZL_o ZL_r (ZL n)) (its11_ok n) (FMOK.M (ZL_ok n))
def ZM_a:Ann:=⟨[],[]⟩
abbrev ZM_p:List Sk:=[.d (.slice (.int .i64)),.d (.int .i64),.ref 1000000 0,.fn 32 [.d (.st 3)] []]
abbrev ZM_r:List Sk:=[.d (.int .i64)]
abbrev ZM_o:List (Nat×ObSk):=[(1000000,.cells [.d (.int .i64)])]
@[irreducible] noncomputable def ZM (n:Nat) (p:PayL R.T ZM_p) (q:PayOs R.T ZM_o):Option (PayL R.T ZM_r×PayOs R.T ZM_o):=funI E R n false (regs52 n) (its12 n) ZM_a Try.f101 ZM_p ZM_o ZM_r p q
theorem ZM_ok (n:Nat):FMOK1 E 101 ZM_p ZM_o ZM_r (ZM n):=by
 intro p q y q' h
 have h:ZM n p q=some (y,q'):=h
 unfold ZM at h
 exact funI_ok rOK (regs52_ok n) (its12_ok n) h Try.func101 rfl (by kernel_rfl)
noncomputable def its13 (n:Nat):IR R:=addM 101 (mkM ZM_p ZM_o ZM_r (ZM n)) (its12 n)
theorem its13_ok (n:Nat):ItersOK E (its13 n):=addM_ok (m:=mkM ZM_p ZM_o ZM_r (ZM n)) (its12_ok n) (FMOK.M (ZM_ok n))
def Xs_a:Ann:=⟨[],[]⟩
abbrev Xs_p:List Sk:=[.d (.slice (.int .i64)),.d (.int .i64),.d (.int .i64),.fn 32 [.d (.st 3)] []]
abbrev Xs_r:List Sk:=[.d (.int .i64),.d (.int .i64)]
@[irreducible] noncomputable def Xs (n:Nat) (p:PayL R.T Xs_p):Option (PayL R.T Xs_r):=funM E R n false (regs52 n) (its13 n) Xs_a Try.f77 Xs_p Xs_r p
theorem Xs_ok (n:Nat) (p:PayL R.T Xs_p) (x:PayL R.T Xs_r) (h:Xs n p=some x):Pure E 77 (encSL R Xs_p p) (retV (encSL R Xs_r x)):=by
 unfold Xs at h
 exact funM_ok rOK (regs52_ok n) (its13_ok n) h Try.func77 rfl rfl rfl rfl (by kernel_rfl)
noncomputable def regs53 (n:Nat):Nat->List (FR R):=addF 77 ⟨Xs_p,Xs_r,Xs n,dflL R Xs_r,false⟩ (regs52 n)
theorem regs53_ok (n:Nat):RegsOK E (regs53 n):=addF_ok (regs52_ok n) (Xs_ok n)
def Zn_a:Ann:=⟨[(2,⟨[0],[],⟨[(8,.d (.int .i64)),(9,.d (.int .i64))],[(1000000,.arr (.int .i64))]⟩,[(.exit 0,⟨[],[(1000000,.arr (.int .i64))]⟩)]⟩)],[]⟩
abbrev Zn_p:List Sk:=[.vw 1000000 (.int .i64),.d (.int .i64),.d (.int .i64),.fn 32 [.d (.st 3)] []]
abbrev Zn_r:List Sk:=[]
abbrev Zn_o:List (Nat×ObSk):=[(1000000,.arr (.int .i64))]
@[irreducible] noncomputable def Zn (n:Nat) (p:PayL R.T Zn_p) (q:PayOs R.T Zn_o):Option (PayL R.T Zn_r×PayOs R.T Zn_o):=funI E R n false (regs53 n) (its13 n) Zn_a Try.f78 Zn_p Zn_o Zn_r p q
theorem Zn_ok (n:Nat):FMOK1 E 78 Zn_p Zn_o Zn_r (Zn n):=by
 intro p q y q' h
 have h:Zn n p q=some (y,q'):=h
 unfold Zn at h
 exact funI_ok rOK (regs53_ok n) (its13_ok n) h Try.func78 rfl (by kernel_rfl)
noncomputable def its14 (n:Nat):IR R:=addM 78 (mkM Zn_p Zn_o Zn_r (Zn n)) (its13 n)
theorem its14_ok (n:Nat):ItersOK E (its14 n):=addM_ok (m:=mkM Zn_p Zn_o Zn_r (Zn n)) (its13_ok n) (FMOK.M (Zn_ok n))
def QR_a:Ann:=⟨[(3,⟨[0,1,2,3],[],⟨[(9,.d (.int .i64)),(10,.d (.int .i64))],[(1000000,.arr (.int .i64))]⟩,[(.exit 0,⟨[],[(1000000,.arr (.int .i64))]⟩),(.ret,⟨[(8,.d .bool)],[(1000000,.arr (.int .i64))]⟩)]⟩),
 (5,⟨[0,1,2,3,10],[1000000],⟨[(9,.d (.int .i64))],[]⟩,[(.exit 2,⟨[(9,.d (.int .i64))],[]⟩)]⟩),
 (14,⟨[0,1,2,3,9,10],[],⟨[(11,.d (.int .i64))],[(1000000,.arr (.int .i64))]⟩,[(.exit 4,⟨[],[(1000000,.arr (.int .i64))]⟩)]⟩),
 (20,⟨[0,1,2,3,9,10],[],⟨[(12,.d (.int .i64))],[(1000000,.arr (.int .i64))]⟩,[(.exit 6,⟨[],[(1000000,.arr (.int .i64))]⟩)]⟩)],[(18,⟨[0,1,2,3,9,10],[],⟨[],[]⟩,[(.normal,⟨[],[(1000000,.arr (.int .i64))]⟩)]⟩)]⟩
abbrev QR_p:List Sk:=[.vw 1000000 (.int .i64),.d (.int .i64),.d (.int .i64),.fn 32 [.d (.st 3)] []]
abbrev QR_r:List Sk:=[.d .bool]
abbrev QR_o:List (Nat×ObSk):=[(1000000,.arr (.int .i64))]
@[irreducible] noncomputable def QR (n:Nat) (p:PayL R.T QR_p) (q:PayOs R.T QR_o):Option (PayL R.T QR_r×PayOs R.T QR_o):=funI E R n false (regs53 n) (its14 n) QR_a Try.f79 QR_p QR_o QR_r p q
theorem QR_ok (n:Nat):FMOK1 E 79 QR_p QR_o QR_r (QR n):=by
 intro p q y q' h
 have h:QR n p q=some (y,q'):=h
 unfold QR at h
 exact funI_ok rOK (regs53_ok n) (its14_ok n) h Try.func79 rfl (by kernel_rfl)
noncomputable def its15 (n:Nat):IR R:=addM 79 (mkM QR_p QR_o QR_r (QR n)) (its14 n)
theorem its15_ok (n:Nat):ItersOK E (its15 n):=addM_ok (m:=mkM QR_p QR_o QR_r (QR n)) (its14_ok n) (FMOK.M (QR_ok n))
def Zd_a:Ann:=⟨[(503,⟨[0,1,4],[],⟨[(11,.d (.int .i64)),(12,.d (.int .i64))],[(1000000,.arr (.int .i64))]⟩,[(.exit 0,⟨[(11,.d (.int .i64))],[(1000000,.arr (.int .i64))]⟩)]⟩),
 (3,⟨[0,1,4,12],[1000000],⟨[(11,.d (.int .i64))],[]⟩,[(.exit 2,⟨[(11,.d (.int .i64))],[]⟩)]⟩),
 (5,⟨[0,1,4,11],[1000000],⟨[(12,.d (.int .i64))],[]⟩,[(.exit 4,⟨[(12,.d (.int .i64))],[]⟩)]⟩)],[]⟩
abbrev Zd_p:List Sk:=[.vw 1000000 (.int .i64),.d (.int .i64),.d (.int .i64),.d (.int .i64),.fn 32 [.d (.st 3)] []]
abbrev Zd_r:List Sk:=[.d (.int .i64)]
abbrev Zd_o:List (Nat×ObSk):=[(1000000,.arr (.int .i64))]
@[irreducible] noncomputable def Zd (n:Nat) (p:PayL R.T Zd_p) (q:PayOs R.T Zd_o):Option (PayL R.T Zd_r×PayOs R.T Zd_o):=funI E R n false (regs53 n) (its15 n) Zd_a Try.f80 Zd_p Zd_o Zd_r p q
theorem Zd_ok (n:Nat):FMOK1 E 80 Zd_p Zd_o Zd_r (Zd n):=by
 intro p q y q' h
 have h:Zd n p q=some (y,q'):=h
 unfold Zd at h
 exact funI_ok rOK (regs53_ok n) (its15_ok n) h Try.func80 rfl (by kernel_rfl)
noncomputable def its16 (n:Nat):IR R:=addM 80 (mkM Zd_p Zd_o Zd_r (Zd n)) (its15 n)
theorem its16_ok (n:Nat):ItersOK E (its16 n):=addM_ok (m:=mkM Zd_p Zd_o Zd_r (Zd n)) (its15_ok n) (FMOK.M (Zd_ok n))
def QQ_a:Ann:=⟨[(3,⟨[0,1,4,13],[1000000],⟨[(12,.d (.int .i64))],[]⟩,[(.exit 0,⟨[(12,.d (.int .i64))],[]⟩)]⟩),
 (5,⟨[0,1,4,12],[1000000],⟨[(13,.d (.int .i64))],[]⟩,[(.exit 2,⟨[(13,.d (.int .i64))],[]⟩)]⟩),
 (513,⟨[0,1,4],[],⟨[(12,.d (.int .i64)),(13,.d (.int .i64))],[(1000000,.arr (.int .i64))]⟩,[(.exit 4,⟨[(13,.d (.int .i64))],[(1000000,.arr (.int .i64))]⟩)]⟩),
 (13,⟨[0,1,4,13],[1000000],⟨[(12,.d (.int .i64))],[]⟩,[(.exit 6,⟨[(12,.d (.int .i64))],[]⟩)]⟩),
 (15,⟨[0,1,4,12],[1000000],⟨[(13,.d (.int .i64))],[]⟩,[(.exit 8,⟨[(13,.d (.int .i64))],[]⟩)]⟩)],[]⟩
abbrev QQ_p:List Sk:=[.vw 1000000 (.int .i64),.d (.int .i64),.d (.int .i64),.d (.int .i64),.fn 32 [.d (.st 3)] []]
abbrev QQ_r:List Sk:=[.d (.int .i64),.d .bool]
abbrev QQ_o:List (Nat×ObSk):=[(1000000,.arr (.int .i64))]
@[irreducible] noncomputable def QQ (n:Nat) (p:PayL R.T QQ_p) (q:PayOs R.T QQ_o):Option (PayL R.T QQ_r×PayOs R.T QQ_o):=funI E R n false (regs53 n) (its16 n) QQ_a Try.f81 QQ_p QQ_o QQ_r p q
theorem QQ_ok (n:Nat):FMOK1 E 81 QQ_p QQ_o QQ_r (QQ n):=by
 intro p q y q' h
 have h:QQ n p q=some (y,q'):=h
 unfold QQ at h
 exact funI_ok rOK (regs53_ok n) (its16_ok n) h Try.func81 rfl (by kernel_rfl)
noncomputable def its17 (n:Nat):IR R:=addM 81 (mkM QQ_p QQ_o QQ_r (QQ n)) (its16 n)
theorem its17_ok (n:Nat):ItersOK E (its17 n):=addM_ok (m:=mkM QQ_p QQ_o QQ_r (QQ n)) (its16_ok n) (FMOK.M (QQ_ok n))
def QP_a:Ann:=⟨[(2,⟨[0,4],[],⟨[(1,.d (.int .i64)),(2,.d (.int .i64)),(3,.d (.int .i64)),(10,.d .bool),(11,.d .bool)],[(1000000,.arr (.int .i64))]⟩,[(.ret,⟨[],[(1000000,.arr (.int .i64))]⟩)]⟩)],[(10,⟨[0,1,2,4,10,11,12],[],⟨[],[]⟩,[(.normal,⟨[(3,.d (.int .i64))],[(1000000,.arr (.int .i64))]⟩)]⟩),(15,⟨[0,1,2,3,4,10,11,12],[],⟨[],[]⟩,[(.normal,⟨[(13,.d (.int .i64)),(14,.d (.int .i64))],[(1000000,.arr (.int .i64))]⟩)]⟩),(17,⟨[0,1,2,3,4,10,11,12,13],[],⟨[],[]⟩,[(.normal,⟨[],[(1000000,.arr (.int .i64))]⟩),(.ret,⟨[],[(1000000,.arr (.int .i64))]⟩)]⟩)]⟩
abbrev QP_p:List Sk:=[.vw 1000000 (.int .i64),.d (.int .i64),.d (.int .i64),.d (.int .i64),.fn 32 [.d (.st 3)] []]
abbrev QP_r:List Sk:=[]
abbrev QP_o:List (Nat×ObSk):=[(1000000,.arr (.int .i64))]
noncomputable def QP_m (n:Nat):Nat->PayL R.T QP_p->PayOs R.T QP_o->Option (PayL R.T QP_r×PayOs R.T QP_o)
 |0,_,_=>none
 |m+1,p,q=>funI E R n false (regs53 n) (addM 64 (mkM QP_p QP_o QP_r (QP_m n m)) (its17 n)) QP_a Try.f64 QP_p QP_o QP_r p q
attribute [irreducible] QP_m
theorem QP_e (n m:Nat) (p:PayL R.T QP_p) (q:PayOs R.T QP_o):QP_m n (m+1) p q=funI E R n false (regs53 n) (addM 64 (mkM QP_p QP_o QP_r (QP_m n m)) (its17 n)) QP_a Try.f64 QP_p QP_o QP_r p q:=by kernel_rfl
theorem QP_e0 (n:Nat) (p:PayL R.T QP_p) (q:PayOs R.T QP_o):QP_m n 0 p q=none:=by kernel_rfl
theorem slices_pdqsortCmpFunc_int_mok (n:Nat):∀m,FMOK1 E 64 QP_p QP_o QP_r (QP_m n m)
 |0=>fun p q y q' h=>absurd (((QP_e0 n p q).symm.trans h)) nofun
 |m+1=>fun p q y q' h=>funI_ok rOK (regs53_ok n) (addM_ok (m:=(mkM QP_p QP_o QP_r (QP_m n m))) (its17_ok n) (FMOK.M (slices_pdqsortCmpFunc_int_mok n m))) ((QP_e n m p q).symm.trans h) Try.func64 rfl (by kernel_rfl)
@[irreducible] noncomputable def QP (n:Nat):PayL R.T QP_p->PayOs R.T QP_o->Option (PayL R.T QP_r×PayOs R.T QP_o):=QP_m n n
theorem QP_ok (n:Nat):FMOK1 E 64 QP_p QP_o QP_r (QP n):=by
 unfold QP
 exact slices_pdqsortCmpFunc_int_mok n n
noncomputable def its18 (n:Nat):IR R:=addM 64 (mkM QP_p QP_o QP_r (QP n)) (its17 n)
theorem its18_ok (n:Nat):ItersOK E (its18 n):=addM_ok (m:=mkM QP_p QP_o QP_r (QP n)) (its17_ok n) (FMOK.M (QP_ok n))
def ZF_a:Ann:=⟨[],[]⟩
abbrev ZF_p:List Sk:=[.vw 1000000 (.int .i64),.fn 32 [.d (.st 3)] []]
abbrev ZF_r:List Sk:=[]
abbrev ZF_o:List (Nat×ObSk):=[(1000000,.arr (.int .i64))]
@[irreducible] noncomputable def ZF (n:Nat) (p:PayL R.T ZF_p) (q:PayOs R.T ZF_o):Option (PayL R.T ZF_r×PayOs R.T ZF_o):=funI E R n false (regs53 n) (its18 n) ZF_a Try.f49 ZF_p ZF_o ZF_r p q
theorem ZF_ok (n:Nat):FMOK1 E 49 ZF_p ZF_o ZF_r (ZF n):=by
 intro p q y q' h
 have h:ZF n p q=some (y,q'):=h
 unfold ZF at h
 exact funI_ok rOK (regs53_ok n) (its18_ok n) h Try.func49 rfl (by kernel_rfl)
noncomputable def its19 (n:Nat):IR R:=addM 49 (mkM ZF_p ZF_o ZF_r (ZF n)) (its18 n)
theorem its19_ok (n:Nat):ItersOK E (its19 n):=addM_ok (m:=mkM ZF_p ZF_o ZF_r (ZF n)) (its18_ok n) (FMOK.M (ZF_ok n))
def Xb_a:Ann:=⟨[],[]⟩
abbrev Xb_p:List Sk:=[.d (.slice (.int .i64)),.fn 32 [.d (.st 3)] []]
abbrev Xb_r:List Sk:=[.d (.slice (.int .i64))]
@[irreducible] noncomputable def Xb (n:Nat) (p:PayL R.T Xb_p):Option (PayL R.T Xb_r):=funM E R n false (regs53 n) (its19 n) Xb_a Try.f31 Xb_p Xb_r p
theorem Xb_ok (n:Nat) (p:PayL R.T Xb_p) (x:PayL R.T Xb_r) (h:Xb n p=some x):Pure E 31 (encSL R Xb_p p) (retV (encSL R Xb_r x)):=by
 unfold Xb at h
 exact funM_ok rOK (regs53_ok n) (its19_ok n) h Try.func31 rfl rfl rfl rfl (by kernel_rfl)
noncomputable def regs54 (n:Nat):Nat->List (FR R):=addF 31 ⟨Xb_p,Xb_r,Xb n,dflL R Xb_r,false⟩ (regs53 n)
theorem regs54_ok (n:Nat):RegsOK E (regs54 n):=addF_ok (regs53_ok n) (Xb_ok n)
def Zm_a:Ann:=⟨[(7,⟨[0,1,5,8,16,18],[8,16],⟨[],[(18,.cells [.d (.int .i64)])]⟩,[(.normal,⟨[],[(18,.cells [.d (.int .i64)])]⟩)]⟩)],[]⟩
abbrev Zm_p:List Sk:=[.d (.int .i64),.d (.slice (.slice (.int .i64))),.d (.st 1),.d (.slice (.int .i64)),.d (.int .i64),.d (.int .i64)]
abbrev Zm_r:List Sk:=[.d (.slice (.int .i64)),.d (.int .i64),.d .bool,.d (.int .i64)]
@[irreducible] noncomputable def Zm (n:Nat) (p:PayL R.T Zm_p):Option (PayL R.T Zm_r):=funM E R n false (regs54 n) (its19 n) Zm_a Try.f13 Zm_p Zm_r p
theorem Zm_ok (n:Nat) (p:PayL R.T Zm_p) (x:PayL R.T Zm_r) (h:Zm n p=some x):Pure E 13 (encSL R Zm_p p) (retV (encSL R Zm_r x)):=by
 unfold Zm at h
 exact funM_ok rOK (regs54_ok n) (its19_ok n) h Try.func13 rfl rfl rfl rfl (by kernel_rfl)
noncomputable def regs55 (n:Nat):Nat->List (FR R):=addF 13 ⟨Zm_p,Zm_r,Zm n,dflL R Zm_r,false⟩ (regs54 n)
theorem regs55_ok (n:Nat):RegsOK E (regs55 n):=addF_ok (regs54_ok n) (Zm_ok n)
def Ze_a:Ann:=⟨[(11,⟨[0,1,3,9,16,19],[9],⟨[(26,.d .bool),(27,.d (.int .i64))],[]⟩,[(.exit 0,⟨[(26,.d .bool)],[]⟩),(.ret,⟨[(14,.d .bool)],[]⟩)]⟩),
 (19,⟨[0,1,3,9,16,19,26,27,28],[9],⟨[(29,.d .bool),(30,.d (.int .i64))],[]⟩,[(.exit 2,⟨[(29,.d .bool)],[]⟩),(.ret,⟨[(14,.d .bool)],[]⟩)]⟩)],[]⟩
abbrev Ze_p:List Sk:=[.d (.int .i64),.d (.slice (.slice (.int .i64))),.d (.st 1),.d (.slice (.int .i64)),.d (.int .u8),.d (.int .i64),.d (.int .u8)]
abbrev Ze_r:List Sk:=[.d .bool]
@[irreducible] noncomputable def Ze (n:Nat) (p:PayL R.T Ze_p):Option (PayL R.T Ze_r):=funM E R n false (regs55 n) (its19 n) Ze_a Try.f3 Ze_p Ze_r p
theorem Ze_ok (n:Nat) (p:PayL R.T Ze_p) (x:PayL R.T Ze_r) (h:Ze n p=some x):Pure E 3 (encSL R Ze_p p) (retV (encSL R Ze_r x)):=by
 unfold Ze at h
 exact funM_ok rOK (regs55_ok n) (its19_ok n) h Try.func3 rfl rfl rfl rfl (by kernel_rfl)
end Sh
