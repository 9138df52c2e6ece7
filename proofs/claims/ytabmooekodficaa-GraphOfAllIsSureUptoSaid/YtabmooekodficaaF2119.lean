import Derived.Test.YtabmooekodficaaF2118
set_option linter.all false
open Go Go.Proofs Aq
namespace Sh
set_option maxRecDepth 100000
def dB (i:Nat) (a r:List Sk) (F:PayL R.T a->Option (PayL R.T r)):Prop:=∀p x,F p=some x->Pure E i (encSL R a p) (retV (encSL R r x))
theorem okF {n:Nat} {om:Bool} {F:Nat->List (FR R)} {A:Ann} {i:Nat} {fn:Func} {a r:List Sk} {p:PayL R.T a} {x:PayL R.T r} (hF:RegsOK E F) (h:funM E R n om F iters A fn a r p=some x) (hf:E.P.funcs[i]? =some fn) (hok:(match fn.body with|some c=>decide (a.length<=fn.ntmps)&& bN fn.ntmps c&& iB E c|none=>false)=true)
 (ha:cSkL a=true:=by rfl) (hl:(encSL R a p).length=a.length:=by rfl) (ho:E.om i=om:=by rfl) (hs:E.summ i=none:=by rfl):Pure E i (encSL R a p) (retV (encSL R r x)):=funM_ok rOK hF iters_ok h hf ha hl ho hs hok
def Zz_a:Ann:=⟨[(4,⟨[0],[],⟨[(5,.d (.int .i64))],[]⟩,[(.exit 0,⟨[],[]⟩),(.ret,⟨[(4,.d .bool)],[]⟩)]⟩)],[]⟩
abbrev Zz_p:List Sk:=[.d (.slice (.slice (.int .i64))),.d (.int .i64)]
abbrev Zz_r:List Sk:=[.d .bool]
@[irreducible] noncomputable def Zz (n:Nat) (p:PayL R.T Zz_p):Option (PayL R.T Zz_r):=funM E R n false (regs0 n) iters Zz_a Try.f6 Zz_p Zz_r p
theorem Zz_ok (n:Nat):dB 6 Zz_p Zz_r (Zz n):=fun _ _ h=>by unfold Zz at h;exact okF (regs0_ok n) h Try.func6 (by kernel_rfl)
noncomputable def regs1 (n:Nat):Nat->List (FR R):=addF 6 ⟨Zz_p,Zz_r,Zz n,dflL R Zz_r,false⟩ (regs0 n)
theorem regs1_ok (n:Nat):RegsOK E (regs1 n):=addF_ok (regs0_ok n) (Zz_ok n)
def XP_a:Ann:=⟨[(4,⟨[1],[1],⟨[(3,.d (.int .i64))],[]⟩,[(.exit 0,⟨[],[]⟩),(.ret,⟨[(2,.d .bool)],[]⟩)]⟩)],[]⟩
abbrev XP_p:List Sk:=[.d (.st 1)]
abbrev XP_r:List Sk:=[.d .bool]
@[irreducible] noncomputable def XP (n:Nat) (p:PayL R.T XP_p):Option (PayL R.T XP_r):=funM E R n false (regs1 n) iters XP_a Try.f7 XP_p XP_r p
theorem XP_ok (n:Nat):dB 7 XP_p XP_r (XP n):=fun _ _ h=>by unfold XP at h;exact okF (regs1_ok n) h Try.func7 (by kernel_rfl)
noncomputable def regs2 (n:Nat):Nat->List (FR R):=addF 7 ⟨XP_p,XP_r,XP n,dflL R XP_r,false⟩ (regs1 n)
theorem regs2_ok (n:Nat):RegsOK E (regs2 n):=addF_ok (regs1_ok n) (XP_ok n)
def XC_a:Ann:=⟨[],[]⟩
abbrev XC_p:List Sk:=[.d (.int .i64)]
abbrev XC_r:List Sk:=[.d .bool]
@[irreducible] noncomputable def XC (n:Nat) (p:PayL R.T XC_p):Option (PayL R.T XC_r):=funM E R n false (regs2 n) iters XC_a Try.f15 XC_p XC_r p
theorem XC_ok (n:Nat):dB 15 XC_p XC_r (XC n):=fun _ _ h=>by unfold XC at h;exact okF (regs2_ok n) h Try.func15 (by kernel_rfl)
noncomputable def regs3 (n:Nat):Nat->List (FR R):=addF 15 ⟨XC_p,XC_r,XC n,dflL R XC_r,false⟩ (regs2 n)
theorem regs3_ok (n:Nat):RegsOK E (regs3 n):=addF_ok (regs2_ok n) (XC_ok n)
def Zk_a:Ann:=⟨[(2,⟨[0],[],⟨[(3,.d (.int .i64))],[]⟩,[(.exit 0,⟨[],[]⟩),(.ret,⟨[(2,.d .bool)],[]⟩)]⟩)],[]⟩
abbrev Zk_p:List Sk:=[.d (.slice (.int .i64))]
abbrev Zk_r:List Sk:=[.d .bool]
@[irreducible] noncomputable def Zk (n:Nat) (p:PayL R.T Zk_p):Option (PayL R.T Zk_r):=funM E R n false (regs3 n) iters Zk_a Try.f21 Zk_p Zk_r p
theorem Zk_ok (n:Nat):dB 21 Zk_p Zk_r (Zk n):=fun _ _ h=>by unfold Zk at h;exact okF (regs3_ok n) h Try.func21 (by kernel_rfl)
noncomputable def regs4 (n:Nat):Nat->List (FR R):=addF 21 ⟨Zk_p,Zk_r,Zk n,dflL R Zk_r,false⟩ (regs3 n)
theorem regs4_ok (n:Nat):RegsOK E (regs4 n):=addF_ok (regs3_ok n) (Zk_ok n)
def ZD_a:Ann:=⟨[(2,⟨[0],[],⟨[(3,.d (.int .i64))],[]⟩,[(.exit 0,⟨[],[]⟩),(.ret,⟨[(2,.d .bool)],[]⟩)]⟩)],[]⟩
abbrev ZD_p:List Sk:=[.d (.slice (.slice (.int .i64)))]
abbrev ZD_r:List Sk:=[.d .bool]
@[irreducible] noncomputable def ZD (n:Nat) (p:PayL R.T ZD_p):Option (PayL R.T ZD_r):=funM E R n false (regs4 n) iters ZD_a Try.f16 ZD_p ZD_r p
theorem ZD_ok (n:Nat):dB 16 ZD_p ZD_r (ZD n):=fun _ _ h=>by unfold ZD at h;exact okF (regs4_ok n) h Try.func16 (by kernel_rfl)
noncomputable def regs5 (n:Nat):Nat->List (FR R):=addF 16 ⟨ZD_p,ZD_r,ZD n,dflL R ZD_r,false⟩ (regs4 n)
theorem regs5_ok (n:Nat):RegsOK E (regs5 n):=addF_ok (regs4_ok n) (ZD_ok n)
def XQ_a:Ann:=⟨[(2,⟨[0,1],[],⟨[(5,.d (.int .i64))],[]⟩,[(.exit 0,⟨[],[]⟩),(.ret,⟨[(4,.d .bool)],[]⟩)]⟩)],[]⟩
abbrev XQ_p:List Sk:=[.d (.slice (.int .i64)),.d (.int .i64)]
abbrev XQ_r:List Sk:=[.d .bool]
@[irreducible] noncomputable def XQ (n:Nat) (p:PayL R.T XQ_p):Option (PayL R.T XQ_r):=funM E R n false (regs5 n) iters XQ_a Try.f42 XQ_p XQ_r p
theorem XQ_ok (n:Nat):dB 42 XQ_p XQ_r (XQ n):=fun _ _ h=>by unfold XQ at h;exact okF (regs5_ok n) h Try.func42 (by kernel_rfl)
noncomputable def regs6 (n:Nat):Nat->List (FR R):=addF 42 ⟨XQ_p,XQ_r,XQ n,dflL R XQ_r,false⟩ (regs5 n)
theorem regs6_ok (n:Nat):RegsOK E (regs6 n):=addF_ok (regs5_ok n) (XQ_ok n)
def XR_a:Ann:=⟨[(4,⟨[0,3],[3],⟨[(5,.d (.int .i64))],[]⟩,[(.exit 0,⟨[],[]⟩),(.ret,⟨[(4,.d .bool)],[]⟩)]⟩),
 (10,⟨[0,3,5,6],[3,6],⟨[(7,.d (.int .i64))],[]⟩,[(.exit 2,⟨[],[]⟩),(.ret,⟨[(4,.d .bool)],[]⟩)]⟩)],[]⟩
abbrev XR_p:List Sk:=[.d (.int .i64),.d (.st 1)]
abbrev XR_r:List Sk:=[.d .bool]
@[irreducible] noncomputable def XR (n:Nat) (p:PayL R.T XR_p):Option (PayL R.T XR_r):=funM E R n false (regs6 n) iters XR_a Try.f20 XR_p XR_r p
theorem XR_ok (n:Nat):dB 20 XR_p XR_r (XR n):=fun _ _ h=>by unfold XR at h;exact okF (regs6_ok n) h Try.func20 (by kernel_rfl)
noncomputable def regs7 (n:Nat):Nat->List (FR R):=addF 20 ⟨XR_p,XR_r,XR n,dflL R XR_r,false⟩ (regs6 n)
theorem regs7_ok (n:Nat):RegsOK E (regs7 n):=addF_ok (regs6_ok n) (XR_ok n)
def XS_a:Ann:=⟨[],[]⟩
abbrev XS_p:List Sk:=[.d (.int .i64),.d (.slice (.slice (.int .i64))),.d (.st 1)]
abbrev XS_r:List Sk:=[.d .bool]
@[irreducible] noncomputable def XS (n:Nat) (p:PayL R.T XS_p):Option (PayL R.T XS_r):=funM E R n false (regs7 n) iters XS_a Try.f8 XS_p XS_r p
theorem XS_ok (n:Nat):dB 8 XS_p XS_r (XS n):=fun _ _ h=>by unfold XS at h;exact okF (regs7_ok n) h Try.func8 (by kernel_rfl)
noncomputable def regs8 (n:Nat):Nat->List (FR R):=addF 8 ⟨XS_p,XS_r,XS n,dflL R XS_r,false⟩ (regs7 n)
theorem regs8_ok (n:Nat):RegsOK E (regs8 n):=addF_ok (regs7_ok n) (XS_ok n)
def XD_a:Ann:=⟨[],[]⟩
abbrev XD_p:List Sk:=[.d (.slice (.int .i64)),.d (.slice (.int .i64))]
abbrev XD_r:List Sk:=[.d .bool]
@[irreducible] noncomputable def XD (n:Nat) (p:PayL R.T XD_p):Option (PayL R.T XD_r):=funM E R n false (regs8 n) iters XD_a Try.f9 XD_p XD_r p
theorem XD_ok (n:Nat):dB 9 XD_p XD_r (XD n):=fun _ _ h=>by unfold XD at h;exact okF (regs8_ok n) h Try.func9 (by kernel_rfl)
noncomputable def regs9 (n:Nat):Nat->List (FR R):=addF 9 ⟨XD_p,XD_r,XD n,dflL R XD_r,false⟩ (regs8 n)
theorem regs9_ok (n:Nat):RegsOK E (regs9 n):=addF_ok (regs8_ok n) (XD_ok n)
abbrev Xv_p:List Sk:=[]
abbrev Xv_r:List Sk:=[.d .bool]
@[irreducible] def Xv (n:Nat) (p:PayL R.T Xv_p):Option (PayL R.T Xv_r):=some true
theorem Xv_eq (n:Nat) (p:PayL R.T Xv_p):Xv n p=some true:=by unfold Xv;rfl
theorem Xv_ok (n:Nat) (p:PayL R.T Xv_p) (x:PayL R.T Xv_r) (h:Xv n p=some x):Pure E 10 (encSL R Xv_p p) (retV (encSL R Xv_r x)):=by
 unfold Xv at h
 exact sanP p x h
noncomputable def regs10 (n:Nat):Nat->List (FR R):=addF 10 ⟨Xv_p,Xv_r,Xv n,dflL R Xv_r,false⟩ (regs9 n)
theorem regs10_ok (n:Nat):RegsOK E (regs10 n):=addF_ok (regs9_ok n) (Xv_ok n)
def Xo_a:Ann:=⟨[],[]⟩
abbrev Xo_p:List Sk:=[.d (.int .i64),.d (.int .i64),.d (.int .i64)]
abbrev Xo_r:List Sk:=[.d (.int .i64)]
@[irreducible] noncomputable def Xo (n:Nat) (p:PayL R.T Xo_p):Option (PayL R.T Xo_r):=funM E R n false (regs10 n) iters Xo_a Try.f67 Xo_p Xo_r p
theorem Xo_ok (n:Nat):dB 67 Xo_p Xo_r (Xo n):=fun _ _ h=>by unfold Xo at h;exact okF (regs10_ok n) h Try.func67 (by kernel_rfl)
noncomputable def regs11 (n:Nat):Nat->List (FR R):=addF 67 ⟨Xo_p,Xo_r,Xo n,dflL R Xo_r,false⟩ (regs10 n)
theorem regs11_ok (n:Nat):RegsOK E (regs11 n):=addF_ok (regs10_ok n) (Xo_ok n)
def XE_a:Ann:=⟨[],[]⟩
abbrev XE_p:List Sk:=[.d (.int .i64),.d (.int .i64)]
abbrev XE_r:List Sk:=[.d .bool]
@[irreducible] noncomputable def XE (n:Nat) (p:PayL R.T XE_p):Option (PayL R.T XE_r):=funM E R n false (regs11 n) iters XE_a Try.f57 XE_p XE_r p
theorem XE_ok (n:Nat):dB 57 XE_p XE_r (XE n):=fun _ _ h=>by unfold XE at h;exact okF (regs11_ok n) h Try.func57 (by kernel_rfl)
noncomputable def regs12 (n:Nat):Nat->List (FR R):=addF 57 ⟨XE_p,XE_r,XE n,dflL R XE_r,false⟩ (regs11 n)
theorem regs12_ok (n:Nat):RegsOK E (regs12 n):=addF_ok (regs11_ok n) (XE_ok n)
def XJ_a:Ann:=⟨[],[]⟩
abbrev XJ_p:List Sk:=[.d .bool,.d (.int .i64)]
abbrev XJ_r:List Sk:=[.d .bool]
@[irreducible] noncomputable def XJ (n:Nat) (p:PayL R.T XJ_p):Option (PayL R.T XJ_r):=funM E R n false (regs12 n) iters XJ_a Try.f73 XJ_p XJ_r p
theorem XJ_ok (n:Nat):dB 73 XJ_p XJ_r (XJ n):=fun _ _ h=>by unfold XJ at h;exact okF (regs12_ok n) h Try.func73 (by kernel_rfl)
noncomputable def regs13 (n:Nat):Nat->List (FR R):=addF 73 ⟨XJ_p,XJ_r,XJ n,dflL R XJ_r,false⟩ (regs12 n)
theorem regs13_ok (n:Nat):RegsOK E (regs13 n):=addF_ok (regs12_ok n) (XJ_ok n)
def ZN_a:Ann:=⟨[(2,⟨[2,9,10],[],⟨[(1,.d .bool),(11,.d (.int .i64))],[]⟩,[(.exit 0,⟨[(1,.d .bool)],[]⟩)]⟩)],[]⟩
abbrev ZN_p:List Sk:=[.d (.slice (.int .i64)),.d .bool,.fn 73 [] []]
abbrev ZN_r:List Sk:=[.d .bool]
@[irreducible] noncomputable def ZN (n:Nat) (p:PayL R.T ZN_p):Option (PayL R.T ZN_r):=funM E R n false (regs13 n) iters ZN_a Try.f72 ZN_p ZN_r p
theorem ZN_ok (n:Nat):dB 72 ZN_p ZN_r (ZN n):=fun _ _ h=>by unfold ZN at h;exact okF (regs13_ok n) h Try.func72 (by kernel_rfl)
noncomputable def regs14 (n:Nat):Nat->List (FR R):=addF 72 ⟨ZN_p,ZN_r,ZN n,dflL R ZN_r,false⟩ (regs13 n)
theorem regs14_ok (n:Nat):RegsOK E (regs14 n):=addF_ok (regs13_ok n) (ZN_ok n)
def Xw_a:Ann:=⟨[],[]⟩
abbrev Xw_p:List Sk:=[.d (.slice (.int .i64))]
abbrev Xw_r:List Sk:=[.d .bool]
@[irreducible] noncomputable def Xw (n:Nat) (p:PayL R.T Xw_p):Option (PayL R.T Xw_r):=funM E R n false (regs14 n) iters Xw_a Try.f63 Xw_p Xw_r p
theorem Xw_ok (n:Nat):dB 63 Xw_p Xw_r (Xw n):=fun _ _ h=>by unfold Xw at h;exact okF (regs14_ok n) h Try.func63 (by kernel_rfl)
noncomputable def regs15 (n:Nat):Nat->List (FR R):=addF 63 ⟨Xw_p,Xw_r,Xw n,dflL R Xw_r,false⟩ (regs14 n)
theorem regs15_ok (n:Nat):RegsOK E (regs15 n):=addF_ok (regs14_ok n) (Xw_ok n)
def Xx_a:Ann:=⟨[],[]⟩
abbrev Xx_p:List Sk:=[.d (.slice (.int .i64)),.d (.slice (.int .i64))]
abbrev Xx_r:List Sk:=[.d .bool]
@[irreducible] noncomputable def Xx (n:Nat) (p:PayL R.T Xx_p):Option (PayL R.T Xx_r):=funM E R n false (regs15 n) iters Xx_a Try.f44 Xx_p Xx_r p
theorem Xx_ok (n:Nat):dB 44 Xx_p Xx_r (Xx n):=fun _ _ h=>by unfold Xx at h;exact okF (regs15_ok n) h Try.func44 (by kernel_rfl)
noncomputable def regs16 (n:Nat):Nat->List (FR R):=addF 44 ⟨Xx_p,Xx_r,Xx n,dflL R Xx_r,false⟩ (regs15 n)
theorem regs16_ok (n:Nat):RegsOK E (regs16 n):=addF_ok (regs15_ok n) (Xx_ok n)
def XF_a:Ann:=⟨[],[]⟩
abbrev XF_p:List Sk:=[.d (.slice (.int .i64)),.cref [.d (.int .i64),.d (.slice (.slice (.int .i64)))] 0]
abbrev XF_r:List Sk:=[.d .bool]
@[irreducible] noncomputable def XF (n:Nat) (p:PayL R.T XF_p):Option (PayL R.T XF_r):=funM E R n false (regs16 n) iters XF_a Try.f56 XF_p XF_r p
theorem XF_ok (n:Nat):dB 56 XF_p XF_r (XF n):=fun _ _ h=>by unfold XF at h;exact okF (regs16_ok n) h Try.func56 (by kernel_rfl)
noncomputable def regs17 (n:Nat):Nat->List (FR R):=addF 56 ⟨XF_p,XF_r,XF n,dflL R XF_r,false⟩ (regs16 n)
theorem regs17_ok (n:Nat):RegsOK E (regs17 n):=addF_ok (regs16_ok n) (XF_ok n)
def ZJ_a:Ann:=⟨[(2,⟨[0,1,7],[],⟨[(8,.d (.int .i64))],[]⟩,[(.exit 0,⟨[],[]⟩),(.ret,⟨[(4,.d (.int .i64))],[]⟩)]⟩)],[]⟩
abbrev ZJ_p:List Sk:=[.d (.slice (.slice (.int .i64))),.fn 56 [] [.cref [.d (.int .i64),.d (.slice (.slice (.int .i64)))] 0]]
abbrev ZJ_r:List Sk:=[.d (.int .i64)]
@[irreducible] noncomputable def ZJ (n:Nat) (p:PayL R.T ZJ_p):Option (PayL R.T ZJ_r):=funM E R n false (regs17 n) iters ZJ_a Try.f68 ZJ_p ZJ_r p
theorem ZJ_ok (n:Nat):dB 68 ZJ_p ZJ_r (ZJ n):=fun _ _ h=>by unfold ZJ at h;exact okF (regs17_ok n) h Try.func68 (by kernel_rfl)
noncomputable def regs18 (n:Nat):Nat->List (FR R):=addF 68 ⟨ZJ_p,ZJ_r,ZJ n,dflL R ZJ_r,false⟩ (regs17 n)
theorem regs18_ok (n:Nat):RegsOK E (regs18 n):=addF_ok (regs17_ok n) (ZJ_ok n)
def XG_a:Ann:=⟨[],[]⟩
abbrev XG_p:List Sk:=[.d (.slice (.slice (.int .i64))),.fn 56 [] [.cref [.d (.int .i64),.d (.slice (.slice (.int .i64)))] 0]]
abbrev XG_r:List Sk:=[.d .bool]
@[irreducible] noncomputable def XG (n:Nat) (p:PayL R.T XG_p):Option (PayL R.T XG_r):=funM E R n false (regs18 n) iters XG_a Try.f58 XG_p XG_r p
theorem XG_ok (n:Nat):dB 58 XG_p XG_r (XG n):=fun _ _ h=>by unfold XG at h;exact okF (regs18_ok n) h Try.func58 (by kernel_rfl)
noncomputable def regs19 (n:Nat):Nat->List (FR R):=addF 58 ⟨XG_p,XG_r,XG n,dflL R XG_r,false⟩ (regs18 n)
theorem regs19_ok (n:Nat):RegsOK E (regs19 n):=addF_ok (regs18_ok n) (XG_ok n)
def Xp_a:Ann:=⟨[],[]⟩
abbrev Xp_p:List Sk:=[.d (.st 2)]
abbrev Xp_r:List Sk:=[.d .bool]
@[irreducible] noncomputable def Xp (n:Nat) (p:PayL R.T Xp_p):Option (PayL R.T Xp_r):=funM E R n false (regs19 n) iters Xp_a Try.f35 Xp_p Xp_r p
theorem Xp_ok (n:Nat):dB 35 Xp_p Xp_r (Xp n):=fun _ _ h=>by unfold Xp at h;exact okF (regs19_ok n) h Try.func35 (by kernel_rfl)
noncomputable def regs20 (n:Nat):Nat->List (FR R):=addF 35 ⟨Xp_p,Xp_r,Xp n,dflL R Xp_r,false⟩ (regs19 n)
theorem regs20_ok (n:Nat):RegsOK E (regs20 n):=addF_ok (regs19_ok n) (Xp_ok n)
def ZK_a:Ann:=⟨[(2,⟨[0,1,7],[],⟨[(8,.d (.int .i64))],[]⟩,[(.exit 0,⟨[],[]⟩),(.ret,⟨[(4,.d (.int .i64))],[]⟩)]⟩)],[]⟩
abbrev ZK_p:List Sk:=[.d (.slice (.int .i64)),.d (.int .i64)]
abbrev ZK_r:List Sk:=[.d (.int .i64)]
@[irreducible] noncomputable def ZK (n:Nat) (p:PayL R.T ZK_p):Option (PayL R.T ZK_r):=funM E R n false (regs20 n) iters ZK_a Try.f61 ZK_p ZK_r p
theorem ZK_ok (n:Nat):dB 61 ZK_p ZK_r (ZK n):=fun _ _ h=>by unfold ZK at h;exact okF (regs20_ok n) h Try.func61 (by kernel_rfl)
noncomputable def regs21 (n:Nat):Nat->List (FR R):=addF 61 ⟨ZK_p,ZK_r,ZK n,dflL R ZK_r,false⟩ (regs20 n)
theorem regs21_ok (n:Nat):RegsOK E (regs21 n):=addF_ok (regs20_ok n) (ZK_ok n)
def XH_a:Ann:=⟨[],[]⟩
abbrev XH_p:List Sk:=[.d (.slice (.int .i64)),.d (.int .i64)]
abbrev XH_r:List Sk:=[.d .bool]
@[irreducible] noncomputable def XH (n:Nat) (p:PayL R.T XH_p):Option (PayL R.T XH_r):=funM E R n false (regs21 n) iters XH_a Try.f41 XH_p XH_r p
theorem XH_ok (n:Nat):dB 41 XH_p XH_r (XH n):=fun _ _ h=>by unfold XH at h;exact okF (regs21_ok n) h Try.func41 (by kernel_rfl)
noncomputable def regs22 (n:Nat):Nat->List (FR R):=addF 41 ⟨XH_p,XH_r,XH n,dflL R XH_r,false⟩ (regs21 n)
theorem regs22_ok (n:Nat):RegsOK E (regs22 n):=addF_ok (regs21_ok n) (XH_ok n)
def Zd_a:Ann:=⟨[(4,⟨[0,23,24],[],⟨[(25,.d (.int .i64))],[]⟩,[(.exit 0,⟨[],[]⟩),(.ret,⟨[(4,.d .bool)],[]⟩)]⟩),
 (9,⟨[0,6,23,24,25,46,47],[6],⟨[(48,.d (.int .i64))],[]⟩,[(.exit 2,⟨[],[]⟩),(.ret,⟨[(4,.d .bool)],[]⟩)]⟩)],[]⟩
abbrev Zd_p:List Sk:=[.d (.int .i64),.d (.st 1)]
abbrev Zd_r:List Sk:=[.d .bool]
@[irreducible] noncomputable def Zd (n:Nat) (p:PayL R.T Zd_p):Option (PayL R.T Zd_r):=funM E R n false (regs22 n) iters Zd_a Try.f19 Zd_p Zd_r p
theorem Zd_ok (n:Nat):dB 19 Zd_p Zd_r (Zd n):=fun _ _ h=>by unfold Zd at h;exact okF (regs22_ok n) h Try.func19 (by kernel_rfl)
noncomputable def regs23 (n:Nat):Nat->List (FR R):=addF 19 ⟨Zd_p,Zd_r,Zd n,dflL R Zd_r,false⟩ (regs22 n)
theorem regs23_ok (n:Nat):RegsOK E (regs23 n):=addF_ok (regs22_ok n) (Zd_ok n)
def ZU_a:Ann:=⟨[],[]⟩
abbrev ZU_p:List Sk:=[.d (.slice (.int .i64))]
abbrev ZU_o:List (Nat×ObSk):=[]
abbrev slices_Clone_int_int_w:List (Nat×ObSk):=[]
abbrev slices_Clone_int_int_k:NK:=.arr (.int .i64)
@[irreducible] noncomputable def ZU (n:Nat) (p:PayL R.T ZU_p) (q:PayOs R.T ZU_o):Option (PayN R.T slices_Clone_int_int_k×PayOs R.T slices_Clone_int_int_w):=funN E R n true (regs23 n) iters ZU_a Try.f30 ZU_p ZU_o slices_Clone_int_int_k slices_Clone_int_int_w p q
theorem ZU_ok (n:Nat):FNOK1 E 30 ZU_p ZU_o slices_Clone_int_int_k slices_Clone_int_int_w (ZU n):=by
 intro p q y q' h
 have h:ZU n p q=some (y,q'):=h
 unfold ZU at h
 exact funN_ok' rOK (regs23_ok n) iters_ok h Try.func30 rfl (by kernel_rfl)
noncomputable def its1 (n:Nat):IR R:=addM 30 (mkN ZU_p ZU_o slices_Clone_int_int_k slices_Clone_int_int_w (ZU n)) iters
theorem its1_ok (n:Nat):ItersOK E (its1 n):=addM_ok (m:=mkN ZU_p ZU_o slices_Clone_int_int_k slices_Clone_int_int_w (ZU n)) iters_ok (FMOK.N (ZU_ok n))
def ZA_a:Ann:=⟨[(3,⟨[1,5,10],[],⟨[(11,.d (.int .i64))],[(8,.arr (.int .i64))]⟩,[(.exit 0,⟨[],[(8,.arr (.int .i64))]⟩)]⟩)],[]⟩
abbrev ZA_p:List Sk:=[.d (.slice (.int .i64)),.d (.slice (.int .i64))]
abbrev ZA_r:List Sk:=[.d (.slice (.int .i64))]
@[irreducible] noncomputable def ZA (n:Nat) (p:PayL R.T ZA_p):Option (PayL R.T ZA_r):=funM E R n false (regs23 n) (its1 n) ZA_a Try.f34 ZA_p ZA_r p
theorem ZA_ok (n:Nat) (p:PayL R.T ZA_p) (x:PayL R.T ZA_r) (h:ZA n p=some x):Pure E 34 (encSL R ZA_p p) (retV (encSL R ZA_r x)):=by
 unfold ZA at h
 exact funM_ok rOK (regs23_ok n) (its1_ok n) h Try.func34 rfl rfl rfl rfl (by kernel_rfl)
noncomputable def regs24 (n:Nat):Nat->List (FR R):=addF 34 ⟨ZA_p,ZA_r,ZA n,dflL R ZA_r,false⟩ (regs23 n)
theorem regs24_ok (n:Nat):RegsOK E (regs24 n):=addF_ok (regs23_ok n) (ZA_ok n)
def Xy_a:Ann:=⟨[],[]⟩
abbrev Xy_p:List Sk:=[.d (.int .i64),.d (.int .i64)]
abbrev Xy_r:List Sk:=[.d (.int .i64)]
@[irreducible] noncomputable def Xy (n:Nat) (p:PayL R.T Xy_p):Option (PayL R.T Xy_r):=funM E R n false (regs24 n) (its1 n) Xy_a Try.f52 Xy_p Xy_r p
theorem Xy_ok (n:Nat) (p:PayL R.T Xy_p) (x:PayL R.T Xy_r) (h:Xy n p=some x):Pure E 52 (encSL R Xy_p p) (retV (encSL R Xy_r x)):=by
 unfold Xy at h
 exact funM_ok rOK (regs24_ok n) (its1_ok n) h Try.func52 rfl rfl rfl rfl (by kernel_rfl)
noncomputable def regs25 (n:Nat):Nat->List (FR R):=addF 52 ⟨Xy_p,Xy_r,Xy n,dflL R Xy_r,false⟩ (regs24 n)
theorem regs25_ok (n:Nat):RegsOK E (regs25 n):=addF_ok (regs24_ok n) (Xy_ok n)
def ZE_a:Ann:=⟨[(2,⟨[2,9,10],[],⟨[(1,.d (.int .i64)),(11,.d (.int .i64))],[]⟩,[(.exit 0,⟨[(1,.d (.int .i64))],[]⟩)]⟩)],[]⟩
abbrev ZE_p:List Sk:=[.d (.slice (.int .i64)),.d (.int .i64),.fn 52 [] []]
abbrev ZE_r:List Sk:=[.d (.int .i64)]
@[irreducible] noncomputable def ZE (n:Nat) (p:PayL R.T ZE_p):Option (PayL R.T ZE_r):=funM E R n false (regs25 n) (its1 n) ZE_a Try.f55 ZE_p ZE_r p
theorem ZE_ok (n:Nat) (p:PayL R.T ZE_p) (x:PayL R.T ZE_r) (h:ZE n p=some x):Pure E 55 (encSL R ZE_p p) (retV (encSL R ZE_r x)):=by
 unfold ZE at h
 exact funM_ok rOK (regs25_ok n) (its1_ok n) h Try.func55 rfl rfl rfl rfl (by kernel_rfl)
noncomputable def regs26 (n:Nat):Nat->List (FR R):=addF 55 ⟨ZE_p,ZE_r,ZE n,dflL R ZE_r,false⟩ (regs25 n)
theorem regs26_ok (n:Nat):RegsOK E (regs26 n):=addF_ok (regs25_ok n) (ZE_ok n)
def Xz_a:Ann:=⟨[],[]⟩
abbrev Xz_p:List Sk:=[.d (.int .i64),.d (.int .i64)]
abbrev Xz_r:List Sk:=[.d (.int .i64)]
@[irreducible] noncomputable def Xz (n:Nat) (p:PayL R.T Xz_p):Option (PayL R.T Xz_r):=funM E R n false (regs26 n) (its1 n) Xz_a Try.f53 Xz_p Xz_r p
theorem Xz_ok (n:Nat) (p:PayL R.T Xz_p) (x:PayL R.T Xz_r) (h:Xz n p=some x):Pure E 53 (encSL R Xz_p p) (retV (encSL R Xz_r x)):=by
 unfold Xz at h
 exact funM_ok rOK (regs26_ok n) (its1_ok n) h Try.func53 rfl rfl rfl rfl (by kernel_rfl)
noncomputable def regs27 (n:Nat):Nat->List (FR R):=addF 53 ⟨Xz_p,Xz_r,Xz n,dflL R Xz_r,false⟩ (regs26 n)
theorem regs27_ok (n:Nat):RegsOK E (regs27 n):=addF_ok (regs26_ok n) (Xz_ok n)
def ZF_a:Ann:=⟨[(2,⟨[2,9,10],[],⟨[(1,.d (.int .i64)),(11,.d (.int .i64))],[]⟩,[(.exit 0,⟨[(1,.d (.int .i64))],[]⟩)]⟩)],[]⟩
abbrev ZF_p:List Sk:=[.d (.slice (.int .i64)),.d (.int .i64),.fn 53 [] []]
abbrev ZF_r:List Sk:=[.d (.int .i64)]
@[irreducible] noncomputable def ZF (n:Nat) (p:PayL R.T ZF_p):Option (PayL R.T ZF_r):=funM E R n false (regs27 n) (its1 n) ZF_a Try.f55 ZF_p ZF_r p
theorem ZF_ok (n:Nat) (p:PayL R.T ZF_p) (x:PayL R.T ZF_r) (h:ZF n p=some x):Pure E 55 (encSL R ZF_p p) (retV (encSL R ZF_r x)):=by
 unfold ZF at h
 exact funM_ok rOK (regs27_ok n) (its1_ok n) h Try.func55 rfl rfl rfl rfl (by kernel_rfl)
noncomputable def regs28 (n:Nat):Nat->List (FR R):=addF 55 ⟨ZF_p,ZF_r,ZF n,dflL R ZF_r,false⟩ (regs27 n)
theorem regs28_ok (n:Nat):RegsOK E (regs28 n):=addF_ok (regs27_ok n) (ZF_ok n)
def XA_a:Ann:=⟨[],[]⟩
abbrev XA_p:List Sk:=[.d (.int .i64),.d (.int .i64)]
abbrev XA_r:List Sk:=[.d (.int .i64)]
@[irreducible] noncomputable def XA (n:Nat) (p:PayL R.T XA_p):Option (PayL R.T XA_r):=funM E R n false (regs28 n) (its1 n) XA_a Try.f54 XA_p XA_r p
theorem XA_ok (n:Nat) (p:PayL R.T XA_p) (x:PayL R.T XA_r) (h:XA n p=some x):Pure E 54 (encSL R XA_p p) (retV (encSL R XA_r x)):=by
 unfold XA at h
 exact funM_ok rOK (regs28_ok n) (its1_ok n) h Try.func54 rfl rfl rfl rfl (by kernel_rfl)
noncomputable def regs29 (n:Nat):Nat->List (FR R):=addF 54 ⟨XA_p,XA_r,XA n,dflL R XA_r,false⟩ (regs28 n)
theorem regs29_ok (n:Nat):RegsOK E (regs29 n):=addF_ok (regs28_ok n) (XA_ok n)
def ZG_a:Ann:=⟨[(2,⟨[2,9,10],[],⟨[(1,.d (.int .i64)),(11,.d (.int .i64))],[]⟩,[(.exit 0,⟨[(1,.d (.int .i64))],[]⟩)]⟩)],[]⟩
abbrev ZG_p:List Sk:=[.d (.slice (.int .i64)),.d (.int .i64),.fn 54 [] []]
abbrev ZG_r:List Sk:=[.d (.int .i64)]
@[irreducible] noncomputable def ZG (n:Nat) (p:PayL R.T ZG_p):Option (PayL R.T ZG_r):=funM E R n false (regs29 n) (its1 n) ZG_a Try.f55 ZG_p ZG_r p
theorem ZG_ok (n:Nat) (p:PayL R.T ZG_p) (x:PayL R.T ZG_r) (h:ZG n p=some x):Pure E 55 (encSL R ZG_p p) (retV (encSL R ZG_r x)):=by
 unfold ZG at h
 exact funM_ok rOK (regs29_ok n) (its1_ok n) h Try.func55 rfl rfl rfl rfl (by kernel_rfl)
noncomputable def regs30 (n:Nat):Nat->List (FR R):=addF 55 ⟨ZG_p,ZG_r,ZG n,dflL R ZG_r,false⟩ (regs29 n)
theorem regs30_ok (n:Nat):RegsOK E (regs30 n):=addF_ok (regs29_ok n) (ZG_ok n)
def Xq_a:Ann:=⟨[],[]⟩
abbrev Xq_p:List Sk:=[.d (.int .i64),.d (.slice (.int .i64))]
abbrev Xq_r:List Sk:=[.d (.int .i64)]
@[irreducible] noncomputable def Xq (n:Nat) (p:PayL R.T Xq_p):Option (PayL R.T Xq_r):=funM E R n false (regs30 n) (its1 n) Xq_a Try.f33 Xq_p Xq_r p
theorem Xq_ok (n:Nat) (p:PayL R.T Xq_p) (x:PayL R.T Xq_r) (h:Xq n p=some x):Pure E 33 (encSL R Xq_p p) (retV (encSL R Xq_r x)):=by
 unfold Xq at h
 exact funM_ok rOK (regs30_ok n) (its1_ok n) h Try.func33 rfl rfl rfl rfl (by kernel_rfl)
noncomputable def regs31 (n:Nat):Nat->List (FR R):=addF 33 ⟨Xq_p,Xq_r,Xq n,dflL R Xq_r,false⟩ (regs30 n)
theorem regs31_ok (n:Nat):RegsOK E (regs31 n):=addF_ok (regs30_ok n) (Xq_ok n)
def Xr_a:Ann:=⟨[],[]⟩
abbrev Xr_p:List Sk:=[.d (.int .i64),.d (.slice (.int .i64)),.d (.slice (.int .i64))]
abbrev Xr_r:List Sk:=[.d (.int .i64)]
@[irreducible] noncomputable def Xr (n:Nat) (p:PayL R.T Xr_p):Option (PayL R.T Xr_r):=funM E R n false (regs31 n) (its1 n) Xr_a Try.f14 Xr_p Xr_r p
theorem Xr_ok (n:Nat) (p:PayL R.T Xr_p) (x:PayL R.T Xr_r) (h:Xr n p=some x):Pure E 14 (encSL R Xr_p p) (retV (encSL R Xr_r x)):=by
 unfold Xr at h
 exact funM_ok rOK (regs31_ok n) (its1_ok n) h Try.func14 rfl rfl rfl rfl (by kernel_rfl)
noncomputable def regs32 (n:Nat):Nat->List (FR R):=addF 14 ⟨Xr_p,Xr_r,Xr n,dflL R Xr_r,false⟩ (regs31 n)
theorem regs32_ok (n:Nat):RegsOK E (regs32 n):=addF_ok (regs31_ok n) (Xr_ok n)
def Zm_a:Ann:=⟨[(3,⟨[1,2,9,10],[2],⟨[(5,.l (.own 22) (.int .i64)),(11,.d (.int .i64))],[]⟩,[(.exit 0,⟨[(5,.l (.own 22) (.int .i64))],[]⟩)]⟩)],[]⟩
abbrev Zm_p:List Sk:=[.d (.st 2),.d (.slice (.int .i64))]
abbrev Zm_r:List Sk:=[.d (.slice (.int .i64))]
@[irreducible] noncomputable def Zm (n:Nat) (p:PayL R.T Zm_p):Option (PayL R.T Zm_r):=funM E R n false (regs32 n) (its1 n) Zm_a Try.f36 Zm_p Zm_r p
theorem Zm_ok (n:Nat) (p:PayL R.T Zm_p) (x:PayL R.T Zm_r) (h:Zm n p=some x):Pure E 36 (encSL R Zm_p p) (retV (encSL R Zm_r x)):=by
 unfold Zm at h
 exact funM_ok rOK (regs32_ok n) (its1_ok n) h Try.func36 rfl rfl rfl rfl (by kernel_rfl)
noncomputable def regs33 (n:Nat):Nat->List (FR R):=addF 36 ⟨Zm_p,Zm_r,Zm n,dflL R Zm_r,false⟩ (regs32 n)
theorem regs33_ok (n:Nat):RegsOK E (regs33 n):=addF_ok (regs32_ok n) (Zm_ok n)
def Xd_a:Ann:=⟨[],[]⟩
abbrev Xd_p:List Sk:=[.d (.int .i64),.d (.slice (.slice (.int .i64))),.d (.st 1),.d (.slice (.int .i64)),.d (.int .i64)]
abbrev Xd_r:List Sk:=[.d (.st 3),.d .bool]
@[irreducible] noncomputable def Xd (n:Nat) (p:PayL R.T Xd_p):Option (PayL R.T Xd_r):=funM E R n false (regs33 n) (its1 n) Xd_a Try.f25 Xd_p Xd_r p
theorem Xd_ok (n:Nat) (p:PayL R.T Xd_p) (x:PayL R.T Xd_r) (h:Xd n p=some x):Pure E 25 (encSL R Xd_p p) (retV (encSL R Xd_r x)):=by
 unfold Xd at h
 exact funM_ok rOK (regs33_ok n) (its1_ok n) h Try.func25 rfl rfl rfl rfl (by kernel_rfl)
noncomputable def regs34 (n:Nat):Nat->List (FR R):=addF 25 ⟨Xd_p,Xd_r,Xd n,dflL R Xd_r,false⟩ (regs33 n)
theorem regs34_ok (n:Nat):RegsOK E (regs34 n):=addF_ok (regs33_ok n) (Xd_ok n)
def ZW_a:Ann:=⟨[],[]⟩
abbrev ZW_p:List Sk:=[.d (.st 3),.d (.int .i64)]
abbrev ZW_o:List (Nat×ObSk):=[]
abbrev graph_search_walk_w:List (Nat×ObSk):=[]
abbrev graph_search_walk_k:NK:=.fnc 46 [] [.cref [.d (.int .i64),.d (.slice (.slice (.int .i64))),.d (.slice (.st 0)),.d (.slice (.int .i64))] 0] [.d (.int .i64)]
@[irreducible] noncomputable def ZW (n:Nat) (p:PayL R.T ZW_p) (q:PayOs R.T ZW_o):Option (PayN R.T graph_search_walk_k×PayOs R.T graph_search_walk_w):=funN E R n false (regs34 n) (its1 n) ZW_a Try.f27 ZW_p ZW_o graph_search_walk_k graph_search_walk_w p q
theorem ZW_ok (n:Nat):FNOK1 E 27 ZW_p ZW_o graph_search_walk_k graph_search_walk_w (ZW n):=by
 intro p q y q' h
 have h:ZW n p q=some (y,q'):=h
 unfold ZW at h
 exact funN_ok' rOK (regs34_ok n) (its1_ok n) h Try.func27 rfl (by kernel_rfl)
noncomputable def its2 (n:Nat):IR R:=addM 27 (mkN ZW_p ZW_o graph_search_walk_k graph_search_walk_w (ZW n)) (its1 n)
theorem its2_ok (n:Nat):ItersOK E (its2 n):=addM_ok (m:=mkN ZW_p ZW_o graph_search_walk_k graph_search_walk_w (ZW n)) (its1_ok n) (FMOK.N (ZW_ok n))
def Zp_a:Ann:=⟨[(3,⟨[2],[],⟨[],[(2,.cells [.vw 11 (.int .i64)]),(11,.arr (.int .i64))]⟩,[(.normal,⟨[],[(2,.cells [.vw 11 (.int .i64)]),(11,.arr (.int .i64))]⟩)]⟩)],[]⟩
abbrev Zp_p:List Sk:=[.nils,.fn 46 [] [.ref 1000000 0,.cref [.d (.int .i64),.d (.slice (.slice (.int .i64))),.d (.slice (.st 0)),.d (.slice (.int .i64))] 0]]
abbrev Zp_o:List (Nat×ObSk):=[(1000000,.cells [.d (.int .i64)])]
abbrev slices_AppendSeq_int_int_w:List (Nat×ObSk):=[]
abbrev slices_AppendSeq_int_int_k:NK:=.arr (.int .i64)
@[irreducible] noncomputable def Zp (n:Nat) (p:PayL R.T Zp_p) (q:PayOs R.T Zp_o):Option (PayN R.T slices_AppendSeq_int_int_k×PayOs R.T slices_AppendSeq_int_int_w):=funN E R n true (regs34 n) (its2 n) Zp_a Try.f45 Zp_p Zp_o slices_AppendSeq_int_int_k slices_AppendSeq_int_int_w p q
theorem Zp_ok (n:Nat):FNOK1 E 45 Zp_p Zp_o slices_AppendSeq_int_int_k slices_AppendSeq_int_int_w (Zp n):=by
 intro p q y q' h
 have h:Zp n p q=some (y,q'):=h
 unfold Zp at h
 exact funN_ok' rOK (regs34_ok n) (its2_ok n) h Try.func45 rfl (by kernel_rfl)
noncomputable def its3 (n:Nat):IR R:=addM 45 (mkN Zp_p Zp_o slices_AppendSeq_int_int_k slices_AppendSeq_int_int_w (Zp n)) (its2 n)
theorem its3_ok (n:Nat):ItersOK E (its3 n):=addM_ok (m:=mkN Zp_p Zp_o slices_AppendSeq_int_int_k slices_AppendSeq_int_int_w (Zp n)) (its2_ok n) (FMOK.N (Zp_ok n))
def Xi_a:Ann:=⟨[],[]⟩
abbrev Xi_p:List Sk:=[.fn 46 [] [.ref 1000000 0,.cref [.d (.int .i64),.d (.slice (.slice (.int .i64))),.d (.slice (.st 0)),.d (.slice (.int .i64))] 0]]
abbrev Xi_o:List (Nat×ObSk):=[(1000000,.cells [.d (.int .i64)])]
abbrev slices_Collect_int_w:List (Nat×ObSk):=[]
abbrev slices_Collect_int_k:NK:=.arr (.int .i64)
@[irreducible] noncomputable def Xi (n:Nat) (p:PayL R.T Xi_p) (q:PayOs R.T Xi_o):Option (PayN R.T slices_Collect_int_k×PayOs R.T slices_Collect_int_w):=funN E R n false (regs34 n) (its3 n) Xi_a Try.f26 Xi_p Xi_o slices_Collect_int_k slices_Collect_int_w p q
theorem Xi_ok (n:Nat):FNOK1 E 26 Xi_p Xi_o slices_Collect_int_k slices_Collect_int_w (Xi n):=by
 intro p q y q' h
 have h:Xi n p q=some (y,q'):=h
 unfold Xi at h
 exact funN_ok' rOK (regs34_ok n) (its3_ok n) h Try.func26 rfl (by kernel_rfl)
noncomputable def its4 (n:Nat):IR R:=addM 26 (mkN Xi_p Xi_o slices_Collect_int_k slices_Collect_int_w (Xi n)) (its3 n)
theorem its4_ok (n:Nat):ItersOK E (its4 n):=addM_ok (m:=mkN Xi_p Xi_o slices_Collect_int_k slices_Collect_int_w (Xi n)) (its3_ok n) (FMOK.N (Xi_ok n))
def Xe_a:Ann:=⟨[],[]⟩
abbrev Xe_p:List Sk:=[.d (.int .i64),.d (.slice (.slice (.int .i64))),.d (.st 1),.d (.slice (.int .i64)),.d (.int .i64)]
abbrev Xe_r:List Sk:=[.d (.slice (.int .i64)),.d (.int .i64)]
@[irreducible] noncomputable def Xe (n:Nat) (p:PayL R.T Xe_p):Option (PayL R.T Xe_r):=funM E R n false (regs34 n) (its4 n) Xe_a Try.f11 Xe_p Xe_r p
theorem Xe_ok (n:Nat) (p:PayL R.T Xe_p) (x:PayL R.T Xe_r) (h:Xe n p=some x):Pure E 11 (encSL R Xe_p p) (retV (encSL R Xe_r x)):=by
 unfold Xe at h
 exact funM_ok rOK (regs34_ok n) (its4_ok n) h Try.func11 rfl rfl rfl rfl (by kernel_rfl)
noncomputable def regs35 (n:Nat):Nat->List (FR R):=addF 11 ⟨Xe_p,Xe_r,Xe n,dflL R Xe_r,false⟩ (regs34 n)
theorem regs35_ok (n:Nat):RegsOK E (regs35 n):=addF_ok (regs34_ok n) (Xe_ok n)
def XM_a:Ann:=⟨[],[]⟩
abbrev XM_p:List Sk:=[.d (.int .u32)]
abbrev XM_r:List Sk:=[.d (.int .i64)]
@[irreducible] noncomputable def XM (n:Nat) (p:PayL R.T XM_p):Option (PayL R.T XM_r):=funM E R n false (regs35 n) (its4 n) XM_a Try.f82 XM_p XM_r p
theorem XM_ok (n:Nat) (p:PayL R.T XM_p) (x:PayL R.T XM_r) (h:XM n p=some x):Pure E 82 (encSL R XM_p p) (retV (encSL R XM_r x)):=by
 unfold XM at h
 exact funM_ok rOK (regs35_ok n) (its4_ok n) h Try.func82 rfl rfl rfl rfl (by kernel_rfl)
noncomputable def regs36 (n:Nat):Nat->List (FR R):=addF 82 ⟨XM_p,XM_r,XM n,dflL R XM_r,false⟩ (regs35 n)
theorem regs36_ok (n:Nat):RegsOK E (regs36 n):=addF_ok (regs35_ok n) (XM_ok n)
def ZQ_a:Ann:=⟨[],[]⟩
abbrev ZQ_p:List Sk:=[.d (.int .u64)]
abbrev ZQ_r:List Sk:=[.d (.int .i64)]
@[irreducible] noncomputable def ZQ (n:Nat) (p:PayL R.T ZQ_p):Option (PayL R.T ZQ_r):=funM E R n false (regs36 n) (its4 n) ZQ_a Try.f83 ZQ_p ZQ_r p
theorem ZQ_ok (n:Nat) (p:PayL R.T ZQ_p) (x:PayL R.T ZQ_r) (h:ZQ n p=some x):Pure E 83 (encSL R ZQ_p p) (retV (encSL R ZQ_r x)):=by
 unfold ZQ at h
 exact funM_ok rOK (regs36_ok n) (its4_ok n) h Try.func83 rfl rfl rfl rfl (by kernel_rfl)
noncomputable def regs37 (n:Nat):Nat->List (FR R):=addF 83 ⟨ZQ_p,ZQ_r,ZQ n,dflL R ZQ_r,false⟩ (regs36 n)
theorem regs37_ok (n:Nat):RegsOK E (regs37 n):=addF_ok (regs36_ok n) (ZQ_ok n)
def ZO_a:Ann:=⟨[],[]⟩
abbrev ZO_p:List Sk:=[.d (.int .u64)]
abbrev ZO_r:List Sk:=[.d (.int .i64)]
@[irreducible] noncomputable def ZO (n:Nat) (p:PayL R.T ZO_p):Option (PayL R.T ZO_r):=funM E R n false (regs37 n) (its4 n) ZO_a Try.f65 ZO_p ZO_r p
theorem ZO_ok (n:Nat) (p:PayL R.T ZO_p) (x:PayL R.T ZO_r) (h:ZO n p=some x):Pure E 65 (encSL R ZO_p p) (retV (encSL R ZO_r x)):=by
 unfold ZO at h
 exact funM_ok rOK (regs37_ok n) (its4_ok n) h Try.func65 rfl rfl rfl rfl (by kernel_rfl)
noncomputable def regs38 (n:Nat):Nat->List (FR R):=addF 65 ⟨ZO_p,ZO_r,ZO n,dflL R ZO_r,false⟩ (regs37 n)
theorem regs38_ok (n:Nat):RegsOK E (regs38 n):=addF_ok (regs37_ok n) (ZO_ok n)
def ZB_a:Ann:=⟨[(5,⟨[0],[],⟨[(3,.d (.int .i64))],[]⟩,[(.ret,⟨[(2,.d (.int .i64))],[]⟩)]⟩)],[]⟩
abbrev ZB_p:List Sk:=[.d (.int .i64)]
abbrev ZB_r:List Sk:=[.d (.int .i64)]
@[irreducible] noncomputable def ZB (n:Nat) (p:PayL R.T ZB_p):Option (PayL R.T ZB_r):=funM E R n false (regs38 n) (its4 n) ZB_a Try.f95 ZB_p ZB_r p
theorem ZB_ok (n:Nat) (p:PayL R.T ZB_p) (x:PayL R.T ZB_r) (h:ZB n p=some x):Pure E 95 (encSL R ZB_p p) (retV (encSL R ZB_r x)):=by
 unfold ZB at h
 exact funM_ok rOK (regs38_ok n) (its4_ok n) h Try.func95 rfl rfl rfl rfl (by kernel_rfl)
noncomputable def regs39 (n:Nat):Nat->List (FR R):=addF 95 ⟨ZB_p,ZB_r,ZB n,dflL R ZB_r,false⟩ (regs38 n)
theorem regs39_ok (n:Nat):RegsOK E (regs39 n):=addF_ok (regs38_ok n) (ZB_ok n)
def Xf_a:Ann:=⟨[],[]⟩
abbrev Xf_p:List Sk:=[.d (.int .i64),.d (.int .i64),.cref [.d (.int .i64)] 0]
abbrev Xf_r:List Sk:=[.d (.int .i64)]
@[irreducible] noncomputable def Xf (n:Nat) (p:PayL R.T Xf_p):Option (PayL R.T Xf_r):=funM E R n false (regs39 n) (its4 n) Xf_a Try.f94 Xf_p Xf_r p
theorem Xf_ok (n:Nat) (p:PayL R.T Xf_p) (x:PayL R.T Xf_r) (h:Xf n p=some x):Pure E 94 (encSL R Xf_p p) (retV (encSL R Xf_r x)):=by
 unfold Xf at h
 exact funM_ok rOK (regs39_ok n) (its4_ok n) h Try.func94 rfl rfl rfl rfl (by kernel_rfl)
noncomputable def regs40 (n:Nat):Nat->List (FR R):=addF 94 ⟨Xf_p,Xf_r,Xf n,dflL R Xf_r,false⟩ (regs39 n)
theorem regs40_ok (n:Nat):RegsOK E (regs40 n):=addF_ok (regs39_ok n) (Xf_ok n)
def Xg_a:Ann:=⟨[],[]⟩
abbrev Xg_p:List Sk:=[.d (.int .i64),.d (.int .i64)]
abbrev Xg_r:List Sk:=[.d (.int .i64)]
@[irreducible] noncomputable def Xg (n:Nat) (p:PayL R.T Xg_p):Option (PayL R.T Xg_r):=funM E R n false (regs40 n) (its4 n) Xg_a Try.f97 Xg_p Xg_r p
theorem Xg_ok (n:Nat) (p:PayL R.T Xg_p) (x:PayL R.T Xg_r) (h:Xg n p=some x):Pure E 97 (encSL R Xg_p p) (retV (encSL R Xg_r x)):=by
 unfold Xg at h
 exact funM_ok rOK (regs40_ok n) (its4_ok n) h Try.func97 rfl rfl rfl rfl (by kernel_rfl)
noncomputable def regs41 (n:Nat):Nat->List (FR R):=addF 97 ⟨Xg_p,Xg_r,Xg n,dflL R Xg_r,false⟩ (regs40 n)
theorem regs41_ok (n:Nat):RegsOK E (regs41 n):=addF_ok (regs40_ok n) (Xg_ok n)
def ZV_a:Ann:=⟨[],[]⟩
abbrev ZV_p:List Sk:=[.d (.int .i64)]
abbrev ZV_r:List Sk:=[.d .bool]
@[irreducible] noncomputable def ZV (n:Nat) (p:PayL R.T ZV_p):Option (PayL R.T ZV_r):=funM E R n false (regs41 n) (its4 n) ZV_a Try.f66 ZV_p ZV_r p
theorem ZV_ok (n:Nat) (p:PayL R.T ZV_p) (x:PayL R.T ZV_r) (h:ZV n p=some x):Pure E 66 (encSL R ZV_p p) (retV (encSL R ZV_r x)):=by
 unfold ZV at h
 exact funM_ok rOK (regs41_ok n) (its4_ok n) h Try.func66 rfl rfl rfl rfl (by kernel_rfl)
noncomputable def regs42 (n:Nat):Nat->List (FR R):=addF 66 ⟨ZV_p,ZV_r,ZV n,dflL R ZV_r,false⟩ (regs41 n)
theorem regs42_ok (n:Nat):RegsOK E (regs42 n):=addF_ok (regs41_ok n) (ZV_ok n)
def Xj_a:Ann:=⟨[],[]⟩
abbrev Xj_p:List Sk:=[.d (.int .i64),.d (.int .i64)]
abbrev Xj_r:List Sk:=[.d (.int .i64)]
@[irreducible] noncomputable def Xj (n:Nat) (p:PayL R.T Xj_p):Option (PayL R.T Xj_r):=funM E R n false (regs42 n) (its4 n) Xj_a Try.f51 Xj_p Xj_r p
theorem Xj_ok (n:Nat) (p:PayL R.T Xj_p) (x:PayL R.T Xj_r) (h:Xj n p=some x):Pure E 51 (encSL R Xj_p p) (retV (encSL R Xj_r x)):=by
 unfold Xj at h
 exact funM_ok rOK (regs42_ok n) (its4_ok n) h Try.func51 rfl rfl rfl rfl (by kernel_rfl)
noncomputable def regs43 (n:Nat):Nat->List (FR R):=addF 51 ⟨Xj_p,Xj_r,Xj n,dflL R Xj_r,false⟩ (regs42 n)
theorem regs43_ok (n:Nat):RegsOK E (regs43 n):=addF_ok (regs42_ok n) (Xj_ok n)
def Zv_a:Ann:=⟨[(3,⟨[3,6,7],[],⟨[(8,.d (.int .i64))],[]⟩,[(.exit 0,⟨[],[]⟩),(.ret,⟨[(2,.d (.int .i64))],[]⟩)]⟩)],[]⟩
abbrev Zv_p:List Sk:=[.d (.slice (.int .i64))]
abbrev Zv_r:List Sk:=[.d (.int .i64)]
@[irreducible] noncomputable def Zv (n:Nat) (p:PayL R.T Zv_p):Option (PayL R.T Zv_r):=funM E R n false (regs43 n) (its4 n) Zv_a Try.f50 Zv_p Zv_r p
theorem Zv_ok (n:Nat) (p:PayL R.T Zv_p) (x:PayL R.T Zv_r) (h:Zv n p=some x):Pure E 50 (encSL R Zv_p p) (retV (encSL R Zv_r x)):=by
 unfold Zv at h
 exact funM_ok rOK (regs43_ok n) (its4_ok n) h Try.func50 rfl rfl rfl rfl (by kernel_rfl)
noncomputable def regs44 (n:Nat):Nat->List (FR R):=addF 50 ⟨Zv_p,Zv_r,Zv n,dflL R Zv_r,false⟩ (regs43 n)
theorem regs44_ok (n:Nat):RegsOK E (regs44 n):=addF_ok (regs43_ok n) (Zv_ok n)
def Xk_a:Ann:=⟨[],[]⟩
abbrev Xk_p:List Sk:=[.d (.st 3),.d (.int .i64),.d (.int .i64)]
abbrev Xk_r:List Sk:=[.d (.int .i64)]
@[irreducible] noncomputable def Xk (n:Nat) (p:PayL R.T Xk_p):Option (PayL R.T Xk_r):=funM E R n false (regs44 n) (its4 n) Xk_a Try.f32 Xk_p Xk_r p
theorem Xk_ok (n:Nat) (p:PayL R.T Xk_p) (x:PayL R.T Xk_r) (h:Xk n p=some x):Pure E 32 (encSL R Xk_p p) (retV (encSL R Xk_r x)):=by
 unfold Xk at h
 exact funM_ok rOK (regs44_ok n) (its4_ok n) h Try.func32 rfl rfl rfl rfl (by kernel_rfl)
noncomputable def regs45 (n:Nat):Nat->List (FR R):=addF 32 ⟨Xk_p,Xk_r,Xk n,dflL R Xk_r,false⟩ (regs44 n)
theorem regs45_ok (n:Nat):RegsOK E (regs45 n):=addF_ok (regs44_ok n) (Xk_ok n)
def Zl_a:Ann:=⟨[(5,⟨[0,1],[],⟨[(5,.d (.int .i64)),(6,.d (.int .i64))],[]⟩,[(.exit 0,⟨[(5,.d (.int .i64))],[]⟩)]⟩)],[]⟩
abbrev Zl_p:List Sk:=[.d (.slice (.int .i64)),.fn 32 [.d (.st 3)] []]
abbrev Zl_r:List Sk:=[.d (.int .i64)]
@[irreducible] noncomputable def Zl (n:Nat) (p:PayL R.T Zl_p):Option (PayL R.T Zl_r):=funM E R n false (regs45 n) (its4 n) Zl_a Try.f47 Zl_p Zl_r p
theorem Zl_ok (n:Nat) (p:PayL R.T Zl_p) (x:PayL R.T Zl_r) (h:Zl n p=some x):Pure E 47 (encSL R Zl_p p) (retV (encSL R Zl_r x)):=by
 unfold Zl at h
 exact funM_ok rOK (regs45_ok n) (its4_ok n) h Try.func47 rfl rfl rfl rfl (by kernel_rfl)
noncomputable def regs46 (n:Nat):Nat->List (FR R):=addF 47 ⟨Zl_p,Zl_r,Zl n,dflL R Zl_r,false⟩ (regs45 n)
theorem regs46_ok (n:Nat):RegsOK E (regs46 n):=addF_ok (regs45_ok n) (Zl_ok n)
abbrev XI_p:List Sk:=[.d (.int .i64),.d (.int .i64),.d (.int .i64)]
abbrev XI_r:List Sk:=[.d (.int .i64)]
@[irreducible] noncomputable def XI (n:Nat) (p:PayL R.T XI_p):Option (PayL R.T XI_r):=highF (Xf n) (Xg n) (Zl n) p
theorem XI_eq (n:Nat) (p:PayL R.T XI_p):XI n p=highF (Xf n) (Xg n) (Zl n) p:=by unfold XI;rfl
theorem XI_ok (n:Nat) (p:PayL R.T XI_p) (x:PayL R.T XI_r) (h:XI n p=some x):Pure E 43 (encSL R XI_p p) (retV (encSL R XI_r x)):=by
 unfold XI at h
 exact high_ok (Xf_ok n) (Xg_ok n) (Zl_ok n) p x h
noncomputable def regs47 (n:Nat):Nat->List (FR R):=addF 43 ⟨XI_p,XI_r,XI n,dflL R XI_r,false⟩ (regs46 n)
theorem regs47_ok (n:Nat):RegsOK E (regs47 n):=addF_ok (regs46_ok n) (XI_ok n)
def Xh_a:Ann:=⟨[],[]⟩
abbrev Xh_p:List Sk:=[.d (.int .i64),.d (.int .i64),.d (.int .i64),.d (.int .i64)]
abbrev Xh_r:List Sk:=[.d .bool]
@[irreducible] noncomputable def Xh (n:Nat) (p:PayL R.T Xh_p):Option (PayL R.T Xh_r):=funM E R n false (regs47 n) (its4 n) Xh_a Try.f24 Xh_p Xh_r p
theorem Xh_ok (n:Nat) (p:PayL R.T Xh_p) (x:PayL R.T Xh_r) (h:Xh n p=some x):Pure E 24 (encSL R Xh_p p) (retV (encSL R Xh_r x)):=by
 unfold Xh at h
 exact funM_ok rOK (regs47_ok n) (its4_ok n) h Try.func24 rfl rfl rfl rfl (by kernel_rfl)
noncomputable def regs48 (n:Nat):Nat->List (FR R):=addF 24 ⟨Xh_p,Xh_r,Xh n,dflL R Xh_r,false⟩ (regs47 n)
theorem regs48_ok (n:Nat):RegsOK E (regs48 n):=addF_ok (regs47_ok n) (Xh_ok n)
def Xl_a:Ann:=⟨[],[]⟩
abbrev Xl_p:List Sk:=[.d (.int .i64),.cref [.d (.int .i64),.d (.slice (.slice (.int .i64))),.d (.slice (.st 0)),.d (.slice (.int .i64))] 0,.cref [.d (.int .i64)] 0]
abbrev Xl_r:List Sk:=[.d .bool]
@[irreducible] noncomputable def Xl (n:Nat) (p:PayL R.T Xl_p):Option (PayL R.T Xl_r):=funM E R n false (regs48 n) (its4 n) Xl_a Try.f28 Xl_p Xl_r p
theorem Xl_ok (n:Nat) (p:PayL R.T Xl_p) (x:PayL R.T Xl_r) (h:Xl n p=some x):Pure E 28 (encSL R Xl_p p) (retV (encSL R Xl_r x)):=by
 unfold Xl at h
 exact funM_ok rOK (regs48_ok n) (its4_ok n) h Try.func28 rfl rfl rfl rfl (by kernel_rfl)
noncomputable def regs49 (n:Nat):Nat->List (FR R):=addF 28 ⟨Xl_p,Xl_r,Xl n,dflL R Xl_r,false⟩ (regs48 n)
theorem regs49_ok (n:Nat):RegsOK E (regs49 n):=addF_ok (regs48_ok n) (Xl_ok n)
def Zw_a:Ann:=⟨[(2,⟨[0,1,7],[],⟨[(8,.d (.int .i64))],[]⟩,[(.exit 0,⟨[],[]⟩),(.ret,⟨[(4,.d (.int .i64))],[]⟩)]⟩)],[]⟩
abbrev Zw_p:List Sk:=[.d (.slice (.int .i64)),.fn 28 [] [.cref [.d (.int .i64),.d (.slice (.slice (.int .i64))),.d (.slice (.st 0)),.d (.slice (.int .i64))] 0,.cref [.d (.int .i64)] 0]]
abbrev Zw_r:List Sk:=[.d (.int .i64)]
@[irreducible] noncomputable def Zw (n:Nat) (p:PayL R.T Zw_p):Option (PayL R.T Zw_r):=funM E R n false (regs49 n) (its4 n) Zw_a Try.f48 Zw_p Zw_r p
theorem Zw_ok (n:Nat) (p:PayL R.T Zw_p) (x:PayL R.T Zw_r) (h:Zw n p=some x):Pure E 48 (encSL R Zw_p p) (retV (encSL R Zw_r x)):=by
 unfold Zw at h
 exact funM_ok rOK (regs49_ok n) (its4_ok n) h Try.func48 rfl rfl rfl rfl (by kernel_rfl)
noncomputable def regs50 (n:Nat):Nat->List (FR R):=addF 48 ⟨Zw_p,Zw_r,Zw n,dflL R Zw_r,false⟩ (regs49 n)
theorem regs50_ok (n:Nat):RegsOK E (regs50 n):=addF_ok (regs49_ok n) (Zw_ok n)
def Ze_a:Ann:=⟨[(5,⟨[0,1],[1000001,1000002],⟨[(5,.d (.int .i64)),(6,.d (.int .i64))],[(1000000,.arr (.int .i64))]⟩,[(.exit 0,⟨[(5,.d (.int .i64))],[(1000000,.arr (.int .i64))]⟩)]⟩)],[]⟩
abbrev Ze_p:List Sk:=[.vw 1000000 (.int .i64),.fn 28 [] [.ref 1000001 0,.ref 1000002 0]]
abbrev Ze_r:List Sk:=[.sub 1000000 (.int .i64)]
abbrev Ze_o:List (Nat×ObSk):=[(1000000,.arr (.int .i64)),(1000001,.st 3),(1000002,.cells [.d (.int .i64)])]
@[irreducible] noncomputable def Ze (n:Nat) (p:PayL R.T Ze_p) (q:PayOs R.T Ze_o):Option (PayL R.T Ze_r×PayOs R.T Ze_o):=funI E R n false (regs50 n) (its4 n) Ze_a Try.f29 Ze_p Ze_o Ze_r p q
theorem Ze_ok (n:Nat):FMOK1 E 29 Ze_p Ze_o Ze_r (Ze n):=by
 intro p q y q' h
 have h:Ze n p q=some (y,q'):=h
 unfold Ze at h
 exact funI_ok rOK (regs50_ok n) (its4_ok n) h Try.func29 rfl (by kernel_rfl)
noncomputable def its5 (n:Nat):IR R:=addM 29 (mkM Ze_p Ze_o Ze_r (Ze n)) (its4 n)
theorem its5_ok (n:Nat):ItersOK E (its5 n):=addM_ok (m:=mkM Ze_p Ze_o Ze_r (Ze n)) (its4_ok n) (FMOK.M (Ze_ok n))
def Zh_a:Ann:=⟨[(7,⟨[6,8,11,12,13,14,15,16,18],[6,8],⟨[],[(11,.cells [.d (.int .i64)]),(12,.cells [.sub 65 (.int .i64)]),(13,.cells [.d (.int .i64)]),(14,.cells [.d .bool]),(15,.cells [.d (.int .i64)]),(16,.st 3),(18,.cells [.d (.int .i64)]),(65,.arr (.int .i64))]⟩,[(.normal,⟨[],[(11,.cells [.d (.int .i64)]),(12,.cells [.sub 65 (.int .i64)]),(13,.cells [.d (.int .i64)]),(14,.cells [.d .bool]),(15,.cells [.d (.int .i64)]),(16,.st 3),(18,.cells [.d (.int .i64)]),(65,.arr (.int .i64))]⟩),(.ret,⟨[],[(11,.cells [.d (.int .i64)]),(12,.cells [.sub 65 (.int .i64)]),(13,.cells [.d (.int .i64)]),(14,.cells [.d .bool]),(15,.cells [.d (.int .i64)]),(16,.st 3),(18,.cells [.d (.int .i64)]),(65,.arr (.int .i64))]⟩)]⟩)],[]⟩
abbrev Zh_p:List Sk:=[.d (.int .i64),.d (.slice (.slice (.int .i64))),.d (.st 1),.d (.slice (.int .i64)),.d (.int .i64),.d (.int .i64)]
abbrev Zh_r:List Sk:=[.d (.slice (.int .i64)),.d (.int .i64),.d .bool,.d (.int .i64)]
@[irreducible] noncomputable def Zh (n:Nat) (p:PayL R.T Zh_p):Option (PayL R.T Zh_r):=funM E R n false (regs50 n) (its5 n) Zh_a Try.f12 Zh_p Zh_r p
theorem Zh_ok (n:Nat) (p:PayL R.T Zh_p) (x:PayL R.T Zh_r) (h:Zh n p=some x):Pure E 12 (encSL R Zh_p p) (retV (encSL R Zh_r x)):=by
 unfold Zh at h
 exact funM_ok rOK (regs50_ok n) (its5_ok n) h Try.func12 rfl rfl rfl rfl (by kernel_rfl)
noncomputable def regs51 (n:Nat):Nat->List (FR R):=addF 12 ⟨Zh_p,Zh_r,Zh n,dflL R Zh_r,false⟩ (regs50 n)
theorem regs51_ok (n:Nat):RegsOK E (regs51 n):=addF_ok (regs50_ok n) (Zh_ok n)
def Zi_a:Ann:=⟨[(1,⟨[0,1,2,3],[],⟨[(8,.d (.int .i64))],[(1000000,.arr (.int .i64))]⟩,[(.exit 0,⟨[],[(1000000,.arr (.int .i64))]⟩)]⟩),
 (4,⟨[0,1,2,3,8],[],⟨[(9,.d (.int .i64))],[(1000000,.arr (.int .i64))]⟩,[(.exit 2,⟨[],[(1000000,.arr (.int .i64))]⟩)]⟩)],[]⟩
abbrev Zi_p:List Sk:=[.vw 1000000 (.int .i64),.d (.int .i64),.d (.int .i64),.fn 32 [.d (.st 3)] []]
abbrev Zi_r:List Sk:=[]
abbrev Zi_o:List (Nat×ObSk):=[(1000000,.arr (.int .i64))]
@[irreducible] noncomputable def Zi (n:Nat) (p:PayL R.T Zi_p) (q:PayOs R.T Zi_o):Option (PayL R.T Zi_r×PayOs R.T Zi_o):=funI E R n false (regs51 n) (its5 n) Zi_a Try.f74 Zi_p Zi_o Zi_r p q
theorem Zi_ok (n:Nat):FMOK1 E 74 Zi_p Zi_o Zi_r (Zi n):=by
 intro p q y q' h
 have h:Zi n p q=some (y,q'):=h
 unfold Zi at h
 exact funI_ok rOK (regs51_ok n) (its5_ok n) h Try.func74 rfl (by kernel_rfl)
noncomputable def its6 (n:Nat):IR R:=addM 74 (mkM Zi_p Zi_o Zi_r (Zi n)) (its5 n)
theorem its6_ok (n:Nat):ItersOK E (its6 n):=addM_ok (m:=mkM Zi_p Zi_o Zi_r (Zi n)) (its5_ok n) (FMOK.M (Zi_ok n))
def ZL_a:Ann:=⟨[(1,⟨[0,2,3,4],[],⟨[(10,.d (.int .i64))],[(1000000,.arr (.int .i64))]⟩,[(.exit 0,⟨[],[(1000000,.arr (.int .i64))]⟩),(.ret,⟨[],[(1000000,.arr (.int .i64))]⟩)]⟩)],[(5,⟨[0,2,3,4,10],[1000000],⟨[],[]⟩,[(.normal,⟨[(11,.d (.int .i64))],[]⟩)]⟩)]⟩
abbrev ZL_p:List Sk:=[.vw 1000000 (.int .i64),.d (.int .i64),.d (.int .i64),.d (.int .i64),.fn 32 [.d (.st 3)] []]
abbrev ZL_r:List Sk:=[]
abbrev ZL_o:List (Nat×ObSk):=[(1000000,.arr (.int .i64))]
@[irreducible] noncomputable def ZL (n:Nat) (p:PayL R.T ZL_p) (q:PayOs R.T ZL_o):Option (PayL R.T ZL_r×PayOs R.T ZL_o):=funI E R n false (regs51 n) (its6 n) ZL_a Try.f98 ZL_p ZL_o ZL_r p q
theorem ZL_ok (n:Nat):FMOK1 E 98 ZL_p ZL_o ZL_r (ZL n):=by
 intro p q y q' h
 have h:ZL n p q=some (y,q'):=h
 unfold ZL at h
 exact funI_ok rOK (regs51_ok n) (its6_ok n) h Try.func98 rfl (by kernel_rfl)
noncomputable def its7 (n:Nat):IR R:=addM 98 (mkM ZL_p ZL_o ZL_r (ZL n)) (its6 n)
theorem its7_ok (n:Nat):ItersOK E (its7 n):=addM_ok (m:=mkM ZL_p ZL_o ZL_r (ZL n)) (its6_ok n) (FMOK.M (ZL_ok n))
def Zn_a:Ann:=⟨[(4,⟨[0,3,8,9,10],[],⟨[(11,.d (.int .i64))],[(1000000,.arr (.int .i64))]⟩,[(.exit 0,⟨[],[(1000000,.arr (.int .i64))]⟩)]⟩),
 (8,⟨[0,3,8,9],[],⟨[(12,.d (.int .i64))],[(1000000,.arr (.int .i64))]⟩,[(.exit 2,⟨[],[(1000000,.arr (.int .i64))]⟩)]⟩)],[]⟩
abbrev Zn_p:List Sk:=[.vw 1000000 (.int .i64),.d (.int .i64),.d (.int .i64),.fn 32 [.d (.st 3)] []]
abbrev Zn_r:List Sk:=[]
abbrev Zn_o:List (Nat×ObSk):=[(1000000,.arr (.int .i64))]
@[irreducible] noncomputable def Zn (n:Nat) (p:PayL R.T Zn_p) (q:PayOs R.T Zn_o):Option (PayL R.T Zn_r×PayOs R.T Zn_o):=funI E R n false (regs51 n) (its7 n) Zn_a Try.f75 Zn_p Zn_o Zn_r p q
theorem Zn_ok (n:Nat):FMOK1 E 75 Zn_p Zn_o Zn_r (Zn n):=by
 intro p q y q' h
 have h:Zn n p q=some (y,q'):=h
 unfold Zn at h
 exact funI_ok rOK (regs51_ok n) (its7_ok n) h Try.func75 rfl (by kernel_rfl)
noncomputable def its8 (n:Nat):IR R:=addM 75 (mkM Zn_p Zn_o Zn_r (Zn n)) (its7 n)
theorem its8_ok (n:Nat):ItersOK E (its8 n):=addM_ok (m:=mkM Zn_p Zn_o Zn_r (Zn n)) (its7_ok n) (FMOK.M (Zn_ok n))
def Xm_a:Ann:=⟨[],[]⟩
abbrev Xm_p:List Sk:=[.d (.int .i64)]
abbrev Xm_r:List Sk:=[.d (.int .u64)]
@[irreducible] noncomputable def Xm (n:Nat) (p:PayL R.T Xm_p):Option (PayL R.T Xm_r):=funM E R n false (regs51 n) (its8 n) Xm_a Try.f99 Xm_p Xm_r p
theorem Xm_ok (n:Nat) (p:PayL R.T Xm_p) (x:PayL R.T Xm_r) (h:Xm n p=some x):Pure E 99 (encSL R Xm_p p) (retV (encSL R Xm_r x)):=by
 unfold Xm at h
 exact funM_ok rOK (regs51_ok n) (its8_ok n) h Try.func99 rfl rfl rfl rfl (by kernel_rfl)
noncomputable def regs52 (n:Nat):Nat->List (FR R):=addF 99 ⟨Xm_p,Xm_r,Xm n,dflL R Xm_r,false⟩ (regs51 n)
theorem regs52_ok (n:Nat):RegsOK E (regs52 n):=addF_ok (regs51_ok n) (Xm_ok n)
def ZP_a:Ann:=⟨[],[]⟩
abbrev ZP_p:List Sk:=[.ref 1000000 0]
abbrev ZP_r:List Sk:=[.d (.int .u64)]
abbrev ZP_o:List (Nat×ObSk):=[(1000000,.cells [.d (.int .u64)])]
@[irreducible] noncomputable def ZP (n:Nat) (p:PayL R.T ZP_p) (q:PayOs R.T ZP_o):Option (PayL R.T ZP_r×PayOs R.T ZP_o):=funI E R n false (regs52 n) (its8 n) ZP_a Try.f100 ZP_p ZP_o ZP_r p q
theorem ZP_ok (n:Nat):FMOK1 E 100 ZP_p ZP_o ZP_r (ZP n):=by
 intro p q y q' h
 have h:ZP n p q=some (y,q'):=h
 unfold ZP at h
 exact funI_ok rOK (regs52_ok n) (its8_ok n) h Try.func100 rfl (by kernel_rfl)
noncomputable def its9 (n:Nat):IR R:=addM 100 (mkM ZP_p ZP_o ZP_r (ZP n)) (its8 n)
theorem its9_ok (n:Nat):ItersOK E (its9 n):=addM_ok (m:=mkM ZP_p ZP_o ZP_r (ZP n)) (its8_ok n) (FMOK.M (ZP_ok n))
def ZH_a:Ann:=⟨[(5,⟨[0,1,8,9,10],[],⟨[(11,.d (.int .i64))],[(9,.cells [.d (.int .u64)]),(1000000,.arr (.int .i64))]⟩,[(.exit 0,⟨[],[(1000000,.arr (.int .i64))]⟩)]⟩)],[(10,⟨[0,1,8,9,10,11],[9,1000000],⟨[],[]⟩,[(.normal,⟨[(12,.d (.int .i64))],[]⟩)]⟩)]⟩
abbrev ZH_p:List Sk:=[.vw 1000000 (.int .i64),.d (.int .i64),.d (.int .i64),.fn 32 [.d (.st 3)] []]
abbrev ZH_r:List Sk:=[]
abbrev ZH_o:List (Nat×ObSk):=[(1000000,.arr (.int .i64))]
@[irreducible] noncomputable def ZH (n:Nat) (p:PayL R.T ZH_p) (q:PayOs R.T ZH_o):Option (PayL R.T ZH_r×PayOs R.T ZH_o):=funI E R n false (regs52 n) (its9 n) ZH_a Try.f76 ZH_p ZH_o ZH_r p q
theorem ZH_ok (n:Nat):FMOK1 E 76 ZH_p ZH_o ZH_r (ZH n):=by
 intro p q y q' h
 have h:ZH n p q=some (y,q'):=h
 unfold ZH at h
 exact funI_ok rOK (regs52_ok n) (its9_ok n) h Try.func76 rfl (by kernel_rfl)
noncomputable def its10 (n:Nat):IR R:=addM 76 (mkM ZH_p ZH_o ZH_r (ZH n)) (its9 n)
theorem its10_ok (n:Nat):ItersOK E (its10 n):=addM_ok (m:=mkM ZH_p ZH_o ZH_r (ZH n)) (its9_ok n) (FMOK.M (ZH_ok n))
def ZX_a:Ann:=⟨[],[]⟩
abbrev ZX_p:List Sk:=[.d (.slice (.int .i64)),.d (.int .i64),.d (.int .i64),.ref 1000000 0,.fn 32 [.d (.st 3)] []]
abbrev ZX_r:List Sk:=[.d (.int .i64),.d (.int .i64)]
abbrev ZX_o:List (Nat×ObSk):=[(1000000,.cells [.d (.int .i64)])]
@[irreducible] noncomputable def ZX (n:Nat) (p:PayL R.T ZX_p) (q:PayOs R.T ZX_o):Option (PayL R.T ZX_r×PayOs R.T ZX_o):=funI E R n false (regs52 n) (its10 n) ZX_a Try.f106 ZX_p ZX_o ZX_r p q
theorem ZX_ok (n:Nat):FMOK1 E 106 ZX_p ZX_o ZX_r (ZX n):=by
 intro p q y q' h
 have h:ZX n p q=some (y,q'):=h
 unfold ZX at h
 exact funI_ok rOK (regs52_ok n) (its10_ok n) h Try.func106 rfl (by kernel_rfl)
noncomputable def its11 (n:Nat):IR R:=addM 106 (mkM ZX_p ZX_o ZX_r (ZX n)) (its10 n)
theorem its11_ok (n:Nat):ItersOK E (its11 n):=addM_ok (m:=mkM ZX_p ZX_o ZX_r (ZX n)) (its10_ok n) (FMOK.M (ZX_ok n))
def ZY_a:Ann:=⟨[],[]⟩
abbrev ZY_p:List Sk:=[.d (.slice (.int .i64)),.d (.int .i64),.d (.int .i64),.d (.int .i64),.ref 1000000 0,.fn 32 [.d (.st 3)] []]
abbrev ZY_r:List Sk:=[.d (.int .i64)]
abbrev ZY_o:List (Nat×ObSk):=[(1000000,.cells [.d (.int .i64)])]
@[irreducible] noncomputable def ZY (n:Nat) (p:PayL R.T ZY_p) (q:PayOs R.T ZY_o):Option (PayL R.T ZY_r×PayOs R.T ZY_o):=funI E R n false (regs52 n) (its11 n) ZY_a Try.f102 ZY_p ZY_o ZY_r p q
theorem ZY_ok (n:Nat):FMOK1 E 102 ZY_p ZY_o ZY_r (ZY n):=by
 intro p q y q' h
 have h:ZY n p q=some (y,q'):=h
 unfold ZY at h
 exact funI_ok rOK (regs52_ok n) (its11_ok n) h Try.func102 rfl (by kernel_rfl)
noncomputable def its12 (n:Nat):IR R:=addM 102 (mkM ZY_p ZY_o ZY_r (ZY n)) (its11 n)
theorem its12_ok (n:Nat):ItersOK E (its12 n):=addM_ok (m:=mkM ZY_p ZY_o ZY_r (ZY n)) (its11_ok n) (FMOK.M (ZY_ok n))
def ZZ_a:Ann:=⟨[],[]⟩
abbrev ZZ_p:List Sk:=[.d (.slice (.int .i64)),.d (.int .i64),.ref 1000000 0,.fn 32 [.d (.st 3)] []]
abbrev ZZ_r:List Sk:=[.d (.int .i64)]
abbrev ZZ_o:List (Nat×ObSk):=[(1000000,.cells [.d (.int .i64)])]
@[irreducible] noncomputable def ZZ (n:Nat) (p:PayL R.T ZZ_p) (q:PayOs R.T ZZ_o):Option (PayL R.T ZZ_r×PayOs R.T ZZ_o):=funI E R n false (regs52 n) (its12 n) ZZ_a Try.f101 ZZ_p ZZ_o ZZ_r p q
theorem ZZ_ok (n:Nat):FMOK1 E 101 ZZ_p ZZ_o ZZ_r (ZZ n):=by
 intro p q y q' h
 have h:ZZ n p q=some (y,q'):=h
 unfold ZZ at h
 exact funI_ok rOK (regs52_ok n) (its12_ok n) h Try.func101 rfl (by kernel_rfl)
noncomputable def its13 (n:Nat):IR R:=addM 101 (mkM ZZ_p ZZ_o ZZ_r (ZZ n)) (its12 n)
theorem its13_ok (n:Nat):ItersOK E (its13 n):=addM_ok (m:=mkM ZZ_p ZZ_o ZZ_r (ZZ n)) (its12_ok n) (FMOK.M (ZZ_ok n))
def XK_a:Ann:=⟨[],[]⟩
abbrev XK_p:List Sk:=[.d (.slice (.int .i64)),.d (.int .i64),.d (.int .i64),.fn 32 [.d (.st 3)] []]
abbrev XK_r:List Sk:=[.d (.int .i64),.d (.int .i64)]
@[irreducible] noncomputable def XK (n:Nat) (p:PayL R.T XK_p):Option (PayL R.T XK_r):=funM E R n false (regs52 n) (its13 n) XK_a Try.f77 XK_p XK_r p
theorem XK_ok (n:Nat) (p:PayL R.T XK_p) (x:PayL R.T XK_r) (h:XK n p=some x):Pure E 77 (encSL R XK_p p) (retV (encSL R XK_r x)):=by
 unfold XK at h
 exact funM_ok rOK (regs52_ok n) (its13_ok n) h Try.func77 rfl rfl rfl rfl (by kernel_rfl)
noncomputable def regs53 (n:Nat):Nat->List (FR R):=addF 77 ⟨XK_p,XK_r,XK n,dflL R XK_r,false⟩ (regs52 n)
theorem regs53_ok (n:Nat):RegsOK E (regs53 n):=addF_ok (regs52_ok n) (XK_ok n)
def Zs_a:Ann:=⟨[(2,⟨[0],[],⟨[(8,.d (.int .i64)),(9,.d (.int .i64))],[(1000000,.arr (.int .i64))]⟩,[(.exit 0,⟨[],[(1000000,.arr (.int .i64))]⟩)]⟩)],[]⟩
abbrev Zs_p:List Sk:=[.vw 1000000 (.int .i64),.d (.int .i64),.d (.int .i64),.fn 32 [.d (.st 3)] []]
abbrev Zs_r:List Sk:=[]
abbrev Zs_o:List (Nat×ObSk):=[(1000000,.arr (.int .i64))]
@[irreducible] noncomputable def Zs (n:Nat) (p:PayL R.T Zs_p) (q:PayOs R.T Zs_o):Option (PayL R.T Zs_r×PayOs R.T Zs_o):=funI E R n false (regs53 n) (its13 n) Zs_a Try.f78 Zs_p Zs_o Zs_r p q
theorem Zs_ok (n:Nat):FMOK1 E 78 Zs_p Zs_o Zs_r (Zs n):=by
 intro p q y q' h
 have h:Zs n p q=some (y,q'):=h
 unfold Zs at h
 exact funI_ok rOK (regs53_ok n) (its13_ok n) h Try.func78 rfl (by kernel_rfl)
noncomputable def its14 (n:Nat):IR R:=addM 78 (mkM Zs_p Zs_o Zs_r (Zs n)) (its13 n)
theorem its14_ok (n:Nat):ItersOK E (its14 n):=addM_ok (m:=mkM Zs_p Zs_o Zs_r (Zs n)) (its13_ok n) (FMOK.M (Zs_ok n))
def Zb_a:Ann:=⟨[(3,⟨[0,1,2,3],[],⟨[(9,.d (.int .i64)),(10,.d (.int .i64))],[(1000000,.arr (.int .i64))]⟩,[(.exit 0,⟨[],[(1000000,.arr (.int .i64))]⟩),(.ret,⟨[(8,.d .bool)],[(1000000,.arr (.int .i64))]⟩)]⟩),
 (5,⟨[0,1,2,3,10],[1000000],⟨[(9,.d (.int .i64))],[]⟩,[(.exit 2,⟨[(9,.d (.int .i64))],[]⟩)]⟩),
 (14,⟨[0,1,2,3,9,10],[],⟨[(11,.d (.int .i64))],[(1000000,.arr (.int .i64))]⟩,[(.exit 4,⟨[],[(1000000,.arr (.int .i64))]⟩)]⟩),
 (20,⟨[0,1,2,3,9,10],[],⟨[(12,.d (.int .i64))],[(1000000,.arr (.int .i64))]⟩,[(.exit 6,⟨[],[(1000000,.arr (.int .i64))]⟩)]⟩)],[(18,⟨[0,1,2,3,9,10],[],⟨[],[]⟩,[(.normal,⟨[],[(1000000,.arr (.int .i64))]⟩)]⟩)]⟩
abbrev Zb_p:List Sk:=[.vw 1000000 (.int .i64),.d (.int .i64),.d (.int .i64),.fn 32 [.d (.st 3)] []]
abbrev Zb_r:List Sk:=[.d .bool]
abbrev Zb_o:List (Nat×ObSk):=[(1000000,.arr (.int .i64))]
@[irreducible] noncomputable def Zb (n:Nat) (p:PayL R.T Zb_p) (q:PayOs R.T Zb_o):Option (PayL R.T Zb_r×PayOs R.T Zb_o):=funI E R n false (regs53 n) (its14 n) Zb_a Try.f79 Zb_p Zb_o Zb_r p q
theorem Zb_ok (n:Nat):FMOK1 E 79 Zb_p Zb_o Zb_r (Zb n):=by
 intro p q y q' h
 have h:Zb n p q=some (y,q'):=h
 unfold Zb at h
 exact funI_ok rOK (regs53_ok n) (its14_ok n) h Try.func79 rfl (by kernel_rfl)
noncomputable def its15 (n:Nat):IR R:=addM 79 (mkM Zb_p Zb_o Zb_r (Zb n)) (its14 n)
theorem its15_ok (n:Nat):ItersOK E (its15 n):=addM_ok (m:=mkM Zb_p Zb_o Zb_r (Zb n)) (its14_ok n) (FMOK.M (Zb_ok n))
def Zf_a:Ann:=⟨[(503,⟨[0,1,4],[],⟨[(11,.d (.int .i64)),(12,.d (.int .i64))],[(1000000,.arr (.int .i64))]⟩,[(.exit 0,⟨[(11,.d (.int .i64))],[(1000000,.arr (.int .i64))]⟩)]⟩),
 (3,⟨[0,1,4,12],[1000000],⟨[(11,.d (.int .i64))],[]⟩,[(.exit 2,⟨[(11,.d (.int .i64))],[]⟩)]⟩),
 (5,⟨[0,1,4,11],[1000000],⟨[(12,.d (.int .i64))],[]⟩,[(.exit 4,⟨[(12,.d (.int .i64))],[]⟩)]⟩)],[]⟩
abbrev Zf_p:List Sk:=[.vw 1000000 (.int .i64),.d (.int .i64),.d (.int .i64),.d (.int .i64),.fn 32 [.d (.st 3)] []]
abbrev Zf_r:List Sk:=[.d (.int .i64)]
abbrev Zf_o:List (Nat×ObSk):=[(1000000,.arr (.int .i64))]
@[irreducible] noncomputable def Zf (n:Nat) (p:PayL R.T Zf_p) (q:PayOs R.T Zf_o):Option (PayL R.T Zf_r×PayOs R.T Zf_o):=funI E R n false (regs53 n) (its15 n) Zf_a Try.f80 Zf_p Zf_o Zf_r p q
theorem Zf_ok (n:Nat):FMOK1 E 80 Zf_p Zf_o Zf_r (Zf n):=by
 intro p q y q' h
 have h:Zf n p q=some (y,q'):=h
 unfold Zf at h
 exact funI_ok rOK (regs53_ok n) (its15_ok n) h Try.func80 rfl (by kernel_rfl)
noncomputable def its16 (n:Nat):IR R:=addM 80 (mkM Zf_p Zf_o Zf_r (Zf n)) (its15 n)
theorem its16_ok (n:Nat):ItersOK E (its16 n):=addM_ok (m:=mkM Zf_p Zf_o Zf_r (Zf n)) (its15_ok n) (FMOK.M (Zf_ok n))
def QR_a:Ann:=⟨[(3,⟨[0,1,4,13],[1000000],⟨[(12,.d (.int .i64))],[]⟩,[(.exit 0,⟨[(12,.d (.int .i64))],[]⟩)]⟩),
 (5,⟨[0,1,4,12],[1000000],⟨[(13,.d (.int .i64))],[]⟩,[(.exit 2,⟨[(13,.d (.int .i64))],[]⟩)]⟩),
 (513,⟨[0,1,4],[],⟨[(12,.d (.int .i64)),(13,.d (.int .i64))],[(1000000,.arr (.int .i64))]⟩,[(.exit 4,⟨[(13,.d (.int .i64))],[(1000000,.arr (.int .i64))]⟩)]⟩),
 (13,⟨[0,1,4,13],[1000000],⟨[(12,.d (.int .i64))],[]⟩,[(.exit 6,⟨[(12,.d (.int .i64))],[]⟩)]⟩),
 (15,⟨[0,1,4,12],[1000000],⟨[(13,.d (.int .i64))],[]⟩,[(.exit 8,⟨[(13,.d (.int .i64))],[]⟩)]⟩)],[]⟩
abbrev QR_p:List Sk:=[.vw 1000000 (.int .i64),.d (.int .i64),.d (.int .i64),.d (.int .i64),.fn 32 [.d (.st 3)] []]
abbrev QR_r:List Sk:=[.d (.int .i64),.d .bool]
abbrev QR_o:List (Nat×ObSk):=[(1000000,.arr (.int .i64))]
@[irreducible] noncomputable def QR (n:Nat) (p:PayL R.T QR_p) (q:PayOs R.T QR_o):Option (PayL R.T QR_r×PayOs R.T QR_o):=funI E R n false (regs53 n) (its16 n) QR_a Try.f81 QR_p QR_o QR_r p q
theorem QR_ok (n:Nat):FMOK1 E 81 QR_p QR_o QR_r (QR n):=by
 intro p q y q' h
 have h:QR n p q=some (y,q'):=h
 unfold QR at h
 exact funI_ok rOK (regs53_ok n) (its16_ok n) h Try.func81 rfl (by kernel_rfl)
noncomputable def its17 (n:Nat):IR R:=addM 81 (mkM QR_p QR_o QR_r (QR n)) (its16 n)
theorem its17_ok (n:Nat):ItersOK E (its17 n):=addM_ok (m:=mkM QR_p QR_o QR_r (QR n)) (its16_ok n) (FMOK.M (QR_ok n))
def QP_a:Ann:=⟨[(2,⟨[0,4],[],⟨[(1,.d (.int .i64)),(2,.d (.int .i64)),(3,.d (.int .i64)),(10,.d .bool),(11,.d .bool)],[(1000000,.arr (.int .i64))]⟩,[(.ret,⟨[],[(1000000,.arr (.int .i64))]⟩)]⟩)],[(10,⟨[0,1,2,4,10,11,12],[],⟨[],[]⟩,[(.normal,⟨[(3,.d (.int .i64))],[(1000000,.arr (.int .i64))]⟩)]⟩),(15,⟨[0,1,2,3,4,10,11,12],[],⟨[],[]⟩,[(.normal,⟨[(13,.d (.int .i64)),(14,.d (.int .i64))],[(1000000,.arr (.int .i64))]⟩)]⟩),(17,⟨[0,1,2,3,4,10,11,12,13],[],⟨[],[]⟩,[(.normal,⟨[],[(1000000,.arr (.int .i64))]⟩),(.ret,⟨[],[(1000000,.arr (.int .i64))]⟩)]⟩)]⟩
abbrev QP_p:List Sk:=[.vw 1000000 (.int .i64),.d (.int .i64),.d (.int .i64),.d (.int .i64),.fn 32 [.d (.st 3)] []]
abbrev QP_r:List Sk:=[]
abbrev QP_o:List (Nat×ObSk):=[(1000000,.arr (.int .i64))]
noncomputable def QP_m (n:Nat):Nat->PayL R.T QP_p->PayOs R.T QP_o->Option (PayL R.T QP_r×PayOs R.T QP_o)
 |0,_,_=>none
 |m+1,p,q=>funI E R n false (regs53 n) (addM 64 (mkM QP_p QP_o QP_r (QP_m n m)) (its17 n)) QP_a Try.f64 QP_p QP_o QP_r p q
attribute [irreducible] QP_m
theorem QP_e (n m:Nat) (p:PayL R.T QP_p) (q:PayOs R.T QP_o):QP_m n (m+1) p q=funI E R n false (regs53 n) (addM 64 (mkM QP_p QP_o QP_r (QP_m n m)) (its17 n)) QP_a Try.f64 QP_p QP_o QP_r p q:=by kernel_rfl
theorem QP_e0 (n:Nat) (p:PayL R.T QP_p) (q:PayOs R.T QP_o):QP_m n 0 p q=none:=by kernel_rfl
theorem slices_pdqsortCmpFunc_int_mok (n:Nat):∀m,FMOK1 E 64 QP_p QP_o QP_r (QP_m n m)
 |0=>fun p q y q' h=>absurd (((QP_e0 n p q).symm.trans h)) nofun
 |m+1=>fun p q y q' h=>funI_ok rOK (regs53_ok n) (addM_ok (m:=(mkM QP_p QP_o QP_r (QP_m n m))) (its17_ok n) (FMOK.M (slices_pdqsortCmpFunc_int_mok n m))) ((QP_e n m p q).symm.trans h) Try.func64 rfl (by kernel_rfl)
@[irreducible] noncomputable def QP (n:Nat):PayL R.T QP_p->PayOs R.T QP_o->Option (PayL R.T QP_r×PayOs R.T QP_o):=QP_m n n
theorem QP_ok (n:Nat):FMOK1 E 64 QP_p QP_o QP_r (QP n):=by
 unfold QP
 exact slices_pdqsortCmpFunc_int_mok n n
noncomputable def its18 (n:Nat):IR R:=addM 64 (mkM QP_p QP_o QP_r (QP n)) (its17 n)
theorem its18_ok (n:Nat):ItersOK E (its18 n):=addM_ok (m:=mkM QP_p QP_o QP_r (QP n)) (its17_ok n) (FMOK.M (QP_ok n))
def ZR_a:Ann:=⟨[],[]⟩
abbrev ZR_p:List Sk:=[.vw 1000000 (.int .i64),.fn 32 [.d (.st 3)] []]
abbrev ZR_r:List Sk:=[]
abbrev ZR_o:List (Nat×ObSk):=[(1000000,.arr (.int .i64))]
@[irreducible] noncomputable def ZR (n:Nat) (p:PayL R.T ZR_p) (q:PayOs R.T ZR_o):Option (PayL R.T ZR_r×PayOs R.T ZR_o):=funI E R n false (regs53 n) (its18 n) ZR_a Try.f49 ZR_p ZR_o ZR_r p q
theorem ZR_ok (n:Nat):FMOK1 E 49 ZR_p ZR_o ZR_r (ZR n):=by
 intro p q y q' h
 have h:ZR n p q=some (y,q'):=h
 unfold ZR at h
 exact funI_ok rOK (regs53_ok n) (its18_ok n) h Try.func49 rfl (by kernel_rfl)
noncomputable def its19 (n:Nat):IR R:=addM 49 (mkM ZR_p ZR_o ZR_r (ZR n)) (its18 n)
theorem its19_ok (n:Nat):ItersOK E (its19 n):=addM_ok (m:=mkM ZR_p ZR_o ZR_r (ZR n)) (its18_ok n) (FMOK.M (ZR_ok n))
def Xs_a:Ann:=⟨[],[]⟩
abbrev Xs_p:List Sk:=[.d (.slice (.int .i64)),.fn 32 [.d (.st 3)] []]
abbrev Xs_r:List Sk:=[.d (.slice (.int .i64))]
@[irreducible] noncomputable def Xs (n:Nat) (p:PayL R.T Xs_p):Option (PayL R.T Xs_r):=funM E R n false (regs53 n) (its19 n) Xs_a Try.f31 Xs_p Xs_r p
theorem Xs_ok (n:Nat) (p:PayL R.T Xs_p) (x:PayL R.T Xs_r) (h:Xs n p=some x):Pure E 31 (encSL R Xs_p p) (retV (encSL R Xs_r x)):=by
 unfold Xs at h
 exact funM_ok rOK (regs53_ok n) (its19_ok n) h Try.func31 rfl rfl rfl rfl (by kernel_rfl)
noncomputable def regs54 (n:Nat):Nat->List (FR R):=addF 31 ⟨Xs_p,Xs_r,Xs n,dflL R Xs_r,false⟩ (regs53 n)
theorem regs54_ok (n:Nat):RegsOK E (regs54 n):=addF_ok (regs53_ok n) (Xs_ok n)
def Zq_a:Ann:=⟨[(7,⟨[0,1,5,8,16,18],[8,16],⟨[],[(18,.cells [.d (.int .i64)])]⟩,[(.normal,⟨[],[(18,.cells [.d (.int .i64)])]⟩)]⟩)],[]⟩
abbrev Zq_p:List Sk:=[.d (.int .i64),.d (.slice (.slice (.int .i64))),.d (.st 1),.d (.slice (.int .i64)),.d (.int .i64),.d (.int .i64)]
abbrev Zq_r:List Sk:=[.d (.slice (.int .i64)),.d (.int .i64),.d .bool,.d (.int .i64)]
@[irreducible] noncomputable def Zq (n:Nat) (p:PayL R.T Zq_p):Option (PayL R.T Zq_r):=funM E R n false (regs54 n) (its19 n) Zq_a Try.f13 Zq_p Zq_r p
theorem Zq_ok (n:Nat) (p:PayL R.T Zq_p) (x:PayL R.T Zq_r) (h:Zq n p=some x):Pure E 13 (encSL R Zq_p p) (retV (encSL R Zq_r x)):=by
 unfold Zq at h
 exact funM_ok rOK (regs54_ok n) (its19_ok n) h Try.func13 rfl rfl rfl rfl (by kernel_rfl)
noncomputable def regs55 (n:Nat):Nat->List (FR R):=addF 13 ⟨Zq_p,Zq_r,Zq n,dflL R Zq_r,false⟩ (regs54 n)
theorem regs55_ok (n:Nat):RegsOK E (regs55 n):=addF_ok (regs54_ok n) (Zq_ok n)
def XN_a:Ann:=⟨[(11,⟨[0,1,3,9,16,19],[9],⟨[(26,.d .bool),(27,.d (.int .i64))],[]⟩,[(.exit 0,⟨[(26,.d .bool)],[]⟩),(.ret,⟨[(14,.d .bool)],[]⟩)]⟩),
 (19,⟨[0,1,3,9,16,19,26,27,28],[9],⟨[(29,.d .bool),(30,.d (.int .i64))],[]⟩,[(.exit 2,⟨[(29,.d .bool)],[]⟩),(.ret,⟨[(14,.d .bool)],[]⟩)]⟩)],[]⟩
abbrev XN_p:List Sk:=[.d (.int .i64),.d (.slice (.slice (.int .i64))),.d (.st 1),.d (.slice (.int .i64)),.d (.int .u8),.d (.int .i64),.d (.int .u8)]
abbrev XN_r:List Sk:=[.d .bool]
@[irreducible] noncomputable def XN (n:Nat) (p:PayL R.T XN_p):Option (PayL R.T XN_r):=funM E R n false (regs55 n) (its19 n) XN_a Try.f3 XN_p XN_r p
theorem XN_ok (n:Nat) (p:PayL R.T XN_p) (x:PayL R.T XN_r) (h:XN n p=some x):Pure E 3 (encSL R XN_p p) (retV (encSL R XN_r x)):=by
 unfold XN at h
 exact funM_ok rOK (regs55_ok n) (its19_ok n) h Try.func3 rfl rfl rfl rfl (by kernel_rfl)
noncomputable def regs56 (n:Nat):Nat->List (FR R):=addF 3 ⟨XN_p,XN_r,XN n,dflL R XN_r,false⟩ (regs55 n)
theorem regs56_ok (n:Nat):RegsOK E (regs56 n):=addF_ok (regs55_ok n) (XN_ok n)
def XB_a:Ann:=⟨[],[]⟩
abbrev XB_p:List Sk:=[.d (.slice (.int .i64))]
abbrev XB_r:List Sk:=[.fn 60 [] [.cref [.d (.slice (.int .i64))] 0]]
@[irreducible] noncomputable def XB (n:Nat) (p:PayL R.T XB_p):Option (PayL R.T XB_r):=funM E R n false (regs56 n) (its19 n) XB_a Try.f38 XB_p XB_r p
theorem XB_ok (n:Nat) (p:PayL R.T XB_p) (x:PayL R.T XB_r) (h:XB n p=some x):Pure E 38 (encSL R XB_p p) (retV (encSL R XB_r x)):=by
 unfold XB at h
 exact funM_ok rOK (regs56_ok n) (its19_ok n) h Try.func38 rfl rfl rfl rfl (by kernel_rfl)
noncomputable def regs57 (n:Nat):Nat->List (FR R):=addF 38 ⟨XB_p,XB_r,XB n,dflL R XB_r,false⟩ (regs56 n)
theorem regs57_ok (n:Nat):RegsOK E (regs57 n):=addF_ok (regs56_ok n) (XB_ok n)
def Zr_a:Ann:=⟨[(3,⟨[2],[],⟨[],[(2,.cells [.vw 11 (.int .i64)]),(11,.arr (.int .i64))]⟩,[(.normal,⟨[],[(2,.cells [.vw 11 (.int .i64)]),(11,.arr (.int .i64))]⟩)]⟩)],[]⟩
abbrev Zr_p:List Sk:=[.nils,.fn 60 [] [.cref [.d (.slice (.int .i64))] 0]]
abbrev Zr_o:List (Nat×ObSk):=[]
abbrev slices_AppendSeq_int_int_2_w:List (Nat×ObSk):=[]
abbrev slices_AppendSeq_int_int_2_k:NK:=.arr (.int .i64)
@[irreducible] noncomputable def Zr (n:Nat) (p:PayL R.T Zr_p) (q:PayOs R.T Zr_o):Option (PayN R.T slices_AppendSeq_int_int_2_k×PayOs R.T slices_AppendSeq_int_int_2_w):=funN E R n true (regs57 n) (its19 n) Zr_a Try.f45 Zr_p Zr_o slices_AppendSeq_int_int_2_k slices_AppendSeq_int_int_2_w p q
theorem Zr_ok (n:Nat):FNOK1 E 45 Zr_p Zr_o slices_AppendSeq_int_int_2_k slices_AppendSeq_int_int_2_w (Zr n):=by
 intro p q y q' h
 have h:Zr n p q=some (y,q'):=h
 unfold Zr at h
 exact funN_ok' rOK (regs57_ok n) (its19_ok n) h Try.func45 rfl (by kernel_rfl)
noncomputable def its20 (n:Nat):IR R:=addM 45 (mkN Zr_p Zr_o slices_AppendSeq_int_int_2_k slices_AppendSeq_int_int_2_w (Zr n)) (its19 n)
theorem its20_ok (n:Nat):ItersOK E (its20 n):=addM_ok (m:=mkN Zr_p Zr_o slices_AppendSeq_int_int_2_k slices_AppendSeq_int_int_2_w (Zr n)) (its19_ok n) (FMOK.N (Zr_ok n))
def Xn_a:Ann:=⟨[],[]⟩
abbrev Xn_p:List Sk:=[.fn 60 [] [.cref [.d (.slice (.int .i64))] 0]]
abbrev Xn_o:List (Nat×ObSk):=[]
abbrev slices_Collect_int_2_w:List (Nat×ObSk):=[]
abbrev slices_Collect_int_2_k:NK:=.arr (.int .i64)
@[irreducible] noncomputable def Xn (n:Nat) (p:PayL R.T Xn_p) (q:PayOs R.T Xn_o):Option (PayN R.T slices_Collect_int_2_k×PayOs R.T slices_Collect_int_2_w):=funN E R n false (regs57 n) (its20 n) Xn_a Try.f26 Xn_p Xn_o slices_Collect_int_2_k slices_Collect_int_2_w p q
theorem Xn_ok (n:Nat):FNOK1 E 26 Xn_p Xn_o slices_Collect_int_2_k slices_Collect_int_2_w (Xn n):=by
 intro p q y q' h
 have h:Xn n p q=some (y,q'):=h
 unfold Xn at h
 exact funN_ok' rOK (regs57_ok n) (its20_ok n) h Try.func26 rfl (by kernel_rfl)
noncomputable def its21 (n:Nat):IR R:=addM 26 (mkN Xn_p Xn_o slices_Collect_int_2_k slices_Collect_int_2_w (Xn n)) (its20 n)
theorem its21_ok (n:Nat):ItersOK E (its21 n):=addM_ok (m:=mkN Xn_p Xn_o slices_Collect_int_2_k slices_Collect_int_2_w (Xn n)) (its20_ok n) (FMOK.N (Xn_ok n))
def Xt_a:Ann:=⟨[],[]⟩
abbrev Xt_p:List Sk:=[.d (.int .i64),.d (.int .i64)]
abbrev Xt_r:List Sk:=[.d .bool]
@[irreducible] noncomputable def Xt (n:Nat) (p:PayL R.T Xt_p):Option (PayL R.T Xt_r):=funM E R n false (regs57 n) (its21 n) Xt_a Try.f90 Xt_p Xt_r p
theorem Xt_ok (n:Nat) (p:PayL R.T Xt_p) (x:PayL R.T Xt_r) (h:Xt n p=some x):Pure E 90 (encSL R Xt_p p) (retV (encSL R Xt_r x)):=by
 unfold Xt at h
 exact funM_ok rOK (regs57_ok n) (its21_ok n) h Try.func90 rfl rfl rfl rfl (by kernel_rfl)
noncomputable def regs58 (n:Nat):Nat->List (FR R):=addF 90 ⟨Xt_p,Xt_r,Xt n,dflL R Xt_r,false⟩ (regs57 n)
theorem regs58_ok (n:Nat):RegsOK E (regs58 n):=addF_ok (regs57_ok n) (Xt_ok n)
def Zj_a:Ann:=⟨[(1,⟨[0,1,2],[],⟨[(6,.d (.int .i64))],[(1000000,.arr (.int .i64))]⟩,[(.exit 0,⟨[],[(1000000,.arr (.int .i64))]⟩)]⟩),
 (4,⟨[0,1,2,6],[],⟨[(7,.d (.int .i64))],[(1000000,.arr (.int .i64))]⟩,[(.exit 2,⟨[],[(1000000,.arr (.int .i64))]⟩)]⟩)],[]⟩
abbrev Zj_p:List Sk:=[.vw 1000000 (.int .i64),.d (.int .i64),.d (.int .i64)]
abbrev Zj_r:List Sk:=[]
abbrev Zj_o:List (Nat×ObSk):=[(1000000,.arr (.int .i64))]
@[irreducible] noncomputable def Zj (n:Nat) (p:PayL R.T Zj_p) (q:PayOs R.T Zj_o):Option (PayL R.T Zj_r×PayOs R.T Zj_o):=funI E R n false (regs58 n) (its21 n) Zj_a Try.f84 Zj_p Zj_o Zj_r p q
theorem Zj_ok (n:Nat):FMOK1 E 84 Zj_p Zj_o Zj_r (Zj n):=by
 intro p q y q' h
 have h:Zj n p q=some (y,q'):=h
 unfold Zj at h
 exact funI_ok rOK (regs58_ok n) (its21_ok n) h Try.func84 rfl (by kernel_rfl)
noncomputable def its22 (n:Nat):IR R:=addM 84 (mkM Zj_p Zj_o Zj_r (Zj n)) (its21 n)
theorem its22_ok (n:Nat):ItersOK E (its22 n):=addM_ok (m:=mkM Zj_p Zj_o Zj_r (Zj n)) (its21_ok n) (FMOK.M (Zj_ok n))
def ZM_a:Ann:=⟨[(1,⟨[0,2,3],[],⟨[(8,.d (.int .i64))],[(1000000,.arr (.int .i64))]⟩,[(.exit 0,⟨[],[(1000000,.arr (.int .i64))]⟩),(.ret,⟨[],[(1000000,.arr (.int .i64))]⟩)]⟩)],[(5,⟨[0,2,3,8],[1000000],⟨[],[]⟩,[(.normal,⟨[(9,.d (.int .i64))],[]⟩)]⟩)]⟩
abbrev ZM_p:List Sk:=[.vw 1000000 (.int .i64),.d (.int .i64),.d (.int .i64),.d (.int .i64)]
abbrev ZM_r:List Sk:=[]
abbrev ZM_o:List (Nat×ObSk):=[(1000000,.arr (.int .i64))]
@[irreducible] noncomputable def ZM (n:Nat) (p:PayL R.T ZM_p) (q:PayOs R.T ZM_o):Option (PayL R.T ZM_r×PayOs R.T ZM_o):=funI E R n false (regs58 n) (its22 n) ZM_a Try.f103 ZM_p ZM_o ZM_r p q
theorem ZM_ok (n:Nat):FMOK1 E 103 ZM_p ZM_o ZM_r (ZM n):=by
 intro p q y q' h
 have h:ZM n p q=some (y,q'):=h
 unfold ZM at h
 exact funI_ok rOK (regs58_ok n) (its22_ok n) h Try.func103 rfl (by kernel_rfl)
noncomputable def its23 (n:Nat):IR R:=addM 103 (mkM ZM_p ZM_o ZM_r (ZM n)) (its22 n)
theorem its23_ok (n:Nat):ItersOK E (its23 n):=addM_ok (m:=mkM ZM_p ZM_o ZM_r (ZM n)) (its22_ok n) (FMOK.M (ZM_ok n))
def Zo_a:Ann:=⟨[(4,⟨[0,6,7,8],[],⟨[(9,.d (.int .i64))],[(1000000,.arr (.int .i64))]⟩,[(.exit 0,⟨[],[(1000000,.arr (.int .i64))]⟩)]⟩),
 (8,⟨[0,6,7],[],⟨[(10,.d (.int .i64))],[(1000000,.arr (.int .i64))]⟩,[(.exit 2,⟨[],[(1000000,.arr (.int .i64))]⟩)]⟩)],[]⟩
abbrev Zo_p:List Sk:=[.vw 1000000 (.int .i64),.d (.int .i64),.d (.int .i64)]
abbrev Zo_r:List Sk:=[]
abbrev Zo_o:List (Nat×ObSk):=[(1000000,.arr (.int .i64))]
@[irreducible] noncomputable def Zo (n:Nat) (p:PayL R.T Zo_p) (q:PayOs R.T Zo_o):Option (PayL R.T Zo_r×PayOs R.T Zo_o):=funI E R n false (regs58 n) (its23 n) Zo_a Try.f85 Zo_p Zo_o Zo_r p q
theorem Zo_ok (n:Nat):FMOK1 E 85 Zo_p Zo_o Zo_r (Zo n):=by
 intro p q y q' h
 have h:Zo n p q=some (y,q'):=h
 unfold Zo at h
 exact funI_ok rOK (regs58_ok n) (its23_ok n) h Try.func85 rfl (by kernel_rfl)
noncomputable def its24 (n:Nat):IR R:=addM 85 (mkM Zo_p Zo_o Zo_r (Zo n)) (its23 n)
theorem its24_ok (n:Nat):ItersOK E (its24 n):=addM_ok (m:=mkM Zo_p Zo_o Zo_r (Zo n)) (its23_ok n) (FMOK.M (Zo_ok n))
def ZI_a:Ann:=⟨[(5,⟨[0,1,6,7,8],[],⟨[(9,.d (.int .i64))],[(7,.cells [.d (.int .u64)]),(1000000,.arr (.int .i64))]⟩,[(.exit 0,⟨[],[(1000000,.arr (.int .i64))]⟩)]⟩)],[(10,⟨[0,1,6,7,8,9],[7,1000000],⟨[],[]⟩,[(.normal,⟨[(10,.d (.int .i64))],[]⟩)]⟩)]⟩
abbrev ZI_p:List Sk:=[.vw 1000000 (.int .i64),.d (.int .i64),.d (.int .i64)]
abbrev ZI_r:List Sk:=[]
abbrev ZI_o:List (Nat×ObSk):=[(1000000,.arr (.int .i64))]
@[irreducible] noncomputable def ZI (n:Nat) (p:PayL R.T ZI_p) (q:PayOs R.T ZI_o):Option (PayL R.T ZI_r×PayOs R.T ZI_o):=funI E R n false (regs58 n) (its24 n) ZI_a Try.f86 ZI_p ZI_o ZI_r p q
theorem ZI_ok (n:Nat):FMOK1 E 86 ZI_p ZI_o ZI_r (ZI n):=by
 intro p q y q' h
 have h:ZI n p q=some (y,q'):=h
 unfold ZI at h
 exact funI_ok rOK (regs58_ok n) (its24_ok n) h Try.func86 rfl (by kernel_rfl)
noncomputable def its25 (n:Nat):IR R:=addM 86 (mkM ZI_p ZI_o ZI_r (ZI n)) (its24 n)
theorem its25_ok (n:Nat):ItersOK E (its25 n):=addM_ok (m:=mkM ZI_p ZI_o ZI_r (ZI n)) (its24_ok n) (FMOK.M (ZI_ok n))
def Xa_a:Ann:=⟨[],[]⟩
abbrev Xa_p:List Sk:=[.d (.slice (.int .i64)),.d (.int .i64),.d (.int .i64),.ref 1000000 0]
abbrev Xa_r:List Sk:=[.d (.int .i64),.d (.int .i64)]
abbrev Xa_o:List (Nat×ObSk):=[(1000000,.cells [.d (.int .i64)])]
@[irreducible] noncomputable def Xa (n:Nat) (p:PayL R.T Xa_p) (q:PayOs R.T Xa_o):Option (PayL R.T Xa_r×PayOs R.T Xa_o):=funI E R n false (regs58 n) (its25 n) Xa_a Try.f107 Xa_p Xa_o Xa_r p q
theorem Xa_ok (n:Nat):FMOK1 E 107 Xa_p Xa_o Xa_r (Xa n):=by
 intro p q y q' h
 have h:Xa n p q=some (y,q'):=h
 unfold Xa at h
 exact funI_ok rOK (regs58_ok n) (its25_ok n) h Try.func107 rfl (by kernel_rfl)
noncomputable def its26 (n:Nat):IR R:=addM 107 (mkM Xa_p Xa_o Xa_r (Xa n)) (its25 n)
theorem its26_ok (n:Nat):ItersOK E (its26 n):=addM_ok (m:=mkM Xa_p Xa_o Xa_r (Xa n)) (its25_ok n) (FMOK.M (Xa_ok n))
def Xb_a:Ann:=⟨[],[]⟩
abbrev Xb_p:List Sk:=[.d (.slice (.int .i64)),.d (.int .i64),.d (.int .i64),.d (.int .i64),.ref 1000000 0]
abbrev Xb_r:List Sk:=[.d (.int .i64)]
abbrev Xb_o:List (Nat×ObSk):=[(1000000,.cells [.d (.int .i64)])]
@[irreducible] noncomputable def Xb (n:Nat) (p:PayL R.T Xb_p) (q:PayOs R.T Xb_o):Option (PayL R.T Xb_r×PayOs R.T Xb_o):=funI E R n false (regs58 n) (its26 n) Xb_a Try.f105 Xb_p Xb_o Xb_r p q
theorem Xb_ok (n:Nat):FMOK1 E 105 Xb_p Xb_o Xb_r (Xb n):=by
 intro p q y q' h
 have h:Xb n p q=some (y,q'):=h
 unfold Xb at h
 exact funI_ok rOK (regs58_ok n) (its26_ok n) h Try.func105 rfl (by kernel_rfl)
noncomputable def its27 (n:Nat):IR R:=addM 105 (mkM Xb_p Xb_o Xb_r (Xb n)) (its26 n)
theorem its27_ok (n:Nat):ItersOK E (its27 n):=addM_ok (m:=mkM Xb_p Xb_o Xb_r (Xb n)) (its26_ok n) (FMOK.M (Xb_ok n))
def Xc_a:Ann:=⟨[],[]⟩
abbrev Xc_p:List Sk:=[.d (.slice (.int .i64)),.d (.int .i64),.ref 1000000 0]
abbrev Xc_r:List Sk:=[.d (.int .i64)]
abbrev Xc_o:List (Nat×ObSk):=[(1000000,.cells [.d (.int .i64)])]
@[irreducible] noncomputable def Xc (n:Nat) (p:PayL R.T Xc_p) (q:PayOs R.T Xc_o):Option (PayL R.T Xc_r×PayOs R.T Xc_o):=funI E R n false (regs58 n) (its27 n) Xc_a Try.f104 Xc_p Xc_o Xc_r p q
theorem Xc_ok (n:Nat):FMOK1 E 104 Xc_p Xc_o Xc_r (Xc n):=by
 intro p q y q' h
 have h:Xc n p q=some (y,q'):=h
 unfold Xc at h
 exact funI_ok rOK (regs58_ok n) (its27_ok n) h Try.func104 rfl (by kernel_rfl)
noncomputable def its28 (n:Nat):IR R:=addM 104 (mkM Xc_p Xc_o Xc_r (Xc n)) (its27 n)
theorem its28_ok (n:Nat):ItersOK E (its28 n):=addM_ok (m:=mkM Xc_p Xc_o Xc_r (Xc n)) (its27_ok n) (FMOK.M (Xc_ok n))
def XL_a:Ann:=⟨[],[]⟩
abbrev XL_p:List Sk:=[.d (.slice (.int .i64)),.d (.int .i64),.d (.int .i64)]
abbrev XL_r:List Sk:=[.d (.int .i64),.d (.int .i64)]
@[irreducible] noncomputable def XL (n:Nat) (p:PayL R.T XL_p):Option (PayL R.T XL_r):=funM E R n false (regs58 n) (its28 n) XL_a Try.f87 XL_p XL_r p
theorem XL_ok (n:Nat) (p:PayL R.T XL_p) (x:PayL R.T XL_r) (h:XL n p=some x):Pure E 87 (encSL R XL_p p) (retV (encSL R XL_r x)):=by
 unfold XL at h
 exact funM_ok rOK (regs58_ok n) (its28_ok n) h Try.func87 rfl rfl rfl rfl (by kernel_rfl)
noncomputable def regs59 (n:Nat):Nat->List (FR R):=addF 87 ⟨XL_p,XL_r,XL n,dflL R XL_r,false⟩ (regs58 n)
theorem regs59_ok (n:Nat):RegsOK E (regs59 n):=addF_ok (regs58_ok n) (XL_ok n)
def Zt_a:Ann:=⟨[(2,⟨[0],[],⟨[(6,.d (.int .i64)),(7,.d (.int .i64))],[(1000000,.arr (.int .i64))]⟩,[(.exit 0,⟨[],[(1000000,.arr (.int .i64))]⟩)]⟩)],[]⟩
abbrev Zt_p:List Sk:=[.vw 1000000 (.int .i64),.d (.int .i64),.d (.int .i64)]
abbrev Zt_r:List Sk:=[]
abbrev Zt_o:List (Nat×ObSk):=[(1000000,.arr (.int .i64))]
@[irreducible] noncomputable def Zt (n:Nat) (p:PayL R.T Zt_p) (q:PayOs R.T Zt_o):Option (PayL R.T Zt_r×PayOs R.T Zt_o):=funI E R n false (regs59 n) (its28 n) Zt_a Try.f88 Zt_p Zt_o Zt_r p q
theorem Zt_ok (n:Nat):FMOK1 E 88 Zt_p Zt_o Zt_r (Zt n):=by
 intro p q y q' h
 have h:Zt n p q=some (y,q'):=h
 unfold Zt at h
 exact funI_ok rOK (regs59_ok n) (its28_ok n) h Try.func88 rfl (by kernel_rfl)
noncomputable def its29 (n:Nat):IR R:=addM 88 (mkM Zt_p Zt_o Zt_r (Zt n)) (its28 n)
theorem its29_ok (n:Nat):ItersOK E (its29 n):=addM_ok (m:=mkM Zt_p Zt_o Zt_r (Zt n)) (its28_ok n) (FMOK.M (Zt_ok n))
def Zc_a:Ann:=⟨[(3,⟨[0,1,2],[],⟨[(7,.d (.int .i64)),(8,.d (.int .i64))],[(1000000,.arr (.int .i64))]⟩,[(.exit 0,⟨[],[(1000000,.arr (.int .i64))]⟩),(.ret,⟨[(6,.d .bool)],[(1000000,.arr (.int .i64))]⟩)]⟩),
 (5,⟨[0,1,2,8],[1000000],⟨[(7,.d (.int .i64))],[]⟩,[(.exit 2,⟨[(7,.d (.int .i64))],[]⟩)]⟩),
 (14,⟨[0,1,2,7,8],[],⟨[(9,.d (.int .i64))],[(1000000,.arr (.int .i64))]⟩,[(.exit 4,⟨[],[(1000000,.arr (.int .i64))]⟩)]⟩),
 (20,⟨[0,1,2,7,8],[],⟨[(10,.d (.int .i64))],[(1000000,.arr (.int .i64))]⟩,[(.exit 6,⟨[],[(1000000,.arr (.int .i64))]⟩)]⟩)],[(18,⟨[0,1,2,7,8],[],⟨[],[]⟩,[(.normal,⟨[],[(1000000,.arr (.int .i64))]⟩)]⟩)]⟩
abbrev Zc_p:List Sk:=[.vw 1000000 (.int .i64),.d (.int .i64),.d (.int .i64)]
abbrev Zc_r:List Sk:=[.d .bool]
abbrev Zc_o:List (Nat×ObSk):=[(1000000,.arr (.int .i64))]
@[irreducible] noncomputable def Zc (n:Nat) (p:PayL R.T Zc_p) (q:PayOs R.T Zc_o):Option (PayL R.T Zc_r×PayOs R.T Zc_o):=funI E R n false (regs59 n) (its29 n) Zc_a Try.f89 Zc_p Zc_o Zc_r p q
theorem Zc_ok (n:Nat):FMOK1 E 89 Zc_p Zc_o Zc_r (Zc n):=by
 intro p q y q' h
 have h:Zc n p q=some (y,q'):=h
 unfold Zc at h
 exact funI_ok rOK (regs59_ok n) (its29_ok n) h Try.func89 rfl (by kernel_rfl)
noncomputable def its30 (n:Nat):IR R:=addM 89 (mkM Zc_p Zc_o Zc_r (Zc n)) (its29 n)
theorem its30_ok (n:Nat):ItersOK E (its30 n):=addM_ok (m:=mkM Zc_p Zc_o Zc_r (Zc n)) (its29_ok n) (FMOK.M (Zc_ok n))
def Zg_a:Ann:=⟨[(503,⟨[0,1],[],⟨[(9,.d (.int .i64)),(10,.d (.int .i64))],[(1000000,.arr (.int .i64))]⟩,[(.exit 0,⟨[(9,.d (.int .i64))],[(1000000,.arr (.int .i64))]⟩)]⟩),
 (3,⟨[0,1,10],[1000000],⟨[(9,.d (.int .i64))],[]⟩,[(.exit 2,⟨[(9,.d (.int .i64))],[]⟩)]⟩),
 (5,⟨[0,1,9],[1000000],⟨[(10,.d (.int .i64))],[]⟩,[(.exit 4,⟨[(10,.d (.int .i64))],[]⟩)]⟩)],[]⟩
abbrev Zg_p:List Sk:=[.vw 1000000 (.int .i64),.d (.int .i64),.d (.int .i64),.d (.int .i64)]
abbrev Zg_r:List Sk:=[.d (.int .i64)]
abbrev Zg_o:List (Nat×ObSk):=[(1000000,.arr (.int .i64))]
@[irreducible] noncomputable def Zg (n:Nat) (p:PayL R.T Zg_p) (q:PayOs R.T Zg_o):Option (PayL R.T Zg_r×PayOs R.T Zg_o):=funI E R n false (regs59 n) (its30 n) Zg_a Try.f91 Zg_p Zg_o Zg_r p q
theorem Zg_ok (n:Nat):FMOK1 E 91 Zg_p Zg_o Zg_r (Zg n):=by
 intro p q y q' h
 have h:Zg n p q=some (y,q'):=h
 unfold Zg at h
 exact funI_ok rOK (regs59_ok n) (its30_ok n) h Try.func91 rfl (by kernel_rfl)
noncomputable def its31 (n:Nat):IR R:=addM 91 (mkM Zg_p Zg_o Zg_r (Zg n)) (its30 n)
theorem its31_ok (n:Nat):ItersOK E (its31 n):=addM_ok (m:=mkM Zg_p Zg_o Zg_r (Zg n)) (its30_ok n) (FMOK.M (Zg_ok n))
def Za_a:Ann:=⟨[(3,⟨[0,1,11],[1000000],⟨[(10,.d (.int .i64))],[]⟩,[(.exit 0,⟨[(10,.d (.int .i64))],[]⟩)]⟩),
 (5,⟨[0,1,10],[1000000],⟨[(11,.d (.int .i64))],[]⟩,[(.exit 2,⟨[(11,.d (.int .i64))],[]⟩)]⟩),
 (513,⟨[0,1],[],⟨[(10,.d (.int .i64)),(11,.d (.int .i64))],[(1000000,.arr (.int .i64))]⟩,[(.exit 4,⟨[(11,.d (.int .i64))],[(1000000,.arr (.int .i64))]⟩)]⟩),
 (13,⟨[0,1,11],[1000000],⟨[(10,.d (.int .i64))],[]⟩,[(.exit 6,⟨[(10,.d (.int .i64))],[]⟩)]⟩),
 (15,⟨[0,1,10],[1000000],⟨[(11,.d (.int .i64))],[]⟩,[(.exit 8,⟨[(11,.d (.int .i64))],[]⟩)]⟩)],[]⟩
abbrev Za_p:List Sk:=[.vw 1000000 (.int .i64),.d (.int .i64),.d (.int .i64),.d (.int .i64)]
abbrev Za_r:List Sk:=[.d (.int .i64),.d .bool]
abbrev Za_o:List (Nat×ObSk):=[(1000000,.arr (.int .i64))]
@[irreducible] noncomputable def Za (n:Nat) (p:PayL R.T Za_p) (q:PayOs R.T Za_o):Option (PayL R.T Za_r×PayOs R.T Za_o):=funI E R n false (regs59 n) (its31 n) Za_a Try.f92 Za_p Za_o Za_r p q
theorem Za_ok (n:Nat):FMOK1 E 92 Za_p Za_o Za_r (Za n):=by
 intro p q y q' h
 have h:Za n p q=some (y,q'):=h
 unfold Za at h
 exact funI_ok rOK (regs59_ok n) (its31_ok n) h Try.func92 rfl (by kernel_rfl)
noncomputable def its32 (n:Nat):IR R:=addM 92 (mkM Za_p Za_o Za_r (Za n)) (its31 n)
theorem its32_ok (n:Nat):ItersOK E (its32 n):=addM_ok (m:=mkM Za_p Za_o Za_r (Za n)) (its31_ok n) (FMOK.M (Za_ok n))
def QQ_a:Ann:=⟨[(2,⟨[0],[],⟨[(1,.d (.int .i64)),(2,.d (.int .i64)),(3,.d (.int .i64)),(8,.d .bool),(9,.d .bool)],[(1000000,.arr (.int .i64))]⟩,[(.ret,⟨[],[(1000000,.arr (.int .i64))]⟩)]⟩)],[(10,⟨[0,1,2,8,9,10],[],⟨[],[]⟩,[(.normal,⟨[(3,.d (.int .i64))],[(1000000,.arr (.int .i64))]⟩)]⟩),(15,⟨[0,1,2,3,8,9,10],[],⟨[],[]⟩,[(.normal,⟨[(11,.d (.int .i64)),(12,.d (.int .i64))],[(1000000,.arr (.int .i64))]⟩)]⟩),(17,⟨[0,1,2,3,8,9,10,11],[],⟨[],[]⟩,[(.normal,⟨[],[(1000000,.arr (.int .i64))]⟩),(.ret,⟨[],[(1000000,.arr (.int .i64))]⟩)]⟩)]⟩
abbrev QQ_p:List Sk:=[.vw 1000000 (.int .i64),.d (.int .i64),.d (.int .i64),.d (.int .i64)]
abbrev QQ_r:List Sk:=[]
abbrev QQ_o:List (Nat×ObSk):=[(1000000,.arr (.int .i64))]
noncomputable def QQ_m (n:Nat):Nat->PayL R.T QQ_p->PayOs R.T QQ_o->Option (PayL R.T QQ_r×PayOs R.T QQ_o)
 |0,_,_=>none
 |m+1,p,q=>funI E R n false (regs59 n) (addM 69 (mkM QQ_p QQ_o QQ_r (QQ_m n m)) (its32 n)) QQ_a Try.f69 QQ_p QQ_o QQ_r p q
attribute [irreducible] QQ_m
theorem QQ_e (n m:Nat) (p:PayL R.T QQ_p) (q:PayOs R.T QQ_o):QQ_m n (m+1) p q=funI E R n false (regs59 n) (addM 69 (mkM QQ_p QQ_o QQ_r (QQ_m n m)) (its32 n)) QQ_a Try.f69 QQ_p QQ_o QQ_r p q:=by kernel_rfl
theorem QQ_e0 (n:Nat) (p:PayL R.T QQ_p) (q:PayOs R.T QQ_o):QQ_m n 0 p q=none:=by kernel_rfl
theorem slices_pdqsortOrdered_int_mok (n:Nat):∀m,FMOK1 E 69 QQ_p QQ_o QQ_r (QQ_m n m)
 |0=>fun p q y q' h=>absurd (((QQ_e0 n p q).symm.trans h)) nofun
 |m+1=>fun p q y q' h=>funI_ok rOK (regs59_ok n) (addM_ok (m:=(mkM QQ_p QQ_o QQ_r (QQ_m n m))) (its32_ok n) (FMOK.M (slices_pdqsortOrdered_int_mok n m))) ((QQ_e n m p q).symm.trans h) Try.func69 rfl (by kernel_rfl)
@[irreducible] noncomputable def QQ (n:Nat):PayL R.T QQ_p->PayOs R.T QQ_o->Option (PayL R.T QQ_r×PayOs R.T QQ_o):=QQ_m n n
theorem QQ_ok (n:Nat):FMOK1 E 69 QQ_p QQ_o QQ_r (QQ n):=by
 unfold QQ
 exact slices_pdqsortOrdered_int_mok n n
noncomputable def its33 (n:Nat):IR R:=addM 69 (mkM QQ_p QQ_o QQ_r (QQ n)) (its32 n)
theorem its33_ok (n:Nat):ItersOK E (its33 n):=addM_ok (m:=mkM QQ_p QQ_o QQ_r (QQ n)) (its32_ok n) (FMOK.M (QQ_ok n))
def ZS_a:Ann:=⟨[],[]⟩
abbrev ZS_p:List Sk:=[.vw 1000000 (.int .i64)]
abbrev ZS_r:List Sk:=[]
abbrev ZS_o:List (Nat×ObSk):=[(1000000,.arr (.int .i64))]
@[irreducible] noncomputable def ZS (n:Nat) (p:PayL R.T ZS_p) (q:PayOs R.T ZS_o):Option (PayL R.T ZS_r×PayOs R.T ZS_o):=funI E R n false (regs59 n) (its33 n) ZS_a Try.f59 ZS_p ZS_o ZS_r p q
theorem ZS_ok (n:Nat):FMOK1 E 59 ZS_p ZS_o ZS_r (ZS n):=by
 intro p q y q' h
 have h:ZS n p q=some (y,q'):=h
 unfold ZS at h
 exact funI_ok rOK (regs59_ok n) (its33_ok n) h Try.func59 rfl (by kernel_rfl)
noncomputable def its34 (n:Nat):IR R:=addM 59 (mkM ZS_p ZS_o ZS_r (ZS n)) (its33 n)
theorem its34_ok (n:Nat):ItersOK E (its34 n):=addM_ok (m:=mkM ZS_p ZS_o ZS_r (ZS n)) (its33_ok n) (FMOK.M (ZS_ok n))
def Xu_a:Ann:=⟨[],[]⟩
abbrev Xu_p:List Sk:=[.fn 60 [] [.cref [.d (.slice (.int .i64))] 0]]
abbrev Xu_r:List Sk:=[.d (.slice (.int .i64))]
@[irreducible] noncomputable def Xu (n:Nat) (p:PayL R.T Xu_p):Option (PayL R.T Xu_r):=funM E R n false (regs59 n) (its34 n) Xu_a Try.f37 Xu_p Xu_r p
theorem Xu_ok (n:Nat) (p:PayL R.T Xu_p) (x:PayL R.T Xu_r) (h:Xu n p=some x):Pure E 37 (encSL R Xu_p p) (retV (encSL R Xu_r x)):=by
 unfold Xu at h
 exact funM_ok rOK (regs59_ok n) (its34_ok n) h Try.func37 rfl rfl rfl rfl (by kernel_rfl)
noncomputable def regs60 (n:Nat):Nat->List (FR R):=addF 37 ⟨Xu_p,Xu_r,Xu n,dflL R Xu_r,false⟩ (regs59 n)
theorem regs60_ok (n:Nat):RegsOK E (regs60 n):=addF_ok (regs59_ok n) (Xu_ok n)
def Zu_a:Ann:=⟨[(3,⟨[1,8,9],[],⟨[(5,.l (.own 21) (.int .i64)),(10,.d (.int .i64))],[]⟩,[(.exit 0,⟨[(5,.l (.own 21) (.int .i64))],[]⟩)]⟩)],[]⟩
abbrev Zu_p:List Sk:=[.d (.slice (.int .i64)),.d (.int .i64)]
abbrev Zu_r:List Sk:=[.d (.slice (.int .i64))]
@[irreducible] noncomputable def Zu (n:Nat) (p:PayL R.T Zu_p):Option (PayL R.T Zu_r):=funM E R n false (regs60 n) (its34 n) Zu_a Try.f39 Zu_p Zu_r p
theorem Zu_ok (n:Nat) (p:PayL R.T Zu_p) (x:PayL R.T Zu_r) (h:Zu n p=some x):Pure E 39 (encSL R Zu_p p) (retV (encSL R Zu_r x)):=by
 unfold Zu at h
 exact funM_ok rOK (regs60_ok n) (its34_ok n) h Try.func39 rfl rfl rfl rfl (by kernel_rfl)
noncomputable def regs61 (n:Nat):Nat->List (FR R):=addF 39 ⟨Zu_p,Zu_r,Zu n,dflL R Zu_r,false⟩ (regs60 n)
theorem regs61_ok (n:Nat):RegsOK E (regs61 n):=addF_ok (regs60_ok n) (Zu_ok n)
def Zx_a:Ann:=⟨[(6,⟨[1,2,6,8,9,29,30],[6,8],⟨[(31,.d (.int .i64))],[(9,.cells [.l (.own 56) (.st 0)])]⟩,[(.exit 0,⟨[],[(9,.cells [.l (.own 56) (.st 0)])]⟩)]⟩)],[]⟩
abbrev Zx_p:List Sk:=[.d (.int .i64),.d (.slice (.slice (.int .i64))),.d (.int .i64)]
abbrev Zx_r:List Sk:=[.d (.st 1),.d (.int .i64)]
@[irreducible] noncomputable def Zx (n:Nat) (p:PayL R.T Zx_p):Option (PayL R.T Zx_r):=funM E R n false (regs61 n) (its34 n) Zx_a Try.f17 Zx_p Zx_r p
theorem Zx_ok (n:Nat) (p:PayL R.T Zx_p) (x:PayL R.T Zx_r) (h:Zx n p=some x):Pure E 17 (encSL R Zx_p p) (retV (encSL R Zx_r x)):=by
 unfold Zx at h
 exact funM_ok rOK (regs61_ok n) (its34_ok n) h Try.func17 rfl rfl rfl rfl (by kernel_rfl)
noncomputable def regs62 (n:Nat):Nat->List (FR R):=addF 17 ⟨Zx_p,Zx_r,Zx n,dflL R Zx_r,false⟩ (regs61 n)
theorem regs62_ok (n:Nat):RegsOK E (regs62 n):=addF_ok (regs61_ok n) (Zx_ok n)
def ZC_a:Ann:=⟨[(4,⟨[0,1,12],[],⟨[(13,.d (.int .i64))],[]⟩,[(.exit 0,⟨[],[]⟩),(.ret,⟨[(4,.d .bool)],[]⟩)]⟩)],[]⟩
abbrev ZC_p:List Sk:=[.d (.slice (.int .i64)),.d (.slice (.int .i64))]
abbrev ZC_r:List Sk:=[.d .bool]
@[irreducible] noncomputable def ZC (n:Nat) (p:PayL R.T ZC_p):Option (PayL R.T ZC_r):=funM E R n false (regs62 n) (its34 n) ZC_a Try.f40 ZC_p ZC_r p
theorem ZC_ok (n:Nat) (p:PayL R.T ZC_p) (x:PayL R.T ZC_r) (h:ZC n p=some x):Pure E 40 (encSL R ZC_p p) (retV (encSL R ZC_r x)):=by
 unfold ZC at h
 exact funM_ok rOK (regs62_ok n) (its34_ok n) h Try.func40 rfl rfl rfl rfl (by kernel_rfl)
noncomputable def regs63 (n:Nat):Nat->List (FR R):=addF 40 ⟨ZC_p,ZC_r,ZC n,dflL R ZC_r,false⟩ (regs62 n)
theorem regs63_ok (n:Nat):RegsOK E (regs63 n):=addF_ok (regs62_ok n) (ZC_ok n)
def Zy_a:Ann:=⟨[(5,⟨[1,8,25,26],[8],⟨[(27,.d (.int .i64))],[]⟩,[(.exit 0,⟨[],[]⟩),(.ret,⟨[(6,.d (.int .i64)),(7,.d (.int .i64))],[]⟩)]⟩)],[]⟩
abbrev Zy_p:List Sk:=[.d (.int .i64),.d (.slice (.slice (.int .i64))),.d (.st 1)]
abbrev Zy_r:List Sk:=[.d (.int .i64),.d (.int .i64)]
@[irreducible] noncomputable def Zy (n:Nat) (p:PayL R.T Zy_p):Option (PayL R.T Zy_r):=funM E R n false (regs63 n) (its34 n) Zy_a Try.f18 Zy_p Zy_r p
theorem Zy_ok (n:Nat) (p:PayL R.T Zy_p) (x:PayL R.T Zy_r) (h:Zy n p=some x):Pure E 18 (encSL R Zy_p p) (retV (encSL R Zy_r x)):=by
 unfold Zy at h
 exact funM_ok rOK (regs63_ok n) (its34_ok n) h Try.func18 rfl rfl rfl rfl (by kernel_rfl)
noncomputable def regs64 (n:Nat):Nat->List (FR R):=addF 18 ⟨Zy_p,Zy_r,Zy n,dflL R Zy_r,false⟩ (regs63 n)
theorem regs64_ok (n:Nat):RegsOK E (regs64 n):=addF_ok (regs63_ok n) (Zy_ok n)
def XO_a:Ann:=⟨[(9,⟨[0,1,7,8],[8],⟨[(12,.d (.int .i64))],[]⟩,[(.exit 0,⟨[],[]⟩),(.ret,⟨[(6,.d .bool)],[]⟩)]⟩),
 (14,⟨[0,1,7,8,12,13],[8,13],⟨[(14,.d (.int .i64)),(15,.d (.int .i64))],[]⟩,[(.exit 2,⟨[(14,.d (.int .i64))],[]⟩)]⟩)],[]⟩
abbrev XO_p:List Sk:=[.d (.int .i64),.d (.slice (.slice (.int .i64))),.d (.int .u8)]
abbrev XO_r:List Sk:=[.d .bool]
@[irreducible] noncomputable def XO (n:Nat) (p:PayL R.T XO_p):Option (PayL R.T XO_r):=funM E R n false (regs64 n) (its34 n) XO_a Try.f4 XO_p XO_r p
theorem XO_ok (n:Nat) (p:PayL R.T XO_p) (x:PayL R.T XO_r) (h:XO n p=some x):Pure E 4 (encSL R XO_p p) (retV (encSL R XO_r x)):=by
 unfold XO at h
 exact funM_ok rOK (regs64_ok n) (its34_ok n) h Try.func4 rfl rfl rfl rfl (by kernel_rfl)
noncomputable def regs65 (n:Nat):Nat->List (FR R):=addF 4 ⟨XO_p,XO_r,XO n,dflL R XO_r,false⟩ (regs64 n)
theorem regs65_ok (n:Nat):RegsOK E (regs65 n):=addF_ok (regs64_ok n) (XO_ok n)
def ZT_a:Ann:=⟨[(11,⟨[0,1,2,4,13,14,22],[14],⟨[(23,.d (.int .i64))],[(22,.cells [.l (.own 134) (.st 0)])]⟩,[(.exit 0,⟨[],[(22,.cells [.l (.own 134) (.st 0)])]⟩)]⟩)],[]⟩
abbrev ZT_p:List Sk:=[.d (.int .i64),.d (.slice (.slice (.int .i64))),.d (.slice (.int .i64)),.d (.int .u8),.d (.int .i64),.d (.int .u8)]
abbrev ZT_r:List Sk:=[.d .bool]
@[irreducible] noncomputable def ZT (n:Nat) (p:PayL R.T ZT_p):Option (PayL R.T ZT_r):=funM E R n false (regs65 n) (its34 n) ZT_a Try.f5 ZT_p ZT_r p
theorem ZT_ok (n:Nat) (p:PayL R.T ZT_p) (x:PayL R.T ZT_r) (h:ZT n p=some x):Pure E 5 (encSL R ZT_p p) (retV (encSL R ZT_r x)):=by
 unfold ZT at h
 exact funM_ok rOK (regs65_ok n) (its34_ok n) h Try.func5 rfl rfl rfl rfl (by kernel_rfl)
end Sh
