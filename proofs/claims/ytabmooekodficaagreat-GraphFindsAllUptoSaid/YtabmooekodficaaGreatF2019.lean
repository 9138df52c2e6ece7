import Derived.Test.YtabmooekodficaaGreatF2018
set_option linter.all false
open Go Go.Proofs Aq
namespace Sh
set_option maxRecDepth 100000
def fP (i:Nat)(a r:List Sk)(F:PayL R.T a->Option (PayL R.T r)):Prop:=∀p x,F p=some x->Pure E i (encSL R a p) (retV (encSL R r x))
theorem okF {n:Nat}{om:Bool}{F:Nat->List (FR R)}{A:Ann}{i:Nat}{fn:Func}{a r:List Sk}{p:PayL R.T a}{x:PayL R.T r}(hF:RegsOK E F)(h:funM E R n om F iters A fn a r p=some x)(hf:E.P.funcs[i]? =some fn)(hok:(match fn.body with|some c=>decide (a.length<=fn.ntmps)&& bN fn.ntmps c&& iB E c|none=>false)=true)(ha:cSkL a=true:=by rfl)(hl:(encSL R a p).length=a.length:=by rfl)(ho:E.om i=om:=by rfl)(hs:E.summ i=none:=by rfl):Pure E i (encSL R a p) (retV (encSL R r x)):=funM_ok rOK hF iters_ok h hf ha hl ho hs hok
def ZC_a:Ann:=⟨[(4,⟨[0],[],⟨[(5,.d (.int .i64))],[]⟩,[(.exit 0,⟨[],[]⟩),(.ret,⟨[(4,.d .bool)],[]⟩)]⟩)],[]⟩
abbrev ZC_p:List Sk:=[.d (.slice (.slice (.int .i64))),.d (.int .i64)]
abbrev ZC_r:List Sk:=[.d .bool]
@[irreducible] noncomputable def ZC (n:Nat)(p:PayL R.T ZC_p):Option (PayL R.T ZC_r):=funM E R n false (regs0 n) iters ZC_a Tryz.f6 ZC_p ZC_r p
theorem ZC_ok (n:Nat):fP 6 ZC_p ZC_r (ZC n):=fun _ _ h=>by unfold ZC at h;exact okF (regs0_ok n) h Tryz.func6 (by kernel_rfl)
noncomputable def regs1 (n:Nat):Nat->List (FR R):=addF 6 ⟨ZC_p,ZC_r,ZC n,dflL R ZC_r,false⟩ (regs0 n)
theorem regs1_ok (n:Nat):RegsOK E (regs1 n):=addF_ok (regs0_ok n) (ZC_ok n)
def ZD_a:Ann:=⟨[(4,⟨[1],[1],⟨[(3,.d (.int .i64))],[]⟩,[(.exit 0,⟨[],[]⟩),(.ret,⟨[(2,.d .bool)],[]⟩)]⟩)],[]⟩
abbrev ZD_p:List Sk:=[.d (.st 1)]
abbrev ZD_r:List Sk:=[.d .bool]
@[irreducible] noncomputable def ZD (n:Nat)(p:PayL R.T ZD_p):Option (PayL R.T ZD_r):=funM E R n false (regs1 n) iters ZD_a Tryz.f7 ZD_p ZD_r p
theorem ZD_ok (n:Nat):fP 7 ZD_p ZD_r (ZD n):=fun _ _ h=>by unfold ZD at h;exact okF (regs1_ok n) h Tryz.func7 (by kernel_rfl)
noncomputable def regs2 (n:Nat):Nat->List (FR R):=addF 7 ⟨ZD_p,ZD_r,ZD n,dflL R ZD_r,false⟩ (regs1 n)
theorem regs2_ok (n:Nat):RegsOK E (regs2 n):=addF_ok (regs1_ok n) (ZD_ok n)
abbrev Xi_p:List Sk:=[]
abbrev Xi_r:List Sk:=[.d .bool]
@[irreducible] def Xi (n:Nat)(p:PayL R.T Xi_p):Option (PayL R.T Xi_r):=some true
theorem Xi_eq (n:Nat)(p:PayL R.T Xi_p):Xi n p=some true:=by unfold Xi;rfl
theorem Xi_ok (n:Nat)(p:PayL R.T Xi_p)(x:PayL R.T Xi_r)(h:Xi n p=some x):Pure E 8 (encSL R Xi_p p) (retV (encSL R Xi_r x)):=by unfold Xi at h;exact sanP p x h
noncomputable def regs3 (n:Nat):Nat->List (FR R):=addF 8 ⟨Xi_p,Xi_r,Xi n,dflL R Xi_r,false⟩ (regs2 n)
theorem regs3_ok (n:Nat):RegsOK E (regs3 n):=addF_ok (regs2_ok n) (Xi_ok n)
def Xx_a:Ann:=⟨[],[]⟩
abbrev Xx_p:List Sk:=[.d (.int .i64),.d (.int .i64),.d (.int .i64)]
abbrev Xx_r:List Sk:=[.d (.int .i64)]
@[irreducible] noncomputable def Xx (n:Nat)(p:PayL R.T Xx_p):Option (PayL R.T Xx_r):=funM E R n false (regs3 n) iters Xx_a Tryz.f84 Xx_p Xx_r p
theorem Xx_ok (n:Nat):fP 84 Xx_p Xx_r (Xx n):=fun _ _ h=>by unfold Xx at h;exact okF (regs3_ok n) h Tryz.func84 (by kernel_rfl)
noncomputable def regs4 (n:Nat):Nat->List (FR R):=addF 84 ⟨Xx_p,Xx_r,Xx n,dflL R Xx_r,false⟩ (regs3 n)
theorem regs4_ok (n:Nat):RegsOK E (regs4 n):=addF_ok (regs3_ok n) (Xx_ok n)
def XK_a:Ann:=⟨[],[]⟩
abbrev XK_p:List Sk:=[.d (.int .i64),.d (.int .i64)]
abbrev XK_r:List Sk:=[.d .bool]
@[irreducible] noncomputable def XK (n:Nat)(p:PayL R.T XK_p):Option (PayL R.T XK_r):=funM E R n false (regs4 n) iters XK_a Tryz.f68 XK_p XK_r p
theorem XK_ok (n:Nat):fP 68 XK_p XK_r (XK n):=fun _ _ h=>by unfold XK at h;exact okF (regs4_ok n) h Tryz.func68 (by kernel_rfl)
noncomputable def regs5 (n:Nat):Nat->List (FR R):=addF 68 ⟨XK_p,XK_r,XK n,dflL R XK_r,false⟩ (regs4 n)
theorem regs5_ok (n:Nat):RegsOK E (regs5 n):=addF_ok (regs4_ok n) (XK_ok n)
def XP_a:Ann:=⟨[],[]⟩
abbrev XP_p:List Sk:=[.d .bool,.d (.int .i64)]
abbrev XP_r:List Sk:=[.d .bool]
@[irreducible] noncomputable def XP (n:Nat)(p:PayL R.T XP_p):Option (PayL R.T XP_r):=funM E R n false (regs5 n) iters XP_a Tryz.f88 XP_p XP_r p
theorem XP_ok (n:Nat):fP 88 XP_p XP_r (XP n):=fun _ _ h=>by unfold XP at h;exact okF (regs5_ok n) h Tryz.func88 (by kernel_rfl)
noncomputable def regs6 (n:Nat):Nat->List (FR R):=addF 88 ⟨XP_p,XP_r,XP n,dflL R XP_r,false⟩ (regs5 n)
theorem regs6_ok (n:Nat):RegsOK E (regs6 n):=addF_ok (regs5_ok n) (XP_ok n)
def ZU_a:Ann:=⟨[(2,⟨[2,9,10],[],⟨[(1,.d .bool),(11,.d (.int .i64))],[]⟩,[(.exit 0,⟨[(1,.d .bool)],[]⟩)]⟩)],[]⟩
abbrev ZU_p:List Sk:=[.d (.slice (.int .i64)),.d .bool,.fn 88 [] []]
abbrev ZU_r:List Sk:=[.d .bool]
@[irreducible] noncomputable def ZU (n:Nat)(p:PayL R.T ZU_p):Option (PayL R.T ZU_r):=funM E R n false (regs6 n) iters ZU_a Tryz.f87 ZU_p ZU_r p
theorem ZU_ok (n:Nat):fP 87 ZU_p ZU_r (ZU n):=fun _ _ h=>by unfold ZU at h;exact okF (regs6_ok n) h Tryz.func87 (by kernel_rfl)
noncomputable def regs7 (n:Nat):Nat->List (FR R):=addF 87 ⟨ZU_p,ZU_r,ZU n,dflL R ZU_r,false⟩ (regs6 n)
theorem regs7_ok (n:Nat):RegsOK E (regs7 n):=addF_ok (regs6_ok n) (ZU_ok n)
def XE_a:Ann:=⟨[],[]⟩
abbrev XE_p:List Sk:=[.d (.slice (.int .i64))]
abbrev XE_r:List Sk:=[.d .bool]
@[irreducible] noncomputable def XE (n:Nat)(p:PayL R.T XE_p):Option (PayL R.T XE_r):=funM E R n false (regs7 n) iters XE_a Tryz.f77 XE_p XE_r p
theorem XE_ok (n:Nat):fP 77 XE_p XE_r (XE n):=fun _ _ h=>by unfold XE at h;exact okF (regs7_ok n) h Tryz.func77 (by kernel_rfl)
noncomputable def regs8 (n:Nat):Nat->List (FR R):=addF 77 ⟨XE_p,XE_r,XE n,dflL R XE_r,false⟩ (regs7 n)
theorem regs8_ok (n:Nat):RegsOK E (regs8 n):=addF_ok (regs7_ok n) (XE_ok n)
def XF_a:Ann:=⟨[],[]⟩
abbrev XF_p:List Sk:=[.d (.slice (.int .i64)),.d (.slice (.int .i64))]
abbrev XF_r:List Sk:=[.d .bool]
@[irreducible] noncomputable def XF (n:Nat)(p:PayL R.T XF_p):Option (PayL R.T XF_r):=funM E R n false (regs8 n) iters XF_a Tryz.f55 XF_p XF_r p
theorem XF_ok (n:Nat):fP 55 XF_p XF_r (XF n):=fun _ _ h=>by unfold XF at h;exact okF (regs8_ok n) h Tryz.func55 (by kernel_rfl)
noncomputable def regs9 (n:Nat):Nat->List (FR R):=addF 55 ⟨XF_p,XF_r,XF n,dflL R XF_r,false⟩ (regs8 n)
theorem regs9_ok (n:Nat):RegsOK E (regs9 n):=addF_ok (regs8_ok n) (XF_ok n)
def XL_a:Ann:=⟨[],[]⟩
abbrev XL_p:List Sk:=[.d (.slice (.int .i64)),.cref [.d (.int .i64),.d (.slice (.slice (.int .i64)))] 0]
abbrev XL_r:List Sk:=[.d .bool]
@[irreducible] noncomputable def XL (n:Nat)(p:PayL R.T XL_p):Option (PayL R.T XL_r):=funM E R n false (regs9 n) iters XL_a Tryz.f67 XL_p XL_r p
theorem XL_ok (n:Nat):fP 67 XL_p XL_r (XL n):=fun _ _ h=>by unfold XL at h;exact okF (regs9_ok n) h Tryz.func67 (by kernel_rfl)
noncomputable def regs10 (n:Nat):Nat->List (FR R):=addF 67 ⟨XL_p,XL_r,XL n,dflL R XL_r,false⟩ (regs9 n)
theorem regs10_ok (n:Nat):RegsOK E (regs10 n):=addF_ok (regs9_ok n) (XL_ok n)
def ZQ_a:Ann:=⟨[(2,⟨[0,1,7],[],⟨[(8,.d (.int .i64))],[]⟩,[(.exit 0,⟨[],[]⟩),(.ret,⟨[(4,.d (.int .i64))],[]⟩)]⟩)],[]⟩
abbrev ZQ_p:List Sk:=[.d (.slice (.slice (.int .i64))),.fn 67 [] [.cref [.d (.int .i64),.d (.slice (.slice (.int .i64)))] 0]]
abbrev ZQ_r:List Sk:=[.d (.int .i64)]
@[irreducible] noncomputable def ZQ (n:Nat)(p:PayL R.T ZQ_p):Option (PayL R.T ZQ_r):=funM E R n false (regs10 n) iters ZQ_a Tryz.f85 ZQ_p ZQ_r p
theorem ZQ_ok (n:Nat):fP 85 ZQ_p ZQ_r (ZQ n):=fun _ _ h=>by unfold ZQ at h;exact okF (regs10_ok n) h Tryz.func85 (by kernel_rfl)
noncomputable def regs11 (n:Nat):Nat->List (FR R):=addF 85 ⟨ZQ_p,ZQ_r,ZQ n,dflL R ZQ_r,false⟩ (regs10 n)
theorem regs11_ok (n:Nat):RegsOK E (regs11 n):=addF_ok (regs10_ok n) (ZQ_ok n)
def XM_a:Ann:=⟨[],[]⟩
abbrev XM_p:List Sk:=[.d (.slice (.slice (.int .i64))),.fn 67 [] [.cref [.d (.int .i64),.d (.slice (.slice (.int .i64)))] 0]]
abbrev XM_r:List Sk:=[.d .bool]
@[irreducible] noncomputable def XM (n:Nat)(p:PayL R.T XM_p):Option (PayL R.T XM_r):=funM E R n false (regs11 n) iters XM_a Tryz.f69 XM_p XM_r p
theorem XM_ok (n:Nat):fP 69 XM_p XM_r (XM n):=fun _ _ h=>by unfold XM at h;exact okF (regs11_ok n) h Tryz.func69 (by kernel_rfl)
noncomputable def regs12 (n:Nat):Nat->List (FR R):=addF 69 ⟨XM_p,XM_r,XM n,dflL R XM_r,false⟩ (regs11 n)
theorem regs12_ok (n:Nat):RegsOK E (regs12 n):=addF_ok (regs11_ok n) (XM_ok n)
def Xy_a:Ann:=⟨[],[]⟩
abbrev Xy_p:List Sk:=[.d (.st 5)]
abbrev Xy_r:List Sk:=[.d .bool]
@[irreducible] noncomputable def Xy (n:Nat)(p:PayL R.T Xy_p):Option (PayL R.T Xy_r):=funM E R n false (regs12 n) iters Xy_a Tryz.f42 Xy_p Xy_r p
theorem Xy_ok (n:Nat):fP 42 Xy_p Xy_r (Xy n):=fun _ _ h=>by unfold Xy at h;exact okF (regs12_ok n) h Tryz.func42 (by kernel_rfl)
noncomputable def regs13 (n:Nat):Nat->List (FR R):=addF 42 ⟨Xy_p,Xy_r,Xy n,dflL R Xy_r,false⟩ (regs12 n)
theorem regs13_ok (n:Nat):RegsOK E (regs13 n):=addF_ok (regs12_ok n) (Xy_ok n)
def ZR_a:Ann:=⟨[(2,⟨[0,1,7],[],⟨[(8,.d (.int .i64))],[]⟩,[(.exit 0,⟨[],[]⟩),(.ret,⟨[(4,.d (.int .i64))],[]⟩)]⟩)],[]⟩
abbrev ZR_p:List Sk:=[.d (.slice (.int .i64)),.d (.int .i64)]
abbrev ZR_r:List Sk:=[.d (.int .i64)]
@[irreducible] noncomputable def ZR (n:Nat)(p:PayL R.T ZR_p):Option (PayL R.T ZR_r):=funM E R n false (regs13 n) iters ZR_a Tryz.f72 ZR_p ZR_r p
theorem ZR_ok (n:Nat):fP 72 ZR_p ZR_r (ZR n):=fun _ _ h=>by unfold ZR at h;exact okF (regs13_ok n) h Tryz.func72 (by kernel_rfl)
noncomputable def regs14 (n:Nat):Nat->List (FR R):=addF 72 ⟨ZR_p,ZR_r,ZR n,dflL R ZR_r,false⟩ (regs13 n)
theorem regs14_ok (n:Nat):RegsOK E (regs14 n):=addF_ok (regs13_ok n) (ZR_ok n)
def XN_a:Ann:=⟨[],[]⟩
abbrev XN_p:List Sk:=[.d (.slice (.int .i64)),.d (.int .i64)]
abbrev XN_r:List Sk:=[.d .bool]
@[irreducible] noncomputable def XN (n:Nat)(p:PayL R.T XN_p):Option (PayL R.T XN_r):=funM E R n false (regs14 n) iters XN_a Tryz.f50 XN_p XN_r p
theorem XN_ok (n:Nat):fP 50 XN_p XN_r (XN n):=fun _ _ h=>by unfold XN at h;exact okF (regs14_ok n) h Tryz.func50 (by kernel_rfl)
noncomputable def regs15 (n:Nat):Nat->List (FR R):=addF 50 ⟨XN_p,XN_r,XN n,dflL R XN_r,false⟩ (regs14 n)
theorem regs15_ok (n:Nat):RegsOK E (regs15 n):=addF_ok (regs14_ok n) (XN_ok n)
def Zf_a:Ann:=⟨[(4,⟨[0,23,24],[],⟨[(25,.d (.int .i64))],[]⟩,[(.exit 0,⟨[],[]⟩),(.ret,⟨[(4,.d .bool)],[]⟩)]⟩),
 (9,⟨[0,6,23,24,25,46,47],[6],⟨[(48,.d (.int .i64))],[]⟩,[(.exit 2,⟨[],[]⟩),(.ret,⟨[(4,.d .bool)],[]⟩)]⟩)],[]⟩
abbrev Zf_p:List Sk:=[.d (.int .i64),.d (.st 1)]
abbrev Zf_r:List Sk:=[.d .bool]
@[irreducible] noncomputable def Zf (n:Nat)(p:PayL R.T Zf_p):Option (PayL R.T Zf_r):=funM E R n false (regs15 n) iters Zf_a Tryz.f24 Zf_p Zf_r p
theorem Zf_ok (n:Nat):fP 24 Zf_p Zf_r (Zf n):=fun _ _ h=>by unfold Zf at h;exact okF (regs15_ok n) h Tryz.func24 (by kernel_rfl)
noncomputable def regs16 (n:Nat):Nat->List (FR R):=addF 24 ⟨Zf_p,Zf_r,Zf n,dflL R Zf_r,false⟩ (regs15 n)
theorem regs16_ok (n:Nat):RegsOK E (regs16 n):=addF_ok (regs15_ok n) (Zf_ok n)
def Xa_a:Ann:=⟨[],[]⟩
abbrev Xa_p:List Sk:=[.d (.slice (.int .i64))]
abbrev Xa_o:List (Nat×ObSk):=[]
abbrev slices_Clone_int_int_w:List (Nat×ObSk):=[]
abbrev slices_Clone_int_int_k:NK:=.arr (.int .i64)
@[irreducible] noncomputable def Xa (n:Nat)(p:PayL R.T Xa_p)(q:PayOs R.T Xa_o):Option (PayN R.T slices_Clone_int_int_k×PayOs R.T slices_Clone_int_int_w):=funN E R n true (regs16 n) iters Xa_a Tryz.f35 Xa_p Xa_o slices_Clone_int_int_k slices_Clone_int_int_w p q
theorem Xa_ok (n:Nat):FNOK1 E 35 Xa_p Xa_o slices_Clone_int_int_k slices_Clone_int_int_w (Xa n):=by intro p q y q' h;have h:Xa n p q=some (y,q'):=h;unfold Xa at h;exact funN_ok' rOK (regs16_ok n) iters_ok h Tryz.func35 rfl (by kernel_rfl)
noncomputable def its1 (n:Nat):IR R:=addM 35 (mkN Xa_p Xa_o slices_Clone_int_int_k slices_Clone_int_int_w (Xa n)) iters
theorem its1_ok (n:Nat):ItersOK E (its1 n):=addM_ok (m:=mkN Xa_p Xa_o slices_Clone_int_int_k slices_Clone_int_int_w (Xa n)) iters_ok (FMOK.N (Xa_ok n))
def ZE_a:Ann:=⟨[(3,⟨[1,5,10],[],⟨[(11,.d (.int .i64))],[(8,.arr (.int .i64))]⟩,[(.exit 0,⟨[],[(8,.arr (.int .i64))]⟩)]⟩)],[]⟩
abbrev ZE_p:List Sk:=[.d (.slice (.int .i64)),.d (.slice (.int .i64))]
abbrev ZE_r:List Sk:=[.d (.slice (.int .i64))]
@[irreducible] noncomputable def ZE (n:Nat)(p:PayL R.T ZE_p):Option (PayL R.T ZE_r):=funM E R n false (regs16 n) (its1 n) ZE_a Tryz.f54 ZE_p ZE_r p
theorem ZE_ok (n:Nat)(p:PayL R.T ZE_p)(x:PayL R.T ZE_r)(h:ZE n p=some x):Pure E 54 (encSL R ZE_p p) (retV (encSL R ZE_r x)):=by unfold ZE at h;exact funM_ok rOK (regs16_ok n) (its1_ok n) h Tryz.func54 rfl rfl rfl rfl (by kernel_rfl)
noncomputable def regs17 (n:Nat):Nat->List (FR R):=addF 54 ⟨ZE_p,ZE_r,ZE n,dflL R ZE_r,false⟩ (regs16 n)
theorem regs17_ok (n:Nat):RegsOK E (regs17 n):=addF_ok (regs16_ok n) (ZE_ok n)
def XG_a:Ann:=⟨[],[]⟩
abbrev XG_p:List Sk:=[.d (.int .i64),.d (.int .i64)]
abbrev XG_r:List Sk:=[.d (.int .i64)]
@[irreducible] noncomputable def XG (n:Nat)(p:PayL R.T XG_p):Option (PayL R.T XG_r):=funM E R n false (regs17 n) (its1 n) XG_a Tryz.f73 XG_p XG_r p
theorem XG_ok (n:Nat)(p:PayL R.T XG_p)(x:PayL R.T XG_r)(h:XG n p=some x):Pure E 73 (encSL R XG_p p) (retV (encSL R XG_r x)):=by unfold XG at h;exact funM_ok rOK (regs17_ok n) (its1_ok n) h Tryz.func73 rfl rfl rfl rfl (by kernel_rfl)
noncomputable def regs18 (n:Nat):Nat->List (FR R):=addF 73 ⟨XG_p,XG_r,XG n,dflL R XG_r,false⟩ (regs17 n)
theorem regs18_ok (n:Nat):RegsOK E (regs18 n):=addF_ok (regs17_ok n) (XG_ok n)
def ZK_a:Ann:=⟨[(2,⟨[2,9,10],[],⟨[(1,.d (.int .i64)),(11,.d (.int .i64))],[]⟩,[(.exit 0,⟨[(1,.d (.int .i64))],[]⟩)]⟩)],[]⟩
abbrev ZK_p:List Sk:=[.d (.slice (.int .i64)),.d (.int .i64),.fn 73 [] []]
abbrev ZK_r:List Sk:=[.d (.int .i64)]
@[irreducible] noncomputable def ZK (n:Nat)(p:PayL R.T ZK_p):Option (PayL R.T ZK_r):=funM E R n false (regs18 n) (its1 n) ZK_a Tryz.f76 ZK_p ZK_r p
theorem ZK_ok (n:Nat)(p:PayL R.T ZK_p)(x:PayL R.T ZK_r)(h:ZK n p=some x):Pure E 76 (encSL R ZK_p p) (retV (encSL R ZK_r x)):=by unfold ZK at h;exact funM_ok rOK (regs18_ok n) (its1_ok n) h Tryz.func76 rfl rfl rfl rfl (by kernel_rfl)
noncomputable def regs19 (n:Nat):Nat->List (FR R):=addF 76 ⟨ZK_p,ZK_r,ZK n,dflL R ZK_r,false⟩ (regs18 n)
theorem regs19_ok (n:Nat):RegsOK E (regs19 n):=addF_ok (regs18_ok n) (ZK_ok n)
def XH_a:Ann:=⟨[],[]⟩
abbrev XH_p:List Sk:=[.d (.int .i64),.d (.int .i64)]
abbrev XH_r:List Sk:=[.d (.int .i64)]
@[irreducible] noncomputable def XH (n:Nat)(p:PayL R.T XH_p):Option (PayL R.T XH_r):=funM E R n false (regs19 n) (its1 n) XH_a Tryz.f74 XH_p XH_r p
theorem XH_ok (n:Nat)(p:PayL R.T XH_p)(x:PayL R.T XH_r)(h:XH n p=some x):Pure E 74 (encSL R XH_p p) (retV (encSL R XH_r x)):=by unfold XH at h;exact funM_ok rOK (regs19_ok n) (its1_ok n) h Tryz.func74 rfl rfl rfl rfl (by kernel_rfl)
noncomputable def regs20 (n:Nat):Nat->List (FR R):=addF 74 ⟨XH_p,XH_r,XH n,dflL R XH_r,false⟩ (regs19 n)
theorem regs20_ok (n:Nat):RegsOK E (regs20 n):=addF_ok (regs19_ok n) (XH_ok n)
def ZL_a:Ann:=⟨[(2,⟨[2,9,10],[],⟨[(1,.d (.int .i64)),(11,.d (.int .i64))],[]⟩,[(.exit 0,⟨[(1,.d (.int .i64))],[]⟩)]⟩)],[]⟩
abbrev ZL_p:List Sk:=[.d (.slice (.int .i64)),.d (.int .i64),.fn 74 [] []]
abbrev ZL_r:List Sk:=[.d (.int .i64)]
@[irreducible] noncomputable def ZL (n:Nat)(p:PayL R.T ZL_p):Option (PayL R.T ZL_r):=funM E R n false (regs20 n) (its1 n) ZL_a Tryz.f76 ZL_p ZL_r p
theorem ZL_ok (n:Nat)(p:PayL R.T ZL_p)(x:PayL R.T ZL_r)(h:ZL n p=some x):Pure E 76 (encSL R ZL_p p) (retV (encSL R ZL_r x)):=by unfold ZL at h;exact funM_ok rOK (regs20_ok n) (its1_ok n) h Tryz.func76 rfl rfl rfl rfl (by kernel_rfl)
noncomputable def regs21 (n:Nat):Nat->List (FR R):=addF 76 ⟨ZL_p,ZL_r,ZL n,dflL R ZL_r,false⟩ (regs20 n)
theorem regs21_ok (n:Nat):RegsOK E (regs21 n):=addF_ok (regs20_ok n) (ZL_ok n)
def XI_a:Ann:=⟨[],[]⟩
abbrev XI_p:List Sk:=[.d (.int .i64),.d (.int .i64)]
abbrev XI_r:List Sk:=[.d (.int .i64)]
@[irreducible] noncomputable def XI (n:Nat)(p:PayL R.T XI_p):Option (PayL R.T XI_r):=funM E R n false (regs21 n) (its1 n) XI_a Tryz.f75 XI_p XI_r p
theorem XI_ok (n:Nat)(p:PayL R.T XI_p)(x:PayL R.T XI_r)(h:XI n p=some x):Pure E 75 (encSL R XI_p p) (retV (encSL R XI_r x)):=by unfold XI at h;exact funM_ok rOK (regs21_ok n) (its1_ok n) h Tryz.func75 rfl rfl rfl rfl (by kernel_rfl)
noncomputable def regs22 (n:Nat):Nat->List (FR R):=addF 75 ⟨XI_p,XI_r,XI n,dflL R XI_r,false⟩ (regs21 n)
theorem regs22_ok (n:Nat):RegsOK E (regs22 n):=addF_ok (regs21_ok n) (XI_ok n)
def ZM_a:Ann:=⟨[(2,⟨[2,9,10],[],⟨[(1,.d (.int .i64)),(11,.d (.int .i64))],[]⟩,[(.exit 0,⟨[(1,.d (.int .i64))],[]⟩)]⟩)],[]⟩
abbrev ZM_p:List Sk:=[.d (.slice (.int .i64)),.d (.int .i64),.fn 75 [] []]
abbrev ZM_r:List Sk:=[.d (.int .i64)]
@[irreducible] noncomputable def ZM (n:Nat)(p:PayL R.T ZM_p):Option (PayL R.T ZM_r):=funM E R n false (regs22 n) (its1 n) ZM_a Tryz.f76 ZM_p ZM_r p
theorem ZM_ok (n:Nat)(p:PayL R.T ZM_p)(x:PayL R.T ZM_r)(h:ZM n p=some x):Pure E 76 (encSL R ZM_p p) (retV (encSL R ZM_r x)):=by unfold ZM at h;exact funM_ok rOK (regs22_ok n) (its1_ok n) h Tryz.func76 rfl rfl rfl rfl (by kernel_rfl)
noncomputable def regs23 (n:Nat):Nat->List (FR R):=addF 76 ⟨ZM_p,ZM_r,ZM n,dflL R ZM_r,false⟩ (regs22 n)
theorem regs23_ok (n:Nat):RegsOK E (regs23 n):=addF_ok (regs22_ok n) (ZM_ok n)
def Xz_a:Ann:=⟨[],[]⟩
abbrev Xz_p:List Sk:=[.d (.int .i64),.d (.slice (.int .i64))]
abbrev Xz_r:List Sk:=[.d (.int .i64)]
@[irreducible] noncomputable def Xz (n:Nat)(p:PayL R.T Xz_p):Option (PayL R.T Xz_r):=funM E R n false (regs23 n) (its1 n) Xz_a Tryz.f53 Xz_p Xz_r p
theorem Xz_ok (n:Nat)(p:PayL R.T Xz_p)(x:PayL R.T Xz_r)(h:Xz n p=some x):Pure E 53 (encSL R Xz_p p) (retV (encSL R Xz_r x)):=by unfold Xz at h;exact funM_ok rOK (regs23_ok n) (its1_ok n) h Tryz.func53 rfl rfl rfl rfl (by kernel_rfl)
noncomputable def regs24 (n:Nat):Nat->List (FR R):=addF 53 ⟨Xz_p,Xz_r,Xz n,dflL R Xz_r,false⟩ (regs23 n)
theorem regs24_ok (n:Nat):RegsOK E (regs24 n):=addF_ok (regs23_ok n) (Xz_ok n)
def Xo_a:Ann:=⟨[],[]⟩
abbrev Xo_p:List Sk:=[.d (.int .i64),.d (.slice (.int .i64)),.d (.slice (.int .i64))]
abbrev Xo_r:List Sk:=[.d (.int .i64)]
@[irreducible] noncomputable def Xo (n:Nat)(p:PayL R.T Xo_p):Option (PayL R.T Xo_r):=funM E R n false (regs24 n) (its1 n) Xo_a Tryz.f28 Xo_p Xo_r p
theorem Xo_ok (n:Nat)(p:PayL R.T Xo_p)(x:PayL R.T Xo_r)(h:Xo n p=some x):Pure E 28 (encSL R Xo_p p) (retV (encSL R Xo_r x)):=by unfold Xo at h;exact funM_ok rOK (regs24_ok n) (its1_ok n) h Tryz.func28 rfl rfl rfl rfl (by kernel_rfl)
noncomputable def regs25 (n:Nat):Nat->List (FR R):=addF 28 ⟨Xo_p,Xo_r,Xo n,dflL R Xo_r,false⟩ (regs24 n)
theorem regs25_ok (n:Nat):RegsOK E (regs25 n):=addF_ok (regs24_ok n) (Xo_ok n)
def Zq_a:Ann:=⟨[(3,⟨[1,2,9,10],[2],⟨[(5,.l (.own 22) (.int .i64)),(11,.d (.int .i64))],[]⟩,[(.exit 0,⟨[(5,.l (.own 22) (.int .i64))],[]⟩)]⟩)],[]⟩
abbrev Zq_p:List Sk:=[.d (.st 5),.d (.slice (.int .i64))]
abbrev Zq_r:List Sk:=[.d (.slice (.int .i64))]
@[irreducible] noncomputable def Zq (n:Nat)(p:PayL R.T Zq_p):Option (PayL R.T Zq_r):=funM E R n false (regs25 n) (its1 n) Zq_a Tryz.f43 Zq_p Zq_r p
theorem Zq_ok (n:Nat)(p:PayL R.T Zq_p)(x:PayL R.T Zq_r)(h:Zq n p=some x):Pure E 43 (encSL R Zq_p p) (retV (encSL R Zq_r x)):=by unfold Zq at h;exact funM_ok rOK (regs25_ok n) (its1_ok n) h Tryz.func43 rfl rfl rfl rfl (by kernel_rfl)
noncomputable def regs26 (n:Nat):Nat->List (FR R):=addF 43 ⟨Zq_p,Zq_r,Zq n,dflL R Zq_r,false⟩ (regs25 n)
theorem regs26_ok (n:Nat):RegsOK E (regs26 n):=addF_ok (regs25_ok n) (Zq_ok n)
def Xp_a:Ann:=⟨[],[]⟩
abbrev Xp_p:List Sk:=[.d (.int .i64),.d (.slice (.slice (.int .i64))),.d (.st 1),.d (.slice (.int .i64)),.d (.int .i64)]
abbrev Xp_r:List Sk:=[.d (.st 6),.d .bool]
@[irreducible] noncomputable def Xp (n:Nat)(p:PayL R.T Xp_p):Option (PayL R.T Xp_r):=funM E R n false (regs26 n) (its1 n) Xp_a Tryz.f30 Xp_p Xp_r p
theorem Xp_ok (n:Nat)(p:PayL R.T Xp_p)(x:PayL R.T Xp_r)(h:Xp n p=some x):Pure E 30 (encSL R Xp_p p) (retV (encSL R Xp_r x)):=by unfold Xp at h;exact funM_ok rOK (regs26_ok n) (its1_ok n) h Tryz.func30 rfl rfl rfl rfl (by kernel_rfl)
noncomputable def regs27 (n:Nat):Nat->List (FR R):=addF 30 ⟨Xp_p,Xp_r,Xp n,dflL R Xp_r,false⟩ (regs26 n)
theorem regs27_ok (n:Nat):RegsOK E (regs27 n):=addF_ok (regs26_ok n) (Xp_ok n)
def Xj_a:Ann:=⟨[],[]⟩
abbrev Xj_p:List Sk:=[.d (.st 6),.d (.int .i64)]
abbrev Xj_o:List (Nat×ObSk):=[]
abbrev graph_search_walk_w:List (Nat×ObSk):=[]
abbrev graph_search_walk_k:NK:=.fnc 57 [] [.cref [.d (.int .i64),.d (.slice (.slice (.int .i64))),.d (.slice (.st 0)),.d (.slice (.int .i64))] 0] [.d (.int .i64)]
@[irreducible] noncomputable def Xj (n:Nat)(p:PayL R.T Xj_p)(q:PayOs R.T Xj_o):Option (PayN R.T graph_search_walk_k×PayOs R.T graph_search_walk_w):=funN E R n false (regs27 n) (its1 n) Xj_a Tryz.f32 Xj_p Xj_o graph_search_walk_k graph_search_walk_w p q
theorem Xj_ok (n:Nat):FNOK1 E 32 Xj_p Xj_o graph_search_walk_k graph_search_walk_w (Xj n):=by intro p q y q' h;have h:Xj n p q=some (y,q'):=h;unfold Xj at h;exact funN_ok' rOK (regs27_ok n) (its1_ok n) h Tryz.func32 rfl (by kernel_rfl)
noncomputable def its2 (n:Nat):IR R:=addM 32 (mkN Xj_p Xj_o graph_search_walk_k graph_search_walk_w (Xj n)) (its1 n)
theorem its2_ok (n:Nat):ItersOK E (its2 n):=addM_ok (m:=mkN Xj_p Xj_o graph_search_walk_k graph_search_walk_w (Xj n)) (its1_ok n) (FMOK.N (Xj_ok n))
def XS_a:Ann:=⟨[(3,⟨[2],[],⟨[],[(2,.cells [.vw 11 (.int .i64)]),(11,.arr (.int .i64))]⟩,[(.normal,⟨[],[(2,.cells [.vw 11 (.int .i64)]),(11,.arr (.int .i64))]⟩)]⟩)],[]⟩
abbrev XS_p:List Sk:=[.nils,.fn 57 [] [.ref 1000000 0,.cref [.d (.int .i64),.d (.slice (.slice (.int .i64))),.d (.slice (.st 0)),.d (.slice (.int .i64))] 0]]
abbrev XS_o:List (Nat×ObSk):=[(1000000,.cells [.d (.int .i64)])]
abbrev slices_AppendSeq_int_int_w:List (Nat×ObSk):=[]
abbrev slices_AppendSeq_int_int_k:NK:=.arr (.int .i64)
@[irreducible] noncomputable def XS (n:Nat)(p:PayL R.T XS_p)(q:PayOs R.T XS_o):Option (PayN R.T slices_AppendSeq_int_int_k×PayOs R.T slices_AppendSeq_int_int_w):=funN E R n true (regs27 n) (its2 n) XS_a Tryz.f56 XS_p XS_o slices_AppendSeq_int_int_k slices_AppendSeq_int_int_w p q
theorem XS_ok (n:Nat):FNOK1 E 56 XS_p XS_o slices_AppendSeq_int_int_k slices_AppendSeq_int_int_w (XS n):=by intro p q y q' h;have h:XS n p q=some (y,q'):=h;unfold XS at h;exact funN_ok' rOK (regs27_ok n) (its2_ok n) h Tryz.func56 rfl (by kernel_rfl)
noncomputable def its3 (n:Nat):IR R:=addM 56 (mkN XS_p XS_o slices_AppendSeq_int_int_k slices_AppendSeq_int_int_w (XS n)) (its2 n)
theorem its3_ok (n:Nat):ItersOK E (its3 n):=addM_ok (m:=mkN XS_p XS_o slices_AppendSeq_int_int_k slices_AppendSeq_int_int_w (XS n)) (its2_ok n) (FMOK.N (XS_ok n))
def XT_a:Ann:=⟨[],[]⟩
abbrev XT_p:List Sk:=[.fn 57 [] [.ref 1000000 0,.cref [.d (.int .i64),.d (.slice (.slice (.int .i64))),.d (.slice (.st 0)),.d (.slice (.int .i64))] 0]]
abbrev XT_o:List (Nat×ObSk):=[(1000000,.cells [.d (.int .i64)])]
abbrev slices_Collect_int_w:List (Nat×ObSk):=[]
abbrev slices_Collect_int_k:NK:=.arr (.int .i64)
@[irreducible] noncomputable def XT (n:Nat)(p:PayL R.T XT_p)(q:PayOs R.T XT_o):Option (PayN R.T slices_Collect_int_k×PayOs R.T slices_Collect_int_w):=funN E R n false (regs27 n) (its3 n) XT_a Tryz.f31 XT_p XT_o slices_Collect_int_k slices_Collect_int_w p q
theorem XT_ok (n:Nat):FNOK1 E 31 XT_p XT_o slices_Collect_int_k slices_Collect_int_w (XT n):=by intro p q y q' h;have h:XT n p q=some (y,q'):=h;unfold XT at h;exact funN_ok' rOK (regs27_ok n) (its3_ok n) h Tryz.func31 rfl (by kernel_rfl)
noncomputable def its4 (n:Nat):IR R:=addM 31 (mkN XT_p XT_o slices_Collect_int_k slices_Collect_int_w (XT n)) (its3 n)
theorem its4_ok (n:Nat):ItersOK E (its4 n):=addM_ok (m:=mkN XT_p XT_o slices_Collect_int_k slices_Collect_int_w (XT n)) (its3_ok n) (FMOK.N (XT_ok n))
def XU_a:Ann:=⟨[],[]⟩
abbrev XU_p:List Sk:=[.d (.int .i64),.d (.slice (.slice (.int .i64))),.d (.st 1),.d (.slice (.int .i64)),.d (.int .i64)]
abbrev XU_r:List Sk:=[.d (.slice (.int .i64)),.d (.int .i64)]
@[irreducible] noncomputable def XU (n:Nat)(p:PayL R.T XU_p):Option (PayL R.T XU_r):=funM E R n false (regs27 n) (its4 n) XU_a Tryz.f9 XU_p XU_r p
theorem XU_ok (n:Nat)(p:PayL R.T XU_p)(x:PayL R.T XU_r)(h:XU n p=some x):Pure E 9 (encSL R XU_p p) (retV (encSL R XU_r x)):=by unfold XU at h;exact funM_ok rOK (regs27_ok n) (its4_ok n) h Tryz.func9 rfl rfl rfl rfl (by kernel_rfl)
noncomputable def regs28 (n:Nat):Nat->List (FR R):=addF 9 ⟨XU_p,XU_r,XU n,dflL R XU_r,false⟩ (regs27 n)
theorem regs28_ok (n:Nat):RegsOK E (regs28 n):=addF_ok (regs27_ok n) (XU_ok n)
def XV_a:Ann:=⟨[],[]⟩
abbrev XV_p:List Sk:=[.d (.int .u32)]
abbrev XV_r:List Sk:=[.d (.int .i64)]
@[irreducible] noncomputable def XV (n:Nat)(p:PayL R.T XV_p):Option (PayL R.T XV_r):=funM E R n false (regs28 n) (its4 n) XV_a Tryz.f97 XV_p XV_r p
theorem XV_ok (n:Nat)(p:PayL R.T XV_p)(x:PayL R.T XV_r)(h:XV n p=some x):Pure E 97 (encSL R XV_p p) (retV (encSL R XV_r x)):=by unfold XV at h;exact funM_ok rOK (regs28_ok n) (its4_ok n) h Tryz.func97 rfl rfl rfl rfl (by kernel_rfl)
noncomputable def regs29 (n:Nat):Nat->List (FR R):=addF 97 ⟨XV_p,XV_r,XV n,dflL R XV_r,false⟩ (regs28 n)
theorem regs29_ok (n:Nat):RegsOK E (regs29 n):=addF_ok (regs28_ok n) (XV_ok n)
def ZX_a:Ann:=⟨[],[]⟩
abbrev ZX_p:List Sk:=[.d (.int .u64)]
abbrev ZX_r:List Sk:=[.d (.int .i64)]
@[irreducible] noncomputable def ZX (n:Nat)(p:PayL R.T ZX_p):Option (PayL R.T ZX_r):=funM E R n false (regs29 n) (its4 n) ZX_a Tryz.f98 ZX_p ZX_r p
theorem ZX_ok (n:Nat)(p:PayL R.T ZX_p)(x:PayL R.T ZX_r)(h:ZX n p=some x):Pure E 98 (encSL R ZX_p p) (retV (encSL R ZX_r x)):=by unfold ZX at h;exact funM_ok rOK (regs29_ok n) (its4_ok n) h Tryz.func98 rfl rfl rfl rfl (by kernel_rfl)
noncomputable def regs30 (n:Nat):Nat->List (FR R):=addF 98 ⟨ZX_p,ZX_r,ZX n,dflL R ZX_r,false⟩ (regs29 n)
theorem regs30_ok (n:Nat):RegsOK E (regs30 n):=addF_ok (regs29_ok n) (ZX_ok n)
def ZV_a:Ann:=⟨[],[]⟩
abbrev ZV_p:List Sk:=[.d (.int .u64)]
abbrev ZV_r:List Sk:=[.d (.int .i64)]
@[irreducible] noncomputable def ZV (n:Nat)(p:PayL R.T ZV_p):Option (PayL R.T ZV_r):=funM E R n false (regs30 n) (its4 n) ZV_a Tryz.f79 ZV_p ZV_r p
theorem ZV_ok (n:Nat)(p:PayL R.T ZV_p)(x:PayL R.T ZV_r)(h:ZV n p=some x):Pure E 79 (encSL R ZV_p p) (retV (encSL R ZV_r x)):=by unfold ZV at h;exact funM_ok rOK (regs30_ok n) (its4_ok n) h Tryz.func79 rfl rfl rfl rfl (by kernel_rfl)
noncomputable def regs31 (n:Nat):Nat->List (FR R):=addF 79 ⟨ZV_p,ZV_r,ZV n,dflL R ZV_r,false⟩ (regs30 n)
theorem regs31_ok (n:Nat):RegsOK E (regs31 n):=addF_ok (regs30_ok n) (ZV_ok n)
def ZF_a:Ann:=⟨[(5,⟨[0],[],⟨[(3,.d (.int .i64))],[]⟩,[(.ret,⟨[(2,.d (.int .i64))],[]⟩)]⟩)],[]⟩
abbrev ZF_p:List Sk:=[.d (.int .i64)]
abbrev ZF_r:List Sk:=[.d (.int .i64)]
@[irreducible] noncomputable def ZF (n:Nat)(p:PayL R.T ZF_p):Option (PayL R.T ZF_r):=funM E R n false (regs31 n) (its4 n) ZF_a Tryz.f101 ZF_p ZF_r p
theorem ZF_ok (n:Nat)(p:PayL R.T ZF_p)(x:PayL R.T ZF_r)(h:ZF n p=some x):Pure E 101 (encSL R ZF_p p) (retV (encSL R ZF_r x)):=by unfold ZF at h;exact funM_ok rOK (regs31_ok n) (its4_ok n) h Tryz.func101 rfl rfl rfl rfl (by kernel_rfl)
noncomputable def regs32 (n:Nat):Nat->List (FR R):=addF 101 ⟨ZF_p,ZF_r,ZF n,dflL R ZF_r,false⟩ (regs31 n)
theorem regs32_ok (n:Nat):RegsOK E (regs32 n):=addF_ok (regs31_ok n) (ZF_ok n)
def Xk_a:Ann:=⟨[],[]⟩
abbrev Xk_p:List Sk:=[.d (.int .i64),.d (.int .i64),.cref [.d (.int .i64)] 0]
abbrev Xk_r:List Sk:=[.d (.int .i64)]
@[irreducible] noncomputable def Xk (n:Nat)(p:PayL R.T Xk_p):Option (PayL R.T Xk_r):=funM E R n false (regs32 n) (its4 n) Xk_a Tryz.f100 Xk_p Xk_r p
theorem Xk_ok (n:Nat)(p:PayL R.T Xk_p)(x:PayL R.T Xk_r)(h:Xk n p=some x):Pure E 100 (encSL R Xk_p p) (retV (encSL R Xk_r x)):=by unfold Xk at h;exact funM_ok rOK (regs32_ok n) (its4_ok n) h Tryz.func100 rfl rfl rfl rfl (by kernel_rfl)
noncomputable def regs33 (n:Nat):Nat->List (FR R):=addF 100 ⟨Xk_p,Xk_r,Xk n,dflL R Xk_r,false⟩ (regs32 n)
theorem regs33_ok (n:Nat):RegsOK E (regs33 n):=addF_ok (regs32_ok n) (Xk_ok n)
def Xl_a:Ann:=⟨[],[]⟩
abbrev Xl_p:List Sk:=[.d (.int .i64),.d (.int .i64)]
abbrev Xl_r:List Sk:=[.d (.int .i64)]
@[irreducible] noncomputable def Xl (n:Nat)(p:PayL R.T Xl_p):Option (PayL R.T Xl_r):=funM E R n false (regs33 n) (its4 n) Xl_a Tryz.f103 Xl_p Xl_r p
theorem Xl_ok (n:Nat)(p:PayL R.T Xl_p)(x:PayL R.T Xl_r)(h:Xl n p=some x):Pure E 103 (encSL R Xl_p p) (retV (encSL R Xl_r x)):=by unfold Xl at h;exact funM_ok rOK (regs33_ok n) (its4_ok n) h Tryz.func103 rfl rfl rfl rfl (by kernel_rfl)
noncomputable def regs34 (n:Nat):Nat->List (FR R):=addF 103 ⟨Xl_p,Xl_r,Xl n,dflL R Xl_r,false⟩ (regs33 n)
theorem regs34_ok (n:Nat):RegsOK E (regs34 n):=addF_ok (regs33_ok n) (Xl_ok n)
def Xb_a:Ann:=⟨[],[]⟩
abbrev Xb_p:List Sk:=[.d (.int .i64)]
abbrev Xb_r:List Sk:=[.d .bool]
@[irreducible] noncomputable def Xb (n:Nat)(p:PayL R.T Xb_p):Option (PayL R.T Xb_r):=funM E R n false (regs34 n) (its4 n) Xb_a Tryz.f80 Xb_p Xb_r p
theorem Xb_ok (n:Nat)(p:PayL R.T Xb_p)(x:PayL R.T Xb_r)(h:Xb n p=some x):Pure E 80 (encSL R Xb_p p) (retV (encSL R Xb_r x)):=by unfold Xb at h;exact funM_ok rOK (regs34_ok n) (its4_ok n) h Tryz.func80 rfl rfl rfl rfl (by kernel_rfl)
noncomputable def regs35 (n:Nat):Nat->List (FR R):=addF 80 ⟨Xb_p,Xb_r,Xb n,dflL R Xb_r,false⟩ (regs34 n)
theorem regs35_ok (n:Nat):RegsOK E (regs35 n):=addF_ok (regs34_ok n) (Xb_ok n)
def Xq_a:Ann:=⟨[],[]⟩
abbrev Xq_p:List Sk:=[.d (.int .i64),.d (.int .i64)]
abbrev Xq_r:List Sk:=[.d (.int .i64)]
@[irreducible] noncomputable def Xq (n:Nat)(p:PayL R.T Xq_p):Option (PayL R.T Xq_r):=funM E R n false (regs35 n) (its4 n) Xq_a Tryz.f62 Xq_p Xq_r p
theorem Xq_ok (n:Nat)(p:PayL R.T Xq_p)(x:PayL R.T Xq_r)(h:Xq n p=some x):Pure E 62 (encSL R Xq_p p) (retV (encSL R Xq_r x)):=by unfold Xq at h;exact funM_ok rOK (regs35_ok n) (its4_ok n) h Tryz.func62 rfl rfl rfl rfl (by kernel_rfl)
noncomputable def regs36 (n:Nat):Nat->List (FR R):=addF 62 ⟨Xq_p,Xq_r,Xq n,dflL R Xq_r,false⟩ (regs35 n)
theorem regs36_ok (n:Nat):RegsOK E (regs36 n):=addF_ok (regs35_ok n) (Xq_ok n)
def Zy_a:Ann:=⟨[(3,⟨[3,6,7],[],⟨[(8,.d (.int .i64))],[]⟩,[(.exit 0,⟨[],[]⟩),(.ret,⟨[(2,.d (.int .i64))],[]⟩)]⟩)],[]⟩
abbrev Zy_p:List Sk:=[.d (.slice (.int .i64))]
abbrev Zy_r:List Sk:=[.d (.int .i64)]
@[irreducible] noncomputable def Zy (n:Nat)(p:PayL R.T Zy_p):Option (PayL R.T Zy_r):=funM E R n false (regs36 n) (its4 n) Zy_a Tryz.f61 Zy_p Zy_r p
theorem Zy_ok (n:Nat)(p:PayL R.T Zy_p)(x:PayL R.T Zy_r)(h:Zy n p=some x):Pure E 61 (encSL R Zy_p p) (retV (encSL R Zy_r x)):=by unfold Zy at h;exact funM_ok rOK (regs36_ok n) (its4_ok n) h Tryz.func61 rfl rfl rfl rfl (by kernel_rfl)
noncomputable def regs37 (n:Nat):Nat->List (FR R):=addF 61 ⟨Zy_p,Zy_r,Zy n,dflL R Zy_r,false⟩ (regs36 n)
theorem regs37_ok (n:Nat):RegsOK E (regs37 n):=addF_ok (regs36_ok n) (Zy_ok n)
def Xr_a:Ann:=⟨[],[]⟩
abbrev Xr_p:List Sk:=[.d (.st 6),.d (.int .i64),.d (.int .i64)]
abbrev Xr_r:List Sk:=[.d (.int .i64)]
@[irreducible] noncomputable def Xr (n:Nat)(p:PayL R.T Xr_p):Option (PayL R.T Xr_r):=funM E R n false (regs37 n) (its4 n) Xr_a Tryz.f37 Xr_p Xr_r p
theorem Xr_ok (n:Nat)(p:PayL R.T Xr_p)(x:PayL R.T Xr_r)(h:Xr n p=some x):Pure E 37 (encSL R Xr_p p) (retV (encSL R Xr_r x)):=by unfold Xr at h;exact funM_ok rOK (regs37_ok n) (its4_ok n) h Tryz.func37 rfl rfl rfl rfl (by kernel_rfl)
noncomputable def regs38 (n:Nat):Nat->List (FR R):=addF 37 ⟨Xr_p,Xr_r,Xr n,dflL R Xr_r,false⟩ (regs37 n)
theorem regs38_ok (n:Nat):RegsOK E (regs38 n):=addF_ok (regs37_ok n) (Xr_ok n)
def Zo_a:Ann:=⟨[(5,⟨[0,1],[],⟨[(5,.d (.int .i64)),(6,.d (.int .i64))],[]⟩,[(.exit 0,⟨[(5,.d (.int .i64))],[]⟩)]⟩)],[]⟩
abbrev Zo_p:List Sk:=[.d (.slice (.int .i64)),.fn 37 [.d (.st 6)] []]
abbrev Zo_r:List Sk:=[.d (.int .i64)]
@[irreducible] noncomputable def Zo (n:Nat)(p:PayL R.T Zo_p):Option (PayL R.T Zo_r):=funM E R n false (regs38 n) (its4 n) Zo_a Tryz.f58 Zo_p Zo_r p
theorem Zo_ok (n:Nat)(p:PayL R.T Zo_p)(x:PayL R.T Zo_r)(h:Zo n p=some x):Pure E 58 (encSL R Zo_p p) (retV (encSL R Zo_r x)):=by unfold Zo at h;exact funM_ok rOK (regs38_ok n) (its4_ok n) h Tryz.func58 rfl rfl rfl rfl (by kernel_rfl)
noncomputable def regs39 (n:Nat):Nat->List (FR R):=addF 58 ⟨Zo_p,Zo_r,Zo n,dflL R Zo_r,false⟩ (regs38 n)
theorem regs39_ok (n:Nat):RegsOK E (regs39 n):=addF_ok (regs38_ok n) (Zo_ok n)
abbrev XO_p:List Sk:=[.d (.int .i64),.d (.int .i64),.d (.int .i64)]
abbrev XO_r:List Sk:=[.d (.int .i64)]
@[irreducible] noncomputable def XO (n:Nat)(p:PayL R.T XO_p):Option (PayL R.T XO_r):=highF (Xk n) (Xl n) (Zo n) p
theorem XO_eq (n:Nat)(p:PayL R.T XO_p):XO n p=highF (Xk n) (Xl n) (Zo n) p:=by unfold XO;rfl
theorem XO_ok (n:Nat)(p:PayL R.T XO_p)(x:PayL R.T XO_r)(h:XO n p=some x):Pure E 40 (encSL R XO_p p) (retV (encSL R XO_r x)):=by unfold XO at h;exact high_ok (Xk_ok n) (Xl_ok n) (Zo_ok n) p x h
noncomputable def regs40 (n:Nat):Nat->List (FR R):=addF 40 ⟨XO_p,XO_r,XO n,dflL R XO_r,false⟩ (regs39 n)
theorem regs40_ok (n:Nat):RegsOK E (regs40 n):=addF_ok (regs39_ok n) (XO_ok n)
def Xm_a:Ann:=⟨[],[]⟩
abbrev Xm_p:List Sk:=[.d (.int .i64),.d (.int .i64),.d (.int .i64),.d (.int .i64)]
abbrev Xm_r:List Sk:=[.d .bool]
@[irreducible] noncomputable def Xm (n:Nat)(p:PayL R.T Xm_p):Option (PayL R.T Xm_r):=funM E R n false (regs40 n) (its4 n) Xm_a Tryz.f17 Xm_p Xm_r p
theorem Xm_ok (n:Nat)(p:PayL R.T Xm_p)(x:PayL R.T Xm_r)(h:Xm n p=some x):Pure E 17 (encSL R Xm_p p) (retV (encSL R Xm_r x)):=by unfold Xm at h;exact funM_ok rOK (regs40_ok n) (its4_ok n) h Tryz.func17 rfl rfl rfl rfl (by kernel_rfl)
noncomputable def regs41 (n:Nat):Nat->List (FR R):=addF 17 ⟨Xm_p,Xm_r,Xm n,dflL R Xm_r,false⟩ (regs40 n)
theorem regs41_ok (n:Nat):RegsOK E (regs41 n):=addF_ok (regs40_ok n) (Xm_ok n)
def Xs_a:Ann:=⟨[],[]⟩
abbrev Xs_p:List Sk:=[.d (.int .i64),.cref [.d (.int .i64),.d (.slice (.slice (.int .i64))),.d (.slice (.st 0)),.d (.slice (.int .i64))] 0,.cref [.d (.int .i64)] 0]
abbrev Xs_r:List Sk:=[.d .bool]
@[irreducible] noncomputable def Xs (n:Nat)(p:PayL R.T Xs_p):Option (PayL R.T Xs_r):=funM E R n false (regs41 n) (its4 n) Xs_a Tryz.f33 Xs_p Xs_r p
theorem Xs_ok (n:Nat)(p:PayL R.T Xs_p)(x:PayL R.T Xs_r)(h:Xs n p=some x):Pure E 33 (encSL R Xs_p p) (retV (encSL R Xs_r x)):=by unfold Xs at h;exact funM_ok rOK (regs41_ok n) (its4_ok n) h Tryz.func33 rfl rfl rfl rfl (by kernel_rfl)
noncomputable def regs42 (n:Nat):Nat->List (FR R):=addF 33 ⟨Xs_p,Xs_r,Xs n,dflL R Xs_r,false⟩ (regs41 n)
theorem regs42_ok (n:Nat):RegsOK E (regs42 n):=addF_ok (regs41_ok n) (Xs_ok n)
def Zz_a:Ann:=⟨[(2,⟨[0,1,7],[],⟨[(8,.d (.int .i64))],[]⟩,[(.exit 0,⟨[],[]⟩),(.ret,⟨[(4,.d (.int .i64))],[]⟩)]⟩)],[]⟩
abbrev Zz_p:List Sk:=[.d (.slice (.int .i64)),.fn 33 [] [.cref [.d (.int .i64),.d (.slice (.slice (.int .i64))),.d (.slice (.st 0)),.d (.slice (.int .i64))] 0,.cref [.d (.int .i64)] 0]]
abbrev Zz_r:List Sk:=[.d (.int .i64)]
@[irreducible] noncomputable def Zz (n:Nat)(p:PayL R.T Zz_p):Option (PayL R.T Zz_r):=funM E R n false (regs42 n) (its4 n) Zz_a Tryz.f59 Zz_p Zz_r p
theorem Zz_ok (n:Nat)(p:PayL R.T Zz_p)(x:PayL R.T Zz_r)(h:Zz n p=some x):Pure E 59 (encSL R Zz_p p) (retV (encSL R Zz_r x)):=by unfold Zz at h;exact funM_ok rOK (regs42_ok n) (its4_ok n) h Tryz.func59 rfl rfl rfl rfl (by kernel_rfl)
noncomputable def regs43 (n:Nat):Nat->List (FR R):=addF 59 ⟨Zz_p,Zz_r,Zz n,dflL R Zz_r,false⟩ (regs42 n)
theorem regs43_ok (n:Nat):RegsOK E (regs43 n):=addF_ok (regs42_ok n) (Zz_ok n)
def Zg_a:Ann:=⟨[(5,⟨[0,1],[1000001,1000002],⟨[(5,.d (.int .i64)),(6,.d (.int .i64))],[(1000000,.arr (.int .i64))]⟩,[(.exit 0,⟨[(5,.d (.int .i64))],[(1000000,.arr (.int .i64))]⟩)]⟩)],[]⟩
abbrev Zg_p:List Sk:=[.vw 1000000 (.int .i64),.fn 33 [] [.ref 1000001 0,.ref 1000002 0]]
abbrev Zg_r:List Sk:=[.sub 1000000 (.int .i64)]
abbrev Zg_o:List (Nat×ObSk):=[(1000000,.arr (.int .i64)),(1000001,.st 6),(1000002,.cells [.d (.int .i64)])]
@[irreducible] noncomputable def Zg (n:Nat)(p:PayL R.T Zg_p)(q:PayOs R.T Zg_o):Option (PayL R.T Zg_r×PayOs R.T Zg_o):=funI E R n false (regs43 n) (its4 n) Zg_a Tryz.f34 Zg_p Zg_o Zg_r p q
theorem Zg_ok (n:Nat):FMOK1 E 34 Zg_p Zg_o Zg_r (Zg n):=by intro p q y q' h;have h:Zg n p q=some (y,q'):=h;unfold Zg at h;exact funI_ok rOK (regs43_ok n) (its4_ok n) h Tryz.func34 rfl (by kernel_rfl)
noncomputable def its5 (n:Nat):IR R:=addM 34 (mkM Zg_p Zg_o Zg_r (Zg n)) (its4 n)
theorem its5_ok (n:Nat):ItersOK E (its5 n):=addM_ok (m:=mkM Zg_p Zg_o Zg_r (Zg n)) (its4_ok n) (FMOK.M (Zg_ok n))
def Zi_a:Ann:=⟨[(7,⟨[6,8,11,12,13,14,15,16,18],[6,8],⟨[],[(11,.cells [.d (.int .i64)]),(12,.cells [.sub 65 (.int .i64)]),(13,.cells [.d (.int .i64)]),(14,.cells [.d .bool]),(15,.cells [.d (.int .i64)]),(16,.st 6),(18,.cells [.d (.int .i64)]),(65,.arr (.int .i64))]⟩,[(.normal,⟨[],[(11,.cells [.d (.int .i64)]),(12,.cells [.sub 65 (.int .i64)]),(13,.cells [.d (.int .i64)]),(14,.cells [.d .bool]),(15,.cells [.d (.int .i64)]),(16,.st 6),(18,.cells [.d (.int .i64)]),(65,.arr (.int .i64))]⟩),(.ret,⟨[],[(11,.cells [.d (.int .i64)]),(12,.cells [.sub 65 (.int .i64)]),(13,.cells [.d (.int .i64)]),(14,.cells [.d .bool]),(15,.cells [.d (.int .i64)]),(16,.st 6),(18,.cells [.d (.int .i64)]),(65,.arr (.int .i64))]⟩)]⟩)],[]⟩
abbrev Zi_p:List Sk:=[.d (.int .i64),.d (.slice (.slice (.int .i64))),.d (.st 1),.d (.slice (.int .i64)),.d (.int .i64),.d (.int .i64)]
abbrev Zi_r:List Sk:=[.d (.slice (.int .i64)),.d (.int .i64),.d .bool,.d (.int .i64)]
@[irreducible] noncomputable def Zi (n:Nat)(p:PayL R.T Zi_p):Option (PayL R.T Zi_r):=funM E R n false (regs43 n) (its5 n) Zi_a Tryz.f10 Zi_p Zi_r p
theorem Zi_ok (n:Nat)(p:PayL R.T Zi_p)(x:PayL R.T Zi_r)(h:Zi n p=some x):Pure E 10 (encSL R Zi_p p) (retV (encSL R Zi_r x)):=by unfold Zi at h;exact funM_ok rOK (regs43_ok n) (its5_ok n) h Tryz.func10 rfl rfl rfl rfl (by kernel_rfl)
noncomputable def regs44 (n:Nat):Nat->List (FR R):=addF 10 ⟨Zi_p,Zi_r,Zi n,dflL R Zi_r,false⟩ (regs43 n)
theorem regs44_ok (n:Nat):RegsOK E (regs44 n):=addF_ok (regs43_ok n) (Zi_ok n)
def Zm_a:Ann:=⟨[(1,⟨[0,1,2,3],[],⟨[(8,.d (.int .i64))],[(1000000,.arr (.int .i64))]⟩,[(.exit 0,⟨[],[(1000000,.arr (.int .i64))]⟩)]⟩),
 (4,⟨[0,1,2,3,8],[],⟨[(9,.d (.int .i64))],[(1000000,.arr (.int .i64))]⟩,[(.exit 2,⟨[],[(1000000,.arr (.int .i64))]⟩)]⟩)],[]⟩
abbrev Zm_p:List Sk:=[.vw 1000000 (.int .i64),.d (.int .i64),.d (.int .i64),.fn 37 [.d (.st 6)] []]
abbrev Zm_r:List Sk:=[]
abbrev Zm_o:List (Nat×ObSk):=[(1000000,.arr (.int .i64))]
@[irreducible] noncomputable def Zm (n:Nat)(p:PayL R.T Zm_p)(q:PayOs R.T Zm_o):Option (PayL R.T Zm_r×PayOs R.T Zm_o):=funI E R n false (regs44 n) (its5 n) Zm_a Tryz.f89 Zm_p Zm_o Zm_r p q
theorem Zm_ok (n:Nat):FMOK1 E 89 Zm_p Zm_o Zm_r (Zm n):=by intro p q y q' h;have h:Zm n p q=some (y,q'):=h;unfold Zm at h;exact funI_ok rOK (regs44_ok n) (its5_ok n) h Tryz.func89 rfl (by kernel_rfl)
noncomputable def its6 (n:Nat):IR R:=addM 89 (mkM Zm_p Zm_o Zm_r (Zm n)) (its5 n)
theorem its6_ok (n:Nat):ItersOK E (its6 n):=addM_ok (m:=mkM Zm_p Zm_o Zm_r (Zm n)) (its5_ok n) (FMOK.M (Zm_ok n))
def ZS_a:Ann:=⟨[(1,⟨[0,2,3,4],[],⟨[(10,.d (.int .i64))],[(1000000,.arr (.int .i64))]⟩,[(.exit 0,⟨[],[(1000000,.arr (.int .i64))]⟩),(.ret,⟨[],[(1000000,.arr (.int .i64))]⟩)]⟩)],[(5,⟨[0,2,3,4,10],[1000000],⟨[],[]⟩,[(.normal,⟨[(11,.d (.int .i64))],[]⟩)]⟩)]⟩
abbrev ZS_p:List Sk:=[.vw 1000000 (.int .i64),.d (.int .i64),.d (.int .i64),.d (.int .i64),.fn 37 [.d (.st 6)] []]
abbrev ZS_r:List Sk:=[]
abbrev ZS_o:List (Nat×ObSk):=[(1000000,.arr (.int .i64))]
@[irreducible] noncomputable def ZS (n:Nat)(p:PayL R.T ZS_p)(q:PayOs R.T ZS_o):Option (PayL R.T ZS_r×PayOs R.T ZS_o):=funI E R n false (regs44 n) (its6 n) ZS_a Tryz.f113 ZS_p ZS_o ZS_r p q
theorem ZS_ok (n:Nat):FMOK1 E 113 ZS_p ZS_o ZS_r (ZS n):=by intro p q y q' h;have h:ZS n p q=some (y,q'):=h;unfold ZS at h;exact funI_ok rOK (regs44_ok n) (its6_ok n) h Tryz.func113 rfl (by kernel_rfl)
noncomputable def its7 (n:Nat):IR R:=addM 113 (mkM ZS_p ZS_o ZS_r (ZS n)) (its6 n)
theorem its7_ok (n:Nat):ItersOK E (its7 n):=addM_ok (m:=mkM ZS_p ZS_o ZS_r (ZS n)) (its6_ok n) (FMOK.M (ZS_ok n))
def Zr_a:Ann:=⟨[(4,⟨[0,3,8,9,10],[],⟨[(11,.d (.int .i64))],[(1000000,.arr (.int .i64))]⟩,[(.exit 0,⟨[],[(1000000,.arr (.int .i64))]⟩)]⟩),
 (8,⟨[0,3,8,9],[],⟨[(12,.d (.int .i64))],[(1000000,.arr (.int .i64))]⟩,[(.exit 2,⟨[],[(1000000,.arr (.int .i64))]⟩)]⟩)],[]⟩
abbrev Zr_p:List Sk:=[.vw 1000000 (.int .i64),.d (.int .i64),.d (.int .i64),.fn 37 [.d (.st 6)] []]
abbrev Zr_r:List Sk:=[]
abbrev Zr_o:List (Nat×ObSk):=[(1000000,.arr (.int .i64))]
@[irreducible] noncomputable def Zr (n:Nat)(p:PayL R.T Zr_p)(q:PayOs R.T Zr_o):Option (PayL R.T Zr_r×PayOs R.T Zr_o):=funI E R n false (regs44 n) (its7 n) Zr_a Tryz.f90 Zr_p Zr_o Zr_r p q
theorem Zr_ok (n:Nat):FMOK1 E 90 Zr_p Zr_o Zr_r (Zr n):=by intro p q y q' h;have h:Zr n p q=some (y,q'):=h;unfold Zr at h;exact funI_ok rOK (regs44_ok n) (its7_ok n) h Tryz.func90 rfl (by kernel_rfl)
noncomputable def its8 (n:Nat):IR R:=addM 90 (mkM Zr_p Zr_o Zr_r (Zr n)) (its7 n)
theorem its8_ok (n:Nat):ItersOK E (its8 n):=addM_ok (m:=mkM Zr_p Zr_o Zr_r (Zr n)) (its7_ok n) (FMOK.M (Zr_ok n))
def Xt_a:Ann:=⟨[],[]⟩
abbrev Xt_p:List Sk:=[.d (.int .i64)]
abbrev Xt_r:List Sk:=[.d (.int .u64)]
@[irreducible] noncomputable def Xt (n:Nat)(p:PayL R.T Xt_p):Option (PayL R.T Xt_r):=funM E R n false (regs44 n) (its8 n) Xt_a Tryz.f114 Xt_p Xt_r p
theorem Xt_ok (n:Nat)(p:PayL R.T Xt_p)(x:PayL R.T Xt_r)(h:Xt n p=some x):Pure E 114 (encSL R Xt_p p) (retV (encSL R Xt_r x)):=by unfold Xt at h;exact funM_ok rOK (regs44_ok n) (its8_ok n) h Tryz.func114 rfl rfl rfl rfl (by kernel_rfl)
noncomputable def regs45 (n:Nat):Nat->List (FR R):=addF 114 ⟨Xt_p,Xt_r,Xt n,dflL R Xt_r,false⟩ (regs44 n)
theorem regs45_ok (n:Nat):RegsOK E (regs45 n):=addF_ok (regs44_ok n) (Xt_ok n)
def ZW_a:Ann:=⟨[],[]⟩
abbrev ZW_p:List Sk:=[.ref 1000000 0]
abbrev ZW_r:List Sk:=[.d (.int .u64)]
abbrev ZW_o:List (Nat×ObSk):=[(1000000,.cells [.d (.int .u64)])]
@[irreducible] noncomputable def ZW (n:Nat)(p:PayL R.T ZW_p)(q:PayOs R.T ZW_o):Option (PayL R.T ZW_r×PayOs R.T ZW_o):=funI E R n false (regs45 n) (its8 n) ZW_a Tryz.f115 ZW_p ZW_o ZW_r p q
theorem ZW_ok (n:Nat):FMOK1 E 115 ZW_p ZW_o ZW_r (ZW n):=by intro p q y q' h;have h:ZW n p q=some (y,q'):=h;unfold ZW at h;exact funI_ok rOK (regs45_ok n) (its8_ok n) h Tryz.func115 rfl (by kernel_rfl)
noncomputable def its9 (n:Nat):IR R:=addM 115 (mkM ZW_p ZW_o ZW_r (ZW n)) (its8 n)
theorem its9_ok (n:Nat):ItersOK E (its9 n):=addM_ok (m:=mkM ZW_p ZW_o ZW_r (ZW n)) (its8_ok n) (FMOK.M (ZW_ok n))
def ZN_a:Ann:=⟨[(5,⟨[0,1,8,9,10],[],⟨[(11,.d (.int .i64))],[(9,.cells [.d (.int .u64)]),(1000000,.arr (.int .i64))]⟩,[(.exit 0,⟨[],[(1000000,.arr (.int .i64))]⟩)]⟩)],[(10,⟨[0,1,8,9,10,11],[9,1000000],⟨[],[]⟩,[(.normal,⟨[(12,.d (.int .i64))],[]⟩)]⟩)]⟩
abbrev ZN_p:List Sk:=[.vw 1000000 (.int .i64),.d (.int .i64),.d (.int .i64),.fn 37 [.d (.st 6)] []]
abbrev ZN_r:List Sk:=[]
abbrev ZN_o:List (Nat×ObSk):=[(1000000,.arr (.int .i64))]
@[irreducible] noncomputable def ZN (n:Nat)(p:PayL R.T ZN_p)(q:PayOs R.T ZN_o):Option (PayL R.T ZN_r×PayOs R.T ZN_o):=funI E R n false (regs45 n) (its9 n) ZN_a Tryz.f91 ZN_p ZN_o ZN_r p q
theorem ZN_ok (n:Nat):FMOK1 E 91 ZN_p ZN_o ZN_r (ZN n):=by intro p q y q' h;have h:ZN n p q=some (y,q'):=h;unfold ZN at h;exact funI_ok rOK (regs45_ok n) (its9_ok n) h Tryz.func91 rfl (by kernel_rfl)
noncomputable def its10 (n:Nat):IR R:=addM 91 (mkM ZN_p ZN_o ZN_r (ZN n)) (its9 n)
theorem its10_ok (n:Nat):ItersOK E (its10 n):=addM_ok (m:=mkM ZN_p ZN_o ZN_r (ZN n)) (its9_ok n) (FMOK.M (ZN_ok n))
def Xc_a:Ann:=⟨[],[]⟩
abbrev Xc_p:List Sk:=[.d (.slice (.int .i64)),.d (.int .i64),.d (.int .i64),.ref 1000000 0,.fn 37 [.d (.st 6)] []]
abbrev Xc_r:List Sk:=[.d (.int .i64),.d (.int .i64)]
abbrev Xc_o:List (Nat×ObSk):=[(1000000,.cells [.d (.int .i64)])]
@[irreducible] noncomputable def Xc (n:Nat)(p:PayL R.T Xc_p)(q:PayOs R.T Xc_o):Option (PayL R.T Xc_r×PayOs R.T Xc_o):=funI E R n false (regs45 n) (its10 n) Xc_a Tryz.f121 Xc_p Xc_o Xc_r p q
theorem Xc_ok (n:Nat):FMOK1 E 121 Xc_p Xc_o Xc_r (Xc n):=by intro p q y q' h;have h:Xc n p q=some (y,q'):=h;unfold Xc at h;exact funI_ok rOK (regs45_ok n) (its10_ok n) h Tryz.func121 rfl (by kernel_rfl)
noncomputable def its11 (n:Nat):IR R:=addM 121 (mkM Xc_p Xc_o Xc_r (Xc n)) (its10 n)
theorem its11_ok (n:Nat):ItersOK E (its11 n):=addM_ok (m:=mkM Xc_p Xc_o Xc_r (Xc n)) (its10_ok n) (FMOK.M (Xc_ok n))
def Xd_a:Ann:=⟨[],[]⟩
abbrev Xd_p:List Sk:=[.d (.slice (.int .i64)),.d (.int .i64),.d (.int .i64),.d (.int .i64),.ref 1000000 0,.fn 37 [.d (.st 6)] []]
abbrev Xd_r:List Sk:=[.d (.int .i64)]
abbrev Xd_o:List (Nat×ObSk):=[(1000000,.cells [.d (.int .i64)])]
@[irreducible] noncomputable def Xd (n:Nat)(p:PayL R.T Xd_p)(q:PayOs R.T Xd_o):Option (PayL R.T Xd_r×PayOs R.T Xd_o):=funI E R n false (regs45 n) (its11 n) Xd_a Tryz.f117 Xd_p Xd_o Xd_r p q
theorem Xd_ok (n:Nat):FMOK1 E 117 Xd_p Xd_o Xd_r (Xd n):=by intro p q y q' h;have h:Xd n p q=some (y,q'):=h;unfold Xd at h;exact funI_ok rOK (regs45_ok n) (its11_ok n) h Tryz.func117 rfl (by kernel_rfl)
noncomputable def its12 (n:Nat):IR R:=addM 117 (mkM Xd_p Xd_o Xd_r (Xd n)) (its11 n)
theorem its12_ok (n:Nat):ItersOK E (its12 n):=addM_ok (m:=mkM Xd_p Xd_o Xd_r (Xd n)) (its11_ok n) (FMOK.M (Xd_ok n))
def Xe_a:Ann:=⟨[],[]⟩
abbrev Xe_p:List Sk:=[.d (.slice (.int .i64)),.d (.int .i64),.ref 1000000 0,.fn 37 [.d (.st 6)] []]
abbrev Xe_r:List Sk:=[.d (.int .i64)]
abbrev Xe_o:List (Nat×ObSk):=[(1000000,.cells [.d (.int .i64)])]
@[irreducible] noncomputable def Xe (n:Nat)(p:PayL R.T Xe_p)(q:PayOs R.T Xe_o):Option (PayL R.T Xe_r×PayOs R.T Xe_o):=funI E R n false (regs45 n) (its12 n) Xe_a Tryz.f116 Xe_p Xe_o Xe_r p q
theorem Xe_ok (n:Nat):FMOK1 E 116 Xe_p Xe_o Xe_r (Xe n):=by intro p q y q' h;have h:Xe n p q=some (y,q'):=h;unfold Xe at h;exact funI_ok rOK (regs45_ok n) (its12_ok n) h Tryz.func116 rfl (by kernel_rfl)
noncomputable def its13 (n:Nat):IR R:=addM 116 (mkM Xe_p Xe_o Xe_r (Xe n)) (its12 n)
theorem its13_ok (n:Nat):ItersOK E (its13 n):=addM_ok (m:=mkM Xe_p Xe_o Xe_r (Xe n)) (its12_ok n) (FMOK.M (Xe_ok n))
def XQ_a:Ann:=⟨[],[]⟩
abbrev XQ_p:List Sk:=[.d (.slice (.int .i64)),.d (.int .i64),.d (.int .i64),.fn 37 [.d (.st 6)] []]
abbrev XQ_r:List Sk:=[.d (.int .i64),.d (.int .i64)]
@[irreducible] noncomputable def XQ (n:Nat)(p:PayL R.T XQ_p):Option (PayL R.T XQ_r):=funM E R n false (regs45 n) (its13 n) XQ_a Tryz.f92 XQ_p XQ_r p
theorem XQ_ok (n:Nat)(p:PayL R.T XQ_p)(x:PayL R.T XQ_r)(h:XQ n p=some x):Pure E 92 (encSL R XQ_p p) (retV (encSL R XQ_r x)):=by unfold XQ at h;exact funM_ok rOK (regs45_ok n) (its13_ok n) h Tryz.func92 rfl rfl rfl rfl (by kernel_rfl)
noncomputable def regs46 (n:Nat):Nat->List (FR R):=addF 92 ⟨XQ_p,XQ_r,XQ n,dflL R XQ_r,false⟩ (regs45 n)
theorem regs46_ok (n:Nat):RegsOK E (regs46 n):=addF_ok (regs45_ok n) (XQ_ok n)
def Zu_a:Ann:=⟨[(2,⟨[0],[],⟨[(8,.d (.int .i64)),(9,.d (.int .i64))],[(1000000,.arr (.int .i64))]⟩,[(.exit 0,⟨[],[(1000000,.arr (.int .i64))]⟩)]⟩)],[]⟩
abbrev Zu_p:List Sk:=[.vw 1000000 (.int .i64),.d (.int .i64),.d (.int .i64),.fn 37 [.d (.st 6)] []]
abbrev Zu_r:List Sk:=[]
abbrev Zu_o:List (Nat×ObSk):=[(1000000,.arr (.int .i64))]
@[irreducible] noncomputable def Zu (n:Nat)(p:PayL R.T Zu_p)(q:PayOs R.T Zu_o):Option (PayL R.T Zu_r×PayOs R.T Zu_o):=funI E R n false (regs46 n) (its13 n) Zu_a Tryz.f93 Zu_p Zu_o Zu_r p q
theorem Zu_ok (n:Nat):FMOK1 E 93 Zu_p Zu_o Zu_r (Zu n):=by intro p q y q' h;have h:Zu n p q=some (y,q'):=h;unfold Zu at h;exact funI_ok rOK (regs46_ok n) (its13_ok n) h Tryz.func93 rfl (by kernel_rfl)
noncomputable def its14 (n:Nat):IR R:=addM 93 (mkM Zu_p Zu_o Zu_r (Zu n)) (its13 n)
theorem its14_ok (n:Nat):ItersOK E (its14 n):=addM_ok (m:=mkM Zu_p Zu_o Zu_r (Zu n)) (its13_ok n) (FMOK.M (Zu_ok n))
def Zc_a:Ann:=⟨[(3,⟨[0,1,2,3],[],⟨[(9,.d (.int .i64)),(10,.d (.int .i64))],[(1000000,.arr (.int .i64))]⟩,[(.exit 0,⟨[],[(1000000,.arr (.int .i64))]⟩),(.ret,⟨[(8,.d .bool)],[(1000000,.arr (.int .i64))]⟩)]⟩),
 (5,⟨[0,1,2,3,10],[1000000],⟨[(9,.d (.int .i64))],[]⟩,[(.exit 2,⟨[(9,.d (.int .i64))],[]⟩)]⟩),
 (14,⟨[0,1,2,3,9,10],[],⟨[(11,.d (.int .i64))],[(1000000,.arr (.int .i64))]⟩,[(.exit 4,⟨[],[(1000000,.arr (.int .i64))]⟩)]⟩),
 (20,⟨[0,1,2,3,9,10],[],⟨[(12,.d (.int .i64))],[(1000000,.arr (.int .i64))]⟩,[(.exit 6,⟨[],[(1000000,.arr (.int .i64))]⟩)]⟩)],[(18,⟨[0,1,2,3,9,10],[],⟨[],[]⟩,[(.normal,⟨[],[(1000000,.arr (.int .i64))]⟩)]⟩)]⟩
abbrev Zc_p:List Sk:=[.vw 1000000 (.int .i64),.d (.int .i64),.d (.int .i64),.fn 37 [.d (.st 6)] []]
abbrev Zc_r:List Sk:=[.d .bool]
abbrev Zc_o:List (Nat×ObSk):=[(1000000,.arr (.int .i64))]
@[irreducible] noncomputable def Zc (n:Nat)(p:PayL R.T Zc_p)(q:PayOs R.T Zc_o):Option (PayL R.T Zc_r×PayOs R.T Zc_o):=funI E R n false (regs46 n) (its14 n) Zc_a Tryz.f94 Zc_p Zc_o Zc_r p q
theorem Zc_ok (n:Nat):FMOK1 E 94 Zc_p Zc_o Zc_r (Zc n):=by intro p q y q' h;have h:Zc n p q=some (y,q'):=h;unfold Zc at h;exact funI_ok rOK (regs46_ok n) (its14_ok n) h Tryz.func94 rfl (by kernel_rfl)
noncomputable def its15 (n:Nat):IR R:=addM 94 (mkM Zc_p Zc_o Zc_r (Zc n)) (its14 n)
theorem its15_ok (n:Nat):ItersOK E (its15 n):=addM_ok (m:=mkM Zc_p Zc_o Zc_r (Zc n)) (its14_ok n) (FMOK.M (Zc_ok n))
def Zj_a:Ann:=⟨[(503,⟨[0,1,4],[],⟨[(11,.d (.int .i64)),(12,.d (.int .i64))],[(1000000,.arr (.int .i64))]⟩,[(.exit 0,⟨[(11,.d (.int .i64))],[(1000000,.arr (.int .i64))]⟩)]⟩),
 (3,⟨[0,1,4,12],[1000000],⟨[(11,.d (.int .i64))],[]⟩,[(.exit 2,⟨[(11,.d (.int .i64))],[]⟩)]⟩),
 (5,⟨[0,1,4,11],[1000000],⟨[(12,.d (.int .i64))],[]⟩,[(.exit 4,⟨[(12,.d (.int .i64))],[]⟩)]⟩)],[]⟩
abbrev Zj_p:List Sk:=[.vw 1000000 (.int .i64),.d (.int .i64),.d (.int .i64),.d (.int .i64),.fn 37 [.d (.st 6)] []]
abbrev Zj_r:List Sk:=[.d (.int .i64)]
abbrev Zj_o:List (Nat×ObSk):=[(1000000,.arr (.int .i64))]
@[irreducible] noncomputable def Zj (n:Nat)(p:PayL R.T Zj_p)(q:PayOs R.T Zj_o):Option (PayL R.T Zj_r×PayOs R.T Zj_o):=funI E R n false (regs46 n) (its15 n) Zj_a Tryz.f95 Zj_p Zj_o Zj_r p q
theorem Zj_ok (n:Nat):FMOK1 E 95 Zj_p Zj_o Zj_r (Zj n):=by intro p q y q' h;have h:Zj n p q=some (y,q'):=h;unfold Zj at h;exact funI_ok rOK (regs46_ok n) (its15_ok n) h Tryz.func95 rfl (by kernel_rfl)
noncomputable def its16 (n:Nat):IR R:=addM 95 (mkM Zj_p Zj_o Zj_r (Zj n)) (its15 n)
theorem its16_ok (n:Nat):ItersOK E (its16 n):=addM_ok (m:=mkM Zj_p Zj_o Zj_r (Zj n)) (its15_ok n) (FMOK.M (Zj_ok n))
def QR_a:Ann:=⟨[(3,⟨[0,1,4,13],[1000000],⟨[(12,.d (.int .i64))],[]⟩,[(.exit 0,⟨[(12,.d (.int .i64))],[]⟩)]⟩),
 (5,⟨[0,1,4,12],[1000000],⟨[(13,.d (.int .i64))],[]⟩,[(.exit 2,⟨[(13,.d (.int .i64))],[]⟩)]⟩),
 (513,⟨[0,1,4],[],⟨[(12,.d (.int .i64)),(13,.d (.int .i64))],[(1000000,.arr (.int .i64))]⟩,[(.exit 4,⟨[(13,.d (.int .i64))],[(1000000,.arr (.int .i64))]⟩)]⟩),
 (13,⟨[0,1,4,13],[1000000],⟨[(12,.d (.int .i64))],[]⟩,[(.exit 6,⟨[(12,.d (.int .i64))],[]⟩)]⟩),
 (15,⟨[0,1,4,12],[1000000],⟨[(13,.d (.int .i64))],[]⟩,[(.exit 8,⟨[(13,.d (.int .i64))],[]⟩)]⟩)],[]⟩
abbrev QR_p:List Sk:=[.vw 1000000 (.int .i64),.d (.int .i64),.d (.int .i64),.d (.int .i64),.fn 37 [.d (.st 6)] []]
abbrev QR_r:List Sk:=[.d (.int .i64),.d .bool]
abbrev QR_o:List (Nat×ObSk):=[(1000000,.arr (.int .i64))]
@[irreducible] noncomputable def QR (n:Nat)(p:PayL R.T QR_p)(q:PayOs R.T QR_o):Option (PayL R.T QR_r×PayOs R.T QR_o):=funI E R n false (regs46 n) (its16 n) QR_a Tryz.f96 QR_p QR_o QR_r p q
theorem QR_ok (n:Nat):FMOK1 E 96 QR_p QR_o QR_r (QR n):=by intro p q y q' h;have h:QR n p q=some (y,q'):=h;unfold QR at h;exact funI_ok rOK (regs46_ok n) (its16_ok n) h Tryz.func96 rfl (by kernel_rfl)
noncomputable def its17 (n:Nat):IR R:=addM 96 (mkM QR_p QR_o QR_r (QR n)) (its16 n)
theorem its17_ok (n:Nat):ItersOK E (its17 n):=addM_ok (m:=mkM QR_p QR_o QR_r (QR n)) (its16_ok n) (FMOK.M (QR_ok n))
def QP_a:Ann:=⟨[(2,⟨[0,4],[],⟨[(1,.d (.int .i64)),(2,.d (.int .i64)),(3,.d (.int .i64)),(10,.d .bool),(11,.d .bool)],[(1000000,.arr (.int .i64))]⟩,[(.ret,⟨[],[(1000000,.arr (.int .i64))]⟩)]⟩)],[(10,⟨[0,1,2,4,10,11,12],[],⟨[],[]⟩,[(.normal,⟨[(3,.d (.int .i64))],[(1000000,.arr (.int .i64))]⟩)]⟩),(15,⟨[0,1,2,3,4,10,11,12],[],⟨[],[]⟩,[(.normal,⟨[(13,.d (.int .i64)),(14,.d (.int .i64))],[(1000000,.arr (.int .i64))]⟩)]⟩),(17,⟨[0,1,2,3,4,10,11,12,13],[],⟨[],[]⟩,[(.normal,⟨[],[(1000000,.arr (.int .i64))]⟩),(.ret,⟨[],[(1000000,.arr (.int .i64))]⟩)]⟩)]⟩
abbrev QP_p:List Sk:=[.vw 1000000 (.int .i64),.d (.int .i64),.d (.int .i64),.d (.int .i64),.fn 37 [.d (.st 6)] []]
abbrev QP_r:List Sk:=[]
abbrev QP_o:List (Nat×ObSk):=[(1000000,.arr (.int .i64))]
noncomputable def QP_m (n:Nat):Nat->PayL R.T QP_p->PayOs R.T QP_o->Option (PayL R.T QP_r×PayOs R.T QP_o)
 |0,_,_=>none|m+1,p,q=>funI E R n false (regs46 n) (addM 78 (mkM QP_p QP_o QP_r (QP_m n m)) (its17 n)) QP_a Tryz.f78 QP_p QP_o QP_r p q
attribute [irreducible] QP_m
theorem QP_e (n m:Nat)(p:PayL R.T QP_p)(q:PayOs R.T QP_o):QP_m n (m+1) p q=funI E R n false (regs46 n) (addM 78 (mkM QP_p QP_o QP_r (QP_m n m)) (its17 n)) QP_a Tryz.f78 QP_p QP_o QP_r p q:=by kernel_rfl
theorem QP_e0 (n:Nat)(p:PayL R.T QP_p)(q:PayOs R.T QP_o):QP_m n 0 p q=none:=by kernel_rfl
theorem slices_pdqsortCmpFunc_int_mok (n:Nat):∀m,FMOK1 E 78 QP_p QP_o QP_r (QP_m n m)
 |0=>fun p q y q' h=>absurd (((QP_e0 n p q).symm.trans h)) nofun
 |m+1=>fun p q y q' h=>funI_ok rOK (regs46_ok n) (addM_ok (m:=(mkM QP_p QP_o QP_r (QP_m n m))) (its17_ok n) (FMOK.M (slices_pdqsortCmpFunc_int_mok n m))) ((QP_e n m p q).symm.trans h) Tryz.func78 rfl (by kernel_rfl)
@[irreducible] noncomputable def QP (n:Nat):PayL R.T QP_p->PayOs R.T QP_o->Option (PayL R.T QP_r×PayOs R.T QP_o):=QP_m n n
theorem QP_ok (n:Nat):FMOK1 E 78 QP_p QP_o QP_r (QP n):=by unfold QP;exact slices_pdqsortCmpFunc_int_mok n n
noncomputable def its18 (n:Nat):IR R:=addM 78 (mkM QP_p QP_o QP_r (QP n)) (its17 n)
theorem its18_ok (n:Nat):ItersOK E (its18 n):=addM_ok (m:=mkM QP_p QP_o QP_r (QP n)) (its17_ok n) (FMOK.M (QP_ok n))
def ZY_a:Ann:=⟨[],[]⟩
abbrev ZY_p:List Sk:=[.vw 1000000 (.int .i64),.fn 37 [.d (.st 6)] []]
abbrev ZY_r:List Sk:=[]
abbrev ZY_o:List (Nat×ObSk):=[(1000000,.arr (.int .i64))]
@[irreducible] noncomputable def ZY (n:Nat)(p:PayL R.T ZY_p)(q:PayOs R.T ZY_o):Option (PayL R.T ZY_r×PayOs R.T ZY_o):=funI E R n false (regs46 n) (its18 n) ZY_a Tryz.f60 ZY_p ZY_o ZY_r p q
theorem ZY_ok (n:Nat):FMOK1 E 60 ZY_p ZY_o ZY_r (ZY n):=by intro p q y q' h;have h:ZY n p q=some (y,q'):=h;unfold ZY at h;exact funI_ok rOK (regs46_ok n) (its18_ok n) h Tryz.func60 rfl (by kernel_rfl)
noncomputable def its19 (n:Nat):IR R:=addM 60 (mkM ZY_p ZY_o ZY_r (ZY n)) (its18 n)
theorem its19_ok (n:Nat):ItersOK E (its19 n):=addM_ok (m:=mkM ZY_p ZY_o ZY_r (ZY n)) (its18_ok n) (FMOK.M (ZY_ok n))
def Xu_a:Ann:=⟨[],[]⟩
abbrev Xu_p:List Sk:=[.d (.slice (.int .i64)),.fn 37 [.d (.st 6)] []]
abbrev Xu_r:List Sk:=[.d (.slice (.int .i64))]
@[irreducible] noncomputable def Xu (n:Nat)(p:PayL R.T Xu_p):Option (PayL R.T Xu_r):=funM E R n false (regs46 n) (its19 n) Xu_a Tryz.f36 Xu_p Xu_r p
theorem Xu_ok (n:Nat)(p:PayL R.T Xu_p)(x:PayL R.T Xu_r)(h:Xu n p=some x):Pure E 36 (encSL R Xu_p p) (retV (encSL R Xu_r x)):=by unfold Xu at h;exact funM_ok rOK (regs46_ok n) (its19_ok n) h Tryz.func36 rfl rfl rfl rfl (by kernel_rfl)
noncomputable def regs47 (n:Nat):Nat->List (FR R):=addF 36 ⟨Xu_p,Xu_r,Xu n,dflL R Xu_r,false⟩ (regs46 n)
theorem regs47_ok (n:Nat):RegsOK E (regs47 n):=addF_ok (regs46_ok n) (Xu_ok n)
def Zp_a:Ann:=⟨[(7,⟨[0,1,5,8,16,18],[8,16],⟨[],[(18,.cells [.d (.int .i64)])]⟩,[(.normal,⟨[],[(18,.cells [.d (.int .i64)])]⟩)]⟩)],[]⟩
abbrev Zp_p:List Sk:=[.d (.int .i64),.d (.slice (.slice (.int .i64))),.d (.st 1),.d (.slice (.int .i64)),.d (.int .i64),.d (.int .i64)]
abbrev Zp_r:List Sk:=[.d (.slice (.int .i64)),.d (.int .i64),.d .bool,.d (.int .i64)]
@[irreducible] noncomputable def Zp (n:Nat)(p:PayL R.T Zp_p):Option (PayL R.T Zp_r):=funM E R n false (regs47 n) (its19 n) Zp_a Tryz.f11 Zp_p Zp_r p
theorem Zp_ok (n:Nat)(p:PayL R.T Zp_p)(x:PayL R.T Zp_r)(h:Zp n p=some x):Pure E 11 (encSL R Zp_p p) (retV (encSL R Zp_r x)):=by unfold Zp at h;exact funM_ok rOK (regs47_ok n) (its19_ok n) h Tryz.func11 rfl rfl rfl rfl (by kernel_rfl)
noncomputable def regs48 (n:Nat):Nat->List (FR R):=addF 11 ⟨Zp_p,Zp_r,Zp n,dflL R Zp_r,false⟩ (regs47 n)
theorem regs48_ok (n:Nat):RegsOK E (regs48 n):=addF_ok (regs47_ok n) (Zp_ok n)
def XA_a:Ann:=⟨[],[]⟩
abbrev XA_p:List Sk:=[.d (.int .i64)]
abbrev XA_r:List Sk:=[.d .bool]
@[irreducible] noncomputable def XA (n:Nat)(p:PayL R.T XA_p):Option (PayL R.T XA_r):=funM E R n false (regs48 n) (its19 n) XA_a Tryz.f16 XA_p XA_r p
theorem XA_ok (n:Nat)(p:PayL R.T XA_p)(x:PayL R.T XA_r)(h:XA n p=some x):Pure E 16 (encSL R XA_p p) (retV (encSL R XA_r x)):=by unfold XA at h;exact funM_ok rOK (regs48_ok n) (its19_ok n) h Tryz.func16 rfl rfl rfl rfl (by kernel_rfl)
noncomputable def regs49 (n:Nat):Nat->List (FR R):=addF 16 ⟨XA_p,XA_r,XA n,dflL R XA_r,false⟩ (regs48 n)
theorem regs49_ok (n:Nat):RegsOK E (regs49 n):=addF_ok (regs48_ok n) (XA_ok n)
def Zl_a:Ann:=⟨[(2,⟨[0],[],⟨[(3,.d (.int .i64))],[]⟩,[(.exit 0,⟨[],[]⟩),(.ret,⟨[(2,.d .bool)],[]⟩)]⟩)],[]⟩
abbrev Zl_p:List Sk:=[.d (.slice (.int .i64))]
abbrev Zl_r:List Sk:=[.d .bool]
@[irreducible] noncomputable def Zl (n:Nat)(p:PayL R.T Zl_p):Option (PayL R.T Zl_r):=funM E R n false (regs49 n) (its19 n) Zl_a Tryz.f52 Zl_p Zl_r p
theorem Zl_ok (n:Nat)(p:PayL R.T Zl_p)(x:PayL R.T Zl_r)(h:Zl n p=some x):Pure E 52 (encSL R Zl_p p) (retV (encSL R Zl_r x)):=by unfold Zl at h;exact funM_ok rOK (regs49_ok n) (its19_ok n) h Tryz.func52 rfl rfl rfl rfl (by kernel_rfl)
noncomputable def regs50 (n:Nat):Nat->List (FR R):=addF 52 ⟨Zl_p,Zl_r,Zl n,dflL R Zl_r,false⟩ (regs49 n)
theorem regs50_ok (n:Nat):RegsOK E (regs50 n):=addF_ok (regs49_ok n) (Zl_ok n)
def ZA_a:Ann:=⟨[(2,⟨[0],[],⟨[(3,.d (.int .i64))],[]⟩,[(.exit 0,⟨[],[]⟩),(.ret,⟨[(2,.d .bool)],[]⟩)]⟩)],[]⟩
abbrev ZA_p:List Sk:=[.d (.slice (.slice (.int .i64)))]
abbrev ZA_r:List Sk:=[.d .bool]
@[irreducible] noncomputable def ZA (n:Nat)(p:PayL R.T ZA_p):Option (PayL R.T ZA_r):=funM E R n false (regs50 n) (its19 n) ZA_a Tryz.f26 ZA_p ZA_r p
theorem ZA_ok (n:Nat)(p:PayL R.T ZA_p)(x:PayL R.T ZA_r)(h:ZA n p=some x):Pure E 26 (encSL R ZA_p p) (retV (encSL R ZA_r x)):=by unfold ZA at h;exact funM_ok rOK (regs50_ok n) (its19_ok n) h Tryz.func26 rfl rfl rfl rfl (by kernel_rfl)
noncomputable def regs51 (n:Nat):Nat->List (FR R):=addF 26 ⟨ZA_p,ZA_r,ZA n,dflL R ZA_r,false⟩ (regs50 n)
theorem regs51_ok (n:Nat):RegsOK E (regs51 n):=addF_ok (regs50_ok n) (ZA_ok n)
def ZG_a:Ann:=⟨[(2,⟨[0,1],[],⟨[(5,.d (.int .i64))],[]⟩,[(.exit 0,⟨[],[]⟩),(.ret,⟨[(4,.d .bool)],[]⟩)]⟩)],[]⟩
abbrev ZG_p:List Sk:=[.d (.slice (.int .i64)),.d (.int .i64)]
abbrev ZG_r:List Sk:=[.d .bool]
@[irreducible] noncomputable def ZG (n:Nat)(p:PayL R.T ZG_p):Option (PayL R.T ZG_r):=funM E R n false (regs51 n) (its19 n) ZG_a Tryz.f51 ZG_p ZG_r p
theorem ZG_ok (n:Nat)(p:PayL R.T ZG_p)(x:PayL R.T ZG_r)(h:ZG n p=some x):Pure E 51 (encSL R ZG_p p) (retV (encSL R ZG_r x)):=by unfold ZG at h;exact funM_ok rOK (regs51_ok n) (its19_ok n) h Tryz.func51 rfl rfl rfl rfl (by kernel_rfl)
noncomputable def regs52 (n:Nat):Nat->List (FR R):=addF 51 ⟨ZG_p,ZG_r,ZG n,dflL R ZG_r,false⟩ (regs51 n)
theorem regs52_ok (n:Nat):RegsOK E (regs52 n):=addF_ok (regs51_ok n) (ZG_ok n)
def Ze_a:Ann:=⟨[(4,⟨[0,3],[3],⟨[(5,.d (.int .i64))],[]⟩,[(.exit 0,⟨[],[]⟩),(.ret,⟨[(4,.d .bool)],[]⟩)]⟩),
 (10,⟨[0,3,5,6],[3,6],⟨[(7,.d (.int .i64))],[]⟩,[(.exit 2,⟨[],[]⟩),(.ret,⟨[(4,.d .bool)],[]⟩)]⟩)],[]⟩
abbrev Ze_p:List Sk:=[.d (.int .i64),.d (.st 1)]
abbrev Ze_r:List Sk:=[.d .bool]
@[irreducible] noncomputable def Ze (n:Nat)(p:PayL R.T Ze_p):Option (PayL R.T Ze_r):=funM E R n false (regs52 n) (its19 n) Ze_a Tryz.f25 Ze_p Ze_r p
theorem Ze_ok (n:Nat)(p:PayL R.T Ze_p)(x:PayL R.T Ze_r)(h:Ze n p=some x):Pure E 25 (encSL R Ze_p p) (retV (encSL R Ze_r x)):=by unfold Ze at h;exact funM_ok rOK (regs52_ok n) (its19_ok n) h Tryz.func25 rfl rfl rfl rfl (by kernel_rfl)
noncomputable def regs53 (n:Nat):Nat->List (FR R):=addF 25 ⟨Ze_p,Ze_r,Ze n,dflL R Ze_r,false⟩ (regs52 n)
theorem regs53_ok (n:Nat):RegsOK E (regs53 n):=addF_ok (regs52_ok n) (Ze_ok n)
def XW_a:Ann:=⟨[],[]⟩
abbrev XW_p:List Sk:=[.d (.int .i64),.d (.slice (.slice (.int .i64))),.d (.st 1)]
abbrev XW_r:List Sk:=[.d .bool]
@[irreducible] noncomputable def XW (n:Nat)(p:PayL R.T XW_p):Option (PayL R.T XW_r):=funM E R n false (regs53 n) (its19 n) XW_a Tryz.f49 XW_p XW_r p
theorem XW_ok (n:Nat)(p:PayL R.T XW_p)(x:PayL R.T XW_r)(h:XW n p=some x):Pure E 49 (encSL R XW_p p) (retV (encSL R XW_r x)):=by unfold XW at h;exact funM_ok rOK (regs53_ok n) (its19_ok n) h Tryz.func49 rfl rfl rfl rfl (by kernel_rfl)
noncomputable def regs54 (n:Nat):Nat->List (FR R):=addF 49 ⟨XW_p,XW_r,XW n,dflL R XW_r,false⟩ (regs53 n)
theorem regs54_ok (n:Nat):RegsOK E (regs54 n):=addF_ok (regs53_ok n) (XW_ok n)
def XB_a:Ann:=⟨[],[]⟩
abbrev XB_p:List Sk:=[.d (.slice (.int .i64)),.d (.slice (.int .i64))]
abbrev XB_r:List Sk:=[.d .bool]
@[irreducible] noncomputable def XB (n:Nat)(p:PayL R.T XB_p):Option (PayL R.T XB_r):=funM E R n false (regs54 n) (its19 n) XB_a Tryz.f27 XB_p XB_r p
theorem XB_ok (n:Nat)(p:PayL R.T XB_p)(x:PayL R.T XB_r)(h:XB n p=some x):Pure E 27 (encSL R XB_p p) (retV (encSL R XB_r x)):=by unfold XB at h;exact funM_ok rOK (regs54_ok n) (its19_ok n) h Tryz.func27 rfl rfl rfl rfl (by kernel_rfl)
noncomputable def regs55 (n:Nat):Nat->List (FR R):=addF 27 ⟨XB_p,XB_r,XB n,dflL R XB_r,false⟩ (regs54 n)
theorem regs55_ok (n:Nat):RegsOK E (regs55 n):=addF_ok (regs54_ok n) (XB_ok n)
def XX_a:Ann:=⟨[],[]⟩
abbrev XX_p:List Sk:=[.d (.int .i64),.d (.slice (.slice (.int .i64))),.d (.st 1),.d (.slice (.int .i64)),.d (.int .i64)]
abbrev XX_r:List Sk:=[.d .bool]
@[irreducible] noncomputable def XX (n:Nat)(p:PayL R.T XX_p):Option (PayL R.T XX_r):=funM E R n false (regs55 n) (its19 n) XX_a Tryz.f38 XX_p XX_r p
theorem XX_ok (n:Nat)(p:PayL R.T XX_p)(x:PayL R.T XX_r)(h:XX n p=some x):Pure E 38 (encSL R XX_p p) (retV (encSL R XX_r x)):=by unfold XX at h;exact funM_ok rOK (regs55_ok n) (its19_ok n) h Tryz.func38 rfl rfl rfl rfl (by kernel_rfl)
noncomputable def regs56 (n:Nat):Nat->List (FR R):=addF 38 ⟨XX_p,XX_r,XX n,dflL R XX_r,false⟩ (regs55 n)
theorem regs56_ok (n:Nat):RegsOK E (regs56 n):=addF_ok (regs55_ok n) (XX_ok n)
def ZH_a:Ann:=⟨[(3,⟨[0,1],[],⟨[(5,.l (.own 24) (.int .i64)),(6,.d (.int .i64))],[]⟩,[(.exit 0,⟨[(5,.l (.own 24) (.int .i64))],[]⟩)]⟩)],[]⟩
abbrev ZH_p:List Sk:=[.d (.slice (.int .i64)),.d (.slice (.int .i64))]
abbrev ZH_r:List Sk:=[.d (.slice (.int .i64))]
@[irreducible] noncomputable def ZH (n:Nat)(p:PayL R.T ZH_p):Option (PayL R.T ZH_r):=funM E R n false (regs56 n) (its19 n) ZH_a Tryz.f64 ZH_p ZH_r p
theorem ZH_ok (n:Nat)(p:PayL R.T ZH_p)(x:PayL R.T ZH_r)(h:ZH n p=some x):Pure E 64 (encSL R ZH_p p) (retV (encSL R ZH_r x)):=by unfold ZH at h;exact funM_ok rOK (regs56_ok n) (its19_ok n) h Tryz.func64 rfl rfl rfl rfl (by kernel_rfl)
noncomputable def regs57 (n:Nat):Nat->List (FR R):=addF 64 ⟨ZH_p,ZH_r,ZH n,dflL R ZH_r,false⟩ (regs56 n)
theorem regs57_ok (n:Nat):RegsOK E (regs57 n):=addF_ok (regs56_ok n) (ZH_ok n)
def Xv_a:Ann:=⟨[],[]⟩
abbrev Xv_p:List Sk:=[.d (.int .i64)]
abbrev Xv_r:List Sk:=[.d (.int .i64)]
@[irreducible] noncomputable def Xv (n:Nat)(p:PayL R.T Xv_p):Option (PayL R.T Xv_r):=funM E R n false (regs57 n) (its19 n) Xv_a Tryz.f81 Xv_p Xv_r p
theorem Xv_ok (n:Nat)(p:PayL R.T Xv_p)(x:PayL R.T Xv_r)(h:Xv n p=some x):Pure E 81 (encSL R Xv_p p) (retV (encSL R Xv_r x)):=by unfold Xv at h;exact funM_ok rOK (regs57_ok n) (its19_ok n) h Tryz.func81 rfl rfl rfl rfl (by kernel_rfl)
noncomputable def regs58 (n:Nat):Nat->List (FR R):=addF 81 ⟨Xv_p,Xv_r,Xv n,dflL R Xv_r,false⟩ (regs57 n)
theorem regs58_ok (n:Nat):RegsOK E (regs58 n):=addF_ok (regs57_ok n) (Xv_ok n)
def Zv_a:Ann:=⟨[(3,⟨[0,1],[],⟨[(5,.d (.int .i64)),(6,.d (.int .i64))],[]⟩,[(.exit 0,⟨[(5,.d (.int .i64))],[]⟩)]⟩)],[]⟩
abbrev Zv_p:List Sk:=[.d (.int .i64),.d (.slice (.int .i64))]
abbrev Zv_r:List Sk:=[.d (.int .i64)]
@[irreducible] noncomputable def Zv (n:Nat)(p:PayL R.T Zv_p):Option (PayL R.T Zv_r):=funM E R n false (regs58 n) (its19 n) Zv_a Tryz.f63 Zv_p Zv_r p
theorem Zv_ok (n:Nat)(p:PayL R.T Zv_p)(x:PayL R.T Zv_r)(h:Zv n p=some x):Pure E 63 (encSL R Zv_p p) (retV (encSL R Zv_r x)):=by unfold Zv at h;exact funM_ok rOK (regs58_ok n) (its19_ok n) h Tryz.func63 rfl rfl rfl rfl (by kernel_rfl)
noncomputable def regs59 (n:Nat):Nat->List (FR R):=addF 63 ⟨Zv_p,Zv_r,Zv n,dflL R Zv_r,false⟩ (regs58 n)
theorem regs59_ok (n:Nat):RegsOK E (regs59 n):=addF_ok (regs58_ok n) (Zv_ok n)
def Xn_a:Ann:=⟨[],[]⟩
abbrev Xn_p:List Sk:=[.d (.int .i64),.d (.slice (.int .i64)),.d (.slice (.int .i64))]
abbrev Xn_r:List Sk:=[.d (.int .i64)]
@[irreducible] noncomputable def Xn (n:Nat)(p:PayL R.T Xn_p):Option (PayL R.T Xn_r):=funM E R n false (regs59 n) (its19 n) Xn_a Tryz.f39 Xn_p Xn_r p
theorem Xn_ok (n:Nat)(p:PayL R.T Xn_p)(x:PayL R.T Xn_r)(h:Xn n p=some x):Pure E 39 (encSL R Xn_p p) (retV (encSL R Xn_r x)):=by unfold Xn at h;exact funM_ok rOK (regs59_ok n) (its19_ok n) h Tryz.func39 rfl rfl rfl rfl (by kernel_rfl)
noncomputable def regs60 (n:Nat):Nat->List (FR R):=addF 39 ⟨Xn_p,Xn_r,Xn n,dflL R Xn_r,false⟩ (regs59 n)
theorem regs60_ok (n:Nat):RegsOK E (regs60 n):=addF_ok (regs59_ok n) (Xn_ok n)
def Za_a:Ann:=⟨[(3,⟨[0,1,2,9],[],⟨[(10,.d (.int .i64))],[(17,.arr (.int .i64))]⟩,[(.exit 0,⟨[],[(17,.arr (.int .i64))]⟩)]⟩),
 (6,⟨[0,1,2,9,10],[],⟨[(11,.d (.int .i64))],[(17,.arr (.int .i64))]⟩,[(.exit 2,⟨[],[(17,.arr (.int .i64))]⟩)]⟩)],[]⟩
abbrev Za_p:List Sk:=[.d (.int .i64),.d (.slice (.slice (.int .i64))),.d (.slice (.int .i64)),.d (.slice (.int .i64))]
abbrev Za_r:List Sk:=[.d (.slice (.int .i64))]
@[irreducible] noncomputable def Za (n:Nat)(p:PayL R.T Za_p):Option (PayL R.T Za_r):=funM E R n true (regs60 n) (its19 n) Za_a Tryz.f29 Za_p Za_r p
theorem Za_ok (n:Nat)(p:PayL R.T Za_p)(x:PayL R.T Za_r)(h:Za n p=some x):Pure E 29 (encSL R Za_p p) (retV (encSL R Za_r x)):=by unfold Za at h;exact funM_ok rOK (regs60_ok n) (its19_ok n) h Tryz.func29 rfl rfl rfl rfl (by kernel_rfl)
noncomputable def regs61 (n:Nat):Nat->List (FR R):=addF 29 ⟨Za_p,Za_r,Za n,dflL R Za_r,false⟩ (regs60 n)
theorem regs61_ok (n:Nat):RegsOK E (regs61 n):=addF_ok (regs60_ok n) (Za_ok n)
def XY_a:Ann:=⟨[(5,⟨[0,1,3,7,10],[7],⟨[(12,.l (.own 66) (.int .i64))],[(10,.st 2)]⟩,[(.ret,⟨[],[(10,.st 2)]⟩)]⟩)],[]⟩
abbrev XY_p:List Sk:=[.d (.int .i64),.d (.slice (.slice (.int .i64))),.d (.st 1),.d (.slice (.int .i64)),.d (.int .i64)]
abbrev XY_r:List Sk:=[.d (.st 2)]
@[irreducible] noncomputable def XY (n:Nat)(p:PayL R.T XY_p):Option (PayL R.T XY_r):=funM E R n false (regs61 n) (its19 n) XY_a Tryz.f12 XY_p XY_r p
theorem XY_ok (n:Nat)(p:PayL R.T XY_p)(x:PayL R.T XY_r)(h:XY n p=some x):Pure E 12 (encSL R XY_p p) (retV (encSL R XY_r x)):=by unfold XY at h;exact funM_ok rOK (regs61_ok n) (its19_ok n) h Tryz.func12 rfl rfl rfl rfl (by kernel_rfl)
noncomputable def regs62 (n:Nat):Nat->List (FR R):=addF 12 ⟨XY_p,XY_r,XY n,dflL R XY_r,false⟩ (regs61 n)
theorem regs62_ok (n:Nat):RegsOK E (regs62 n):=addF_ok (regs61_ok n) (XY_ok n)
def XZ_a:Ann:=⟨[(5,⟨[0],[],⟨[(3,.d (.int .i64)),(4,.d (.int .i64))],[]⟩,[(.exit 0,⟨[(3,.d (.int .i64))],[]⟩)]⟩)],[(3,⟨[],[],⟨[],[]⟩,[(.normal,⟨[(0,.d (.int .i64))],[]⟩)]⟩)]⟩
abbrev XZ_p:List Sk:=[.d (.int .i64)]
abbrev XZ_r:List Sk:=[.d (.int .i64)]
@[irreducible] noncomputable def XZ (n:Nat)(p:PayL R.T XZ_p):Option (PayL R.T XZ_r):=funM E R n false (regs62 n) (its19 n) XZ_a Tryz.f66 XZ_p XZ_r p
theorem XZ_ok (n:Nat)(p:PayL R.T XZ_p)(x:PayL R.T XZ_r)(h:XZ n p=some x):Pure E 66 (encSL R XZ_p p) (retV (encSL R XZ_r x)):=by unfold XZ at h;exact funM_ok rOK (regs62_ok n) (its19_ok n) h Tryz.func66 rfl rfl rfl rfl (by kernel_rfl)
noncomputable def regs63 (n:Nat):Nat->List (FR R):=addF 66 ⟨XZ_p,XZ_r,XZ n,dflL R XZ_r,false⟩ (regs62 n)
theorem regs63_ok (n:Nat):RegsOK E (regs63 n):=addF_ok (regs62_ok n) (XZ_ok n)
def Jn_a:Ann:=⟨[],[]⟩
abbrev Jn_p:List Sk:=[.d (.int .i64),.d (.int .i64),.d (.int .i64)]
abbrev Jn_r:List Sk:=[.d (.int .i64)]
@[irreducible] noncomputable def Jn (n:Nat)(p:PayL R.T Jn_p):Option (PayL R.T Jn_r):=funM E R n false (regs63 n) (its19 n) Jn_a Tryz.f41 Jn_p Jn_r p
theorem Jn_ok (n:Nat)(p:PayL R.T Jn_p)(x:PayL R.T Jn_r)(h:Jn n p=some x):Pure E 41 (encSL R Jn_p p) (retV (encSL R Jn_r x)):=by unfold Jn at h;exact funM_ok rOK (regs63_ok n) (its19_ok n) h Tryz.func41 rfl rfl rfl rfl (by kernel_rfl)
noncomputable def regs64 (n:Nat):Nat->List (FR R):=addF 41 ⟨Jn_p,Jn_r,Jn n,dflL R Jn_r,false⟩ (regs63 n)
theorem regs64_ok (n:Nat):RegsOK E (regs64 n):=addF_ok (regs63_ok n) (Jn_ok n)
def Jx_a:Ann:=⟨[],[]⟩
abbrev Jx_p:List Sk:=[.d (.int .i64),.d (.int .i64),.d (.int .i64),.d (.int .i64)]
abbrev Jx_r:List Sk:=[.d .bool]
@[irreducible] noncomputable def Jx (n:Nat)(p:PayL R.T Jx_p):Option (PayL R.T Jx_r):=funM E R n false (regs64 n) (its19 n) Jx_a Tryz.f18 Jx_p Jx_r p
theorem Jx_ok (n:Nat)(p:PayL R.T Jx_p)(x:PayL R.T Jx_r)(h:Jx n p=some x):Pure E 18 (encSL R Jx_p p) (retV (encSL R Jx_r x)):=by unfold Jx at h;exact funM_ok rOK (regs64_ok n) (its19_ok n) h Tryz.func18 rfl rfl rfl rfl (by kernel_rfl)
noncomputable def regs65 (n:Nat):Nat->List (FR R):=addF 18 ⟨Jx_p,Jx_r,Jx n,dflL R Jx_r,false⟩ (regs64 n)
theorem regs65_ok (n:Nat):RegsOK E (regs65 n):=addF_ok (regs64_ok n) (Jx_ok n)
def JP_a:Ann:=⟨[(5,⟨[0,1,3,5,8,12,13],[8,13],⟨[(14,.d (.int .i64))],[(12,.st 2)]⟩,[(.exit 0,⟨[],[(12,.st 2)]⟩),(.ret,⟨[],[(12,.st 2)]⟩)]⟩),
 (11,⟨[0,1,3,5,8,12,15,16],[8,12],⟨[(17,.d (.int .i64))],[(16,.cells [.l (.own 101) (.int .i64),.d (.int .i64),.d .bool,.d (.int .i64)])]⟩,[(.exit 2,⟨[],[(16,.cells [.l (.own 101) (.int .i64),.d (.int .i64),.d .bool,.d (.int .i64)])]⟩)]⟩)],[]⟩
abbrev JP_p:List Sk:=[.d (.int .i64),.d (.slice (.slice (.int .i64))),.d (.st 1),.d (.slice (.int .i64)),.d (.int .i64),.d (.int .i64)]
abbrev JP_r:List Sk:=[.d (.st 2)]
@[irreducible] noncomputable def JP (n:Nat)(p:PayL R.T JP_p):Option (PayL R.T JP_r):=funM E R n false (regs65 n) (its19 n) JP_a Tryz.f13 JP_p JP_r p
theorem JP_ok (n:Nat)(p:PayL R.T JP_p)(x:PayL R.T JP_r)(h:JP n p=some x):Pure E 13 (encSL R JP_p p) (retV (encSL R JP_r x)):=by unfold JP at h;exact funM_ok rOK (regs65_ok n) (its19_ok n) h Tryz.func13 rfl rfl rfl rfl (by kernel_rfl)
noncomputable def regs66 (n:Nat):Nat->List (FR R):=addF 13 ⟨JP_p,JP_r,JP n,dflL R JP_r,false⟩ (regs65 n)
theorem regs66_ok (n:Nat):RegsOK E (regs66 n):=addF_ok (regs65_ok n) (JP_ok n)
def JS_a:Ann:=⟨[],[]⟩
abbrev JS_p:List Sk:=[.d (.int .i64),.d (.slice (.slice (.int .i64))),.d (.st 1),.d (.slice (.int .i64)),.d (.int .i64),.d (.int .i64)]
abbrev JS_r:List Sk:=[.d (.st 2)]
@[irreducible] noncomputable def JS (n:Nat)(p:PayL R.T JS_p):Option (PayL R.T JS_r):=funM E R n false (regs66 n) (its19 n) JS_a Tryz.f14 JS_p JS_r p
theorem JS_ok (n:Nat)(p:PayL R.T JS_p)(x:PayL R.T JS_r)(h:JS n p=some x):Pure E 14 (encSL R JS_p p) (retV (encSL R JS_r x)):=by unfold JS at h;exact funM_ok rOK (regs66_ok n) (its19_ok n) h Tryz.func14 rfl rfl rfl rfl (by kernel_rfl)
noncomputable def regs67 (n:Nat):Nat->List (FR R):=addF 14 ⟨JS_p,JS_r,JS n,dflL R JS_r,false⟩ (regs66 n)
theorem regs67_ok (n:Nat):RegsOK E (regs67 n):=addF_ok (regs66_ok n) (JS_ok n)
def Zh_a:Ann:=⟨[(4,⟨[0,1],[],⟨[(5,.d (.int .i64))],[]⟩,[(.exit 0,⟨[],[]⟩),(.ret,⟨[(4,.d .bool)],[]⟩)]⟩)],[]⟩
abbrev Zh_p:List Sk:=[.d (.slice (.int .i64)),.d (.slice (.int .i64))]
abbrev Zh_r:List Sk:=[.d .bool]
@[irreducible] noncomputable def Zh (n:Nat)(p:PayL R.T Zh_p):Option (PayL R.T Zh_r):=funM E R n false (regs67 n) (its19 n) Zh_a Tryz.f15 Zh_p Zh_r p
theorem Zh_ok (n:Nat)(p:PayL R.T Zh_p)(x:PayL R.T Zh_r)(h:Zh n p=some x):Pure E 15 (encSL R Zh_p p) (retV (encSL R Zh_r x)):=by unfold Zh at h;exact funM_ok rOK (regs67_ok n) (its19_ok n) h Tryz.func15 rfl rfl rfl rfl (by kernel_rfl)
noncomputable def regs68 (n:Nat):Nat->List (FR R):=addF 15 ⟨Zh_p,Zh_r,Zh n,dflL R Zh_r,false⟩ (regs67 n)
theorem regs68_ok (n:Nat):RegsOK E (regs68 n):=addF_ok (regs67_ok n) (Zh_ok n)
def JT_a:Ann:=⟨[],[]⟩
abbrev JT_p:List Sk:=[.d (.int .i64),.d (.slice (.slice (.int .i64))),.d (.st 1),.d (.slice (.int .i64)),.d (.int .i64),.d (.int .i64),.d (.int .i64)]
abbrev JT_r:List Sk:=[.d .bool]
@[irreducible] noncomputable def JT (n:Nat)(p:PayL R.T JT_p):Option (PayL R.T JT_r):=funM E R n false (regs68 n) (its19 n) JT_a Tryz.f3 JT_p JT_r p
theorem JT_ok (n:Nat)(p:PayL R.T JT_p)(x:PayL R.T JT_r)(h:JT n p=some x):Pure E 3 (encSL R JT_p p) (retV (encSL R JT_r x)):=by unfold JT at h;exact funM_ok rOK (regs68_ok n) (its19_ok n) h Tryz.func3 rfl rfl rfl rfl (by kernel_rfl)
noncomputable def regs69 (n:Nat):Nat->List (FR R):=addF 3 ⟨JT_p,JT_r,JT n,dflL R JT_r,false⟩ (regs68 n)
theorem regs69_ok (n:Nat):RegsOK E (regs69 n):=addF_ok (regs68_ok n) (JT_ok n)
def XJ_a:Ann:=⟨[],[]⟩
abbrev XJ_p:List Sk:=[.d (.slice (.int .i64))]
abbrev XJ_r:List Sk:=[.fn 71 [] [.cref [.d (.slice (.int .i64))] 0]]
@[irreducible] noncomputable def XJ (n:Nat)(p:PayL R.T XJ_p):Option (PayL R.T XJ_r):=funM E R n false (regs69 n) (its19 n) XJ_a Tryz.f45 XJ_p XJ_r p
theorem XJ_ok (n:Nat)(p:PayL R.T XJ_p)(x:PayL R.T XJ_r)(h:XJ n p=some x):Pure E 45 (encSL R XJ_p p) (retV (encSL R XJ_r x)):=by unfold XJ at h;exact funM_ok rOK (regs69_ok n) (its19_ok n) h Tryz.func45 rfl rfl rfl rfl (by kernel_rfl)
noncomputable def regs70 (n:Nat):Nat->List (FR R):=addF 45 ⟨XJ_p,XJ_r,XJ n,dflL R XJ_r,false⟩ (regs69 n)
theorem regs70_ok (n:Nat):RegsOK E (regs70 n):=addF_ok (regs69_ok n) (XJ_ok n)
def Zt_a:Ann:=⟨[(3,⟨[2],[],⟨[],[(2,.cells [.vw 11 (.int .i64)]),(11,.arr (.int .i64))]⟩,[(.normal,⟨[],[(2,.cells [.vw 11 (.int .i64)]),(11,.arr (.int .i64))]⟩)]⟩)],[]⟩
abbrev Zt_p:List Sk:=[.nils,.fn 71 [] [.cref [.d (.slice (.int .i64))] 0]]
abbrev Zt_o:List (Nat×ObSk):=[]
abbrev slices_AppendSeq_int_int_2_w:List (Nat×ObSk):=[]
abbrev slices_AppendSeq_int_int_2_k:NK:=.arr (.int .i64)
@[irreducible] noncomputable def Zt (n:Nat)(p:PayL R.T Zt_p)(q:PayOs R.T Zt_o):Option (PayN R.T slices_AppendSeq_int_int_2_k×PayOs R.T slices_AppendSeq_int_int_2_w):=funN E R n true (regs70 n) (its19 n) Zt_a Tryz.f56 Zt_p Zt_o slices_AppendSeq_int_int_2_k slices_AppendSeq_int_int_2_w p q
theorem Zt_ok (n:Nat):FNOK1 E 56 Zt_p Zt_o slices_AppendSeq_int_int_2_k slices_AppendSeq_int_int_2_w (Zt n):=by intro p q y q' h;have h:Zt n p q=some (y,q'):=h;unfold Zt at h;exact funN_ok' rOK (regs70_ok n) (its19_ok n) h Tryz.func56 rfl (by kernel_rfl)
noncomputable def its20 (n:Nat):IR R:=addM 56 (mkN Zt_p Zt_o slices_AppendSeq_int_int_2_k slices_AppendSeq_int_int_2_w (Zt n)) (its19 n)
theorem its20_ok (n:Nat):ItersOK E (its20 n):=addM_ok (m:=mkN Zt_p Zt_o slices_AppendSeq_int_int_2_k slices_AppendSeq_int_int_2_w (Zt n)) (its19_ok n) (FMOK.N (Zt_ok n))
def Xw_a:Ann:=⟨[],[]⟩
abbrev Xw_p:List Sk:=[.fn 71 [] [.cref [.d (.slice (.int .i64))] 0]]
abbrev Xw_o:List (Nat×ObSk):=[]
abbrev slices_Collect_int_2_w:List (Nat×ObSk):=[]
abbrev slices_Collect_int_2_k:NK:=.arr (.int .i64)
@[irreducible] noncomputable def Xw (n:Nat)(p:PayL R.T Xw_p)(q:PayOs R.T Xw_o):Option (PayN R.T slices_Collect_int_2_k×PayOs R.T slices_Collect_int_2_w):=funN E R n false (regs70 n) (its20 n) Xw_a Tryz.f31 Xw_p Xw_o slices_Collect_int_2_k slices_Collect_int_2_w p q
theorem Xw_ok (n:Nat):FNOK1 E 31 Xw_p Xw_o slices_Collect_int_2_k slices_Collect_int_2_w (Xw n):=by intro p q y q' h;have h:Xw n p q=some (y,q'):=h;unfold Xw at h;exact funN_ok' rOK (regs70_ok n) (its20_ok n) h Tryz.func31 rfl (by kernel_rfl)
noncomputable def its21 (n:Nat):IR R:=addM 31 (mkN Xw_p Xw_o slices_Collect_int_2_k slices_Collect_int_2_w (Xw n)) (its20 n)
theorem its21_ok (n:Nat):ItersOK E (its21 n):=addM_ok (m:=mkN Xw_p Xw_o slices_Collect_int_2_k slices_Collect_int_2_w (Xw n)) (its20_ok n) (FMOK.N (Xw_ok n))
def XC_a:Ann:=⟨[],[]⟩
abbrev XC_p:List Sk:=[.d (.int .i64),.d (.int .i64)]
abbrev XC_r:List Sk:=[.d .bool]
@[irreducible] noncomputable def XC (n:Nat)(p:PayL R.T XC_p):Option (PayL R.T XC_r):=funM E R n false (regs70 n) (its21 n) XC_a Tryz.f110 XC_p XC_r p
theorem XC_ok (n:Nat)(p:PayL R.T XC_p)(x:PayL R.T XC_r)(h:XC n p=some x):Pure E 110 (encSL R XC_p p) (retV (encSL R XC_r x)):=by unfold XC at h;exact funM_ok rOK (regs70_ok n) (its21_ok n) h Tryz.func110 rfl rfl rfl rfl (by kernel_rfl)
noncomputable def regs71 (n:Nat):Nat->List (FR R):=addF 110 ⟨XC_p,XC_r,XC n,dflL R XC_r,false⟩ (regs70 n)
theorem regs71_ok (n:Nat):RegsOK E (regs71 n):=addF_ok (regs70_ok n) (XC_ok n)
def Zn_a:Ann:=⟨[(1,⟨[0,1,2],[],⟨[(6,.d (.int .i64))],[(1000000,.arr (.int .i64))]⟩,[(.exit 0,⟨[],[(1000000,.arr (.int .i64))]⟩)]⟩),
 (4,⟨[0,1,2,6],[],⟨[(7,.d (.int .i64))],[(1000000,.arr (.int .i64))]⟩,[(.exit 2,⟨[],[(1000000,.arr (.int .i64))]⟩)]⟩)],[]⟩
abbrev Zn_p:List Sk:=[.vw 1000000 (.int .i64),.d (.int .i64),.d (.int .i64)]
abbrev Zn_r:List Sk:=[]
abbrev Zn_o:List (Nat×ObSk):=[(1000000,.arr (.int .i64))]
@[irreducible] noncomputable def Zn (n:Nat)(p:PayL R.T Zn_p)(q:PayOs R.T Zn_o):Option (PayL R.T Zn_r×PayOs R.T Zn_o):=funI E R n false (regs71 n) (its21 n) Zn_a Tryz.f104 Zn_p Zn_o Zn_r p q
theorem Zn_ok (n:Nat):FMOK1 E 104 Zn_p Zn_o Zn_r (Zn n):=by intro p q y q' h;have h:Zn n p q=some (y,q'):=h;unfold Zn at h;exact funI_ok rOK (regs71_ok n) (its21_ok n) h Tryz.func104 rfl (by kernel_rfl)
noncomputable def its22 (n:Nat):IR R:=addM 104 (mkM Zn_p Zn_o Zn_r (Zn n)) (its21 n)
theorem its22_ok (n:Nat):ItersOK E (its22 n):=addM_ok (m:=mkM Zn_p Zn_o Zn_r (Zn n)) (its21_ok n) (FMOK.M (Zn_ok n))
def ZT_a:Ann:=⟨[(1,⟨[0,2,3],[],⟨[(8,.d (.int .i64))],[(1000000,.arr (.int .i64))]⟩,[(.exit 0,⟨[],[(1000000,.arr (.int .i64))]⟩),(.ret,⟨[],[(1000000,.arr (.int .i64))]⟩)]⟩)],[(5,⟨[0,2,3,8],[1000000],⟨[],[]⟩,[(.normal,⟨[(9,.d (.int .i64))],[]⟩)]⟩)]⟩
abbrev ZT_p:List Sk:=[.vw 1000000 (.int .i64),.d (.int .i64),.d (.int .i64),.d (.int .i64)]
abbrev ZT_r:List Sk:=[]
abbrev ZT_o:List (Nat×ObSk):=[(1000000,.arr (.int .i64))]
@[irreducible] noncomputable def ZT (n:Nat)(p:PayL R.T ZT_p)(q:PayOs R.T ZT_o):Option (PayL R.T ZT_r×PayOs R.T ZT_o):=funI E R n false (regs71 n) (its22 n) ZT_a Tryz.f118 ZT_p ZT_o ZT_r p q
theorem ZT_ok (n:Nat):FMOK1 E 118 ZT_p ZT_o ZT_r (ZT n):=by intro p q y q' h;have h:ZT n p q=some (y,q'):=h;unfold ZT at h;exact funI_ok rOK (regs71_ok n) (its22_ok n) h Tryz.func118 rfl (by kernel_rfl)
noncomputable def its23 (n:Nat):IR R:=addM 118 (mkM ZT_p ZT_o ZT_r (ZT n)) (its22 n)
theorem its23_ok (n:Nat):ItersOK E (its23 n):=addM_ok (m:=mkM ZT_p ZT_o ZT_r (ZT n)) (its22_ok n) (FMOK.M (ZT_ok n))
def Zs_a:Ann:=⟨[(4,⟨[0,6,7,8],[],⟨[(9,.d (.int .i64))],[(1000000,.arr (.int .i64))]⟩,[(.exit 0,⟨[],[(1000000,.arr (.int .i64))]⟩)]⟩),
 (8,⟨[0,6,7],[],⟨[(10,.d (.int .i64))],[(1000000,.arr (.int .i64))]⟩,[(.exit 2,⟨[],[(1000000,.arr (.int .i64))]⟩)]⟩)],[]⟩
abbrev Zs_p:List Sk:=[.vw 1000000 (.int .i64),.d (.int .i64),.d (.int .i64)]
abbrev Zs_r:List Sk:=[]
abbrev Zs_o:List (Nat×ObSk):=[(1000000,.arr (.int .i64))]
@[irreducible] noncomputable def Zs (n:Nat)(p:PayL R.T Zs_p)(q:PayOs R.T Zs_o):Option (PayL R.T Zs_r×PayOs R.T Zs_o):=funI E R n false (regs71 n) (its23 n) Zs_a Tryz.f105 Zs_p Zs_o Zs_r p q
theorem Zs_ok (n:Nat):FMOK1 E 105 Zs_p Zs_o Zs_r (Zs n):=by intro p q y q' h;have h:Zs n p q=some (y,q'):=h;unfold Zs at h;exact funI_ok rOK (regs71_ok n) (its23_ok n) h Tryz.func105 rfl (by kernel_rfl)
noncomputable def its24 (n:Nat):IR R:=addM 105 (mkM Zs_p Zs_o Zs_r (Zs n)) (its23 n)
theorem its24_ok (n:Nat):ItersOK E (its24 n):=addM_ok (m:=mkM Zs_p Zs_o Zs_r (Zs n)) (its23_ok n) (FMOK.M (Zs_ok n))
def ZO_a:Ann:=⟨[(5,⟨[0,1,6,7,8],[],⟨[(9,.d (.int .i64))],[(7,.cells [.d (.int .u64)]),(1000000,.arr (.int .i64))]⟩,[(.exit 0,⟨[],[(1000000,.arr (.int .i64))]⟩)]⟩)],[(10,⟨[0,1,6,7,8,9],[7,1000000],⟨[],[]⟩,[(.normal,⟨[(10,.d (.int .i64))],[]⟩)]⟩)]⟩
abbrev ZO_p:List Sk:=[.vw 1000000 (.int .i64),.d (.int .i64),.d (.int .i64)]
abbrev ZO_r:List Sk:=[]
abbrev ZO_o:List (Nat×ObSk):=[(1000000,.arr (.int .i64))]
@[irreducible] noncomputable def ZO (n:Nat)(p:PayL R.T ZO_p)(q:PayOs R.T ZO_o):Option (PayL R.T ZO_r×PayOs R.T ZO_o):=funI E R n false (regs71 n) (its24 n) ZO_a Tryz.f106 ZO_p ZO_o ZO_r p q
theorem ZO_ok (n:Nat):FMOK1 E 106 ZO_p ZO_o ZO_r (ZO n):=by intro p q y q' h;have h:ZO n p q=some (y,q'):=h;unfold ZO at h;exact funI_ok rOK (regs71_ok n) (its24_ok n) h Tryz.func106 rfl (by kernel_rfl)
noncomputable def its25 (n:Nat):IR R:=addM 106 (mkM ZO_p ZO_o ZO_r (ZO n)) (its24 n)
theorem its25_ok (n:Nat):ItersOK E (its25 n):=addM_ok (m:=mkM ZO_p ZO_o ZO_r (ZO n)) (its24_ok n) (FMOK.M (ZO_ok n))
def Xf_a:Ann:=⟨[],[]⟩
abbrev Xf_p:List Sk:=[.d (.slice (.int .i64)),.d (.int .i64),.d (.int .i64),.ref 1000000 0]
abbrev Xf_r:List Sk:=[.d (.int .i64),.d (.int .i64)]
abbrev Xf_o:List (Nat×ObSk):=[(1000000,.cells [.d (.int .i64)])]
@[irreducible] noncomputable def Xf (n:Nat)(p:PayL R.T Xf_p)(q:PayOs R.T Xf_o):Option (PayL R.T Xf_r×PayOs R.T Xf_o):=funI E R n false (regs71 n) (its25 n) Xf_a Tryz.f122 Xf_p Xf_o Xf_r p q
theorem Xf_ok (n:Nat):FMOK1 E 122 Xf_p Xf_o Xf_r (Xf n):=by intro p q y q' h;have h:Xf n p q=some (y,q'):=h;unfold Xf at h;exact funI_ok rOK (regs71_ok n) (its25_ok n) h Tryz.func122 rfl (by kernel_rfl)
noncomputable def its26 (n:Nat):IR R:=addM 122 (mkM Xf_p Xf_o Xf_r (Xf n)) (its25 n)
theorem its26_ok (n:Nat):ItersOK E (its26 n):=addM_ok (m:=mkM Xf_p Xf_o Xf_r (Xf n)) (its25_ok n) (FMOK.M (Xf_ok n))
def Xg_a:Ann:=⟨[],[]⟩
abbrev Xg_p:List Sk:=[.d (.slice (.int .i64)),.d (.int .i64),.d (.int .i64),.d (.int .i64),.ref 1000000 0]
abbrev Xg_r:List Sk:=[.d (.int .i64)]
abbrev Xg_o:List (Nat×ObSk):=[(1000000,.cells [.d (.int .i64)])]
@[irreducible] noncomputable def Xg (n:Nat)(p:PayL R.T Xg_p)(q:PayOs R.T Xg_o):Option (PayL R.T Xg_r×PayOs R.T Xg_o):=funI E R n false (regs71 n) (its26 n) Xg_a Tryz.f120 Xg_p Xg_o Xg_r p q
theorem Xg_ok (n:Nat):FMOK1 E 120 Xg_p Xg_o Xg_r (Xg n):=by intro p q y q' h;have h:Xg n p q=some (y,q'):=h;unfold Xg at h;exact funI_ok rOK (regs71_ok n) (its26_ok n) h Tryz.func120 rfl (by kernel_rfl)
noncomputable def its27 (n:Nat):IR R:=addM 120 (mkM Xg_p Xg_o Xg_r (Xg n)) (its26 n)
theorem its27_ok (n:Nat):ItersOK E (its27 n):=addM_ok (m:=mkM Xg_p Xg_o Xg_r (Xg n)) (its26_ok n) (FMOK.M (Xg_ok n))
def Xh_a:Ann:=⟨[],[]⟩
abbrev Xh_p:List Sk:=[.d (.slice (.int .i64)),.d (.int .i64),.ref 1000000 0]
abbrev Xh_r:List Sk:=[.d (.int .i64)]
abbrev Xh_o:List (Nat×ObSk):=[(1000000,.cells [.d (.int .i64)])]
@[irreducible] noncomputable def Xh (n:Nat)(p:PayL R.T Xh_p)(q:PayOs R.T Xh_o):Option (PayL R.T Xh_r×PayOs R.T Xh_o):=funI E R n false (regs71 n) (its27 n) Xh_a Tryz.f119 Xh_p Xh_o Xh_r p q
theorem Xh_ok (n:Nat):FMOK1 E 119 Xh_p Xh_o Xh_r (Xh n):=by intro p q y q' h;have h:Xh n p q=some (y,q'):=h;unfold Xh at h;exact funI_ok rOK (regs71_ok n) (its27_ok n) h Tryz.func119 rfl (by kernel_rfl)
noncomputable def its28 (n:Nat):IR R:=addM 119 (mkM Xh_p Xh_o Xh_r (Xh n)) (its27 n)
theorem its28_ok (n:Nat):ItersOK E (its28 n):=addM_ok (m:=mkM Xh_p Xh_o Xh_r (Xh n)) (its27_ok n) (FMOK.M (Xh_ok n))
def XR_a:Ann:=⟨[],[]⟩
abbrev XR_p:List Sk:=[.d (.slice (.int .i64)),.d (.int .i64),.d (.int .i64)]
abbrev XR_r:List Sk:=[.d (.int .i64),.d (.int .i64)]
@[irreducible] noncomputable def XR (n:Nat)(p:PayL R.T XR_p):Option (PayL R.T XR_r):=funM E R n false (regs71 n) (its28 n) XR_a Tryz.f107 XR_p XR_r p
theorem XR_ok (n:Nat)(p:PayL R.T XR_p)(x:PayL R.T XR_r)(h:XR n p=some x):Pure E 107 (encSL R XR_p p) (retV (encSL R XR_r x)):=by unfold XR at h;exact funM_ok rOK (regs71_ok n) (its28_ok n) h Tryz.func107 rfl rfl rfl rfl (by kernel_rfl)
noncomputable def regs72 (n:Nat):Nat->List (FR R):=addF 107 ⟨XR_p,XR_r,XR n,dflL R XR_r,false⟩ (regs71 n)
theorem regs72_ok (n:Nat):RegsOK E (regs72 n):=addF_ok (regs71_ok n) (XR_ok n)
def Zw_a:Ann:=⟨[(2,⟨[0],[],⟨[(6,.d (.int .i64)),(7,.d (.int .i64))],[(1000000,.arr (.int .i64))]⟩,[(.exit 0,⟨[],[(1000000,.arr (.int .i64))]⟩)]⟩)],[]⟩
abbrev Zw_p:List Sk:=[.vw 1000000 (.int .i64),.d (.int .i64),.d (.int .i64)]
abbrev Zw_r:List Sk:=[]
abbrev Zw_o:List (Nat×ObSk):=[(1000000,.arr (.int .i64))]
@[irreducible] noncomputable def Zw (n:Nat)(p:PayL R.T Zw_p)(q:PayOs R.T Zw_o):Option (PayL R.T Zw_r×PayOs R.T Zw_o):=funI E R n false (regs72 n) (its28 n) Zw_a Tryz.f108 Zw_p Zw_o Zw_r p q
theorem Zw_ok (n:Nat):FMOK1 E 108 Zw_p Zw_o Zw_r (Zw n):=by intro p q y q' h;have h:Zw n p q=some (y,q'):=h;unfold Zw at h;exact funI_ok rOK (regs72_ok n) (its28_ok n) h Tryz.func108 rfl (by kernel_rfl)
noncomputable def its29 (n:Nat):IR R:=addM 108 (mkM Zw_p Zw_o Zw_r (Zw n)) (its28 n)
theorem its29_ok (n:Nat):ItersOK E (its29 n):=addM_ok (m:=mkM Zw_p Zw_o Zw_r (Zw n)) (its28_ok n) (FMOK.M (Zw_ok n))
def Zd_a:Ann:=⟨[(3,⟨[0,1,2],[],⟨[(7,.d (.int .i64)),(8,.d (.int .i64))],[(1000000,.arr (.int .i64))]⟩,[(.exit 0,⟨[],[(1000000,.arr (.int .i64))]⟩),(.ret,⟨[(6,.d .bool)],[(1000000,.arr (.int .i64))]⟩)]⟩),
 (5,⟨[0,1,2,8],[1000000],⟨[(7,.d (.int .i64))],[]⟩,[(.exit 2,⟨[(7,.d (.int .i64))],[]⟩)]⟩),
 (14,⟨[0,1,2,7,8],[],⟨[(9,.d (.int .i64))],[(1000000,.arr (.int .i64))]⟩,[(.exit 4,⟨[],[(1000000,.arr (.int .i64))]⟩)]⟩),
 (20,⟨[0,1,2,7,8],[],⟨[(10,.d (.int .i64))],[(1000000,.arr (.int .i64))]⟩,[(.exit 6,⟨[],[(1000000,.arr (.int .i64))]⟩)]⟩)],[(18,⟨[0,1,2,7,8],[],⟨[],[]⟩,[(.normal,⟨[],[(1000000,.arr (.int .i64))]⟩)]⟩)]⟩
abbrev Zd_p:List Sk:=[.vw 1000000 (.int .i64),.d (.int .i64),.d (.int .i64)]
abbrev Zd_r:List Sk:=[.d .bool]
abbrev Zd_o:List (Nat×ObSk):=[(1000000,.arr (.int .i64))]
@[irreducible] noncomputable def Zd (n:Nat)(p:PayL R.T Zd_p)(q:PayOs R.T Zd_o):Option (PayL R.T Zd_r×PayOs R.T Zd_o):=funI E R n false (regs72 n) (its29 n) Zd_a Tryz.f109 Zd_p Zd_o Zd_r p q
theorem Zd_ok (n:Nat):FMOK1 E 109 Zd_p Zd_o Zd_r (Zd n):=by intro p q y q' h;have h:Zd n p q=some (y,q'):=h;unfold Zd at h;exact funI_ok rOK (regs72_ok n) (its29_ok n) h Tryz.func109 rfl (by kernel_rfl)
noncomputable def its30 (n:Nat):IR R:=addM 109 (mkM Zd_p Zd_o Zd_r (Zd n)) (its29 n)
theorem its30_ok (n:Nat):ItersOK E (its30 n):=addM_ok (m:=mkM Zd_p Zd_o Zd_r (Zd n)) (its29_ok n) (FMOK.M (Zd_ok n))
def Zk_a:Ann:=⟨[(503,⟨[0,1],[],⟨[(9,.d (.int .i64)),(10,.d (.int .i64))],[(1000000,.arr (.int .i64))]⟩,[(.exit 0,⟨[(9,.d (.int .i64))],[(1000000,.arr (.int .i64))]⟩)]⟩),
 (3,⟨[0,1,10],[1000000],⟨[(9,.d (.int .i64))],[]⟩,[(.exit 2,⟨[(9,.d (.int .i64))],[]⟩)]⟩),
 (5,⟨[0,1,9],[1000000],⟨[(10,.d (.int .i64))],[]⟩,[(.exit 4,⟨[(10,.d (.int .i64))],[]⟩)]⟩)],[]⟩
abbrev Zk_p:List Sk:=[.vw 1000000 (.int .i64),.d (.int .i64),.d (.int .i64),.d (.int .i64)]
abbrev Zk_r:List Sk:=[.d (.int .i64)]
abbrev Zk_o:List (Nat×ObSk):=[(1000000,.arr (.int .i64))]
@[irreducible] noncomputable def Zk (n:Nat)(p:PayL R.T Zk_p)(q:PayOs R.T Zk_o):Option (PayL R.T Zk_r×PayOs R.T Zk_o):=funI E R n false (regs72 n) (its30 n) Zk_a Tryz.f111 Zk_p Zk_o Zk_r p q
theorem Zk_ok (n:Nat):FMOK1 E 111 Zk_p Zk_o Zk_r (Zk n):=by intro p q y q' h;have h:Zk n p q=some (y,q'):=h;unfold Zk at h;exact funI_ok rOK (regs72_ok n) (its30_ok n) h Tryz.func111 rfl (by kernel_rfl)
noncomputable def its31 (n:Nat):IR R:=addM 111 (mkM Zk_p Zk_o Zk_r (Zk n)) (its30 n)
theorem its31_ok (n:Nat):ItersOK E (its31 n):=addM_ok (m:=mkM Zk_p Zk_o Zk_r (Zk n)) (its30_ok n) (FMOK.M (Zk_ok n))
def Zb_a:Ann:=⟨[(3,⟨[0,1,11],[1000000],⟨[(10,.d (.int .i64))],[]⟩,[(.exit 0,⟨[(10,.d (.int .i64))],[]⟩)]⟩),
 (5,⟨[0,1,10],[1000000],⟨[(11,.d (.int .i64))],[]⟩,[(.exit 2,⟨[(11,.d (.int .i64))],[]⟩)]⟩),
 (513,⟨[0,1],[],⟨[(10,.d (.int .i64)),(11,.d (.int .i64))],[(1000000,.arr (.int .i64))]⟩,[(.exit 4,⟨[(11,.d (.int .i64))],[(1000000,.arr (.int .i64))]⟩)]⟩),
 (13,⟨[0,1,11],[1000000],⟨[(10,.d (.int .i64))],[]⟩,[(.exit 6,⟨[(10,.d (.int .i64))],[]⟩)]⟩),
 (15,⟨[0,1,10],[1000000],⟨[(11,.d (.int .i64))],[]⟩,[(.exit 8,⟨[(11,.d (.int .i64))],[]⟩)]⟩)],[]⟩
abbrev Zb_p:List Sk:=[.vw 1000000 (.int .i64),.d (.int .i64),.d (.int .i64),.d (.int .i64)]
abbrev Zb_r:List Sk:=[.d (.int .i64),.d .bool]
abbrev Zb_o:List (Nat×ObSk):=[(1000000,.arr (.int .i64))]
@[irreducible] noncomputable def Zb (n:Nat)(p:PayL R.T Zb_p)(q:PayOs R.T Zb_o):Option (PayL R.T Zb_r×PayOs R.T Zb_o):=funI E R n false (regs72 n) (its31 n) Zb_a Tryz.f112 Zb_p Zb_o Zb_r p q
theorem Zb_ok (n:Nat):FMOK1 E 112 Zb_p Zb_o Zb_r (Zb n):=by intro p q y q' h;have h:Zb n p q=some (y,q'):=h;unfold Zb at h;exact funI_ok rOK (regs72_ok n) (its31_ok n) h Tryz.func112 rfl (by kernel_rfl)
noncomputable def its32 (n:Nat):IR R:=addM 112 (mkM Zb_p Zb_o Zb_r (Zb n)) (its31 n)
theorem its32_ok (n:Nat):ItersOK E (its32 n):=addM_ok (m:=mkM Zb_p Zb_o Zb_r (Zb n)) (its31_ok n) (FMOK.M (Zb_ok n))
def QQ_a:Ann:=⟨[(2,⟨[0],[],⟨[(1,.d (.int .i64)),(2,.d (.int .i64)),(3,.d (.int .i64)),(8,.d .bool),(9,.d .bool)],[(1000000,.arr (.int .i64))]⟩,[(.ret,⟨[],[(1000000,.arr (.int .i64))]⟩)]⟩)],[(10,⟨[0,1,2,8,9,10],[],⟨[],[]⟩,[(.normal,⟨[(3,.d (.int .i64))],[(1000000,.arr (.int .i64))]⟩)]⟩),(15,⟨[0,1,2,3,8,9,10],[],⟨[],[]⟩,[(.normal,⟨[(11,.d (.int .i64)),(12,.d (.int .i64))],[(1000000,.arr (.int .i64))]⟩)]⟩),(17,⟨[0,1,2,3,8,9,10,11],[],⟨[],[]⟩,[(.normal,⟨[],[(1000000,.arr (.int .i64))]⟩),(.ret,⟨[],[(1000000,.arr (.int .i64))]⟩)]⟩)]⟩
abbrev QQ_p:List Sk:=[.vw 1000000 (.int .i64),.d (.int .i64),.d (.int .i64),.d (.int .i64)]
abbrev QQ_r:List Sk:=[]
abbrev QQ_o:List (Nat×ObSk):=[(1000000,.arr (.int .i64))]
noncomputable def QQ_m (n:Nat):Nat->PayL R.T QQ_p->PayOs R.T QQ_o->Option (PayL R.T QQ_r×PayOs R.T QQ_o)
 |0,_,_=>none|m+1,p,q=>funI E R n false (regs72 n) (addM 86 (mkM QQ_p QQ_o QQ_r (QQ_m n m)) (its32 n)) QQ_a Tryz.f86 QQ_p QQ_o QQ_r p q
attribute [irreducible] QQ_m
theorem QQ_e (n m:Nat)(p:PayL R.T QQ_p)(q:PayOs R.T QQ_o):QQ_m n (m+1) p q=funI E R n false (regs72 n) (addM 86 (mkM QQ_p QQ_o QQ_r (QQ_m n m)) (its32 n)) QQ_a Tryz.f86 QQ_p QQ_o QQ_r p q:=by kernel_rfl
theorem QQ_e0 (n:Nat)(p:PayL R.T QQ_p)(q:PayOs R.T QQ_o):QQ_m n 0 p q=none:=by kernel_rfl
theorem slices_pdqsortOrdered_int_mok (n:Nat):∀m,FMOK1 E 86 QQ_p QQ_o QQ_r (QQ_m n m)
 |0=>fun p q y q' h=>absurd (((QQ_e0 n p q).symm.trans h)) nofun
 |m+1=>fun p q y q' h=>funI_ok rOK (regs72_ok n) (addM_ok (m:=(mkM QQ_p QQ_o QQ_r (QQ_m n m))) (its32_ok n) (FMOK.M (slices_pdqsortOrdered_int_mok n m))) ((QQ_e n m p q).symm.trans h) Tryz.func86 rfl (by kernel_rfl)
@[irreducible] noncomputable def QQ (n:Nat):PayL R.T QQ_p->PayOs R.T QQ_o->Option (PayL R.T QQ_r×PayOs R.T QQ_o):=QQ_m n n
theorem QQ_ok (n:Nat):FMOK1 E 86 QQ_p QQ_o QQ_r (QQ n):=by unfold QQ;exact slices_pdqsortOrdered_int_mok n n
noncomputable def its33 (n:Nat):IR R:=addM 86 (mkM QQ_p QQ_o QQ_r (QQ n)) (its32 n)
theorem its33_ok (n:Nat):ItersOK E (its33 n):=addM_ok (m:=mkM QQ_p QQ_o QQ_r (QQ n)) (its32_ok n) (FMOK.M (QQ_ok n))
def ZZ_a:Ann:=⟨[],[]⟩
abbrev ZZ_p:List Sk:=[.vw 1000000 (.int .i64)]
abbrev ZZ_r:List Sk:=[]
abbrev ZZ_o:List (Nat×ObSk):=[(1000000,.arr (.int .i64))]
@[irreducible] noncomputable def ZZ (n:Nat)(p:PayL R.T ZZ_p)(q:PayOs R.T ZZ_o):Option (PayL R.T ZZ_r×PayOs R.T ZZ_o):=funI E R n false (regs72 n) (its33 n) ZZ_a Tryz.f70 ZZ_p ZZ_o ZZ_r p q
theorem ZZ_ok (n:Nat):FMOK1 E 70 ZZ_p ZZ_o ZZ_r (ZZ n):=by intro p q y q' h;have h:ZZ n p q=some (y,q'):=h;unfold ZZ at h;exact funI_ok rOK (regs72_ok n) (its33_ok n) h Tryz.func70 rfl (by kernel_rfl)
noncomputable def its34 (n:Nat):IR R:=addM 70 (mkM ZZ_p ZZ_o ZZ_r (ZZ n)) (its33 n)
theorem its34_ok (n:Nat):ItersOK E (its34 n):=addM_ok (m:=mkM ZZ_p ZZ_o ZZ_r (ZZ n)) (its33_ok n) (FMOK.M (ZZ_ok n))
def XD_a:Ann:=⟨[],[]⟩
abbrev XD_p:List Sk:=[.fn 71 [] [.cref [.d (.slice (.int .i64))] 0]]
abbrev XD_r:List Sk:=[.d (.slice (.int .i64))]
@[irreducible] noncomputable def XD (n:Nat)(p:PayL R.T XD_p):Option (PayL R.T XD_r):=funM E R n false (regs72 n) (its34 n) XD_a Tryz.f44 XD_p XD_r p
theorem XD_ok (n:Nat)(p:PayL R.T XD_p)(x:PayL R.T XD_r)(h:XD n p=some x):Pure E 44 (encSL R XD_p p) (retV (encSL R XD_r x)):=by unfold XD at h;exact funM_ok rOK (regs72_ok n) (its34_ok n) h Tryz.func44 rfl rfl rfl rfl (by kernel_rfl)
noncomputable def regs73 (n:Nat):Nat->List (FR R):=addF 44 ⟨XD_p,XD_r,XD n,dflL R XD_r,false⟩ (regs72 n)
theorem regs73_ok (n:Nat):RegsOK E (regs73 n):=addF_ok (regs72_ok n) (XD_ok n)
def Zx_a:Ann:=⟨[(3,⟨[1,8,9],[],⟨[(5,.l (.own 21) (.int .i64)),(10,.d (.int .i64))],[]⟩,[(.exit 0,⟨[(5,.l (.own 21) (.int .i64))],[]⟩)]⟩)],[]⟩
abbrev Zx_p:List Sk:=[.d (.slice (.int .i64)),.d (.int .i64)]
abbrev Zx_r:List Sk:=[.d (.slice (.int .i64))]
@[irreducible] noncomputable def Zx (n:Nat)(p:PayL R.T Zx_p):Option (PayL R.T Zx_r):=funM E R n false (regs73 n) (its34 n) Zx_a Tryz.f46 Zx_p Zx_r p
theorem Zx_ok (n:Nat)(p:PayL R.T Zx_p)(x:PayL R.T Zx_r)(h:Zx n p=some x):Pure E 46 (encSL R Zx_p p) (retV (encSL R Zx_r x)):=by unfold Zx at h;exact funM_ok rOK (regs73_ok n) (its34_ok n) h Tryz.func46 rfl rfl rfl rfl (by kernel_rfl)
noncomputable def regs74 (n:Nat):Nat->List (FR R):=addF 46 ⟨Zx_p,Zx_r,Zx n,dflL R Zx_r,false⟩ (regs73 n)
theorem regs74_ok (n:Nat):RegsOK E (regs74 n):=addF_ok (regs73_ok n) (Zx_ok n)
def ZB_a:Ann:=⟨[(6,⟨[1,2,6,8,9,29,30],[6,8],⟨[(31,.d (.int .i64))],[(9,.cells [.l (.own 56) (.st 0)])]⟩,[(.exit 0,⟨[],[(9,.cells [.l (.own 56) (.st 0)])]⟩)]⟩)],[]⟩
abbrev ZB_p:List Sk:=[.d (.int .i64),.d (.slice (.slice (.int .i64))),.d (.int .i64)]
abbrev ZB_r:List Sk:=[.d (.st 1),.d (.int .i64)]
@[irreducible] noncomputable def ZB (n:Nat)(p:PayL R.T ZB_p):Option (PayL R.T ZB_r):=funM E R n false (regs74 n) (its34 n) ZB_a Tryz.f19 ZB_p ZB_r p
theorem ZB_ok (n:Nat)(p:PayL R.T ZB_p)(x:PayL R.T ZB_r)(h:ZB n p=some x):Pure E 19 (encSL R ZB_p p) (retV (encSL R ZB_r x)):=by unfold ZB at h;exact funM_ok rOK (regs74_ok n) (its34_ok n) h Tryz.func19 rfl rfl rfl rfl (by kernel_rfl)
noncomputable def regs75 (n:Nat):Nat->List (FR R):=addF 19 ⟨ZB_p,ZB_r,ZB n,dflL R ZB_r,false⟩ (regs74 n)
theorem regs75_ok (n:Nat):RegsOK E (regs75 n):=addF_ok (regs74_ok n) (ZB_ok n)
def ZI_a:Ann:=⟨[(4,⟨[0,1,12],[],⟨[(13,.d (.int .i64))],[]⟩,[(.exit 0,⟨[],[]⟩),(.ret,⟨[(4,.d .bool)],[]⟩)]⟩)],[]⟩
abbrev ZI_p:List Sk:=[.d (.slice (.int .i64)),.d (.slice (.int .i64))]
abbrev ZI_r:List Sk:=[.d .bool]
@[irreducible] noncomputable def ZI (n:Nat)(p:PayL R.T ZI_p):Option (PayL R.T ZI_r):=funM E R n false (regs75 n) (its34 n) ZI_a Tryz.f47 ZI_p ZI_r p
theorem ZI_ok (n:Nat)(p:PayL R.T ZI_p)(x:PayL R.T ZI_r)(h:ZI n p=some x):Pure E 47 (encSL R ZI_p p) (retV (encSL R ZI_r x)):=by unfold ZI at h;exact funM_ok rOK (regs75_ok n) (its34_ok n) h Tryz.func47 rfl rfl rfl rfl (by kernel_rfl)
noncomputable def regs76 (n:Nat):Nat->List (FR R):=addF 47 ⟨ZI_p,ZI_r,ZI n,dflL R ZI_r,false⟩ (regs75 n)
theorem regs76_ok (n:Nat):RegsOK E (regs76 n):=addF_ok (regs75_ok n) (ZI_ok n)
def ZJ_a:Ann:=⟨[(5,⟨[1,8,25,26],[8],⟨[(27,.d (.int .i64))],[]⟩,[(.exit 0,⟨[],[]⟩),(.ret,⟨[(6,.d (.int .i64)),(7,.d (.int .i64))],[]⟩)]⟩)],[]⟩
abbrev ZJ_p:List Sk:=[.d (.int .i64),.d (.slice (.slice (.int .i64))),.d (.st 1)]
abbrev ZJ_r:List Sk:=[.d (.int .i64),.d (.int .i64)]
@[irreducible] noncomputable def ZJ (n:Nat)(p:PayL R.T ZJ_p):Option (PayL R.T ZJ_r):=funM E R n false (regs76 n) (its34 n) ZJ_a Tryz.f20 ZJ_p ZJ_r p
theorem ZJ_ok (n:Nat)(p:PayL R.T ZJ_p)(x:PayL R.T ZJ_r)(h:ZJ n p=some x):Pure E 20 (encSL R ZJ_p p) (retV (encSL R ZJ_r x)):=by unfold ZJ at h;exact funM_ok rOK (regs76_ok n) (its34_ok n) h Tryz.func20 rfl rfl rfl rfl (by kernel_rfl)
noncomputable def regs77 (n:Nat):Nat->List (FR R):=addF 20 ⟨ZJ_p,ZJ_r,ZJ n,dflL R ZJ_r,false⟩ (regs76 n)
theorem regs77_ok (n:Nat):RegsOK E (regs77 n):=addF_ok (regs76_ok n) (ZJ_ok n)
def Ua_a:Ann:=⟨[(3,⟨[0,1,2,3],[],⟨[(9,.l (.own 29) (.int .i64)),(10,.d (.int .i64))],[]⟩,[(.exit 0,⟨[(9,.l (.own 29) (.int .i64))],[]⟩)]⟩)],[]⟩
abbrev Ua_p:List Sk:=[.d (.int .i64),.d (.slice (.slice (.int .i64))),.d (.slice (.int .i64)),.d (.int .i64)]
abbrev Ua_r:List Sk:=[.d (.slice (.int .i64))]
@[irreducible] noncomputable def Ua (n:Nat)(p:PayL R.T Ua_p):Option (PayL R.T Ua_r):=funM E R n false (regs77 n) (its34 n) Ua_a Tryz.f48 Ua_p Ua_r p
theorem Ua_ok (n:Nat)(p:PayL R.T Ua_p)(x:PayL R.T Ua_r)(h:Ua n p=some x):Pure E 48 (encSL R Ua_p p) (retV (encSL R Ua_r x)):=by unfold Ua at h;exact funM_ok rOK (regs77_ok n) (its34_ok n) h Tryz.func48 rfl rfl rfl rfl (by kernel_rfl)
noncomputable def regs78 (n:Nat):Nat->List (FR R):=addF 48 ⟨Ua_p,Ua_r,Ua n,dflL R Ua_r,false⟩ (regs77 n)
theorem regs78_ok (n:Nat):RegsOK E (regs78 n):=addF_ok (regs77_ok n) (Ua_ok n)
def Ub_a:Ann:=⟨[(5,⟨[0,1,2,6,7],[6],⟨[(8,.d (.int .i64))],[(7,.cells [.l (.own 84) (.st 0)])]⟩,[(.exit 0,⟨[],[(7,.cells [.l (.own 84) (.st 0)])]⟩)]⟩),
 (9,⟨[0,1,2,6,7,8],[6],⟨[(9,.d (.int .i64)),(10,.d (.int .i64))],[(7,.cells [.l (.own 84) (.st 0)])]⟩,[(.exit 2,⟨[(9,.d (.int .i64))],[(7,.cells [.l (.own 84) (.st 0)])]⟩)]⟩)],[]⟩
abbrev Ub_p:List Sk:=[.d (.int .i64),.d (.slice (.slice (.int .i64))),.d (.int .i64)]
abbrev Ub_r:List Sk:=[.d (.st 3)]
@[irreducible] noncomputable def Ub (n:Nat)(p:PayL R.T Ub_p):Option (PayL R.T Ub_r):=funM E R n false (regs78 n) (its34 n) Ub_a Tryz.f21 Ub_p Ub_r p
theorem Ub_ok (n:Nat)(p:PayL R.T Ub_p)(x:PayL R.T Ub_r)(h:Ub n p=some x):Pure E 21 (encSL R Ub_p p) (retV (encSL R Ub_r x)):=by unfold Ub at h;exact funM_ok rOK (regs78_ok n) (its34_ok n) h Tryz.func21 rfl rfl rfl rfl (by kernel_rfl)
noncomputable def regs79 (n:Nat):Nat->List (FR R):=addF 21 ⟨Ub_p,Ub_r,Ub n,dflL R Ub_r,false⟩ (regs78 n)
theorem regs79_ok (n:Nat):RegsOK E (regs79 n):=addF_ok (regs78_ok n) (Ub_ok n)
def Uc_a:Ann:=⟨[(5,⟨[0,1,5,6],[5],⟨[(8,.d (.int .i64))],[(6,.st 4)]⟩,[(.exit 0,⟨[],[(6,.st 4)]⟩),(.ret,⟨[],[(6,.st 4)]⟩)]⟩)],[]⟩
abbrev Uc_p:List Sk:=[.d (.int .i64),.d (.slice (.slice (.int .i64))),.d (.st 1)]
abbrev Uc_r:List Sk:=[.d (.st 4)]
@[irreducible] noncomputable def Uc (n:Nat)(p:PayL R.T Uc_p):Option (PayL R.T Uc_r):=funM E R n false (regs79 n) (its34 n) Uc_a Tryz.f22 Uc_p Uc_r p
theorem Uc_ok (n:Nat)(p:PayL R.T Uc_p)(x:PayL R.T Uc_r)(h:Uc n p=some x):Pure E 22 (encSL R Uc_p p) (retV (encSL R Uc_r x)):=by unfold Uc at h;exact funM_ok rOK (regs79_ok n) (its34_ok n) h Tryz.func22 rfl rfl rfl rfl (by kernel_rfl)
noncomputable def regs80 (n:Nat):Nat->List (FR R):=addF 22 ⟨Uc_p,Uc_r,Uc n,dflL R Uc_r,false⟩ (regs79 n)
theorem regs80_ok (n:Nat):RegsOK E (regs80 n):=addF_ok (regs79_ok n) (Uc_ok n)
def Ud_a:Ann:=⟨[(4,⟨[2,3],[2,3],⟨[(5,.d (.int .i64))],[]⟩,[(.exit 0,⟨[],[]⟩),(.ret,⟨[(4,.d .bool)],[]⟩)]⟩)],[]⟩
abbrev Ud_p:List Sk:=[.d (.st 1),.d (.st 1)]
abbrev Ud_r:List Sk:=[.d .bool]
@[irreducible] noncomputable def Ud (n:Nat)(p:PayL R.T Ud_p):Option (PayL R.T Ud_r):=funM E R n false (regs80 n) (its34 n) Ud_a Tryz.f23 Ud_p Ud_r p
theorem Ud_ok (n:Nat)(p:PayL R.T Ud_p)(x:PayL R.T Ud_r)(h:Ud n p=some x):Pure E 23 (encSL R Ud_p p) (retV (encSL R Ud_r x)):=by unfold Ud at h;exact funM_ok rOK (regs80_ok n) (its34_ok n) h Tryz.func23 rfl rfl rfl rfl (by kernel_rfl)
noncomputable def regs81 (n:Nat):Nat->List (FR R):=addF 23 ⟨Ud_p,Ud_r,Ud n,dflL R Ud_r,false⟩ (regs80 n)
theorem regs81_ok (n:Nat):RegsOK E (regs81 n):=addF_ok (regs80_ok n) (Ud_ok n)
def Ue_a:Ann:=⟨[],[]⟩
abbrev Ue_p:List Sk:=[.d (.int .i64),.d (.slice (.slice (.int .i64))),.d (.int .i64),.d (.int .i64),.d (.st 1)]
abbrev Ue_r:List Sk:=[.d .bool]
@[irreducible] noncomputable def Ue (n:Nat)(p:PayL R.T Ue_p):Option (PayL R.T Ue_r):=funM E R n false (regs81 n) (its34 n) Ue_a Tryz.f4 Ue_p Ue_r p
theorem Ue_ok (n:Nat)(p:PayL R.T Ue_p)(x:PayL R.T Ue_r)(h:Ue n p=some x):Pure E 4 (encSL R Ue_p p) (retV (encSL R Ue_r x)):=by unfold Ue at h;exact funM_ok rOK (regs81_ok n) (its34_ok n) h Tryz.func4 rfl rfl rfl rfl (by kernel_rfl)
noncomputable def regs82 (n:Nat):Nat->List (FR R):=addF 4 ⟨Ue_p,Ue_r,Ue n,dflL R Ue_r,false⟩ (regs81 n)
theorem regs82_ok (n:Nat):RegsOK E (regs82 n):=addF_ok (regs81_ok n) (Ue_ok n)
def ZP_a:Ann:=⟨[(21,⟨[0,1,4,6,22,23,25,27,29],[],⟨[(31,.l (.own 158) (.int .i64)),(32,.l (.own 145) (.int .i64)),(33,.d (.int .i64))],[]⟩,[(.exit 0,⟨[(31,.l (.own 158) (.int .i64)),(32,.l (.own 145) (.int .i64))],[]⟩)]⟩)],[]⟩
abbrev ZP_p:List Sk:=[.d (.int .i64),.d (.slice (.slice (.int .i64))),.d (.int .u8),.d (.st 1),.d (.slice (.int .i64)),.d (.int .u8),.d (.int .i64),.d (.int .u8)]
abbrev ZP_r:List Sk:=[.d .bool]
@[irreducible] noncomputable def ZP (n:Nat)(p:PayL R.T ZP_p):Option (PayL R.T ZP_r):=funM E R n false (regs82 n) (its34 n) ZP_a Tryz.f5 ZP_p ZP_r p
theorem ZP_ok (n:Nat)(p:PayL R.T ZP_p)(x:PayL R.T ZP_r)(h:ZP n p=some x):Pure E 5 (encSL R ZP_p p) (retV (encSL R ZP_r x)):=by unfold ZP at h;exact funM_ok rOK (regs82_ok n) (its34_ok n) h Tryz.func5 rfl rfl rfl rfl (by kernel_rfl)
end Sh
