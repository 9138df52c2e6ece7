import Derived.Test.YtabmooekodficaaGreatF1318
set_option linter.all false
open Go Go.Proofs Aq
namespace Sh
set_option maxRecDepth 100000
def gL (i:Nat) (a r:List Sk) (F:PayL R.T a->Option (PayL R.T r)):Prop:=∀p x,F p=some x->Pure E i (encSL R a p) (retV (encSL R r x))
theorem okF {n:Nat} {om:Bool} {F:Nat->List (FR R)} {A:Ann} {i:Nat} {fn:Func} {a r:List Sk} {p:PayL R.T a} {x:PayL R.T r} (hF:RegsOK E F) (h:funM E R n om F iters A fn a r p=some x) (hf:E.P.funcs[i]? =some fn) (hok:(match fn.body with|some c=>decide (a.length<=fn.ntmps)&& bY fn.ntmps c&& iV E c|none=>false)=true)
 (ha:cSkL a=true:=by rfl) (hl:(encSL R a p).length=a.length:=by rfl) (ho:E.om i=om:=by rfl) (hs:E.summ i=none:=by rfl):Pure E i (encSL R a p) (retV (encSL R r x)):=funM_ok rOK hF iters_ok h hf ha hl ho hs hok
def Zw_a:Ann:=⟨[(4,⟨[0],[],⟨[(5,.d (.int .i64))],[]⟩,[(.exit 0,⟨[],[]⟩),(.ret,⟨[(4,.d .bool)],[]⟩)]⟩)],[]⟩
abbrev Zw_p:List Sk:=[.d (.slice (.slice (.int .i64))),.d (.int .i64)]
abbrev Zw_r:List Sk:=[.d .bool]
@[irreducible] noncomputable def Zw (n:Nat) (p:PayL R.T Zw_p):Option (PayL R.T Zw_r):=funM E R n false (regs0 n) iters Zw_a Tryz.f6 Zw_p Zw_r p
theorem Zw_ok (n:Nat):gL 6 Zw_p Zw_r (Zw n):=fun _ _ h=>by unfold Zw at h;exact okF (regs0_ok n) h Tryz.func6 (by kernel_rfl)
noncomputable def regs1 (n:Nat):Nat->List (FR R):=addF 6 ⟨Zw_p,Zw_r,Zw n,dflL R Zw_r,false⟩ (regs0 n)
theorem regs1_ok (n:Nat):RegsOK E (regs1 n):=addF_ok (regs0_ok n) (Zw_ok n)
def Zx_a:Ann:=⟨[(4,⟨[1],[1],⟨[(3,.d (.int .i64))],[]⟩,[(.exit 0,⟨[],[]⟩),(.ret,⟨[(2,.d .bool)],[]⟩)]⟩)],[]⟩
abbrev Zx_p:List Sk:=[.d (.st 1)]
abbrev Zx_r:List Sk:=[.d .bool]
@[irreducible] noncomputable def Zx (n:Nat) (p:PayL R.T Zx_p):Option (PayL R.T Zx_r):=funM E R n false (regs1 n) iters Zx_a Tryz.f7 Zx_p Zx_r p
theorem Zx_ok (n:Nat):gL 7 Zx_p Zx_r (Zx n):=fun _ _ h=>by unfold Zx at h;exact okF (regs1_ok n) h Tryz.func7 (by kernel_rfl)
noncomputable def regs2 (n:Nat):Nat->List (FR R):=addF 7 ⟨Zx_p,Zx_r,Zx n,dflL R Zx_r,false⟩ (regs1 n)
theorem regs2_ok (n:Nat):RegsOK E (regs2 n):=addF_ok (regs1_ok n) (Zx_ok n)
abbrev Xr_p:List Sk:=[]
abbrev Xr_r:List Sk:=[.d .bool]
@[irreducible] def Xr (n:Nat) (p:PayL R.T Xr_p):Option (PayL R.T Xr_r):=some true
theorem Xr_eq (n:Nat) (p:PayL R.T Xr_p):Xr n p=some true:=by unfold Xr;rfl
theorem Xr_ok (n:Nat) (p:PayL R.T Xr_p) (x:PayL R.T Xr_r) (h:Xr n p=some x):Pure E 8 (encSL R Xr_p p) (retV (encSL R Xr_r x)):=by
 unfold Xr at h
 exact sanP p x h
noncomputable def regs3 (n:Nat):Nat->List (FR R):=addF 8 ⟨Xr_p,Xr_r,Xr n,dflL R Xr_r,false⟩ (regs2 n)
theorem regs3_ok (n:Nat):RegsOK E (regs3 n):=addF_ok (regs2_ok n) (Xr_ok n)
def Xj_a:Ann:=⟨[],[]⟩
abbrev Xj_p:List Sk:=[.d (.int .i64),.d (.int .i64),.d (.int .i64)]
abbrev Xj_r:List Sk:=[.d (.int .i64)]
@[irreducible] noncomputable def Xj (n:Nat) (p:PayL R.T Xj_p):Option (PayL R.T Xj_r):=funM E R n false (regs3 n) iters Xj_a Tryz.f84 Xj_p Xj_r p
theorem Xj_ok (n:Nat):gL 84 Xj_p Xj_r (Xj n):=fun _ _ h=>by unfold Xj at h;exact okF (regs3_ok n) h Tryz.func84 (by kernel_rfl)
noncomputable def regs4 (n:Nat):Nat->List (FR R):=addF 84 ⟨Xj_p,Xj_r,Xj n,dflL R Xj_r,false⟩ (regs3 n)
theorem regs4_ok (n:Nat):RegsOK E (regs4 n):=addF_ok (regs3_ok n) (Xj_ok n)
def Xx_a:Ann:=⟨[],[]⟩
abbrev Xx_p:List Sk:=[.d (.int .i64),.d (.int .i64)]
abbrev Xx_r:List Sk:=[.d .bool]
@[irreducible] noncomputable def Xx (n:Nat) (p:PayL R.T Xx_p):Option (PayL R.T Xx_r):=funM E R n false (regs4 n) iters Xx_a Tryz.f68 Xx_p Xx_r p
theorem Xx_ok (n:Nat):gL 68 Xx_p Xx_r (Xx n):=fun _ _ h=>by unfold Xx at h;exact okF (regs4_ok n) h Tryz.func68 (by kernel_rfl)
noncomputable def regs5 (n:Nat):Nat->List (FR R):=addF 68 ⟨Xx_p,Xx_r,Xx n,dflL R Xx_r,false⟩ (regs4 n)
theorem regs5_ok (n:Nat):RegsOK E (regs5 n):=addF_ok (regs4_ok n) (Xx_ok n)
def XD_a:Ann:=⟨[],[]⟩
abbrev XD_p:List Sk:=[.d .bool,.d (.int .i64)]
abbrev XD_r:List Sk:=[.d .bool]
@[irreducible] noncomputable def XD (n:Nat) (p:PayL R.T XD_p):Option (PayL R.T XD_r):=funM E R n false (regs5 n) iters XD_a Tryz.f88 XD_p XD_r p
theorem XD_ok (n:Nat):gL 88 XD_p XD_r (XD n):=fun _ _ h=>by unfold XD at h;exact okF (regs5_ok n) h Tryz.func88 (by kernel_rfl)
noncomputable def regs6 (n:Nat):Nat->List (FR R):=addF 88 ⟨XD_p,XD_r,XD n,dflL R XD_r,false⟩ (regs5 n)
theorem regs6_ok (n:Nat):RegsOK E (regs6 n):=addF_ok (regs5_ok n) (XD_ok n)
def ZK_a:Ann:=⟨[(2,⟨[2,9,10],[],⟨[(1,.d .bool),(11,.d (.int .i64))],[]⟩,[(.exit 0,⟨[(1,.d .bool)],[]⟩)]⟩)],[]⟩
abbrev ZK_p:List Sk:=[.d (.slice (.int .i64)),.d .bool,.fn 88 [] []]
abbrev ZK_r:List Sk:=[.d .bool]
@[irreducible] noncomputable def ZK (n:Nat) (p:PayL R.T ZK_p):Option (PayL R.T ZK_r):=funM E R n false (regs6 n) iters ZK_a Tryz.f87 ZK_p ZK_r p
theorem ZK_ok (n:Nat):gL 87 ZK_p ZK_r (ZK n):=fun _ _ h=>by unfold ZK at h;exact okF (regs6_ok n) h Tryz.func87 (by kernel_rfl)
noncomputable def regs7 (n:Nat):Nat->List (FR R):=addF 87 ⟨ZK_p,ZK_r,ZK n,dflL R ZK_r,false⟩ (regs6 n)
theorem regs7_ok (n:Nat):RegsOK E (regs7 n):=addF_ok (regs6_ok n) (ZK_ok n)
def Xs_a:Ann:=⟨[],[]⟩
abbrev Xs_p:List Sk:=[.d (.slice (.int .i64))]
abbrev Xs_r:List Sk:=[.d .bool]
@[irreducible] noncomputable def Xs (n:Nat) (p:PayL R.T Xs_p):Option (PayL R.T Xs_r):=funM E R n false (regs7 n) iters Xs_a Tryz.f77 Xs_p Xs_r p
theorem Xs_ok (n:Nat):gL 77 Xs_p Xs_r (Xs n):=fun _ _ h=>by unfold Xs at h;exact okF (regs7_ok n) h Tryz.func77 (by kernel_rfl)
noncomputable def regs8 (n:Nat):Nat->List (FR R):=addF 77 ⟨Xs_p,Xs_r,Xs n,dflL R Xs_r,false⟩ (regs7 n)
theorem regs8_ok (n:Nat):RegsOK E (regs8 n):=addF_ok (regs7_ok n) (Xs_ok n)
def Xt_a:Ann:=⟨[],[]⟩
abbrev Xt_p:List Sk:=[.d (.slice (.int .i64)),.d (.slice (.int .i64))]
abbrev Xt_r:List Sk:=[.d .bool]
@[irreducible] noncomputable def Xt (n:Nat) (p:PayL R.T Xt_p):Option (PayL R.T Xt_r):=funM E R n false (regs8 n) iters Xt_a Tryz.f55 Xt_p Xt_r p
theorem Xt_ok (n:Nat):gL 55 Xt_p Xt_r (Xt n):=fun _ _ h=>by unfold Xt at h;exact okF (regs8_ok n) h Tryz.func55 (by kernel_rfl)
noncomputable def regs9 (n:Nat):Nat->List (FR R):=addF 55 ⟨Xt_p,Xt_r,Xt n,dflL R Xt_r,false⟩ (regs8 n)
theorem regs9_ok (n:Nat):RegsOK E (regs9 n):=addF_ok (regs8_ok n) (Xt_ok n)
def Xy_a:Ann:=⟨[],[]⟩
abbrev Xy_p:List Sk:=[.d (.slice (.int .i64)),.cref [.d (.int .i64),.d (.slice (.slice (.int .i64)))] 0]
abbrev Xy_r:List Sk:=[.d .bool]
@[irreducible] noncomputable def Xy (n:Nat) (p:PayL R.T Xy_p):Option (PayL R.T Xy_r):=funM E R n false (regs9 n) iters Xy_a Tryz.f67 Xy_p Xy_r p
theorem Xy_ok (n:Nat):gL 67 Xy_p Xy_r (Xy n):=fun _ _ h=>by unfold Xy at h;exact okF (regs9_ok n) h Tryz.func67 (by kernel_rfl)
noncomputable def regs10 (n:Nat):Nat->List (FR R):=addF 67 ⟨Xy_p,Xy_r,Xy n,dflL R Xy_r,false⟩ (regs9 n)
theorem regs10_ok (n:Nat):RegsOK E (regs10 n):=addF_ok (regs9_ok n) (Xy_ok n)
def ZH_a:Ann:=⟨[(2,⟨[0,1,7],[],⟨[(8,.d (.int .i64))],[]⟩,[(.exit 0,⟨[],[]⟩),(.ret,⟨[(4,.d (.int .i64))],[]⟩)]⟩)],[]⟩
abbrev ZH_p:List Sk:=[.d (.slice (.slice (.int .i64))),.fn 67 [] [.cref [.d (.int .i64),.d (.slice (.slice (.int .i64)))] 0]]
abbrev ZH_r:List Sk:=[.d (.int .i64)]
@[irreducible] noncomputable def ZH (n:Nat) (p:PayL R.T ZH_p):Option (PayL R.T ZH_r):=funM E R n false (regs10 n) iters ZH_a Tryz.f85 ZH_p ZH_r p
theorem ZH_ok (n:Nat):gL 85 ZH_p ZH_r (ZH n):=fun _ _ h=>by unfold ZH at h;exact okF (regs10_ok n) h Tryz.func85 (by kernel_rfl)
noncomputable def regs11 (n:Nat):Nat->List (FR R):=addF 85 ⟨ZH_p,ZH_r,ZH n,dflL R ZH_r,false⟩ (regs10 n)
theorem regs11_ok (n:Nat):RegsOK E (regs11 n):=addF_ok (regs10_ok n) (ZH_ok n)
def Xz_a:Ann:=⟨[],[]⟩
abbrev Xz_p:List Sk:=[.d (.slice (.slice (.int .i64))),.fn 67 [] [.cref [.d (.int .i64),.d (.slice (.slice (.int .i64)))] 0]]
abbrev Xz_r:List Sk:=[.d .bool]
@[irreducible] noncomputable def Xz (n:Nat) (p:PayL R.T Xz_p):Option (PayL R.T Xz_r):=funM E R n false (regs11 n) iters Xz_a Tryz.f69 Xz_p Xz_r p
theorem Xz_ok (n:Nat):gL 69 Xz_p Xz_r (Xz n):=fun _ _ h=>by unfold Xz at h;exact okF (regs11_ok n) h Tryz.func69 (by kernel_rfl)
noncomputable def regs12 (n:Nat):Nat->List (FR R):=addF 69 ⟨Xz_p,Xz_r,Xz n,dflL R Xz_r,false⟩ (regs11 n)
theorem regs12_ok (n:Nat):RegsOK E (regs12 n):=addF_ok (regs11_ok n) (Xz_ok n)
def XA_a:Ann:=⟨[],[]⟩
abbrev XA_p:List Sk:=[.d (.st 5)]
abbrev XA_r:List Sk:=[.d .bool]
@[irreducible] noncomputable def XA (n:Nat) (p:PayL R.T XA_p):Option (PayL R.T XA_r):=funM E R n false (regs12 n) iters XA_a Tryz.f42 XA_p XA_r p
theorem XA_ok (n:Nat):gL 42 XA_p XA_r (XA n):=fun _ _ h=>by unfold XA at h;exact okF (regs12_ok n) h Tryz.func42 (by kernel_rfl)
noncomputable def regs13 (n:Nat):Nat->List (FR R):=addF 42 ⟨XA_p,XA_r,XA n,dflL R XA_r,false⟩ (regs12 n)
theorem regs13_ok (n:Nat):RegsOK E (regs13 n):=addF_ok (regs12_ok n) (XA_ok n)
def ZI_a:Ann:=⟨[(2,⟨[0,1,7],[],⟨[(8,.d (.int .i64))],[]⟩,[(.exit 0,⟨[],[]⟩),(.ret,⟨[(4,.d (.int .i64))],[]⟩)]⟩)],[]⟩
abbrev ZI_p:List Sk:=[.d (.slice (.int .i64)),.d (.int .i64)]
abbrev ZI_r:List Sk:=[.d (.int .i64)]
@[irreducible] noncomputable def ZI (n:Nat) (p:PayL R.T ZI_p):Option (PayL R.T ZI_r):=funM E R n false (regs13 n) iters ZI_a Tryz.f72 ZI_p ZI_r p
theorem ZI_ok (n:Nat):gL 72 ZI_p ZI_r (ZI n):=fun _ _ h=>by unfold ZI at h;exact okF (regs13_ok n) h Tryz.func72 (by kernel_rfl)
noncomputable def regs14 (n:Nat):Nat->List (FR R):=addF 72 ⟨ZI_p,ZI_r,ZI n,dflL R ZI_r,false⟩ (regs13 n)
theorem regs14_ok (n:Nat):RegsOK E (regs14 n):=addF_ok (regs13_ok n) (ZI_ok n)
def XB_a:Ann:=⟨[],[]⟩
abbrev XB_p:List Sk:=[.d (.slice (.int .i64)),.d (.int .i64)]
abbrev XB_r:List Sk:=[.d .bool]
@[irreducible] noncomputable def XB (n:Nat) (p:PayL R.T XB_p):Option (PayL R.T XB_r):=funM E R n false (regs14 n) iters XB_a Tryz.f50 XB_p XB_r p
theorem XB_ok (n:Nat):gL 50 XB_p XB_r (XB n):=fun _ _ h=>by unfold XB at h;exact okF (regs14_ok n) h Tryz.func50 (by kernel_rfl)
noncomputable def regs15 (n:Nat):Nat->List (FR R):=addF 50 ⟨XB_p,XB_r,XB n,dflL R XB_r,false⟩ (regs14 n)
theorem regs15_ok (n:Nat):RegsOK E (regs15 n):=addF_ok (regs14_ok n) (XB_ok n)
def Ze_a:Ann:=⟨[(4,⟨[0,23,24],[],⟨[(25,.d (.int .i64))],[]⟩,[(.exit 0,⟨[],[]⟩),(.ret,⟨[(4,.d .bool)],[]⟩)]⟩),
 (9,⟨[0,6,23,24,25,46,47],[6],⟨[(48,.d (.int .i64))],[]⟩,[(.exit 2,⟨[],[]⟩),(.ret,⟨[(4,.d .bool)],[]⟩)]⟩)],[]⟩
abbrev Ze_p:List Sk:=[.d (.int .i64),.d (.st 1)]
abbrev Ze_r:List Sk:=[.d .bool]
@[irreducible] noncomputable def Ze (n:Nat) (p:PayL R.T Ze_p):Option (PayL R.T Ze_r):=funM E R n false (regs15 n) iters Ze_a Tryz.f24 Ze_p Ze_r p
theorem Ze_ok (n:Nat):gL 24 Ze_p Ze_r (Ze n):=fun _ _ h=>by unfold Ze at h;exact okF (regs15_ok n) h Tryz.func24 (by kernel_rfl)
noncomputable def regs16 (n:Nat):Nat->List (FR R):=addF 24 ⟨Ze_p,Ze_r,Ze n,dflL R Ze_r,false⟩ (regs15 n)
theorem regs16_ok (n:Nat):RegsOK E (regs16 n):=addF_ok (regs15_ok n) (Ze_ok n)
def ZO_a:Ann:=⟨[],[]⟩
abbrev ZO_p:List Sk:=[.d (.slice (.int .i64))]
abbrev ZO_o:List (Nat×ObSk):=[]
abbrev slices_Clone_int_int_w:List (Nat×ObSk):=[]
abbrev slices_Clone_int_int_k:NK:=.arr (.int .i64)
@[irreducible] noncomputable def ZO (n:Nat) (p:PayL R.T ZO_p) (q:PayOs R.T ZO_o):Option (PayN R.T slices_Clone_int_int_k×PayOs R.T slices_Clone_int_int_w):=funN E R n true (regs16 n) iters ZO_a Tryz.f35 ZO_p ZO_o slices_Clone_int_int_k slices_Clone_int_int_w p q
theorem ZO_ok (n:Nat):FNOK1 E 35 ZO_p ZO_o slices_Clone_int_int_k slices_Clone_int_int_w (ZO n):=by
 intro p q y q' h
 have h:ZO n p q=some (y,q'):=h
 unfold ZO at h
 exact funN_ok' rOK (regs16_ok n) iters_ok h Tryz.func35 rfl (by kernel_rfl)
noncomputable def its1 (n:Nat):IR R:=addM 35 (mkN ZO_p ZO_o slices_Clone_int_int_k slices_Clone_int_int_w (ZO n)) iters
theorem its1_ok (n:Nat):ItersOK E (its1 n):=addM_ok (m:=mkN ZO_p ZO_o slices_Clone_int_int_k slices_Clone_int_int_w (ZO n)) iters_ok (FMOK.N (ZO_ok n))
def Zy_a:Ann:=⟨[(3,⟨[1,5,10],[],⟨[(11,.d (.int .i64))],[(8,.arr (.int .i64))]⟩,[(.exit 0,⟨[],[(8,.arr (.int .i64))]⟩)]⟩)],[]⟩
abbrev Zy_p:List Sk:=[.d (.slice (.int .i64)),.d (.slice (.int .i64))]
abbrev Zy_r:List Sk:=[.d (.slice (.int .i64))]
@[irreducible] noncomputable def Zy (n:Nat) (p:PayL R.T Zy_p):Option (PayL R.T Zy_r):=funM E R n false (regs16 n) (its1 n) Zy_a Tryz.f54 Zy_p Zy_r p
theorem Zy_ok (n:Nat) (p:PayL R.T Zy_p) (x:PayL R.T Zy_r) (h:Zy n p=some x):Pure E 54 (encSL R Zy_p p) (retV (encSL R Zy_r x)):=by
 unfold Zy at h
 exact funM_ok rOK (regs16_ok n) (its1_ok n) h Tryz.func54 rfl rfl rfl rfl (by kernel_rfl)
noncomputable def regs17 (n:Nat):Nat->List (FR R):=addF 54 ⟨Zy_p,Zy_r,Zy n,dflL R Zy_r,false⟩ (regs16 n)
theorem regs17_ok (n:Nat):RegsOK E (regs17 n):=addF_ok (regs16_ok n) (Zy_ok n)
def Xu_a:Ann:=⟨[],[]⟩
abbrev Xu_p:List Sk:=[.d (.int .i64),.d (.int .i64)]
abbrev Xu_r:List Sk:=[.d (.int .i64)]
@[irreducible] noncomputable def Xu (n:Nat) (p:PayL R.T Xu_p):Option (PayL R.T Xu_r):=funM E R n false (regs17 n) (its1 n) Xu_a Tryz.f73 Xu_p Xu_r p
theorem Xu_ok (n:Nat) (p:PayL R.T Xu_p) (x:PayL R.T Xu_r) (h:Xu n p=some x):Pure E 73 (encSL R Xu_p p) (retV (encSL R Xu_r x)):=by
 unfold Xu at h
 exact funM_ok rOK (regs17_ok n) (its1_ok n) h Tryz.func73 rfl rfl rfl rfl (by kernel_rfl)
noncomputable def regs18 (n:Nat):Nat->List (FR R):=addF 73 ⟨Xu_p,Xu_r,Xu n,dflL R Xu_r,false⟩ (regs17 n)
theorem regs18_ok (n:Nat):RegsOK E (regs18 n):=addF_ok (regs17_ok n) (Xu_ok n)
def ZC_a:Ann:=⟨[(2,⟨[2,9,10],[],⟨[(1,.d (.int .i64)),(11,.d (.int .i64))],[]⟩,[(.exit 0,⟨[(1,.d (.int .i64))],[]⟩)]⟩)],[]⟩
abbrev ZC_p:List Sk:=[.d (.slice (.int .i64)),.d (.int .i64),.fn 73 [] []]
abbrev ZC_r:List Sk:=[.d (.int .i64)]
@[irreducible] noncomputable def ZC (n:Nat) (p:PayL R.T ZC_p):Option (PayL R.T ZC_r):=funM E R n false (regs18 n) (its1 n) ZC_a Tryz.f76 ZC_p ZC_r p
theorem ZC_ok (n:Nat) (p:PayL R.T ZC_p) (x:PayL R.T ZC_r) (h:ZC n p=some x):Pure E 76 (encSL R ZC_p p) (retV (encSL R ZC_r x)):=by
 unfold ZC at h
 exact funM_ok rOK (regs18_ok n) (its1_ok n) h Tryz.func76 rfl rfl rfl rfl (by kernel_rfl)
noncomputable def regs19 (n:Nat):Nat->List (FR R):=addF 76 ⟨ZC_p,ZC_r,ZC n,dflL R ZC_r,false⟩ (regs18 n)
theorem regs19_ok (n:Nat):RegsOK E (regs19 n):=addF_ok (regs18_ok n) (ZC_ok n)
def Xv_a:Ann:=⟨[],[]⟩
abbrev Xv_p:List Sk:=[.d (.int .i64),.d (.int .i64)]
abbrev Xv_r:List Sk:=[.d (.int .i64)]
@[irreducible] noncomputable def Xv (n:Nat) (p:PayL R.T Xv_p):Option (PayL R.T Xv_r):=funM E R n false (regs19 n) (its1 n) Xv_a Tryz.f74 Xv_p Xv_r p
theorem Xv_ok (n:Nat) (p:PayL R.T Xv_p) (x:PayL R.T Xv_r) (h:Xv n p=some x):Pure E 74 (encSL R Xv_p p) (retV (encSL R Xv_r x)):=by
 unfold Xv at h
 exact funM_ok rOK (regs19_ok n) (its1_ok n) h Tryz.func74 rfl rfl rfl rfl (by kernel_rfl)
noncomputable def regs20 (n:Nat):Nat->List (FR R):=addF 74 ⟨Xv_p,Xv_r,Xv n,dflL R Xv_r,false⟩ (regs19 n)
theorem regs20_ok (n:Nat):RegsOK E (regs20 n):=addF_ok (regs19_ok n) (Xv_ok n)
def ZD_a:Ann:=⟨[(2,⟨[2,9,10],[],⟨[(1,.d (.int .i64)),(11,.d (.int .i64))],[]⟩,[(.exit 0,⟨[(1,.d (.int .i64))],[]⟩)]⟩)],[]⟩
abbrev ZD_p:List Sk:=[.d (.slice (.int .i64)),.d (.int .i64),.fn 74 [] []]
abbrev ZD_r:List Sk:=[.d (.int .i64)]
@[irreducible] noncomputable def ZD (n:Nat) (p:PayL R.T ZD_p):Option (PayL R.T ZD_r):=funM E R n false (regs20 n) (its1 n) ZD_a Tryz.f76 ZD_p ZD_r p
theorem ZD_ok (n:Nat) (p:PayL R.T ZD_p) (x:PayL R.T ZD_r) (h:ZD n p=some x):Pure E 76 (encSL R ZD_p p) (retV (encSL R ZD_r x)):=by
 unfold ZD at h
 exact funM_ok rOK (regs20_ok n) (its1_ok n) h Tryz.func76 rfl rfl rfl rfl (by kernel_rfl)
noncomputable def regs21 (n:Nat):Nat->List (FR R):=addF 76 ⟨ZD_p,ZD_r,ZD n,dflL R ZD_r,false⟩ (regs20 n)
theorem regs21_ok (n:Nat):RegsOK E (regs21 n):=addF_ok (regs20_ok n) (ZD_ok n)
def Xw_a:Ann:=⟨[],[]⟩
abbrev Xw_p:List Sk:=[.d (.int .i64),.d (.int .i64)]
abbrev Xw_r:List Sk:=[.d (.int .i64)]
@[irreducible] noncomputable def Xw (n:Nat) (p:PayL R.T Xw_p):Option (PayL R.T Xw_r):=funM E R n false (regs21 n) (its1 n) Xw_a Tryz.f75 Xw_p Xw_r p
theorem Xw_ok (n:Nat) (p:PayL R.T Xw_p) (x:PayL R.T Xw_r) (h:Xw n p=some x):Pure E 75 (encSL R Xw_p p) (retV (encSL R Xw_r x)):=by
 unfold Xw at h
 exact funM_ok rOK (regs21_ok n) (its1_ok n) h Tryz.func75 rfl rfl rfl rfl (by kernel_rfl)
noncomputable def regs22 (n:Nat):Nat->List (FR R):=addF 75 ⟨Xw_p,Xw_r,Xw n,dflL R Xw_r,false⟩ (regs21 n)
theorem regs22_ok (n:Nat):RegsOK E (regs22 n):=addF_ok (regs21_ok n) (Xw_ok n)
def ZE_a:Ann:=⟨[(2,⟨[2,9,10],[],⟨[(1,.d (.int .i64)),(11,.d (.int .i64))],[]⟩,[(.exit 0,⟨[(1,.d (.int .i64))],[]⟩)]⟩)],[]⟩
abbrev ZE_p:List Sk:=[.d (.slice (.int .i64)),.d (.int .i64),.fn 75 [] []]
abbrev ZE_r:List Sk:=[.d (.int .i64)]
@[irreducible] noncomputable def ZE (n:Nat) (p:PayL R.T ZE_p):Option (PayL R.T ZE_r):=funM E R n false (regs22 n) (its1 n) ZE_a Tryz.f76 ZE_p ZE_r p
theorem ZE_ok (n:Nat) (p:PayL R.T ZE_p) (x:PayL R.T ZE_r) (h:ZE n p=some x):Pure E 76 (encSL R ZE_p p) (retV (encSL R ZE_r x)):=by
 unfold ZE at h
 exact funM_ok rOK (regs22_ok n) (its1_ok n) h Tryz.func76 rfl rfl rfl rfl (by kernel_rfl)
noncomputable def regs23 (n:Nat):Nat->List (FR R):=addF 76 ⟨ZE_p,ZE_r,ZE n,dflL R ZE_r,false⟩ (regs22 n)
theorem regs23_ok (n:Nat):RegsOK E (regs23 n):=addF_ok (regs22_ok n) (ZE_ok n)
def Xk_a:Ann:=⟨[],[]⟩
abbrev Xk_p:List Sk:=[.d (.int .i64),.d (.slice (.int .i64))]
abbrev Xk_r:List Sk:=[.d (.int .i64)]
@[irreducible] noncomputable def Xk (n:Nat) (p:PayL R.T Xk_p):Option (PayL R.T Xk_r):=funM E R n false (regs23 n) (its1 n) Xk_a Tryz.f53 Xk_p Xk_r p
theorem Xk_ok (n:Nat) (p:PayL R.T Xk_p) (x:PayL R.T Xk_r) (h:Xk n p=some x):Pure E 53 (encSL R Xk_p p) (retV (encSL R Xk_r x)):=by
 unfold Xk at h
 exact funM_ok rOK (regs23_ok n) (its1_ok n) h Tryz.func53 rfl rfl rfl rfl (by kernel_rfl)
noncomputable def regs24 (n:Nat):Nat->List (FR R):=addF 53 ⟨Xk_p,Xk_r,Xk n,dflL R Xk_r,false⟩ (regs23 n)
theorem regs24_ok (n:Nat):RegsOK E (regs24 n):=addF_ok (regs23_ok n) (Xk_ok n)
def Xl_a:Ann:=⟨[],[]⟩
abbrev Xl_p:List Sk:=[.d (.int .i64),.d (.slice (.int .i64)),.d (.slice (.int .i64))]
abbrev Xl_r:List Sk:=[.d (.int .i64)]
@[irreducible] noncomputable def Xl (n:Nat) (p:PayL R.T Xl_p):Option (PayL R.T Xl_r):=funM E R n false (regs24 n) (its1 n) Xl_a Tryz.f28 Xl_p Xl_r p
theorem Xl_ok (n:Nat) (p:PayL R.T Xl_p) (x:PayL R.T Xl_r) (h:Xl n p=some x):Pure E 28 (encSL R Xl_p p) (retV (encSL R Xl_r x)):=by
 unfold Xl at h
 exact funM_ok rOK (regs24_ok n) (its1_ok n) h Tryz.func28 rfl rfl rfl rfl (by kernel_rfl)
noncomputable def regs25 (n:Nat):Nat->List (FR R):=addF 28 ⟨Xl_p,Xl_r,Xl n,dflL R Xl_r,false⟩ (regs24 n)
theorem regs25_ok (n:Nat):RegsOK E (regs25 n):=addF_ok (regs24_ok n) (Xl_ok n)
def Zm_a:Ann:=⟨[(3,⟨[1,2,9,10],[2],⟨[(5,.l (.own 22) (.int .i64)),(11,.d (.int .i64))],[]⟩,[(.exit 0,⟨[(5,.l (.own 22) (.int .i64))],[]⟩)]⟩)],[]⟩
abbrev Zm_p:List Sk:=[.d (.st 5),.d (.slice (.int .i64))]
abbrev Zm_r:List Sk:=[.d (.slice (.int .i64))]
@[irreducible] noncomputable def Zm (n:Nat) (p:PayL R.T Zm_p):Option (PayL R.T Zm_r):=funM E R n false (regs25 n) (its1 n) Zm_a Tryz.f43 Zm_p Zm_r p
theorem Zm_ok (n:Nat) (p:PayL R.T Zm_p) (x:PayL R.T Zm_r) (h:Zm n p=some x):Pure E 43 (encSL R Zm_p p) (retV (encSL R Zm_r x)):=by
 unfold Zm at h
 exact funM_ok rOK (regs25_ok n) (its1_ok n) h Tryz.func43 rfl rfl rfl rfl (by kernel_rfl)
noncomputable def regs26 (n:Nat):Nat->List (FR R):=addF 43 ⟨Zm_p,Zm_r,Zm n,dflL R Zm_r,false⟩ (regs25 n)
theorem regs26_ok (n:Nat):RegsOK E (regs26 n):=addF_ok (regs25_ok n) (Zm_ok n)
def ZY_a:Ann:=⟨[],[]⟩
abbrev ZY_p:List Sk:=[.d (.int .i64),.d (.slice (.slice (.int .i64))),.d (.st 1),.d (.slice (.int .i64)),.d (.int .i64)]
abbrev ZY_r:List Sk:=[.d (.st 6),.d .bool]
@[irreducible] noncomputable def ZY (n:Nat) (p:PayL R.T ZY_p):Option (PayL R.T ZY_r):=funM E R n false (regs26 n) (its1 n) ZY_a Tryz.f30 ZY_p ZY_r p
theorem ZY_ok (n:Nat) (p:PayL R.T ZY_p) (x:PayL R.T ZY_r) (h:ZY n p=some x):Pure E 30 (encSL R ZY_p p) (retV (encSL R ZY_r x)):=by
 unfold ZY at h
 exact funM_ok rOK (regs26_ok n) (its1_ok n) h Tryz.func30 rfl rfl rfl rfl (by kernel_rfl)
noncomputable def regs27 (n:Nat):Nat->List (FR R):=addF 30 ⟨ZY_p,ZY_r,ZY n,dflL R ZY_r,false⟩ (regs26 n)
theorem regs27_ok (n:Nat):RegsOK E (regs27 n):=addF_ok (regs26_ok n) (ZY_ok n)
def ZQ_a:Ann:=⟨[],[]⟩
abbrev ZQ_p:List Sk:=[.d (.st 6),.d (.int .i64)]
abbrev ZQ_o:List (Nat×ObSk):=[]
abbrev graph_search_walk_w:List (Nat×ObSk):=[]
abbrev graph_search_walk_k:NK:=.fnc 57 [] [.cref [.d (.int .i64),.d (.slice (.slice (.int .i64))),.d (.slice (.st 0)),.d (.slice (.int .i64))] 0] [.d (.int .i64)]
@[irreducible] noncomputable def ZQ (n:Nat) (p:PayL R.T ZQ_p) (q:PayOs R.T ZQ_o):Option (PayN R.T graph_search_walk_k×PayOs R.T graph_search_walk_w):=funN E R n false (regs27 n) (its1 n) ZQ_a Tryz.f32 ZQ_p ZQ_o graph_search_walk_k graph_search_walk_w p q
theorem ZQ_ok (n:Nat):FNOK1 E 32 ZQ_p ZQ_o graph_search_walk_k graph_search_walk_w (ZQ n):=by
 intro p q y q' h
 have h:ZQ n p q=some (y,q'):=h
 unfold ZQ at h
 exact funN_ok' rOK (regs27_ok n) (its1_ok n) h Tryz.func32 rfl (by kernel_rfl)
noncomputable def its2 (n:Nat):IR R:=addM 32 (mkN ZQ_p ZQ_o graph_search_walk_k graph_search_walk_w (ZQ n)) (its1 n)
theorem its2_ok (n:Nat):ItersOK E (its2 n):=addM_ok (m:=mkN ZQ_p ZQ_o graph_search_walk_k graph_search_walk_w (ZQ n)) (its1_ok n) (FMOK.N (ZQ_ok n))
def Zn_a:Ann:=⟨[(3,⟨[2],[],⟨[],[(2,.cells [.vw 11 (.int .i64)]),(11,.arr (.int .i64))]⟩,[(.normal,⟨[],[(2,.cells [.vw 11 (.int .i64)]),(11,.arr (.int .i64))]⟩)]⟩)],[]⟩
abbrev Zn_p:List Sk:=[.nils,.fn 57 [] [.ref 1000000 0,.cref [.d (.int .i64),.d (.slice (.slice (.int .i64))),.d (.slice (.st 0)),.d (.slice (.int .i64))] 0]]
abbrev Zn_o:List (Nat×ObSk):=[(1000000,.cells [.d (.int .i64)])]
abbrev slices_AppendSeq_int_int_w:List (Nat×ObSk):=[]
abbrev slices_AppendSeq_int_int_k:NK:=.arr (.int .i64)
@[irreducible] noncomputable def Zn (n:Nat) (p:PayL R.T Zn_p) (q:PayOs R.T Zn_o):Option (PayN R.T slices_AppendSeq_int_int_k×PayOs R.T slices_AppendSeq_int_int_w):=funN E R n true (regs27 n) (its2 n) Zn_a Tryz.f56 Zn_p Zn_o slices_AppendSeq_int_int_k slices_AppendSeq_int_int_w p q
theorem Zn_ok (n:Nat):FNOK1 E 56 Zn_p Zn_o slices_AppendSeq_int_int_k slices_AppendSeq_int_int_w (Zn n):=by
 intro p q y q' h
 have h:Zn n p q=some (y,q'):=h
 unfold Zn at h
 exact funN_ok' rOK (regs27_ok n) (its2_ok n) h Tryz.func56 rfl (by kernel_rfl)
noncomputable def its3 (n:Nat):IR R:=addM 56 (mkN Zn_p Zn_o slices_AppendSeq_int_int_k slices_AppendSeq_int_int_w (Zn n)) (its2 n)
theorem its3_ok (n:Nat):ItersOK E (its3 n):=addM_ok (m:=mkN Zn_p Zn_o slices_AppendSeq_int_int_k slices_AppendSeq_int_int_w (Zn n)) (its2_ok n) (FMOK.N (Zn_ok n))
def Xb_a:Ann:=⟨[],[]⟩
abbrev Xb_p:List Sk:=[.fn 57 [] [.ref 1000000 0,.cref [.d (.int .i64),.d (.slice (.slice (.int .i64))),.d (.slice (.st 0)),.d (.slice (.int .i64))] 0]]
abbrev Xb_o:List (Nat×ObSk):=[(1000000,.cells [.d (.int .i64)])]
abbrev slices_Collect_int_w:List (Nat×ObSk):=[]
abbrev slices_Collect_int_k:NK:=.arr (.int .i64)
@[irreducible] noncomputable def Xb (n:Nat) (p:PayL R.T Xb_p) (q:PayOs R.T Xb_o):Option (PayN R.T slices_Collect_int_k×PayOs R.T slices_Collect_int_w):=funN E R n false (regs27 n) (its3 n) Xb_a Tryz.f31 Xb_p Xb_o slices_Collect_int_k slices_Collect_int_w p q
theorem Xb_ok (n:Nat):FNOK1 E 31 Xb_p Xb_o slices_Collect_int_k slices_Collect_int_w (Xb n):=by
 intro p q y q' h
 have h:Xb n p q=some (y,q'):=h
 unfold Xb at h
 exact funN_ok' rOK (regs27_ok n) (its3_ok n) h Tryz.func31 rfl (by kernel_rfl)
noncomputable def its4 (n:Nat):IR R:=addM 31 (mkN Xb_p Xb_o slices_Collect_int_k slices_Collect_int_w (Xb n)) (its3 n)
theorem its4_ok (n:Nat):ItersOK E (its4 n):=addM_ok (m:=mkN Xb_p Xb_o slices_Collect_int_k slices_Collect_int_w (Xb n)) (its3_ok n) (FMOK.N (Xb_ok n))
def ZW_a:Ann:=⟨[],[]⟩
abbrev ZW_p:List Sk:=[.d (.int .i64),.d (.slice (.slice (.int .i64))),.d (.st 1),.d (.slice (.int .i64)),.d (.int .i64)]
abbrev ZW_r:List Sk:=[.d (.slice (.int .i64)),.d (.int .i64)]
@[irreducible] noncomputable def ZW (n:Nat) (p:PayL R.T ZW_p):Option (PayL R.T ZW_r):=funM E R n false (regs27 n) (its4 n) ZW_a Tryz.f9 ZW_p ZW_r p
theorem ZW_ok (n:Nat) (p:PayL R.T ZW_p) (x:PayL R.T ZW_r) (h:ZW n p=some x):Pure E 9 (encSL R ZW_p p) (retV (encSL R ZW_r x)):=by
 unfold ZW at h
 exact funM_ok rOK (regs27_ok n) (its4_ok n) h Tryz.func9 rfl rfl rfl rfl (by kernel_rfl)
noncomputable def regs28 (n:Nat):Nat->List (FR R):=addF 9 ⟨ZW_p,ZW_r,ZW n,dflL R ZW_r,false⟩ (regs27 n)
theorem regs28_ok (n:Nat):RegsOK E (regs28 n):=addF_ok (regs27_ok n) (ZW_ok n)
def XF_a:Ann:=⟨[],[]⟩
abbrev XF_p:List Sk:=[.d (.int .u32)]
abbrev XF_r:List Sk:=[.d (.int .i64)]
@[irreducible] noncomputable def XF (n:Nat) (p:PayL R.T XF_p):Option (PayL R.T XF_r):=funM E R n false (regs28 n) (its4 n) XF_a Tryz.f97 XF_p XF_r p
theorem XF_ok (n:Nat) (p:PayL R.T XF_p) (x:PayL R.T XF_r) (h:XF n p=some x):Pure E 97 (encSL R XF_p p) (retV (encSL R XF_r x)):=by
 unfold XF at h
 exact funM_ok rOK (regs28_ok n) (its4_ok n) h Tryz.func97 rfl rfl rfl rfl (by kernel_rfl)
noncomputable def regs29 (n:Nat):Nat->List (FR R):=addF 97 ⟨XF_p,XF_r,XF n,dflL R XF_r,false⟩ (regs28 n)
theorem regs29_ok (n:Nat):RegsOK E (regs29 n):=addF_ok (regs28_ok n) (XF_ok n)
def ZN_a:Ann:=⟨[],[]⟩
abbrev ZN_p:List Sk:=[.d (.int .u64)]
abbrev ZN_r:List Sk:=[.d (.int .i64)]
@[irreducible] noncomputable def ZN (n:Nat) (p:PayL R.T ZN_p):Option (PayL R.T ZN_r):=funM E R n false (regs29 n) (its4 n) ZN_a Tryz.f98 ZN_p ZN_r p
theorem ZN_ok (n:Nat) (p:PayL R.T ZN_p) (x:PayL R.T ZN_r) (h:ZN n p=some x):Pure E 98 (encSL R ZN_p p) (retV (encSL R ZN_r x)):=by
 unfold ZN at h
 exact funM_ok rOK (regs29_ok n) (its4_ok n) h Tryz.func98 rfl rfl rfl rfl (by kernel_rfl)
noncomputable def regs30 (n:Nat):Nat->List (FR R):=addF 98 ⟨ZN_p,ZN_r,ZN n,dflL R ZN_r,false⟩ (regs29 n)
theorem regs30_ok (n:Nat):RegsOK E (regs30 n):=addF_ok (regs29_ok n) (ZN_ok n)
def ZP_a:Ann:=⟨[],[]⟩
abbrev ZP_p:List Sk:=[.d (.int .u64)]
abbrev ZP_r:List Sk:=[.d (.int .i64)]
@[irreducible] noncomputable def ZP (n:Nat) (p:PayL R.T ZP_p):Option (PayL R.T ZP_r):=funM E R n false (regs30 n) (its4 n) ZP_a Tryz.f79 ZP_p ZP_r p
theorem ZP_ok (n:Nat) (p:PayL R.T ZP_p) (x:PayL R.T ZP_r) (h:ZP n p=some x):Pure E 79 (encSL R ZP_p p) (retV (encSL R ZP_r x)):=by
 unfold ZP at h
 exact funM_ok rOK (regs30_ok n) (its4_ok n) h Tryz.func79 rfl rfl rfl rfl (by kernel_rfl)
noncomputable def regs31 (n:Nat):Nat->List (FR R):=addF 79 ⟨ZP_p,ZP_r,ZP n,dflL R ZP_r,false⟩ (regs30 n)
theorem regs31_ok (n:Nat):RegsOK E (regs31 n):=addF_ok (regs30_ok n) (ZP_ok n)
def Zz_a:Ann:=⟨[(5,⟨[0],[],⟨[(3,.d (.int .i64))],[]⟩,[(.ret,⟨[(2,.d (.int .i64))],[]⟩)]⟩)],[]⟩
abbrev Zz_p:List Sk:=[.d (.int .i64)]
abbrev Zz_r:List Sk:=[.d (.int .i64)]
@[irreducible] noncomputable def Zz (n:Nat) (p:PayL R.T Zz_p):Option (PayL R.T Zz_r):=funM E R n false (regs31 n) (its4 n) Zz_a Tryz.f101 Zz_p Zz_r p
theorem Zz_ok (n:Nat) (p:PayL R.T Zz_p) (x:PayL R.T Zz_r) (h:Zz n p=some x):Pure E 101 (encSL R Zz_p p) (retV (encSL R Zz_r x)):=by
 unfold Zz at h
 exact funM_ok rOK (regs31_ok n) (its4_ok n) h Tryz.func101 rfl rfl rfl rfl (by kernel_rfl)
noncomputable def regs32 (n:Nat):Nat->List (FR R):=addF 101 ⟨Zz_p,Zz_r,Zz n,dflL R Zz_r,false⟩ (regs31 n)
theorem regs32_ok (n:Nat):RegsOK E (regs32 n):=addF_ok (regs31_ok n) (Zz_ok n)
def ZZ_a:Ann:=⟨[],[]⟩
abbrev ZZ_p:List Sk:=[.d (.int .i64),.d (.int .i64),.cref [.d (.int .i64)] 0]
abbrev ZZ_r:List Sk:=[.d (.int .i64)]
@[irreducible] noncomputable def ZZ (n:Nat) (p:PayL R.T ZZ_p):Option (PayL R.T ZZ_r):=funM E R n false (regs32 n) (its4 n) ZZ_a Tryz.f100 ZZ_p ZZ_r p
theorem ZZ_ok (n:Nat) (p:PayL R.T ZZ_p) (x:PayL R.T ZZ_r) (h:ZZ n p=some x):Pure E 100 (encSL R ZZ_p p) (retV (encSL R ZZ_r x)):=by
 unfold ZZ at h
 exact funM_ok rOK (regs32_ok n) (its4_ok n) h Tryz.func100 rfl rfl rfl rfl (by kernel_rfl)
noncomputable def regs33 (n:Nat):Nat->List (FR R):=addF 100 ⟨ZZ_p,ZZ_r,ZZ n,dflL R ZZ_r,false⟩ (regs32 n)
theorem regs33_ok (n:Nat):RegsOK E (regs33 n):=addF_ok (regs32_ok n) (ZZ_ok n)
def Xa_a:Ann:=⟨[],[]⟩
abbrev Xa_p:List Sk:=[.d (.int .i64),.d (.int .i64)]
abbrev Xa_r:List Sk:=[.d (.int .i64)]
@[irreducible] noncomputable def Xa (n:Nat) (p:PayL R.T Xa_p):Option (PayL R.T Xa_r):=funM E R n false (regs33 n) (its4 n) Xa_a Tryz.f103 Xa_p Xa_r p
theorem Xa_ok (n:Nat) (p:PayL R.T Xa_p) (x:PayL R.T Xa_r) (h:Xa n p=some x):Pure E 103 (encSL R Xa_p p) (retV (encSL R Xa_r x)):=by
 unfold Xa at h
 exact funM_ok rOK (regs33_ok n) (its4_ok n) h Tryz.func103 rfl rfl rfl rfl (by kernel_rfl)
noncomputable def regs34 (n:Nat):Nat->List (FR R):=addF 103 ⟨Xa_p,Xa_r,Xa n,dflL R Xa_r,false⟩ (regs33 n)
theorem regs34_ok (n:Nat):RegsOK E (regs34 n):=addF_ok (regs33_ok n) (Xa_ok n)
def Xc_a:Ann:=⟨[],[]⟩
abbrev Xc_p:List Sk:=[.d (.int .i64)]
abbrev Xc_r:List Sk:=[.d .bool]
@[irreducible] noncomputable def Xc (n:Nat) (p:PayL R.T Xc_p):Option (PayL R.T Xc_r):=funM E R n false (regs34 n) (its4 n) Xc_a Tryz.f80 Xc_p Xc_r p
theorem Xc_ok (n:Nat) (p:PayL R.T Xc_p) (x:PayL R.T Xc_r) (h:Xc n p=some x):Pure E 80 (encSL R Xc_p p) (retV (encSL R Xc_r x)):=by
 unfold Xc at h
 exact funM_ok rOK (regs34_ok n) (its4_ok n) h Tryz.func80 rfl rfl rfl rfl (by kernel_rfl)
noncomputable def regs35 (n:Nat):Nat->List (FR R):=addF 80 ⟨Xc_p,Xc_r,Xc n,dflL R Xc_r,false⟩ (regs34 n)
theorem regs35_ok (n:Nat):RegsOK E (regs35 n):=addF_ok (regs34_ok n) (Xc_ok n)
def Xd_a:Ann:=⟨[],[]⟩
abbrev Xd_p:List Sk:=[.d (.int .i64),.d (.int .i64)]
abbrev Xd_r:List Sk:=[.d (.int .i64)]
@[irreducible] noncomputable def Xd (n:Nat) (p:PayL R.T Xd_p):Option (PayL R.T Xd_r):=funM E R n false (regs35 n) (its4 n) Xd_a Tryz.f62 Xd_p Xd_r p
theorem Xd_ok (n:Nat) (p:PayL R.T Xd_p) (x:PayL R.T Xd_r) (h:Xd n p=some x):Pure E 62 (encSL R Xd_p p) (retV (encSL R Xd_r x)):=by
 unfold Xd at h
 exact funM_ok rOK (regs35_ok n) (its4_ok n) h Tryz.func62 rfl rfl rfl rfl (by kernel_rfl)
noncomputable def regs36 (n:Nat):Nat->List (FR R):=addF 62 ⟨Xd_p,Xd_r,Xd n,dflL R Xd_r,false⟩ (regs35 n)
theorem regs36_ok (n:Nat):RegsOK E (regs36 n):=addF_ok (regs35_ok n) (Xd_ok n)
def Zs_a:Ann:=⟨[(3,⟨[3,6,7],[],⟨[(8,.d (.int .i64))],[]⟩,[(.exit 0,⟨[],[]⟩),(.ret,⟨[(2,.d (.int .i64))],[]⟩)]⟩)],[]⟩
abbrev Zs_p:List Sk:=[.d (.slice (.int .i64))]
abbrev Zs_r:List Sk:=[.d (.int .i64)]
@[irreducible] noncomputable def Zs (n:Nat) (p:PayL R.T Zs_p):Option (PayL R.T Zs_r):=funM E R n false (regs36 n) (its4 n) Zs_a Tryz.f61 Zs_p Zs_r p
theorem Zs_ok (n:Nat) (p:PayL R.T Zs_p) (x:PayL R.T Zs_r) (h:Zs n p=some x):Pure E 61 (encSL R Zs_p p) (retV (encSL R Zs_r x)):=by
 unfold Zs at h
 exact funM_ok rOK (regs36_ok n) (its4_ok n) h Tryz.func61 rfl rfl rfl rfl (by kernel_rfl)
noncomputable def regs37 (n:Nat):Nat->List (FR R):=addF 61 ⟨Zs_p,Zs_r,Zs n,dflL R Zs_r,false⟩ (regs36 n)
theorem regs37_ok (n:Nat):RegsOK E (regs37 n):=addF_ok (regs36_ok n) (Zs_ok n)
def Xe_a:Ann:=⟨[],[]⟩
abbrev Xe_p:List Sk:=[.d (.st 6),.d (.int .i64),.d (.int .i64)]
abbrev Xe_r:List Sk:=[.d (.int .i64)]
@[irreducible] noncomputable def Xe (n:Nat) (p:PayL R.T Xe_p):Option (PayL R.T Xe_r):=funM E R n false (regs37 n) (its4 n) Xe_a Tryz.f37 Xe_p Xe_r p
theorem Xe_ok (n:Nat) (p:PayL R.T Xe_p) (x:PayL R.T Xe_r) (h:Xe n p=some x):Pure E 37 (encSL R Xe_p p) (retV (encSL R Xe_r x)):=by
 unfold Xe at h
 exact funM_ok rOK (regs37_ok n) (its4_ok n) h Tryz.func37 rfl rfl rfl rfl (by kernel_rfl)
noncomputable def regs38 (n:Nat):Nat->List (FR R):=addF 37 ⟨Xe_p,Xe_r,Xe n,dflL R Xe_r,false⟩ (regs37 n)
theorem regs38_ok (n:Nat):RegsOK E (regs38 n):=addF_ok (regs37_ok n) (Xe_ok n)
def Zi_a:Ann:=⟨[(5,⟨[0,1],[],⟨[(5,.d (.int .i64)),(6,.d (.int .i64))],[]⟩,[(.exit 0,⟨[(5,.d (.int .i64))],[]⟩)]⟩)],[]⟩
abbrev Zi_p:List Sk:=[.d (.slice (.int .i64)),.fn 37 [.d (.st 6)] []]
abbrev Zi_r:List Sk:=[.d (.int .i64)]
@[irreducible] noncomputable def Zi (n:Nat) (p:PayL R.T Zi_p):Option (PayL R.T Zi_r):=funM E R n false (regs38 n) (its4 n) Zi_a Tryz.f58 Zi_p Zi_r p
theorem Zi_ok (n:Nat) (p:PayL R.T Zi_p) (x:PayL R.T Zi_r) (h:Zi n p=some x):Pure E 58 (encSL R Zi_p p) (retV (encSL R Zi_r x)):=by
 unfold Zi at h
 exact funM_ok rOK (regs38_ok n) (its4_ok n) h Tryz.func58 rfl rfl rfl rfl (by kernel_rfl)
noncomputable def regs39 (n:Nat):Nat->List (FR R):=addF 58 ⟨Zi_p,Zi_r,Zi n,dflL R Zi_r,false⟩ (regs38 n)
theorem regs39_ok (n:Nat):RegsOK E (regs39 n):=addF_ok (regs38_ok n) (Zi_ok n)
abbrev XC_p:List Sk:=[.d (.int .i64),.d (.int .i64),.d (.int .i64)]
abbrev XC_r:List Sk:=[.d (.int .i64)]
@[irreducible] noncomputable def XC (n:Nat) (p:PayL R.T XC_p):Option (PayL R.T XC_r):=highF (ZZ n) (Xa n) (Zi n) p
theorem XC_eq (n:Nat) (p:PayL R.T XC_p):XC n p=highF (ZZ n) (Xa n) (Zi n) p:=by unfold XC;rfl
theorem XC_ok (n:Nat) (p:PayL R.T XC_p) (x:PayL R.T XC_r) (h:XC n p=some x):Pure E 40 (encSL R XC_p p) (retV (encSL R XC_r x)):=by
 unfold XC at h
 exact high_ok (ZZ_ok n) (Xa_ok n) (Zi_ok n) p x h
noncomputable def regs40 (n:Nat):Nat->List (FR R):=addF 40 ⟨XC_p,XC_r,XC n,dflL R XC_r,false⟩ (regs39 n)
theorem regs40_ok (n:Nat):RegsOK E (regs40 n):=addF_ok (regs39_ok n) (XC_ok n)
def ZR_a:Ann:=⟨[],[]⟩
abbrev ZR_p:List Sk:=[.d (.int .i64),.d (.int .i64),.d (.int .i64),.d (.int .i64)]
abbrev ZR_r:List Sk:=[.d .bool]
@[irreducible] noncomputable def ZR (n:Nat) (p:PayL R.T ZR_p):Option (PayL R.T ZR_r):=funM E R n false (regs40 n) (its4 n) ZR_a Tryz.f17 ZR_p ZR_r p
theorem ZR_ok (n:Nat) (p:PayL R.T ZR_p) (x:PayL R.T ZR_r) (h:ZR n p=some x):Pure E 17 (encSL R ZR_p p) (retV (encSL R ZR_r x)):=by
 unfold ZR at h
 exact funM_ok rOK (regs40_ok n) (its4_ok n) h Tryz.func17 rfl rfl rfl rfl (by kernel_rfl)
noncomputable def regs41 (n:Nat):Nat->List (FR R):=addF 17 ⟨ZR_p,ZR_r,ZR n,dflL R ZR_r,false⟩ (regs40 n)
theorem regs41_ok (n:Nat):RegsOK E (regs41 n):=addF_ok (regs40_ok n) (ZR_ok n)
def Xf_a:Ann:=⟨[],[]⟩
abbrev Xf_p:List Sk:=[.d (.int .i64),.cref [.d (.int .i64),.d (.slice (.slice (.int .i64))),.d (.slice (.st 0)),.d (.slice (.int .i64))] 0,.cref [.d (.int .i64)] 0]
abbrev Xf_r:List Sk:=[.d .bool]
@[irreducible] noncomputable def Xf (n:Nat) (p:PayL R.T Xf_p):Option (PayL R.T Xf_r):=funM E R n false (regs41 n) (its4 n) Xf_a Tryz.f33 Xf_p Xf_r p
theorem Xf_ok (n:Nat) (p:PayL R.T Xf_p) (x:PayL R.T Xf_r) (h:Xf n p=some x):Pure E 33 (encSL R Xf_p p) (retV (encSL R Xf_r x)):=by
 unfold Xf at h
 exact funM_ok rOK (regs41_ok n) (its4_ok n) h Tryz.func33 rfl rfl rfl rfl (by kernel_rfl)
noncomputable def regs42 (n:Nat):Nat->List (FR R):=addF 33 ⟨Xf_p,Xf_r,Xf n,dflL R Xf_r,false⟩ (regs41 n)
theorem regs42_ok (n:Nat):RegsOK E (regs42 n):=addF_ok (regs41_ok n) (Xf_ok n)
def Zt_a:Ann:=⟨[(2,⟨[0,1,7],[],⟨[(8,.d (.int .i64))],[]⟩,[(.exit 0,⟨[],[]⟩),(.ret,⟨[(4,.d (.int .i64))],[]⟩)]⟩)],[]⟩
abbrev Zt_p:List Sk:=[.d (.slice (.int .i64)),.fn 33 [] [.cref [.d (.int .i64),.d (.slice (.slice (.int .i64))),.d (.slice (.st 0)),.d (.slice (.int .i64))] 0,.cref [.d (.int .i64)] 0]]
abbrev Zt_r:List Sk:=[.d (.int .i64)]
@[irreducible] noncomputable def Zt (n:Nat) (p:PayL R.T Zt_p):Option (PayL R.T Zt_r):=funM E R n false (regs42 n) (its4 n) Zt_a Tryz.f59 Zt_p Zt_r p
theorem Zt_ok (n:Nat) (p:PayL R.T Zt_p) (x:PayL R.T Zt_r) (h:Zt n p=some x):Pure E 59 (encSL R Zt_p p) (retV (encSL R Zt_r x)):=by
 unfold Zt at h
 exact funM_ok rOK (regs42_ok n) (its4_ok n) h Tryz.func59 rfl rfl rfl rfl (by kernel_rfl)
noncomputable def regs43 (n:Nat):Nat->List (FR R):=addF 59 ⟨Zt_p,Zt_r,Zt n,dflL R Zt_r,false⟩ (regs42 n)
theorem regs43_ok (n:Nat):RegsOK E (regs43 n):=addF_ok (regs42_ok n) (Zt_ok n)
def Zd_a:Ann:=⟨[(5,⟨[0,1],[1000001,1000002],⟨[(5,.d (.int .i64)),(6,.d (.int .i64))],[(1000000,.arr (.int .i64))]⟩,[(.exit 0,⟨[(5,.d (.int .i64))],[(1000000,.arr (.int .i64))]⟩)]⟩)],[]⟩
abbrev Zd_p:List Sk:=[.vw 1000000 (.int .i64),.fn 33 [] [.ref 1000001 0,.ref 1000002 0]]
abbrev Zd_r:List Sk:=[.sub 1000000 (.int .i64)]
abbrev Zd_o:List (Nat×ObSk):=[(1000000,.arr (.int .i64)),(1000001,.st 6),(1000002,.cells [.d (.int .i64)])]
@[irreducible] noncomputable def Zd (n:Nat) (p:PayL R.T Zd_p) (q:PayOs R.T Zd_o):Option (PayL R.T Zd_r×PayOs R.T Zd_o):=funI E R n false (regs43 n) (its4 n) Zd_a Tryz.f34 Zd_p Zd_o Zd_r p q
theorem Zd_ok (n:Nat):FMOK1 E 34 Zd_p Zd_o Zd_r (Zd n):=by
 intro p q y q' h
 have h:Zd n p q=some (y,q'):=h
 unfold Zd at h
 exact funI_ok rOK (regs43_ok n) (its4_ok n) h Tryz.func34 rfl (by kernel_rfl)
noncomputable def its5 (n:Nat):IR R:=addM 34 (mkM Zd_p Zd_o Zd_r (Zd n)) (its4 n)
theorem its5_ok (n:Nat):ItersOK E (its5 n):=addM_ok (m:=mkM Zd_p Zd_o Zd_r (Zd n)) (its4_ok n) (FMOK.M (Zd_ok n))
def Zg_a:Ann:=⟨[(7,⟨[6,8,11,12,13,14,15,16,18],[6,8],⟨[],[(11,.cells [.d (.int .i64)]),(12,.cells [.sub 65 (.int .i64)]),(13,.cells [.d (.int .i64)]),(14,.cells [.d .bool]),(15,.cells [.d (.int .i64)]),(16,.st 6),(18,.cells [.d (.int .i64)]),(65,.arr (.int .i64))]⟩,[(.normal,⟨[],[(11,.cells [.d (.int .i64)]),(12,.cells [.sub 65 (.int .i64)]),(13,.cells [.d (.int .i64)]),(14,.cells [.d .bool]),(15,.cells [.d (.int .i64)]),(16,.st 6),(18,.cells [.d (.int .i64)]),(65,.arr (.int .i64))]⟩),(.ret,⟨[],[(11,.cells [.d (.int .i64)]),(12,.cells [.sub 65 (.int .i64)]),(13,.cells [.d (.int .i64)]),(14,.cells [.d .bool]),(15,.cells [.d (.int .i64)]),(16,.st 6),(18,.cells [.d (.int .i64)]),(65,.arr (.int .i64))]⟩)]⟩)],[]⟩
abbrev Zg_p:List Sk:=[.d (.int .i64),.d (.slice (.slice (.int .i64))),.d (.st 1),.d (.slice (.int .i64)),.d (.int .i64),.d (.int .i64)]
abbrev Zg_r:List Sk:=[.d (.slice (.int .i64)),.d (.int .i64),.d .bool,.d (.int .i64)]
@[irreducible] noncomputable def Zg (n:Nat) (p:PayL R.T Zg_p):Option (PayL R.T Zg_r):=funM E R n false (regs43 n) (its5 n) Zg_a Tryz.f10 Zg_p Zg_r p
theorem Zg_ok (n:Nat) (p:PayL R.T Zg_p) (x:PayL R.T Zg_r) (h:Zg n p=some x):Pure E 10 (encSL R Zg_p p) (retV (encSL R Zg_r x)):=by
 unfold Zg at h
 exact funM_ok rOK (regs43_ok n) (its5_ok n) h Tryz.func10 rfl rfl rfl rfl (by kernel_rfl)
noncomputable def regs44 (n:Nat):Nat->List (FR R):=addF 10 ⟨Zg_p,Zg_r,Zg n,dflL R Zg_r,false⟩ (regs43 n)
theorem regs44_ok (n:Nat):RegsOK E (regs44 n):=addF_ok (regs43_ok n) (Zg_ok n)
def Zh_a:Ann:=⟨[(1,⟨[0,1,2,3],[],⟨[(8,.d (.int .i64))],[(1000000,.arr (.int .i64))]⟩,[(.exit 0,⟨[],[(1000000,.arr (.int .i64))]⟩)]⟩),
 (4,⟨[0,1,2,3,8],[],⟨[(9,.d (.int .i64))],[(1000000,.arr (.int .i64))]⟩,[(.exit 2,⟨[],[(1000000,.arr (.int .i64))]⟩)]⟩)],[]⟩
abbrev Zh_p:List Sk:=[.vw 1000000 (.int .i64),.d (.int .i64),.d (.int .i64),.fn 37 [.d (.st 6)] []]
abbrev Zh_r:List Sk:=[]
abbrev Zh_o:List (Nat×ObSk):=[(1000000,.arr (.int .i64))]
@[irreducible] noncomputable def Zh (n:Nat) (p:PayL R.T Zh_p) (q:PayOs R.T Zh_o):Option (PayL R.T Zh_r×PayOs R.T Zh_o):=funI E R n false (regs44 n) (its5 n) Zh_a Tryz.f89 Zh_p Zh_o Zh_r p q
theorem Zh_ok (n:Nat):FMOK1 E 89 Zh_p Zh_o Zh_r (Zh n):=by
 intro p q y q' h
 have h:Zh n p q=some (y,q'):=h
 unfold Zh at h
 exact funI_ok rOK (regs44_ok n) (its5_ok n) h Tryz.func89 rfl (by kernel_rfl)
noncomputable def its6 (n:Nat):IR R:=addM 89 (mkM Zh_p Zh_o Zh_r (Zh n)) (its5 n)
theorem its6_ok (n:Nat):ItersOK E (its6 n):=addM_ok (m:=mkM Zh_p Zh_o Zh_r (Zh n)) (its5_ok n) (FMOK.M (Zh_ok n))
def ZJ_a:Ann:=⟨[(1,⟨[0,2,3,4],[],⟨[(10,.d (.int .i64))],[(1000000,.arr (.int .i64))]⟩,[(.exit 0,⟨[],[(1000000,.arr (.int .i64))]⟩),(.ret,⟨[],[(1000000,.arr (.int .i64))]⟩)]⟩)],[(5,⟨[0,2,3,4,10],[1000000],⟨[],[]⟩,[(.normal,⟨[(11,.d (.int .i64))],[]⟩)]⟩)]⟩
abbrev ZJ_p:List Sk:=[.vw 1000000 (.int .i64),.d (.int .i64),.d (.int .i64),.d (.int .i64),.fn 37 [.d (.st 6)] []]
abbrev ZJ_r:List Sk:=[]
abbrev ZJ_o:List (Nat×ObSk):=[(1000000,.arr (.int .i64))]
@[irreducible] noncomputable def ZJ (n:Nat) (p:PayL R.T ZJ_p) (q:PayOs R.T ZJ_o):Option (PayL R.T ZJ_r×PayOs R.T ZJ_o):=funI E R n false (regs44 n) (its6 n) ZJ_a Tryz.f113 ZJ_p ZJ_o ZJ_r p q
theorem ZJ_ok (n:Nat):FMOK1 E 113 ZJ_p ZJ_o ZJ_r (ZJ n):=by
 intro p q y q' h
 have h:ZJ n p q=some (y,q'):=h
 unfold ZJ at h
 exact funI_ok rOK (regs44_ok n) (its6_ok n) h Tryz.func113 rfl (by kernel_rfl)
noncomputable def its7 (n:Nat):IR R:=addM 113 (mkM ZJ_p ZJ_o ZJ_r (ZJ n)) (its6 n)
theorem its7_ok (n:Nat):ItersOK E (its7 n):=addM_ok (m:=mkM ZJ_p ZJ_o ZJ_r (ZJ n)) (its6_ok n) (FMOK.M (ZJ_ok n))
def Zj_a:Ann:=⟨[(4,⟨[0,3,8,9,10],[],⟨[(11,.d (.int .i64))],[(1000000,.arr (.int .i64))]⟩,[(.exit 0,⟨[],[(1000000,.arr (.int .i64))]⟩)]⟩),
 (8,⟨[0,3,8,9],[],⟨[(12,.d (.int .i64))],[(1000000,.arr (.int .i64))]⟩,[(.exit 2,⟨[],[(1000000,.arr (.int .i64))]⟩)]⟩)],[]⟩
abbrev Zj_p:List Sk:=[.vw 1000000 (.int .i64),.d (.int .i64),.d (.int .i64),.fn 37 [.d (.st 6)] []]
abbrev Zj_r:List Sk:=[]
abbrev Zj_o:List (Nat×ObSk):=[(1000000,.arr (.int .i64))]
@[irreducible] noncomputable def Zj (n:Nat) (p:PayL R.T Zj_p) (q:PayOs R.T Zj_o):Option (PayL R.T Zj_r×PayOs R.T Zj_o):=funI E R n false (regs44 n) (its7 n) Zj_a Tryz.f90 Zj_p Zj_o Zj_r p q
theorem Zj_ok (n:Nat):FMOK1 E 90 Zj_p Zj_o Zj_r (Zj n):=by
 intro p q y q' h
 have h:Zj n p q=some (y,q'):=h
 unfold Zj at h
 exact funI_ok rOK (regs44_ok n) (its7_ok n) h Tryz.func90 rfl (by kernel_rfl)
noncomputable def its8 (n:Nat):IR R:=addM 90 (mkM Zj_p Zj_o Zj_r (Zj n)) (its7 n)
theorem its8_ok (n:Nat):ItersOK E (its8 n):=addM_ok (m:=mkM Zj_p Zj_o Zj_r (Zj n)) (its7_ok n) (FMOK.M (Zj_ok n))
def Xm_a:Ann:=⟨[],[]⟩
abbrev Xm_p:List Sk:=[.d (.int .i64)]
abbrev Xm_r:List Sk:=[.d (.int .u64)]
@[irreducible] noncomputable def Xm (n:Nat) (p:PayL R.T Xm_p):Option (PayL R.T Xm_r):=funM E R n false (regs44 n) (its8 n) Xm_a Tryz.f114 Xm_p Xm_r p
theorem Xm_ok (n:Nat) (p:PayL R.T Xm_p) (x:PayL R.T Xm_r) (h:Xm n p=some x):Pure E 114 (encSL R Xm_p p) (retV (encSL R Xm_r x)):=by
 unfold Xm at h
 exact funM_ok rOK (regs44_ok n) (its8_ok n) h Tryz.func114 rfl rfl rfl rfl (by kernel_rfl)
noncomputable def regs45 (n:Nat):Nat->List (FR R):=addF 114 ⟨Xm_p,Xm_r,Xm n,dflL R Xm_r,false⟩ (regs44 n)
theorem regs45_ok (n:Nat):RegsOK E (regs45 n):=addF_ok (regs44_ok n) (Xm_ok n)
def ZL_a:Ann:=⟨[],[]⟩
abbrev ZL_p:List Sk:=[.ref 1000000 0]
abbrev ZL_r:List Sk:=[.d (.int .u64)]
abbrev ZL_o:List (Nat×ObSk):=[(1000000,.cells [.d (.int .u64)])]
@[irreducible] noncomputable def ZL (n:Nat) (p:PayL R.T ZL_p) (q:PayOs R.T ZL_o):Option (PayL R.T ZL_r×PayOs R.T ZL_o):=funI E R n false (regs45 n) (its8 n) ZL_a Tryz.f115 ZL_p ZL_o ZL_r p q
theorem ZL_ok (n:Nat):FMOK1 E 115 ZL_p ZL_o ZL_r (ZL n):=by
 intro p q y q' h
 have h:ZL n p q=some (y,q'):=h
 unfold ZL at h
 exact funI_ok rOK (regs45_ok n) (its8_ok n) h Tryz.func115 rfl (by kernel_rfl)
noncomputable def its9 (n:Nat):IR R:=addM 115 (mkM ZL_p ZL_o ZL_r (ZL n)) (its8 n)
theorem its9_ok (n:Nat):ItersOK E (its9 n):=addM_ok (m:=mkM ZL_p ZL_o ZL_r (ZL n)) (its8_ok n) (FMOK.M (ZL_ok n))
def ZF_a:Ann:=⟨[(5,⟨[0,1,8,9,10],[],⟨[(11,.d (.int .i64))],[(9,.cells [.d (.int .u64)]),(1000000,.arr (.int .i64))]⟩,[(.exit 0,⟨[],[(1000000,.arr (.int .i64))]⟩)]⟩)],[(10,⟨[0,1,8,9,10,11],[9,1000000],⟨[],[]⟩,[(.normal,⟨[(12,.d (.int .i64))],[]⟩)]⟩)]⟩
abbrev ZF_p:List Sk:=[.vw 1000000 (.int .i64),.d (.int .i64),.d (.int .i64),.fn 37 [.d (.st 6)] []]
abbrev ZF_r:List Sk:=[]
abbrev ZF_o:List (Nat×ObSk):=[(1000000,.arr (.int .i64))]
@[irreducible] noncomputable def ZF (n:Nat) (p:PayL R.T ZF_p) (q:PayOs R.T ZF_o):Option (PayL R.T ZF_r×PayOs R.T ZF_o):=funI E R n false (regs45 n) (its9 n) ZF_a Tryz.f91 ZF_p ZF_o ZF_r p q
theorem ZF_ok (n:Nat):FMOK1 E 91 ZF_p ZF_o ZF_r (ZF n):=by
 intro p q y q' h
 have h:ZF n p q=some (y,q'):=h
 unfold ZF at h
 exact funI_ok rOK (regs45_ok n) (its9_ok n) h Tryz.func91 rfl (by kernel_rfl)
noncomputable def its10 (n:Nat):IR R:=addM 91 (mkM ZF_p ZF_o ZF_r (ZF n)) (its9 n)
theorem its10_ok (n:Nat):ItersOK E (its10 n):=addM_ok (m:=mkM ZF_p ZF_o ZF_r (ZF n)) (its9_ok n) (FMOK.M (ZF_ok n))
def ZS_a:Ann:=⟨[],[]⟩
abbrev ZS_p:List Sk:=[.d (.slice (.int .i64)),.d (.int .i64),.d (.int .i64),.ref 1000000 0,.fn 37 [.d (.st 6)] []]
abbrev ZS_r:List Sk:=[.d (.int .i64),.d (.int .i64)]
abbrev ZS_o:List (Nat×ObSk):=[(1000000,.cells [.d (.int .i64)])]
@[irreducible] noncomputable def ZS (n:Nat) (p:PayL R.T ZS_p) (q:PayOs R.T ZS_o):Option (PayL R.T ZS_r×PayOs R.T ZS_o):=funI E R n false (regs45 n) (its10 n) ZS_a Tryz.f121 ZS_p ZS_o ZS_r p q
theorem ZS_ok (n:Nat):FMOK1 E 121 ZS_p ZS_o ZS_r (ZS n):=by
 intro p q y q' h
 have h:ZS n p q=some (y,q'):=h
 unfold ZS at h
 exact funI_ok rOK (regs45_ok n) (its10_ok n) h Tryz.func121 rfl (by kernel_rfl)
noncomputable def its11 (n:Nat):IR R:=addM 121 (mkM ZS_p ZS_o ZS_r (ZS n)) (its10 n)
theorem its11_ok (n:Nat):ItersOK E (its11 n):=addM_ok (m:=mkM ZS_p ZS_o ZS_r (ZS n)) (its10_ok n) (FMOK.M (ZS_ok n))
def ZT_a:Ann:=⟨[],[]⟩
abbrev ZT_p:List Sk:=[.d (.slice (.int .i64)),.d (.int .i64),.d (.int .i64),.d (.int .i64),.ref 1000000 0,.fn 37 [.d (.st 6)] []]
abbrev ZT_r:List Sk:=[.d (.int .i64)]
abbrev ZT_o:List (Nat×ObSk):=[(1000000,.cells [.d (.int .i64)])]
@[irreducible] noncomputable def ZT (n:Nat) (p:PayL R.T ZT_p) (q:PayOs R.T ZT_o):Option (PayL R.T ZT_r×PayOs R.T ZT_o):=funI E R n false (regs45 n) (its11 n) ZT_a Tryz.f117 ZT_p ZT_o ZT_r p q
theorem ZT_ok (n:Nat):FMOK1 E 117 ZT_p ZT_o ZT_r (ZT n):=by
 intro p q y q' h
 have h:ZT n p q=some (y,q'):=h
 unfold ZT at h
 exact funI_ok rOK (regs45_ok n) (its11_ok n) h Tryz.func117 rfl (by kernel_rfl)
noncomputable def its12 (n:Nat):IR R:=addM 117 (mkM ZT_p ZT_o ZT_r (ZT n)) (its11 n)
theorem its12_ok (n:Nat):ItersOK E (its12 n):=addM_ok (m:=mkM ZT_p ZT_o ZT_r (ZT n)) (its11_ok n) (FMOK.M (ZT_ok n))
def ZU_a:Ann:=⟨[],[]⟩
abbrev ZU_p:List Sk:=[.d (.slice (.int .i64)),.d (.int .i64),.ref 1000000 0,.fn 37 [.d (.st 6)] []]
abbrev ZU_r:List Sk:=[.d (.int .i64)]
abbrev ZU_o:List (Nat×ObSk):=[(1000000,.cells [.d (.int .i64)])]
@[irreducible] noncomputable def ZU (n:Nat) (p:PayL R.T ZU_p) (q:PayOs R.T ZU_o):Option (PayL R.T ZU_r×PayOs R.T ZU_o):=funI E R n false (regs45 n) (its12 n) ZU_a Tryz.f116 ZU_p ZU_o ZU_r p q
theorem ZU_ok (n:Nat):FMOK1 E 116 ZU_p ZU_o ZU_r (ZU n):=by
 intro p q y q' h
 have h:ZU n p q=some (y,q'):=h
 unfold ZU at h
 exact funI_ok rOK (regs45_ok n) (its12_ok n) h Tryz.func116 rfl (by kernel_rfl)
noncomputable def its13 (n:Nat):IR R:=addM 116 (mkM ZU_p ZU_o ZU_r (ZU n)) (its12 n)
theorem its13_ok (n:Nat):ItersOK E (its13 n):=addM_ok (m:=mkM ZU_p ZU_o ZU_r (ZU n)) (its12_ok n) (FMOK.M (ZU_ok n))
def XE_a:Ann:=⟨[],[]⟩
abbrev XE_p:List Sk:=[.d (.slice (.int .i64)),.d (.int .i64),.d (.int .i64),.fn 37 [.d (.st 6)] []]
abbrev XE_r:List Sk:=[.d (.int .i64),.d (.int .i64)]
@[irreducible] noncomputable def XE (n:Nat) (p:PayL R.T XE_p):Option (PayL R.T XE_r):=funM E R n false (regs45 n) (its13 n) XE_a Tryz.f92 XE_p XE_r p
theorem XE_ok (n:Nat) (p:PayL R.T XE_p) (x:PayL R.T XE_r) (h:XE n p=some x):Pure E 92 (encSL R XE_p p) (retV (encSL R XE_r x)):=by
 unfold XE at h
 exact funM_ok rOK (regs45_ok n) (its13_ok n) h Tryz.func92 rfl rfl rfl rfl (by kernel_rfl)
noncomputable def regs46 (n:Nat):Nat->List (FR R):=addF 92 ⟨XE_p,XE_r,XE n,dflL R XE_r,false⟩ (regs45 n)
theorem regs46_ok (n:Nat):RegsOK E (regs46 n):=addF_ok (regs45_ok n) (XE_ok n)
def Zp_a:Ann:=⟨[(2,⟨[0],[],⟨[(8,.d (.int .i64)),(9,.d (.int .i64))],[(1000000,.arr (.int .i64))]⟩,[(.exit 0,⟨[],[(1000000,.arr (.int .i64))]⟩)]⟩)],[]⟩
abbrev Zp_p:List Sk:=[.vw 1000000 (.int .i64),.d (.int .i64),.d (.int .i64),.fn 37 [.d (.st 6)] []]
abbrev Zp_r:List Sk:=[]
abbrev Zp_o:List (Nat×ObSk):=[(1000000,.arr (.int .i64))]
@[irreducible] noncomputable def Zp (n:Nat) (p:PayL R.T Zp_p) (q:PayOs R.T Zp_o):Option (PayL R.T Zp_r×PayOs R.T Zp_o):=funI E R n false (regs46 n) (its13 n) Zp_a Tryz.f93 Zp_p Zp_o Zp_r p q
theorem Zp_ok (n:Nat):FMOK1 E 93 Zp_p Zp_o Zp_r (Zp n):=by
 intro p q y q' h
 have h:Zp n p q=some (y,q'):=h
 unfold Zp at h
 exact funI_ok rOK (regs46_ok n) (its13_ok n) h Tryz.func93 rfl (by kernel_rfl)
noncomputable def its14 (n:Nat):IR R:=addM 93 (mkM Zp_p Zp_o Zp_r (Zp n)) (its13 n)
theorem its14_ok (n:Nat):ItersOK E (its14 n):=addM_ok (m:=mkM Zp_p Zp_o Zp_r (Zp n)) (its13_ok n) (FMOK.M (Zp_ok n))
def Zb_a:Ann:=⟨[(3,⟨[0,1,2,3],[],⟨[(9,.d (.int .i64)),(10,.d (.int .i64))],[(1000000,.arr (.int .i64))]⟩,[(.exit 0,⟨[],[(1000000,.arr (.int .i64))]⟩),(.ret,⟨[(8,.d .bool)],[(1000000,.arr (.int .i64))]⟩)]⟩),
 (5,⟨[0,1,2,3,10],[1000000],⟨[(9,.d (.int .i64))],[]⟩,[(.exit 2,⟨[(9,.d (.int .i64))],[]⟩)]⟩),
 (14,⟨[0,1,2,3,9,10],[],⟨[(11,.d (.int .i64))],[(1000000,.arr (.int .i64))]⟩,[(.exit 4,⟨[],[(1000000,.arr (.int .i64))]⟩)]⟩),
 (20,⟨[0,1,2,3,9,10],[],⟨[(12,.d (.int .i64))],[(1000000,.arr (.int .i64))]⟩,[(.exit 6,⟨[],[(1000000,.arr (.int .i64))]⟩)]⟩)],[(18,⟨[0,1,2,3,9,10],[],⟨[],[]⟩,[(.normal,⟨[],[(1000000,.arr (.int .i64))]⟩)]⟩)]⟩
abbrev Zb_p:List Sk:=[.vw 1000000 (.int .i64),.d (.int .i64),.d (.int .i64),.fn 37 [.d (.st 6)] []]
abbrev Zb_r:List Sk:=[.d .bool]
abbrev Zb_o:List (Nat×ObSk):=[(1000000,.arr (.int .i64))]
@[irreducible] noncomputable def Zb (n:Nat) (p:PayL R.T Zb_p) (q:PayOs R.T Zb_o):Option (PayL R.T Zb_r×PayOs R.T Zb_o):=funI E R n false (regs46 n) (its14 n) Zb_a Tryz.f94 Zb_p Zb_o Zb_r p q
theorem Zb_ok (n:Nat):FMOK1 E 94 Zb_p Zb_o Zb_r (Zb n):=by
 intro p q y q' h
 have h:Zb n p q=some (y,q'):=h
 unfold Zb at h
 exact funI_ok rOK (regs46_ok n) (its14_ok n) h Tryz.func94 rfl (by kernel_rfl)
noncomputable def its15 (n:Nat):IR R:=addM 94 (mkM Zb_p Zb_o Zb_r (Zb n)) (its14 n)
theorem its15_ok (n:Nat):ItersOK E (its15 n):=addM_ok (m:=mkM Zb_p Zb_o Zb_r (Zb n)) (its14_ok n) (FMOK.M (Zb_ok n))
def Zf_a:Ann:=⟨[(503,⟨[0,1,4],[],⟨[(11,.d (.int .i64)),(12,.d (.int .i64))],[(1000000,.arr (.int .i64))]⟩,[(.exit 0,⟨[(11,.d (.int .i64))],[(1000000,.arr (.int .i64))]⟩)]⟩),
 (3,⟨[0,1,4,12],[1000000],⟨[(11,.d (.int .i64))],[]⟩,[(.exit 2,⟨[(11,.d (.int .i64))],[]⟩)]⟩),
 (5,⟨[0,1,4,11],[1000000],⟨[(12,.d (.int .i64))],[]⟩,[(.exit 4,⟨[(12,.d (.int .i64))],[]⟩)]⟩)],[]⟩
abbrev Zf_p:List Sk:=[.vw 1000000 (.int .i64),.d (.int .i64),.d (.int .i64),.d (.int .i64),.fn 37 [.d (.st 6)] []]
abbrev Zf_r:List Sk:=[.d (.int .i64)]
abbrev Zf_o:List (Nat×ObSk):=[(1000000,.arr (.int .i64))]
@[irreducible] noncomputable def Zf (n:Nat) (p:PayL R.T Zf_p) (q:PayOs R.T Zf_o):Option (PayL R.T Zf_r×PayOs R.T Zf_o):=funI E R n false (regs46 n) (its15 n) Zf_a Tryz.f95 Zf_p Zf_o Zf_r p q
theorem Zf_ok (n:Nat):FMOK1 E 95 Zf_p Zf_o Zf_r (Zf n):=by
 intro p q y q' h
 have h:Zf n p q=some (y,q'):=h
 unfold Zf at h
 exact funI_ok rOK (regs46_ok n) (its15_ok n) h Tryz.func95 rfl (by kernel_rfl)
noncomputable def its16 (n:Nat):IR R:=addM 95 (mkM Zf_p Zf_o Zf_r (Zf n)) (its15 n)
theorem its16_ok (n:Nat):ItersOK E (its16 n):=addM_ok (m:=mkM Zf_p Zf_o Zf_r (Zf n)) (its15_ok n) (FMOK.M (Zf_ok n))
def QQ_a:Ann:=⟨[(3,⟨[0,1,4,13],[1000000],⟨[(12,.d (.int .i64))],[]⟩,[(.exit 0,⟨[(12,.d (.int .i64))],[]⟩)]⟩),
 (5,⟨[0,1,4,12],[1000000],⟨[(13,.d (.int .i64))],[]⟩,[(.exit 2,⟨[(13,.d (.int .i64))],[]⟩)]⟩),
 (513,⟨[0,1,4],[],⟨[(12,.d (.int .i64)),(13,.d (.int .i64))],[(1000000,.arr (.int .i64))]⟩,[(.exit 4,⟨[(13,.d (.int .i64))],[(1000000,.arr (.int .i64))]⟩)]⟩),
 (13,⟨[0,1,4,13],[1000000],⟨[(12,.d (.int .i64))],[]⟩,[(.exit 6,⟨[(12,.d (.int .i64))],[]⟩)]⟩),
 (15,⟨[0,1,4,12],[1000000],⟨[(13,.d (.int .i64))],[]⟩,[(.exit 8,⟨[(13,.d (.int .i64))],[]⟩)]⟩)],[]⟩
abbrev QQ_p:List Sk:=[.vw 1000000 (.int .i64),.d (.int .i64),.d (.int .i64),.d (.int .i64),.fn 37 [.d (.st 6)] []]
abbrev QQ_r:List Sk:=[.d (.int .i64),.d .bool]
abbrev QQ_o:List (Nat×ObSk):=[(1000000,.arr (.int .i64))]
@[irreducible] noncomputable def QQ (n:Nat) (p:PayL R.T QQ_p) (q:PayOs R.T QQ_o):Option (PayL R.T QQ_r×PayOs R.T QQ_o):=funI E R n false (regs46 n) (its16 n) QQ_a Tryz.f96 QQ_p QQ_o QQ_r p q
theorem QQ_ok (n:Nat):FMOK1 E 96 QQ_p QQ_o QQ_r (QQ n):=by
 intro p q y q' h
 have h:QQ n p q=some (y,q'):=h
 unfold QQ at h
 exact funI_ok rOK (regs46_ok n) (its16_ok n) h Tryz.func96 rfl (by kernel_rfl)
noncomputable def its17 (n:Nat):IR R:=addM 96 (mkM QQ_p QQ_o QQ_r (QQ n)) (its16 n)
theorem its17_ok (n:Nat):ItersOK E (its17 n):=addM_ok (m:=mkM QQ_p QQ_o QQ_r (QQ n)) (its16_ok n) (FMOK.M (QQ_ok n))
def QP_a:Ann:=⟨[(2,⟨[0,4],[],⟨[(1,.d (.int .i64)),(2,.d (.int .i64)),(3,.d (.int .i64)),(10,.d .bool),(11,.d .bool)],[(1000000,.arr (.int .i64))]⟩,[(.ret,⟨[],[(1000000,.arr (.int .i64))]⟩)]⟩)],[(10,⟨[0,1,2,4,10,11,12],[],⟨[],[]⟩,[(.normal,⟨[(3,.d (.int .i64))],[(1000000,.arr (.int .i64))]⟩)]⟩),(15,⟨[0,1,2,3,4,10,11,12],[],⟨[],[]⟩,[(.normal,⟨[(13,.d (.int .i64)),(14,.d (.int .i64))],[(1000000,.arr (.int .i64))]⟩)]⟩),(17,⟨[0,1,2,3,4,10,11,12,13],[],⟨[],[]⟩,[(.normal,⟨[],[(1000000,.arr (.int .i64))]⟩),(.ret,⟨[],[(1000000,.arr (.int .i64))]⟩)]⟩)]⟩
abbrev QP_p:List Sk:=[.vw 1000000 (.int .i64),.d (.int .i64),.d (.int .i64),.d (.int .i64),.fn 37 [.d (.st 6)] []]
abbrev QP_r:List Sk:=[]
abbrev QP_o:List (Nat×ObSk):=[(1000000,.arr (.int .i64))]
noncomputable def QP_m (n:Nat):Nat->PayL R.T QP_p->PayOs R.T QP_o->Option (PayL R.T QP_r×PayOs R.T QP_o)
 |0,_,_=>none
 |m+1,p,q=>funI E R n false (regs46 n) (addM 78 (mkM QP_p QP_o QP_r (QP_m n m)) (its17 n)) QP_a Tryz.f78 QP_p QP_o QP_r p q
attribute [irreducible] QP_m
theorem QP_e (n m:Nat) (p:PayL R.T QP_p) (q:PayOs R.T QP_o):QP_m n (m+1) p q=funI E R n false (regs46 n) (addM 78 (mkM QP_p QP_o QP_r (QP_m n m)) (its17 n)) QP_a Tryz.f78 QP_p QP_o QP_r p q:=by kernel_rfl
theorem QP_e0 (n:Nat) (p:PayL R.T QP_p) (q:PayOs R.T QP_o):QP_m n 0 p q=none:=by kernel_rfl
theorem slices_pdqsortCmpFunc_int_mok (n:Nat):∀m,FMOK1 E 78 QP_p QP_o QP_r (QP_m n m)
 |0=>fun p q y q' h=>absurd (((QP_e0 n p q).symm.trans h)) nofun
 |m+1=>fun p q y q' h=>funI_ok rOK (regs46_ok n) (addM_ok (m:=(mkM QP_p QP_o QP_r (QP_m n m))) (its17_ok n) (FMOK.M (slices_pdqsortCmpFunc_int_mok n m))) ((QP_e n m p q).symm.trans h) Tryz.func78 rfl (by kernel_rfl)
@[irreducible] noncomputable def QP (n:Nat):PayL R.T QP_p->PayOs R.T QP_o->Option (PayL R.T QP_r×PayOs R.T QP_o):=QP_m n n
theorem QP_ok (n:Nat):FMOK1 E 78 QP_p QP_o QP_r (QP n):=by
 unfold QP
 exact slices_pdqsortCmpFunc_int_mok n n
noncomputable def its18 (n:Nat):IR R:=addM 78 (mkM QP_p QP_o QP_r (QP n)) (its17 n)
theorem its18_ok (n:Nat):ItersOK E (its18 n):=addM_ok (m:=mkM QP_p QP_o QP_r (QP n)) (its17_ok n) (FMOK.M (QP_ok n))
def ZM_a:Ann:=⟨[],[]⟩
abbrev ZM_p:List Sk:=[.vw 1000000 (.int .i64),.fn 37 [.d (.st 6)] []]
abbrev ZM_r:List Sk:=[]
abbrev ZM_o:List (Nat×ObSk):=[(1000000,.arr (.int .i64))]
@[irreducible] noncomputable def ZM (n:Nat) (p:PayL R.T ZM_p) (q:PayOs R.T ZM_o):Option (PayL R.T ZM_r×PayOs R.T ZM_o):=funI E R n false (regs46 n) (its18 n) ZM_a Tryz.f60 ZM_p ZM_o ZM_r p q
theorem ZM_ok (n:Nat):FMOK1 E 60 ZM_p ZM_o ZM_r (ZM n):=by
 intro p q y q' h
 have h:ZM n p q=some (y,q'):=h
 unfold ZM at h
 exact funI_ok rOK (regs46_ok n) (its18_ok n) h Tryz.func60 rfl (by kernel_rfl)
noncomputable def its19 (n:Nat):IR R:=addM 60 (mkM ZM_p ZM_o ZM_r (ZM n)) (its18 n)
theorem its19_ok (n:Nat):ItersOK E (its19 n):=addM_ok (m:=mkM ZM_p ZM_o ZM_r (ZM n)) (its18_ok n) (FMOK.M (ZM_ok n))
def Xg_a:Ann:=⟨[],[]⟩
abbrev Xg_p:List Sk:=[.d (.slice (.int .i64)),.fn 37 [.d (.st 6)] []]
abbrev Xg_r:List Sk:=[.d (.slice (.int .i64))]
@[irreducible] noncomputable def Xg (n:Nat) (p:PayL R.T Xg_p):Option (PayL R.T Xg_r):=funM E R n false (regs46 n) (its19 n) Xg_a Tryz.f36 Xg_p Xg_r p
theorem Xg_ok (n:Nat) (p:PayL R.T Xg_p) (x:PayL R.T Xg_r) (h:Xg n p=some x):Pure E 36 (encSL R Xg_p p) (retV (encSL R Xg_r x)):=by
 unfold Xg at h
 exact funM_ok rOK (regs46_ok n) (its19_ok n) h Tryz.func36 rfl rfl rfl rfl (by kernel_rfl)
noncomputable def regs47 (n:Nat):Nat->List (FR R):=addF 36 ⟨Xg_p,Xg_r,Xg n,dflL R Xg_r,false⟩ (regs46 n)
theorem regs47_ok (n:Nat):RegsOK E (regs47 n):=addF_ok (regs46_ok n) (Xg_ok n)
def Zk_a:Ann:=⟨[(7,⟨[0,1,5,8,16,18],[8,16],⟨[],[(18,.cells [.d (.int .i64)])]⟩,[(.normal,⟨[],[(18,.cells [.d (.int .i64)])]⟩)]⟩)],[]⟩
abbrev Zk_p:List Sk:=[.d (.int .i64),.d (.slice (.slice (.int .i64))),.d (.st 1),.d (.slice (.int .i64)),.d (.int .i64),.d (.int .i64)]
abbrev Zk_r:List Sk:=[.d (.slice (.int .i64)),.d (.int .i64),.d .bool,.d (.int .i64)]
@[irreducible] noncomputable def Zk (n:Nat) (p:PayL R.T Zk_p):Option (PayL R.T Zk_r):=funM E R n false (regs47 n) (its19 n) Zk_a Tryz.f11 Zk_p Zk_r p
theorem Zk_ok (n:Nat) (p:PayL R.T Zk_p) (x:PayL R.T Zk_r) (h:Zk n p=some x):Pure E 11 (encSL R Zk_p p) (retV (encSL R Zk_r x)):=by
 unfold Zk at h
 exact funM_ok rOK (regs47_ok n) (its19_ok n) h Tryz.func11 rfl rfl rfl rfl (by kernel_rfl)
noncomputable def regs48 (n:Nat):Nat->List (FR R):=addF 11 ⟨Zk_p,Zk_r,Zk n,dflL R Zk_r,false⟩ (regs47 n)
theorem regs48_ok (n:Nat):RegsOK E (regs48 n):=addF_ok (regs47_ok n) (Zk_ok n)
def Xh_a:Ann:=⟨[],[]⟩
abbrev Xh_p:List Sk:=[.d (.int .i64)]
abbrev Xh_r:List Sk:=[.d .bool]
@[irreducible] noncomputable def Xh (n:Nat) (p:PayL R.T Xh_p):Option (PayL R.T Xh_r):=funM E R n false (regs48 n) (its19 n) Xh_a Tryz.f16 Xh_p Xh_r p
theorem Xh_ok (n:Nat) (p:PayL R.T Xh_p) (x:PayL R.T Xh_r) (h:Xh n p=some x):Pure E 16 (encSL R Xh_p p) (retV (encSL R Xh_r x)):=by
 unfold Xh at h
 exact funM_ok rOK (regs48_ok n) (its19_ok n) h Tryz.func16 rfl rfl rfl rfl (by kernel_rfl)
noncomputable def regs49 (n:Nat):Nat->List (FR R):=addF 16 ⟨Xh_p,Xh_r,Xh n,dflL R Xh_r,false⟩ (regs48 n)
theorem regs49_ok (n:Nat):RegsOK E (regs49 n):=addF_ok (regs48_ok n) (Xh_ok n)
def Zo_a:Ann:=⟨[(2,⟨[0],[],⟨[(3,.d (.int .i64))],[]⟩,[(.exit 0,⟨[],[]⟩),(.ret,⟨[(2,.d .bool)],[]⟩)]⟩)],[]⟩
abbrev Zo_p:List Sk:=[.d (.slice (.int .i64))]
abbrev Zo_r:List Sk:=[.d .bool]
@[irreducible] noncomputable def Zo (n:Nat) (p:PayL R.T Zo_p):Option (PayL R.T Zo_r):=funM E R n false (regs49 n) (its19 n) Zo_a Tryz.f52 Zo_p Zo_r p
theorem Zo_ok (n:Nat) (p:PayL R.T Zo_p) (x:PayL R.T Zo_r) (h:Zo n p=some x):Pure E 52 (encSL R Zo_p p) (retV (encSL R Zo_r x)):=by
 unfold Zo at h
 exact funM_ok rOK (regs49_ok n) (its19_ok n) h Tryz.func52 rfl rfl rfl rfl (by kernel_rfl)
noncomputable def regs50 (n:Nat):Nat->List (FR R):=addF 52 ⟨Zo_p,Zo_r,Zo n,dflL R Zo_r,false⟩ (regs49 n)
theorem regs50_ok (n:Nat):RegsOK E (regs50 n):=addF_ok (regs49_ok n) (Zo_ok n)
def Zu_a:Ann:=⟨[(2,⟨[0],[],⟨[(3,.d (.int .i64))],[]⟩,[(.exit 0,⟨[],[]⟩),(.ret,⟨[(2,.d .bool)],[]⟩)]⟩)],[]⟩
abbrev Zu_p:List Sk:=[.d (.slice (.slice (.int .i64)))]
abbrev Zu_r:List Sk:=[.d .bool]
@[irreducible] noncomputable def Zu (n:Nat) (p:PayL R.T Zu_p):Option (PayL R.T Zu_r):=funM E R n false (regs50 n) (its19 n) Zu_a Tryz.f26 Zu_p Zu_r p
theorem Zu_ok (n:Nat) (p:PayL R.T Zu_p) (x:PayL R.T Zu_r) (h:Zu n p=some x):Pure E 26 (encSL R Zu_p p) (retV (encSL R Zu_r x)):=by
 unfold Zu at h
 exact funM_ok rOK (regs50_ok n) (its19_ok n) h Tryz.func26 rfl rfl rfl rfl (by kernel_rfl)
noncomputable def regs51 (n:Nat):Nat->List (FR R):=addF 26 ⟨Zu_p,Zu_r,Zu n,dflL R Zu_r,false⟩ (regs50 n)
theorem regs51_ok (n:Nat):RegsOK E (regs51 n):=addF_ok (regs50_ok n) (Zu_ok n)
def ZA_a:Ann:=⟨[(2,⟨[0,1],[],⟨[(5,.d (.int .i64))],[]⟩,[(.exit 0,⟨[],[]⟩),(.ret,⟨[(4,.d .bool)],[]⟩)]⟩)],[]⟩
abbrev ZA_p:List Sk:=[.d (.slice (.int .i64)),.d (.int .i64)]
abbrev ZA_r:List Sk:=[.d .bool]
@[irreducible] noncomputable def ZA (n:Nat) (p:PayL R.T ZA_p):Option (PayL R.T ZA_r):=funM E R n false (regs51 n) (its19 n) ZA_a Tryz.f51 ZA_p ZA_r p
theorem ZA_ok (n:Nat) (p:PayL R.T ZA_p) (x:PayL R.T ZA_r) (h:ZA n p=some x):Pure E 51 (encSL R ZA_p p) (retV (encSL R ZA_r x)):=by
 unfold ZA at h
 exact funM_ok rOK (regs51_ok n) (its19_ok n) h Tryz.func51 rfl rfl rfl rfl (by kernel_rfl)
noncomputable def regs52 (n:Nat):Nat->List (FR R):=addF 51 ⟨ZA_p,ZA_r,ZA n,dflL R ZA_r,false⟩ (regs51 n)
theorem regs52_ok (n:Nat):RegsOK E (regs52 n):=addF_ok (regs51_ok n) (ZA_ok n)
def Zc_a:Ann:=⟨[(4,⟨[0,3],[3],⟨[(5,.d (.int .i64))],[]⟩,[(.exit 0,⟨[],[]⟩),(.ret,⟨[(4,.d .bool)],[]⟩)]⟩),
 (10,⟨[0,3,5,6],[3,6],⟨[(7,.d (.int .i64))],[]⟩,[(.exit 2,⟨[],[]⟩),(.ret,⟨[(4,.d .bool)],[]⟩)]⟩)],[]⟩
abbrev Zc_p:List Sk:=[.d (.int .i64),.d (.st 1)]
abbrev Zc_r:List Sk:=[.d .bool]
@[irreducible] noncomputable def Zc (n:Nat) (p:PayL R.T Zc_p):Option (PayL R.T Zc_r):=funM E R n false (regs52 n) (its19 n) Zc_a Tryz.f25 Zc_p Zc_r p
theorem Zc_ok (n:Nat) (p:PayL R.T Zc_p) (x:PayL R.T Zc_r) (h:Zc n p=some x):Pure E 25 (encSL R Zc_p p) (retV (encSL R Zc_r x)):=by
 unfold Zc at h
 exact funM_ok rOK (regs52_ok n) (its19_ok n) h Tryz.func25 rfl rfl rfl rfl (by kernel_rfl)
noncomputable def regs53 (n:Nat):Nat->List (FR R):=addF 25 ⟨Zc_p,Zc_r,Zc n,dflL R Zc_r,false⟩ (regs52 n)
theorem regs53_ok (n:Nat):RegsOK E (regs53 n):=addF_ok (regs52_ok n) (Zc_ok n)
def Xn_a:Ann:=⟨[],[]⟩
abbrev Xn_p:List Sk:=[.d (.int .i64),.d (.slice (.slice (.int .i64))),.d (.st 1)]
abbrev Xn_r:List Sk:=[.d .bool]
@[irreducible] noncomputable def Xn (n:Nat) (p:PayL R.T Xn_p):Option (PayL R.T Xn_r):=funM E R n false (regs53 n) (its19 n) Xn_a Tryz.f49 Xn_p Xn_r p
theorem Xn_ok (n:Nat) (p:PayL R.T Xn_p) (x:PayL R.T Xn_r) (h:Xn n p=some x):Pure E 49 (encSL R Xn_p p) (retV (encSL R Xn_r x)):=by
 unfold Xn at h
 exact funM_ok rOK (regs53_ok n) (its19_ok n) h Tryz.func49 rfl rfl rfl rfl (by kernel_rfl)
noncomputable def regs54 (n:Nat):Nat->List (FR R):=addF 49 ⟨Xn_p,Xn_r,Xn n,dflL R Xn_r,false⟩ (regs53 n)
theorem regs54_ok (n:Nat):RegsOK E (regs54 n):=addF_ok (regs53_ok n) (Xn_ok n)
def Xo_a:Ann:=⟨[],[]⟩
abbrev Xo_p:List Sk:=[.d (.slice (.int .i64)),.d (.slice (.int .i64))]
abbrev Xo_r:List Sk:=[.d .bool]
@[irreducible] noncomputable def Xo (n:Nat) (p:PayL R.T Xo_p):Option (PayL R.T Xo_r):=funM E R n false (regs54 n) (its19 n) Xo_a Tryz.f27 Xo_p Xo_r p
theorem Xo_ok (n:Nat) (p:PayL R.T Xo_p) (x:PayL R.T Xo_r) (h:Xo n p=some x):Pure E 27 (encSL R Xo_p p) (retV (encSL R Xo_r x)):=by
 unfold Xo at h
 exact funM_ok rOK (regs54_ok n) (its19_ok n) h Tryz.func27 rfl rfl rfl rfl (by kernel_rfl)
noncomputable def regs55 (n:Nat):Nat->List (FR R):=addF 27 ⟨Xo_p,Xo_r,Xo n,dflL R Xo_r,false⟩ (regs54 n)
theorem regs55_ok (n:Nat):RegsOK E (regs55 n):=addF_ok (regs54_ok n) (Xo_ok n)
def Xp_a:Ann:=⟨[],[]⟩
abbrev Xp_p:List Sk:=[.d (.int .i64),.d (.slice (.slice (.int .i64))),.d (.st 1),.d (.slice (.int .i64)),.d (.int .i64)]
abbrev Xp_r:List Sk:=[.d .bool]
@[irreducible] noncomputable def Xp (n:Nat) (p:PayL R.T Xp_p):Option (PayL R.T Xp_r):=funM E R n false (regs55 n) (its19 n) Xp_a Tryz.f38 Xp_p Xp_r p
theorem Xp_ok (n:Nat) (p:PayL R.T Xp_p) (x:PayL R.T Xp_r) (h:Xp n p=some x):Pure E 38 (encSL R Xp_p p) (retV (encSL R Xp_r x)):=by
 unfold Xp at h
 exact funM_ok rOK (regs55_ok n) (its19_ok n) h Tryz.func38 rfl rfl rfl rfl (by kernel_rfl)
noncomputable def regs56 (n:Nat):Nat->List (FR R):=addF 38 ⟨Xp_p,Xp_r,Xp n,dflL R Xp_r,false⟩ (regs55 n)
theorem regs56_ok (n:Nat):RegsOK E (regs56 n):=addF_ok (regs55_ok n) (Xp_ok n)
def ZB_a:Ann:=⟨[(3,⟨[0,1],[],⟨[(5,.l (.own 24) (.int .i64)),(6,.d (.int .i64))],[]⟩,[(.exit 0,⟨[(5,.l (.own 24) (.int .i64))],[]⟩)]⟩)],[]⟩
abbrev ZB_p:List Sk:=[.d (.slice (.int .i64)),.d (.slice (.int .i64))]
abbrev ZB_r:List Sk:=[.d (.slice (.int .i64))]
@[irreducible] noncomputable def ZB (n:Nat) (p:PayL R.T ZB_p):Option (PayL R.T ZB_r):=funM E R n false (regs56 n) (its19 n) ZB_a Tryz.f64 ZB_p ZB_r p
theorem ZB_ok (n:Nat) (p:PayL R.T ZB_p) (x:PayL R.T ZB_r) (h:ZB n p=some x):Pure E 64 (encSL R ZB_p p) (retV (encSL R ZB_r x)):=by
 unfold ZB at h
 exact funM_ok rOK (regs56_ok n) (its19_ok n) h Tryz.func64 rfl rfl rfl rfl (by kernel_rfl)
noncomputable def regs57 (n:Nat):Nat->List (FR R):=addF 64 ⟨ZB_p,ZB_r,ZB n,dflL R ZB_r,false⟩ (regs56 n)
theorem regs57_ok (n:Nat):RegsOK E (regs57 n):=addF_ok (regs56_ok n) (ZB_ok n)
def Xi_a:Ann:=⟨[],[]⟩
abbrev Xi_p:List Sk:=[.d (.int .i64)]
abbrev Xi_r:List Sk:=[.d (.int .i64)]
@[irreducible] noncomputable def Xi (n:Nat) (p:PayL R.T Xi_p):Option (PayL R.T Xi_r):=funM E R n false (regs57 n) (its19 n) Xi_a Tryz.f81 Xi_p Xi_r p
theorem Xi_ok (n:Nat) (p:PayL R.T Xi_p) (x:PayL R.T Xi_r) (h:Xi n p=some x):Pure E 81 (encSL R Xi_p p) (retV (encSL R Xi_r x)):=by
 unfold Xi at h
 exact funM_ok rOK (regs57_ok n) (its19_ok n) h Tryz.func81 rfl rfl rfl rfl (by kernel_rfl)
noncomputable def regs58 (n:Nat):Nat->List (FR R):=addF 81 ⟨Xi_p,Xi_r,Xi n,dflL R Xi_r,false⟩ (regs57 n)
theorem regs58_ok (n:Nat):RegsOK E (regs58 n):=addF_ok (regs57_ok n) (Xi_ok n)
def Zq_a:Ann:=⟨[(3,⟨[0,1],[],⟨[(5,.d (.int .i64)),(6,.d (.int .i64))],[]⟩,[(.exit 0,⟨[(5,.d (.int .i64))],[]⟩)]⟩)],[]⟩
abbrev Zq_p:List Sk:=[.d (.int .i64),.d (.slice (.int .i64))]
abbrev Zq_r:List Sk:=[.d (.int .i64)]
@[irreducible] noncomputable def Zq (n:Nat) (p:PayL R.T Zq_p):Option (PayL R.T Zq_r):=funM E R n false (regs58 n) (its19 n) Zq_a Tryz.f63 Zq_p Zq_r p
theorem Zq_ok (n:Nat) (p:PayL R.T Zq_p) (x:PayL R.T Zq_r) (h:Zq n p=some x):Pure E 63 (encSL R Zq_p p) (retV (encSL R Zq_r x)):=by
 unfold Zq at h
 exact funM_ok rOK (regs58_ok n) (its19_ok n) h Tryz.func63 rfl rfl rfl rfl (by kernel_rfl)
noncomputable def regs59 (n:Nat):Nat->List (FR R):=addF 63 ⟨Zq_p,Zq_r,Zq n,dflL R Zq_r,false⟩ (regs58 n)
theorem regs59_ok (n:Nat):RegsOK E (regs59 n):=addF_ok (regs58_ok n) (Zq_ok n)
def ZG_a:Ann:=⟨[],[]⟩
abbrev ZG_p:List Sk:=[.d (.int .i64),.d (.slice (.int .i64)),.d (.slice (.int .i64))]
abbrev ZG_r:List Sk:=[.d (.int .i64)]
@[irreducible] noncomputable def ZG (n:Nat) (p:PayL R.T ZG_p):Option (PayL R.T ZG_r):=funM E R n false (regs59 n) (its19 n) ZG_a Tryz.f39 ZG_p ZG_r p
theorem ZG_ok (n:Nat) (p:PayL R.T ZG_p) (x:PayL R.T ZG_r) (h:ZG n p=some x):Pure E 39 (encSL R ZG_p p) (retV (encSL R ZG_r x)):=by
 unfold ZG at h
 exact funM_ok rOK (regs59_ok n) (its19_ok n) h Tryz.func39 rfl rfl rfl rfl (by kernel_rfl)
noncomputable def regs60 (n:Nat):Nat->List (FR R):=addF 39 ⟨ZG_p,ZG_r,ZG n,dflL R ZG_r,false⟩ (regs59 n)
theorem regs60_ok (n:Nat):RegsOK E (regs60 n):=addF_ok (regs59_ok n) (ZG_ok n)
def QR_a:Ann:=⟨[(3,⟨[0,1,2,9],[],⟨[(10,.d (.int .i64))],[(17,.arr (.int .i64))]⟩,[(.exit 0,⟨[],[(17,.arr (.int .i64))]⟩)]⟩),
 (6,⟨[0,1,2,9,10],[],⟨[(11,.d (.int .i64))],[(17,.arr (.int .i64))]⟩,[(.exit 2,⟨[],[(17,.arr (.int .i64))]⟩)]⟩)],[]⟩
abbrev QR_p:List Sk:=[.d (.int .i64),.d (.slice (.slice (.int .i64))),.d (.slice (.int .i64)),.d (.slice (.int .i64))]
abbrev QR_r:List Sk:=[.d (.slice (.int .i64))]
@[irreducible] noncomputable def QR (n:Nat) (p:PayL R.T QR_p):Option (PayL R.T QR_r):=funM E R n true (regs60 n) (its19 n) QR_a Tryz.f29 QR_p QR_r p
theorem QR_ok (n:Nat) (p:PayL R.T QR_p) (x:PayL R.T QR_r) (h:QR n p=some x):Pure E 29 (encSL R QR_p p) (retV (encSL R QR_r x)):=by
 unfold QR at h
 exact funM_ok rOK (regs60_ok n) (its19_ok n) h Tryz.func29 rfl rfl rfl rfl (by kernel_rfl)
noncomputable def regs61 (n:Nat):Nat->List (FR R):=addF 29 ⟨QR_p,QR_r,QR n,dflL R QR_r,false⟩ (regs60 n)
theorem regs61_ok (n:Nat):RegsOK E (regs61 n):=addF_ok (regs60_ok n) (QR_ok n)
def Zl_a:Ann:=⟨[(5,⟨[0,1,3,7,10],[7],⟨[(12,.l (.own 66) (.int .i64))],[(10,.st 2)]⟩,[(.ret,⟨[],[(10,.st 2)]⟩)]⟩)],[]⟩
abbrev Zl_p:List Sk:=[.d (.int .i64),.d (.slice (.slice (.int .i64))),.d (.st 1),.d (.slice (.int .i64)),.d (.int .i64)]
abbrev Zl_r:List Sk:=[.d (.st 2)]
@[irreducible] noncomputable def Zl (n:Nat) (p:PayL R.T Zl_p):Option (PayL R.T Zl_r):=funM E R n false (regs61 n) (its19 n) Zl_a Tryz.f12 Zl_p Zl_r p
theorem Zl_ok (n:Nat) (p:PayL R.T Zl_p) (x:PayL R.T Zl_r) (h:Zl n p=some x):Pure E 12 (encSL R Zl_p p) (retV (encSL R Zl_r x)):=by
 unfold Zl at h
 exact funM_ok rOK (regs61_ok n) (its19_ok n) h Tryz.func12 rfl rfl rfl rfl (by kernel_rfl)
noncomputable def regs62 (n:Nat):Nat->List (FR R):=addF 12 ⟨Zl_p,Zl_r,Zl n,dflL R Zl_r,false⟩ (regs61 n)
theorem regs62_ok (n:Nat):RegsOK E (regs62 n):=addF_ok (regs61_ok n) (Zl_ok n)
def Zv_a:Ann:=⟨[(5,⟨[0],[],⟨[(3,.d (.int .i64)),(4,.d (.int .i64))],[]⟩,[(.exit 0,⟨[(3,.d (.int .i64))],[]⟩)]⟩)],[(3,⟨[],[],⟨[],[]⟩,[(.normal,⟨[(0,.d (.int .i64))],[]⟩)]⟩)]⟩
abbrev Zv_p:List Sk:=[.d (.int .i64)]
abbrev Zv_r:List Sk:=[.d (.int .i64)]
@[irreducible] noncomputable def Zv (n:Nat) (p:PayL R.T Zv_p):Option (PayL R.T Zv_r):=funM E R n false (regs62 n) (its19 n) Zv_a Tryz.f66 Zv_p Zv_r p
theorem Zv_ok (n:Nat) (p:PayL R.T Zv_p) (x:PayL R.T Zv_r) (h:Zv n p=some x):Pure E 66 (encSL R Zv_p p) (retV (encSL R Zv_r x)):=by
 unfold Zv at h
 exact funM_ok rOK (regs62_ok n) (its19_ok n) h Tryz.func66 rfl rfl rfl rfl (by kernel_rfl)
noncomputable def regs63 (n:Nat):Nat->List (FR R):=addF 66 ⟨Zv_p,Zv_r,Zv n,dflL R Zv_r,false⟩ (regs62 n)
theorem regs63_ok (n:Nat):RegsOK E (regs63 n):=addF_ok (regs62_ok n) (Zv_ok n)
def Xq_a:Ann:=⟨[],[]⟩
abbrev Xq_p:List Sk:=[.d (.int .i64),.d (.int .i64),.d (.int .i64)]
abbrev Xq_r:List Sk:=[.d (.int .i64)]
@[irreducible] noncomputable def Xq (n:Nat) (p:PayL R.T Xq_p):Option (PayL R.T Xq_r):=funM E R n false (regs63 n) (its19 n) Xq_a Tryz.f41 Xq_p Xq_r p
theorem Xq_ok (n:Nat) (p:PayL R.T Xq_p) (x:PayL R.T Xq_r) (h:Xq n p=some x):Pure E 41 (encSL R Xq_p p) (retV (encSL R Xq_r x)):=by
 unfold Xq at h
 exact funM_ok rOK (regs63_ok n) (its19_ok n) h Tryz.func41 rfl rfl rfl rfl (by kernel_rfl)
noncomputable def regs64 (n:Nat):Nat->List (FR R):=addF 41 ⟨Xq_p,Xq_r,Xq n,dflL R Xq_r,false⟩ (regs63 n)
theorem regs64_ok (n:Nat):RegsOK E (regs64 n):=addF_ok (regs63_ok n) (Xq_ok n)
def ZV_a:Ann:=⟨[],[]⟩
abbrev ZV_p:List Sk:=[.d (.int .i64),.d (.int .i64),.d (.int .i64),.d (.int .i64)]
abbrev ZV_r:List Sk:=[.d .bool]
@[irreducible] noncomputable def ZV (n:Nat) (p:PayL R.T ZV_p):Option (PayL R.T ZV_r):=funM E R n false (regs64 n) (its19 n) ZV_a Tryz.f18 ZV_p ZV_r p
theorem ZV_ok (n:Nat) (p:PayL R.T ZV_p) (x:PayL R.T ZV_r) (h:ZV n p=some x):Pure E 18 (encSL R ZV_p p) (retV (encSL R ZV_r x)):=by
 unfold ZV at h
 exact funM_ok rOK (regs64_ok n) (its19_ok n) h Tryz.func18 rfl rfl rfl rfl (by kernel_rfl)
noncomputable def regs65 (n:Nat):Nat->List (FR R):=addF 18 ⟨ZV_p,ZV_r,ZV n,dflL R ZV_r,false⟩ (regs64 n)
theorem regs65_ok (n:Nat):RegsOK E (regs65 n):=addF_ok (regs64_ok n) (ZV_ok n)
def Za_a:Ann:=⟨[(5,⟨[0,1,3,5,8,12,13],[8,13],⟨[(14,.d (.int .i64))],[(12,.st 2)]⟩,[(.exit 0,⟨[],[(12,.st 2)]⟩),(.ret,⟨[],[(12,.st 2)]⟩)]⟩),
 (11,⟨[0,1,3,5,8,12,15,16],[8,12],⟨[(17,.d (.int .i64))],[(16,.cells [.l (.own 101) (.int .i64),.d (.int .i64),.d .bool,.d (.int .i64)])]⟩,[(.exit 2,⟨[],[(16,.cells [.l (.own 101) (.int .i64),.d (.int .i64),.d .bool,.d (.int .i64)])]⟩)]⟩)],[]⟩
abbrev Za_p:List Sk:=[.d (.int .i64),.d (.slice (.slice (.int .i64))),.d (.st 1),.d (.slice (.int .i64)),.d (.int .i64),.d (.int .i64)]
abbrev Za_r:List Sk:=[.d (.st 2)]
@[irreducible] noncomputable def Za (n:Nat) (p:PayL R.T Za_p):Option (PayL R.T Za_r):=funM E R n false (regs65 n) (its19 n) Za_a Tryz.f13 Za_p Za_r p
theorem Za_ok (n:Nat) (p:PayL R.T Za_p) (x:PayL R.T Za_r) (h:Za n p=some x):Pure E 13 (encSL R Za_p p) (retV (encSL R Za_r x)):=by
 unfold Za at h
 exact funM_ok rOK (regs65_ok n) (its19_ok n) h Tryz.func13 rfl rfl rfl rfl (by kernel_rfl)
noncomputable def regs66 (n:Nat):Nat->List (FR R):=addF 13 ⟨Za_p,Za_r,Za n,dflL R Za_r,false⟩ (regs65 n)
theorem regs66_ok (n:Nat):RegsOK E (regs66 n):=addF_ok (regs65_ok n) (Za_ok n)
def ZX_a:Ann:=⟨[],[]⟩
abbrev ZX_p:List Sk:=[.d (.int .i64),.d (.slice (.slice (.int .i64))),.d (.st 1),.d (.slice (.int .i64)),.d (.int .i64),.d (.int .i64)]
abbrev ZX_r:List Sk:=[.d (.st 2)]
@[irreducible] noncomputable def ZX (n:Nat) (p:PayL R.T ZX_p):Option (PayL R.T ZX_r):=funM E R n false (regs66 n) (its19 n) ZX_a Tryz.f14 ZX_p ZX_r p
theorem ZX_ok (n:Nat) (p:PayL R.T ZX_p) (x:PayL R.T ZX_r) (h:ZX n p=some x):Pure E 14 (encSL R ZX_p p) (retV (encSL R ZX_r x)):=by
 unfold ZX at h
 exact funM_ok rOK (regs66_ok n) (its19_ok n) h Tryz.func14 rfl rfl rfl rfl (by kernel_rfl)
noncomputable def regs67 (n:Nat):Nat->List (FR R):=addF 14 ⟨ZX_p,ZX_r,ZX n,dflL R ZX_r,false⟩ (regs66 n)
theorem regs67_ok (n:Nat):RegsOK E (regs67 n):=addF_ok (regs66_ok n) (ZX_ok n)
def Zr_a:Ann:=⟨[(4,⟨[0,1],[],⟨[(5,.d (.int .i64))],[]⟩,[(.exit 0,⟨[],[]⟩),(.ret,⟨[(4,.d .bool)],[]⟩)]⟩)],[]⟩
abbrev Zr_p:List Sk:=[.d (.slice (.int .i64)),.d (.slice (.int .i64))]
abbrev Zr_r:List Sk:=[.d .bool]
@[irreducible] noncomputable def Zr (n:Nat) (p:PayL R.T Zr_p):Option (PayL R.T Zr_r):=funM E R n false (regs67 n) (its19 n) Zr_a Tryz.f15 Zr_p Zr_r p
theorem Zr_ok (n:Nat) (p:PayL R.T Zr_p) (x:PayL R.T Zr_r) (h:Zr n p=some x):Pure E 15 (encSL R Zr_p p) (retV (encSL R Zr_r x)):=by
 unfold Zr at h
 exact funM_ok rOK (regs67_ok n) (its19_ok n) h Tryz.func15 rfl rfl rfl rfl (by kernel_rfl)
noncomputable def regs68 (n:Nat):Nat->List (FR R):=addF 15 ⟨Zr_p,Zr_r,Zr n,dflL R Zr_r,false⟩ (regs67 n)
theorem regs68_ok (n:Nat):RegsOK E (regs68 n):=addF_ok (regs67_ok n) (Zr_ok n)
def XG_a:Ann:=⟨[],[]⟩
abbrev XG_p:List Sk:=[.d (.int .i64),.d (.slice (.slice (.int .i64))),.d (.st 1),.d (.slice (.int .i64)),.d (.int .i64),.d (.int .i64),.d (.int .i64)]
abbrev XG_r:List Sk:=[.d .bool]
@[irreducible] noncomputable def XG (n:Nat) (p:PayL R.T XG_p):Option (PayL R.T XG_r):=funM E R n false (regs68 n) (its19 n) XG_a Tryz.f3 XG_p XG_r p
theorem XG_ok (n:Nat) (p:PayL R.T XG_p) (x:PayL R.T XG_r) (h:XG n p=some x):Pure E 3 (encSL R XG_p p) (retV (encSL R XG_r x)):=by
 unfold XG at h
 exact funM_ok rOK (regs68_ok n) (its19_ok n) h Tryz.func3 rfl rfl rfl rfl (by kernel_rfl)
end Sh
