import Derived.Test.YtgdialomgeijcaaGreatF3720
set_option linter.all false
noncomputable section
open Go Go.Proofs Aq
namespace Sh
set_option maxRecDepth 100000
abbrev FTz (a r:List Sk):=PayL R.T a->Option (PayL R.T r)
abbrev RGz:=Nat->List (FR R)
def dz (i:Nat) (a r:List Sk) (F:PayL R.T a->Option (PayL R.T r)):Prop:=∀p x,F p=some x->Pure E i (encSL R a p) (retV (encSL R r x))
theorem okF {n:Nat} {om:Bool} {F:Nat->List (FR R)} {A:Ann} {i:Nat} {fn:Func} {a r:List Sk} {p:PayL R.T a} {x:PayL R.T r} (hF:RegsOK E F) (h:funM E R n om F iters A fn a r p=some x) (hf:E.P.funcs[i]? =some fn) (hok:(match fn.body with|some c=>decide (a.length<=fn.ntmps)&& aP fn.ntmps c&& jc E c|none=>false)=true)
 (ha:cSkL a=true:=by rfl) (hl:(encSL R a p).length=a.length:=by rfl) (ho:E.om i=om:=by rfl) (hs:E.summ i=none:=by rfl):Pure E i (encSL R a p) (retV (encSL R r x)):=funM_ok rOK hF iters_ok h hf ha hl ho hs hok
def Zm_a:Ann:=⟨[(2,⟨[1,2],[2],⟨[(5,.d (.int .i64))],[]⟩,[(.exit 0,⟨[],[]⟩),(.ret,⟨[(4,.d .bool)],[]⟩)]⟩),
 (8,⟨[1,2,5,6],[2,6],⟨[(7,.d (.int .i64))],[]⟩,[(.exit 2,⟨[],[]⟩),(.ret,⟨[(4,.d .bool)],[]⟩)]⟩)],[]⟩
abbrev Zm_p:List Sk:=[.d (.st 2),.d (.int .i64)]
abbrev Zm_r:List Sk:=[.d .bool]
@[irreducible] def Zm (n:Nat):FTz Zm_p Zm_r:=funM E R n false (g_0 n) iters Zm_a Tryz.f46 Zm_p Zm_r
theorem Zm_ok (n:Nat):dz 46 Zm_p Zm_r (Zm n):=fun _ _ h=>by unfold Zm at h;exact okF (g_0_ok n) h Tryz.func46 (by kernel_rfl)
def g_1 (n:Nat):RGz:=addF 46 ⟨Zm_p,Zm_r,Zm n,dflL R Zm_r,false⟩ (g_0 n)
theorem g_1_ok (n:Nat):RegsOK E (g_1 n):=addF_ok (g_0_ok n) (Zm_ok n)
def Xi_a:Ann:=⟨[],[]⟩
abbrev Xi_p:List Sk:=[.d (.int .i64)]
abbrev Xi_r:List Sk:=[.d .bool]
@[irreducible] def Xi (n:Nat):FTz Xi_p Xi_r:=funM E R n false (g_1 n) iters Xi_a Tryz.f73 Xi_p Xi_r
theorem Xi_ok (n:Nat):dz 73 Xi_p Xi_r (Xi n):=fun _ _ h=>by unfold Xi at h;exact okF (g_1_ok n) h Tryz.func73 (by kernel_rfl)
def g_2 (n:Nat):RGz:=addF 73 ⟨Xi_p,Xi_r,Xi n,dflL R Xi_r,false⟩ (g_1 n)
theorem g_2_ok (n:Nat):RegsOK E (g_2 n):=addF_ok (g_1_ok n) (Xi_ok n)
def Zz_a:Ann:=⟨[(2,⟨[0,1],[],⟨[(5,.d (.int .i64))],[]⟩,[(.exit 0,⟨[],[]⟩),(.ret,⟨[(4,.d .bool)],[]⟩)]⟩)],[]⟩
abbrev Zz_p:List Sk:=[.d (.slice .str),.d .str]
abbrev Zz_r:List Sk:=[.d .bool]
@[irreducible] def Zz (n:Nat):FTz Zz_p Zz_r:=funM E R n false (g_2 n) iters Zz_a Tryz.f83 Zz_p Zz_r
theorem Zz_ok (n:Nat):dz 83 Zz_p Zz_r (Zz n):=fun _ _ h=>by unfold Zz at h;exact okF (g_2_ok n) h Tryz.func83 (by kernel_rfl)
def g_3 (n:Nat):RGz:=addF 83 ⟨Zz_p,Zz_r,Zz n,dflL R Zz_r,false⟩ (g_2 n)
theorem g_3_ok (n:Nat):RegsOK E (g_3 n):=addF_ok (g_2_ok n) (Zz_ok n)
def Zx_a:Ann:=⟨[(2,⟨[0],[],⟨[(3,.d (.int .i64))],[]⟩,[(.exit 0,⟨[],[]⟩),(.ret,⟨[(2,.d .bool)],[]⟩)]⟩)],[]⟩
abbrev Zx_p:List Sk:=[.d .str]
abbrev Zx_r:List Sk:=[.d .bool]
@[irreducible] def Zx (n:Nat):FTz Zx_p Zx_r:=funM E R n false (g_3 n) iters Zx_a Tryz.f87 Zx_p Zx_r
theorem Zx_ok (n:Nat):dz 87 Zx_p Zx_r (Zx n):=fun _ _ h=>by unfold Zx at h;exact okF (g_3_ok n) h Tryz.func87 (by kernel_rfl)
def g_4 (n:Nat):RGz:=addF 87 ⟨Zx_p,Zx_r,Zx n,dflL R Zx_r,false⟩ (g_3 n)
theorem g_4_ok (n:Nat):RegsOK E (g_4 n):=addF_ok (g_3_ok n) (Zx_ok n)
def Zn_a:Ann:=⟨[(4,⟨[0],[],⟨[(3,.d (.int .i64))],[]⟩,[(.exit 0,⟨[],[]⟩),(.ret,⟨[(2,.d (.int .i64))],[]⟩)]⟩),
 (9,⟨[0],[],⟨[(4,.d (.int .i64))],[]⟩,[(.exit 2,⟨[],[]⟩),(.ret,⟨[(2,.d (.int .i64))],[]⟩)]⟩)],[]⟩
abbrev Zn_p:List Sk:=[.d (.slice .str)]
abbrev Zn_r:List Sk:=[.d (.int .i64)]
@[irreducible] def Zn (n:Nat):FTz Zn_p Zn_r:=funM E R n false (g_4 n) iters Zn_a Tryz.f88 Zn_p Zn_r
theorem Zn_ok (n:Nat):dz 88 Zn_p Zn_r (Zn n):=fun _ _ h=>by unfold Zn at h;exact okF (g_4_ok n) h Tryz.func88 (by kernel_rfl)
def g_5 (n:Nat):RGz:=addF 88 ⟨Zn_p,Zn_r,Zn n,dflL R Zn_r,false⟩ (g_4 n)
theorem g_5_ok (n:Nat):RegsOK E (g_5 n):=addF_ok (g_4_ok n) (Zn_ok n)
def ZT_a:Ann:=⟨[],[]⟩
abbrev ZT_p:List Sk:=[.d (.st 1),.d .str]
abbrev ZT_r:List Sk:=[.d (.int .i64)]
@[irreducible] def ZT (n:Nat):FTz ZT_p ZT_r:=funM E R n false (g_5 n) iters ZT_a Tryz.f74 ZT_p ZT_r
theorem ZT_ok (n:Nat):dz 74 ZT_p ZT_r (ZT n):=fun _ _ h=>by unfold ZT at h;exact okF (g_5_ok n) h Tryz.func74 (by kernel_rfl)
def g_6 (n:Nat):RGz:=addF 74 ⟨ZT_p,ZT_r,ZT n,dflL R ZT_r,false⟩ (g_5 n)
theorem g_6_ok (n:Nat):RegsOK E (g_6 n):=addF_ok (g_5_ok n) (ZT_ok n)
def Zy_a:Ann:=⟨[(7,⟨[1],[1],⟨[(3,.d .str),(4,.d (.int .i64))],[]⟩,[(.exit 0,⟨[],[]⟩),(.ret,⟨[(2,.d (.int .i64))],[]⟩)]⟩)],[]⟩
abbrev Zy_p:List Sk:=[.d (.st 2)]
abbrev Zy_r:List Sk:=[.d (.int .i64)]
@[irreducible] def Zy (n:Nat):FTz Zy_p Zy_r:=funM E R n false (g_6 n) iters Zy_a Tryz.f47 Zy_p Zy_r
theorem Zy_ok (n:Nat):dz 47 Zy_p Zy_r (Zy n):=fun _ _ h=>by unfold Zy at h;exact okF (g_6_ok n) h Tryz.func47 (by kernel_rfl)
def g_7 (n:Nat):RGz:=addF 47 ⟨Zy_p,Zy_r,Zy n,dflL R Zy_r,false⟩ (g_6 n)
theorem g_7_ok (n:Nat):RegsOK E (g_7 n):=addF_ok (g_6_ok n) (Zy_ok n)
def Xj_a:Ann:=⟨[],[]⟩
abbrev Xj_p:List Sk:=[.d (.st 2)]
abbrev Xj_r:List Sk:=[.d .bool]
@[irreducible] def Xj (n:Nat):FTz Xj_p Xj_r:=funM E R n false (g_7 n) iters Xj_a Tryz.f18 Xj_p Xj_r
theorem Xj_ok (n:Nat):dz 18 Xj_p Xj_r (Xj n):=fun _ _ h=>by unfold Xj at h;exact okF (g_7_ok n) h Tryz.func18 (by kernel_rfl)
def g_8 (n:Nat):RGz:=addF 18 ⟨Xj_p,Xj_r,Xj n,dflL R Xj_r,false⟩ (g_7 n)
theorem g_8_ok (n:Nat):RegsOK E (g_8 n):=addF_ok (g_7_ok n) (Xj_ok n)
def Zb_a:Ann:=⟨[(3,⟨[1],[1],⟨[(3,.l (.own 26) (.st 0)),(4,.d (.int .i64))],[]⟩,[(.exit 0,⟨[(3,.l (.own 26) (.st 0))],[]⟩)]⟩)],[]⟩
abbrev Zb_p:List Sk:=[.d (.st 0)]
abbrev Zb_r:List Sk:=[.d (.slice (.st 0))]
def grp1_a:Nat->List Sk
 |_=>Zb_p
def grp1_r:Nat->List Sk
 |_=>Zb_r
def grp1_n:Nat->Ann
 |_=>Zb_a
def grp1_f:Nat->Func
 |_=>Tryz.f39
def grp1_k (n:Nat) (g:(i:Nat)->PayL R.T (grp1_a i)->Option (PayL R.T (grp1_r i))):Nat->List (FR R):=addF 39 ⟨grp1_a 0,grp1_r 0,g 0,dflL R (grp1_r 0),false⟩ (g_8 n)
def grp1 (n:Nat):Nat->(i:Nat)->PayL R.T (grp1_a i)->Option (PayL R.T (grp1_r i))
 |0,_,_=>none
 |m+1,i,p=>funM E R n false (grp1_k n (grp1 n m)) iters (grp1_n i) (grp1_f i) (grp1_a i) (grp1_r i) p
attribute [irreducible] grp1
theorem Zb_e (n m:Nat) (p:PayL R.T Zb_p):grp1 n (m+1) 0 p=funM E R n false (grp1_k n (grp1 n m)) iters Zb_a Tryz.f39 Zb_p Zb_r p:=by kernel_rfl
theorem Zb_e0 (n:Nat) (p:PayL R.T Zb_p):grp1 n 0 0 p=none:=by kernel_rfl
theorem Zb_z0 (n:Nat) (p:PayL R.T (grp1_a 0)) (x:PayL R.T (grp1_r 0)) (h:grp1 n 0 0 p=some x):Pure E 39 (encSL R (grp1_a 0) p) (retV (encSL R (grp1_r 0) x)):=absurd ((Zb_e0 n p).symm.trans h) nofun
theorem Zb_z (n m:Nat) (hk:RegsOK E (grp1_k n (grp1 n m))) (p:PayL R.T (grp1_a 0)) (x:PayL R.T (grp1_r 0)) (h:grp1 n (m+1) 0 p=some x):Pure E 39 (encSL R (grp1_a 0) p) (retV (encSL R (grp1_r 0) x)):=
 funM_ok (args:=Zb_p) (res:=Zb_r) rOK hk iters_ok ((Zb_e n m p).symm.trans h) Tryz.func39 rfl rfl rfl rfl (by kernel_rfl)
theorem grp1_ok (n:Nat):∀m,RegsOK E (grp1_k n (grp1 n m))
 |0=>addF_ok (f:=39) (r:=⟨grp1_a 0,grp1_r 0,grp1 n 0 0,dflL R (grp1_r 0),false⟩) (g_8_ok n) (Zb_z0 n)
 |m+1=>addF_ok (f:=39) (r:=⟨grp1_a 0,grp1_r 0,grp1 n (m+1) 0,dflL R (grp1_r 0),false⟩) (g_8_ok n) (Zb_z n m (grp1_ok n m))
@[irreducible] def Zb_m (n m:Nat) (p:PayL R.T Zb_p):Option (PayL R.T Zb_r):=grp1 n m 0 p
@[irreducible] def Zb (n:Nat) (p:PayL R.T Zb_p):Option (PayL R.T Zb_r):=Zb_m n n p
theorem Zb_ok (n:Nat) (p:PayL R.T Zb_p) (x:PayL R.T Zb_r) (h:Zb n p=some x):Pure E 39 (encSL R Zb_p p) (retV (encSL R Zb_r x)):=by
 unfold Zb Zb_m at h
 cases n with
 |zero=>exact absurd ((Zb_e0 0 p).symm.trans h) nofun
 |succ n=>exact funM_ok (args:=Zb_p) (res:=Zb_r) rOK (grp1_ok (n+1) n) iters_ok ((Zb_e (n+1) n p).symm.trans h) Tryz.func39 rfl rfl rfl rfl (by kernel_rfl)
def g_9 (n:Nat):RGz:=addF 39 ⟨Zb_p,Zb_r,Zb n,dflL R Zb_r,false⟩ (g_8 n)
theorem g_9_ok (n:Nat):RegsOK E (g_9 n):=addF_ok (g_8_ok n) (Zb_ok n)
def ZO_a:Ann:=⟨[],[]⟩
abbrev ZO_p:List Sk:=[.d (.st 0)]
abbrev ZO_r:List Sk:=[.d (.int .i64)]
@[irreducible] def ZO (n:Nat):FTz ZO_p ZO_r:=funM E R n false (g_9 n) iters ZO_a Tryz.f15 ZO_p ZO_r
theorem ZO_ok (n:Nat):dz 15 ZO_p ZO_r (ZO n):=fun _ _ h=>by unfold ZO at h;exact okF (g_9_ok n) h Tryz.func15 (by kernel_rfl)
def g_10 (n:Nat):RGz:=addF 15 ⟨ZO_p,ZO_r,ZO n,dflL R ZO_r,false⟩ (g_9 n)
theorem g_10_ok (n:Nat):RegsOK E (g_10 n):=addF_ok (g_9_ok n) (ZO_ok n)
def Zc_a:Ann:=⟨[(4,⟨[1,2],[2],⟨[(5,.d (.int .i64))],[]⟩,[(.exit 0,⟨[],[]⟩),(.ret,⟨[(4,.d .bool)],[]⟩)]⟩)],[]⟩
abbrev Zc_p:List Sk:=[.d (.st 0),.d (.int .i64)]
abbrev Zc_r:List Sk:=[.d .bool]
def grp2_a:Nat->List Sk
 |_=>Zc_p
def grp2_r:Nat->List Sk
 |_=>Zc_r
def grp2_n:Nat->Ann
 |_=>Zc_a
def grp2_f:Nat->Func
 |_=>Tryz.f10
def grp2_k (n:Nat) (g:(i:Nat)->PayL R.T (grp2_a i)->Option (PayL R.T (grp2_r i))):Nat->List (FR R):=addF 10 ⟨grp2_a 0,grp2_r 0,g 0,dflL R (grp2_r 0),false⟩ (g_10 n)
def grp2 (n:Nat):Nat->(i:Nat)->PayL R.T (grp2_a i)->Option (PayL R.T (grp2_r i))
 |0,_,_=>none
 |m+1,i,p=>funM E R n false (grp2_k n (grp2 n m)) iters (grp2_n i) (grp2_f i) (grp2_a i) (grp2_r i) p
attribute [irreducible] grp2
theorem Zc_e (n m:Nat) (p:PayL R.T Zc_p):grp2 n (m+1) 0 p=funM E R n false (grp2_k n (grp2 n m)) iters Zc_a Tryz.f10 Zc_p Zc_r p:=by kernel_rfl
theorem Zc_e0 (n:Nat) (p:PayL R.T Zc_p):grp2 n 0 0 p=none:=by kernel_rfl
theorem Zc_z0 (n:Nat) (p:PayL R.T (grp2_a 0)) (x:PayL R.T (grp2_r 0)) (h:grp2 n 0 0 p=some x):Pure E 10 (encSL R (grp2_a 0) p) (retV (encSL R (grp2_r 0) x)):=absurd ((Zc_e0 n p).symm.trans h) nofun
theorem Zc_z (n m:Nat) (hk:RegsOK E (grp2_k n (grp2 n m))) (p:PayL R.T (grp2_a 0)) (x:PayL R.T (grp2_r 0)) (h:grp2 n (m+1) 0 p=some x):Pure E 10 (encSL R (grp2_a 0) p) (retV (encSL R (grp2_r 0) x)):=
 funM_ok (args:=Zc_p) (res:=Zc_r) rOK hk iters_ok ((Zc_e n m p).symm.trans h) Tryz.func10 rfl rfl rfl rfl (by kernel_rfl)
theorem grp2_ok (n:Nat):∀m,RegsOK E (grp2_k n (grp2 n m))
 |0=>addF_ok (f:=10) (r:=⟨grp2_a 0,grp2_r 0,grp2 n 0 0,dflL R (grp2_r 0),false⟩) (g_10_ok n) (Zc_z0 n)
 |m+1=>addF_ok (f:=10) (r:=⟨grp2_a 0,grp2_r 0,grp2 n (m+1) 0,dflL R (grp2_r 0),false⟩) (g_10_ok n) (Zc_z n m (grp2_ok n m))
@[irreducible] def Zc_m (n m:Nat) (p:PayL R.T Zc_p):Option (PayL R.T Zc_r):=grp2 n m 0 p
@[irreducible] def Zc (n:Nat) (p:PayL R.T Zc_p):Option (PayL R.T Zc_r):=Zc_m n n p
theorem Zc_ok (n:Nat) (p:PayL R.T Zc_p) (x:PayL R.T Zc_r) (h:Zc n p=some x):Pure E 10 (encSL R Zc_p p) (retV (encSL R Zc_r x)):=by
 unfold Zc Zc_m at h
 cases n with
 |zero=>exact absurd ((Zc_e0 0 p).symm.trans h) nofun
 |succ n=>exact funM_ok (args:=Zc_p) (res:=Zc_r) rOK (grp2_ok (n+1) n) iters_ok ((Zc_e (n+1) n p).symm.trans h) Tryz.func10 rfl rfl rfl rfl (by kernel_rfl)
def g_11 (n:Nat):RGz:=addF 10 ⟨Zc_p,Zc_r,Zc n,dflL R Zc_r,false⟩ (g_10 n)
theorem g_11_ok (n:Nat):RegsOK E (g_11 n):=addF_ok (g_10_ok n) (Zc_ok n)
def Xc_a:Ann:=⟨[],[]⟩
abbrev Xc_p:List Sk:=[.d (.st 0)]
abbrev Xc_r:List Sk:=[.fn 69 [] [.cref [.d (.int .i64),.d .str,.d (.int .i64),.d (.int .i64),.d .str,.d (.slice (.st 0))] 0]]
@[irreducible] def Xc (n:Nat):FTz Xc_p Xc_r:=funM E R n false (g_11 n) iters Xc_a Tryz.f38 Xc_p Xc_r
theorem Xc_ok (n:Nat):dz 38 Xc_p Xc_r (Xc n):=fun _ _ h=>by unfold Xc at h;exact okF (g_11_ok n) h Tryz.func38 (by kernel_rfl)
def g_12 (n:Nat):RGz:=addF 38 ⟨Xc_p,Xc_r,Xc n,dflL R Xc_r,false⟩ (g_11 n)
theorem g_12_ok (n:Nat):RegsOK E (g_12 n):=addF_ok (g_11_ok n) (Xc_ok n)
def Zs_a:Ann:=⟨[(3,⟨[3],[],⟨[],[(3,.cells [.d (.int .i64)])]⟩,[(.normal,⟨[],[(3,.cells [.d (.int .i64)])]⟩),(.exit 0,⟨[],[(3,.cells [.d (.int .i64)])]⟩)]⟩)],[]⟩
abbrev Zs_p:List Sk:=[.d (.st 0)]
abbrev Zs_r:List Sk:=[.d (.int .i64)]
@[irreducible] def Zs (n:Nat):FTz Zs_p Zs_r:=funM E R n false (g_12 n) iters Zs_a Tryz.f14 Zs_p Zs_r
theorem Zs_ok (n:Nat):dz 14 Zs_p Zs_r (Zs n):=fun _ _ h=>by unfold Zs at h;exact okF (g_12_ok n) h Tryz.func14 (by kernel_rfl)
def g_13 (n:Nat):RGz:=addF 14 ⟨Zs_p,Zs_r,Zs n,dflL R Zs_r,false⟩ (g_12 n)
theorem g_13_ok (n:Nat):RegsOK E (g_13 n):=addF_ok (g_12_ok n) (Zs_ok n)
def ZU_a:Ann:=⟨[],[]⟩
abbrev ZU_p:List Sk:=[.d (.st 0)]
abbrev ZU_r:List Sk:=[.d .bool]
@[irreducible] def ZU (n:Nat):FTz ZU_p ZU_r:=funM E R n false (g_13 n) iters ZU_a Tryz.f48 ZU_p ZU_r
theorem ZU_ok (n:Nat):dz 48 ZU_p ZU_r (ZU n):=fun _ _ h=>by unfold ZU at h;exact okF (g_13_ok n) h Tryz.func48 (by kernel_rfl)
def g_14 (n:Nat):RGz:=addF 48 ⟨ZU_p,ZU_r,ZU n,dflL R ZU_r,false⟩ (g_13 n)
theorem g_14_ok (n:Nat):RegsOK E (g_14 n):=addF_ok (g_13_ok n) (ZU_ok n)
def Xm_a:Ann:=⟨[],[]⟩
abbrev Xm_p:List Sk:=[.d (.st 1),.cref [.d .str] 0]
abbrev Xm_r:List Sk:=[.d .bool]
@[irreducible] def Xm (n:Nat):FTz Xm_p Xm_r:=funM E R n false (g_14 n) iters Xm_a Tryz.f76 Xm_p Xm_r
theorem Xm_ok (n:Nat):dz 76 Xm_p Xm_r (Xm n):=fun _ _ h=>by unfold Xm at h;exact okF (g_14_ok n) h Tryz.func76 (by kernel_rfl)
def g_15 (n:Nat):RGz:=addF 76 ⟨Xm_p,Xm_r,Xm n,dflL R Xm_r,false⟩ (g_14 n)
theorem g_15_ok (n:Nat):RegsOK E (g_15 n):=addF_ok (g_14_ok n) (Xm_ok n)
def ZG_a:Ann:=⟨[(2,⟨[0,1,7],[],⟨[(8,.d (.int .i64))],[]⟩,[(.exit 0,⟨[],[]⟩),(.ret,⟨[(4,.d (.int .i64))],[]⟩)]⟩)],[]⟩
abbrev ZG_p:List Sk:=[.d (.slice (.st 1)),.fn 76 [] [.cref [.d .str] 0]]
abbrev ZG_r:List Sk:=[.d (.int .i64)]
@[irreducible] def ZG (n:Nat):FTz ZG_p ZG_r:=funM E R n false (g_15 n) iters ZG_a Tryz.f75 ZG_p ZG_r
theorem ZG_ok (n:Nat):dz 75 ZG_p ZG_r (ZG n):=fun _ _ h=>by unfold ZG at h;exact okF (g_15_ok n) h Tryz.func75 (by kernel_rfl)
def g_16 (n:Nat):RGz:=addF 75 ⟨ZG_p,ZG_r,ZG n,dflL R ZG_r,false⟩ (g_15 n)
theorem g_16_ok (n:Nat):RegsOK E (g_16 n):=addF_ok (g_15_ok n) (ZG_ok n)
def ZV_a:Ann:=⟨[],[]⟩
abbrev ZV_p:List Sk:=[.d (.st 2),.d .str]
abbrev ZV_r:List Sk:=[.d (.st 1),.d .bool]
@[irreducible] def ZV (n:Nat):FTz ZV_p ZV_r:=funM E R n false (g_16 n) iters ZV_a Tryz.f49 ZV_p ZV_r
theorem ZV_ok (n:Nat):dz 49 ZV_p ZV_r (ZV n):=fun _ _ h=>by unfold ZV at h;exact okF (g_16_ok n) h Tryz.func49 (by kernel_rfl)
def g_17 (n:Nat):RGz:=addF 49 ⟨ZV_p,ZV_r,ZV n,dflL R ZV_r,false⟩ (g_16 n)
theorem g_17_ok (n:Nat):RegsOK E (g_17 n):=addF_ok (g_16_ok n) (ZV_ok n)
def Zt_a:Ann:=⟨[(5,⟨[2,4],[2],⟨[],[(4,.cells [.d (.int .i64)])]⟩,[(.normal,⟨[],[(4,.cells [.d (.int .i64)])]⟩),(.ret,⟨[],[(4,.cells [.d (.int .i64)])]⟩)]⟩)],[]⟩
abbrev Zt_p:List Sk:=[.d (.st 2),.d (.st 0)]
abbrev Zt_r:List Sk:=[.d (.int .i64)]
@[irreducible] def Zt (n:Nat):FTz Zt_p Zt_r:=funM E R n false (g_17 n) iters Zt_a Tryz.f19 Zt_p Zt_r
theorem Zt_ok (n:Nat):dz 19 Zt_p Zt_r (Zt n):=fun _ _ h=>by unfold Zt at h;exact okF (g_17_ok n) h Tryz.func19 (by kernel_rfl)
def g_18 (n:Nat):RGz:=addF 19 ⟨Zt_p,Zt_r,Zt n,dflL R Zt_r,false⟩ (g_17 n)
theorem g_18_ok (n:Nat):RegsOK E (g_18 n):=addF_ok (g_17_ok n) (Zt_ok n)
abbrev Xd_p:List Sk:=[]
abbrev Xd_r:List Sk:=[.d .bool]
@[irreducible] def Xd (n:Nat) (p:PayL R.T Xd_p):Option (PayL R.T Xd_r):=some true
theorem Xd_eq (n:Nat) (p:PayL R.T Xd_p):Xd n p=some true:=by unfold Xd;rfl
theorem Xd_ok (n:Nat) (p:PayL R.T Xd_p) (x:PayL R.T Xd_r) (h:Xd n p=some x):Pure E 11 (encSL R Xd_p p) (retV (encSL R Xd_r x)):=by
 unfold Xd at h
 exact sanP p x h
def g_19 (n:Nat):RGz:=addF 11 ⟨Xd_p,Xd_r,Xd n,dflL R Xd_r,false⟩ (g_18 n)
theorem g_19_ok (n:Nat):RegsOK E (g_19 n):=addF_ok (g_18_ok n) (Xd_ok n)
def Xe_a:Ann:=⟨[],[]⟩
abbrev Xe_p:List Sk:=[.d (.st 0)]
abbrev Xe_r:List Sk:=[.d (.st 0)]
@[irreducible] def Xe (n:Nat):FTz Xe_p Xe_r:=funM E R n false (g_19 n) iters Xe_a Tryz.f59 Xe_p Xe_r
theorem Xe_ok (n:Nat):dz 59 Xe_p Xe_r (Xe n):=fun _ _ h=>by unfold Xe at h;exact okF (g_19_ok n) h Tryz.func59 (by kernel_rfl)
def g_20 (n:Nat):RGz:=addF 59 ⟨Xe_p,Xe_r,Xe n,dflL R Xe_r,false⟩ (g_19 n)
theorem g_20_ok (n:Nat):RegsOK E (g_20 n):=addF_ok (g_19_ok n) (Xe_ok n)
def Xf_a:Ann:=⟨[],[]⟩
abbrev Xf_p:List Sk:=[.d .bool]
abbrev Xf_r:List Sk:=[.d (.st 0)]
@[irreducible] def Xf (n:Nat):FTz Xf_p Xf_r:=funM E R n false (g_20 n) iters Xf_a Tryz.f89 Xf_p Xf_r
theorem Xf_ok (n:Nat):dz 89 Xf_p Xf_r (Xf n):=fun _ _ h=>by unfold Xf at h;exact okF (g_20_ok n) h Tryz.func89 (by kernel_rfl)
def g_21 (n:Nat):RGz:=addF 89 ⟨Xf_p,Xf_r,Xf n,dflL R Xf_r,false⟩ (g_20 n)
theorem g_21_ok (n:Nat):RegsOK E (g_21 n):=addF_ok (g_20_ok n) (Xf_ok n)
def Xg_a:Ann:=⟨[],[]⟩
abbrev Xg_p:List Sk:=[.d (.int .i64)]
abbrev Xg_r:List Sk:=[.d .bool]
@[irreducible] def Xg (n:Nat):FTz Xg_p Xg_r:=funM E R n false (g_21 n) iters Xg_a Tryz.f71 Xg_p Xg_r
theorem Xg_ok (n:Nat):dz 71 Xg_p Xg_r (Xg n):=fun _ _ h=>by unfold Xg at h;exact okF (g_21_ok n) h Tryz.func71 (by kernel_rfl)
def g_22 (n:Nat):RGz:=addF 71 ⟨Xg_p,Xg_r,Xg n,dflL R Xg_r,false⟩ (g_21 n)
theorem g_22_ok (n:Nat):RegsOK E (g_22 n):=addF_ok (g_21_ok n) (Xg_ok n)
def ZW_a:Ann:=⟨[],[]⟩
abbrev ZW_p:List Sk:=[.d (.int .i64),.d (.int .i64)]
abbrev ZW_r:List Sk:=[.d (.int .i64)]
@[irreducible] def ZW (n:Nat):FTz ZW_p ZW_r:=funM E R n false (g_22 n) iters ZW_a Tryz.f41 ZW_p ZW_r
theorem ZW_ok (n:Nat):dz 41 ZW_p ZW_r (ZW n):=fun _ _ h=>by unfold ZW at h;exact okF (g_22_ok n) h Tryz.func41 (by kernel_rfl)
def g_23 (n:Nat):RGz:=addF 41 ⟨ZW_p,ZW_r,ZW n,dflL R ZW_r,false⟩ (g_22 n)
theorem g_23_ok (n:Nat):RegsOK E (g_23 n):=addF_ok (g_22_ok n) (ZW_ok n)
abbrev Xk_p:List Sk:=[.d .str,.d .str]
abbrev Xk_r:List Sk:=[.d (.int .i64)]
@[irreducible] def Xk (n:Nat) (p:PayL R.T Xk_p):Option (PayL R.T Xk_r):=some (cmpS p.1 p.2)
theorem Xk_ok (n:Nat) (p:PayL R.T Xk_p) (x:PayL R.T Xk_r) (h:Xk n p=some x):Pure E 42 (encSL R Xk_p p) (retV (encSL R Xk_r x)):=by
 unfold Xk at h
 exact strP p x h
def g_24 (n:Nat):RGz:=addF 42 ⟨Xk_p,Xk_r,Xk n,dflL R Xk_r,false⟩ (g_23 n)
theorem g_24_ok (n:Nat):RegsOK E (g_24 n):=addF_ok (g_23_ok n) (Xk_ok n)
def ZA_a:Ann:=⟨[(3,⟨[3,6,7],[],⟨[(8,.d (.int .i64))],[]⟩,[(.exit 0,⟨[],[]⟩),(.ret,⟨[(2,.d (.int .i64))],[]⟩)]⟩)],[]⟩
abbrev ZA_p:List Sk:=[.d (.slice (.int .i64))]
abbrev ZA_r:List Sk:=[.d (.int .i64)]
@[irreducible] def ZA (n:Nat):FTz ZA_p ZA_r:=funM E R n false (g_24 n) iters ZA_a Tryz.f40 ZA_p ZA_r
theorem ZA_ok (n:Nat):dz 40 ZA_p ZA_r (ZA n):=fun _ _ h=>by unfold ZA at h;exact okF (g_24_ok n) h Tryz.func40 (by kernel_rfl)
def g_25 (n:Nat):RGz:=addF 40 ⟨ZA_p,ZA_r,ZA n,dflL R ZA_r,false⟩ (g_24 n)
theorem g_25_ok (n:Nat):RegsOK E (g_25 n):=addF_ok (g_24_ok n) (ZA_ok n)
def QR_a:Ann:=⟨[],[]⟩
abbrev QR_p:List Sk:=[.d (.st 0),.d (.st 0)]
abbrev QR_r:List Sk:=[.d (.int .i64)]
def Zf_a:Ann:=⟨[(2,⟨[0,1,2,11,12],[],⟨[(13,.d (.int .i64))],[]⟩,[(.exit 0,⟨[],[]⟩),(.ret,⟨[(6,.d (.int .i64))],[]⟩)]⟩)],[]⟩
abbrev Zf_p:List Sk:=[.d (.slice (.st 0)),.d (.slice (.st 0)),.fn 16 [] []]
abbrev Zf_r:List Sk:=[.d (.int .i64)]
def grp3_a:Nat->List Sk
 |0=>QR_p
 |_=>Zf_p
def grp3_r:Nat->List Sk
 |0=>QR_r
 |_=>Zf_r
def grp3_n:Nat->Ann
 |0=>QR_a
 |_=>Zf_a
def grp3_f:Nat->Func
 |0=>Tryz.f16
 |_=>Tryz.f43
def grp3_k (n:Nat) (g:(i:Nat)->PayL R.T (grp3_a i)->Option (PayL R.T (grp3_r i))):Nat->List (FR R):=addF 43 ⟨grp3_a 1,grp3_r 1,g 1,dflL R (grp3_r 1),false⟩ (addF 16 ⟨grp3_a 0,grp3_r 0,g 0,dflL R (grp3_r 0),false⟩ (g_25 n))
def grp3 (n:Nat):Nat->(i:Nat)->PayL R.T (grp3_a i)->Option (PayL R.T (grp3_r i))
 |0,_,_=>none
 |m+1,i,p=>funM E R n false (grp3_k n (grp3 n m)) iters (grp3_n i) (grp3_f i) (grp3_a i) (grp3_r i) p
attribute [irreducible] grp3
theorem QR_e (n m:Nat) (p:PayL R.T QR_p):grp3 n (m+1) 0 p=funM E R n false (grp3_k n (grp3 n m)) iters QR_a Tryz.f16 QR_p QR_r p:=by kernel_rfl
theorem Zf_e (n m:Nat) (p:PayL R.T Zf_p):grp3 n (m+1) 1 p=funM E R n false (grp3_k n (grp3 n m)) iters Zf_a Tryz.f43 Zf_p Zf_r p:=by kernel_rfl
theorem QR_e0 (n:Nat) (p:PayL R.T QR_p):grp3 n 0 0 p=none:=by kernel_rfl
theorem QR_z0 (n:Nat) (p:PayL R.T (grp3_a 0)) (x:PayL R.T (grp3_r 0)) (h:grp3 n 0 0 p=some x):Pure E 16 (encSL R (grp3_a 0) p) (retV (encSL R (grp3_r 0) x)):=absurd ((QR_e0 n p).symm.trans h) nofun
theorem Zf_e0 (n:Nat) (p:PayL R.T Zf_p):grp3 n 0 1 p=none:=by kernel_rfl
theorem Zf_z0 (n:Nat) (p:PayL R.T (grp3_a 1)) (x:PayL R.T (grp3_r 1)) (h:grp3 n 0 1 p=some x):Pure E 43 (encSL R (grp3_a 1) p) (retV (encSL R (grp3_r 1) x)):=absurd ((Zf_e0 n p).symm.trans h) nofun
theorem QR_z (n m:Nat) (hk:RegsOK E (grp3_k n (grp3 n m))) (p:PayL R.T (grp3_a 0)) (x:PayL R.T (grp3_r 0)) (h:grp3 n (m+1) 0 p=some x):Pure E 16 (encSL R (grp3_a 0) p) (retV (encSL R (grp3_r 0) x)):=
 funM_ok (args:=QR_p) (res:=QR_r) rOK hk iters_ok ((QR_e n m p).symm.trans h) Tryz.func16 rfl rfl rfl rfl (by kernel_rfl)
theorem Zf_z (n m:Nat) (hk:RegsOK E (grp3_k n (grp3 n m))) (p:PayL R.T (grp3_a 1)) (x:PayL R.T (grp3_r 1)) (h:grp3 n (m+1) 1 p=some x):Pure E 43 (encSL R (grp3_a 1) p) (retV (encSL R (grp3_r 1) x)):=
 funM_ok (args:=Zf_p) (res:=Zf_r) rOK hk iters_ok ((Zf_e n m p).symm.trans h) Tryz.func43 rfl rfl rfl rfl (by kernel_rfl)
theorem grp3_ok (n:Nat):∀m,RegsOK E (grp3_k n (grp3 n m))
 |0=>addF_ok (f:=43) (r:=⟨grp3_a 1,grp3_r 1,grp3 n 0 1,dflL R (grp3_r 1),false⟩) (addF_ok (f:=16) (r:=⟨grp3_a 0,grp3_r 0,grp3 n 0 0,dflL R (grp3_r 0),false⟩) (g_25_ok n) (QR_z0 n)) (Zf_z0 n)
 |m+1=>addF_ok (f:=43) (r:=⟨grp3_a 1,grp3_r 1,grp3 n (m+1) 1,dflL R (grp3_r 1),false⟩) (addF_ok (f:=16) (r:=⟨grp3_a 0,grp3_r 0,grp3 n (m+1) 0,dflL R (grp3_r 0),false⟩) (g_25_ok n) (QR_z n m (grp3_ok n m))) (Zf_z n m (grp3_ok n m))
@[irreducible] def QR_m (n m:Nat) (p:PayL R.T QR_p):Option (PayL R.T QR_r):=grp3 n m 0 p
@[irreducible] def QR (n:Nat) (p:PayL R.T QR_p):Option (PayL R.T QR_r):=QR_m n n p
theorem QR_ok (n:Nat) (p:PayL R.T QR_p) (x:PayL R.T QR_r) (h:QR n p=some x):Pure E 16 (encSL R QR_p p) (retV (encSL R QR_r x)):=by
 unfold QR QR_m at h
 cases n with
 |zero=>exact absurd ((QR_e0 0 p).symm.trans h) nofun
 |succ n=>exact funM_ok (args:=QR_p) (res:=QR_r) rOK (grp3_ok (n+1) n) iters_ok ((QR_e (n+1) n p).symm.trans h) Tryz.func16 rfl rfl rfl rfl (by kernel_rfl)
@[irreducible] def Zf_m (n m:Nat) (p:PayL R.T Zf_p):Option (PayL R.T Zf_r):=grp3 n m 1 p
@[irreducible] def Zf (n:Nat) (p:PayL R.T Zf_p):Option (PayL R.T Zf_r):=Zf_m n n p
theorem Zf_ok (n:Nat) (p:PayL R.T Zf_p) (x:PayL R.T Zf_r) (h:Zf n p=some x):Pure E 43 (encSL R Zf_p p) (retV (encSL R Zf_r x)):=by
 unfold Zf Zf_m at h
 cases n with
 |zero=>exact absurd ((Zf_e0 0 p).symm.trans h) nofun
 |succ n=>exact funM_ok (args:=Zf_p) (res:=Zf_r) rOK (grp3_ok (n+1) n) iters_ok ((Zf_e (n+1) n p).symm.trans h) Tryz.func43 rfl rfl rfl rfl (by kernel_rfl)
def g_26 (n:Nat):RGz:=addF 16 ⟨QR_p,QR_r,QR n,dflL R QR_r,false⟩ (g_25 n)
theorem g_26_ok (n:Nat):RegsOK E (g_26 n):=addF_ok (g_25_ok n) (QR_ok n)
def g_27 (n:Nat):RGz:=addF 43 ⟨Zf_p,Zf_r,Zf n,dflL R Zf_r,false⟩ (g_26 n)
theorem g_27_ok (n:Nat):RegsOK E (g_27 n):=addF_ok (g_26_ok n) (Zf_ok n)
def ZM_a:Ann:=⟨[],[]⟩
abbrev ZM_p:List Sk:=[.d (.st 0),.d (.st 0)]
abbrev ZM_r:List Sk:=[.d .bool]
@[irreducible] def ZM (n:Nat):FTz ZM_p ZM_r:=funM E R n false (g_27 n) iters ZM_a Tryz.f90 ZM_p ZM_r
theorem ZM_ok (n:Nat):dz 90 ZM_p ZM_r (ZM n):=fun _ _ h=>by unfold ZM at h;exact okF (g_27_ok n) h Tryz.func90 (by kernel_rfl)
def g_28 (n:Nat):RGz:=addF 90 ⟨ZM_p,ZM_r,ZM n,dflL R ZM_r,false⟩ (g_27 n)
theorem g_28_ok (n:Nat):RegsOK E (g_28 n):=addF_ok (g_27_ok n) (ZM_ok n)
def Xo_a:Ann:=⟨[],[]⟩
abbrev Xo_p:List Sk:=[.d (.int .u32)]
abbrev Xo_r:List Sk:=[.d (.int .i64)]
@[irreducible] def Xo (n:Nat):FTz Xo_p Xo_r:=funM E R n false (g_28 n) iters Xo_a Tryz.f115 Xo_p Xo_r
theorem Xo_ok (n:Nat):dz 115 Xo_p Xo_r (Xo n):=fun _ _ h=>by unfold Xo at h;exact okF (g_28_ok n) h Tryz.func115 (by kernel_rfl)
def g_29 (n:Nat):RGz:=addF 115 ⟨Xo_p,Xo_r,Xo n,dflL R Xo_r,false⟩ (g_28 n)
theorem g_29_ok (n:Nat):RegsOK E (g_29 n):=addF_ok (g_28_ok n) (Xo_ok n)
def Xl_a:Ann:=⟨[],[]⟩
abbrev Xl_p:List Sk:=[.d (.int .u64)]
abbrev Xl_r:List Sk:=[.d (.int .i64)]
@[irreducible] def Xl (n:Nat):FTz Xl_p Xl_r:=funM E R n false (g_29 n) iters Xl_a Tryz.f116 Xl_p Xl_r
theorem Xl_ok (n:Nat):dz 116 Xl_p Xl_r (Xl n):=fun _ _ h=>by unfold Xl at h;exact okF (g_29_ok n) h Tryz.func116 (by kernel_rfl)
def g_30 (n:Nat):RGz:=addF 116 ⟨Xl_p,Xl_r,Xl n,dflL R Xl_r,false⟩ (g_29 n)
theorem g_30_ok (n:Nat):RegsOK E (g_30 n):=addF_ok (g_29_ok n) (Xl_ok n)
def ZP_a:Ann:=⟨[],[]⟩
abbrev ZP_p:List Sk:=[.d (.int .u64)]
abbrev ZP_r:List Sk:=[.d (.int .i64)]
@[irreducible] def ZP (n:Nat):FTz ZP_p ZP_r:=funM E R n false (g_30 n) iters ZP_a Tryz.f102 ZP_p ZP_r
theorem ZP_ok (n:Nat):dz 102 ZP_p ZP_r (ZP n):=fun _ _ h=>by unfold ZP at h;exact okF (g_30_ok n) h Tryz.func102 (by kernel_rfl)
def g_31 (n:Nat):RGz:=addF 102 ⟨ZP_p,ZP_r,ZP n,dflL R ZP_r,false⟩ (g_30 n)
theorem g_31_ok (n:Nat):RegsOK E (g_31 n):=addF_ok (g_30_ok n) (ZP_ok n)
def Zo_a:Ann:=⟨[(1,⟨[0,1,2,3],[],⟨[(8,.d (.int .i64))],[(1000000,.arr (.st 0))]⟩,[(.exit 0,⟨[],[(1000000,.arr (.st 0))]⟩)]⟩),
 (4,⟨[0,1,2,3,8],[],⟨[(9,.d (.int .i64))],[(1000000,.arr (.st 0))]⟩,[(.exit 2,⟨[],[(1000000,.arr (.st 0))]⟩)]⟩)],[]⟩
abbrev Zo_p:List Sk:=[.vw 1000000 (.st 0),.d (.int .i64),.d (.int .i64),.fn 16 [] []]
abbrev Zo_r:List Sk:=[]
abbrev Zo_o:List (Nat×ObSk):=[(1000000,.arr (.st 0))]
@[irreducible] def Zo (n:Nat) (p:PayL R.T Zo_p) (q:PayOs R.T Zo_o):Option (PayL R.T Zo_r×PayOs R.T Zo_o):=funI E R n false (g_31 n) iters Zo_a Tryz.f107 Zo_p Zo_o Zo_r p q
theorem Zo_ok (n:Nat):FMOK E 107 (⟨Zo_p,Zo_o,Zo_r,Zo n⟩:FM R):=by
 intro p q y q' h
 have h:Zo n p q=some (y,q'):=h
 unfold Zo at h
 exact funI_ok rOK (g_31_ok n) iters_ok h Tryz.func107 rfl (by kernel_rfl)
def its1 (n:Nat):IR R:=addM 107 ⟨Zo_p,Zo_o,Zo_r,Zo n⟩ iters
theorem its1_ok (n:Nat):ItersOK E (its1 n):=addM_ok (m:=⟨Zo_p,Zo_o,Zo_r,Zo n⟩) iters_ok (Zo_ok n)
def Zu_a:Ann:=⟨[(1,⟨[0,2,3,4],[],⟨[(10,.d (.int .i64))],[(1000000,.arr (.st 0))]⟩,[(.exit 0,⟨[],[(1000000,.arr (.st 0))]⟩),(.ret,⟨[],[(1000000,.arr (.st 0))]⟩)]⟩)],[(5,⟨[0,2,3,4,10],[1000000],⟨[],[]⟩,[(.normal,⟨[(11,.d (.int .i64))],[]⟩)]⟩)]⟩
abbrev Zu_p:List Sk:=[.vw 1000000 (.st 0),.d (.int .i64),.d (.int .i64),.d (.int .i64),.fn 16 [] []]
abbrev Zu_r:List Sk:=[]
abbrev Zu_o:List (Nat×ObSk):=[(1000000,.arr (.st 0))]
@[irreducible] def Zu (n:Nat) (p:PayL R.T Zu_p) (q:PayOs R.T Zu_o):Option (PayL R.T Zu_r×PayOs R.T Zu_o):=funI E R n false (g_31 n) (its1 n) Zu_a Tryz.f122 Zu_p Zu_o Zu_r p q
theorem Zu_ok (n:Nat):FMOK E 122 (⟨Zu_p,Zu_o,Zu_r,Zu n⟩:FM R):=by
 intro p q y q' h
 have h:Zu n p q=some (y,q'):=h
 unfold Zu at h
 exact funI_ok rOK (g_31_ok n) (its1_ok n) h Tryz.func122 rfl (by kernel_rfl)
def its2 (n:Nat):IR R:=addM 122 ⟨Zu_p,Zu_o,Zu_r,Zu n⟩ (its1 n)
theorem its2_ok (n:Nat):ItersOK E (its2 n):=addM_ok (m:=⟨Zu_p,Zu_o,Zu_r,Zu n⟩) (its1_ok n) (Zu_ok n)
def Zl_a:Ann:=⟨[(4,⟨[0,3,8,9,10],[],⟨[(11,.d (.int .i64))],[(1000000,.arr (.st 0))]⟩,[(.exit 0,⟨[],[(1000000,.arr (.st 0))]⟩)]⟩),
 (8,⟨[0,3,8,9],[],⟨[(12,.d (.int .i64))],[(1000000,.arr (.st 0))]⟩,[(.exit 2,⟨[],[(1000000,.arr (.st 0))]⟩)]⟩)],[]⟩
abbrev Zl_p:List Sk:=[.vw 1000000 (.st 0),.d (.int .i64),.d (.int .i64),.fn 16 [] []]
abbrev Zl_r:List Sk:=[]
abbrev Zl_o:List (Nat×ObSk):=[(1000000,.arr (.st 0))]
@[irreducible] def Zl (n:Nat) (p:PayL R.T Zl_p) (q:PayOs R.T Zl_o):Option (PayL R.T Zl_r×PayOs R.T Zl_o):=funI E R n false (g_31 n) (its2 n) Zl_a Tryz.f108 Zl_p Zl_o Zl_r p q
theorem Zl_ok (n:Nat):FMOK E 108 (⟨Zl_p,Zl_o,Zl_r,Zl n⟩:FM R):=by
 intro p q y q' h
 have h:Zl n p q=some (y,q'):=h
 unfold Zl at h
 exact funI_ok rOK (g_31_ok n) (its2_ok n) h Tryz.func108 rfl (by kernel_rfl)
def its3 (n:Nat):IR R:=addM 108 ⟨Zl_p,Zl_o,Zl_r,Zl n⟩ (its2 n)
theorem its3_ok (n:Nat):ItersOK E (its3 n):=addM_ok (m:=⟨Zl_p,Zl_o,Zl_r,Zl n⟩) (its2_ok n) (Zl_ok n)
def ZQ_a:Ann:=⟨[],[]⟩
abbrev ZQ_p:List Sk:=[.d (.int .i64)]
abbrev ZQ_r:List Sk:=[.d (.int .u64)]
@[irreducible] def ZQ (n:Nat):FTz ZQ_p ZQ_r:=funM E R n false (g_31 n) (its3 n) ZQ_a Tryz.f123 ZQ_p ZQ_r
theorem ZQ_ok (n:Nat) (p:PayL R.T ZQ_p) (x:PayL R.T ZQ_r) (h:ZQ n p=some x):Pure E 123 (encSL R ZQ_p p) (retV (encSL R ZQ_r x)):=by
 unfold ZQ at h
 exact funM_ok rOK (g_31_ok n) (its3_ok n) h Tryz.func123 rfl rfl rfl rfl (by kernel_rfl)
def g_32 (n:Nat):RGz:=addF 123 ⟨ZQ_p,ZQ_r,ZQ n,dflL R ZQ_r,false⟩ (g_31 n)
theorem g_32_ok (n:Nat):RegsOK E (g_32 n):=addF_ok (g_31_ok n) (ZQ_ok n)
def ZH_a:Ann:=⟨[],[]⟩
abbrev ZH_p:List Sk:=[.ref 1000000 0]
abbrev ZH_r:List Sk:=[.d (.int .u64)]
abbrev ZH_o:List (Nat×ObSk):=[(1000000,.cells [.d (.int .u64)])]
@[irreducible] def ZH (n:Nat) (p:PayL R.T ZH_p) (q:PayOs R.T ZH_o):Option (PayL R.T ZH_r×PayOs R.T ZH_o):=funI E R n false (g_32 n) (its3 n) ZH_a Tryz.f124 ZH_p ZH_o ZH_r p q
theorem ZH_ok (n:Nat):FMOK E 124 (⟨ZH_p,ZH_o,ZH_r,ZH n⟩:FM R):=by
 intro p q y q' h
 have h:ZH n p q=some (y,q'):=h
 unfold ZH at h
 exact funI_ok rOK (g_32_ok n) (its3_ok n) h Tryz.func124 rfl (by kernel_rfl)
def its4 (n:Nat):IR R:=addM 124 ⟨ZH_p,ZH_o,ZH_r,ZH n⟩ (its3 n)
theorem its4_ok (n:Nat):ItersOK E (its4 n):=addM_ok (m:=⟨ZH_p,ZH_o,ZH_r,ZH n⟩) (its3_ok n) (ZH_ok n)
def Zv_a:Ann:=⟨[(5,⟨[0,1,8,9,10],[],⟨[(11,.d (.int .i64))],[(9,.cells [.d (.int .u64)]),(1000000,.arr (.st 0))]⟩,[(.exit 0,⟨[],[(1000000,.arr (.st 0))]⟩)]⟩)],[(10,⟨[0,1,8,9,10,11],[9,1000000],⟨[],[]⟩,[(.normal,⟨[(12,.d (.int .i64))],[]⟩)]⟩)]⟩
abbrev Zv_p:List Sk:=[.vw 1000000 (.st 0),.d (.int .i64),.d (.int .i64),.fn 16 [] []]
abbrev Zv_r:List Sk:=[]
abbrev Zv_o:List (Nat×ObSk):=[(1000000,.arr (.st 0))]
@[irreducible] def Zv (n:Nat) (p:PayL R.T Zv_p) (q:PayOs R.T Zv_o):Option (PayL R.T Zv_r×PayOs R.T Zv_o):=funI E R n false (g_32 n) (its4 n) Zv_a Tryz.f109 Zv_p Zv_o Zv_r p q
theorem Zv_ok (n:Nat):FMOK E 109 (⟨Zv_p,Zv_o,Zv_r,Zv n⟩:FM R):=by
 intro p q y q' h
 have h:Zv n p q=some (y,q'):=h
 unfold Zv at h
 exact funI_ok rOK (g_32_ok n) (its4_ok n) h Tryz.func109 rfl (by kernel_rfl)
def its5 (n:Nat):IR R:=addM 109 ⟨Zv_p,Zv_o,Zv_r,Zv n⟩ (its4 n)
theorem its5_ok (n:Nat):ItersOK E (its5 n):=addM_ok (m:=⟨Zv_p,Zv_o,Zv_r,Zv n⟩) (its4_ok n) (Zv_ok n)
def ZD_a:Ann:=⟨[],[]⟩
abbrev ZD_p:List Sk:=[.d (.slice (.st 0)),.d (.int .i64),.d (.int .i64),.ref 1000000 0,.fn 16 [] []]
abbrev ZD_r:List Sk:=[.d (.int .i64),.d (.int .i64)]
abbrev ZD_o:List (Nat×ObSk):=[(1000000,.cells [.d (.int .i64)])]
@[irreducible] def ZD (n:Nat) (p:PayL R.T ZD_p) (q:PayOs R.T ZD_o):Option (PayL R.T ZD_r×PayOs R.T ZD_o):=funI E R n false (g_32 n) (its5 n) ZD_a Tryz.f136 ZD_p ZD_o ZD_r p q
theorem ZD_ok (n:Nat):FMOK E 136 (⟨ZD_p,ZD_o,ZD_r,ZD n⟩:FM R):=by
 intro p q y q' h
 have h:ZD n p q=some (y,q'):=h
 unfold ZD at h
 exact funI_ok rOK (g_32_ok n) (its5_ok n) h Tryz.func136 rfl (by kernel_rfl)
def its6 (n:Nat):IR R:=addM 136 ⟨ZD_p,ZD_o,ZD_r,ZD n⟩ (its5 n)
theorem its6_ok (n:Nat):ItersOK E (its6 n):=addM_ok (m:=⟨ZD_p,ZD_o,ZD_r,ZD n⟩) (its5_ok n) (ZD_ok n)
def ZE_a:Ann:=⟨[],[]⟩
abbrev ZE_p:List Sk:=[.d (.slice (.st 0)),.d (.int .i64),.d (.int .i64),.d (.int .i64),.ref 1000000 0,.fn 16 [] []]
abbrev ZE_r:List Sk:=[.d (.int .i64)]
abbrev ZE_o:List (Nat×ObSk):=[(1000000,.cells [.d (.int .i64)])]
@[irreducible] def ZE (n:Nat) (p:PayL R.T ZE_p) (q:PayOs R.T ZE_o):Option (PayL R.T ZE_r×PayOs R.T ZE_o):=funI E R n false (g_32 n) (its6 n) ZE_a Tryz.f126 ZE_p ZE_o ZE_r p q
theorem ZE_ok (n:Nat):FMOK E 126 (⟨ZE_p,ZE_o,ZE_r,ZE n⟩:FM R):=by
 intro p q y q' h
 have h:ZE n p q=some (y,q'):=h
 unfold ZE at h
 exact funI_ok rOK (g_32_ok n) (its6_ok n) h Tryz.func126 rfl (by kernel_rfl)
def its7 (n:Nat):IR R:=addM 126 ⟨ZE_p,ZE_o,ZE_r,ZE n⟩ (its6 n)
theorem its7_ok (n:Nat):ItersOK E (its7 n):=addM_ok (m:=⟨ZE_p,ZE_o,ZE_r,ZE n⟩) (its6_ok n) (ZE_ok n)
def ZF_a:Ann:=⟨[],[]⟩
abbrev ZF_p:List Sk:=[.d (.slice (.st 0)),.d (.int .i64),.ref 1000000 0,.fn 16 [] []]
abbrev ZF_r:List Sk:=[.d (.int .i64)]
abbrev ZF_o:List (Nat×ObSk):=[(1000000,.cells [.d (.int .i64)])]
@[irreducible] def ZF (n:Nat) (p:PayL R.T ZF_p) (q:PayOs R.T ZF_o):Option (PayL R.T ZF_r×PayOs R.T ZF_o):=funI E R n false (g_32 n) (its7 n) ZF_a Tryz.f125 ZF_p ZF_o ZF_r p q
theorem ZF_ok (n:Nat):FMOK E 125 (⟨ZF_p,ZF_o,ZF_r,ZF n⟩:FM R):=by
 intro p q y q' h
 have h:ZF n p q=some (y,q'):=h
 unfold ZF at h
 exact funI_ok rOK (g_32_ok n) (its7_ok n) h Tryz.func125 rfl (by kernel_rfl)
def its8 (n:Nat):IR R:=addM 125 ⟨ZF_p,ZF_o,ZF_r,ZF n⟩ (its7 n)
theorem its8_ok (n:Nat):ItersOK E (its8 n):=addM_ok (m:=⟨ZF_p,ZF_o,ZF_r,ZF n⟩) (its7_ok n) (ZF_ok n)
def ZR_a:Ann:=⟨[],[]⟩
abbrev ZR_p:List Sk:=[.d (.slice (.st 0)),.d (.int .i64),.d (.int .i64),.fn 16 [] []]
abbrev ZR_r:List Sk:=[.d (.int .i64),.d (.int .i64)]
@[irreducible] def ZR (n:Nat):FTz ZR_p ZR_r:=funM E R n false (g_32 n) (its8 n) ZR_a Tryz.f110 ZR_p ZR_r
theorem ZR_ok (n:Nat) (p:PayL R.T ZR_p) (x:PayL R.T ZR_r) (h:ZR n p=some x):Pure E 110 (encSL R ZR_p p) (retV (encSL R ZR_r x)):=by
 unfold ZR at h
 exact funM_ok rOK (g_32_ok n) (its8_ok n) h Tryz.func110 rfl rfl rfl rfl (by kernel_rfl)
def g_33 (n:Nat):RGz:=addF 110 ⟨ZR_p,ZR_r,ZR n,dflL R ZR_r,false⟩ (g_32 n)
theorem g_33_ok (n:Nat):RegsOK E (g_33 n):=addF_ok (g_32_ok n) (ZR_ok n)
def Zw_a:Ann:=⟨[(2,⟨[0],[],⟨[(8,.d (.int .i64)),(9,.d (.int .i64))],[(1000000,.arr (.st 0))]⟩,[(.exit 0,⟨[],[(1000000,.arr (.st 0))]⟩)]⟩)],[]⟩
abbrev Zw_p:List Sk:=[.vw 1000000 (.st 0),.d (.int .i64),.d (.int .i64),.fn 16 [] []]
abbrev Zw_r:List Sk:=[]
abbrev Zw_o:List (Nat×ObSk):=[(1000000,.arr (.st 0))]
@[irreducible] def Zw (n:Nat) (p:PayL R.T Zw_p) (q:PayOs R.T Zw_o):Option (PayL R.T Zw_r×PayOs R.T Zw_o):=funI E R n false (g_33 n) (its8 n) Zw_a Tryz.f111 Zw_p Zw_o Zw_r p q
theorem Zw_ok (n:Nat):FMOK E 111 (⟨Zw_p,Zw_o,Zw_r,Zw n⟩:FM R):=by
 intro p q y q' h
 have h:Zw n p q=some (y,q'):=h
 unfold Zw at h
 exact funI_ok rOK (g_33_ok n) (its8_ok n) h Tryz.func111 rfl (by kernel_rfl)
def its9 (n:Nat):IR R:=addM 111 ⟨Zw_p,Zw_o,Zw_r,Zw n⟩ (its8 n)
theorem its9_ok (n:Nat):ItersOK E (its9 n):=addM_ok (m:=⟨Zw_p,Zw_o,Zw_r,Zw n⟩) (its8_ok n) (Zw_ok n)
def Za_a:Ann:=⟨[(3,⟨[0,1,2,3],[],⟨[(9,.d (.int .i64)),(10,.d (.int .i64))],[(1000000,.arr (.st 0))]⟩,[(.exit 0,⟨[],[(1000000,.arr (.st 0))]⟩),(.ret,⟨[(8,.d .bool)],[(1000000,.arr (.st 0))]⟩)]⟩),
 (5,⟨[0,1,2,3,10],[1000000],⟨[(9,.d (.int .i64))],[]⟩,[(.exit 2,⟨[(9,.d (.int .i64))],[]⟩)]⟩),
 (14,⟨[0,1,2,3,9,10],[],⟨[(11,.d (.int .i64))],[(1000000,.arr (.st 0))]⟩,[(.exit 4,⟨[],[(1000000,.arr (.st 0))]⟩)]⟩),
 (20,⟨[0,1,2,3,9,10],[],⟨[(12,.d (.int .i64))],[(1000000,.arr (.st 0))]⟩,[(.exit 6,⟨[],[(1000000,.arr (.st 0))]⟩)]⟩)],[(18,⟨[0,1,2,3,9,10],[],⟨[],[]⟩,[(.normal,⟨[],[(1000000,.arr (.st 0))]⟩)]⟩)]⟩
abbrev Za_p:List Sk:=[.vw 1000000 (.st 0),.d (.int .i64),.d (.int .i64),.fn 16 [] []]
abbrev Za_r:List Sk:=[.d .bool]
abbrev Za_o:List (Nat×ObSk):=[(1000000,.arr (.st 0))]
@[irreducible] def Za (n:Nat) (p:PayL R.T Za_p) (q:PayOs R.T Za_o):Option (PayL R.T Za_r×PayOs R.T Za_o):=funI E R n false (g_33 n) (its9 n) Za_a Tryz.f112 Za_p Za_o Za_r p q
theorem Za_ok (n:Nat):FMOK E 112 (⟨Za_p,Za_o,Za_r,Za n⟩:FM R):=by
 intro p q y q' h
 have h:Za n p q=some (y,q'):=h
 unfold Za at h
 exact funI_ok rOK (g_33_ok n) (its9_ok n) h Tryz.func112 rfl (by kernel_rfl)
def its10 (n:Nat):IR R:=addM 112 ⟨Za_p,Za_o,Za_r,Za n⟩ (its9 n)
theorem its10_ok (n:Nat):ItersOK E (its10 n):=addM_ok (m:=⟨Za_p,Za_o,Za_r,Za n⟩) (its9_ok n) (Za_ok n)
def Zd_a:Ann:=⟨[(503,⟨[0,1,4],[],⟨[(11,.d (.int .i64)),(12,.d (.int .i64))],[(1000000,.arr (.st 0))]⟩,[(.exit 0,⟨[(11,.d (.int .i64))],[(1000000,.arr (.st 0))]⟩)]⟩),
 (3,⟨[0,1,4,12],[1000000],⟨[(11,.d (.int .i64))],[]⟩,[(.exit 2,⟨[(11,.d (.int .i64))],[]⟩)]⟩),
 (5,⟨[0,1,4,11],[1000000],⟨[(12,.d (.int .i64))],[]⟩,[(.exit 4,⟨[(12,.d (.int .i64))],[]⟩)]⟩)],[]⟩
abbrev Zd_p:List Sk:=[.vw 1000000 (.st 0),.d (.int .i64),.d (.int .i64),.d (.int .i64),.fn 16 [] []]
abbrev Zd_r:List Sk:=[.d (.int .i64)]
abbrev Zd_o:List (Nat×ObSk):=[(1000000,.arr (.st 0))]
@[irreducible] def Zd (n:Nat) (p:PayL R.T Zd_p) (q:PayOs R.T Zd_o):Option (PayL R.T Zd_r×PayOs R.T Zd_o):=funI E R n false (g_33 n) (its10 n) Zd_a Tryz.f113 Zd_p Zd_o Zd_r p q
theorem Zd_ok (n:Nat):FMOK E 113 (⟨Zd_p,Zd_o,Zd_r,Zd n⟩:FM R):=by
 intro p q y q' h
 have h:Zd n p q=some (y,q'):=h
 unfold Zd at h
 exact funI_ok rOK (g_33_ok n) (its10_ok n) h Tryz.func113 rfl (by kernel_rfl)
def its11 (n:Nat):IR R:=addM 113 ⟨Zd_p,Zd_o,Zd_r,Zd n⟩ (its10 n)
theorem its11_ok (n:Nat):ItersOK E (its11 n):=addM_ok (m:=⟨Zd_p,Zd_o,Zd_r,Zd n⟩) (its10_ok n) (Zd_ok n)
def QQ_a:Ann:=⟨[(3,⟨[0,1,4,13],[1000000],⟨[(12,.d (.int .i64))],[]⟩,[(.exit 0,⟨[(12,.d (.int .i64))],[]⟩)]⟩),
 (5,⟨[0,1,4,12],[1000000],⟨[(13,.d (.int .i64))],[]⟩,[(.exit 2,⟨[(13,.d (.int .i64))],[]⟩)]⟩),
 (513,⟨[0,1,4],[],⟨[(12,.d (.int .i64)),(13,.d (.int .i64))],[(1000000,.arr (.st 0))]⟩,[(.exit 4,⟨[(13,.d (.int .i64))],[(1000000,.arr (.st 0))]⟩)]⟩),
 (13,⟨[0,1,4,13],[1000000],⟨[(12,.d (.int .i64))],[]⟩,[(.exit 6,⟨[(12,.d (.int .i64))],[]⟩)]⟩),
 (15,⟨[0,1,4,12],[1000000],⟨[(13,.d (.int .i64))],[]⟩,[(.exit 8,⟨[(13,.d (.int .i64))],[]⟩)]⟩)],[]⟩
abbrev QQ_p:List Sk:=[.vw 1000000 (.st 0),.d (.int .i64),.d (.int .i64),.d (.int .i64),.fn 16 [] []]
abbrev QQ_r:List Sk:=[.d (.int .i64),.d .bool]
abbrev QQ_o:List (Nat×ObSk):=[(1000000,.arr (.st 0))]
@[irreducible] def QQ (n:Nat) (p:PayL R.T QQ_p) (q:PayOs R.T QQ_o):Option (PayL R.T QQ_r×PayOs R.T QQ_o):=funI E R n false (g_33 n) (its11 n) QQ_a Tryz.f114 QQ_p QQ_o QQ_r p q
theorem QQ_ok (n:Nat):FMOK E 114 (⟨QQ_p,QQ_o,QQ_r,QQ n⟩:FM R):=by
 intro p q y q' h
 have h:QQ n p q=some (y,q'):=h
 unfold QQ at h
 exact funI_ok rOK (g_33_ok n) (its11_ok n) h Tryz.func114 rfl (by kernel_rfl)
def its12 (n:Nat):IR R:=addM 114 ⟨QQ_p,QQ_o,QQ_r,QQ n⟩ (its11 n)
theorem its12_ok (n:Nat):ItersOK E (its12 n):=addM_ok (m:=⟨QQ_p,QQ_o,QQ_r,QQ n⟩) (its11_ok n) (QQ_ok n)
def QP_a:Ann:=⟨[(2,⟨[0,4],[],⟨[(1,.d (.int .i64)),(2,.d (.int .i64)),(3,.d (.int .i64)),(10,.d .bool),(11,.d .bool)],[(1000000,.arr (.st 0))]⟩,[(.ret,⟨[],[(1000000,.arr (.st 0))]⟩)]⟩)],[(10,⟨[0,1,2,4,10,11,12],[],⟨[],[]⟩,[(.normal,⟨[(3,.d (.int .i64))],[(1000000,.arr (.st 0))]⟩)]⟩),(15,⟨[0,1,2,3,4,10,11,12],[],⟨[],[]⟩,[(.normal,⟨[(13,.d (.int .i64)),(14,.d (.int .i64))],[(1000000,.arr (.st 0))]⟩)]⟩),(17,⟨[0,1,2,3,4,10,11,12,13],[],⟨[],[]⟩,[(.normal,⟨[],[(1000000,.arr (.st 0))]⟩),(.ret,⟨[],[(1000000,.arr (.st 0))]⟩)]⟩)]⟩
abbrev QP_p:List Sk:=[.vw 1000000 (.st 0),.d (.int .i64),.d (.int .i64),.d (.int .i64),.fn 16 [] []]
abbrev QP_r:List Sk:=[]
abbrev QP_o:List (Nat×ObSk):=[(1000000,.arr (.st 0))]
def QP_m (n:Nat):Nat->PayL R.T QP_p->PayOs R.T QP_o->Option (PayL R.T QP_r×PayOs R.T QP_o)
 |0,_,_=>none
 |m+1,p,q=>funI E R n false (g_33 n) (addM 101 ⟨QP_p,QP_o,QP_r,QP_m n m⟩ (its12 n)) QP_a Tryz.f101 QP_p QP_o QP_r p q
attribute [irreducible] QP_m
theorem QP_e (n m:Nat) (p:PayL R.T QP_p) (q:PayOs R.T QP_o):QP_m n (m+1) p q=funI E R n false (g_33 n) (addM 101 ⟨QP_p,QP_o,QP_r,QP_m n m⟩ (its12 n)) QP_a Tryz.f101 QP_p QP_o QP_r p q:=by kernel_rfl
theorem QP_e0 (n:Nat) (p:PayL R.T QP_p) (q:PayOs R.T QP_o):QP_m n 0 p q=none:=by kernel_rfl
theorem slices_pdqsortCmpFunc_api_Pred_mok (n:Nat):∀m,FMOK E 101 (⟨QP_p,QP_o,QP_r,QP_m n m⟩:FM R)
 |0=>fun p q y q' h=>absurd (((QP_e0 n p q).symm.trans h)) nofun
 |m+1=>fun p q y q' h=>funI_ok rOK (g_33_ok n) (addM_ok (m:=⟨QP_p,QP_o,QP_r,QP_m n m⟩) (its12_ok n) (slices_pdqsortCmpFunc_api_Pred_mok n m)) ((QP_e n m p q).symm.trans h) Tryz.func101 rfl (by kernel_rfl)
@[irreducible] def QP (n:Nat):PayL R.T QP_p->PayOs R.T QP_o->Option (PayL R.T QP_r×PayOs R.T QP_o):=QP_m n n
theorem QP_ok (n:Nat):FMOK E 101 (⟨QP_p,QP_o,QP_r,QP n⟩:FM R):=by
 unfold QP
 exact slices_pdqsortCmpFunc_api_Pred_mok n n
def its13 (n:Nat):IR R:=addM 101 ⟨QP_p,QP_o,QP_r,QP n⟩ (its12 n)
theorem its13_ok (n:Nat):ItersOK E (its13 n):=addM_ok (m:=⟨QP_p,QP_o,QP_r,QP n⟩) (its12_ok n) (QP_ok n)
def ZI_a:Ann:=⟨[],[]⟩
abbrev ZI_p:List Sk:=[.vw 1000000 (.st 0),.fn 16 [] []]
abbrev ZI_r:List Sk:=[]
abbrev ZI_o:List (Nat×ObSk):=[(1000000,.arr (.st 0))]
@[irreducible] def ZI (n:Nat) (p:PayL R.T ZI_p) (q:PayOs R.T ZI_o):Option (PayL R.T ZI_r×PayOs R.T ZI_o):=funI E R n false (g_33 n) (its13 n) ZI_a Tryz.f91 ZI_p ZI_o ZI_r p q
theorem ZI_ok (n:Nat):FMOK E 91 (⟨ZI_p,ZI_o,ZI_r,ZI n⟩:FM R):=by
 intro p q y q' h
 have h:ZI n p q=some (y,q'):=h
 unfold ZI at h
 exact funI_ok rOK (g_33_ok n) (its13_ok n) h Tryz.func91 rfl (by kernel_rfl)
def its14 (n:Nat):IR R:=addM 91 ⟨ZI_p,ZI_o,ZI_r,ZI n⟩ (its13 n)
theorem its14_ok (n:Nat):ItersOK E (its14 n):=addM_ok (m:=⟨ZI_p,ZI_o,ZI_r,ZI n⟩) (its13_ok n) (ZI_ok n)
def Zk_a:Ann:=⟨[(4,⟨[0,1],[],⟨[(5,.d (.int .i64))],[(1000000,.arr (.st 0))]⟩,[(.exit 0,⟨[],[(1000000,.arr (.st 0))]⟩),(.ret,⟨[(4,.sub 1000000 (.st 0))],[(1000000,.arr (.st 0))]⟩)]⟩),
 (9,⟨[0,1,6],[],⟨[(5,.d (.int .i64)),(7,.d (.int .i64))],[(1000000,.arr (.st 0))]⟩,[(.exit 2,⟨[(5,.d (.int .i64))],[(1000000,.arr (.st 0))]⟩)]⟩)],[]⟩
abbrev Zk_p:List Sk:=[.vw 1000000 (.st 0),.fn 90 [] []]
abbrev Zk_r:List Sk:=[.sub 1000000 (.st 0)]
abbrev Zk_o:List (Nat×ObSk):=[(1000000,.arr (.st 0))]
@[irreducible] def Zk (n:Nat) (p:PayL R.T Zk_p) (q:PayOs R.T Zk_o):Option (PayL R.T Zk_r×PayOs R.T Zk_o):=funI E R n false (g_33 n) (its14 n) Zk_a Tryz.f92 Zk_p Zk_o Zk_r p q
theorem Zk_ok (n:Nat):FMOK E 92 (⟨Zk_p,Zk_o,Zk_r,Zk n⟩:FM R):=by
 intro p q y q' h
 have h:Zk n p q=some (y,q'):=h
 unfold Zk at h
 exact funI_ok rOK (g_33_ok n) (its14_ok n) h Tryz.func92 rfl (by kernel_rfl)
def its15 (n:Nat):IR R:=addM 92 ⟨Zk_p,Zk_o,Zk_r,Zk n⟩ (its14 n)
theorem its15_ok (n:Nat):ItersOK E (its15 n):=addM_ok (m:=⟨Zk_p,Zk_o,Zk_r,Zk n⟩) (its14_ok n) (Zk_ok n)
def ZX_a:Ann:=⟨[],[]⟩
abbrev ZX_p:List Sk:=[.d (.st 0),.cref [.d (.int .i64),.d .str,.d (.int .i64),.d (.int .i64),.d .str,.d (.slice (.st 0))] 0]
abbrev ZX_r:List Sk:=[.d .bool]
@[irreducible] def ZX (n:Nat):FTz ZX_p ZX_r:=funM E R n false (g_33 n) (its15 n) ZX_a Tryz.f93 ZX_p ZX_r
theorem ZX_ok (n:Nat) (p:PayL R.T ZX_p) (x:PayL R.T ZX_r) (h:ZX n p=some x):Pure E 93 (encSL R ZX_p p) (retV (encSL R ZX_r x)):=by
 unfold ZX at h
 exact funM_ok rOK (g_33_ok n) (its15_ok n) h Tryz.func93 rfl rfl rfl rfl (by kernel_rfl)
def g_34 (n:Nat):RGz:=addF 93 ⟨ZX_p,ZX_r,ZX n,dflL R ZX_r,false⟩ (g_33 n)
theorem g_34_ok (n:Nat):RegsOK E (g_34 n):=addF_ok (g_33_ok n) (ZX_ok n)
def ZB_a:Ann:=⟨[(2,⟨[0,1,7],[],⟨[(8,.d (.int .i64))],[]⟩,[(.exit 0,⟨[],[]⟩),(.ret,⟨[(4,.d (.int .i64))],[]⟩)]⟩)],[]⟩
abbrev ZB_p:List Sk:=[.d (.slice (.st 0)),.fn 93 [] [.cref [.d (.int .i64),.d .str,.d (.int .i64),.d (.int .i64),.d .str,.d (.slice (.st 0))] 0]]
abbrev ZB_r:List Sk:=[.d (.int .i64)]
@[irreducible] def ZB (n:Nat):FTz ZB_p ZB_r:=funM E R n false (g_34 n) (its15 n) ZB_a Tryz.f98 ZB_p ZB_r
theorem ZB_ok (n:Nat) (p:PayL R.T ZB_p) (x:PayL R.T ZB_r) (h:ZB n p=some x):Pure E 98 (encSL R ZB_p p) (retV (encSL R ZB_r x)):=by
 unfold ZB at h
 exact funM_ok rOK (g_34_ok n) (its15_ok n) h Tryz.func98 rfl rfl rfl rfl (by kernel_rfl)
def g_35 (n:Nat):RGz:=addF 98 ⟨ZB_p,ZB_r,ZB n,dflL R ZB_r,false⟩ (g_34 n)
theorem g_35_ok (n:Nat):RegsOK E (g_35 n):=addF_ok (g_34_ok n) (ZB_ok n)
def ZN_a:Ann:=⟨[],[]⟩
abbrev ZN_p:List Sk:=[.d (.slice (.st 0)),.fn 93 [] [.cref [.d (.int .i64),.d .str,.d (.int .i64),.d (.int .i64),.d .str,.d (.slice (.st 0))] 0]]
abbrev ZN_r:List Sk:=[.d .bool]
@[irreducible] def ZN (n:Nat):FTz ZN_p ZN_r:=funM E R n false (g_35 n) (its15 n) ZN_a Tryz.f84 ZN_p ZN_r
theorem ZN_ok (n:Nat) (p:PayL R.T ZN_p) (x:PayL R.T ZN_r) (h:ZN n p=some x):Pure E 84 (encSL R ZN_p p) (retV (encSL R ZN_r x)):=by
 unfold ZN at h
 exact funM_ok rOK (g_35_ok n) (its15_ok n) h Tryz.func84 rfl rfl rfl rfl (by kernel_rfl)
def g_36 (n:Nat):RGz:=addF 84 ⟨ZN_p,ZN_r,ZN n,dflL R ZN_r,false⟩ (g_35 n)
theorem g_36_ok (n:Nat):RegsOK E (g_36 n):=addF_ok (g_35_ok n) (ZN_ok n)
def Zg_a:Ann:=⟨[],[]⟩
abbrev Zg_p:List Sk:=[.d (.st 0),.d .bool]
abbrev Zg_r:List Sk:=[.d (.st 0)]
def Ze_a:Ann:=⟨[(8,⟨[1,4,6,7,8,25,26],[4,7,8],⟨[(9,.vw 41 (.st 0)),(27,.d (.int .i64))],[(41,.arr (.st 0))]⟩,[(.exit 0,⟨[(9,.vw 41 (.st 0))],[(41,.arr (.st 0))]⟩)]⟩)],[(5,⟨[1,2,4,5],[2,4],⟨[],[]⟩,[(.normal,⟨[(6,.d (.int .i64))],[]⟩)]⟩)]⟩
abbrev Ze_p:List Sk:=[.d (.st 0),.d .bool]
abbrev Ze_r:List Sk:=[.d (.st 0)]
def grp4_a:Nat->List Sk
 |0=>Zg_p
 |_=>Ze_p
def grp4_r:Nat->List Sk
 |0=>Zg_r
 |_=>Ze_r
def grp4_n:Nat->Ann
 |0=>Zg_a
 |_=>Ze_a
def grp4_o:Nat->Bool
 |0=>false
 |_=>true
def grp4_f:Nat->Func
 |0=>Tryz.f52
 |_=>Tryz.f77
def grp4_k (n:Nat) (g:(i:Nat)->PayL R.T (grp4_a i)->Option (PayL R.T (grp4_r i))):Nat->List (FR R):=addF 77 ⟨grp4_a 1,grp4_r 1,g 1,dflL R (grp4_r 1),false⟩ (addF 52 ⟨grp4_a 0,grp4_r 0,g 0,dflL R (grp4_r 0),false⟩ (g_36 n))
def grp4 (n:Nat):Nat->(i:Nat)->PayL R.T (grp4_a i)->Option (PayL R.T (grp4_r i))
 |0,_,_=>none
 |m+1,i,p=>funM E R n (grp4_o i) (grp4_k n (grp4 n m)) (its15 n) (grp4_n i) (grp4_f i) (grp4_a i) (grp4_r i) p
attribute [irreducible] grp4
theorem Zg_e (n m:Nat) (p:PayL R.T Zg_p):grp4 n (m+1) 0 p=funM E R n false (grp4_k n (grp4 n m)) (its15 n) Zg_a Tryz.f52 Zg_p Zg_r p:=by kernel_rfl
theorem Ze_e (n m:Nat) (p:PayL R.T Ze_p):grp4 n (m+1) 1 p=funM E R n true (grp4_k n (grp4 n m)) (its15 n) Ze_a Tryz.f77 Ze_p Ze_r p:=by kernel_rfl
theorem Zg_e0 (n:Nat) (p:PayL R.T Zg_p):grp4 n 0 0 p=none:=by kernel_rfl
theorem Zg_z0 (n:Nat) (p:PayL R.T (grp4_a 0)) (x:PayL R.T (grp4_r 0)) (h:grp4 n 0 0 p=some x):Pure E 52 (encSL R (grp4_a 0) p) (retV (encSL R (grp4_r 0) x)):=absurd ((Zg_e0 n p).symm.trans h) nofun
theorem Ze_e0 (n:Nat) (p:PayL R.T Ze_p):grp4 n 0 1 p=none:=by kernel_rfl
theorem Ze_z0 (n:Nat) (p:PayL R.T (grp4_a 1)) (x:PayL R.T (grp4_r 1)) (h:grp4 n 0 1 p=some x):Pure E 77 (encSL R (grp4_a 1) p) (retV (encSL R (grp4_r 1) x)):=absurd ((Ze_e0 n p).symm.trans h) nofun
theorem Zg_z (n m:Nat) (hk:RegsOK E (grp4_k n (grp4 n m))) (p:PayL R.T (grp4_a 0)) (x:PayL R.T (grp4_r 0)) (h:grp4 n (m+1) 0 p=some x):Pure E 52 (encSL R (grp4_a 0) p) (retV (encSL R (grp4_r 0) x)):=
 funM_ok (args:=Zg_p) (res:=Zg_r) rOK hk (its15_ok n) ((Zg_e n m p).symm.trans h) Tryz.func52 rfl rfl rfl rfl (by kernel_rfl)
theorem Ze_z (n m:Nat) (hk:RegsOK E (grp4_k n (grp4 n m))) (p:PayL R.T (grp4_a 1)) (x:PayL R.T (grp4_r 1)) (h:grp4 n (m+1) 1 p=some x):Pure E 77 (encSL R (grp4_a 1) p) (retV (encSL R (grp4_r 1) x)):=
 funM_ok (args:=Ze_p) (res:=Ze_r) rOK hk (its15_ok n) ((Ze_e n m p).symm.trans h) Tryz.func77 rfl rfl rfl rfl (by kernel_rfl)
theorem grp4_ok (n:Nat):∀m,RegsOK E (grp4_k n (grp4 n m))
 |0=>addF_ok (f:=77) (r:=⟨grp4_a 1,grp4_r 1,grp4 n 0 1,dflL R (grp4_r 1),false⟩) (addF_ok (f:=52) (r:=⟨grp4_a 0,grp4_r 0,grp4 n 0 0,dflL R (grp4_r 0),false⟩) (g_36_ok n) (Zg_z0 n)) (Ze_z0 n)
 |m+1=>addF_ok (f:=77) (r:=⟨grp4_a 1,grp4_r 1,grp4 n (m+1) 1,dflL R (grp4_r 1),false⟩) (addF_ok (f:=52) (r:=⟨grp4_a 0,grp4_r 0,grp4 n (m+1) 0,dflL R (grp4_r 0),false⟩) (g_36_ok n) (Zg_z n m (grp4_ok n m))) (Ze_z n m (grp4_ok n m))
@[irreducible] def Zg_m (n m:Nat) (p:PayL R.T Zg_p):Option (PayL R.T Zg_r):=grp4 n m 0 p
@[irreducible] def Zg (n:Nat) (p:PayL R.T Zg_p):Option (PayL R.T Zg_r):=Zg_m n n p
theorem Zg_ok (n:Nat) (p:PayL R.T Zg_p) (x:PayL R.T Zg_r) (h:Zg n p=some x):Pure E 52 (encSL R Zg_p p) (retV (encSL R Zg_r x)):=by
 unfold Zg Zg_m at h
 cases n with
 |zero=>exact absurd ((Zg_e0 0 p).symm.trans h) nofun
 |succ n=>exact funM_ok (args:=Zg_p) (res:=Zg_r) rOK (grp4_ok (n+1) n) (its15_ok (n+1)) ((Zg_e (n+1) n p).symm.trans h) Tryz.func52 rfl rfl rfl rfl (by kernel_rfl)
@[irreducible] def Ze_m (n m:Nat) (p:PayL R.T Ze_p):Option (PayL R.T Ze_r):=grp4 n m 1 p
@[irreducible] def Ze (n:Nat) (p:PayL R.T Ze_p):Option (PayL R.T Ze_r):=Ze_m n n p
theorem Ze_ok (n:Nat) (p:PayL R.T Ze_p) (x:PayL R.T Ze_r) (h:Ze n p=some x):Pure E 77 (encSL R Ze_p p) (retV (encSL R Ze_r x)):=by
 unfold Ze Ze_m at h
 cases n with
 |zero=>exact absurd ((Ze_e0 0 p).symm.trans h) nofun
 |succ n=>exact funM_ok (args:=Ze_p) (res:=Ze_r) rOK (grp4_ok (n+1) n) (its15_ok (n+1)) ((Ze_e (n+1) n p).symm.trans h) Tryz.func77 rfl rfl rfl rfl (by kernel_rfl)
def g_37 (n:Nat):RGz:=addF 52 ⟨Zg_p,Zg_r,Zg n,dflL R Zg_r,false⟩ (g_36 n)
theorem g_37_ok (n:Nat):RegsOK E (g_37 n):=addF_ok (g_36_ok n) (Zg_ok n)
def g_38 (n:Nat):RGz:=addF 77 ⟨Ze_p,Ze_r,Ze n,dflL R Ze_r,false⟩ (g_37 n)
theorem g_38_ok (n:Nat):RegsOK E (g_38 n):=addF_ok (g_37_ok n) (Ze_ok n)
def ZK_a:Ann:=⟨[],[]⟩
abbrev ZK_p:List Sk:=[.d (.st 0)]
abbrev ZK_r:List Sk:=[.d (.st 0)]
@[irreducible] def ZK (n:Nat):FTz ZK_p ZK_r:=funM E R n false (g_38 n) (its15 n) ZK_a Tryz.f21 ZK_p ZK_r
theorem ZK_ok (n:Nat) (p:PayL R.T ZK_p) (x:PayL R.T ZK_r) (h:ZK n p=some x):Pure E 21 (encSL R ZK_p p) (retV (encSL R ZK_r x)):=by
 unfold ZK at h
 exact funM_ok rOK (g_38_ok n) (its15_ok n) h Tryz.func21 rfl rfl rfl rfl (by kernel_rfl)
def g_39 (n:Nat):RGz:=addF 21 ⟨ZK_p,ZK_r,ZK n,dflL R ZK_r,false⟩ (g_38 n)
theorem g_39_ok (n:Nat):RegsOK E (g_39 n):=addF_ok (g_38_ok n) (ZK_ok n)
def ZS_a:Ann:=⟨[],[]⟩
abbrev ZS_p:List Sk:=[.d (.st 0)]
abbrev ZS_r:List Sk:=[.d (.st 0)]
@[irreducible] def ZS (n:Nat):FTz ZS_p ZS_r:=funM E R n false (g_39 n) (its15 n) ZS_a Tryz.f31 ZS_p ZS_r
theorem ZS_ok (n:Nat) (p:PayL R.T ZS_p) (x:PayL R.T ZS_r) (h:ZS n p=some x):Pure E 31 (encSL R ZS_p p) (retV (encSL R ZS_r x)):=by
 unfold ZS at h
 exact funM_ok rOK (g_39_ok n) (its15_ok n) h Tryz.func31 rfl rfl rfl rfl (by kernel_rfl)
def g_40 (n:Nat):RGz:=addF 31 ⟨ZS_p,ZS_r,ZS n,dflL R ZS_r,false⟩ (g_39 n)
theorem g_40_ok (n:Nat):RegsOK E (g_40 n):=addF_ok (g_39_ok n) (ZS_ok n)
def ZY_a:Ann:=⟨[],[]⟩
abbrev ZY_p:List Sk:=[.d (.slice (.st 3)),.d (.st 0)]
abbrev ZY_r:List Sk:=[.d .bool]
@[irreducible] def ZY (n:Nat):FTz ZY_p ZY_r:=funM E R n false (g_40 n) (its15 n) ZY_a Tryz.f62 ZY_p ZY_r
theorem ZY_ok (n:Nat) (p:PayL R.T ZY_p) (x:PayL R.T ZY_r) (h:ZY n p=some x):Pure E 62 (encSL R ZY_p p) (retV (encSL R ZY_r x)):=by
 unfold ZY at h
 exact funM_ok rOK (g_40_ok n) (its15_ok n) h Tryz.func62 rfl rfl rfl rfl (by kernel_rfl)
def g_41 (n:Nat):RGz:=addF 62 ⟨ZY_p,ZY_r,ZY n,dflL R ZY_r,false⟩ (g_40 n)
theorem g_41_ok (n:Nat):RegsOK E (g_41 n):=addF_ok (g_40_ok n) (ZY_ok n)
def Xh_a:Ann:=⟨[],[]⟩
abbrev Xh_p:List Sk:=[.d (.st 3),.cref [.d .str] 0]
abbrev Xh_r:List Sk:=[.d .bool]
@[irreducible] def Xh (n:Nat):FTz Xh_p Xh_r:=funM E R n false (g_41 n) (its15 n) Xh_a Tryz.f100 Xh_p Xh_r
theorem Xh_ok (n:Nat) (p:PayL R.T Xh_p) (x:PayL R.T Xh_r) (h:Xh n p=some x):Pure E 100 (encSL R Xh_p p) (retV (encSL R Xh_r x)):=by
 unfold Xh at h
 exact funM_ok rOK (g_41_ok n) (its15_ok n) h Tryz.func100 rfl rfl rfl rfl (by kernel_rfl)
def g_42 (n:Nat):RGz:=addF 100 ⟨Xh_p,Xh_r,Xh n,dflL R Xh_r,false⟩ (g_41 n)
theorem g_42_ok (n:Nat):RegsOK E (g_42 n):=addF_ok (g_41_ok n) (Xh_ok n)
def ZC_a:Ann:=⟨[(2,⟨[0,1,7],[],⟨[(8,.d (.int .i64))],[]⟩,[(.exit 0,⟨[],[]⟩),(.ret,⟨[(4,.d (.int .i64))],[]⟩)]⟩)],[]⟩
abbrev ZC_p:List Sk:=[.d (.slice (.st 3)),.fn 100 [] [.cref [.d .str] 0]]
abbrev ZC_r:List Sk:=[.d (.int .i64)]
@[irreducible] def ZC (n:Nat):FTz ZC_p ZC_r:=funM E R n false (g_42 n) (its15 n) ZC_a Tryz.f99 ZC_p ZC_r
theorem ZC_ok (n:Nat) (p:PayL R.T ZC_p) (x:PayL R.T ZC_r) (h:ZC n p=some x):Pure E 99 (encSL R ZC_p p) (retV (encSL R ZC_r x)):=by
 unfold ZC at h
 exact funM_ok rOK (g_42_ok n) (its15_ok n) h Tryz.func99 rfl rfl rfl rfl (by kernel_rfl)
def g_43 (n:Nat):RGz:=addF 99 ⟨ZC_p,ZC_r,ZC n,dflL R ZC_r,false⟩ (g_42 n)
theorem g_43_ok (n:Nat):RegsOK E (g_43 n):=addF_ok (g_42_ok n) (ZC_ok n)
def ZL_a:Ann:=⟨[],[]⟩
abbrev ZL_p:List Sk:=[.d (.slice (.st 3)),.d .str]
abbrev ZL_r:List Sk:=[.d (.st 3),.d .bool]
@[irreducible] def ZL (n:Nat):FTz ZL_p ZL_r:=funM E R n false (g_43 n) (its15 n) ZL_a Tryz.f85 ZL_p ZL_r
theorem ZL_ok (n:Nat) (p:PayL R.T ZL_p) (x:PayL R.T ZL_r) (h:ZL n p=some x):Pure E 85 (encSL R ZL_p p) (retV (encSL R ZL_r x)):=by
 unfold ZL at h
 exact funM_ok rOK (g_43_ok n) (its15_ok n) h Tryz.func85 rfl rfl rfl rfl (by kernel_rfl)
def g_44 (n:Nat):RGz:=addF 85 ⟨ZL_p,ZL_r,ZL n,dflL R ZL_r,false⟩ (g_43 n)
theorem g_44_ok (n:Nat):RegsOK E (g_44 n):=addF_ok (g_43_ok n) (ZL_ok n)
def ZZ_a:Ann:=⟨[],[]⟩
abbrev ZZ_p:List Sk:=[.d (.slice (.st 3)),.d (.st 0)]
abbrev ZZ_r:List Sk:=[.d .bool]
@[irreducible] def ZZ (n:Nat):FTz ZZ_p ZZ_r:=funM E R n false (g_44 n) (its15 n) ZZ_a Tryz.f66 ZZ_p ZZ_r
theorem ZZ_ok (n:Nat) (p:PayL R.T ZZ_p) (x:PayL R.T ZZ_r) (h:ZZ n p=some x):Pure E 66 (encSL R ZZ_p p) (retV (encSL R ZZ_r x)):=by
 unfold ZZ at h
 exact funM_ok rOK (g_44_ok n) (its15_ok n) h Tryz.func66 rfl rfl rfl rfl (by kernel_rfl)
def g_45 (n:Nat):RGz:=addF 66 ⟨ZZ_p,ZZ_r,ZZ n,dflL R ZZ_r,false⟩ (g_44 n)
theorem g_45_ok (n:Nat):RegsOK E (g_45 n):=addF_ok (g_44_ok n) (ZZ_ok n)
def Xa_a:Ann:=⟨[],[]⟩
abbrev Xa_p:List Sk:=[.d (.slice (.st 3)),.d (.st 0)]
abbrev Xa_r:List Sk:=[.d .bool]
@[irreducible] def Xa (n:Nat):FTz Xa_p Xa_r:=funM E R n false (g_45 n) (its15 n) Xa_a Tryz.f67 Xa_p Xa_r
theorem Xa_ok (n:Nat) (p:PayL R.T Xa_p) (x:PayL R.T Xa_r) (h:Xa n p=some x):Pure E 67 (encSL R Xa_p p) (retV (encSL R Xa_r x)):=by
 unfold Xa at h
 exact funM_ok rOK (g_45_ok n) (its15_ok n) h Tryz.func67 rfl rfl rfl rfl (by kernel_rfl)
def g_46 (n:Nat):RGz:=addF 67 ⟨Xa_p,Xa_r,Xa n,dflL R Xa_r,false⟩ (g_45 n)
theorem g_46_ok (n:Nat):RegsOK E (g_46 n):=addF_ok (g_45_ok n) (Xa_ok n)
def Xb_a:Ann:=⟨[],[]⟩
abbrev Xb_p:List Sk:=[.d (.slice (.st 3)),.d (.st 0)]
abbrev Xb_r:List Sk:=[.d .bool]
@[irreducible] def Xb (n:Nat):FTz Xb_p Xb_r:=funM E R n false (g_46 n) (its15 n) Xb_a Tryz.f68 Xb_p Xb_r
theorem Xb_ok (n:Nat) (p:PayL R.T Xb_p) (x:PayL R.T Xb_r) (h:Xb n p=some x):Pure E 68 (encSL R Xb_p p) (retV (encSL R Xb_r x)):=by
 unfold Xb at h
 exact funM_ok rOK (g_46_ok n) (its15_ok n) h Tryz.func68 rfl rfl rfl rfl (by kernel_rfl)
def g_47 (n:Nat):RGz:=addF 68 ⟨Xb_p,Xb_r,Xb n,dflL R Xb_r,false⟩ (g_46 n)
theorem g_47_ok (n:Nat):RegsOK E (g_47 n):=addF_ok (g_46_ok n) (Xb_ok n)
def Zi_a:Ann:=⟨[],[]⟩
abbrev Zi_p:List Sk:=[.d (.slice (.st 3)),.d (.st 0)]
abbrev Zi_r:List Sk:=[.d .bool]
def Zh_a:Ann:=⟨[(2,⟨[0,8,9],[],⟨[(10,.d (.int .i64))],[]⟩,[(.exit 0,⟨[],[]⟩),(.ret,⟨[(4,.d .bool)],[]⟩)]⟩)],[]⟩
abbrev Zh_p:List Sk:=[.d (.slice (.st 3)),.d (.st 0)]
abbrev Zh_r:List Sk:=[.d .bool]
def Zp_a:Ann:=⟨[],[]⟩
abbrev Zp_p:List Sk:=[.d (.slice (.st 3)),.d (.st 0)]
abbrev Zp_r:List Sk:=[.d .bool]
def Zq_a:Ann:=⟨[],[]⟩
abbrev Zq_p:List Sk:=[.d (.slice (.st 0)),.fn 36 [.d (.slice (.st 3))] []]
abbrev Zq_r:List Sk:=[.d .bool]
def Zj_a:Ann:=⟨[(2,⟨[0,1,7],[],⟨[(8,.d (.int .i64))],[]⟩,[(.exit 0,⟨[],[]⟩),(.ret,⟨[(4,.d (.int .i64))],[]⟩)]⟩)],[]⟩
abbrev Zj_p:List Sk:=[.d (.slice (.st 0)),.fn 36 [.d (.slice (.st 3))] []]
abbrev Zj_r:List Sk:=[.d (.int .i64)]
def Zr_a:Ann:=⟨[],[]⟩
abbrev Zr_p:List Sk:=[.d (.slice (.st 3)),.d (.st 0)]
abbrev Zr_r:List Sk:=[.d .bool]
def grp5_a:Nat->List Sk
 |0=>Zi_p
 |1=>Zh_p
 |2=>Zp_p
 |3=>Zq_p
 |4=>Zj_p
 |_=>Zr_p
def grp5_r:Nat->List Sk
 |0=>Zi_r
 |1=>Zh_r
 |2=>Zp_r
 |3=>Zq_r
 |4=>Zj_r
 |_=>Zr_r
def grp5_n:Nat->Ann
 |0=>Zi_a
 |1=>Zh_a
 |2=>Zp_a
 |3=>Zq_a
 |4=>Zj_a
 |_=>Zr_a
def grp5_f:Nat->Func
 |0=>Tryz.f36
 |1=>Tryz.f63
 |2=>Tryz.f64
 |3=>Tryz.f84
 |4=>Tryz.f98
 |_=>Tryz.f65
def grp5_k (n:Nat) (g:(i:Nat)->PayL R.T (grp5_a i)->Option (PayL R.T (grp5_r i))):Nat->List (FR R):=addF 65 ⟨grp5_a 5,grp5_r 5,g 5,dflL R (grp5_r 5),false⟩ (addF 98 ⟨grp5_a 4,grp5_r 4,g 4,dflL R (grp5_r 4),false⟩ (addF 84 ⟨grp5_a 3,grp5_r 3,g 3,dflL R (grp5_r 3),false⟩ (addF 64 ⟨grp5_a 2,grp5_r 2,g 2,dflL R (grp5_r 2),false⟩ (addF 63 ⟨grp5_a 1,grp5_r 1,g 1,dflL R (grp5_r 1),false⟩ (addF 36 ⟨grp5_a 0,grp5_r 0,g 0,dflL R (grp5_r 0),false⟩ (g_47 n))))))
def grp5 (n:Nat):Nat->(i:Nat)->PayL R.T (grp5_a i)->Option (PayL R.T (grp5_r i))
 |0,_,_=>none
 |m+1,i,p=>funM E R n false (grp5_k n (grp5 n m)) (its15 n) (grp5_n i) (grp5_f i) (grp5_a i) (grp5_r i) p
attribute [irreducible] grp5
theorem Zi_e (n m:Nat) (p:PayL R.T Zi_p):grp5 n (m+1) 0 p=funM E R n false (grp5_k n (grp5 n m)) (its15 n) Zi_a Tryz.f36 Zi_p Zi_r p:=by kernel_rfl
theorem Zh_e (n m:Nat) (p:PayL R.T Zh_p):grp5 n (m+1) 1 p=funM E R n false (grp5_k n (grp5 n m)) (its15 n) Zh_a Tryz.f63 Zh_p Zh_r p:=by kernel_rfl
theorem Zp_e (n m:Nat) (p:PayL R.T Zp_p):grp5 n (m+1) 2 p=funM E R n false (grp5_k n (grp5 n m)) (its15 n) Zp_a Tryz.f64 Zp_p Zp_r p:=by kernel_rfl
theorem Zq_e (n m:Nat) (p:PayL R.T Zq_p):grp5 n (m+1) 3 p=funM E R n false (grp5_k n (grp5 n m)) (its15 n) Zq_a Tryz.f84 Zq_p Zq_r p:=by kernel_rfl
theorem Zj_e (n m:Nat) (p:PayL R.T Zj_p):grp5 n (m+1) 4 p=funM E R n false (grp5_k n (grp5 n m)) (its15 n) Zj_a Tryz.f98 Zj_p Zj_r p:=by kernel_rfl
theorem Zr_e (n m:Nat) (p:PayL R.T Zr_p):grp5 n (m+1) 5 p=funM E R n false (grp5_k n (grp5 n m)) (its15 n) Zr_a Tryz.f65 Zr_p Zr_r p:=by kernel_rfl
theorem Zi_e0 (n:Nat) (p:PayL R.T Zi_p):grp5 n 0 0 p=none:=by kernel_rfl
theorem Zi_z0 (n:Nat) (p:PayL R.T (grp5_a 0)) (x:PayL R.T (grp5_r 0)) (h:grp5 n 0 0 p=some x):Pure E 36 (encSL R (grp5_a 0) p) (retV (encSL R (grp5_r 0) x)):=absurd ((Zi_e0 n p).symm.trans h) nofun
theorem Zh_e0 (n:Nat) (p:PayL R.T Zh_p):grp5 n 0 1 p=none:=by kernel_rfl
theorem Zh_z0 (n:Nat) (p:PayL R.T (grp5_a 1)) (x:PayL R.T (grp5_r 1)) (h:grp5 n 0 1 p=some x):Pure E 63 (encSL R (grp5_a 1) p) (retV (encSL R (grp5_r 1) x)):=absurd ((Zh_e0 n p).symm.trans h) nofun
theorem Zp_e0 (n:Nat) (p:PayL R.T Zp_p):grp5 n 0 2 p=none:=by kernel_rfl
theorem Zp_z0 (n:Nat) (p:PayL R.T (grp5_a 2)) (x:PayL R.T (grp5_r 2)) (h:grp5 n 0 2 p=some x):Pure E 64 (encSL R (grp5_a 2) p) (retV (encSL R (grp5_r 2) x)):=absurd ((Zp_e0 n p).symm.trans h) nofun
theorem Zq_e0 (n:Nat) (p:PayL R.T Zq_p):grp5 n 0 3 p=none:=by kernel_rfl
theorem Zq_z0 (n:Nat) (p:PayL R.T (grp5_a 3)) (x:PayL R.T (grp5_r 3)) (h:grp5 n 0 3 p=some x):Pure E 84 (encSL R (grp5_a 3) p) (retV (encSL R (grp5_r 3) x)):=absurd ((Zq_e0 n p).symm.trans h) nofun
theorem Zj_e0 (n:Nat) (p:PayL R.T Zj_p):grp5 n 0 4 p=none:=by kernel_rfl
theorem Zj_z0 (n:Nat) (p:PayL R.T (grp5_a 4)) (x:PayL R.T (grp5_r 4)) (h:grp5 n 0 4 p=some x):Pure E 98 (encSL R (grp5_a 4) p) (retV (encSL R (grp5_r 4) x)):=absurd ((Zj_e0 n p).symm.trans h) nofun
theorem Zr_e0 (n:Nat) (p:PayL R.T Zr_p):grp5 n 0 5 p=none:=by kernel_rfl
theorem Zr_z0 (n:Nat) (p:PayL R.T (grp5_a 5)) (x:PayL R.T (grp5_r 5)) (h:grp5 n 0 5 p=some x):Pure E 65 (encSL R (grp5_a 5) p) (retV (encSL R (grp5_r 5) x)):=absurd ((Zr_e0 n p).symm.trans h) nofun
theorem Zi_z (n m:Nat) (hk:RegsOK E (grp5_k n (grp5 n m))) (p:PayL R.T (grp5_a 0)) (x:PayL R.T (grp5_r 0)) (h:grp5 n (m+1) 0 p=some x):Pure E 36 (encSL R (grp5_a 0) p) (retV (encSL R (grp5_r 0) x)):=
 funM_ok (args:=Zi_p) (res:=Zi_r) rOK hk (its15_ok n) ((Zi_e n m p).symm.trans h) Tryz.func36 rfl rfl rfl rfl (by kernel_rfl)
theorem Zh_z (n m:Nat) (hk:RegsOK E (grp5_k n (grp5 n m))) (p:PayL R.T (grp5_a 1)) (x:PayL R.T (grp5_r 1)) (h:grp5 n (m+1) 1 p=some x):Pure E 63 (encSL R (grp5_a 1) p) (retV (encSL R (grp5_r 1) x)):=
 funM_ok (args:=Zh_p) (res:=Zh_r) rOK hk (its15_ok n) ((Zh_e n m p).symm.trans h) Tryz.func63 rfl rfl rfl rfl (by kernel_rfl)
theorem Zp_z (n m:Nat) (hk:RegsOK E (grp5_k n (grp5 n m))) (p:PayL R.T (grp5_a 2)) (x:PayL R.T (grp5_r 2)) (h:grp5 n (m+1) 2 p=some x):Pure E 64 (encSL R (grp5_a 2) p) (retV (encSL R (grp5_r 2) x)):=
 funM_ok (args:=Zp_p) (res:=Zp_r) rOK hk (its15_ok n) ((Zp_e n m p).symm.trans h) Tryz.func64 rfl rfl rfl rfl (by kernel_rfl)
theorem Zq_z (n m:Nat) (hk:RegsOK E (grp5_k n (grp5 n m))) (p:PayL R.T (grp5_a 3)) (x:PayL R.T (grp5_r 3)) (h:grp5 n (m+1) 3 p=some x):Pure E 84 (encSL R (grp5_a 3) p) (retV (encSL R (grp5_r 3) x)):=
 funM_ok (args:=Zq_p) (res:=Zq_r) rOK hk (its15_ok n) ((Zq_e n m p).symm.trans h) Tryz.func84 rfl rfl rfl rfl (by kernel_rfl)
theorem Zj_z (n m:Nat) (hk:RegsOK E (grp5_k n (grp5 n m))) (p:PayL R.T (grp5_a 4)) (x:PayL R.T (grp5_r 4)) (h:grp5 n (m+1) 4 p=some x):Pure E 98 (encSL R (grp5_a 4) p) (retV (encSL R (grp5_r 4) x)):=
 funM_ok (args:=Zj_p) (res:=Zj_r) rOK hk (its15_ok n) ((Zj_e n m p).symm.trans h) Tryz.func98 rfl rfl rfl rfl (by kernel_rfl)
theorem Zr_z (n m:Nat) (hk:RegsOK E (grp5_k n (grp5 n m))) (p:PayL R.T (grp5_a 5)) (x:PayL R.T (grp5_r 5)) (h:grp5 n (m+1) 5 p=some x):Pure E 65 (encSL R (grp5_a 5) p) (retV (encSL R (grp5_r 5) x)):=
 funM_ok (args:=Zr_p) (res:=Zr_r) rOK hk (its15_ok n) ((Zr_e n m p).symm.trans h) Tryz.func65 rfl rfl rfl rfl (by kernel_rfl)
theorem grp5_ok (n:Nat):∀m,RegsOK E (grp5_k n (grp5 n m))
 |0=>addF_ok (f:=65) (r:=⟨grp5_a 5,grp5_r 5,grp5 n 0 5,dflL R (grp5_r 5),false⟩) (addF_ok (f:=98) (r:=⟨grp5_a 4,grp5_r 4,grp5 n 0 4,dflL R (grp5_r 4),false⟩) (addF_ok (f:=84) (r:=⟨grp5_a 3,grp5_r 3,grp5 n 0 3,dflL R (grp5_r 3),false⟩) (addF_ok (f:=64) (r:=⟨grp5_a 2,grp5_r 2,grp5 n 0 2,dflL R (grp5_r 2),false⟩) (addF_ok (f:=63) (r:=⟨grp5_a 1,grp5_r 1,grp5 n 0 1,dflL R (grp5_r 1),false⟩) (addF_ok (f:=36) (r:=⟨grp5_a 0,grp5_r 0,grp5 n 0 0,dflL R (grp5_r 0),false⟩) (g_47_ok n) (Zi_z0 n)) (Zh_z0 n)) (Zp_z0 n)) (Zq_z0 n)) (Zj_z0 n)) (Zr_z0 n)
 |m+1=>addF_ok (f:=65) (r:=⟨grp5_a 5,grp5_r 5,grp5 n (m+1) 5,dflL R (grp5_r 5),false⟩) (addF_ok (f:=98) (r:=⟨grp5_a 4,grp5_r 4,grp5 n (m+1) 4,dflL R (grp5_r 4),false⟩) (addF_ok (f:=84) (r:=⟨grp5_a 3,grp5_r 3,grp5 n (m+1) 3,dflL R (grp5_r 3),false⟩) (addF_ok (f:=64) (r:=⟨grp5_a 2,grp5_r 2,grp5 n (m+1) 2,dflL R (grp5_r 2),false⟩) (addF_ok (f:=63) (r:=⟨grp5_a 1,grp5_r 1,grp5 n (m+1) 1,dflL R (grp5_r 1),false⟩) (addF_ok (f:=36) (r:=⟨grp5_a 0,grp5_r 0,grp5 n (m+1) 0,dflL R (grp5_r 0),false⟩) (g_47_ok n) (Zi_z n m (grp5_ok n m))) (Zh_z n m (grp5_ok n m))) (Zp_z n m (grp5_ok n m))) (Zq_z n m (grp5_ok n m))) (Zj_z n m (grp5_ok n m))) (Zr_z n m (grp5_ok n m))
@[irreducible] def Zi_m (n m:Nat) (p:PayL R.T Zi_p):Option (PayL R.T Zi_r):=grp5 n m 0 p
@[irreducible] def Zi (n:Nat) (p:PayL R.T Zi_p):Option (PayL R.T Zi_r):=Zi_m n n p
theorem Zi_ok (n:Nat) (p:PayL R.T Zi_p) (x:PayL R.T Zi_r) (h:Zi n p=some x):Pure E 36 (encSL R Zi_p p) (retV (encSL R Zi_r x)):=by
 unfold Zi Zi_m at h
 cases n with
 |zero=>exact absurd ((Zi_e0 0 p).symm.trans h) nofun
 |succ n=>exact funM_ok (args:=Zi_p) (res:=Zi_r) rOK (grp5_ok (n+1) n) (its15_ok (n+1)) ((Zi_e (n+1) n p).symm.trans h) Tryz.func36 rfl rfl rfl rfl (by kernel_rfl)
@[irreducible] def Zh_m (n m:Nat) (p:PayL R.T Zh_p):Option (PayL R.T Zh_r):=grp5 n m 1 p
@[irreducible] def Zh (n:Nat) (p:PayL R.T Zh_p):Option (PayL R.T Zh_r):=Zh_m n n p
theorem Zh_ok (n:Nat) (p:PayL R.T Zh_p) (x:PayL R.T Zh_r) (h:Zh n p=some x):Pure E 63 (encSL R Zh_p p) (retV (encSL R Zh_r x)):=by
 unfold Zh Zh_m at h
 cases n with
 |zero=>exact absurd ((Zh_e0 0 p).symm.trans h) nofun
 |succ n=>exact funM_ok (args:=Zh_p) (res:=Zh_r) rOK (grp5_ok (n+1) n) (its15_ok (n+1)) ((Zh_e (n+1) n p).symm.trans h) Tryz.func63 rfl rfl rfl rfl (by kernel_rfl)
@[irreducible] def Zp_m (n m:Nat) (p:PayL R.T Zp_p):Option (PayL R.T Zp_r):=grp5 n m 2 p
@[irreducible] def Zp (n:Nat) (p:PayL R.T Zp_p):Option (PayL R.T Zp_r):=Zp_m n n p
theorem Zp_ok (n:Nat) (p:PayL R.T Zp_p) (x:PayL R.T Zp_r) (h:Zp n p=some x):Pure E 64 (encSL R Zp_p p) (retV (encSL R Zp_r x)):=by
 unfold Zp Zp_m at h
 cases n with
 |zero=>exact absurd ((Zp_e0 0 p).symm.trans h) nofun
 |succ n=>exact funM_ok (args:=Zp_p) (res:=Zp_r) rOK (grp5_ok (n+1) n) (its15_ok (n+1)) ((Zp_e (n+1) n p).symm.trans h) Tryz.func64 rfl rfl rfl rfl (by kernel_rfl)
@[irreducible] def Zq_m (n m:Nat) (p:PayL R.T Zq_p):Option (PayL R.T Zq_r):=grp5 n m 3 p
@[irreducible] def Zq (n:Nat) (p:PayL R.T Zq_p):Option (PayL R.T Zq_r):=Zq_m n n p
theorem Zq_ok (n:Nat) (p:PayL R.T Zq_p) (x:PayL R.T Zq_r) (h:Zq n p=some x):Pure E 84 (encSL R Zq_p p) (retV (encSL R Zq_r x)):=by
 unfold Zq Zq_m at h
 cases n with
 |zero=>exact absurd ((Zq_e0 0 p).symm.trans h) nofun
 |succ n=>exact funM_ok (args:=Zq_p) (res:=Zq_r) rOK (grp5_ok (n+1) n) (its15_ok (n+1)) ((Zq_e (n+1) n p).symm.trans h) Tryz.func84 rfl rfl rfl rfl (by kernel_rfl)
@[irreducible] def Zj_m (n m:Nat) (p:PayL R.T Zj_p):Option (PayL R.T Zj_r):=grp5 n m 4 p
@[irreducible] def Zj (n:Nat) (p:PayL R.T Zj_p):Option (PayL R.T Zj_r):=Zj_m n n p
theorem Zj_ok (n:Nat) (p:PayL R.T Zj_p) (x:PayL R.T Zj_r) (h:Zj n p=some x):Pure E 98 (encSL R Zj_p p) (retV (encSL R Zj_r x)):=by
 unfold Zj Zj_m at h
 cases n with
 |zero=>exact absurd ((Zj_e0 0 p).symm.trans h) nofun
 |succ n=>exact funM_ok (args:=Zj_p) (res:=Zj_r) rOK (grp5_ok (n+1) n) (its15_ok (n+1)) ((Zj_e (n+1) n p).symm.trans h) Tryz.func98 rfl rfl rfl rfl (by kernel_rfl)
@[irreducible] def Zr_m (n m:Nat) (p:PayL R.T Zr_p):Option (PayL R.T Zr_r):=grp5 n m 5 p
@[irreducible] def Zr (n:Nat) (p:PayL R.T Zr_p):Option (PayL R.T Zr_r):=Zr_m n n p
theorem Zr_ok (n:Nat) (p:PayL R.T Zr_p) (x:PayL R.T Zr_r) (h:Zr n p=some x):Pure E 65 (encSL R Zr_p p) (retV (encSL R Zr_r x)):=by
 unfold Zr Zr_m at h
 cases n with
 |zero=>exact absurd ((Zr_e0 0 p).symm.trans h) nofun
 |succ n=>exact funM_ok (args:=Zr_p) (res:=Zr_r) rOK (grp5_ok (n+1) n) (its15_ok (n+1)) ((Zr_e (n+1) n p).symm.trans h) Tryz.func65 rfl rfl rfl rfl (by kernel_rfl)
def g_48 (n:Nat):RGz:=addF 36 ⟨Zi_p,Zi_r,Zi n,dflL R Zi_r,false⟩ (g_47 n)
theorem g_48_ok (n:Nat):RegsOK E (g_48 n):=addF_ok (g_47_ok n) (Zi_ok n)
def g_49 (n:Nat):RGz:=addF 63 ⟨Zh_p,Zh_r,Zh n,dflL R Zh_r,false⟩ (g_48 n)
theorem g_49_ok (n:Nat):RegsOK E (g_49 n):=addF_ok (g_48_ok n) (Zh_ok n)
def g_50 (n:Nat):RGz:=addF 64 ⟨Zp_p,Zp_r,Zp n,dflL R Zp_r,false⟩ (g_49 n)
theorem g_50_ok (n:Nat):RegsOK E (g_50 n):=addF_ok (g_49_ok n) (Zp_ok n)
def g_51 (n:Nat):RGz:=addF 84 ⟨Zq_p,Zq_r,Zq n,dflL R Zq_r,false⟩ (g_50 n)
theorem g_51_ok (n:Nat):RegsOK E (g_51 n):=addF_ok (g_50_ok n) (Zq_ok n)
def g_52 (n:Nat):RGz:=addF 98 ⟨Zj_p,Zj_r,Zj n,dflL R Zj_r,false⟩ (g_51 n)
theorem g_52_ok (n:Nat):RegsOK E (g_52 n):=addF_ok (g_51_ok n) (Zj_ok n)
def g_53 (n:Nat):RGz:=addF 65 ⟨Zr_p,Zr_r,Zr n,dflL R Zr_r,false⟩ (g_52 n)
theorem g_53_ok (n:Nat):RegsOK E (g_53 n):=addF_ok (g_52_ok n) (Zr_ok n)
def ZJ_a:Ann:=⟨[],[]⟩
abbrev ZJ_p:List Sk:=[.d (.st 0),.d (.slice (.st 3))]
abbrev ZJ_r:List Sk:=[.d .bool]
@[irreducible] def ZJ (n:Nat):FTz ZJ_p ZJ_r:=funM E R n false (g_53 n) (its15 n) ZJ_a Tryz.f12 ZJ_p ZJ_r
theorem ZJ_ok (n:Nat) (p:PayL R.T ZJ_p) (x:PayL R.T ZJ_r) (h:ZJ n p=some x):Pure E 12 (encSL R ZJ_p p) (retV (encSL R ZJ_r x)):=by
 unfold ZJ at h
 exact funM_ok rOK (g_53_ok n) (its15_ok n) h Tryz.func12 rfl rfl rfl rfl (by kernel_rfl)
def g_54 (n:Nat):RGz:=addF 12 ⟨ZJ_p,ZJ_r,ZJ n,dflL R ZJ_r,false⟩ (g_53 n)
theorem g_54_ok (n:Nat):RegsOK E (g_54 n):=addF_ok (g_53_ok n) (ZJ_ok n)
def Xn_a:Ann:=⟨[],[]⟩
abbrev Xn_p:List Sk:=[.d (.st 2),.d (.st 0),.d (.slice (.st 3))]
abbrev Xn_r:List Sk:=[.d .bool]
@[irreducible] def Xn (n:Nat):FTz Xn_p Xn_r:=funM E R n false (g_54 n) (its15 n) Xn_a Tryz.f6 Xn_p Xn_r
theorem Xn_ok (n:Nat) (p:PayL R.T Xn_p) (x:PayL R.T Xn_r) (h:Xn n p=some x):Pure E 6 (encSL R Xn_p p) (retV (encSL R Xn_r x)):=by
 unfold Xn at h
 exact funM_ok rOK (g_54_ok n) (its15_ok n) h Tryz.func6 rfl rfl rfl rfl (by kernel_rfl)
end Sh
