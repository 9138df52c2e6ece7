import Derived.Test.YtgdialomgeijcaaGreatF3518
set_option linter.all false
noncomputable section
open Go Go.Proofs Aq
namespace Sh
set_option maxRecDepth 100000
abbrev FTz (a r:List Sk):=PayL R.T a->Option (PayL R.T r)
abbrev FIz (a:List Sk) (o:List (Nat×ObSk)) (r:List Sk):=PayL R.T a->PayOs R.T o->Option (PayL R.T r×PayOs R.T o)
abbrev RGz:=Nat->List (FR R)
abbrev dZz:Sk:=.d (.int .i64)
abbrev dSz:Sk:=.d (.st 0)
abbrev dLz:Sk:=.d (.slice (.st 0))
abbrev oPz:=(1000000,ObSk.arr (.st 0))
abbrev oIz:=(1000000,ObSk.arr (.int .i64))
abbrev SLz:=List Sk
abbrev aGz (i:Nat) (a r:List Sk) (X:FTz a r) (F:RGz):RGz:=addF i ⟨a,r,X,dflL R r,false⟩ F
abbrev aMz (i:Nat) (a:List Sk) (o:List (Nat×ObSk)) (r:List Sk) (X:FIz a o r) (I:IR R):IR R:=addM i ⟨a,o,r,X⟩ I
theorem pkG {n:Nat} {om:Bool} {F:RGz} {I:IR R} {A:Ann} {i:Nat} {fn:Func} {a r:List Sk} {X:FTz a r} (hF:RegsOK E F) (hI:ItersOK E I) (hX:X=funM E R n om F I A fn a r) (hf:E.P.funcs[i]? =some fn) (hok:(match fn.body with|some c=>decide (a.length<=fn.ntmps)&& aM fn.ntmps c&& iq E c|none=>false)=true)
 (ha:cSkL a=true:=by rfl) (hl:∀p,(encSL R a p).length=a.length:=by intro p;rfl) (ho:E.om i=om:=by rfl) (hs:E.summ i=none:=by rfl):RegsOK E (aGz i a r X F):=addF_ok hF fun p _ h=>funM_ok rOK hF hI ((congrFun hX p).symm.trans h) hf ha (hl p) ho hs hok
theorem pkM {n:Nat} {om:Bool} {F:RGz} {I:IR R} {A:Ann} {i:Nat} {fn:Func} {a r:List Sk} {o:List (Nat×ObSk)} {X:FIz a o r} (hF:RegsOK E F) (hI:ItersOK E I) (hX:X=funI E R n om F I A fn a o r) (hf:E.P.funcs[i]? =some fn) (hok:(match fn.body with|some c=>decide (a.length<=fn.ntmps)&& aM fn.ntmps c&& iq E c&&(scS r&& okOs o&& qp o)|none=>false)=true)
 (ho:E.om i=om:=by rfl) (hg:E.imp i=true:=by rfl):ItersOK E (aMz i a o r X I):=addM_ok hI (fun p q _ _ h=>funI_ok rOK hF hI ((congrFun (congrFun hX p) q).symm.trans h) hf ho hok) hg
variable (n:Nat)
def Zo_a:Ann:=⟨[(2,⟨[1,2],[2],⟨[(5,dZz)],[]⟩,[(.exit 0,⟨[],[]⟩),(.ret,⟨[(4,.d .bool)],[]⟩)]⟩),
 (8,⟨[1,2,5,6],[2,6],⟨[(7,dZz)],[]⟩,[(.exit 2,⟨[],[]⟩),(.ret,⟨[(4,.d .bool)],[]⟩)]⟩)],[]⟩
abbrev Zo_p:SLz:=[.d (.st 2),dZz]
abbrev Zo_r:SLz:=[.d .bool]
@[irreducible] def Zo:FTz Zo_p Zo_r:=funM E R n false (g_0 n) iters Zo_a Tryz.f46 Zo_p Zo_r
def g_1:RGz:=aGz 46 Zo_p Zo_r (Zo n) (g_0 n)
theorem g_1_ok:RegsOK E (g_1 n):=pkG (g_0_ok n) iters_ok (by unfold Zo;rfl) Tryz.func46 (by kernel_rfl)
def XJ_a:Ann:=⟨[],[]⟩
abbrev XJ_p:SLz:=[dZz]
abbrev XJ_r:SLz:=[.d .bool]
@[irreducible] def XJ:FTz XJ_p XJ_r:=funM E R n false (g_1 n) iters XJ_a Tryz.f73 XJ_p XJ_r
def g_2:RGz:=aGz 73 XJ_p XJ_r (XJ n) (g_1 n)
theorem g_2_ok:RegsOK E (g_2 n):=pkG (g_1_ok n) iters_ok (by unfold XJ;rfl) Tryz.func73 (by kernel_rfl)
def ZL_a:Ann:=⟨[(2,⟨[0,1],[],⟨[(5,dZz)],[]⟩,[(.exit 0,⟨[],[]⟩),(.ret,⟨[(4,.d .bool)],[]⟩)]⟩)],[]⟩
abbrev ZL_p:SLz:=[.d (.slice .str),.d .str]
abbrev ZL_r:SLz:=[.d .bool]
@[irreducible] def ZL:FTz ZL_p ZL_r:=funM E R n false (g_2 n) iters ZL_a Tryz.f83 ZL_p ZL_r
def g_3:RGz:=aGz 83 ZL_p ZL_r (ZL n) (g_2 n)
theorem g_3_ok:RegsOK E (g_3 n):=pkG (g_2_ok n) iters_ok (by unfold ZL;rfl) Tryz.func83 (by kernel_rfl)
def ZC_a:Ann:=⟨[(2,⟨[0],[],⟨[(3,dZz)],[]⟩,[(.exit 0,⟨[],[]⟩),(.ret,⟨[(2,.d .bool)],[]⟩)]⟩)],[]⟩
abbrev ZC_p:SLz:=[.d .str]
abbrev ZC_r:SLz:=[.d .bool]
@[irreducible] def ZC:FTz ZC_p ZC_r:=funM E R n false (g_3 n) iters ZC_a Tryz.f87 ZC_p ZC_r
def g_4:RGz:=aGz 87 ZC_p ZC_r (ZC n) (g_3 n)
theorem g_4_ok:RegsOK E (g_4 n):=pkG (g_3_ok n) iters_ok (by unfold ZC;rfl) Tryz.func87 (by kernel_rfl)
def Zj_a:Ann:=⟨[(4,⟨[0],[],⟨[(3,dZz)],[]⟩,[(.exit 0,⟨[],[]⟩),(.ret,⟨[(2,dZz)],[]⟩)]⟩),
 (9,⟨[0],[],⟨[(4,dZz)],[]⟩,[(.exit 2,⟨[],[]⟩),(.ret,⟨[(2,dZz)],[]⟩)]⟩)],[]⟩
abbrev Zj_p:SLz:=[.d (.slice .str)]
abbrev Zj_r:SLz:=[dZz]
@[irreducible] def Zj:FTz Zj_p Zj_r:=funM E R n false (g_4 n) iters Zj_a Tryz.f88 Zj_p Zj_r
def g_5:RGz:=aGz 88 Zj_p Zj_r (Zj n) (g_4 n)
theorem g_5_ok:RegsOK E (g_5 n):=pkG (g_4_ok n) iters_ok (by unfold Zj;rfl) Tryz.func88 (by kernel_rfl)
def Xo_a:Ann:=⟨[],[]⟩
abbrev Xo_p:SLz:=[.d (.st 1),.d .str]
abbrev Xo_r:SLz:=[dZz]
@[irreducible] def Xo:FTz Xo_p Xo_r:=funM E R n false (g_5 n) iters Xo_a Tryz.f74 Xo_p Xo_r
def g_6:RGz:=aGz 74 Xo_p Xo_r (Xo n) (g_5 n)
theorem g_6_ok:RegsOK E (g_6 n):=pkG (g_5_ok n) iters_ok (by unfold Xo;rfl) Tryz.func74 (by kernel_rfl)
def Zu_a:Ann:=⟨[(7,⟨[1],[1],⟨[(3,.d .str),(4,dZz)],[]⟩,[(.exit 0,⟨[],[]⟩),(.ret,⟨[(2,dZz)],[]⟩)]⟩)],[]⟩
abbrev Zu_p:SLz:=[.d (.st 2)]
abbrev Zu_r:SLz:=[dZz]
@[irreducible] def Zu:FTz Zu_p Zu_r:=funM E R n false (g_6 n) iters Zu_a Tryz.f47 Zu_p Zu_r
def g_7:RGz:=aGz 47 Zu_p Zu_r (Zu n) (g_6 n)
theorem g_7_ok:RegsOK E (g_7 n):=pkG (g_6_ok n) iters_ok (by unfold Zu;rfl) Tryz.func47 (by kernel_rfl)
def Xv_a:Ann:=⟨[],[]⟩
abbrev Xv_p:SLz:=[.d (.st 2)]
abbrev Xv_r:SLz:=[.d .bool]
@[irreducible] def Xv:FTz Xv_p Xv_r:=funM E R n false (g_7 n) iters Xv_a Tryz.f18 Xv_p Xv_r
def g_8:RGz:=aGz 18 Xv_p Xv_r (Xv n) (g_7 n)
theorem g_8_ok:RegsOK E (g_8 n):=pkG (g_7_ok n) iters_ok (by unfold Xv;rfl) Tryz.func18 (by kernel_rfl)
def Zc_a:Ann:=⟨[(3,⟨[1],[1],⟨[(3,.l (.own 26) (.st 0)),(4,dZz)],[]⟩,[(.exit 0,⟨[(3,.l (.own 26) (.st 0))],[]⟩)]⟩)],[]⟩
abbrev Zc_p:SLz:=[dSz]
abbrev Zc_r:SLz:=[dLz]
def grp1_a:Nat->List Sk
 |_=>Zc_p
def grp1_r:Nat->List Sk
 |_=>Zc_r
def grp1_n:Nat->Ann
 |_=>Zc_a
def grp1_f:Nat->Func
 |_=>Tryz.f39
def grp1_k (g:(i:Nat)->PayL R.T (grp1_a i)->Option (PayL R.T (grp1_r i))):Nat->List (FR R):=addF 39 ⟨grp1_a 0,grp1_r 0,g 0,dflL R (grp1_r 0),false⟩ (g_8 n)
def grp1 (n:Nat):Nat->(i:Nat)->PayL R.T (grp1_a i)->Option (PayL R.T (grp1_r i))
 |0,_,_=>none
 |m+1,i,p=>funM E R n false (grp1_k n (grp1 n m)) iters (grp1_n i) (grp1_f i) (grp1_a i) (grp1_r i) p
attribute [irreducible] grp1
theorem Zc_e (n m:Nat) (p:PayL R.T Zc_p):grp1 n (m+1) 0 p=funM E R n false (grp1_k n (grp1 n m)) iters Zc_a Tryz.f39 Zc_p Zc_r p:=by kernel_rfl
theorem Zc_e0 (p:PayL R.T Zc_p):grp1 n 0 0 p=none:=by kernel_rfl
theorem Zc_z0 (p:PayL R.T (grp1_a 0)) (x:PayL R.T (grp1_r 0)) (h:grp1 n 0 0 p=some x):Pure E 39 (encSL R (grp1_a 0) p) (retV (encSL R (grp1_r 0) x)):=absurd ((Zc_e0 n p).symm.trans h) nofun
theorem Zc_z (n m:Nat) (hk:RegsOK E (grp1_k n (grp1 n m))) (p:PayL R.T (grp1_a 0)) (x:PayL R.T (grp1_r 0)) (h:grp1 n (m+1) 0 p=some x):Pure E 39 (encSL R (grp1_a 0) p) (retV (encSL R (grp1_r 0) x)):=
 funM_ok (args:=Zc_p) (res:=Zc_r) rOK hk iters_ok ((Zc_e n m p).symm.trans h) Tryz.func39 rfl rfl rfl rfl (by kernel_rfl)
theorem grp1_ok (n:Nat):∀m,RegsOK E (grp1_k n (grp1 n m))
 |0=>addF_ok (f:=39) (r:=⟨grp1_a 0,grp1_r 0,grp1 n 0 0,dflL R (grp1_r 0),false⟩) (g_8_ok n) (Zc_z0 n)
 |m+1=>addF_ok (f:=39) (r:=⟨grp1_a 0,grp1_r 0,grp1 n (m+1) 0,dflL R (grp1_r 0),false⟩) (g_8_ok n) (Zc_z n m (grp1_ok n m))
@[irreducible] def Zc_m (n m:Nat) (p:PayL R.T Zc_p):Option (PayL R.T Zc_r):=grp1 n m 0 p
@[irreducible] def Zc (p:PayL R.T Zc_p):Option (PayL R.T Zc_r):=Zc_m n n p
theorem Zc_ok (p:PayL R.T Zc_p) (x:PayL R.T Zc_r) (h:Zc n p=some x):Pure E 39 (encSL R Zc_p p) (retV (encSL R Zc_r x)):=by
 unfold Zc Zc_m at h
 cases n with
 |zero=>exact absurd ((Zc_e0 0 p).symm.trans h) nofun
 |succ n=>exact funM_ok (args:=Zc_p) (res:=Zc_r) rOK (grp1_ok (n+1) n) iters_ok ((Zc_e (n+1) n p).symm.trans h) Tryz.func39 rfl rfl rfl rfl (by kernel_rfl)
def g_9:RGz:=addF 39 ⟨Zc_p,Zc_r,Zc n,dflL R Zc_r,false⟩ (g_8 n)
theorem g_9_ok:RegsOK E (g_9 n):=addF_ok (g_8_ok n) (Zc_ok n)
def Xt_a:Ann:=⟨[],[]⟩
abbrev Xt_p:SLz:=[dSz]
abbrev Xt_r:SLz:=[dZz]
@[irreducible] def Xt:FTz Xt_p Xt_r:=funM E R n false (g_9 n) iters Xt_a Tryz.f15 Xt_p Xt_r
def g_10:RGz:=aGz 15 Xt_p Xt_r (Xt n) (g_9 n)
theorem g_10_ok:RegsOK E (g_10 n):=pkG (g_9_ok n) iters_ok (by unfold Xt;rfl) Tryz.func15 (by kernel_rfl)
def Zd_a:Ann:=⟨[(4,⟨[1,2],[2],⟨[(5,dZz)],[]⟩,[(.exit 0,⟨[],[]⟩),(.ret,⟨[(4,.d .bool)],[]⟩)]⟩)],[]⟩
abbrev Zd_p:SLz:=[dSz,dZz]
abbrev Zd_r:SLz:=[.d .bool]
def grp2_a:Nat->List Sk
 |_=>Zd_p
def grp2_r:Nat->List Sk
 |_=>Zd_r
def grp2_n:Nat->Ann
 |_=>Zd_a
def grp2_f:Nat->Func
 |_=>Tryz.f10
def grp2_k (g:(i:Nat)->PayL R.T (grp2_a i)->Option (PayL R.T (grp2_r i))):Nat->List (FR R):=addF 10 ⟨grp2_a 0,grp2_r 0,g 0,dflL R (grp2_r 0),false⟩ (g_10 n)
def grp2 (n:Nat):Nat->(i:Nat)->PayL R.T (grp2_a i)->Option (PayL R.T (grp2_r i))
 |0,_,_=>none
 |m+1,i,p=>funM E R n false (grp2_k n (grp2 n m)) iters (grp2_n i) (grp2_f i) (grp2_a i) (grp2_r i) p
attribute [irreducible] grp2
theorem Zd_e (n m:Nat) (p:PayL R.T Zd_p):grp2 n (m+1) 0 p=funM E R n false (grp2_k n (grp2 n m)) iters Zd_a Tryz.f10 Zd_p Zd_r p:=by kernel_rfl
theorem Zd_e0 (p:PayL R.T Zd_p):grp2 n 0 0 p=none:=by kernel_rfl
theorem Zd_z0 (p:PayL R.T (grp2_a 0)) (x:PayL R.T (grp2_r 0)) (h:grp2 n 0 0 p=some x):Pure E 10 (encSL R (grp2_a 0) p) (retV (encSL R (grp2_r 0) x)):=absurd ((Zd_e0 n p).symm.trans h) nofun
theorem Zd_z (n m:Nat) (hk:RegsOK E (grp2_k n (grp2 n m))) (p:PayL R.T (grp2_a 0)) (x:PayL R.T (grp2_r 0)) (h:grp2 n (m+1) 0 p=some x):Pure E 10 (encSL R (grp2_a 0) p) (retV (encSL R (grp2_r 0) x)):=
 funM_ok (args:=Zd_p) (res:=Zd_r) rOK hk iters_ok ((Zd_e n m p).symm.trans h) Tryz.func10 rfl rfl rfl rfl (by kernel_rfl)
theorem grp2_ok (n:Nat):∀m,RegsOK E (grp2_k n (grp2 n m))
 |0=>addF_ok (f:=10) (r:=⟨grp2_a 0,grp2_r 0,grp2 n 0 0,dflL R (grp2_r 0),false⟩) (g_10_ok n) (Zd_z0 n)
 |m+1=>addF_ok (f:=10) (r:=⟨grp2_a 0,grp2_r 0,grp2 n (m+1) 0,dflL R (grp2_r 0),false⟩) (g_10_ok n) (Zd_z n m (grp2_ok n m))
@[irreducible] def Zd_m (n m:Nat) (p:PayL R.T Zd_p):Option (PayL R.T Zd_r):=grp2 n m 0 p
@[irreducible] def Zd (p:PayL R.T Zd_p):Option (PayL R.T Zd_r):=Zd_m n n p
theorem Zd_ok (p:PayL R.T Zd_p) (x:PayL R.T Zd_r) (h:Zd n p=some x):Pure E 10 (encSL R Zd_p p) (retV (encSL R Zd_r x)):=by
 unfold Zd Zd_m at h
 cases n with
 |zero=>exact absurd ((Zd_e0 0 p).symm.trans h) nofun
 |succ n=>exact funM_ok (args:=Zd_p) (res:=Zd_r) rOK (grp2_ok (n+1) n) iters_ok ((Zd_e (n+1) n p).symm.trans h) Tryz.func10 rfl rfl rfl rfl (by kernel_rfl)
def g_11:RGz:=addF 10 ⟨Zd_p,Zd_r,Zd n,dflL R Zd_r,false⟩ (g_10 n)
theorem g_11_ok:RegsOK E (g_11 n):=addF_ok (g_10_ok n) (Zd_ok n)
abbrev Xw_p:SLz:=[]
abbrev Xw_r:SLz:=[.d .bool]
@[irreducible] def Xw (n:Nat) (p:PayL R.T Xw_p):Option (PayL R.T Xw_r):=some true
theorem Xw_eq (p:PayL R.T Xw_p):Xw n p=some true:=by unfold Xw;rfl
theorem Xw_ok (p:PayL R.T Xw_p) (x:PayL R.T Xw_r) (h:Xw n p=some x):Pure E 11 (encSL R Xw_p p) (retV (encSL R Xw_r x)):=by
 unfold Xw at h
 exact sanP p x h
def g_12:RGz:=addF 11 ⟨Xw_p,Xw_r,Xw n,dflL R Xw_r,false⟩ (g_11 n)
theorem g_12_ok:RegsOK E (g_12 n):=addF_ok (g_11_ok n) (Xw_ok n)
def Xe_a:Ann:=⟨[],[]⟩
abbrev Xe_p:SLz:=[dSz]
abbrev Xe_r:SLz:=[.fn 69 [] [.cref [dZz,.d .str,dZz,dZz,.d .str,dLz] 0]]
@[irreducible] def Xe:FTz Xe_p Xe_r:=funM E R n false (g_12 n) iters Xe_a Tryz.f38 Xe_p Xe_r
def g_13:RGz:=aGz 38 Xe_p Xe_r (Xe n) (g_12 n)
theorem g_13_ok:RegsOK E (g_13 n):=pkG (g_12_ok n) iters_ok (by unfold Xe;rfl) Tryz.func38 (by kernel_rfl)
def ZD_a:Ann:=⟨[(3,⟨[3],[],⟨[],[(3,.cells [dZz])]⟩,[(.normal,⟨[],[(3,.cells [dZz])]⟩),(.exit 0,⟨[],[(3,.cells [dZz])]⟩)]⟩)],[]⟩
abbrev ZD_p:SLz:=[dSz]
abbrev ZD_r:SLz:=[dZz]
@[irreducible] def ZD:FTz ZD_p ZD_r:=funM E R n false (g_13 n) iters ZD_a Tryz.f14 ZD_p ZD_r
def g_14:RGz:=aGz 14 ZD_p ZD_r (ZD n) (g_13 n)
theorem g_14_ok:RegsOK E (g_14 n):=pkG (g_13_ok n) iters_ok (by unfold ZD;rfl) Tryz.func14 (by kernel_rfl)
def Xx_a:Ann:=⟨[],[]⟩
abbrev Xx_p:SLz:=[dSz]
abbrev Xx_r:SLz:=[.d .bool]
@[irreducible] def Xx:FTz Xx_p Xx_r:=funM E R n false (g_14 n) iters Xx_a Tryz.f48 Xx_p Xx_r
def g_15:RGz:=aGz 48 Xx_p Xx_r (Xx n) (g_14 n)
theorem g_15_ok:RegsOK E (g_15 n):=pkG (g_14_ok n) iters_ok (by unfold Xx;rfl) Tryz.func48 (by kernel_rfl)
def XL_a:Ann:=⟨[],[]⟩
abbrev XL_p:SLz:=[.d (.st 1),.cref [.d .str] 0]
abbrev XL_r:SLz:=[.d .bool]
@[irreducible] def XL:FTz XL_p XL_r:=funM E R n false (g_15 n) iters XL_a Tryz.f76 XL_p XL_r
def g_16:RGz:=aGz 76 XL_p XL_r (XL n) (g_15 n)
theorem g_16_ok:RegsOK E (g_16 n):=pkG (g_15_ok n) iters_ok (by unfold XL;rfl) Tryz.func76 (by kernel_rfl)
def ZY_a:Ann:=⟨[(2,⟨[0,1,7],[],⟨[(8,dZz)],[]⟩,[(.exit 0,⟨[],[]⟩),(.ret,⟨[(4,dZz)],[]⟩)]⟩)],[]⟩
abbrev ZY_p:SLz:=[.d (.slice (.st 1)),.fn 76 [] [.cref [.d .str] 0]]
abbrev ZY_r:SLz:=[dZz]
@[irreducible] def ZY:FTz ZY_p ZY_r:=funM E R n false (g_16 n) iters ZY_a Tryz.f75 ZY_p ZY_r
def g_17:RGz:=aGz 75 ZY_p ZY_r (ZY n) (g_16 n)
theorem g_17_ok:RegsOK E (g_17 n):=pkG (g_16_ok n) iters_ok (by unfold ZY;rfl) Tryz.func75 (by kernel_rfl)
def Xy_a:Ann:=⟨[],[]⟩
abbrev Xy_p:SLz:=[.d (.st 2),.d .str]
abbrev Xy_r:SLz:=[.d (.st 1),.d .bool]
@[irreducible] def Xy:FTz Xy_p Xy_r:=funM E R n false (g_17 n) iters Xy_a Tryz.f49 Xy_p Xy_r
def g_18:RGz:=aGz 49 Xy_p Xy_r (Xy n) (g_17 n)
theorem g_18_ok:RegsOK E (g_18 n):=pkG (g_17_ok n) iters_ok (by unfold Xy;rfl) Tryz.func49 (by kernel_rfl)
def Zx_a:Ann:=⟨[(5,⟨[2,4],[2],⟨[],[(4,.cells [dZz])]⟩,[(.normal,⟨[],[(4,.cells [dZz])]⟩),(.ret,⟨[],[(4,.cells [dZz])]⟩)]⟩)],[]⟩
abbrev Zx_p:SLz:=[.d (.st 2),dSz]
abbrev Zx_r:SLz:=[dZz]
@[irreducible] def Zx:FTz Zx_p Zx_r:=funM E R n false (g_18 n) iters Zx_a Tryz.f19 Zx_p Zx_r
def g_19:RGz:=aGz 19 Zx_p Zx_r (Zx n) (g_18 n)
theorem g_19_ok:RegsOK E (g_19 n):=pkG (g_18_ok n) iters_ok (by unfold Zx;rfl) Tryz.func19 (by kernel_rfl)
def Xz_a:Ann:=⟨[],[]⟩
abbrev Xz_p:SLz:=[dSz]
abbrev Xz_r:SLz:=[.d .bool]
@[irreducible] def Xz:FTz Xz_p Xz_r:=funM E R n false (g_19 n) iters Xz_a Tryz.f50 Xz_p Xz_r
def g_20:RGz:=aGz 50 Xz_p Xz_r (Xz n) (g_19 n)
theorem g_20_ok:RegsOK E (g_20 n):=pkG (g_19_ok n) iters_ok (by unfold Xz;rfl) Tryz.func50 (by kernel_rfl)
def ZN_a:Ann:=⟨[(2,⟨[1,2],[2],⟨[(5,dZz)],[]⟩,[(.exit 0,⟨[],[]⟩),(.ret,⟨[(4,dZz)],[]⟩)]⟩)],[]⟩
abbrev ZN_p:SLz:=[.d (.st 2),.d .str]
abbrev ZN_r:SLz:=[dZz]
@[irreducible] def ZN:FTz ZN_p ZN_r:=funM E R n false (g_20 n) iters ZN_a Tryz.f51 ZN_p ZN_r
def g_21:RGz:=aGz 51 ZN_p ZN_r (ZN n) (g_20 n)
theorem g_21_ok:RegsOK E (g_21 n):=pkG (g_20_ok n) iters_ok (by unfold ZN;rfl) Tryz.func51 (by kernel_rfl)
def ZE_a:Ann:=⟨[(5,⟨[2,5],[2],⟨[(6,dZz)],[]⟩,[(.exit 0,⟨[],[]⟩),(.ret,⟨[(4,dZz)],[]⟩)]⟩)],[]⟩
abbrev ZE_p:SLz:=[.d (.st 2),dSz]
abbrev ZE_r:SLz:=[dZz]
@[irreducible] def ZE:FTz ZE_p ZE_r:=funM E R n false (g_21 n) iters ZE_a Tryz.f20 ZE_p ZE_r
def g_22:RGz:=aGz 20 ZE_p ZE_r (ZE n) (g_21 n)
theorem g_22_ok:RegsOK E (g_22 n):=pkG (g_21_ok n) iters_ok (by unfold ZE;rfl) Tryz.func20 (by kernel_rfl)
def XG_a:Ann:=⟨[],[]⟩
abbrev XG_p:SLz:=[dSz]
abbrev XG_r:SLz:=[dSz]
@[irreducible] def XG:FTz XG_p XG_r:=funM E R n false (g_22 n) iters XG_a Tryz.f59 XG_p XG_r
def g_23:RGz:=aGz 59 XG_p XG_r (XG n) (g_22 n)
theorem g_23_ok:RegsOK E (g_23 n):=pkG (g_22_ok n) iters_ok (by unfold XG;rfl) Tryz.func59 (by kernel_rfl)
def XH_a:Ann:=⟨[],[]⟩
abbrev XH_p:SLz:=[.d .bool]
abbrev XH_r:SLz:=[dSz]
@[irreducible] def XH:FTz XH_p XH_r:=funM E R n false (g_23 n) iters XH_a Tryz.f89 XH_p XH_r
def g_24:RGz:=aGz 89 XH_p XH_r (XH n) (g_23 n)
theorem g_24_ok:RegsOK E (g_24 n):=pkG (g_23_ok n) iters_ok (by unfold XH;rfl) Tryz.func89 (by kernel_rfl)
def Xn_a:Ann:=⟨[],[]⟩
abbrev Xn_p:SLz:=[dZz]
abbrev Xn_r:SLz:=[.d .bool]
@[irreducible] def Xn:FTz Xn_p Xn_r:=funM E R n false (g_24 n) iters Xn_a Tryz.f71 Xn_p Xn_r
def g_25:RGz:=aGz 71 Xn_p Xn_r (Xn n) (g_24 n)
theorem g_25_ok:RegsOK E (g_25 n):=pkG (g_24_ok n) iters_ok (by unfold Xn;rfl) Tryz.func71 (by kernel_rfl)
def XA_a:Ann:=⟨[],[]⟩
abbrev XA_p:SLz:=[dZz,dZz]
abbrev XA_r:SLz:=[dZz]
@[irreducible] def XA:FTz XA_p XA_r:=funM E R n false (g_25 n) iters XA_a Tryz.f41 XA_p XA_r
def g_26:RGz:=aGz 41 XA_p XA_r (XA n) (g_25 n)
theorem g_26_ok:RegsOK E (g_26 n):=pkG (g_25_ok n) iters_ok (by unfold XA;rfl) Tryz.func41 (by kernel_rfl)
abbrev XK_p:SLz:=[.d .str,.d .str]
abbrev XK_r:SLz:=[dZz]
@[irreducible] def XK (n:Nat) (p:PayL R.T XK_p):Option (PayL R.T XK_r):=some (cmpS p.1 p.2)
theorem XK_ok (p:PayL R.T XK_p) (x:PayL R.T XK_r) (h:XK n p=some x):Pure E 42 (encSL R XK_p p) (retV (encSL R XK_r x)):=by
 unfold XK at h
 exact strP p x h
def g_27:RGz:=addF 42 ⟨XK_p,XK_r,XK n,dflL R XK_r,false⟩ (g_26 n)
theorem g_27_ok:RegsOK E (g_27 n):=addF_ok (g_26_ok n) (XK_ok n)
def ZS_a:Ann:=⟨[(3,⟨[3,6,7],[],⟨[(8,dZz)],[]⟩,[(.exit 0,⟨[],[]⟩),(.ret,⟨[(2,dZz)],[]⟩)]⟩)],[]⟩
abbrev ZS_p:SLz:=[.d (.slice (.int .i64))]
abbrev ZS_r:SLz:=[dZz]
@[irreducible] def ZS:FTz ZS_p ZS_r:=funM E R n false (g_27 n) iters ZS_a Tryz.f40 ZS_p ZS_r
def g_28:RGz:=aGz 40 ZS_p ZS_r (ZS n) (g_27 n)
theorem g_28_ok:RegsOK E (g_28 n):=pkG (g_27_ok n) iters_ok (by unfold ZS;rfl) Tryz.func40 (by kernel_rfl)
def Zf_a:Ann:=⟨[],[]⟩
abbrev Zf_p:SLz:=[dSz,dSz]
abbrev Zf_r:SLz:=[dZz]
def Zg_a:Ann:=⟨[(2,⟨[0,1,2,11,12],[],⟨[(13,dZz)],[]⟩,[(.exit 0,⟨[],[]⟩),(.ret,⟨[(6,dZz)],[]⟩)]⟩)],[]⟩
abbrev Zg_p:SLz:=[dLz,dLz,.fn 16 [] []]
abbrev Zg_r:SLz:=[dZz]
def grp3_a:Nat->List Sk
 |0=>Zf_p
 |_=>Zg_p
def grp3_r:Nat->List Sk
 |0=>Zf_r
 |_=>Zg_r
def grp3_n:Nat->Ann
 |0=>Zf_a
 |_=>Zg_a
def grp3_f:Nat->Func
 |0=>Tryz.f16
 |_=>Tryz.f43
def grp3_k (g:(i:Nat)->PayL R.T (grp3_a i)->Option (PayL R.T (grp3_r i))):Nat->List (FR R):=addF 43 ⟨grp3_a 1,grp3_r 1,g 1,dflL R (grp3_r 1),false⟩ (addF 16 ⟨grp3_a 0,grp3_r 0,g 0,dflL R (grp3_r 0),false⟩ (g_28 n))
def grp3 (n:Nat):Nat->(i:Nat)->PayL R.T (grp3_a i)->Option (PayL R.T (grp3_r i))
 |0,_,_=>none
 |m+1,i,p=>funM E R n false (grp3_k n (grp3 n m)) iters (grp3_n i) (grp3_f i) (grp3_a i) (grp3_r i) p
attribute [irreducible] grp3
theorem Zf_e (n m:Nat) (p:PayL R.T Zf_p):grp3 n (m+1) 0 p=funM E R n false (grp3_k n (grp3 n m)) iters Zf_a Tryz.f16 Zf_p Zf_r p:=by kernel_rfl
theorem Zg_e (n m:Nat) (p:PayL R.T Zg_p):grp3 n (m+1) 1 p=funM E R n false (grp3_k n (grp3 n m)) iters Zg_a Tryz.f43 Zg_p Zg_r p:=by kernel_rfl
theorem Zf_e0 (p:PayL R.T Zf_p):grp3 n 0 0 p=none:=by kernel_rfl
theorem Zf_z0 (p:PayL R.T (grp3_a 0)) (x:PayL R.T (grp3_r 0)) (h:grp3 n 0 0 p=some x):Pure E 16 (encSL R (grp3_a 0) p) (retV (encSL R (grp3_r 0) x)):=absurd ((Zf_e0 n p).symm.trans h) nofun
theorem Zg_e0 (p:PayL R.T Zg_p):grp3 n 0 1 p=none:=by kernel_rfl
theorem Zg_z0 (p:PayL R.T (grp3_a 1)) (x:PayL R.T (grp3_r 1)) (h:grp3 n 0 1 p=some x):Pure E 43 (encSL R (grp3_a 1) p) (retV (encSL R (grp3_r 1) x)):=absurd ((Zg_e0 n p).symm.trans h) nofun
theorem Zf_z (n m:Nat) (hk:RegsOK E (grp3_k n (grp3 n m))) (p:PayL R.T (grp3_a 0)) (x:PayL R.T (grp3_r 0)) (h:grp3 n (m+1) 0 p=some x):Pure E 16 (encSL R (grp3_a 0) p) (retV (encSL R (grp3_r 0) x)):=
 funM_ok (args:=Zf_p) (res:=Zf_r) rOK hk iters_ok ((Zf_e n m p).symm.trans h) Tryz.func16 rfl rfl rfl rfl (by kernel_rfl)
theorem Zg_z (n m:Nat) (hk:RegsOK E (grp3_k n (grp3 n m))) (p:PayL R.T (grp3_a 1)) (x:PayL R.T (grp3_r 1)) (h:grp3 n (m+1) 1 p=some x):Pure E 43 (encSL R (grp3_a 1) p) (retV (encSL R (grp3_r 1) x)):=
 funM_ok (args:=Zg_p) (res:=Zg_r) rOK hk iters_ok ((Zg_e n m p).symm.trans h) Tryz.func43 rfl rfl rfl rfl (by kernel_rfl)
theorem grp3_ok (n:Nat):∀m,RegsOK E (grp3_k n (grp3 n m))
 |0=>addF_ok (f:=43) (r:=⟨grp3_a 1,grp3_r 1,grp3 n 0 1,dflL R (grp3_r 1),false⟩) (addF_ok (f:=16) (r:=⟨grp3_a 0,grp3_r 0,grp3 n 0 0,dflL R (grp3_r 0),false⟩) (g_28_ok n) (Zf_z0 n)) (Zg_z0 n)
 |m+1=>addF_ok (f:=43) (r:=⟨grp3_a 1,grp3_r 1,grp3 n (m+1) 1,dflL R (grp3_r 1),false⟩) (addF_ok (f:=16) (r:=⟨grp3_a 0,grp3_r 0,grp3 n (m+1) 0,dflL R (grp3_r 0),false⟩) (g_28_ok n) (Zf_z n m (grp3_ok n m))) (Zg_z n m (grp3_ok n m))
@[irreducible] def Zf_m (n m:Nat) (p:PayL R.T Zf_p):Option (PayL R.T Zf_r):=grp3 n m 0 p
@[irreducible] def Zf (p:PayL R.T Zf_p):Option (PayL R.T Zf_r):=Zf_m n n p
theorem Zf_ok (p:PayL R.T Zf_p) (x:PayL R.T Zf_r) (h:Zf n p=some x):Pure E 16 (encSL R Zf_p p) (retV (encSL R Zf_r x)):=by
 unfold Zf Zf_m at h
 cases n with
 |zero=>exact absurd ((Zf_e0 0 p).symm.trans h) nofun
 |succ n=>exact funM_ok (args:=Zf_p) (res:=Zf_r) rOK (grp3_ok (n+1) n) iters_ok ((Zf_e (n+1) n p).symm.trans h) Tryz.func16 rfl rfl rfl rfl (by kernel_rfl)
@[irreducible] def Zg_m (n m:Nat) (p:PayL R.T Zg_p):Option (PayL R.T Zg_r):=grp3 n m 1 p
@[irreducible] def Zg (p:PayL R.T Zg_p):Option (PayL R.T Zg_r):=Zg_m n n p
theorem Zg_ok (p:PayL R.T Zg_p) (x:PayL R.T Zg_r) (h:Zg n p=some x):Pure E 43 (encSL R Zg_p p) (retV (encSL R Zg_r x)):=by
 unfold Zg Zg_m at h
 cases n with
 |zero=>exact absurd ((Zg_e0 0 p).symm.trans h) nofun
 |succ n=>exact funM_ok (args:=Zg_p) (res:=Zg_r) rOK (grp3_ok (n+1) n) iters_ok ((Zg_e (n+1) n p).symm.trans h) Tryz.func43 rfl rfl rfl rfl (by kernel_rfl)
def g_29:RGz:=addF 16 ⟨Zf_p,Zf_r,Zf n,dflL R Zf_r,false⟩ (g_28 n)
theorem g_29_ok:RegsOK E (g_29 n):=addF_ok (g_28_ok n) (Zf_ok n)
def g_30:RGz:=addF 43 ⟨Zg_p,Zg_r,Zg n,dflL R Zg_r,false⟩ (g_29 n)
theorem g_30_ok:RegsOK E (g_30 n):=addF_ok (g_29_ok n) (Zg_ok n)
def Xp_a:Ann:=⟨[],[]⟩
abbrev Xp_p:SLz:=[dSz,dSz]
abbrev Xp_r:SLz:=[.d .bool]
@[irreducible] def Xp:FTz Xp_p Xp_r:=funM E R n false (g_30 n) iters Xp_a Tryz.f90 Xp_p Xp_r
def g_31:RGz:=aGz 90 Xp_p Xp_r (Xp n) (g_30 n)
theorem g_31_ok:RegsOK E (g_31 n):=pkG (g_30_ok n) iters_ok (by unfold Xp;rfl) Tryz.func90 (by kernel_rfl)
def XO_a:Ann:=⟨[],[]⟩
abbrev XO_p:SLz:=[.d (.int .u32)]
abbrev XO_r:SLz:=[dZz]
@[irreducible] def XO:FTz XO_p XO_r:=funM E R n false (g_31 n) iters XO_a Tryz.f115 XO_p XO_r
def g_32:RGz:=aGz 115 XO_p XO_r (XO n) (g_31 n)
theorem g_32_ok:RegsOK E (g_32 n):=pkG (g_31_ok n) iters_ok (by unfold XO;rfl) Tryz.func115 (by kernel_rfl)
def XI_a:Ann:=⟨[],[]⟩
abbrev XI_p:SLz:=[.d (.int .u64)]
abbrev XI_r:SLz:=[dZz]
@[irreducible] def XI:FTz XI_p XI_r:=funM E R n false (g_32 n) iters XI_a Tryz.f116 XI_p XI_r
def g_33:RGz:=aGz 116 XI_p XI_r (XI n) (g_32 n)
theorem g_33_ok:RegsOK E (g_33 n):=pkG (g_32_ok n) iters_ok (by unfold XI;rfl) Tryz.func116 (by kernel_rfl)
def Xf_a:Ann:=⟨[],[]⟩
abbrev Xf_p:SLz:=[.d (.int .u64)]
abbrev Xf_r:SLz:=[dZz]
@[irreducible] def Xf:FTz Xf_p Xf_r:=funM E R n false (g_33 n) iters Xf_a Tryz.f102 Xf_p Xf_r
def g_34:RGz:=aGz 102 Xf_p Xf_r (Xf n) (g_33 n)
theorem g_34_ok:RegsOK E (g_34 n):=pkG (g_33_ok n) iters_ok (by unfold Xf;rfl) Tryz.func102 (by kernel_rfl)
def Zy_a:Ann:=⟨[(1,⟨[0,1,2,3],[],⟨[(8,dZz)],[oPz]⟩,[(.exit 0,⟨[],[oPz]⟩)]⟩),
 (4,⟨[0,1,2,3,8],[],⟨[(9,dZz)],[oPz]⟩,[(.exit 2,⟨[],[oPz]⟩)]⟩)],[]⟩
abbrev Zy_p:SLz:=[.vw 1000000 (.st 0),dZz,dZz,.fn 16 [] []]
abbrev Zy_r:SLz:=[]
abbrev Zy_o:List (Nat×ObSk):=[oPz]
@[irreducible] def Zy:FIz Zy_p Zy_o Zy_r:=funI E R n false (g_34 n) iters Zy_a Tryz.f107 Zy_p Zy_o Zy_r
theorem Zy_ok:FMOK E 107 (⟨Zy_p,Zy_o,Zy_r,Zy n⟩:FM R):=by
 intro p q y q' h
 have h:Zy n p q=some (y,q'):=h
 unfold Zy at h
 exact funI_ok rOK (g_34_ok n) iters_ok h Tryz.func107 rfl (by kernel_rfl)
def its1:IR R:=addM 107 ⟨Zy_p,Zy_o,Zy_r,Zy n⟩ iters
theorem its1_ok:ItersOK E (its1 n):=addM_ok (m:=⟨Zy_p,Zy_o,Zy_r,Zy n⟩) iters_ok (Zy_ok n)
def ZW_a:Ann:=⟨[(1,⟨[0,2,3,4],[],⟨[(10,dZz)],[oPz]⟩,[(.exit 0,⟨[],[oPz]⟩),(.ret,⟨[],[oPz]⟩)]⟩)],[(5,⟨[0,2,3,4,10],[1000000],⟨[],[]⟩,[(.normal,⟨[(11,dZz)],[]⟩)]⟩)]⟩
abbrev ZW_p:SLz:=[.vw 1000000 (.st 0),dZz,dZz,dZz,.fn 16 [] []]
abbrev ZW_r:SLz:=[]
abbrev ZW_o:List (Nat×ObSk):=[oPz]
@[irreducible] def ZW:FIz ZW_p ZW_o ZW_r:=funI E R n false (g_34 n) (its1 n) ZW_a Tryz.f122 ZW_p ZW_o ZW_r
def its2:IR R:=aMz 122 ZW_p ZW_o ZW_r (ZW n) (its1 n)
theorem its2_ok:ItersOK E (its2 n):=pkM (g_34_ok n) (its1_ok n) (by unfold ZW;rfl) Tryz.func122 (by kernel_rfl)
def ZF_a:Ann:=⟨[(4,⟨[0,3,8,9,10],[],⟨[(11,dZz)],[oPz]⟩,[(.exit 0,⟨[],[oPz]⟩)]⟩),
 (8,⟨[0,3,8,9],[],⟨[(12,dZz)],[oPz]⟩,[(.exit 2,⟨[],[oPz]⟩)]⟩)],[]⟩
abbrev ZF_p:SLz:=[.vw 1000000 (.st 0),dZz,dZz,.fn 16 [] []]
abbrev ZF_r:SLz:=[]
abbrev ZF_o:List (Nat×ObSk):=[oPz]
@[irreducible] def ZF:FIz ZF_p ZF_o ZF_r:=funI E R n false (g_34 n) (its2 n) ZF_a Tryz.f108 ZF_p ZF_o ZF_r
def its3:IR R:=aMz 108 ZF_p ZF_o ZF_r (ZF n) (its2 n)
theorem its3_ok:ItersOK E (its3 n):=pkM (g_34_ok n) (its2_ok n) (by unfold ZF;rfl) Tryz.func108 (by kernel_rfl)
def Xu_a:Ann:=⟨[],[]⟩
abbrev Xu_p:SLz:=[dZz]
abbrev Xu_r:SLz:=[.d (.int .u64)]
@[irreducible] def Xu:FTz Xu_p Xu_r:=funM E R n false (g_34 n) (its3 n) Xu_a Tryz.f123 Xu_p Xu_r
def g_35:RGz:=aGz 123 Xu_p Xu_r (Xu n) (g_34 n)
theorem g_35_ok:RegsOK E (g_35 n):=pkG (g_34_ok n) (its3_ok n) (by unfold Xu;rfl) Tryz.func123 (by kernel_rfl)
def ZZ_a:Ann:=⟨[],[]⟩
abbrev ZZ_p:SLz:=[.ref 1000000 0]
abbrev ZZ_r:SLz:=[.d (.int .u64)]
abbrev ZZ_o:List (Nat×ObSk):=[(1000000,.cells [.d (.int .u64)])]
@[irreducible] def ZZ:FIz ZZ_p ZZ_o ZZ_r:=funI E R n false (g_35 n) (its3 n) ZZ_a Tryz.f124 ZZ_p ZZ_o ZZ_r
def its4:IR R:=aMz 124 ZZ_p ZZ_o ZZ_r (ZZ n) (its3 n)
theorem its4_ok:ItersOK E (its4 n):=pkM (g_35_ok n) (its3_ok n) (by unfold ZZ;rfl) Tryz.func124 (by kernel_rfl)
def ZT_a:Ann:=⟨[(5,⟨[0,1,8,9,10],[],⟨[(11,dZz)],[(9,.cells [.d (.int .u64)]),oPz]⟩,[(.exit 0,⟨[],[oPz]⟩)]⟩)],[(10,⟨[0,1,8,9,10,11],[9,1000000],⟨[],[]⟩,[(.normal,⟨[(12,dZz)],[]⟩)]⟩)]⟩
abbrev ZT_p:SLz:=[.vw 1000000 (.st 0),dZz,dZz,.fn 16 [] []]
abbrev ZT_r:SLz:=[]
abbrev ZT_o:List (Nat×ObSk):=[oPz]
@[irreducible] def ZT:FIz ZT_p ZT_o ZT_r:=funI E R n false (g_35 n) (its4 n) ZT_a Tryz.f109 ZT_p ZT_o ZT_r
def its5:IR R:=aMz 109 ZT_p ZT_o ZT_r (ZT n) (its4 n)
theorem its5_ok:ItersOK E (its5 n):=pkM (g_35_ok n) (its4_ok n) (by unfold ZT;rfl) Tryz.func109 (by kernel_rfl)
def Xg_a:Ann:=⟨[],[]⟩
abbrev Xg_p:SLz:=[dLz,dZz,dZz,.ref 1000000 0,.fn 16 [] []]
abbrev Xg_r:SLz:=[dZz,dZz]
abbrev Xg_o:List (Nat×ObSk):=[(1000000,.cells [dZz])]
@[irreducible] def Xg:FIz Xg_p Xg_o Xg_r:=funI E R n false (g_35 n) (its5 n) Xg_a Tryz.f136 Xg_p Xg_o Xg_r
def its6:IR R:=aMz 136 Xg_p Xg_o Xg_r (Xg n) (its5 n)
theorem its6_ok:ItersOK E (its6 n):=pkM (g_35_ok n) (its5_ok n) (by unfold Xg;rfl) Tryz.func136 (by kernel_rfl)
def Xh_a:Ann:=⟨[],[]⟩
abbrev Xh_p:SLz:=[dLz,dZz,dZz,dZz,.ref 1000000 0,.fn 16 [] []]
abbrev Xh_r:SLz:=[dZz]
abbrev Xh_o:List (Nat×ObSk):=[(1000000,.cells [dZz])]
@[irreducible] def Xh:FIz Xh_p Xh_o Xh_r:=funI E R n false (g_35 n) (its6 n) Xh_a Tryz.f126 Xh_p Xh_o Xh_r
def its7:IR R:=aMz 126 Xh_p Xh_o Xh_r (Xh n) (its6 n)
theorem its7_ok:ItersOK E (its7 n):=pkM (g_35_ok n) (its6_ok n) (by unfold Xh;rfl) Tryz.func126 (by kernel_rfl)
def Xi_a:Ann:=⟨[],[]⟩
abbrev Xi_p:SLz:=[dLz,dZz,.ref 1000000 0,.fn 16 [] []]
abbrev Xi_r:SLz:=[dZz]
abbrev Xi_o:List (Nat×ObSk):=[(1000000,.cells [dZz])]
@[irreducible] def Xi:FIz Xi_p Xi_o Xi_r:=funI E R n false (g_35 n) (its7 n) Xi_a Tryz.f125 Xi_p Xi_o Xi_r
def its8:IR R:=aMz 125 Xi_p Xi_o Xi_r (Xi n) (its7 n)
theorem its8_ok:ItersOK E (its8 n):=pkM (g_35_ok n) (its7_ok n) (by unfold Xi;rfl) Tryz.func125 (by kernel_rfl)
def XM_a:Ann:=⟨[],[]⟩
abbrev XM_p:SLz:=[dLz,dZz,dZz,.fn 16 [] []]
abbrev XM_r:SLz:=[dZz,dZz]
@[irreducible] def XM:FTz XM_p XM_r:=funM E R n false (g_35 n) (its8 n) XM_a Tryz.f110 XM_p XM_r
def g_36:RGz:=aGz 110 XM_p XM_r (XM n) (g_35 n)
theorem g_36_ok:RegsOK E (g_36 n):=pkG (g_35_ok n) (its8_ok n) (by unfold XM;rfl) Tryz.func110 (by kernel_rfl)
def ZI_a:Ann:=⟨[(2,⟨[0],[],⟨[(8,dZz),(9,dZz)],[oPz]⟩,[(.exit 0,⟨[],[oPz]⟩)]⟩)],[]⟩
abbrev ZI_p:SLz:=[.vw 1000000 (.st 0),dZz,dZz,.fn 16 [] []]
abbrev ZI_r:SLz:=[]
abbrev ZI_o:List (Nat×ObSk):=[oPz]
@[irreducible] def ZI:FIz ZI_p ZI_o ZI_r:=funI E R n false (g_36 n) (its8 n) ZI_a Tryz.f111 ZI_p ZI_o ZI_r
def its9:IR R:=aMz 111 ZI_p ZI_o ZI_r (ZI n) (its8 n)
theorem its9_ok:ItersOK E (its9 n):=pkM (g_36_ok n) (its8_ok n) (by unfold ZI;rfl) Tryz.func111 (by kernel_rfl)
def Zr_a:Ann:=⟨[(3,⟨[0,1,2,3],[],⟨[(9,dZz),(10,dZz)],[oPz]⟩,[(.exit 0,⟨[],[oPz]⟩),(.ret,⟨[(8,.d .bool)],[oPz]⟩)]⟩),
 (5,⟨[0,1,2,3,10],[1000000],⟨[(9,dZz)],[]⟩,[(.exit 2,⟨[(9,dZz)],[]⟩)]⟩),
 (14,⟨[0,1,2,3,9,10],[],⟨[(11,dZz)],[oPz]⟩,[(.exit 4,⟨[],[oPz]⟩)]⟩),
 (20,⟨[0,1,2,3,9,10],[],⟨[(12,dZz)],[oPz]⟩,[(.exit 6,⟨[],[oPz]⟩)]⟩)],[(18,⟨[0,1,2,3,9,10],[],⟨[],[]⟩,[(.normal,⟨[],[oPz]⟩)]⟩)]⟩
abbrev Zr_p:SLz:=[.vw 1000000 (.st 0),dZz,dZz,.fn 16 [] []]
abbrev Zr_r:SLz:=[.d .bool]
abbrev Zr_o:List (Nat×ObSk):=[oPz]
@[irreducible] def Zr:FIz Zr_p Zr_o Zr_r:=funI E R n false (g_36 n) (its9 n) Zr_a Tryz.f112 Zr_p Zr_o Zr_r
def its10:IR R:=aMz 112 Zr_p Zr_o Zr_r (Zr n) (its9 n)
theorem its10_ok:ItersOK E (its10 n):=pkM (g_36_ok n) (its9_ok n) (by unfold Zr;rfl) Tryz.func112 (by kernel_rfl)
def Zv_a:Ann:=⟨[(503,⟨[0,1,4],[],⟨[(11,dZz),(12,dZz)],[oPz]⟩,[(.exit 0,⟨[(11,dZz)],[oPz]⟩)]⟩),
 (3,⟨[0,1,4,12],[1000000],⟨[(11,dZz)],[]⟩,[(.exit 2,⟨[(11,dZz)],[]⟩)]⟩),
 (5,⟨[0,1,4,11],[1000000],⟨[(12,dZz)],[]⟩,[(.exit 4,⟨[(12,dZz)],[]⟩)]⟩)],[]⟩
abbrev Zv_p:SLz:=[.vw 1000000 (.st 0),dZz,dZz,dZz,.fn 16 [] []]
abbrev Zv_r:SLz:=[dZz]
abbrev Zv_o:List (Nat×ObSk):=[oPz]
@[irreducible] def Zv:FIz Zv_p Zv_o Zv_r:=funI E R n false (g_36 n) (its10 n) Zv_a Tryz.f113 Zv_p Zv_o Zv_r
def its11:IR R:=aMz 113 Zv_p Zv_o Zv_r (Zv n) (its10 n)
theorem its11_ok:ItersOK E (its11 n):=pkM (g_36_ok n) (its10_ok n) (by unfold Zv;rfl) Tryz.func113 (by kernel_rfl)
def Zh_a:Ann:=⟨[(3,⟨[0,1,4,13],[1000000],⟨[(12,dZz)],[]⟩,[(.exit 0,⟨[(12,dZz)],[]⟩)]⟩),
 (5,⟨[0,1,4,12],[1000000],⟨[(13,dZz)],[]⟩,[(.exit 2,⟨[(13,dZz)],[]⟩)]⟩),
 (513,⟨[0,1,4],[],⟨[(12,dZz),(13,dZz)],[oPz]⟩,[(.exit 4,⟨[(13,dZz)],[oPz]⟩)]⟩),
 (13,⟨[0,1,4,13],[1000000],⟨[(12,dZz)],[]⟩,[(.exit 6,⟨[(12,dZz)],[]⟩)]⟩),
 (15,⟨[0,1,4,12],[1000000],⟨[(13,dZz)],[]⟩,[(.exit 8,⟨[(13,dZz)],[]⟩)]⟩)],[]⟩
abbrev Zh_p:SLz:=[.vw 1000000 (.st 0),dZz,dZz,dZz,.fn 16 [] []]
abbrev Zh_r:SLz:=[dZz,.d .bool]
abbrev Zh_o:List (Nat×ObSk):=[oPz]
@[irreducible] def Zh:FIz Zh_p Zh_o Zh_r:=funI E R n false (g_36 n) (its11 n) Zh_a Tryz.f114 Zh_p Zh_o Zh_r
def its12:IR R:=aMz 114 Zh_p Zh_o Zh_r (Zh n) (its11 n)
theorem its12_ok:ItersOK E (its12 n):=pkM (g_36_ok n) (its11_ok n) (by unfold Zh;rfl) Tryz.func114 (by kernel_rfl)
def Za_a:Ann:=⟨[(2,⟨[0,4],[],⟨[(1,dZz),(2,dZz),(3,dZz),(10,.d .bool),(11,.d .bool)],[oPz]⟩,[(.ret,⟨[],[oPz]⟩)]⟩)],[(10,⟨[0,1,2,4,10,11,12],[],⟨[],[]⟩,[(.normal,⟨[(3,dZz)],[oPz]⟩)]⟩),(15,⟨[0,1,2,3,4,10,11,12],[],⟨[],[]⟩,[(.normal,⟨[(13,dZz),(14,dZz)],[oPz]⟩)]⟩),(17,⟨[0,1,2,3,4,10,11,12,13],[],⟨[],[]⟩,[(.normal,⟨[],[oPz]⟩),(.ret,⟨[],[oPz]⟩)]⟩)]⟩
abbrev Za_p:SLz:=[.vw 1000000 (.st 0),dZz,dZz,dZz,.fn 16 [] []]
abbrev Za_r:SLz:=[]
abbrev Za_o:List (Nat×ObSk):=[oPz]
def Za_m (n:Nat):Nat->PayL R.T Za_p->PayOs R.T Za_o->Option (PayL R.T Za_r×PayOs R.T Za_o)
 |0,_,_=>none
 |m+1,p,q=>funI E R n false (g_36 n) (addM 101 ⟨Za_p,Za_o,Za_r,Za_m n m⟩ (its12 n)) Za_a Tryz.f101 Za_p Za_o Za_r p q
attribute [irreducible] Za_m
theorem Za_e (n m:Nat) (p:PayL R.T Za_p) (q:PayOs R.T Za_o):Za_m n (m+1) p q=funI E R n false (g_36 n) (addM 101 ⟨Za_p,Za_o,Za_r,Za_m n m⟩ (its12 n)) Za_a Tryz.f101 Za_p Za_o Za_r p q:=by kernel_rfl
theorem Za_e0 (p:PayL R.T Za_p) (q:PayOs R.T Za_o):Za_m n 0 p q=none:=by kernel_rfl
theorem slices_pdqsortCmpFunc_api_Pred_mok (n:Nat):∀m,FMOK E 101 (⟨Za_p,Za_o,Za_r,Za_m n m⟩:FM R)
 |0=>fun p q y q' h=>absurd (((Za_e0 n p q).symm.trans h)) nofun
 |m+1=>fun p q y q' h=>funI_ok rOK (g_36_ok n) (addM_ok (m:=⟨Za_p,Za_o,Za_r,Za_m n m⟩) (its12_ok n) (slices_pdqsortCmpFunc_api_Pred_mok n m)) ((Za_e n m p q).symm.trans h) Tryz.func101 rfl (by kernel_rfl)
@[irreducible] def Za:PayL R.T Za_p->PayOs R.T Za_o->Option (PayL R.T Za_r×PayOs R.T Za_o):=Za_m n n
theorem Za_ok:FMOK E 101 (⟨Za_p,Za_o,Za_r,Za n⟩:FM R):=by
 unfold Za
 exact slices_pdqsortCmpFunc_api_Pred_mok n n
def its13:IR R:=addM 101 ⟨Za_p,Za_o,Za_r,Za n⟩ (its12 n)
theorem its13_ok:ItersOK E (its13 n):=addM_ok (m:=⟨Za_p,Za_o,Za_r,Za n⟩) (its12_ok n) (Za_ok n)
def Xb_a:Ann:=⟨[],[]⟩
abbrev Xb_p:SLz:=[.vw 1000000 (.st 0),.fn 16 [] []]
abbrev Xb_r:SLz:=[]
abbrev Xb_o:List (Nat×ObSk):=[oPz]
@[irreducible] def Xb:FIz Xb_p Xb_o Xb_r:=funI E R n false (g_36 n) (its13 n) Xb_a Tryz.f91 Xb_p Xb_o Xb_r
def its14:IR R:=aMz 91 Xb_p Xb_o Xb_r (Xb n) (its13 n)
theorem its14_ok:ItersOK E (its14 n):=pkM (g_36_ok n) (its13_ok n) (by unfold Xb;rfl) Tryz.func91 (by kernel_rfl)
def Zl_a:Ann:=⟨[(4,⟨[0,1],[],⟨[(5,dZz)],[oPz]⟩,[(.exit 0,⟨[],[oPz]⟩),(.ret,⟨[(4,.sub 1000000 (.st 0))],[oPz]⟩)]⟩),
 (9,⟨[0,1,6],[],⟨[(5,dZz),(7,dZz)],[oPz]⟩,[(.exit 2,⟨[(5,dZz)],[oPz]⟩)]⟩)],[]⟩
abbrev Zl_p:SLz:=[.vw 1000000 (.st 0),.fn 90 [] []]
abbrev Zl_r:SLz:=[.sub 1000000 (.st 0)]
abbrev Zl_o:List (Nat×ObSk):=[oPz]
@[irreducible] def Zl:FIz Zl_p Zl_o Zl_r:=funI E R n false (g_36 n) (its14 n) Zl_a Tryz.f92 Zl_p Zl_o Zl_r
def its15:IR R:=aMz 92 Zl_p Zl_o Zl_r (Zl n) (its14 n)
theorem its15_ok:ItersOK E (its15 n):=pkM (g_36_ok n) (its14_ok n) (by unfold Zl;rfl) Tryz.func92 (by kernel_rfl)
def XB_a:Ann:=⟨[],[]⟩
abbrev XB_p:SLz:=[dSz,.cref [dZz,.d .str,dZz,dZz,.d .str,dLz] 0]
abbrev XB_r:SLz:=[.d .bool]
@[irreducible] def XB:FTz XB_p XB_r:=funM E R n false (g_36 n) (its15 n) XB_a Tryz.f93 XB_p XB_r
def g_37:RGz:=aGz 93 XB_p XB_r (XB n) (g_36 n)
theorem g_37_ok:RegsOK E (g_37 n):=pkG (g_36_ok n) (its15_ok n) (by unfold XB;rfl) Tryz.func93 (by kernel_rfl)
def ZU_a:Ann:=⟨[(2,⟨[0,1,7],[],⟨[(8,dZz)],[]⟩,[(.exit 0,⟨[],[]⟩),(.ret,⟨[(4,dZz)],[]⟩)]⟩)],[]⟩
abbrev ZU_p:SLz:=[dLz,.fn 93 [] [.cref [dZz,.d .str,dZz,dZz,.d .str,dLz] 0]]
abbrev ZU_r:SLz:=[dZz]
@[irreducible] def ZU:FTz ZU_p ZU_r:=funM E R n false (g_37 n) (its15 n) ZU_a Tryz.f98 ZU_p ZU_r
def g_38:RGz:=aGz 98 ZU_p ZU_r (ZU n) (g_37 n)
theorem g_38_ok:RegsOK E (g_38 n):=pkG (g_37_ok n) (its15_ok n) (by unfold ZU;rfl) Tryz.func98 (by kernel_rfl)
def Xq_a:Ann:=⟨[],[]⟩
abbrev Xq_p:SLz:=[dLz,.fn 93 [] [.cref [dZz,.d .str,dZz,dZz,.d .str,dLz] 0]]
abbrev Xq_r:SLz:=[.d .bool]
@[irreducible] def Xq:FTz Xq_p Xq_r:=funM E R n false (g_38 n) (its15 n) Xq_a Tryz.f84 Xq_p Xq_r
def g_39:RGz:=aGz 84 Xq_p Xq_r (Xq n) (g_38 n)
theorem g_39_ok:RegsOK E (g_39 n):=pkG (g_38_ok n) (its15_ok n) (by unfold Xq;rfl) Tryz.func84 (by kernel_rfl)
def Zk_a:Ann:=⟨[],[]⟩
abbrev Zk_p:SLz:=[dSz,.d .bool]
abbrev Zk_r:SLz:=[dSz]
def Ze_a:Ann:=⟨[(8,⟨[1,4,6,7,8,25,26],[4,7,8],⟨[(9,.vw 41 (.st 0)),(27,dZz)],[(41,.arr (.st 0))]⟩,[(.exit 0,⟨[(9,.vw 41 (.st 0))],[(41,.arr (.st 0))]⟩)]⟩)],[(5,⟨[1,2,4,5],[2,4],⟨[],[]⟩,[(.normal,⟨[(6,dZz)],[]⟩)]⟩)]⟩
abbrev Ze_p:SLz:=[dSz,.d .bool]
abbrev Ze_r:SLz:=[dSz]
def grp4_a:Nat->List Sk
 |0=>Zk_p
 |_=>Ze_p
def grp4_r:Nat->List Sk
 |0=>Zk_r
 |_=>Ze_r
def grp4_n:Nat->Ann
 |0=>Zk_a
 |_=>Ze_a
def grp4_o:Nat->Bool
 |0=>false
 |_=>true
def grp4_f:Nat->Func
 |0=>Tryz.f52
 |_=>Tryz.f77
def grp4_k (g:(i:Nat)->PayL R.T (grp4_a i)->Option (PayL R.T (grp4_r i))):Nat->List (FR R):=addF 77 ⟨grp4_a 1,grp4_r 1,g 1,dflL R (grp4_r 1),false⟩ (addF 52 ⟨grp4_a 0,grp4_r 0,g 0,dflL R (grp4_r 0),false⟩ (g_39 n))
def grp4 (n:Nat):Nat->(i:Nat)->PayL R.T (grp4_a i)->Option (PayL R.T (grp4_r i))
 |0,_,_=>none
 |m+1,i,p=>funM E R n (grp4_o i) (grp4_k n (grp4 n m)) (its15 n) (grp4_n i) (grp4_f i) (grp4_a i) (grp4_r i) p
attribute [irreducible] grp4
theorem Zk_e (n m:Nat) (p:PayL R.T Zk_p):grp4 n (m+1) 0 p=funM E R n false (grp4_k n (grp4 n m)) (its15 n) Zk_a Tryz.f52 Zk_p Zk_r p:=by kernel_rfl
theorem Ze_e (n m:Nat) (p:PayL R.T Ze_p):grp4 n (m+1) 1 p=funM E R n true (grp4_k n (grp4 n m)) (its15 n) Ze_a Tryz.f77 Ze_p Ze_r p:=by kernel_rfl
theorem Zk_e0 (p:PayL R.T Zk_p):grp4 n 0 0 p=none:=by kernel_rfl
theorem Zk_z0 (p:PayL R.T (grp4_a 0)) (x:PayL R.T (grp4_r 0)) (h:grp4 n 0 0 p=some x):Pure E 52 (encSL R (grp4_a 0) p) (retV (encSL R (grp4_r 0) x)):=absurd ((Zk_e0 n p).symm.trans h) nofun
theorem Ze_e0 (p:PayL R.T Ze_p):grp4 n 0 1 p=none:=by kernel_rfl
theorem Ze_z0 (p:PayL R.T (grp4_a 1)) (x:PayL R.T (grp4_r 1)) (h:grp4 n 0 1 p=some x):Pure E 77 (encSL R (grp4_a 1) p) (retV (encSL R (grp4_r 1) x)):=absurd ((Ze_e0 n p).symm.trans h) nofun
theorem Zk_z (n m:Nat) (hk:RegsOK E (grp4_k n (grp4 n m))) (p:PayL R.T (grp4_a 0)) (x:PayL R.T (grp4_r 0)) (h:grp4 n (m+1) 0 p=some x):Pure E 52 (encSL R (grp4_a 0) p) (retV (encSL R (grp4_r 0) x)):=
 funM_ok (args:=Zk_p) (res:=Zk_r) rOK hk (its15_ok n) ((Zk_e n m p).symm.trans h) Tryz.func52 rfl rfl rfl rfl (by kernel_rfl)
theorem Ze_z (n m:Nat) (hk:RegsOK E (grp4_k n (grp4 n m))) (p:PayL R.T (grp4_a 1)) (x:PayL R.T (grp4_r 1)) (h:grp4 n (m+1) 1 p=some x):Pure E 77 (encSL R (grp4_a 1) p) (retV (encSL R (grp4_r 1) x)):=
 funM_ok (args:=Ze_p) (res:=Ze_r) rOK hk (its15_ok n) ((Ze_e n m p).symm.trans h) Tryz.func77 rfl rfl rfl rfl (by kernel_rfl)
theorem grp4_ok (n:Nat):∀m,RegsOK E (grp4_k n (grp4 n m))
 |0=>addF_ok (f:=77) (r:=⟨grp4_a 1,grp4_r 1,grp4 n 0 1,dflL R (grp4_r 1),false⟩) (addF_ok (f:=52) (r:=⟨grp4_a 0,grp4_r 0,grp4 n 0 0,dflL R (grp4_r 0),false⟩) (g_39_ok n) (Zk_z0 n)) (Ze_z0 n)
 |m+1=>addF_ok (f:=77) (r:=⟨grp4_a 1,grp4_r 1,grp4 n (m+1) 1,dflL R (grp4_r 1),false⟩) (addF_ok (f:=52) (r:=⟨grp4_a 0,grp4_r 0,grp4 n (m+1) 0,dflL R (grp4_r 0),false⟩) (g_39_ok n) (Zk_z n m (grp4_ok n m))) (Ze_z n m (grp4_ok n m))
@[irreducible] def Zk_m (n m:Nat) (p:PayL R.T Zk_p):Option (PayL R.T Zk_r):=grp4 n m 0 p
@[irreducible] def Zk (p:PayL R.T Zk_p):Option (PayL R.T Zk_r):=Zk_m n n p
theorem Zk_ok (p:PayL R.T Zk_p) (x:PayL R.T Zk_r) (h:Zk n p=some x):Pure E 52 (encSL R Zk_p p) (retV (encSL R Zk_r x)):=by
 unfold Zk Zk_m at h
 cases n with
 |zero=>exact absurd ((Zk_e0 0 p).symm.trans h) nofun
 |succ n=>exact funM_ok (args:=Zk_p) (res:=Zk_r) rOK (grp4_ok (n+1) n) (its15_ok (n+1)) ((Zk_e (n+1) n p).symm.trans h) Tryz.func52 rfl rfl rfl rfl (by kernel_rfl)
@[irreducible] def Ze_m (n m:Nat) (p:PayL R.T Ze_p):Option (PayL R.T Ze_r):=grp4 n m 1 p
@[irreducible] def Ze (p:PayL R.T Ze_p):Option (PayL R.T Ze_r):=Ze_m n n p
theorem Ze_ok (p:PayL R.T Ze_p) (x:PayL R.T Ze_r) (h:Ze n p=some x):Pure E 77 (encSL R Ze_p p) (retV (encSL R Ze_r x)):=by
 unfold Ze Ze_m at h
 cases n with
 |zero=>exact absurd ((Ze_e0 0 p).symm.trans h) nofun
 |succ n=>exact funM_ok (args:=Ze_p) (res:=Ze_r) rOK (grp4_ok (n+1) n) (its15_ok (n+1)) ((Ze_e (n+1) n p).symm.trans h) Tryz.func77 rfl rfl rfl rfl (by kernel_rfl)
def g_40:RGz:=addF 52 ⟨Zk_p,Zk_r,Zk n,dflL R Zk_r,false⟩ (g_39 n)
theorem g_40_ok:RegsOK E (g_40 n):=addF_ok (g_39_ok n) (Zk_ok n)
def g_41:RGz:=addF 77 ⟨Ze_p,Ze_r,Ze n,dflL R Ze_r,false⟩ (g_40 n)
theorem g_41_ok:RegsOK E (g_41 n):=addF_ok (g_40_ok n) (Ze_ok n)
def XC_a:Ann:=⟨[],[]⟩
abbrev XC_p:SLz:=[dSz]
abbrev XC_r:SLz:=[dSz]
@[irreducible] def XC:FTz XC_p XC_r:=funM E R n false (g_41 n) (its15 n) XC_a Tryz.f21 XC_p XC_r
def g_42:RGz:=aGz 21 XC_p XC_r (XC n) (g_41 n)
theorem g_42_ok:RegsOK E (g_42 n):=pkG (g_41_ok n) (its15_ok n) (by unfold XC;rfl) Tryz.func21 (by kernel_rfl)
def Xr_a:Ann:=⟨[],[]⟩
abbrev Xr_p:SLz:=[dSz]
abbrev Xr_r:SLz:=[dSz]
@[irreducible] def Xr:FTz Xr_p Xr_r:=funM E R n false (g_42 n) (its15 n) Xr_a Tryz.f53 Xr_p Xr_r
def g_43:RGz:=aGz 53 Xr_p Xr_r (Xr n) (g_42 n)
theorem g_43_ok:RegsOK E (g_43 n):=pkG (g_42_ok n) (its15_ok n) (by unfold Xr;rfl) Tryz.func53 (by kernel_rfl)
def Xc_a:Ann:=⟨[],[]⟩
abbrev Xc_p:SLz:=[dZz,dZz]
abbrev Xc_r:SLz:=[dZz]
@[irreducible] def Xc:FTz Xc_p Xc_r:=funM E R n false (g_43 n) (its15 n) Xc_a Tryz.f44 Xc_p Xc_r
def g_44:RGz:=aGz 44 Xc_p Xc_r (Xc n) (g_43 n)
theorem g_44_ok:RegsOK E (g_44 n):=pkG (g_43_ok n) (its15_ok n) (by unfold Xc;rfl) Tryz.func44 (by kernel_rfl)
def Xj_a:Ann:=⟨[],[]⟩
abbrev Xj_p:SLz:=[.d .str,.d .str]
abbrev Xj_r:SLz:=[dZz]
@[irreducible] def Xj:FTz Xj_p Xj_r:=funM E R n false (g_44 n) (its15 n) Xj_a Tryz.f45 Xj_p Xj_r
def g_45:RGz:=aGz 45 Xj_p Xj_r (Xj n) (g_44 n)
theorem g_45_ok:RegsOK E (g_45 n):=pkG (g_44_ok n) (its15_ok n) (by unfold Xj;rfl) Tryz.func45 (by kernel_rfl)
def QR_a:Ann:=⟨[(3,⟨[2,3,5],[2],⟨[(6,dZz)],[]⟩,[(.exit 0,⟨[],[]⟩),(.ret,⟨[(4,dZz)],[]⟩)]⟩),
 (8,⟨[2,3],[2],⟨[(7,dZz)],[]⟩,[(.exit 2,⟨[],[]⟩),(.ret,⟨[(4,dZz)],[]⟩)]⟩)],[]⟩
abbrev QR_p:SLz:=[dSz,dSz]
abbrev QR_r:SLz:=[dZz]
def grp5_a:Nat->List Sk
 |_=>QR_p
def grp5_r:Nat->List Sk
 |_=>QR_r
def grp5_n:Nat->Ann
 |_=>QR_a
def grp5_f:Nat->Func
 |_=>Tryz.f17
def grp5_k (g:(i:Nat)->PayL R.T (grp5_a i)->Option (PayL R.T (grp5_r i))):Nat->List (FR R):=addF 17 ⟨grp5_a 0,grp5_r 0,g 0,dflL R (grp5_r 0),false⟩ (g_45 n)
def grp5 (n:Nat):Nat->(i:Nat)->PayL R.T (grp5_a i)->Option (PayL R.T (grp5_r i))
 |0,_,_=>none
 |m+1,i,p=>funM E R n false (grp5_k n (grp5 n m)) (its15 n) (grp5_n i) (grp5_f i) (grp5_a i) (grp5_r i) p
attribute [irreducible] grp5
theorem QR_e (n m:Nat) (p:PayL R.T QR_p):grp5 n (m+1) 0 p=funM E R n false (grp5_k n (grp5 n m)) (its15 n) QR_a Tryz.f17 QR_p QR_r p:=by kernel_rfl
theorem QR_e0 (p:PayL R.T QR_p):grp5 n 0 0 p=none:=by kernel_rfl
theorem QR_z0 (p:PayL R.T (grp5_a 0)) (x:PayL R.T (grp5_r 0)) (h:grp5 n 0 0 p=some x):Pure E 17 (encSL R (grp5_a 0) p) (retV (encSL R (grp5_r 0) x)):=absurd ((QR_e0 n p).symm.trans h) nofun
theorem QR_z (n m:Nat) (hk:RegsOK E (grp5_k n (grp5 n m))) (p:PayL R.T (grp5_a 0)) (x:PayL R.T (grp5_r 0)) (h:grp5 n (m+1) 0 p=some x):Pure E 17 (encSL R (grp5_a 0) p) (retV (encSL R (grp5_r 0) x)):=
 funM_ok (args:=QR_p) (res:=QR_r) rOK hk (its15_ok n) ((QR_e n m p).symm.trans h) Tryz.func17 rfl rfl rfl rfl (by kernel_rfl)
theorem grp5_ok (n:Nat):∀m,RegsOK E (grp5_k n (grp5 n m))
 |0=>addF_ok (f:=17) (r:=⟨grp5_a 0,grp5_r 0,grp5 n 0 0,dflL R (grp5_r 0),false⟩) (g_45_ok n) (QR_z0 n)
 |m+1=>addF_ok (f:=17) (r:=⟨grp5_a 0,grp5_r 0,grp5 n (m+1) 0,dflL R (grp5_r 0),false⟩) (g_45_ok n) (QR_z n m (grp5_ok n m))
@[irreducible] def QR_m (n m:Nat) (p:PayL R.T QR_p):Option (PayL R.T QR_r):=grp5 n m 0 p
@[irreducible] def QR (p:PayL R.T QR_p):Option (PayL R.T QR_r):=QR_m n n p
theorem QR_ok (p:PayL R.T QR_p) (x:PayL R.T QR_r) (h:QR n p=some x):Pure E 17 (encSL R QR_p p) (retV (encSL R QR_r x)):=by
 unfold QR QR_m at h
 cases n with
 |zero=>exact absurd ((QR_e0 0 p).symm.trans h) nofun
 |succ n=>exact funM_ok (args:=QR_p) (res:=QR_r) rOK (grp5_ok (n+1) n) (its15_ok (n+1)) ((QR_e (n+1) n p).symm.trans h) Tryz.func17 rfl rfl rfl rfl (by kernel_rfl)
def g_46:RGz:=addF 17 ⟨QR_p,QR_r,QR n,dflL R QR_r,false⟩ (g_45 n)
theorem g_46_ok:RegsOK E (g_46 n):=addF_ok (g_45_ok n) (QR_ok n)
def ZH_a:Ann:=⟨[(4,⟨[0,3],[],⟨[(5,.l (.own 30) (.st 0)),(6,.d .bool),(7,dZz)],[]⟩,[(.exit 0,⟨[(5,.l (.own 30) (.st 0)),(6,.d .bool)],[]⟩)]⟩)],[]⟩
abbrev ZH_p:SLz:=[dLz,dSz]
abbrev ZH_r:SLz:=[dLz]
@[irreducible] def ZH:FTz ZH_p ZH_r:=funM E R n false (g_46 n) (its15 n) ZH_a Tryz.f54 ZH_p ZH_r
def g_47:RGz:=aGz 54 ZH_p ZH_r (ZH n) (g_46 n)
theorem g_47_ok:RegsOK E (g_47 n):=pkG (g_46_ok n) (its15_ok n) (by unfold ZH;rfl) Tryz.func54 (by kernel_rfl)
def QP_a:Ann:=⟨[(9,⟨[2,3,4],[2,3],⟨[(5,dZz)],[(4,.cells [dZz,.d .str,dZz,dZz,.d .str,.l (.own 58) (.st 0)])]⟩,[(.exit 0,⟨[],[(4,.cells [dZz,.d .str,dZz,dZz,.d .str,.l (.own 58) (.st 0)])]⟩)]⟩),
 (23,⟨[1,2,7,8],[1,7,8],⟨[(9,.l .any (.st 0)),(10,dZz)],[(2,.st 0)]⟩,[(.exit 2,⟨[(9,.l .any (.st 0))],[(2,.st 0)]⟩),(.ret,⟨[],[(2,.st 0)]⟩)]⟩),
 (30,⟨[1,2,7,8,10,11],[1,2,7,8,11],⟨[(9,.l .any (.st 0)),(12,dZz)],[]⟩,[(.exit 4,⟨[(9,.l .any (.st 0))],[]⟩)]⟩)],[(21,⟨[1,2,7,8],[1,2],⟨[],[]⟩,[(.normal,⟨[],[(7,.st 0),(8,.st 0)]⟩)]⟩)]⟩
abbrev QP_p:SLz:=[dSz]
abbrev QP_r:SLz:=[dSz]
def grp6_a:Nat->List Sk
 |_=>QP_p
def grp6_r:Nat->List Sk
 |_=>QP_r
def grp6_n:Nat->Ann
 |_=>QP_a
def grp6_f:Nat->Func
 |_=>Tryz.f22
def grp6_k (g:(i:Nat)->PayL R.T (grp6_a i)->Option (PayL R.T (grp6_r i))):Nat->List (FR R):=addF 22 ⟨grp6_a 0,grp6_r 0,g 0,dflL R (grp6_r 0),false⟩ (g_47 n)
def grp6 (n:Nat):Nat->(i:Nat)->PayL R.T (grp6_a i)->Option (PayL R.T (grp6_r i))
 |0,_,_=>none
 |m+1,i,p=>funM E R n false (grp6_k n (grp6 n m)) (its15 n) (grp6_n i) (grp6_f i) (grp6_a i) (grp6_r i) p
attribute [irreducible] grp6
theorem QP_e (n m:Nat) (p:PayL R.T QP_p):grp6 n (m+1) 0 p=funM E R n false (grp6_k n (grp6 n m)) (its15 n) QP_a Tryz.f22 QP_p QP_r p:=by kernel_rfl
theorem QP_e0 (p:PayL R.T QP_p):grp6 n 0 0 p=none:=by kernel_rfl
theorem QP_z0 (p:PayL R.T (grp6_a 0)) (x:PayL R.T (grp6_r 0)) (h:grp6 n 0 0 p=some x):Pure E 22 (encSL R (grp6_a 0) p) (retV (encSL R (grp6_r 0) x)):=absurd ((QP_e0 n p).symm.trans h) nofun
theorem QP_z (n m:Nat) (hk:RegsOK E (grp6_k n (grp6 n m))) (p:PayL R.T (grp6_a 0)) (x:PayL R.T (grp6_r 0)) (h:grp6 n (m+1) 0 p=some x):Pure E 22 (encSL R (grp6_a 0) p) (retV (encSL R (grp6_r 0) x)):=
 funM_ok (args:=QP_p) (res:=QP_r) rOK hk (its15_ok n) ((QP_e n m p).symm.trans h) Tryz.func22 rfl rfl rfl rfl (by kernel_rfl)
theorem grp6_ok (n:Nat):∀m,RegsOK E (grp6_k n (grp6 n m))
 |0=>addF_ok (f:=22) (r:=⟨grp6_a 0,grp6_r 0,grp6 n 0 0,dflL R (grp6_r 0),false⟩) (g_47_ok n) (QP_z0 n)
 |m+1=>addF_ok (f:=22) (r:=⟨grp6_a 0,grp6_r 0,grp6 n (m+1) 0,dflL R (grp6_r 0),false⟩) (g_47_ok n) (QP_z n m (grp6_ok n m))
@[irreducible] def QP_m (n m:Nat) (p:PayL R.T QP_p):Option (PayL R.T QP_r):=grp6 n m 0 p
@[irreducible] def QP (p:PayL R.T QP_p):Option (PayL R.T QP_r):=QP_m n n p
theorem QP_ok (p:PayL R.T QP_p) (x:PayL R.T QP_r) (h:QP n p=some x):Pure E 22 (encSL R QP_p p) (retV (encSL R QP_r x)):=by
 unfold QP QP_m at h
 cases n with
 |zero=>exact absurd ((QP_e0 0 p).symm.trans h) nofun
 |succ n=>exact funM_ok (args:=QP_p) (res:=QP_r) rOK (grp6_ok (n+1) n) (its15_ok (n+1)) ((QP_e (n+1) n p).symm.trans h) Tryz.func22 rfl rfl rfl rfl (by kernel_rfl)
def g_48:RGz:=addF 22 ⟨QP_p,QP_r,QP n,dflL R QP_r,false⟩ (g_47 n)
theorem g_48_ok:RegsOK E (g_48 n):=addF_ok (g_47_ok n) (QP_ok n)
def XD_a:Ann:=⟨[],[]⟩
abbrev XD_p:SLz:=[dZz,dZz]
abbrev XD_r:SLz:=[.d .bool]
@[irreducible] def XD:FTz XD_p XD_r:=funM E R n false (g_48 n) (its15 n) XD_a Tryz.f133 XD_p XD_r
def g_49:RGz:=aGz 133 XD_p XD_r (XD n) (g_48 n)
theorem g_49_ok:RegsOK E (g_49 n):=pkG (g_48_ok n) (its15_ok n) (by unfold XD;rfl) Tryz.func133 (by kernel_rfl)
def Zz_a:Ann:=⟨[(1,⟨[0,1,2],[],⟨[(6,dZz)],[oIz]⟩,[(.exit 0,⟨[],[oIz]⟩)]⟩),
 (4,⟨[0,1,2,6],[],⟨[(7,dZz)],[oIz]⟩,[(.exit 2,⟨[],[oIz]⟩)]⟩)],[]⟩
abbrev Zz_p:SLz:=[.vw 1000000 (.int .i64),dZz,dZz]
abbrev Zz_r:SLz:=[]
abbrev Zz_o:List (Nat×ObSk):=[oIz]
@[irreducible] def Zz:FIz Zz_p Zz_o Zz_r:=funI E R n false (g_49 n) (its15 n) Zz_a Tryz.f127 Zz_p Zz_o Zz_r
def its16:IR R:=aMz 127 Zz_p Zz_o Zz_r (Zz n) (its15 n)
theorem its16_ok:ItersOK E (its16 n):=pkM (g_49_ok n) (its15_ok n) (by unfold Zz;rfl) Tryz.func127 (by kernel_rfl)
def ZX_a:Ann:=⟨[(1,⟨[0,2,3],[],⟨[(8,dZz)],[oIz]⟩,[(.exit 0,⟨[],[oIz]⟩),(.ret,⟨[],[oIz]⟩)]⟩)],[(5,⟨[0,2,3,8],[1000000],⟨[],[]⟩,[(.normal,⟨[(9,dZz)],[]⟩)]⟩)]⟩
abbrev ZX_p:SLz:=[.vw 1000000 (.int .i64),dZz,dZz,dZz]
abbrev ZX_r:SLz:=[]
abbrev ZX_o:List (Nat×ObSk):=[oIz]
@[irreducible] def ZX:FIz ZX_p ZX_o ZX_r:=funI E R n false (g_49 n) (its16 n) ZX_a Tryz.f137 ZX_p ZX_o ZX_r
def its17:IR R:=aMz 137 ZX_p ZX_o ZX_r (ZX n) (its16 n)
theorem its17_ok:ItersOK E (its17 n):=pkM (g_49_ok n) (its16_ok n) (by unfold ZX;rfl) Tryz.func137 (by kernel_rfl)
def ZG_a:Ann:=⟨[(4,⟨[0,6,7,8],[],⟨[(9,dZz)],[oIz]⟩,[(.exit 0,⟨[],[oIz]⟩)]⟩),
 (8,⟨[0,6,7],[],⟨[(10,dZz)],[oIz]⟩,[(.exit 2,⟨[],[oIz]⟩)]⟩)],[]⟩
abbrev ZG_p:SLz:=[.vw 1000000 (.int .i64),dZz,dZz]
abbrev ZG_r:SLz:=[]
abbrev ZG_o:List (Nat×ObSk):=[oIz]
@[irreducible] def ZG:FIz ZG_p ZG_o ZG_r:=funI E R n false (g_49 n) (its17 n) ZG_a Tryz.f128 ZG_p ZG_o ZG_r
def its18:IR R:=aMz 128 ZG_p ZG_o ZG_r (ZG n) (its17 n)
theorem its18_ok:ItersOK E (its18 n):=pkM (g_49_ok n) (its17_ok n) (by unfold ZG;rfl) Tryz.func128 (by kernel_rfl)
def ZV_a:Ann:=⟨[(5,⟨[0,1,6,7,8],[],⟨[(9,dZz)],[(7,.cells [.d (.int .u64)]),oIz]⟩,[(.exit 0,⟨[],[oIz]⟩)]⟩)],[(10,⟨[0,1,6,7,8,9],[7,1000000],⟨[],[]⟩,[(.normal,⟨[(10,dZz)],[]⟩)]⟩)]⟩
abbrev ZV_p:SLz:=[.vw 1000000 (.int .i64),dZz,dZz]
abbrev ZV_r:SLz:=[]
abbrev ZV_o:List (Nat×ObSk):=[oIz]
@[irreducible] def ZV:FIz ZV_p ZV_o ZV_r:=funI E R n false (g_49 n) (its18 n) ZV_a Tryz.f129 ZV_p ZV_o ZV_r
def its19:IR R:=aMz 129 ZV_p ZV_o ZV_r (ZV n) (its18 n)
theorem its19_ok:ItersOK E (its19 n):=pkM (g_49_ok n) (its18_ok n) (by unfold ZV;rfl) Tryz.func129 (by kernel_rfl)
def Xk_a:Ann:=⟨[],[]⟩
abbrev Xk_p:SLz:=[.d (.slice (.int .i64)),dZz,dZz,.ref 1000000 0]
abbrev Xk_r:SLz:=[dZz,dZz]
abbrev Xk_o:List (Nat×ObSk):=[(1000000,.cells [dZz])]
@[irreducible] def Xk:FIz Xk_p Xk_o Xk_r:=funI E R n false (g_49 n) (its19 n) Xk_a Tryz.f140 Xk_p Xk_o Xk_r
def its20:IR R:=aMz 140 Xk_p Xk_o Xk_r (Xk n) (its19 n)
theorem its20_ok:ItersOK E (its20 n):=pkM (g_49_ok n) (its19_ok n) (by unfold Xk;rfl) Tryz.func140 (by kernel_rfl)
def Xl_a:Ann:=⟨[],[]⟩
abbrev Xl_p:SLz:=[.d (.slice (.int .i64)),dZz,dZz,dZz,.ref 1000000 0]
abbrev Xl_r:SLz:=[dZz]
abbrev Xl_o:List (Nat×ObSk):=[(1000000,.cells [dZz])]
@[irreducible] def Xl:FIz Xl_p Xl_o Xl_r:=funI E R n false (g_49 n) (its20 n) Xl_a Tryz.f139 Xl_p Xl_o Xl_r
def its21:IR R:=aMz 139 Xl_p Xl_o Xl_r (Xl n) (its20 n)
theorem its21_ok:ItersOK E (its21 n):=pkM (g_49_ok n) (its20_ok n) (by unfold Xl;rfl) Tryz.func139 (by kernel_rfl)
def Xm_a:Ann:=⟨[],[]⟩
abbrev Xm_p:SLz:=[.d (.slice (.int .i64)),dZz,.ref 1000000 0]
abbrev Xm_r:SLz:=[dZz]
abbrev Xm_o:List (Nat×ObSk):=[(1000000,.cells [dZz])]
@[irreducible] def Xm:FIz Xm_p Xm_o Xm_r:=funI E R n false (g_49 n) (its21 n) Xm_a Tryz.f138 Xm_p Xm_o Xm_r
def its22:IR R:=aMz 138 Xm_p Xm_o Xm_r (Xm n) (its21 n)
theorem its22_ok:ItersOK E (its22 n):=pkM (g_49_ok n) (its21_ok n) (by unfold Xm;rfl) Tryz.func138 (by kernel_rfl)
def XN_a:Ann:=⟨[],[]⟩
abbrev XN_p:SLz:=[.d (.slice (.int .i64)),dZz,dZz]
abbrev XN_r:SLz:=[dZz,dZz]
@[irreducible] def XN:FTz XN_p XN_r:=funM E R n false (g_49 n) (its22 n) XN_a Tryz.f130 XN_p XN_r
def g_50:RGz:=aGz 130 XN_p XN_r (XN n) (g_49 n)
theorem g_50_ok:RegsOK E (g_50 n):=pkG (g_49_ok n) (its22_ok n) (by unfold XN;rfl) Tryz.func130 (by kernel_rfl)
def ZJ_a:Ann:=⟨[(2,⟨[0],[],⟨[(6,dZz),(7,dZz)],[oIz]⟩,[(.exit 0,⟨[],[oIz]⟩)]⟩)],[]⟩
abbrev ZJ_p:SLz:=[.vw 1000000 (.int .i64),dZz,dZz]
abbrev ZJ_r:SLz:=[]
abbrev ZJ_o:List (Nat×ObSk):=[oIz]
@[irreducible] def ZJ:FIz ZJ_p ZJ_o ZJ_r:=funI E R n false (g_50 n) (its22 n) ZJ_a Tryz.f131 ZJ_p ZJ_o ZJ_r
def its23:IR R:=aMz 131 ZJ_p ZJ_o ZJ_r (ZJ n) (its22 n)
theorem its23_ok:ItersOK E (its23 n):=pkM (g_50_ok n) (its22_ok n) (by unfold ZJ;rfl) Tryz.func131 (by kernel_rfl)
def Zs_a:Ann:=⟨[(3,⟨[0,1,2],[],⟨[(7,dZz),(8,dZz)],[oIz]⟩,[(.exit 0,⟨[],[oIz]⟩),(.ret,⟨[(6,.d .bool)],[oIz]⟩)]⟩),
 (5,⟨[0,1,2,8],[1000000],⟨[(7,dZz)],[]⟩,[(.exit 2,⟨[(7,dZz)],[]⟩)]⟩),
 (14,⟨[0,1,2,7,8],[],⟨[(9,dZz)],[oIz]⟩,[(.exit 4,⟨[],[oIz]⟩)]⟩),
 (20,⟨[0,1,2,7,8],[],⟨[(10,dZz)],[oIz]⟩,[(.exit 6,⟨[],[oIz]⟩)]⟩)],[(18,⟨[0,1,2,7,8],[],⟨[],[]⟩,[(.normal,⟨[],[oIz]⟩)]⟩)]⟩
abbrev Zs_p:SLz:=[.vw 1000000 (.int .i64),dZz,dZz]
abbrev Zs_r:SLz:=[.d .bool]
abbrev Zs_o:List (Nat×ObSk):=[oIz]
@[irreducible] def Zs:FIz Zs_p Zs_o Zs_r:=funI E R n false (g_50 n) (its23 n) Zs_a Tryz.f132 Zs_p Zs_o Zs_r
def its24:IR R:=aMz 132 Zs_p Zs_o Zs_r (Zs n) (its23 n)
theorem its24_ok:ItersOK E (its24 n):=pkM (g_50_ok n) (its23_ok n) (by unfold Zs;rfl) Tryz.func132 (by kernel_rfl)
def Zw_a:Ann:=⟨[(503,⟨[0,1],[],⟨[(9,dZz),(10,dZz)],[oIz]⟩,[(.exit 0,⟨[(9,dZz)],[oIz]⟩)]⟩),
 (3,⟨[0,1,10],[1000000],⟨[(9,dZz)],[]⟩,[(.exit 2,⟨[(9,dZz)],[]⟩)]⟩),
 (5,⟨[0,1,9],[1000000],⟨[(10,dZz)],[]⟩,[(.exit 4,⟨[(10,dZz)],[]⟩)]⟩)],[]⟩
abbrev Zw_p:SLz:=[.vw 1000000 (.int .i64),dZz,dZz,dZz]
abbrev Zw_r:SLz:=[dZz]
abbrev Zw_o:List (Nat×ObSk):=[oIz]
@[irreducible] def Zw:FIz Zw_p Zw_o Zw_r:=funI E R n false (g_50 n) (its24 n) Zw_a Tryz.f134 Zw_p Zw_o Zw_r
def its25:IR R:=aMz 134 Zw_p Zw_o Zw_r (Zw n) (its24 n)
theorem its25_ok:ItersOK E (its25 n):=pkM (g_50_ok n) (its24_ok n) (by unfold Zw;rfl) Tryz.func134 (by kernel_rfl)
def Zi_a:Ann:=⟨[(3,⟨[0,1,11],[1000000],⟨[(10,dZz)],[]⟩,[(.exit 0,⟨[(10,dZz)],[]⟩)]⟩),
 (5,⟨[0,1,10],[1000000],⟨[(11,dZz)],[]⟩,[(.exit 2,⟨[(11,dZz)],[]⟩)]⟩),
 (513,⟨[0,1],[],⟨[(10,dZz),(11,dZz)],[oIz]⟩,[(.exit 4,⟨[(11,dZz)],[oIz]⟩)]⟩),
 (13,⟨[0,1,11],[1000000],⟨[(10,dZz)],[]⟩,[(.exit 6,⟨[(10,dZz)],[]⟩)]⟩),
 (15,⟨[0,1,10],[1000000],⟨[(11,dZz)],[]⟩,[(.exit 8,⟨[(11,dZz)],[]⟩)]⟩)],[]⟩
abbrev Zi_p:SLz:=[.vw 1000000 (.int .i64),dZz,dZz,dZz]
abbrev Zi_r:SLz:=[dZz,.d .bool]
abbrev Zi_o:List (Nat×ObSk):=[oIz]
@[irreducible] def Zi:FIz Zi_p Zi_o Zi_r:=funI E R n false (g_50 n) (its25 n) Zi_a Tryz.f135 Zi_p Zi_o Zi_r
def its26:IR R:=aMz 135 Zi_p Zi_o Zi_r (Zi n) (its25 n)
theorem its26_ok:ItersOK E (its26 n):=pkM (g_50_ok n) (its25_ok n) (by unfold Zi;rfl) Tryz.func135 (by kernel_rfl)
def Zb_a:Ann:=⟨[(2,⟨[0],[],⟨[(1,dZz),(2,dZz),(3,dZz),(8,.d .bool),(9,.d .bool)],[oIz]⟩,[(.ret,⟨[],[oIz]⟩)]⟩)],[(10,⟨[0,1,2,8,9,10],[],⟨[],[]⟩,[(.normal,⟨[(3,dZz)],[oIz]⟩)]⟩),(15,⟨[0,1,2,3,8,9,10],[],⟨[],[]⟩,[(.normal,⟨[(11,dZz),(12,dZz)],[oIz]⟩)]⟩),(17,⟨[0,1,2,3,8,9,10,11],[],⟨[],[]⟩,[(.normal,⟨[],[oIz]⟩),(.ret,⟨[],[oIz]⟩)]⟩)]⟩
abbrev Zb_p:SLz:=[.vw 1000000 (.int .i64),dZz,dZz,dZz]
abbrev Zb_r:SLz:=[]
abbrev Zb_o:List (Nat×ObSk):=[oIz]
def Zb_m (n:Nat):Nat->PayL R.T Zb_p->PayOs R.T Zb_o->Option (PayL R.T Zb_r×PayOs R.T Zb_o)
 |0,_,_=>none
 |m+1,p,q=>funI E R n false (g_50 n) (addM 117 ⟨Zb_p,Zb_o,Zb_r,Zb_m n m⟩ (its26 n)) Zb_a Tryz.f117 Zb_p Zb_o Zb_r p q
attribute [irreducible] Zb_m
theorem Zb_e (n m:Nat) (p:PayL R.T Zb_p) (q:PayOs R.T Zb_o):Zb_m n (m+1) p q=funI E R n false (g_50 n) (addM 117 ⟨Zb_p,Zb_o,Zb_r,Zb_m n m⟩ (its26 n)) Zb_a Tryz.f117 Zb_p Zb_o Zb_r p q:=by kernel_rfl
theorem Zb_e0 (p:PayL R.T Zb_p) (q:PayOs R.T Zb_o):Zb_m n 0 p q=none:=by kernel_rfl
theorem slices_pdqsortOrdered_int_mok (n:Nat):∀m,FMOK E 117 (⟨Zb_p,Zb_o,Zb_r,Zb_m n m⟩:FM R)
 |0=>fun p q y q' h=>absurd (((Zb_e0 n p q).symm.trans h)) nofun
 |m+1=>fun p q y q' h=>funI_ok rOK (g_50_ok n) (addM_ok (m:=⟨Zb_p,Zb_o,Zb_r,Zb_m n m⟩) (its26_ok n) (slices_pdqsortOrdered_int_mok n m)) ((Zb_e n m p q).symm.trans h) Tryz.func117 rfl (by kernel_rfl)
@[irreducible] def Zb:PayL R.T Zb_p->PayOs R.T Zb_o->Option (PayL R.T Zb_r×PayOs R.T Zb_o):=Zb_m n n
theorem Zb_ok:FMOK E 117 (⟨Zb_p,Zb_o,Zb_r,Zb n⟩:FM R):=by
 unfold Zb
 exact slices_pdqsortOrdered_int_mok n n
def its27:IR R:=addM 117 ⟨Zb_p,Zb_o,Zb_r,Zb n⟩ (its26 n)
theorem its27_ok:ItersOK E (its27 n):=addM_ok (m:=⟨Zb_p,Zb_o,Zb_r,Zb n⟩) (its26_ok n) (Zb_ok n)
def Xd_a:Ann:=⟨[],[]⟩
abbrev Xd_p:SLz:=[.vw 1000000 (.int .i64)]
abbrev Xd_r:SLz:=[]
abbrev Xd_o:List (Nat×ObSk):=[oIz]
@[irreducible] def Xd:FIz Xd_p Xd_o Xd_r:=funI E R n false (g_50 n) (its27 n) Xd_a Tryz.f103 Xd_p Xd_o Xd_r
def its28:IR R:=aMz 103 Xd_p Xd_o Xd_r (Xd n) (its27 n)
theorem its28_ok:ItersOK E (its28 n):=pkM (g_50_ok n) (its27_ok n) (by unfold Xd;rfl) Tryz.func103 (by kernel_rfl)
def Zm_a:Ann:=⟨[(4,⟨[0],[],⟨[(3,dZz)],[oIz]⟩,[(.exit 0,⟨[],[oIz]⟩),(.ret,⟨[(2,.sub 1000000 (.int .i64))],[oIz]⟩)]⟩),
 (9,⟨[0,4],[],⟨[(3,dZz),(5,dZz)],[oIz]⟩,[(.exit 2,⟨[(3,dZz)],[oIz]⟩)]⟩)],[]⟩
abbrev Zm_p:SLz:=[.vw 1000000 (.int .i64)]
abbrev Zm_r:SLz:=[.sub 1000000 (.int .i64)]
abbrev Zm_o:List (Nat×ObSk):=[oIz]
@[irreducible] def Zm:FIz Zm_p Zm_o Zm_r:=funI E R n false (g_50 n) (its28 n) Zm_a Tryz.f105 Zm_p Zm_o Zm_r
def its29:IR R:=aMz 105 Zm_p Zm_o Zm_r (Zm n) (its28 n)
theorem its29_ok:ItersOK E (its29 n):=pkM (g_50_ok n) (its28_ok n) (by unfold Zm;rfl) Tryz.func105 (by kernel_rfl)
def ZB_a:Ann:=⟨[(4,⟨[2,3,5],[3],⟨[],[(5,.cells [.l (.own 32) .bool])]⟩,[(.normal,⟨[],[(5,.cells [.l (.own 32) .bool])]⟩)]⟩)],[]⟩
abbrev ZB_p:SLz:=[dZz,.cref [dZz,.d .str,dZz,dZz,.d .str,dLz] 0,.cref [.d .str,dZz,dZz,dZz,.d (.slice .str)] 0]
abbrev ZB_r:SLz:=[.d (.slice .bool)]
@[irreducible] def ZB:FTz ZB_p ZB_r:=funM E R n false (g_50 n) (its29 n) ZB_a Tryz.f118 ZB_p ZB_r
def g_51:RGz:=aGz 118 ZB_p ZB_r (ZB n) (g_50 n)
theorem g_51_ok:RegsOK E (g_51 n):=pkG (g_50_ok n) (its29_ok n) (by unfold ZB;rfl) Tryz.func118 (by kernel_rfl)
def ZO_a:Ann:=⟨[(4,⟨[0,1,12],[],⟨[(13,dZz)],[]⟩,[(.exit 0,⟨[],[]⟩),(.ret,⟨[(4,.d .bool)],[]⟩)]⟩)],[]⟩
abbrev ZO_p:SLz:=[.d (.slice .bool),.d (.slice .bool)]
abbrev ZO_r:SLz:=[.d .bool]
@[irreducible] def ZO:FTz ZO_p ZO_r:=funM E R n false (g_51 n) (its29 n) ZO_a Tryz.f121 ZO_p ZO_r
def g_52:RGz:=aGz 121 ZO_p ZO_r (ZO n) (g_51 n)
theorem g_52_ok:RegsOK E (g_52 n):=pkG (g_51_ok n) (its29_ok n) (by unfold ZO;rfl) Tryz.func121 (by kernel_rfl)
def Xs_a:Ann:=⟨[],[]⟩
abbrev Xs_p:SLz:=[dZz,dZz,.cref [.fn 118 [] [.cref [dZz,.d .str,dZz,dZz,.d .str,dLz] 0,.cref [.d .str,dZz,dZz,dZz,.d (.slice .str)] 0]] 0]
abbrev Xs_r:SLz:=[.d .bool]
@[irreducible] def Xs:FTz Xs_p Xs_r:=funM E R n false (g_52 n) (its29 n) Xs_a Tryz.f120 Xs_p Xs_r
def g_53:RGz:=aGz 120 Xs_p Xs_r (Xs n) (g_52 n)
theorem g_53_ok:RegsOK E (g_53 n):=pkG (g_52_ok n) (its29_ok n) (by unfold Xs;rfl) Tryz.func120 (by kernel_rfl)
def Zp_a:Ann:=⟨[(4,⟨[0,1],[1000001],⟨[(5,dZz)],[oIz]⟩,[(.exit 0,⟨[],[oIz]⟩),(.ret,⟨[(4,.sub 1000000 (.int .i64))],[oIz]⟩)]⟩),
 (9,⟨[0,1,6],[1000001],⟨[(5,dZz),(7,dZz)],[oIz]⟩,[(.exit 2,⟨[(5,dZz)],[oIz]⟩)]⟩)],[]⟩
abbrev Zp_p:SLz:=[.sub 1000000 (.int .i64),.fn 120 [] [.ref 1000001 0]]
abbrev Zp_r:SLz:=[.sub 1000000 (.int .i64)]
abbrev Zp_o:List (Nat×ObSk):=[oIz,(1000001,.cells [.fn 118 [] [.cref [dZz,.d .str,dZz,dZz,.d .str,dLz] 0,.cref [.d .str,dZz,dZz,dZz,.d (.slice .str)] 0]])]
@[irreducible] def Zp:FIz Zp_p Zp_o Zp_r:=funI E R n false (g_53 n) (its29 n) Zp_a Tryz.f119 Zp_p Zp_o Zp_r
def its30:IR R:=aMz 119 Zp_p Zp_o Zp_r (Zp n) (its29 n)
theorem its30_ok:ItersOK E (its30 n):=pkM (g_53_ok n) (its29_ok n) (by unfold Zp;rfl) Tryz.func119 (by kernel_rfl)
def Xa_a:Ann:=⟨[],[]⟩
abbrev Xa_p:SLz:=[.d (.st 1),dSz,.sub 1000000 (.int .i64)]
abbrev Xa_r:SLz:=[.sub 1000000 (.int .i64)]
abbrev Xa_o:List (Nat×ObSk):=[oIz]
@[irreducible] def Xa:FIz Xa_p Xa_o Xa_r:=funI E R n false (g_53 n) (its30 n) Xa_a Tryz.f104 Xa_p Xa_o Xa_r
def its31:IR R:=aMz 104 Xa_p Xa_o Xa_r (Xa n) (its30 n)
theorem its31_ok:ItersOK E (its31 n):=pkM (g_53_ok n) (its30_ok n) (by unfold Xa;rfl) Tryz.func104 (by kernel_rfl)
def ZA_a:Ann:=⟨[(4,⟨[2,3,5],[],⟨[],[(5,.cells [.vw 99999 (.int .i64)]),(99999,.arr (.int .i64))]⟩,[(.normal,⟨[],[(5,.cells [.vw 99999 (.int .i64)]),(99999,.arr (.int .i64))]⟩)]⟩)],[]⟩
abbrev ZA_p:SLz:=[.d (.st 1),dSz]
abbrev ZA_r:SLz:=[.d (.slice (.int .i64))]
@[irreducible] def ZA (p:PayL R.T ZA_p):Option (PayL R.T ZA_r):=funM E R n true (g_53 n) (its31 n) ZA_a Tryz.f94 ZA_p ZA_r p
def g_54:RGz:=aGz 94 ZA_p ZA_r (ZA n) (g_53 n)
theorem g_54_ok:RegsOK E (g_54 n):=pkG (g_53_ok n) (its31_ok n) (by unfold ZA;rfl) Tryz.func94 (by kernel_rfl)
def Zn_a:Ann:=⟨[(4,⟨[2,5],[5],⟨[],[(11,.map .str .bool)]⟩,[(.normal,⟨[],[(11,.map .str .bool)]⟩)]⟩),
 (9,⟨[5,29,30],[5,11],⟨[(7,.l (.own 45) .str),(8,.d .bool),(31,dZz)],[]⟩,[(.exit 2,⟨[(7,.l (.own 45) .str)],[]⟩)]⟩)],[]⟩
abbrev Zn_p:SLz:=[.d (.st 1),dSz]
abbrev Zn_r:SLz:=[.d (.slice .str)]
@[irreducible] def Zn:FTz Zn_p Zn_r:=funM E R n false (g_54 n) (its31 n) Zn_a Tryz.f95 Zn_p Zn_r
def g_55:RGz:=aGz 95 Zn_p Zn_r (Zn n) (g_54 n)
theorem g_55_ok:RegsOK E (g_55 n):=pkG (g_54_ok n) (its31_ok n) (by unfold Zn;rfl) Tryz.func95 (by kernel_rfl)
def Zt_a:Ann:=⟨[(4,⟨[2,17,18],[],⟨[(5,.l (.own 32) (.st 7)),(19,dZz)],[]⟩,[(.exit 0,⟨[(5,.l (.own 32) (.st 7))],[]⟩)]⟩),
 (10,⟨[2,37,38],[],⟨[(5,.l (.own 32) (.st 7)),(39,dZz)],[]⟩,[(.exit 2,⟨[(5,.l (.own 32) (.st 7))],[]⟩)]⟩)],[]⟩
abbrev Zt_p:SLz:=[.d (.st 1),dSz]
abbrev Zt_r:SLz:=[.d (.slice (.st 7))]
@[irreducible] def Zt:FTz Zt_p Zt_r:=funM E R n false (g_55 n) (its31 n) Zt_a Tryz.f78 Zt_p Zt_r
def g_56:RGz:=aGz 78 Zt_p Zt_r (Zt n) (g_55 n)
theorem g_56_ok:RegsOK E (g_56 n):=pkG (g_55_ok n) (its31_ok n) (by unfold Zt;rfl) Tryz.func78 (by kernel_rfl)
def Zq_a:Ann:=⟨[(3,⟨[3,5,10,11],[],⟨[(12,dZz)],[(5,.cells [.l (.own 34) (.slice (.st 7))])]⟩,[(.exit 0,⟨[],[(5,.cells [.l (.own 34) (.slice (.st 7))])]⟩)]⟩),
 (7,⟨[3,5,7,10,11,12],[7],⟨[],[(5,.cells [.l (.own 34) (.slice (.st 7))])]⟩,[(.normal,⟨[],[(5,.cells [.l (.own 34) (.slice (.st 7))])]⟩),(.exit 2,⟨[],[(5,.cells [.l (.own 34) (.slice (.st 7))])]⟩)]⟩)],[]⟩
abbrev Zq_p:SLz:=[.d (.st 2),dSz]
abbrev Zq_r:SLz:=[.d (.slice (.slice (.st 7)))]
@[irreducible] def Zq:FTz Zq_p Zq_r:=funM E R n false (g_56 n) (its31 n) Zq_a Tryz.f56 Zq_p Zq_r
def g_57:RGz:=aGz 56 Zq_p Zq_r (Zq n) (g_56 n)
theorem g_57_ok:RegsOK E (g_57 n):=pkG (g_56_ok n) (its31_ok n) (by unfold Zq;rfl) Tryz.func56 (by kernel_rfl)
def ZP_a:Ann:=⟨[(3,⟨[6,7],[],⟨[(3,dZz),(8,dZz)],[]⟩,[(.exit 0,⟨[(3,dZz)],[]⟩),(.ret,⟨[(2,dZz)],[]⟩)]⟩)],[]⟩
abbrev ZP_p:SLz:=[.d (.slice (.slice (.st 7)))]
abbrev ZP_r:SLz:=[dZz]
@[irreducible] def ZP:FTz ZP_p ZP_r:=funM E R n false (g_57 n) (its31 n) ZP_a Tryz.f55 ZP_p ZP_r
def g_58:RGz:=aGz 55 ZP_p ZP_r (ZP n) (g_57 n)
theorem g_58_ok:RegsOK E (g_58 n):=pkG (g_57_ok n) (its31_ok n) (by unfold ZP;rfl) Tryz.func55 (by kernel_rfl)
def XE_a:Ann:=⟨[],[]⟩
abbrev XE_p:SLz:=[.d (.st 2),dSz]
abbrev XE_r:SLz:=[dZz]
@[irreducible] def XE:FTz XE_p XE_r:=funM E R n false (g_58 n) (its31 n) XE_a Tryz.f23 XE_p XE_r
def g_59:RGz:=aGz 23 XE_p XE_r (XE n) (g_58 n)
theorem g_59_ok:RegsOK E (g_59 n):=pkG (g_58_ok n) (its31_ok n) (by unfold XE;rfl) Tryz.func23 (by kernel_rfl)
def ZQ_a:Ann:=⟨[(2,⟨[0,1],[],⟨[(5,dZz)],[]⟩,[(.exit 0,⟨[],[]⟩),(.ret,⟨[(4,.d .bool)],[]⟩)]⟩)],[]⟩
abbrev ZQ_p:SLz:=[dLz,.d .str]
abbrev ZQ_r:SLz:=[.d .bool]
@[irreducible] def ZQ:FTz ZQ_p ZQ_r:=funM E R n false (g_59 n) (its31 n) ZQ_a Tryz.f79 ZQ_p ZQ_r
def g_60:RGz:=aGz 79 ZQ_p ZQ_r (ZQ n) (g_59 n)
theorem g_60_ok:RegsOK E (g_60 n):=pkG (g_59_ok n) (its31_ok n) (by unfold ZQ;rfl) Tryz.func79 (by kernel_rfl)
def ZM_a:Ann:=⟨[(2,⟨[0,1,2,3],[],⟨[(9,dZz)],[]⟩,[(.exit 0,⟨[],[]⟩),(.ret,⟨[(8,.d .bool)],[]⟩)]⟩)],[]⟩
abbrev ZM_p:SLz:=[dLz,.d .str,dZz,dZz]
abbrev ZM_r:SLz:=[.d .bool]
@[irreducible] def ZM:FTz ZM_p ZM_r:=funM E R n false (g_60 n) (its31 n) ZM_a Tryz.f96 ZM_p ZM_r
def g_61:RGz:=aGz 96 ZM_p ZM_r (ZM n) (g_60 n)
theorem g_61_ok:RegsOK E (g_61 n):=pkG (g_60_ok n) (its31_ok n) (by unfold ZM;rfl) Tryz.func96 (by kernel_rfl)
def QQ_a:Ann:=⟨[(5,⟨[1,2],[],⟨[(5,.l (.own 81) (.st 6)),(6,.d .bool),(7,dZz)],[]⟩,[(.exit 0,⟨[(5,.l (.own 81) (.st 6))],[]⟩)]⟩),
 (9,⟨[1,2,6,7],[],⟨[(5,.l (.own 81) (.st 6)),(8,.d .bool),(9,dZz)],[]⟩,[(.exit 2,⟨[(5,.l (.own 81) (.st 6)),(8,.d .bool)],[]⟩)]⟩),
 (18,⟨[1,2],[],⟨[(5,.l (.own 99) (.st 6)),(10,dZz)],[]⟩,[(.ret,⟨[(4,.l (.own 99) (.st 6))],[]⟩)]⟩),
 (20,⟨[1,2,10],[],⟨[(5,.l (.own 99) (.st 6)),(11,dZz),(12,dZz)],[]⟩,[(.exit 6,⟨[(5,.l (.own 99) (.st 6)),(11,dZz)],[]⟩)]⟩)],[]⟩
abbrev QQ_p:SLz:=[.d (.st 1),dLz]
abbrev QQ_r:SLz:=[.d (.slice (.st 6))]
@[irreducible] def QQ:FTz QQ_p QQ_r:=funM E R n false (g_61 n) (its31 n) QQ_a Tryz.f80 QQ_p QQ_r
def g_62:RGz:=aGz 80 QQ_p QQ_r (QQ n) (g_61 n)
theorem g_62_ok:RegsOK E (g_62 n):=pkG (g_61_ok n) (its31_ok n) (by unfold QQ;rfl) Tryz.func80 (by kernel_rfl)
def ZK_a:Ann:=⟨[(4,⟨[2,5],[2],⟨[(6,.l (.own 36) (.slice (.st 6))),(7,dZz)],[]⟩,[(.exit 0,⟨[(6,.l (.own 36) (.slice (.st 6)))],[]⟩)]⟩)],[]⟩
abbrev ZK_p:SLz:=[.d (.st 2),dSz]
abbrev ZK_r:SLz:=[.d (.slice (.slice (.st 6)))]
@[irreducible] def ZK:FTz ZK_p ZK_r:=funM E R n false (g_62 n) (its31 n) ZK_a Tryz.f57 ZK_p ZK_r
def g_63:RGz:=aGz 57 ZK_p ZK_r (ZK n) (g_62 n)
theorem g_63_ok:RegsOK E (g_63 n):=pkG (g_62_ok n) (its31_ok n) (by unfold ZK;rfl) Tryz.func57 (by kernel_rfl)
def ZR_a:Ann:=⟨[(4,⟨[5],[],⟨[(6,dZz),(7,dZz)],[]⟩,[(.exit 0,⟨[(6,dZz)],[]⟩),(.ret,⟨[(4,dZz)],[]⟩)]⟩)],[]⟩
abbrev ZR_p:SLz:=[.d (.st 2),dSz]
abbrev ZR_r:SLz:=[dZz]
@[irreducible] def ZR:FTz ZR_p ZR_r:=funM E R n false (g_63 n) (its31 n) ZR_a Tryz.f24 ZR_p ZR_r
def g_64:RGz:=aGz 24 ZR_p ZR_r (ZR n) (g_63 n)
theorem g_64_ok:RegsOK E (g_64 n):=pkG (g_63_ok n) (its31_ok n) (by unfold ZR;rfl) Tryz.func24 (by kernel_rfl)
def XF_a:Ann:=⟨[],[]⟩
abbrev XF_p:SLz:=[.d (.st 2),dSz]
abbrev XF_r:SLz:=[.d .bool]
@[irreducible] def XF:FTz XF_p XF_r:=funM E R n false (g_64 n) (its31 n) XF_a Tryz.f4 XF_p XF_r
theorem XF_ok (p:PayL R.T XF_p) (x:PayL R.T XF_r) (h:XF n p=some x):Pure E 4 (encSL R XF_p p) (retV (encSL R XF_r x)):=by
 unfold XF at h
 exact funM_ok rOK (g_64_ok n) (its31_ok n) h Tryz.func4 rfl rfl rfl rfl (by kernel_rfl)
end Sh
