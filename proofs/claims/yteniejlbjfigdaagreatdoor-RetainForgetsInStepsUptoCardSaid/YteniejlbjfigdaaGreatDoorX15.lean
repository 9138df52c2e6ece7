/- Part of the proof of a law. -/
import Derived.KernelRfl
import Derived.Test.YteniejlbjfigdaaGreatDoorX14
set_option linter.all false
set_option linter.unusedSimpArgs false
set_option linter.unusedSectionVars false
open Go Go.Proofs Aq
namespace Sh
set_option maxRecDepth 100000
def Mj:bH:=⟨[(2,⟨[1],[1],⟨[(3,.d (.int .i64))],[]⟩,[(.exit 0,⟨[],[]⟩),(.ret,⟨[(2,.d .bool)],[]⟩)]⟩)],[]⟩
abbrev Gm:List Sk:=[.d (.st 3)]
abbrev Bd:List Sk:=[.d .bool]
@[irreducible] noncomputable def xU (n:Nat) (p:aj R.T Gm):Option (aj R.T Bd):=bO E R n false (Mi n) aJ Mj Tryz.f75 Gm Bd p
theorem aiW (n:Nat) (p:aj R.T Gm) (x:aj R.T Bd) (h:xU n p=some x):Pure E 75 (au R Gm p) (aV (au R Bd x)):=by
 unfold xU at h
 exact bJ bF (Y9 n) bG h Tryz.func75 rfl rfl rfl rfl (by kernel_rfl)
noncomputable def Mk (n:Nat):Nat→List (FR R):=bn 75 ⟨Gm,Bd,xU n,aT R Bd,false⟩ (Mi n)
theorem Za (n:Nat):aS E (Mk n):=bC (Y9 n) (aiW n)
def Ml:bH:=⟨[(2,⟨[0,1],[],⟨[(5,.d (.int .i64))],[]⟩,[(.exit 0,⟨[],[]⟩),(.ret,⟨[(4,.d .bool)],[]⟩)]⟩)],[]⟩
abbrev Gn:List Sk:=[.d (.slice (.st 13)),.d (.int .i64)]
abbrev Bf:List Sk:=[.d .bool]
@[irreducible] noncomputable def vR (n:Nat) (p:aj R.T Gn):Option (aj R.T Bf):=bO E R n false (Mk n) aJ Ml Tryz.f38 Gn Bf p
theorem aiX (n:Nat) (p:aj R.T Gn) (x:aj R.T Bf) (h:vR n p=some x):Pure E 38 (au R Gn p) (aV (au R Bf x)):=by
 unfold vR at h
 exact bJ bF (Za n) bG h Tryz.func38 rfl rfl rfl rfl (by kernel_rfl)
noncomputable def Gp (n:Nat):Nat→List (FR R):=bn 38 ⟨Gn,Bf,vR n,aT R Bf,false⟩ (Mk n)
theorem Zb (n:Nat):aS E (Gp n):=bC (Za n) (aiX n)
def xV:bH:=⟨[(2,⟨[1,2],[2],⟨[(5,.d (.int .i64))],[]⟩,[(.exit 0,⟨[],[]⟩),(.ret,⟨[(4,.d .bool)],[]⟩)]⟩),
 (8,⟨[1,2,5,6],[2,6],⟨[(7,.d (.int .i64))],[]⟩,[(.exit 2,⟨[],[]⟩),(.ret,⟨[(4,.d .bool)],[]⟩)]⟩)],[]⟩
abbrev Gq:List Sk:=[.d (.st 1),.d (.int .i64)]
abbrev Bg:List Sk:=[.d .bool]
@[irreducible] noncomputable def Bh (n:Nat) (p:aj R.T Gq):Option (aj R.T Bg):=bO E R n false (Gp n) aJ xV Tryz.f43 Gq Bg p
theorem aiY (n:Nat) (p:aj R.T Gq) (x:aj R.T Bg) (h:Bh n p=some x):Pure E 43 (au R Gq p) (aV (au R Bg x)):=by
 unfold Bh at h
 exact bJ bF (Zb n) bG h Tryz.func43 rfl rfl rfl rfl (by kernel_rfl)
noncomputable def R5 (n:Nat):Nat→List (FR R):=bn 43 ⟨Gq,Bg,Bh n,aT R Bg,false⟩ (Gp n)
theorem Zc (n:Nat):aS E (R5 n):=bC (Zb n) (aiY n)
def aiZ:bH:=⟨[],[]⟩
abbrev Gr:List Sk:=[.d (.int .i64)]
abbrev Bj:List Sk:=[.d .bool]
@[irreducible] noncomputable def Bl (n:Nat) (p:aj R.T Gr):Option (aj R.T Bj):=bO E R n false (R5 n) aJ aiZ Tryz.f90 Gr Bj p
theorem ai0 (n:Nat) (p:aj R.T Gr) (x:aj R.T Bj) (h:Bl n p=some x):Pure E 90 (au R Gr p) (aV (au R Bj x)):=by
 unfold Bl at h
 exact bJ bF (Zc n) bG h Tryz.func90 rfl rfl rfl rfl (by kernel_rfl)
noncomputable def Mq (n:Nat):Nat→List (FR R):=bn 90 ⟨Gr,Bj,Bl n,aT R Bj,false⟩ (R5 n)
theorem Zd (n:Nat):aS E (Mq n):=bC (Zc n) (ai0 n)
def Mr:bH:=⟨[(2,⟨[0,1],[],⟨[(5,.d (.int .i64))],[]⟩,[(.exit 0,⟨[],[]⟩),(.ret,⟨[(4,.d .bool)],[]⟩)]⟩)],[]⟩
abbrev Gs:List Sk:=[.d (.slice .str),.d .str]
abbrev Bn:List Sk:=[.d .bool]
@[irreducible] noncomputable def vS (n:Nat) (p:aj R.T Gs):Option (aj R.T Bn):=bO E R n false (Mq n) aJ Mr Tryz.f197 Gs Bn p
theorem ai1 (n:Nat) (p:aj R.T Gs) (x:aj R.T Bn) (h:vS n p=some x):Pure E 197 (au R Gs p) (aV (au R Bn x)):=by
 unfold vS at h
 exact bJ bF (Zd n) bG h Tryz.func197 rfl rfl rfl rfl (by kernel_rfl)
noncomputable def Ms (n:Nat):Nat→List (FR R):=bn 197 ⟨Gs,Bn,vS n,aT R Bn,false⟩ (Mq n)
theorem Ze (n:Nat):aS E (Ms n):=bC (Zd n) (ai1 n)
def Mt:bH:=⟨[(2,⟨[0],[],⟨[(3,.d (.int .i64))],[]⟩,[(.exit 0,⟨[],[]⟩),(.ret,⟨[(2,.d .bool)],[]⟩)]⟩)],[]⟩
abbrev Gt:List Sk:=[.d .str]
abbrev Bo:List Sk:=[.d .bool]
@[irreducible] noncomputable def xW (n:Nat) (p:aj R.T Gt):Option (aj R.T Bo):=bO E R n false (Ms n) aJ Mt Tryz.f150 Gt Bo p
theorem ai2 (n:Nat) (p:aj R.T Gt) (x:aj R.T Bo) (h:xW n p=some x):Pure E 150 (au R Gt p) (aV (au R Bo x)):=by
 unfold xW at h
 exact bJ bF (Ze n) bG h Tryz.func150 rfl rfl rfl rfl (by kernel_rfl)
noncomputable def Gu (n:Nat):Nat→List (FR R):=bn 150 ⟨Gt,Bo,xW n,aT R Bo,false⟩ (Ms n)
theorem Zf (n:Nat):aS E (Gu n):=bC (Ze n) (ai2 n)
def xX:bH:=⟨[(4,⟨[0],[],⟨[(3,.d (.int .i64))],[]⟩,[(.exit 0,⟨[],[]⟩),(.ret,⟨[(2,.d (.int .i64))],[]⟩)]⟩),
 (9,⟨[0],[],⟨[(4,.d (.int .i64))],[]⟩,[(.exit 2,⟨[],[]⟩),(.ret,⟨[(2,.d (.int .i64))],[]⟩)]⟩)],[]⟩
abbrev Gv:List Sk:=[.d (.slice .str)]
abbrev Bp:List Sk:=[.d (.int .i64)]
@[irreducible] noncomputable def Bq (n:Nat) (p:aj R.T Gv):Option (aj R.T Bp):=bO E R n false (Gu n) aJ xX Tryz.f151 Gv Bp p
theorem ai3 (n:Nat) (p:aj R.T Gv) (x:aj R.T Bp) (h:Bq n p=some x):Pure E 151 (au R Gv p) (aV (au R Bp x)):=by
 unfold Bq at h
 exact bJ bF (Zf n) bG h Tryz.func151 rfl rfl rfl rfl (by kernel_rfl)
noncomputable def R6 (n:Nat):Nat→List (FR R):=bn 151 ⟨Gv,Bp,Bq n,aT R Bp,false⟩ (Gu n)
theorem Zg (n:Nat):aS E (R6 n):=bC (Zf n) (ai3 n)
def ai4:bH:=⟨[],[]⟩
abbrev Gw:List Sk:=[.d (.st 0),.d .str]
abbrev Br:List Sk:=[.d (.int .i64)]
@[irreducible] noncomputable def Bt (n:Nat) (p:aj R.T Gw):Option (aj R.T Br):=bO E R n false (R6 n) aJ ai4 Tryz.f91 Gw Br p
theorem ai5 (n:Nat) (p:aj R.T Gw) (x:aj R.T Br) (h:Bt n p=some x):Pure E 91 (au R Gw p) (aV (au R Br x)):=by
 unfold Bt at h
 exact bJ bF (Zg n) bG h Tryz.func91 rfl rfl rfl rfl (by kernel_rfl)
noncomputable def Mv (n:Nat):Nat→List (FR R):=bn 91 ⟨Gw,Br,Bt n,aT R Br,false⟩ (R6 n)
theorem Zh (n:Nat):aS E (Mv n):=bC (Zg n) (ai5 n)
def Mw:bH:=⟨[(7,⟨[1],[1],⟨[(3,.d .str),(4,.d (.int .i64))],[]⟩,[(.exit 0,⟨[],[]⟩),(.ret,⟨[(2,.d (.int .i64))],[]⟩)]⟩)],[]⟩
abbrev Gx:List Sk:=[.d (.st 1)]
abbrev Bu:List Sk:=[.d (.int .i64)]
@[irreducible] noncomputable def xY (n:Nat) (p:aj R.T Gx):Option (aj R.T Bu):=bO E R n false (Mv n) aJ Mw Tryz.f45 Gx Bu p
theorem ai6 (n:Nat) (p:aj R.T Gx) (x:aj R.T Bu) (h:xY n p=some x):Pure E 45 (au R Gx p) (aV (au R Bu x)):=by
 unfold xY at h
 exact bJ bF (Zh n) bG h Tryz.func45 rfl rfl rfl rfl (by kernel_rfl)
noncomputable def R7 (n:Nat):Nat→List (FR R):=bn 45 ⟨Gx,Bu,xY n,aT R Bu,false⟩ (Mv n)
theorem Zi (n:Nat):aS E (R7 n):=bC (Zh n) (ai6 n)
def ai7:bH:=⟨[],[]⟩
abbrev Gy:List Sk:=[.d (.st 1)]
abbrev Bv:List Sk:=[.d (.st 18)]
@[irreducible] noncomputable def xZ (n:Nat) (p:aj R.T Gy):Option (aj R.T Bv):=bO E R n false (R7 n) aJ ai7 Tryz.f88 Gy Bv p
theorem ai8 (n:Nat) (p:aj R.T Gy) (x:aj R.T Bv) (h:xZ n p=some x):Pure E 88 (au R Gy p) (aV (au R Bv x)):=by
 unfold xZ at h
 exact bJ bF (Zi n) bG h Tryz.func88 rfl rfl rfl rfl (by kernel_rfl)
noncomputable def Mx (n:Nat):Nat→List (FR R):=bn 88 ⟨Gy,Bv,xZ n,aT R Bv,false⟩ (R7 n)
theorem Zj (n:Nat):aS E (Mx n):=bC (Zi n) (ai8 n)
def MB:bH:=⟨[(2,⟨[1,2],[2],⟨[(5,.d (.int .i64))],[]⟩,[(.exit 0,⟨[],[]⟩),(.ret,⟨[(4,.d .bool)],[]⟩)]⟩)],[]⟩
abbrev Gz:List Sk:=[.d (.st 5),.d (.int .i64)]
abbrev Bw:List Sk:=[.d .bool]
@[irreducible] noncomputable def Bz (n:Nat) (p:aj R.T Gz):Option (aj R.T Bw):=bO E R n false (Mx n) aJ MB Tryz.f192 Gz Bw p
theorem ai9 (n:Nat) (p:aj R.T Gz) (x:aj R.T Bw) (h:Bz n p=some x):Pure E 192 (au R Gz p) (aV (au R Bw x)):=by
 unfold Bz at h
 exact bJ bF (Zj n) bG h Tryz.func192 rfl rfl rfl rfl (by kernel_rfl)
noncomputable def MC (n:Nat):Nat→List (FR R):=bn 192 ⟨Gz,Bw,Bz n,aT R Bw,false⟩ (Mx n)
theorem Zk (n:Nat):aS E (MC n):=bC (Zj n) (ai9 n)
def ME:bH:=⟨[(2,⟨[0],[],⟨[(3,.d (.int .i64))],[]⟩,[(.exit 0,⟨[],[]⟩),(.ret,⟨[(2,.d .bool)],[]⟩)]⟩)],[]⟩
abbrev GA:List Sk:=[.d (.slice (.int .i64))]
abbrev BA:List Sk:=[.d .bool]
@[irreducible] noncomputable def BD (n:Nat) (p:aj R.T GA):Option (aj R.T BA):=bO E R n false (MC n) aJ ME Tryz.f221 GA BA p
theorem aja (n:Nat) (p:aj R.T GA) (x:aj R.T BA) (h:BD n p=some x):Pure E 221 (au R GA p) (aV (au R BA x)):=by
 unfold BD at h
 exact bJ bF (Zk n) bG h Tryz.func221 rfl rfl rfl rfl (by kernel_rfl)
noncomputable def MF (n:Nat):Nat→List (FR R):=bn 221 ⟨GA,BA,BD n,aT R BA,false⟩ (MC n)
theorem Zl (n:Nat):aS E (MF n):=bC (Zk n) (aja n)
def MG:bH:=⟨[(2,⟨[1,2],[2],⟨[(5,.d (.int .i64))],[]⟩,[(.exit 0,⟨[],[]⟩),(.ret,⟨[(4,.d (.int .i64))],[]⟩)]⟩)],[]⟩
abbrev GD:List Sk:=[.d (.st 1),.d .str]
abbrev BG:List Sk:=[.d (.int .i64)]
@[irreducible] noncomputable def yg (n:Nat) (p:aj R.T GD):Option (aj R.T BG):=bO E R n false (MF n) aJ MG Tryz.f56 GD BG p
theorem ajb (n:Nat) (p:aj R.T GD) (x:aj R.T BG) (h:yg n p=some x):Pure E 56 (au R GD p) (aV (au R BG x)):=by
 unfold yg at h
 exact bJ bF (Zl n) bG h Tryz.func56 rfl rfl rfl rfl (by kernel_rfl)
noncomputable def R8 (n:Nat):Nat→List (FR R):=bn 56 ⟨GD,BG,yg n,aT R BG,false⟩ (MF n)
theorem Zm (n:Nat):aS E (R8 n):=bC (Zl n) (ajb n)
def ajc:bH:=⟨[],[]⟩
abbrev GH:List Sk:=[.d (.st 0),.d (.st 2)]
abbrev BH:List Sk:=[.d (.int .i64)]
@[irreducible] noncomputable def uH (n:Nat) (p:aj R.T GH):Option (aj R.T BH):=bO E R n false (R8 n) aJ ajc Tryz.f236 GH BH p
theorem ajd (n:Nat) (p:aj R.T GH) (x:aj R.T BH) (h:uH n p=some x):Pure E 236 (au R GH p) (aV (au R BH x)):=by
 unfold uH at h
 exact bJ bF (Zm n) bG h Tryz.func236 rfl rfl rfl rfl (by kernel_rfl)
noncomputable def MH (n:Nat):Nat→List (FR R):=bn 236 ⟨GH,BH,uH n,aT R BH,false⟩ (R8 n)
theorem Zn (n:Nat):aS E (MH n):=bC (Zm n) (ajd n)
def MI:bH:=⟨[(2,⟨[1,2],[2],⟨[(5,.d (.int .i64))],[]⟩,[(.exit 0,⟨[],[]⟩),(.ret,⟨[(4,.d (.int .i64))],[]⟩)]⟩)],[]⟩
abbrev GI:List Sk:=[.d (.st 1),.d (.slice (.st 2))]
abbrev BJ:List Sk:=[.d (.int .i64)]
@[irreducible] noncomputable def BK (n:Nat) (p:aj R.T GI):Option (aj R.T BJ):=bO E R n false (MH n) aJ MI Tryz.f222 GI BJ p
theorem aje (n:Nat) (p:aj R.T GI) (x:aj R.T BJ) (h:BK n p=some x):Pure E 222 (au R GI p) (aV (au R BJ x)):=by
 unfold BK at h
 exact bJ bF (Zn n) bG h Tryz.func222 rfl rfl rfl rfl (by kernel_rfl)
noncomputable def R9 (n:Nat):Nat→List (FR R):=bn 222 ⟨GI,BJ,BK n,aT R BJ,false⟩ (MH n)
theorem Zo (n:Nat):aS E (R9 n):=bC (Zn n) (aje n)
def ajf:bH:=⟨[],[]⟩
abbrev GJ:List Sk:=[.d (.st 1),.d (.st 3)]
abbrev BL:List Sk:=[.d (.int .i64)]
@[irreducible] noncomputable def yh (n:Nat) (p:aj R.T GJ):Option (aj R.T BL):=bO E R n false (R9 n) aJ ajf Tryz.f193 GJ BL p
theorem ajg (n:Nat) (p:aj R.T GJ) (x:aj R.T BL) (h:yh n p=some x):Pure E 193 (au R GJ p) (aV (au R BL x)):=by
 unfold yh at h
 exact bJ bF (Zo n) bG h Tryz.func193 rfl rfl rfl rfl (by kernel_rfl)
noncomputable def MJ (n:Nat):Nat→List (FR R):=bn 193 ⟨GJ,BL,yh n,aT R BL,false⟩ (R9 n)
theorem Zp (n:Nat):aS E (MJ n):=bC (Zo n) (ajg n)
def MK:bH:=⟨[(3,⟨[1,2],[2],⟨[(5,.d (.int .i64)),(6,.d (.int .i64))],[]⟩,[(.exit 0,⟨[(5,.d (.int .i64))],[]⟩)]⟩)],[]⟩
abbrev GK:List Sk:=[.d (.st 5),.d (.int .i64)]
abbrev BM:List Sk:=[.d (.int .i64)]
@[irreducible] noncomputable def BN (n:Nat) (p:aj R.T GK):Option (aj R.T BM):=bO E R n false (MJ n) aJ MK Tryz.f194 GK BM p
theorem ajh (n:Nat) (p:aj R.T GK) (x:aj R.T BM) (h:BN n p=some x):Pure E 194 (au R GK p) (aV (au R BM x)):=by
 unfold BN at h
 exact bJ bF (Zp n) bG h Tryz.func194 rfl rfl rfl rfl (by kernel_rfl)
noncomputable def ML (n:Nat):Nat→List (FR R):=bn 194 ⟨GK,BM,BN n,aT R BM,false⟩ (MJ n)
theorem Zq (n:Nat):aS E (ML n):=bC (Zp n) (ajh n)
def MN:bH:=⟨[(3,⟨[1,2,3,9],[],⟨[(10,.d (.int .i64))],[(13,.arr (.st 4))]⟩,[(.exit 0,⟨[],[(13,.arr (.st 4))]⟩)]⟩)],[]⟩
abbrev GL:List Sk:=[.d (.slice (.st 4)),.d (.int .i64),.d (.int .i64),.d (.int .i64)]
abbrev BO:List Sk:=[.d (.slice (.st 4))]
@[irreducible] noncomputable def yj (n:Nat) (p:aj R.T GL):Option (aj R.T BO):=bO E R n true (ML n) aJ MN Tryz.f195 GL BO p
theorem aji (n:Nat) (p:aj R.T GL) (x:aj R.T BO) (h:yj n p=some x):Pure E 195 (au R GL p) (aV (au R BO x)):=by
 unfold yj at h
 exact bJ bF (Zq n) bG h Tryz.func195 rfl rfl rfl rfl (by kernel_rfl)
noncomputable def MO (n:Nat):Nat→List (FR R):=bn 195 ⟨GL,BO,yj n,aT R BO,false⟩ (ML n)
theorem Zr (n:Nat):aS E (MO n):=bC (Zq n) (aji n)
def MP:bH:=⟨[(5,⟨[2,3,5,6,9,10],[5,6,9,10],⟨[(11,.d (.int .i64)),(12,.l .any (.st 4)),(13,.l (.own 95) (.st 4)),(14,.d (.int .i64))],[]⟩,[(.exit 0,⟨[(11,.d (.int .i64)),(12,.l .any (.st 4)),(13,.l (.own 95) (.st 4))],[]⟩)]⟩)],[]⟩
abbrev GN:List Sk:=[.d (.st 5),.d (.st 13),.d (.slice (.st 4)),.d (.slice (.st 21)),.d (.st 3)]
abbrev BQ:List Sk:=[.d (.st 18)]
@[irreducible] noncomputable def qJ (n:Nat) (p:aj R.T GN):Option (aj R.T BQ):=bO E R n false (MO n) aJ MP Tryz.f145 GN BQ p
theorem ajj (n:Nat) (p:aj R.T GN) (x:aj R.T BQ) (h:qJ n p=some x):Pure E 145 (au R GN p) (aV (au R BQ x)):=by
 unfold qJ at h
 exact bJ bF (Zr n) bG h Tryz.func145 rfl rfl rfl rfl (by kernel_rfl)
noncomputable def Sb (n:Nat):Nat→List (FR R):=bn 145 ⟨GN,BQ,qJ n,aT R BQ,false⟩ (MO n)
theorem Zt (n:Nat):aS E (Sb n):=bC (Zr n) (ajj n)
def ajk:bH:=⟨[],[]⟩
abbrev GQ:List Sk:=[.d (.st 5),.d (.st 13)]
abbrev BR:List Sk:=[.d (.st 18)]
@[irreducible] noncomputable def yt (n:Nat) (p:aj R.T GQ):Option (aj R.T BR):=bO E R n false (Sb n) aJ ajk Tryz.f144 GQ BR p
theorem ajl (n:Nat) (p:aj R.T GQ) (x:aj R.T BR) (h:yt n p=some x):Pure E 144 (au R GQ p) (aV (au R BR x)):=by
 unfold yt at h
 exact bJ bF (Zt n) bG h Tryz.func144 rfl rfl rfl rfl (by kernel_rfl)
noncomputable def GR (n:Nat):Nat→List (FR R):=bn 144 ⟨GQ,BR,yt n,aT R BR,false⟩ (Sb n)
theorem Zu (n:Nat):aS E (GR n):=bC (Zt n) (ajl n)
def yu:bH:=⟨[(3,⟨[1,2],[2],⟨[(5,.vw 42 (.st 4)),(6,.d (.int .i64))],[(42,.arr (.st 4))]⟩,[(.exit 0,⟨[(5,.vw 42 (.st 4))],[(42,.arr (.st 4))]⟩)]⟩),
 (8,⟨[1,2,5,6],[2],⟨[(7,.d (.int .i64))],[(42,.arr (.st 4))]⟩,[(.exit 2,⟨[(7,.d (.int .i64))],[(42,.arr (.st 4))]⟩)]⟩)],[]⟩
abbrev GU:List Sk:=[.d (.st 5),.d (.int .i64)]
abbrev BS:List Sk:=[.d (.slice (.st 4))]
@[irreducible] noncomputable def sD (n:Nat) (p:aj R.T GU):Option (aj R.T BS):=bO E R n true (GR n) aJ yu Tryz.f146 GU BS p
theorem ajm (n:Nat) (p:aj R.T GU) (x:aj R.T BS) (h:sD n p=some x):Pure E 146 (au R GU p) (aV (au R BS x)):=by
 unfold sD at h
 exact bJ bF (Zu n) bG h Tryz.func146 rfl rfl rfl rfl (by kernel_rfl)
noncomputable def Sc (n:Nat):Nat→List (FR R):=bn 146 ⟨GU,BS,sD n,aT R BS,false⟩ (GR n)
theorem Zv (n:Nat):aS E (Sc n):=bC (Zu n) (ajm n)
def ajn:bH:=⟨[],[]⟩
abbrev GV:List Sk:=[.d (.slice (.st 4))]
abbrev BU:List Sk:=[.d (.int .i64)]
@[irreducible] noncomputable def sF (n:Nat) (p:aj R.T GV):Option (aj R.T BU):=bO E R n false (Sc n) aJ ajn Tryz.f196 GV BU p
theorem ajo (n:Nat) (p:aj R.T GV) (x:aj R.T BU) (h:sF n p=some x):Pure E 196 (au R GV p) (aV (au R BU x)):=by
 unfold sF at h
 exact bJ bF (Zv n) bG h Tryz.func196 rfl rfl rfl rfl (by kernel_rfl)
noncomputable def MQ (n:Nat):Nat→List (FR R):=bn 196 ⟨GV,BU,sF n,aT R BU,false⟩ (Sc n)
theorem Zw (n:Nat):aS E (MQ n):=bC (Zv n) (ajo n)
def MR:bH:=⟨[(6,⟨[2,3,4,6,7],[3,4,6],⟨[(8,.l (.own 54) (.st 21)),(9,.d (.int .i64))],[]⟩,[(.exit 0,⟨[(8,.l (.own 54) (.st 21))],[]⟩)]⟩)],[]⟩
abbrev GX:List Sk:=[.d (.st 5),.d (.st 13),.d (.slice (.st 4))]
abbrev BX:List Sk:=[.d (.st 18)]
@[irreducible] noncomputable def qK (n:Nat) (p:aj R.T GX):Option (aj R.T BX):=bO E R n false (MQ n) aJ MR Tryz.f147 GX BX p
theorem ajp (n:Nat) (p:aj R.T GX) (x:aj R.T BX) (h:qK n p=some x):Pure E 147 (au R GX p) (aV (au R BX x)):=by
 unfold qK at h
 exact bJ bF (Zw n) bG h Tryz.func147 rfl rfl rfl rfl (by kernel_rfl)
noncomputable def MU (n:Nat):Nat→List (FR R):=bn 147 ⟨GX,BX,qK n,aT R BX,false⟩ (MQ n)
theorem Zx (n:Nat):aS E (MU n):=bC (Zw n) (ajp n)
def MV:bH:=⟨[(5,⟨[2,3,4,6],[3,4,6],⟨[(7,.l (.own 46) (.st 21)),(8,.d (.int .i64))],[]⟩,[(.exit 0,⟨[(7,.l (.own 46) (.st 21))],[]⟩)]⟩)],[]⟩
abbrev GY:List Sk:=[.d (.st 5),.d (.st 13),.d (.slice (.st 4))]
abbrev BZ:List Sk:=[.d (.st 18)]
@[irreducible] noncomputable def qL (n:Nat) (p:aj R.T GY):Option (aj R.T BZ):=bO E R n false (MU n) aJ MV Tryz.f148 GY BZ p
theorem ajq (n:Nat) (p:aj R.T GY) (x:aj R.T BZ) (h:qL n p=some x):Pure E 148 (au R GY p) (aV (au R BZ x)):=by
 unfold qL at h
 exact bJ bF (Zx n) bG h Tryz.func148 rfl rfl rfl rfl (by kernel_rfl)
noncomputable def MW (n:Nat):Nat→List (FR R):=bn 148 ⟨GY,BZ,qL n,aT R BZ,false⟩ (MU n)
theorem Zy (n:Nat):aS E (MW n):=bC (Zx n) (ajq n)
def MX:bH:=⟨[(8,⟨[2,3,4,6,7],[3,4,6],⟨[(8,.l (.own 78) (.st 21)),(9,.d (.int .i64))],[]⟩,[(.exit 0,⟨[(8,.l (.own 78) (.st 21))],[]⟩)]⟩)],[]⟩
abbrev GZ:List Sk:=[.d (.st 5),.d (.st 13),.d (.slice (.st 4))]
abbrev Ca:List Sk:=[.d (.st 18)]
@[irreducible] noncomputable def qM (n:Nat) (p:aj R.T GZ):Option (aj R.T Ca):=bO E R n false (MW n) aJ MX Tryz.f149 GZ Ca p
theorem ajr (n:Nat) (p:aj R.T GZ) (x:aj R.T Ca) (h:qM n p=some x):Pure E 149 (au R GZ p) (aV (au R Ca x)):=by
 unfold qM at h
 exact bJ bF (Zy n) bG h Tryz.func149 rfl rfl rfl rfl (by kernel_rfl)
noncomputable def Sd (n:Nat):Nat→List (FR R):=bn 149 ⟨GZ,Ca,qM n,aT R Ca,false⟩ (MW n)
theorem Zz (n:Nat):aS E (Sd n):=bC (Zy n) (ajr n)
def ajs:bH:=⟨[],[]⟩
abbrev G5:List Sk:=[.d (.st 5),.d (.st 13)]
abbrev Cb:List Sk:=[.d (.st 18)]
@[irreducible] noncomputable def yw (n:Nat) (p:aj R.T G5):Option (aj R.T Cb):=bO E R n false (Sd n) aJ ajs Tryz.f89 G5 Cb p
theorem ajt (n:Nat) (p:aj R.T G5) (x:aj R.T Cb) (h:yw n p=some x):Pure E 89 (au R G5 p) (aV (au R Cb x)):=by
 unfold yw at h
 exact bJ bF (Zz n) bG h Tryz.func89 rfl rfl rfl rfl (by kernel_rfl)
noncomputable def MZ (n:Nat):Nat→List (FR R):=bn 89 ⟨G5,Cb,yw n,aT R Cb,false⟩ (Sd n)
theorem ZA (n:Nat):aS E (MZ n):=bC (Zz n) (ajt n)
def M0:bH:=⟨[(3,⟨[1,4,5],[],⟨[(6,.d (.int .i64))],[(4,.st 16),(5,.st 18)]⟩,[(.exit 0,⟨[],[(4,.st 16),(5,.st 18)]⟩),(.ret,⟨[],[(4,.st 16)]⟩)]⟩)],[]⟩
abbrev G6:List Sk:=[.d (.st 1),.d (.slice (.st 13))]
abbrev Cc:List Sk:=[.d (.st 16)]
@[irreducible] noncomputable def yx (n:Nat) (p:aj R.T G6):Option (aj R.T Cc):=bO E R n false (MZ n) aJ M0 Tryz.f44 G6 Cc p
theorem aju (n:Nat) (p:aj R.T G6) (x:aj R.T Cc) (h:yx n p=some x):Pure E 44 (au R G6 p) (aV (au R Cc x)):=by
 unfold yx at h
 exact bJ bF (ZA n) bG h Tryz.func44 rfl rfl rfl rfl (by kernel_rfl)
noncomputable def Si (n:Nat):Nat→List (FR R):=bn 44 ⟨G6,Cc,yx n,aT R Cc,false⟩ (MZ n)
theorem ZB (n:Nat):aS E (Si n):=bC (ZA n) (aju n)
def ajv:bH:=⟨[],[]⟩
abbrev G7:List Sk:=[.d (.st 1),.d (.slice (.st 13))]
abbrev Ce:List Sk:=[.d (.st 5),.d .bool]
@[irreducible] noncomputable def Cg (n:Nat) (p:aj R.T G7):Option (aj R.T Ce):=bO E R n false (Si n) aJ ajv Tryz.f9 G7 Ce p
theorem ajw (n:Nat) (p:aj R.T G7) (x:aj R.T Ce) (h:Cg n p=some x):Pure E 9 (au R G7 p) (aV (au R Ce x)):=by
 unfold Cg at h
 exact bJ bF (ZB n) bG h Tryz.func9 rfl rfl rfl rfl (by kernel_rfl)
noncomputable def ZC (n:Nat):Nat→List (FR R):=bn 9 ⟨G7,Ce,Cg n,aT R Ce,false⟩ (Si n)
theorem ajx (n:Nat):aS E (ZC n):=bC (ZB n) (ajw n)
abbrev M4:List Sk:=[]
abbrev G8:List Sk:=[.d .bool]
@[irreducible] def vT (n:Nat) (p:aj R.T M4):Option (aj R.T G8):=some true
theorem ajy (n:Nat) (p:aj R.T M4) (x:aj R.T G8) (h:vT n p=some x):Pure E 11 (au R M4 p) (aV (au R G8 x)):=by
 unfold vT at h
 cases h
 exact aiV
noncomputable def M5 (n:Nat):Nat→List (FR R):=bn 11 ⟨M4,G8,vT n,aT R G8,false⟩ (ZC n)
theorem ZE (n:Nat):aS E (M5 n):=bC (ajx n) (ajy n)
def M6:bH:=⟨[(3,⟨[3,7,8],[],⟨[(9,.d (.int .i64))],[(6,.map (.int .i64) (.int .i64))]⟩,[(.exit 0,⟨[],[(6,.map (.int .i64) (.int .i64))]⟩)]⟩)],[]⟩
abbrev G9:List Sk:=[.d (.slice (.st 4))]
abbrev Ch:List Sk:=[.dx (.int .i64) (.int .i64)]
@[irreducible] noncomputable def Ci (n:Nat) (p:aj R.T G9):Option (aj R.T Ch):=bO E R n false (M5 n) aJ M6 Tryz.f99 G9 Ch p
theorem ajz (n:Nat) (p:aj R.T G9) (x:aj R.T Ch) (h:Ci n p=some x):Pure E 99 (au R G9 p) (aV (au R Ch x)):=by
 unfold Ci at h
 exact bJ bF (ZE n) bG h Tryz.func99 rfl rfl rfl rfl (by kernel_rfl)
noncomputable def Sj (n:Nat):Nat→List (FR R):=bn 99 ⟨G9,Ch,Ci n,aT R Ch,false⟩ (M5 n)
theorem ZF (n:Nat):aS E (Sj n):=bC (ZE n) (ajz n)
def ajA:bH:=⟨[],[]⟩
abbrev He:List Sk:=[.d (.st 5),.d (.int .i64)]
abbrev Cj:List Sk:=[.fn 100 [] [.aK [.d (.int .i64)] 0,.aK [.dx (.int .i64) (.int .i64)] 0]]
@[irreducible] noncomputable def Ck (n:Nat) (p:aj R.T He):Option (aj R.T Cj):=bO E R n false (Sj n) aJ ajA Tryz.f51 He Cj p
theorem ajB (n:Nat) (p:aj R.T He) (x:aj R.T Cj) (h:Ck n p=some x):Pure E 51 (au R He p) (aV (au R Cj x)):=by
 unfold Ck at h
 exact bJ bF (ZF n) bG h Tryz.func51 rfl rfl rfl rfl (by kernel_rfl)
noncomputable def Sl (n:Nat):Nat→List (FR R):=bn 51 ⟨He,Cj,Ck n,aT R Cj,false⟩ (Sj n)
theorem ZG (n:Nat):aS E (Sl n):=bC (ZF n) (ajB n)
def ajC:bH:=⟨[],[]⟩
abbrev Hf:List Sk:=[.d (.st 4),.aK [.d (.int .i64)] 0,.aK [.dx (.int .i64) (.int .i64)] 0]
abbrev Cm:List Sk:=[.d .bool]
@[irreducible] noncomputable def Cn (n:Nat) (p:aj R.T Hf):Option (aj R.T Cm):=bO E R n false (Sl n) aJ ajC Tryz.f100 Hf Cm p
theorem ajD (n:Nat) (p:aj R.T Hf) (x:aj R.T Cm) (h:Cn n p=some x):Pure E 100 (au R Hf p) (aV (au R Cm x)):=by
 unfold Cn at h
 exact bJ bF (ZG n) bG h Tryz.func100 rfl rfl rfl rfl (by kernel_rfl)
noncomputable def M7 (n:Nat):Nat→List (FR R):=bn 100 ⟨Hf,Cm,Cn n,aT R Cm,false⟩ (Sl n)
theorem ZH (n:Nat):aS E (M7 n):=bC (ZG n) (ajD n)
def M8:bH:=⟨[(2,⟨[1,8,9],[],⟨[(4,.l (.own 20) (.st 4)),(5,.l (.own 24) (.st 4)),(10,.d (.int .i64))],[]⟩,[(.exit 0,⟨[(4,.l (.own 20) (.st 4)),(5,.l (.own 24) (.st 4))],[]⟩)]⟩)],[]⟩
abbrev Hg:List Sk:=[.d (.slice (.st 4)),.fn 100 [] [.aK [.d (.int .i64)] 0,.aK [.dx (.int .i64) (.int .i64)] 0]]
abbrev Co:List Sk:=[.d (.slice (.st 4)),.d (.slice (.st 4))]
@[irreducible] noncomputable def Cq (n:Nat) (p:aj R.T Hg):Option (aj R.T Co):=bO E R n false (M7 n) aJ M8 Tryz.f50 Hg Co p
theorem ajE (n:Nat) (p:aj R.T Hg) (x:aj R.T Co) (h:Cq n p=some x):Pure E 50 (au R Hg p) (aV (au R Co x)):=by
 unfold Cq at h
 exact bJ bF (ZH n) bG h Tryz.func50 rfl rfl rfl rfl (by kernel_rfl)
noncomputable def Hl (n:Nat):Nat→List (FR R):=bn 50 ⟨Hg,Co,Cq n,aT R Co,false⟩ (M7 n)
theorem ZI (n:Nat):aS E (Hl n):=bC (ZH n) (ajE n)
def yA:bH:=⟨[(3,⟨[0,9,10],[],⟨[(3,.d (.int .i64)),(11,.d (.int .i64))],[]⟩,[(.exit 0,⟨[(3,.d (.int .i64))],[]⟩)]⟩),
 (11,⟨[25,26],[],⟨[(6,.l (.own 24) (.int .i64)),(27,.d (.int .i64))],[]⟩,[(.exit 2,⟨[(6,.l (.own 24) (.int .i64))],[]⟩)]⟩)],[]⟩
abbrev Cr:List Sk:=[.d (.slice (.slice (.int .i64)))]
abbrev Sm:List Sk:=[.d (.slice (.int .i64))]
@[irreducible] noncomputable def yB (n:Nat) (p:aj R.T Cr):Option (aj R.T Sm):=FV E R n false (Hl n) aJ yA Tryz.f161 Cr (.int .i64) p
theorem ajF (n:Nat) (p:aj R.T Cr) (x:aj R.T Sm) (h:yB n p=some x):Pure E 161 (au R Cr p) (.ak .sh (List.map (aF R (.int .i64)) x))∧lZ E 161 (au R Cr p) (cZ R (.int .i64)) (List.map (aF R (.int .i64)) x):=by
 unfold yB at h
 exact RL bF (ZI n) bG h Tryz.func161 rfl rfl rfl rfl (by kernel_rfl)
noncomputable def M9 (n:Nat):Nat→List (FR R):=bn 161 ⟨Cr,[.d (.slice (.int .i64))],yB n,aT R Sm,true⟩ (Hl n)
theorem ZJ (n:Nat):aS E (M9 n):=RP (G:=yB n) (ZI n) (ajF n)
def Na:bH:=⟨[(3,⟨[],[],⟨[(3,.d (.int .u64)),(4,.l (.own 21) (.int .u8))],[]⟩,[(.exit 0,⟨[(3,.d (.int .u64)),(4,.l (.own 21) (.int .u8))],[]⟩)]⟩)],[]⟩
abbrev Ct:List Sk:=[.d (.int .i64)]
abbrev Sn:List Sk:=[.d (.slice (.int .u8))]
@[irreducible] noncomputable def sG (n:Nat) (p:aj R.T Ct):Option (aj R.T Sn):=FV E R n false (M9 n) aJ Na Tryz.f105 Ct (.int .u8) p
theorem ajG (n:Nat) (p:aj R.T Ct) (x:aj R.T Sn) (h:sG n p=some x):Pure E 105 (au R Ct p) (.ak .sh (List.map (aF R (.int .u8)) x))∧lZ E 105 (au R Ct p) (cZ R (.int .u8)) (List.map (aF R (.int .u8)) x):=by
 unfold sG at h
 exact RL bF (ZJ n) bG h Tryz.func105 rfl rfl rfl rfl (by kernel_rfl)
noncomputable def Nb (n:Nat):Nat→List (FR R):=bn 105 ⟨Ct,[.d (.slice (.int .u8))],sG n,aT R Sn,true⟩ (M9 n)
theorem ZK (n:Nat):aS E (Nb n):=RP (G:=sG n) (ZJ n) (ajG n)
def Nc:bH:=⟨[(3,⟨[1,11,12],[],⟨[(5,.l (.own 10) (.int .u8)),(13,.d (.int .i64))],[]⟩,[(.exit 0,⟨[(5,.l (.own 10) (.int .u8))],[]⟩)]⟩)],[]⟩
abbrev Ho:List Sk:=[.d (.slice (.int .i64)),.fn 105 [] []]
abbrev Cu:List Sk:=[.d (.slice (.int .u8))]
@[irreducible] noncomputable def Hq (n:Nat) (p:aj R.T Ho):Option (aj R.T Cu):=bO E R n false (Nb n) aJ Nc Tryz.f104 Ho Cu p
theorem ajH (n:Nat) (p:aj R.T Ho) (x:aj R.T Cu) (h:Hq n p=some x):Pure E 104 (au R Ho p) (aV (au R Cu x)):=by
 unfold Hq at h
 exact bJ bF (ZK n) bG h Tryz.func104 rfl rfl rfl rfl (by kernel_rfl)
noncomputable def Sq (n:Nat):Nat→List (FR R):=bn 104 ⟨Ho,Cu,Hq n,aT R Cu,false⟩ (Nb n)
theorem ZL (n:Nat):aS E (Sq n):=bC (ZK n) (ajH n)
def ajI:bH:=⟨[],[]⟩
abbrev Hr:List Sk:=[.d (.slice (.int .i64))]
abbrev Cv:List Sk:=[.d (.slice (.int .u8))]
@[irreducible] noncomputable def Cw (n:Nat) (p:aj R.T Hr):Option (aj R.T Cv):=bO E R n false (Sq n) aJ ajI Tryz.f60 Hr Cv p
theorem ajJ (n:Nat) (p:aj R.T Hr) (x:aj R.T Cv) (h:Cw n p=some x):Pure E 60 (au R Hr p) (aV (au R Cv x)):=by
 unfold Cw at h
 exact bJ bF (ZL n) bG h Tryz.func60 rfl rfl rfl rfl (by kernel_rfl)
noncomputable def Sr (n:Nat):Nat→List (FR R):=bn 60 ⟨Hr,Cv,Cw n,aT R Cv,false⟩ (Sq n)
theorem ZM (n:Nat):aS E (Sr n):=bC (ZL n) (ajJ n)
def ajK:bH:=⟨[],[]⟩
abbrev Ht:List Sk:=[.d .str]
abbrev Cx:List Sk:=[.d (.slice (.int .u8))]
@[irreducible] noncomputable def yC (n:Nat) (p:aj R.T Ht):Option (aj R.T Cx):=bO E R n false (Sr n) aJ ajK Tryz.f159 Ht Cx p
theorem ajL (n:Nat) (p:aj R.T Ht) (x:aj R.T Cx) (h:yC n p=some x):Pure E 159 (au R Ht p) (aV (au R Cx x)):=by
 unfold yC at h
 exact bJ bF (ZM n) bG h Tryz.func159 rfl rfl rfl rfl (by kernel_rfl)
noncomputable def Nf (n:Nat):Nat→List (FR R):=bn 159 ⟨Ht,Cx,yC n,aT R Cx,false⟩ (Sr n)
theorem ZN (n:Nat):aS E (Nf n):=bC (ZM n) (ajL n)
def Ng:bH:=⟨[(3,⟨[1,11,12],[],⟨[(5,.l (.own 10) (.int .u8)),(13,.d (.int .i64))],[]⟩,[(.exit 0,⟨[(5,.l (.own 10) (.int .u8))],[]⟩)]⟩)],[]⟩
abbrev Hu:List Sk:=[.d (.slice .str),.fn 159 [] []]
abbrev Cy:List Sk:=[.d (.slice (.int .u8))]
@[irreducible] noncomputable def Hw (n:Nat) (p:aj R.T Hu):Option (aj R.T Cy):=bO E R n false (Nf n) aJ Ng Tryz.f201 Hu Cy p
theorem ajM (n:Nat) (p:aj R.T Hu) (x:aj R.T Cy) (h:Hw n p=some x):Pure E 201 (au R Hu p) (aV (au R Cy x)):=by
 unfold Hw at h
 exact bJ bF (ZN n) bG h Tryz.func201 rfl rfl rfl rfl (by kernel_rfl)
noncomputable def Sv (n:Nat):Nat→List (FR R):=bn 201 ⟨Hu,Cy,Hw n,aT R Cy,false⟩ (Nf n)
theorem ZO (n:Nat):aS E (Sv n):=bC (ZN n) (ajM n)
def ajN:bH:=⟨[],[]⟩
abbrev Hy:List Sk:=[.d (.slice .str)]
abbrev Cz:List Sk:=[.d (.slice (.int .u8))]
@[irreducible] noncomputable def CB (n:Nat) (p:aj R.T Hy):Option (aj R.T Cz):=bO E R n false (Sv n) aJ ajN Tryz.f163 Hy Cz p
theorem ajO (n:Nat) (p:aj R.T Hy) (x:aj R.T Cz) (h:CB n p=some x):Pure E 163 (au R Hy p) (aV (au R Cz x)):=by
 unfold CB at h
 exact bJ bF (ZO n) bG h Tryz.func163 rfl rfl rfl rfl (by kernel_rfl)
noncomputable def Hz (n:Nat):Nat→List (FR R):=bn 163 ⟨Hy,Cz,CB n,aT R Cz,false⟩ (Sv n)
theorem ZP (n:Nat):aS E (Hz n):=bC (ZO n) (ajO n)
def yD:bH:=⟨[(3,⟨[0,9,10],[],⟨[(3,.d (.int .i64)),(11,.d (.int .i64))],[]⟩,[(.exit 0,⟨[(3,.d (.int .i64))],[]⟩)]⟩),
 (11,⟨[25,26],[],⟨[(6,.l (.own 24) (.int .u8)),(27,.d (.int .i64))],[]⟩,[(.exit 2,⟨[(6,.l (.own 24) (.int .u8))],[]⟩)]⟩)],[]⟩
abbrev HV:List Sk:=[.d (.slice (.slice (.int .u8)))]
abbrev CF:List Sk:=[.d (.slice (.int .u8))]
@[irreducible] noncomputable def CG (n:Nat) (p:aj R.T HV):Option (aj R.T CF):=bO E R n false (Hz n) aJ yD Tryz.f162 HV CF p
theorem ajP (n:Nat) (p:aj R.T HV) (x:aj R.T CF) (h:CG n p=some x):Pure E 162 (au R HV p) (aV (au R CF x)):=by
 unfold CG at h
 exact bJ bF (ZP n) bG h Tryz.func162 rfl rfl rfl rfl (by kernel_rfl)
noncomputable def Nh (n:Nat):Nat→List (FR R):=bn 162 ⟨HV,CF,CG n,aT R CF,false⟩ (Hz n)
theorem ZQ (n:Nat):aS E (Nh n):=bC (ZP n) (ajP n)
def Ni:bH:=⟨[(4,⟨[34,35],[],⟨[(3,.l (.own 32) (.int .i64)),(4,.l (.own 53) .str),(36,.d (.int .i64))],[]⟩,[(.exit 0,⟨[(3,.l (.own 32) (.int .i64)),(4,.l (.own 53) .str)],[]⟩)]⟩)],[]⟩
abbrev HY:List Sk:=[.d (.st 3)]
abbrev CJ:List Sk:=[.d (.slice (.int .u8))]
@[irreducible] noncomputable def CK (n:Nat) (p:aj R.T HY):Option (aj R.T CJ):=bO E R n false (Nh n) aJ Ni Tryz.f103 HY CJ p
theorem ajQ (n:Nat) (p:aj R.T HY) (x:aj R.T CJ) (h:CK n p=some x):Pure E 103 (au R HY p) (aV (au R CJ x)):=by
 unfold CK at h
 exact bJ bF (ZQ n) bG h Tryz.func103 rfl rfl rfl rfl (by kernel_rfl)
noncomputable def Sw (n:Nat):Nat→List (FR R):=bn 103 ⟨HY,CJ,CK n,aT R CJ,false⟩ (Nh n)
theorem ZR (n:Nat):aS E (Sw n):=bC (ZQ n) (ajQ n)
def ajR:bH:=⟨[],[]⟩
abbrev HZ:List Sk:=[]
abbrev CO:List Sk:=[.sg [.a .u32 8,.a .u8 64,.i .u64]]
@[irreducible] noncomputable def H6 (n:Nat) (p:aj R.T HZ):Option (aj R.T CO):=bO E R n false (Sw n) aJ ajR Tryz.f157 HZ CO p
theorem ajS (n:Nat) (p:aj R.T HZ) (x:aj R.T CO) (h:H6 n p=some x):Pure E 157 (au R HZ p) (aV (au R CO x)):=by
 unfold H6 at h
 exact bJ bF (ZR n) bG h Tryz.func157 rfl rfl rfl rfl (by kernel_rfl)
noncomputable def Sy (n:Nat):Nat→List (FR R):=bn 157 ⟨HZ,CO,H6 n,aT R CO,false⟩ (Sw n)
theorem ZT (n:Nat):aS E (Sy n):=bC (ZR n) (ajS n)
def ajT:bH:=⟨[],[]⟩
abbrev H7:List Sk:=[.d (.int .u32),.d (.int .i64)]
abbrev CP:List Sk:=[.d (.int .u32)]
@[irreducible] noncomputable def p9 (n:Nat) (p:aj R.T H7):Option (aj R.T CP):=bO E R n false (Sy n) aJ ajT Tryz.f237 H7 CP p
theorem ajU (n:Nat) (p:aj R.T H7) (x:aj R.T CP) (h:p9 n p=some x):Pure E 237 (au R H7 p) (aV (au R CP x)):=by
 unfold p9 at h
 exact bJ bF (ZT n) bG h Tryz.func237 rfl rfl rfl rfl (by kernel_rfl)
noncomputable def H8 (n:Nat):Nat→List (FR R):=bn 237 ⟨H7,CP,p9 n,aT R CP,false⟩ (Sy n)
theorem ZU (n:Nat):aS E (H8 n):=bC (ZT n) (ajU n)
def yE:bH:=⟨[(3,⟨[0,2,3],[2],⟨[(11,.d (.int .i64))],[(3,.sg [.a .u32 64])]⟩,[(.exit 0,⟨[],[(3,.sg [.a .u32 64])]⟩)]⟩),
 (7,⟨[0,2,3,4,11,22,23],[2],⟨[(24,.d (.int .i64))],[(3,.sg [.a .u32 64])]⟩,[(.exit 2,⟨[],[(3,.sg [.a .u32 64])]⟩)]⟩)],[]⟩
abbrev H9:List Sk:=[.d (.slice (.int .u8))]
abbrev CQ:List Sk:=[.sg [.a .u32 64]]
@[irreducible] noncomputable def CS (n:Nat) (p:aj R.T H9):Option (aj R.T CQ):=bO E R n false (H8 n) aJ yE Tryz.f223 H9 CQ p
theorem ajV (n:Nat) (p:aj R.T H9) (x:aj R.T CQ) (h:CS n p=some x):Pure E 223 (au R H9 p) (aV (au R CQ x)):=by
 unfold CS at h
 exact bJ bF (ZU n) bG h Tryz.func223 rfl rfl rfl rfl (by kernel_rfl)
noncomputable def Sz (n:Nat):Nat→List (FR R):=bn 223 ⟨H9,CQ,CS n,aT R CQ,false⟩ (H8 n)
theorem ZV (n:Nat):aS E (Sz n):=bC (ZU n) (ajV n)
def ajW:bH:=⟨[],[]⟩
abbrev Ia:List Sk:=[.d (.int .u32),.d (.int .i64),.d (.int .i64),.d (.int .i64)]
abbrev CU:List Sk:=[.d (.int .u32)]
@[irreducible] noncomputable def yF (n:Nat) (p:aj R.T Ia):Option (aj R.T CU):=bO E R n false (Sz n) aJ ajW Tryz.f224 Ia CU p
theorem ajX (n:Nat) (p:aj R.T Ia) (x:aj R.T CU) (h:yF n p=some x):Pure E 224 (au R Ia p) (aV (au R CU x)):=by
 unfold yF at h
 exact bJ bF (ZV n) bG h Tryz.func224 rfl rfl rfl rfl (by kernel_rfl)
noncomputable def Ib (n:Nat):Nat→List (FR R):=bn 224 ⟨Ia,CU,yF n,aT R CU,false⟩ (Sz n)
theorem ZW (n:Nat):aS E (Ib n):=bC (ZV n) (ajX n)
def yG:bH:=⟨[(4,⟨[2,4,5,6,7,21],[2,4,5],⟨[(22,.d (.int .i64))],[(6,.sg [.a .u32 4]),(7,.sg [.a .u32 4])]⟩,[(.exit 0,⟨[],[(6,.sg [.a .u32 4]),(7,.sg [.a .u32 4])]⟩)]⟩),
 (12,⟨[2,4,6,7],[4,6,7],⟨[(94,.d (.int .i64))],[(2,.sg [.a .u32 8])]⟩,[(.exit 2,⟨[],[(2,.sg [.a .u32 8])]⟩)]⟩)],[]⟩
abbrev Ic:List Sk:=[.sg [.a .u32 8],.d (.slice (.int .u8))]
abbrev CV:List Sk:=[.sg [.a .u32 8]]
@[irreducible] noncomputable def CX (n:Nat) (p:aj R.T Ic):Option (aj R.T CV):=bO E R n false (Ib n) aJ yG Tryz.f198 Ic CV p
theorem ajY (n:Nat) (p:aj R.T Ic) (x:aj R.T CV) (h:CX n p=some x):Pure E 198 (au R Ic p) (aV (au R CV x)):=by
 unfold CX at h
 exact bJ bF (ZW n) bG h Tryz.func198 rfl rfl rfl rfl (by kernel_rfl)
noncomputable def Nj (n:Nat):Nat→List (FR R):=bn 198 ⟨Ic,CV,CX n,aT R CV,false⟩ (Ib n)
theorem ZX (n:Nat):aS E (Nj n):=bC (ZW n) (ajY n)
def Nk:bH:=⟨[(1,⟨[2,4],[4],⟨[(1,.d .str)],[(2,.sg [.a .u32 8,.a .u8 64,.i .u64])]⟩,[(.exit 0,⟨[],[(2,.sg [.a .u32 8,.a .u8 64,.i .u64])]⟩)]⟩)],[]⟩
abbrev Ie:List Sk:=[.sg [.a .u32 8,.a .u8 64,.i .u64],.d .str]
abbrev CY:List Sk:=[.sg [.a .u32 8,.a .u8 64,.i .u64]]
@[irreducible] noncomputable def vU (n:Nat) (p:aj R.T Ie):Option (aj R.T CY):=bO E R n false (Nj n) aJ Nk Tryz.f158 Ie CY p
theorem ajZ (n:Nat) (p:aj R.T Ie) (x:aj R.T CY) (h:vU n p=some x):Pure E 158 (au R Ie p) (aV (au R CY x)):=by
 unfold vU at h
 exact bJ bF (ZX n) bG h Tryz.func158 rfl rfl rfl rfl (by kernel_rfl)
noncomputable def CZ (n:Nat):Nat→List (FR R):=bn 158 ⟨Ie,CY,vU n,aT R CY,false⟩ (Nj n)
theorem ZY (n:Nat):aS E (CZ n):=bC (ZX n) (ajZ n)
def sH:bH:=⟨[(3,⟨[1,2,3],[1,2],⟨[(4,.l (.own 22) (.int .u8))],[]⟩,[(.exit 0,⟨[(4,.l (.own 22) (.int .u8))],[]⟩)]⟩),
 (6,⟨[1,2,3],[1,2],⟨[(4,.l (.own 22) (.int .u8)),(23,.d (.int .i64))],[]⟩,[(.exit 2,⟨[(4,.l (.own 22) (.int .u8))],[]⟩)]⟩),
 (13,⟨[1,2,6],[1,2],⟨[(40,.d (.int .i64))],[(6,.sg [.a .u8 32])]⟩,[(.exit 4,⟨[],[(6,.sg [.a .u8 32])]⟩)]⟩)],[]⟩
abbrev Ig:List Sk:=[.sg [.a .u32 8,.a .u8 64,.i .u64]]
abbrev C8:List Sk:=[.sg [.a .u8 32]]
@[irreducible] noncomputable def C9 (n:Nat) (p:aj R.T Ig):Option (aj R.T C8):=bO E R n false (CZ n) aJ sH Tryz.f160 Ig C8 p
theorem aj0 (n:Nat) (p:aj R.T Ig) (x:aj R.T C8) (h:C9 n p=some x):Pure E 160 (au R Ig p) (aV (au R C8 x)):=by
 unfold C9 at h
 exact bJ bF (ZY n) bG h Tryz.func160 rfl rfl rfl rfl (by kernel_rfl)
noncomputable def Nl (n:Nat):Nat→List (FR R):=bn 160 ⟨Ig,C8,C9 n,aT R C8,false⟩ (CZ n)
theorem Z0 (n:Nat):aS E (Nl n):=bC (ZY n) (aj0 n)
def Nn:bH:=⟨[(3,⟨[4,5,15,16],[4],⟨[(17,.d (.int .i64))],[(5,.sg [.a .u32 8,.a .u8 64,.i .u64])]⟩,[(.exit 0,⟨[],[(5,.sg [.a .u32 8,.a .u8 64,.i .u64])]⟩)]⟩)],[]⟩
abbrev Ih:List Sk:=[.d (.int .i64),.d (.slice .str)]
abbrev Da:List Sk:=[.d (.st 6)]
@[irreducible] noncomputable def Db (n:Nat) (p:aj R.T Ih):Option (aj R.T Da):=bO E R n false (Nl n) aJ Nn Tryz.f102 Ih Da p
theorem aj1 (n:Nat) (p:aj R.T Ih) (x:aj R.T Da) (h:Db n p=some x):Pure E 102 (au R Ih p) (aV (au R Da x)):=by
 unfold Db at h
 exact bJ bF (Z0 n) bG h Tryz.func102 rfl rfl rfl rfl (by kernel_rfl)
noncomputable def SA (n:Nat):Nat→List (FR R):=bn 102 ⟨Ih,Da,Db n,aT R Da,false⟩ (Nl n)
theorem Z4 (n:Nat):aS E (SA n):=bC (Z0 n) (aj1 n)
def aj2:bH:=⟨[],[]⟩
abbrev Ii:List Sk:=[.d (.st 3)]
abbrev Dc:List Sk:=[.d (.st 6)]
@[irreducible] noncomputable def Df (n:Nat) (p:aj R.T Ii):Option (aj R.T Dc):=bO E R n false (SA n) aJ aj2 Tryz.f58 Ii Dc p
theorem aj3 (n:Nat) (p:aj R.T Ii) (x:aj R.T Dc) (h:Df n p=some x):Pure E 58 (au R Ii p) (aV (au R Dc x)):=by
 unfold Df at h
 exact bJ bF (Z4 n) bG h Tryz.func58 rfl rfl rfl rfl (by kernel_rfl)
noncomputable def SB (n:Nat):Nat→List (FR R):=bn 58 ⟨Ii,Dc,Df n,aT R Dc,false⟩ (SA n)
theorem Z5 (n:Nat):aS E (SB n):=bC (Z4 n) (aj3 n)
def aj4:bH:=⟨[],[]⟩
abbrev Ij:List Sk:=[.d (.st 4)]
abbrev Dh:List Sk:=[.d (.st 7)]
@[irreducible] noncomputable def vV (n:Nat) (p:aj R.T Ij):Option (aj R.T Dh):=bO E R n false (SB n) aJ aj4 Tryz.f25 Ij Dh p
theorem aj5 (n:Nat) (p:aj R.T Ij) (x:aj R.T Dh) (h:vV n p=some x):Pure E 25 (au R Ij p) (aV (au R Dh x)):=by
 unfold vV at h
 exact bJ bF (Z5 n) bG h Tryz.func25 rfl rfl rfl rfl (by kernel_rfl)
noncomputable def Np (n:Nat):Nat→List (FR R):=bn 25 ⟨Ij,Dh,vV n,aT R Dh,false⟩ (SB n)
theorem Z6 (n:Nat):aS E (Np n):=bC (Z5 n) (aj5 n)
def Nq:bH:=⟨[(6,⟨[2,4,8,30,31],[2,4],⟨[(9,.l (.own 40) (.st 7)),(32,.d (.int .i64))],[]⟩,[(.exit 0,⟨[(9,.l (.own 40) (.st 7))],[]⟩)]⟩)],[]⟩
abbrev Ik:List Sk:=[.d (.st 5),.d (.int .i64)]
abbrev Di:List Sk:=[.d (.st 5),.d (.slice (.st 7)),.d (.int .i64)]
@[irreducible] noncomputable def qN (n:Nat) (p:aj R.T Ik):Option (aj R.T Di):=bO E R n false (Np n) aJ Nq Tryz.f16 Ik Di p
theorem aj6 (n:Nat) (p:aj R.T Ik) (x:aj R.T Di) (h:qN n p=some x):Pure E 16 (au R Ik p) (aV (au R Di x)):=by
 unfold qN at h
 exact bJ bF (Z6 n) bG h Tryz.func16 rfl rfl rfl rfl (by kernel_rfl)
noncomputable def Nr (n:Nat):Nat→List (FR R):=bn 16 ⟨Ik,Di,qN n,aT R Di,false⟩ (Np n)
theorem Z7 (n:Nat):aS E (Nr n):=bC (Z6 n) (aj6 n)
def Ns:bH:=⟨[(6,⟨[0,1],[],⟨[(5,.d (.int .i64))],[]⟩,[(.exit 0,⟨[],[]⟩),(.ret,⟨[(4,.d (.int .i64))],[]⟩)]⟩)],[]⟩
abbrev Il:List Sk:=[.d (.slice (.int .i64)),.d (.slice (.int .i64))]
abbrev Dj:List Sk:=[.d (.int .i64)]
@[irreducible] noncomputable def Dk (n:Nat) (p:aj R.T Il):Option (aj R.T Dj):=bO E R n false (Nr n) aJ Ns Tryz.f101 Il Dj p
theorem aj7 (n:Nat) (p:aj R.T Il) (x:aj R.T Dj) (h:Dk n p=some x):Pure E 101 (au R Il p) (aV (au R Dj x)):=by
 unfold Dk at h
 exact bJ bF (Z7 n) bG h Tryz.func101 rfl rfl rfl rfl (by kernel_rfl)
noncomputable def SC (n:Nat):Nat→List (FR R):=bn 101 ⟨Il,Dj,Dk n,aT R Dj,false⟩ (Nr n)
theorem Z8 (n:Nat):aS E (SC n):=bC (Z7 n) (aj7 n)
def aj8:bH:=⟨[],[]⟩
abbrev Im:List Sk:=[.d (.slice (.int .i64)),.d (.slice (.int .i64))]
abbrev Dl:List Sk:=[.d .bool]
@[irreducible] noncomputable def yH (n:Nat) (p:aj R.T Im):Option (aj R.T Dl):=bO E R n false (SC n) aJ aj8 Tryz.f52 Im Dl p
theorem aj9 (n:Nat) (p:aj R.T Im) (x:aj R.T Dl) (h:yH n p=some x):Pure E 52 (au R Im p) (aV (au R Dl x)):=by
 unfold yH at h
 exact bJ bF (Z8 n) bG h Tryz.func52 rfl rfl rfl rfl (by kernel_rfl)
noncomputable def Nt (n:Nat):Nat→List (FR R):=bn 52 ⟨Im,Dl,yH n,aT R Dl,false⟩ (SC n)
theorem Z9 (n:Nat):aS E (Nt n):=bC (Z8 n) (aj9 n)
def Nu:bH:=⟨[(5,⟨[],[],⟨[(3,.d (.int .u64)),(4,.l (.own 23) (.int .u8))],[]⟩,[(.exit 0,⟨[(3,.d (.int .u64)),(4,.l (.own 23) (.int .u8))],[]⟩)]⟩)],[]⟩
abbrev Dm:List Sk:=[.d (.int .i64)]
abbrev SE:List Sk:=[.d (.slice (.int .u8))]
@[irreducible] noncomputable def sI (n:Nat) (p:aj R.T Dm):Option (aj R.T SE):=FV E R n false (Nt n) aJ Nu Tryz.f106 Dm (.int .u8) p
theorem akb (n:Nat) (p:aj R.T Dm) (x:aj R.T SE) (h:sI n p=some x):Pure E 106 (au R Dm p) (.ak .sh (List.map (aF R (.int .u8)) x))∧lZ E 106 (au R Dm p) (cZ R (.int .u8)) (List.map (aF R (.int .u8)) x):=by
 unfold sI at h
 exact RL bF (Z9 n) bG h Tryz.func106 rfl rfl rfl rfl (by kernel_rfl)
noncomputable def Nv (n:Nat):Nat→List (FR R):=bn 106 ⟨Dm,[.d (.slice (.int .u8))],sI n,aT R SE,true⟩ (Nt n)
theorem aac (n:Nat):aS E (Nv n):=RP (G:=sI n) (Z9 n) (akb n)
def Nw:bH:=⟨[(3,⟨[0],[],⟨[(3,.l (.own 7) (.int .u8)),(4,.d (.int .i64))],[]⟩,[(.exit 0,⟨[(3,.l (.own 7) (.int .u8))],[]⟩)]⟩)],[]⟩
abbrev Io:List Sk:=[.d (.slice (.int .i64))]
abbrev Dn:List Sk:=[.d (.slice (.int .u8))]
@[irreducible] noncomputable def Dp (n:Nat) (p:aj R.T Io):Option (aj R.T Dn):=bO E R n false (Nv n) aJ Nw Tryz.f61 Io Dn p
theorem akc (n:Nat) (p:aj R.T Io) (x:aj R.T Dn) (h:Dp n p=some x):Pure E 61 (au R Io p) (aV (au R Dn x)):=by
 unfold Dp at h
 exact bJ bF (aac n) bG h Tryz.func61 rfl rfl rfl rfl (by kernel_rfl)
noncomputable def SF (n:Nat):Nat→List (FR R):=bn 61 ⟨Io,Dn,Dp n,aT R Dn,false⟩ (Nv n)
theorem aad (n:Nat):aS E (SF n):=bC (aac n) (akc n)
def akd:bH:=⟨[],[]⟩
abbrev Ip:List Sk:=[.d .str]
abbrev Dr:List Sk:=[.d (.slice (.int .u8))]
@[irreducible] noncomputable def Dt (n:Nat) (p:aj R.T Ip):Option (aj R.T Dr):=bO E R n false (SF n) aJ akd Tryz.f165 Ip Dr p
theorem ake (n:Nat) (p:aj R.T Ip) (x:aj R.T Dr) (h:Dt n p=some x):Pure E 165 (au R Ip p) (aV (au R Dr x)):=by
 unfold Dt at h
 exact bJ bF (aad n) bG h Tryz.func165 rfl rfl rfl rfl (by kernel_rfl)
noncomputable def Ny (n:Nat):Nat→List (FR R):=bn 165 ⟨Ip,Dr,Dt n,aT R Dr,false⟩ (SF n)
theorem aae (n:Nat):aS E (Ny n):=bC (aad n) (ake n)
def Nz:bH:=⟨[(3,⟨[0],[],⟨[(3,.l (.own 7) (.int .u8)),(4,.d (.int .i64))],[]⟩,[(.exit 0,⟨[(3,.l (.own 7) (.int .u8))],[]⟩)]⟩)],[]⟩
abbrev Iq:List Sk:=[.d (.slice .str)]
abbrev Du:List Sk:=[.d (.slice (.int .u8))]
@[irreducible] noncomputable def Dv (n:Nat) (p:aj R.T Iq):Option (aj R.T Du):=bO E R n false (Ny n) aJ Nz Tryz.f129 Iq Du p
theorem akf (n:Nat) (p:aj R.T Iq) (x:aj R.T Du) (h:Dv n p=some x):Pure E 129 (au R Iq p) (aV (au R Du x)):=by
 unfold Dv at h
 exact bJ bF (aae n) bG h Tryz.func129 rfl rfl rfl rfl (by kernel_rfl)
noncomputable def NA (n:Nat):Nat→List (FR R):=bn 129 ⟨Iq,Du,Dv n,aT R Du,false⟩ (Ny n)
theorem aaf (n:Nat):aS E (NA n):=bC (aae n) (akf n)
def NC:bH:=⟨[(6,⟨[1],[1],⟨[(3,.l (.own 28) (.int .i64)),(4,.l (.own 71) .str),(5,.d (.int .i64))],[]⟩,[(.exit 0,⟨[(3,.l (.own 28) (.int .i64)),(4,.l (.own 71) .str)],[]⟩)]⟩)],[]⟩
abbrev Ir:List Sk:=[.d (.st 3)]
abbrev Dw:List Sk:=[.d (.slice (.int .u8))]
@[irreducible] noncomputable def yI (n:Nat) (p:aj R.T Ir):Option (aj R.T Dw):=bO E R n false (NA n) aJ NC Tryz.f74 Ir Dw p
theorem akg (n:Nat) (p:aj R.T Ir) (x:aj R.T Dw) (h:yI n p=some x):Pure E 74 (au R Ir p) (aV (au R Dw x)):=by
 unfold yI at h
 exact bJ bF (aaf n) bG h Tryz.func74 rfl rfl rfl rfl (by kernel_rfl)
noncomputable def SG (n:Nat):Nat→List (FR R):=bn 74 ⟨Ir,Dw,yI n,aT R Dw,false⟩ (NA n)
theorem aag (n:Nat):aS E (SG n):=bC (aaf n) (akg n)
def akh:bH:=⟨[],[]⟩
abbrev Iu:List Sk:=[.d (.st 3),.d (.st 3)]
abbrev Dx:List Sk:=[.d .bool]
@[irreducible] noncomputable def Dy (n:Nat) (p:aj R.T Iu):Option (aj R.T Dx):=bO E R n false (SG n) aJ akh Tryz.f76 Iu Dx p
theorem aki (n:Nat) (p:aj R.T Iu) (x:aj R.T Dx) (h:Dy n p=some x):Pure E 76 (au R Iu p) (aV (au R Dx x)):=by
 unfold Dy at h
 exact bJ bF (aag n) bG h Tryz.func76 rfl rfl rfl rfl (by kernel_rfl)
noncomputable def ND (n:Nat):Nat→List (FR R):=bn 76 ⟨Iu,Dx,Dy n,aT R Dx,false⟩ (SG n)
theorem aah (n:Nat):aS E (ND n):=bC (aag n) (aki n)
def NG:bH:=⟨[(4,⟨[0,1],[],⟨[(5,.d (.int .i64))],[]⟩,[(.exit 0,⟨[],[]⟩),(.ret,⟨[(4,.d .bool)],[]⟩)]⟩)],[]⟩
abbrev Iw:List Sk:=[.d (.slice (.st 4)),.d (.slice (.st 4))]
abbrev Dz:List Sk:=[.d .bool]
@[irreducible] noncomputable def yJ (n:Nat) (p:aj R.T Iw):Option (aj R.T Dz):=bO E R n false (ND n) aJ NG Tryz.f53 Iw Dz p
theorem akj (n:Nat) (p:aj R.T Iw) (x:aj R.T Dz) (h:yJ n p=some x):Pure E 53 (au R Iw p) (aV (au R Dz x)):=by
 unfold yJ at h
 exact bJ bF (aah n) bG h Tryz.func53 rfl rfl rfl rfl (by kernel_rfl)
noncomputable def SH (n:Nat):Nat→List (FR R):=bn 53 ⟨Iw,Dz,yJ n,aT R Dz,false⟩ (ND n)
theorem aai (n:Nat):aS E (SH n):=bC (aah n) (akj n)
def akk:bH:=⟨[],[]⟩
abbrev Iy:List Sk:=[.d (.st 5),.d (.st 5)]
abbrev DC:List Sk:=[.d .bool]
@[irreducible] noncomputable def vW (n:Nat) (p:aj R.T Iy):Option (aj R.T DC):=bO E R n false (SH n) aJ akk Tryz.f17 Iy DC p
theorem akl (n:Nat) (p:aj R.T Iy) (x:aj R.T DC) (h:vW n p=some x):Pure E 17 (au R Iy p) (aV (au R DC x)):=by
 unfold vW at h
 exact bJ bF (aai n) bG h Tryz.func17 rfl rfl rfl rfl (by kernel_rfl)
noncomputable def SI (n:Nat):Nat→List (FR R):=bn 17 ⟨Iy,DC,vW n,aT R DC,false⟩ (SH n)
theorem aaj (n:Nat):aS E (SI n):=bC (aai n) (akl n)
def akm:bH:=⟨[],[]⟩
abbrev Iz:List Sk:=[.d (.slice (.st 2)),.d (.st 8)]
abbrev DF:List Sk:=[.d .bool]
@[irreducible] noncomputable def DI (n:Nat) (p:aj R.T Iz):Option (aj R.T DF):=bO E R n false (SI n) aJ akm Tryz.f117 Iz DF p
theorem akn (n:Nat) (p:aj R.T Iz) (x:aj R.T DF) (h:DI n p=some x):Pure E 117 (au R Iz p) (aV (au R DF x)):=by
 unfold DI at h
 exact bJ bF (aaj n) bG h Tryz.func117 rfl rfl rfl rfl (by kernel_rfl)
noncomputable def SK (n:Nat):Nat→List (FR R):=bn 117 ⟨Iz,DF,DI n,aT R DF,false⟩ (SI n)
theorem aak (n:Nat):aS E (SK n):=bC (aaj n) (akn n)
def ako:bH:=⟨[],[]⟩
abbrev IB:List Sk:=[.d (.st 2),.aK [.d .str] 0]
abbrev DJ:List Sk:=[.d .bool]
@[irreducible] noncomputable def IC (n:Nat) (p:aj R.T IB):Option (aj R.T DJ):=bO E R n false (SK n) aJ ako Tryz.f209 IB DJ p
theorem akp (n:Nat) (p:aj R.T IB) (x:aj R.T DJ) (h:IC n p=some x):Pure E 209 (au R IB p) (aV (au R DJ x)):=by
 unfold IC at h
 exact bJ bF (aak n) bG h Tryz.func209 rfl rfl rfl rfl (by kernel_rfl)
noncomputable def NH (n:Nat):Nat→List (FR R):=bn 209 ⟨IB,DJ,IC n,aT R DJ,false⟩ (SK n)
theorem aal (n:Nat):aS E (NH n):=bC (aak n) (akp n)
def NI:bH:=⟨[(2,⟨[0,1,7],[],⟨[(8,.d (.int .i64))],[]⟩,[(.exit 0,⟨[],[]⟩),(.ret,⟨[(4,.d (.int .i64))],[]⟩)]⟩)],[]⟩
abbrev IE:List Sk:=[.d (.slice (.st 2)),.fn 209 [] [.aK [.d .str] 0]]
abbrev DK:List Sk:=[.d (.int .i64)]
@[irreducible] noncomputable def IG (n:Nat) (p:aj R.T IE):Option (aj R.T DK):=bO E R n false (NH n) aJ NI Tryz.f208 IE DK p
theorem akq (n:Nat) (p:aj R.T IE) (x:aj R.T DK) (h:IG n p=some x):Pure E 208 (au R IE p) (aV (au R DK x)):=by
 unfold IG at h
 exact bJ bF (aal n) bG h Tryz.func208 rfl rfl rfl rfl (by kernel_rfl)
noncomputable def SL (n:Nat):Nat→List (FR R):=bn 208 ⟨IE,DK,IG n,aT R DK,false⟩ (NH n)
theorem aam (n:Nat):aS E (SL n):=bC (aal n) (akq n)
def akr:bH:=⟨[],[]⟩
abbrev II:List Sk:=[.d (.slice (.st 2)),.d .str]
abbrev DL:List Sk:=[.d (.st 2),.d .bool]
@[irreducible] noncomputable def vX (n:Nat) (p:aj R.T II):Option (aj R.T DL):=bO E R n false (SL n) aJ akr Tryz.f169 II DL p
theorem aks (n:Nat) (p:aj R.T II) (x:aj R.T DL) (h:vX n p=some x):Pure E 169 (au R II p) (aV (au R DL x)):=by
 unfold vX at h
 exact bJ bF (aam n) bG h Tryz.func169 rfl rfl rfl rfl (by kernel_rfl)
noncomputable def SN (n:Nat):Nat→List (FR R):=bn 169 ⟨II,DL,vX n,aT R DL,false⟩ (SL n)
theorem aan (n:Nat):aS E (SN n):=bC (aam n) (aks n)
def akt:bH:=⟨[],[]⟩
abbrev IJ:List Sk:=[.d (.slice (.st 2)),.d (.st 8)]
abbrev DN:List Sk:=[.d .bool]
@[irreducible] noncomputable def DR (n:Nat) (p:aj R.T IJ):Option (aj R.T DN):=bO E R n false (SN n) aJ akt Tryz.f121 IJ DN p
theorem aku (n:Nat) (p:aj R.T IJ) (x:aj R.T DN) (h:DR n p=some x):Pure E 121 (au R IJ p) (aV (au R DN x)):=by
 unfold DR at h
 exact bJ bF (aan n) bG h Tryz.func121 rfl rfl rfl rfl (by kernel_rfl)
noncomputable def SQ (n:Nat):Nat→List (FR R):=bn 121 ⟨IJ,DN,DR n,aT R DN,false⟩ (SN n)
theorem aao (n:Nat):aS E (SQ n):=bC (aan n) (aku n)
def akv:bH:=⟨[],[]⟩
abbrev IK:List Sk:=[.d (.slice (.st 2)),.d (.st 8)]
abbrev DT:List Sk:=[.d .bool]
@[irreducible] noncomputable def DU (n:Nat) (p:aj R.T IK):Option (aj R.T DT):=bO E R n false (SQ n) aJ akv Tryz.f122 IK DT p
theorem akw (n:Nat) (p:aj R.T IK) (x:aj R.T DT) (h:DU n p=some x):Pure E 122 (au R IK p) (aV (au R DT x)):=by
 unfold DU at h
 exact bJ bF (aao n) bG h Tryz.func122 rfl rfl rfl rfl (by kernel_rfl)
noncomputable def SS (n:Nat):Nat→List (FR R):=bn 122 ⟨IK,DT,DU n,aT R DT,false⟩ (SQ n)
theorem aap (n:Nat):aS E (SS n):=bC (aao n) (akw n)
def akx:bH:=⟨[],[]⟩
abbrev IL:List Sk:=[.d (.slice (.st 2)),.d (.st 8)]
abbrev DV:List Sk:=[.d .bool]
@[irreducible] noncomputable def DW (n:Nat) (p:aj R.T IL):Option (aj R.T DV):=bO E R n false (SS n) aJ akx Tryz.f123 IL DV p
theorem aky (n:Nat) (p:aj R.T IL) (x:aj R.T DV) (h:DW n p=some x):Pure E 123 (au R IL p) (aV (au R DV x)):=by
 unfold DW at h
 exact bJ bF (aap n) bG h Tryz.func123 rfl rfl rfl rfl (by kernel_rfl)
noncomputable def SV (n:Nat):Nat→List (FR R):=bn 123 ⟨IL,DV,DW n,aT R DV,false⟩ (SS n)
theorem SX (n:Nat):aS E (SV n):=bC (aap n) (aky n)
def aaq:bH:=⟨[],[]⟩
abbrev qO:List Sk:=[.d (.slice (.st 2)),.d (.st 8)]
abbrev sJ:List Sk:=[.d .bool]
def IQ:bH:=⟨[(2,⟨[0,8,9],[],⟨[(10,.d (.int .i64))],[]⟩,[(.exit 0,⟨[],[]⟩),(.ret,⟨[(4,.d .bool)],[]⟩)]⟩)],[]⟩
abbrev qP:List Sk:=[.d (.slice (.st 2)),.d (.st 8)]
abbrev sK:List Sk:=[.d .bool]
def aar:bH:=⟨[],[]⟩
abbrev qQ:List Sk:=[.d (.slice (.st 2)),.d (.st 8)]
abbrev sM:List Sk:=[.d .bool]
def aas:bH:=⟨[],[]⟩
abbrev qR:List Sk:=[.d (.slice (.st 8)),.fn 69 [.d (.slice (.st 2))] []]
abbrev sN:List Sk:=[.d .bool]
def IU:bH:=⟨[(2,⟨[0,1,7],[],⟨[(8,.d (.int .i64))],[]⟩,[(.exit 0,⟨[],[]⟩),(.ret,⟨[(4,.d (.int .i64))],[]⟩)]⟩)],[]⟩
abbrev qU:List Sk:=[.d (.slice (.st 8)),.fn 69 [.d (.slice (.st 2))] []]
abbrev sO:List Sk:=[.d (.int .i64)]
def aat:bH:=⟨[],[]⟩
abbrev qV:List Sk:=[.d (.slice (.st 2)),.d (.st 8)]
abbrev sP:List Sk:=[.d .bool]
def eF:Nat→List Sk
 |0=>qO
 |1=>qP
 |2=>qQ
 |3=>qR
 |4=>qU
 |_=>qV
def dh:Nat→List Sk
 |0=>sJ
 |1=>sK
 |2=>sM
 |3=>sN
 |4=>sO
 |_=>sP
def akz:Nat→bH
 |0=>aaq
 |1=>IQ
 |2=>aar
 |3=>aas
 |4=>IU
 |_=>aat
noncomputable def akA:Nat→Func
 |0=>Tryz.f69
 |1=>Tryz.f118
 |2=>Tryz.f119
 |3=>Tryz.f168
 |4=>Tryz.f207
 |_=>Tryz.f120
noncomputable def mq (n:Nat) (g:(i:Nat)→aj R.T (eF i)→Option (aj R.T (dh i))):Nat→List (FR R):=bn 120 ⟨eF 5,dh 5,g 5,aT R (dh 5),false⟩ (bn 207 ⟨eF 4,dh 4,g 4,aT R (dh 4),false⟩ (bn 168 ⟨eF 3,dh 3,g 3,aT R (dh 3),false⟩ (bn 119 ⟨eF 2,dh 2,g 2,aT R (dh 2),false⟩ (bn 118 ⟨eF 1,dh 1,g 1,aT R (dh 1),false⟩ (bn 69 ⟨eF 0,dh 0,g 0,aT R (dh 0),false⟩ (SV n))))))
noncomputable def dz (n:Nat):Nat→(i:Nat)→aj R.T (eF i)→Option (aj R.T (dh i))
 |0,_,_=>none
 |m+1,i,p=>bO E R n false (mq n (dz n m)) aJ (akz i) (akA i) (eF i) (dh i) p
attribute [irreducible] dz
theorem aau (n m:Nat) (p:aj R.T qO):dz n (m+1) 0 p=bO E R n false (mq n (dz n m)) aJ aaq Tryz.f69 qO sJ p:=by kernel_rfl
theorem aav (n m:Nat) (p:aj R.T qP):dz n (m+1) 1 p=bO E R n false (mq n (dz n m)) aJ IQ Tryz.f118 qP sK p:=by kernel_rfl
theorem aaw (n m:Nat) (p:aj R.T qQ):dz n (m+1) 2 p=bO E R n false (mq n (dz n m)) aJ aar Tryz.f119 qQ sM p:=by kernel_rfl
theorem aax (n m:Nat) (p:aj R.T qR):dz n (m+1) 3 p=bO E R n false (mq n (dz n m)) aJ aas Tryz.f168 qR sN p:=by kernel_rfl
theorem aay (n m:Nat) (p:aj R.T qU):dz n (m+1) 4 p=bO E R n false (mq n (dz n m)) aJ IU Tryz.f207 qU sO p:=by kernel_rfl
theorem aaz (n m:Nat) (p:aj R.T qV):dz n (m+1) 5 p=bO E R n false (mq n (dz n m)) aJ aat Tryz.f120 qV sP p:=by kernel_rfl
theorem aaA (n:Nat) (p:aj R.T qO):dz n 0 0 p=none:=by kernel_rfl
theorem akB (n:Nat) (p:aj R.T (eF 0)) (x:aj R.T (dh 0)) (h:dz n 0 0 p=some x):Pure E 69 (au R (eF 0) p) (aV (au R (dh 0) x)):=absurd ((aaA n p).symm.trans h) nofun
theorem aaB (n:Nat) (p:aj R.T qP):dz n 0 1 p=none:=by kernel_rfl
theorem akC (n:Nat) (p:aj R.T (eF 1)) (x:aj R.T (dh 1)) (h:dz n 0 1 p=some x):Pure E 118 (au R (eF 1) p) (aV (au R (dh 1) x)):=absurd ((aaB n p).symm.trans h) nofun
theorem aaC (n:Nat) (p:aj R.T qQ):dz n 0 2 p=none:=by kernel_rfl
theorem akD (n:Nat) (p:aj R.T (eF 2)) (x:aj R.T (dh 2)) (h:dz n 0 2 p=some x):Pure E 119 (au R (eF 2) p) (aV (au R (dh 2) x)):=absurd ((aaC n p).symm.trans h) nofun
theorem aaD (n:Nat) (p:aj R.T qR):dz n 0 3 p=none:=by kernel_rfl
theorem akE (n:Nat) (p:aj R.T (eF 3)) (x:aj R.T (dh 3)) (h:dz n 0 3 p=some x):Pure E 168 (au R (eF 3) p) (aV (au R (dh 3) x)):=absurd ((aaD n p).symm.trans h) nofun
theorem aaE (n:Nat) (p:aj R.T qU):dz n 0 4 p=none:=by kernel_rfl
theorem akF (n:Nat) (p:aj R.T (eF 4)) (x:aj R.T (dh 4)) (h:dz n 0 4 p=some x):Pure E 207 (au R (eF 4) p) (aV (au R (dh 4) x)):=absurd ((aaE n p).symm.trans h) nofun
theorem aaF (n:Nat) (p:aj R.T qV):dz n 0 5 p=none:=by kernel_rfl
theorem akG (n:Nat) (p:aj R.T (eF 5)) (x:aj R.T (dh 5)) (h:dz n 0 5 p=some x):Pure E 120 (au R (eF 5) p) (aV (au R (dh 5) x)):=absurd ((aaF n p).symm.trans h) nofun
theorem akH (n m:Nat) (hk:aS E (mq n (dz n m))) (p:aj R.T (eF 0)) (x:aj R.T (dh 0)) (h:dz n (m+1) 0 p=some x):Pure E 69 (au R (eF 0) p) (aV (au R (dh 0) x)):=
 bJ (args:=qO) (res:=sJ) bF hk bG ((aau n m p).symm.trans h) Tryz.func69 rfl rfl rfl rfl (by kernel_rfl)
theorem akI (n m:Nat) (hk:aS E (mq n (dz n m))) (p:aj R.T (eF 1)) (x:aj R.T (dh 1)) (h:dz n (m+1) 1 p=some x):Pure E 118 (au R (eF 1) p) (aV (au R (dh 1) x)):=
 bJ (args:=qP) (res:=sK) bF hk bG ((aav n m p).symm.trans h) Tryz.func118 rfl rfl rfl rfl (by kernel_rfl)
theorem akJ (n m:Nat) (hk:aS E (mq n (dz n m))) (p:aj R.T (eF 2)) (x:aj R.T (dh 2)) (h:dz n (m+1) 2 p=some x):Pure E 119 (au R (eF 2) p) (aV (au R (dh 2) x)):=
 bJ (args:=qQ) (res:=sM) bF hk bG ((aaw n m p).symm.trans h) Tryz.func119 rfl rfl rfl rfl (by kernel_rfl)
theorem akK (n m:Nat) (hk:aS E (mq n (dz n m))) (p:aj R.T (eF 3)) (x:aj R.T (dh 3)) (h:dz n (m+1) 3 p=some x):Pure E 168 (au R (eF 3) p) (aV (au R (dh 3) x)):=
 bJ (args:=qR) (res:=sN) bF hk bG ((aax n m p).symm.trans h) Tryz.func168 rfl rfl rfl rfl (by kernel_rfl)
theorem akL (n m:Nat) (hk:aS E (mq n (dz n m))) (p:aj R.T (eF 4)) (x:aj R.T (dh 4)) (h:dz n (m+1) 4 p=some x):Pure E 207 (au R (eF 4) p) (aV (au R (dh 4) x)):=
 bJ (args:=qU) (res:=sO) bF hk bG ((aay n m p).symm.trans h) Tryz.func207 rfl rfl rfl rfl (by kernel_rfl)
theorem akM (n m:Nat) (hk:aS E (mq n (dz n m))) (p:aj R.T (eF 5)) (x:aj R.T (dh 5)) (h:dz n (m+1) 5 p=some x):Pure E 120 (au R (eF 5) p) (aV (au R (dh 5) x)):=
 bJ (args:=qV) (res:=sP) bF hk bG ((aaz n m p).symm.trans h) Tryz.func120 rfl rfl rfl rfl (by kernel_rfl)
theorem qb (n:Nat):∀m,aS E (mq n (dz n m))
 |0=>bC (f:=120) (r:=⟨eF 5,dh 5,dz n 0 5,aT R (dh 5),false⟩) (bC (f:=207) (r:=⟨eF 4,dh 4,dz n 0 4,aT R (dh 4),false⟩) (bC (f:=168) (r:=⟨eF 3,dh 3,dz n 0 3,aT R (dh 3),false⟩) (bC (f:=119) (r:=⟨eF 2,dh 2,dz n 0 2,aT R (dh 2),false⟩) (bC (f:=118) (r:=⟨eF 1,dh 1,dz n 0 1,aT R (dh 1),false⟩) (bC (f:=69) (r:=⟨eF 0,dh 0,dz n 0 0,aT R (dh 0),false⟩) (SX n) (akB n)) (akC n)) (akD n)) (akE n)) (akF n)) (akG n)
 |m+1=>bC (f:=120) (r:=⟨eF 5,dh 5,dz n (m+1) 5,aT R (dh 5),false⟩) (bC (f:=207) (r:=⟨eF 4,dh 4,dz n (m+1) 4,aT R (dh 4),false⟩) (bC (f:=168) (r:=⟨eF 3,dh 3,dz n (m+1) 3,aT R (dh 3),false⟩) (bC (f:=119) (r:=⟨eF 2,dh 2,dz n (m+1) 2,aT R (dh 2),false⟩) (bC (f:=118) (r:=⟨eF 1,dh 1,dz n (m+1) 1,aT R (dh 1),false⟩) (bC (f:=69) (r:=⟨eF 0,dh 0,dz n (m+1) 0,aT R (dh 0),false⟩) (SX n) (akH n m (qb n m))) (akI n m (qb n m))) (akJ n m (qb n m))) (akK n m (qb n m))) (akL n m (qb n m))) (akM n m (qb n m))
@[irreducible] noncomputable def sQ (n m:Nat) (p:aj R.T qO):Option (aj R.T sJ):=dz n m 0 p
@[irreducible] noncomputable def DX (n:Nat) (p:aj R.T qO):Option (aj R.T sJ):=sQ n n p
theorem akN (n:Nat) (p:aj R.T qO) (x:aj R.T sJ) (h:DX n p=some x):Pure E 69 (au R qO p) (aV (au R sJ x)):=by
 unfold DX sQ at h
 cases n with
 |zero=>exact absurd ((aaA 0 p).symm.trans h) nofun
 |succ n=>exact bJ (args:=qO) (res:=sJ) bF (qb (n+1) n) bG ((aau (n+1) n p).symm.trans h) Tryz.func69 rfl rfl rfl rfl (by kernel_rfl)
@[irreducible] noncomputable def IV (n m:Nat) (p:aj R.T qP):Option (aj R.T sK):=dz n m 1 p
@[irreducible] noncomputable def SY (n:Nat) (p:aj R.T qP):Option (aj R.T sK):=IV n n p
theorem akO (n:Nat) (p:aj R.T qP) (x:aj R.T sK) (h:SY n p=some x):Pure E 118 (au R qP p) (aV (au R sK x)):=by
 unfold SY IV at h
 cases n with
 |zero=>exact absurd ((aaB 0 p).symm.trans h) nofun
 |succ n=>exact bJ (args:=qP) (res:=sK) bF (qb (n+1) n) bG ((aav (n+1) n p).symm.trans h) Tryz.func118 rfl rfl rfl rfl (by kernel_rfl)
@[irreducible] noncomputable def DY (n m:Nat) (p:aj R.T qQ):Option (aj R.T sM):=dz n m 2 p
@[irreducible] noncomputable def S9 (n:Nat) (p:aj R.T qQ):Option (aj R.T sM):=DY n n p
theorem akP (n:Nat) (p:aj R.T qQ) (x:aj R.T sM) (h:S9 n p=some x):Pure E 119 (au R qQ p) (aV (au R sM x)):=by
 unfold S9 DY at h
 cases n with
 |zero=>exact absurd ((aaC 0 p).symm.trans h) nofun
 |succ n=>exact bJ (args:=qQ) (res:=sM) bF (qb (n+1) n) bG ((aaw (n+1) n p).symm.trans h) Tryz.func119 rfl rfl rfl rfl (by kernel_rfl)
@[irreducible] noncomputable def IW (n m:Nat) (p:aj R.T qR):Option (aj R.T sN):=dz n m 3 p
@[irreducible] noncomputable def Ta (n:Nat) (p:aj R.T qR):Option (aj R.T sN):=IW n n p
theorem akQ (n:Nat) (p:aj R.T qR) (x:aj R.T sN) (h:Ta n p=some x):Pure E 168 (au R qR p) (aV (au R sN x)):=by
 unfold Ta IW at h
 cases n with
 |zero=>exact absurd ((aaD 0 p).symm.trans h) nofun
 |succ n=>exact bJ (args:=qR) (res:=sN) bF (qb (n+1) n) bG ((aax (n+1) n p).symm.trans h) Tryz.func168 rfl rfl rfl rfl (by kernel_rfl)
@[irreducible] noncomputable def NJ (n m:Nat) (p:aj R.T qU):Option (aj R.T sO):=dz n m 4 p
@[irreducible] noncomputable def Tc (n:Nat) (p:aj R.T qU):Option (aj R.T sO):=NJ n n p
theorem akR (n:Nat) (p:aj R.T qU) (x:aj R.T sO) (h:Tc n p=some x):Pure E 207 (au R qU p) (aV (au R sO x)):=by
 unfold Tc NJ at h
 cases n with
 |zero=>exact absurd ((aaE 0 p).symm.trans h) nofun
 |succ n=>exact bJ (args:=qU) (res:=sO) bF (qb (n+1) n) bG ((aay (n+1) n p).symm.trans h) Tryz.func207 rfl rfl rfl rfl (by kernel_rfl)
@[irreducible] noncomputable def IX (n m:Nat) (p:aj R.T qV):Option (aj R.T sP):=dz n m 5 p
@[irreducible] noncomputable def Td (n:Nat) (p:aj R.T qV):Option (aj R.T sP):=IX n n p
theorem akS (n:Nat) (p:aj R.T qV) (x:aj R.T sP) (h:Td n p=some x):Pure E 120 (au R qV p) (aV (au R sP x)):=by
 unfold Td IX at h
 cases n with
 |zero=>exact absurd ((aaF 0 p).symm.trans h) nofun
 |succ n=>exact bJ (args:=qV) (res:=sP) bF (qb (n+1) n) bG ((aaz (n+1) n p).symm.trans h) Tryz.func120 rfl rfl rfl rfl (by kernel_rfl)
noncomputable def aaG (n:Nat):Nat→List (FR R):=bn 69 ⟨qO,sJ,DX n,aT R sJ,false⟩ (SV n)
theorem akT (n:Nat):aS E (aaG n):=bC (SX n) (akN n)
noncomputable def aaH (n:Nat):Nat→List (FR R):=bn 118 ⟨qP,sK,SY n,aT R sK,false⟩ (aaG n)
theorem akU (n:Nat):aS E (aaH n):=bC (akT n) (akO n)
noncomputable def aaI (n:Nat):Nat→List (FR R):=bn 119 ⟨qQ,sM,S9 n,aT R sM,false⟩ (aaH n)
theorem akV (n:Nat):aS E (aaI n):=bC (akU n) (akP n)
noncomputable def aaJ (n:Nat):Nat→List (FR R):=bn 168 ⟨qR,sN,Ta n,aT R sN,false⟩ (aaI n)
theorem akW (n:Nat):aS E (aaJ n):=bC (akV n) (akQ n)
noncomputable def aaK (n:Nat):Nat→List (FR R):=bn 207 ⟨qU,sO,Tc n,aT R sO,false⟩ (aaJ n)
theorem akX (n:Nat):aS E (aaK n):=bC (akW n) (akR n)
noncomputable def Te (n:Nat):Nat→List (FR R):=bn 120 ⟨qV,sP,Td n,aT R sP,false⟩ (aaK n)
theorem aaL (n:Nat):aS E (Te n):=bC (akX n) (akS n)
def akY:bH:=⟨[],[]⟩
abbrev IY:List Sk:=[.d (.st 8),.d (.slice (.st 2))]
abbrev DZ:List Sk:=[.d .bool]
@[irreducible] noncomputable def vY (n:Nat) (p:aj R.T IY):Option (aj R.T DZ):=bO E R n false (Te n) aJ akY Tryz.f34 IY DZ p
theorem akZ (n:Nat) (p:aj R.T IY) (x:aj R.T DZ) (h:vY n p=some x):Pure E 34 (au R IY p) (aV (au R DZ x)):=by
 unfold vY at h
 exact bJ bF (aaL n) bG h Tryz.func34 rfl rfl rfl rfl (by kernel_rfl)
noncomputable def IZ (n:Nat):Nat→List (FR R):=bn 34 ⟨IY,DZ,vY n,aT R DZ,false⟩ (Te n)
theorem aaM (n:Nat):aS E (IZ n):=bC (aaL n) (akZ n)
def yK:bH:=⟨[(3,⟨[0,3,13,14],[3],⟨[(5,.d (.int .i64)),(15,.d (.int .i64))],[]⟩,[(.exit 0,⟨[(5,.d (.int .i64))],[]⟩)]⟩),
 (7,⟨[0,3,7,13,14,15,28,29],[3,7],⟨[(5,.d (.int .i64)),(30,.d (.int .i64))],[]⟩,[(.exit 2,⟨[(5,.d (.int .i64))],[]⟩)]⟩)],[]⟩
abbrev I4:List Sk:=[.d (.slice (.st 9)),.d (.st 5)]
abbrev D5:List Sk:=[.d (.int .i64)]
@[irreducible] noncomputable def qW (n:Nat) (p:aj R.T I4):Option (aj R.T D5):=bO E R n false (IZ n) aJ yK Tryz.f14 I4 D5 p
theorem ak0 (n:Nat) (p:aj R.T I4) (x:aj R.T D5) (h:qW n p=some x):Pure E 14 (au R I4 p) (aV (au R D5 x)):=by
 unfold qW at h
 exact bJ bF (aaM n) bG h Tryz.func14 rfl rfl rfl rfl (by kernel_rfl)
noncomputable def Tf (n:Nat):Nat→List (FR R):=bn 14 ⟨I4,D5,qW n,aT R D5,false⟩ (IZ n)
theorem Tg (n:Nat):aS E (Tf n):=bC (aaM n) (ak0 n)
def I5:bH:=⟨[(3,⟨[1],[1],⟨[(3,.l (.own 26) (.st 8)),(4,.d (.int .i64))],[]⟩,[(.exit 0,⟨[(3,.l (.own 26) (.st 8))],[]⟩)]⟩)],[]⟩
abbrev qX:List Sk:=[.d (.st 8)]
abbrev sS:List Sk:=[.d (.slice (.st 8))]
def sU:Nat→List Sk
 |_=>qX
def oO:Nat→List Sk
 |_=>sS
def ak1:Nat→bH
 |_=>I5
noncomputable def ak2:Nat→Func
 |_=>Tryz.f54
noncomputable def I6 (n:Nat) (g:(i:Nat)→aj R.T (sU i)→Option (aj R.T (oO i))):Nat→List (FR R):=bn 54 ⟨sU 0,oO 0,g 0,aT R (oO 0),false⟩ (Tf n)
noncomputable def oP (n:Nat):Nat→(i:Nat)→aj R.T (sU i)→Option (aj R.T (oO i))
 |0,_,_=>none
 |m+1,i,p=>bO E R n false (I6 n (oP n m)) aJ (ak1 i) (ak2 i) (sU i) (oO i) p
attribute [irreducible] oP
theorem aaN (n m:Nat) (p:aj R.T qX):oP n (m+1) 0 p=bO E R n false (I6 n (oP n m)) aJ I5 Tryz.f54 qX sS p:=by kernel_rfl
theorem aaO (n:Nat) (p:aj R.T qX):oP n 0 0 p=none:=by kernel_rfl
theorem ak3 (n:Nat) (p:aj R.T (sU 0)) (x:aj R.T (oO 0)) (h:oP n 0 0 p=some x):Pure E 54 (au R (sU 0) p) (aV (au R (oO 0) x)):=absurd ((aaO n p).symm.trans h) nofun
theorem ak4 (n m:Nat) (hk:aS E (I6 n (oP n m))) (p:aj R.T (sU 0)) (x:aj R.T (oO 0)) (h:oP n (m+1) 0 p=some x):Pure E 54 (au R (sU 0) p) (aV (au R (oO 0) x)):=
 bJ (args:=qX) (res:=sS) bF hk bG ((aaN n m p).symm.trans h) Tryz.func54 rfl rfl rfl rfl (by kernel_rfl)
theorem aaP (n:Nat):∀m,aS E (I6 n (oP n m))
 |0=>bC (f:=54) (r:=⟨sU 0,oO 0,oP n 0 0,aT R (oO 0),false⟩) (Tg n) (ak3 n)
 |m+1=>bC (f:=54) (r:=⟨sU 0,oO 0,oP n (m+1) 0,aT R (oO 0),false⟩) (Tg n) (ak4 n m (aaP n m))
@[irreducible] noncomputable def D6 (n m:Nat) (p:aj R.T qX):Option (aj R.T sS):=oP n m 0 p
@[irreducible] noncomputable def yL (n:Nat) (p:aj R.T qX):Option (aj R.T sS):=D6 n n p
theorem ak5 (n:Nat) (p:aj R.T qX) (x:aj R.T sS) (h:yL n p=some x):Pure E 54 (au R qX p) (aV (au R sS x)):=by
 unfold yL D6 at h
 cases n with
 |zero=>exact absurd ((aaO 0 p).symm.trans h) nofun
 |succ n=>exact bJ (args:=qX) (res:=sS) bF (aaP (n+1) n) bG ((aaN (n+1) n p).symm.trans h) Tryz.func54 rfl rfl rfl rfl (by kernel_rfl)
noncomputable def Ti (n:Nat):Nat→List (FR R):=bn 54 ⟨qX,sS,yL n,aT R sS,false⟩ (Tf n)
theorem aaQ (n:Nat):aS E (Ti n):=bC (Tg n) (ak5 n)
def ak6:bH:=⟨[],[]⟩
abbrev I7:List Sk:=[.d (.st 8)]
abbrev D7:List Sk:=[.d .bool]
@[irreducible] noncomputable def D8 (n:Nat) (p:aj R.T I7):Option (aj R.T D7):=bO E R n false (Ti n) aJ ak6 Tryz.f55 I7 D7 p
theorem ak7 (n:Nat) (p:aj R.T I7) (x:aj R.T D7) (h:D8 n p=some x):Pure E 55 (au R I7 p) (aV (au R D7 x)):=by
 unfold D8 at h
 exact bJ bF (aaQ n) bG h Tryz.func55 rfl rfl rfl rfl (by kernel_rfl)
noncomputable def NK (n:Nat):Nat→List (FR R):=bn 55 ⟨I7,D7,D8 n,aT R D7,false⟩ (Ti n)
theorem aaR (n:Nat):aS E (NK n):=bC (aaQ n) (ak7 n)
def NM:bH:=⟨[(5,⟨[2,5],[2],⟨[(6,.d (.int .i64))],[]⟩,[(.exit 0,⟨[],[]⟩),(.ret,⟨[(4,.d (.int .i64))],[]⟩)]⟩)],[]⟩
abbrev I8:List Sk:=[.d (.st 1),.d (.st 8)]
abbrev D9:List Sk:=[.d (.int .i64)]
@[irreducible] noncomputable def vZ (n:Nat) (p:aj R.T I8):Option (aj R.T D9):=bO E R n false (NK n) aJ NM Tryz.f18 I8 D9 p
theorem ak8 (n:Nat) (p:aj R.T I8) (x:aj R.T D9) (h:vZ n p=some x):Pure E 18 (au R I8 p) (aV (au R D9 x)):=by
 unfold vZ at h
 exact bJ bF (aaR n) bG h Tryz.func18 rfl rfl rfl rfl (by kernel_rfl)
noncomputable def NP (n:Nat):Nat→List (FR R):=bn 18 ⟨I8,D9,vZ n,aT R D9,false⟩ (NK n)
theorem ak9 (n:Nat):aS E (NP n):=bC (aaR n) (ak8 n)
def yM:bH:=⟨[(13,⟨[4,9,20,22],[4,9],⟨[(23,.d (.int .i64))],[]⟩,[(.exit 0,⟨[],[]⟩),(.ret,⟨[(8,.d .bool)],[]⟩)]⟩),
 (17,⟨[4,9,20,22,23],[4,9],⟨[(24,.d .bool),(25,.d (.int .i64))],[]⟩,[(.exit 2,⟨[(24,.d .bool)],[]⟩)]⟩)],[]⟩
abbrev NR:List Sk:=[.d (.st 1),.d (.slice (.st 13)),.d (.int .u8),.d (.int .u8)]
abbrev NS:List Sk:=[.d .bool]
@[irreducible] noncomputable def NT (n:Nat) (p:aj R.T NR):Option (aj R.T NS):=bO E R n false (NP n) aJ yM Tryz.f4 NR NS p
theorem ala (n:Nat) (p:aj R.T NR) (x:aj R.T NS) (h:NT n p=some x):Pure E 4 (au R NR p) (aV (au R NS x)):=by
 unfold NT at h
 exact bJ bF (ak9 n) bG h Tryz.func4 rfl rfl rfl rfl (by kernel_rfl)
end Sh
