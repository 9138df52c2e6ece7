/- Part of the proof of a law. -/
import Derived.KernelRfl
import Derived.Test.YtdcnajadcbedkaaGreatDoorS622
set_option linter.all false
set_option linter.unusedSimpArgs false
set_option linter.unusedSectionVars false
open Go Go.Proofs Aq
namespace Sh
set_option maxRecDepth 100000
def alp:bH:=⟨[],[]⟩
abbrev Lu:List Sk:=[.d (.st 3)]
abbrev FC:List Sk:=[.d .bool]
@[irreducible] noncomputable def yA (n:Nat) (p:aB R.T Lu):Option (aB R.T FC):=bU E R n false (RG n) aS alp Tryz.f10 Lu FC p
theorem alq (n:Nat):bY 10 Lu FC (yA n):=fun _ _ h=>by unfold yA at h;exact okF (ZA n) h Tryz.func10 (by kernel_rfl)
noncomputable def Si (n:Nat):Nat→List (FR R):=bC 10 ⟨Lu,FC,yA n,bI R FC,false⟩ (RG n)
theorem aap (n:Nat):aY E (Si n):=bX (ZA n) (alq n)
def alr:bH:=⟨[],[]⟩
abbrev Lv:List Sk:=[.d (.st 4)]
abbrev FD:List Sk:=[.d .bool]
@[irreducible] noncomputable def yB (n:Nat) (p:aB R.T Lv):Option (aB R.T FD):=bU E R n false (Si n) aS alr Tryz.f57 Lv FD p
theorem als (n:Nat):bY 57 Lv FD (yB n):=fun _ _ h=>by unfold yB at h;exact okF (aap n) h Tryz.func57 (by kernel_rfl)
noncomputable def Sj (n:Nat):Nat→List (FR R):=bC 57 ⟨Lv,FD,yB n,bI R FD,false⟩ (Si n)
theorem aaq (n:Nat):aY E (Sj n):=bX (aap n) (als n)
def alu:bH:=⟨[],[]⟩
abbrev Lx:List Sk:=[.d (.st 4),.d (.st 4)]
abbrev FE:List Sk:=[.d .bool]
@[irreducible] noncomputable def BK (n:Nat) (p:aB R.T Lx):Option (aB R.T FE):=bU E R n false (Sj n) aS alu Tryz.f58 Lx FE p
theorem alv (n:Nat):bY 58 Lx FE (BK n):=fun _ _ h=>by unfold BK at h;exact okF (aaq n) h Tryz.func58 (by kernel_rfl)
noncomputable def LA (n:Nat):Nat→List (FR R):=bC 58 ⟨Lx,FE,BK n,bI R FE,false⟩ (Sj n)
theorem aar (n:Nat):aY E (LA n):=bX (aaq n) (alv n)
def LB:bH:=⟨[(2,⟨[0],[],⟨[(3,.d (.int .i64))],[]⟩,[(.exit 0,⟨[],[]⟩),(.ret,⟨[(2,.d .bool)],[]⟩)]⟩)],[]⟩
abbrev LC:List Sk:=[.d (.slice (.st 4))]
abbrev FH:List Sk:=[.d .bool]
@[irreducible] noncomputable def wu (n:Nat) (p:aB R.T LC):Option (aB R.T FH):=bU E R n false (LA n) aS LB Tryz.f11 LC FH p
theorem alx (n:Nat):bY 11 LC FH (wu n):=fun _ _ h=>by unfold wu at h;exact okF (aar n) h Tryz.func11 (by kernel_rfl)
noncomputable def aas (n:Nat):Nat→List (FR R):=bC 11 ⟨LC,FH,wu n,bI R FH,false⟩ (LA n)
theorem aly (n:Nat):aY E (aas n):=bX (aar n) (alx n)
abbrev FJ:List Sk:=[]
abbrev FK:List Sk:=[.d .bool]
@[irreducible] def wz (n:Nat) (p:aB R.T FJ):Option (aB R.T FK):=some true
theorem alz (n:Nat) (p:aB R.T FJ):wz n p=some true:=by unfold wz;rfl
theorem alA (n:Nat) (p:aB R.T FJ) (x:aB R.T FK) (h:wz n p=some x):Pure E 12 (bA R FJ p) (ko (bA R FK x)):=by
 unfold wz at h
 exact alo p x h
noncomputable def Sl (n:Nat):Nat→List (FR R):=bC 12 ⟨FJ,FK,wz n,bI R FK,false⟩ (aas n)
theorem aat (n:Nat):aY E (Sl n):=bX (aly n) (alA n)
def alB:bH:=⟨[],[]⟩
abbrev LD:List Sk:=[.d (.int .i64),.d (.int .i64),.d (.int .i64)]
abbrev FL:List Sk:=[.d .bool]
@[irreducible] noncomputable def pE (n:Nat) (p:aB R.T LD):Option (aB R.T FL):=bU E R n false (Sl n) aS alB Tryz.f66 LD FL p
theorem alC (n:Nat):bY 66 LD FL (pE n):=fun _ _ h=>by unfold pE at h;exact okF (aat n) h Tryz.func66 (by kernel_rfl)
noncomputable def aau (n:Nat):Nat→List (FR R):=bC 66 ⟨LD,FL,pE n,bI R FL,false⟩ (Sl n)
theorem alD (n:Nat):aY E (aau n):=bX (aat n) (alC n)
abbrev FN:List Sk:=[.d (.slice (.int .u8)),.d (.slice (.int .u8))]
abbrev FP:List Sk:=[.d (.int .i64)]
@[irreducible] def BL (n:Nat) (p:aB R.T FN):Option (aB R.T FP):=some (Ez p.1 p.2)
theorem alE (n:Nat) (p:aB R.T FN):BL n p=some (Ez p.1 p.2):=by unfold BL;rfl
theorem alF (n:Nat) (p:aB R.T FN) (x:aB R.T FP) (h:BL n p=some x):Pure E 116 (bA R FN p) (ko (bA R FP x)):=by
 unfold BL at h
 exact aiQ p x h
noncomputable def Sm (n:Nat):Nat→List (FR R):=bC 116 ⟨FN,FP,BL n,bI R FP,false⟩ (aau n)
theorem aav (n:Nat):aY E (Sm n):=bX (alD n) (alF n)
def alG:bH:=⟨[],[]⟩
abbrev LG:List Sk:=[.d (.st 0),.d (.st 0)]
abbrev FQ:List Sk:=[.d (.int .i64)]
@[irreducible] noncomputable def BM (n:Nat) (p:aB R.T LG):Option (aB R.T FQ):=bU E R n false (Sm n) aS alG Tryz.f67 LG FQ p
theorem alH (n:Nat):bY 67 LG FQ (BM n):=fun _ _ h=>by unfold BM at h;exact okF (aav n) h Tryz.func67 (by kernel_rfl)
noncomputable def LH (n:Nat):Nat→List (FR R):=bC 67 ⟨LG,FQ,BM n,bI R FQ,false⟩ (Sm n)
theorem aaw (n:Nat):aY E (LH n):=bX (aav n) (alH n)
def LJ:bH:=⟨[(2,⟨[1,7,8],[1],⟨[(9,.d (.int .i64))],[]⟩,[(.exit 0,⟨[],[]⟩),(.ret,⟨[(2,.d .bool)],[]⟩)]⟩)],[]⟩
abbrev LK:List Sk:=[.d (.st 3)]
abbrev FT:List Sk:=[.d .bool]
@[irreducible] noncomputable def sF (n:Nat) (p:aB R.T LK):Option (aB R.T FT):=bU E R n false (LH n) aS LJ Tryz.f16 LK FT p
theorem alI (n:Nat):bY 16 LK FT (sF n):=fun _ _ h=>by unfold sF at h;exact okF (aaw n) h Tryz.func16 (by kernel_rfl)
noncomputable def Sn (n:Nat):Nat→List (FR R):=bC 16 ⟨LK,FT,sF n,bI R FT,false⟩ (LH n)
theorem aax (n:Nat):aY E (Sn n):=bX (aaw n) (alI n)
def alJ:bH:=⟨[],[]⟩
abbrev LM:List Sk:=[.d (.int .i64),.d (.int .i64),.d (.int .i64)]
abbrev FU:List Sk:=[.d .bool]
@[irreducible] noncomputable def sG (n:Nat) (p:aB R.T LM):Option (aB R.T FU):=bU E R n false (Sn n) aS alJ Tryz.f114 LM FU p
theorem alK (n:Nat):bY 114 LM FU (sG n):=fun _ _ h=>by unfold sG at h;exact okF (aax n) h Tryz.func114 (by kernel_rfl)
noncomputable def Sq (n:Nat):Nat→List (FR R):=bC 114 ⟨LM,FU,sG n,bI R FU,false⟩ (Sn n)
theorem aay (n:Nat):aY E (Sq n):=bX (aax n) (alK n)
def alL:bH:=⟨[],[]⟩
abbrev LP:List Sk:=[.d (.st 4)]
abbrev FV:List Sk:=[.d .bool]
@[irreducible] noncomputable def BN (n:Nat) (p:aB R.T LP):Option (aB R.T FV):=bU E R n false (Sq n) aS alL Tryz.f60 LP FV p
theorem alM (n:Nat):bY 60 LP FV (BN n):=fun _ _ h=>by unfold BN at h;exact okF (aay n) h Tryz.func60 (by kernel_rfl)
noncomputable def aaz (n:Nat):Nat→List (FR R):=bC 60 ⟨LP,FV,BN n,bI R FV,false⟩ (Sq n)
theorem alN (n:Nat):aY E (aaz n):=bX (aay n) (alM n)
abbrev FX:List Sk:=[.d (.slice (.st 2))]
abbrev FY:List Sk:=[.d (.slice (.st 2))]
@[irreducible] def BO (n:Nat) (p:aB R.T FX):Option (aB R.T FY):=Ku p
theorem alO (n:Nat) (p:aB R.T FX):BO n p=Ku p:=by unfold BO;rfl
theorem alP (n:Nat) (p:aB R.T FX) (x:aB R.T FY) (h:BO n p=some x):Pure E 61 (bA R FX p) (ko (bA R FY x)):=by
 unfold BO at h
 exact aiT p x h
noncomputable def Sr (n:Nat):Nat→List (FR R):=bC 61 ⟨FX,FY,BO n,bI R FY,false⟩ (aaz n)
theorem aaA (n:Nat):aY E (Sr n):=bX (alN n) (alP n)
def alQ:bH:=⟨[],[]⟩
abbrev LQ:List Sk:=[.d (.st 3)]
abbrev FZ:List Sk:=[.fn 118 [] [.aJ [.d (.int .i64),.d (.int .i64),.d (.int .i64),.d (.int .i64),.d (.int .u8),.d (.int .u8),.d (.int .u8),.d (.int .u8),.d (.int .u8),.d (.int .u8),.d (.int .u8),.d (.int .u8),.d (.int .u8),.d (.int .u8),.d (.int .u8),.d (.int .u8),.d (.int .u8),.d (.int .u8),.d (.int .u8),.d (.int .u8),.d (.int .u8),.d (.int .u8),.d (.int .u8),.d (.int .u8),.d (.int .u8),.d (.int .u8),.d (.int .u8),.d (.int .u8),.d (.int .u8),.d (.int .u8),.d (.int .u8),.d (.int .u8),.d (.int .u8),.d (.int .u8),.d (.int .u8),.d (.int .u8),.d (.slice (.st 2)),.d (.int .u8),.d (.int .u8),.d (.int .u8),.d (.int .u8),.d (.int .u8),.d (.int .u8),.d (.int .u8),.d (.int .u8),.d (.int .u8),.d (.int .u8),.d (.int .u8),.d (.int .u8),.d (.int .u8),.d (.int .u8),.d (.int .u8),.d (.int .u8),.d (.int .i64),.d (.int .u8),.d (.int .u8),.d (.int .u8),.d (.int .u8),.d (.int .u8),.d (.int .u8),.d (.int .u8),.d (.int .u8),.d (.int .u8),.d (.int .u8),.d (.int .u8),.d (.int .u8),.d (.int .u8),.d (.int .u8),.d (.int .u8),.d (.int .u8),.d (.int .i64),.d (.int .i64),.d (.int .u8),.d (.int .u8),.d (.int .u8),.d (.int .u8),.d (.int .u8),.d (.int .u8),.d (.int .u8),.d (.int .u8),.d (.int .u8),.d (.int .u8),.d (.int .u8),.d (.int .u8),.d (.int .u8),.d (.int .u8),.d (.int .u8),.d (.int .u8)] 0]]
@[irreducible] noncomputable def F3 (n:Nat) (p:aB R.T LQ):Option (aB R.T FZ):=bU E R n false (Sr n) aS alQ Tryz.f70 LQ FZ p
theorem alR (n:Nat):bY 70 LQ FZ (F3 n):=fun _ _ h=>by unfold F3 at h;exact okF (aaA n) h Tryz.func70 (by kernel_rfl)
noncomputable def F4 (n:Nat):Nat→List (FR R):=bC 70 ⟨LQ,FZ,F3 n,bI R FZ,false⟩ (Sr n)
theorem aaB (n:Nat):aY E (F4 n):=bX (aaA n) (alR n)
def yC:bH:=⟨[(3,⟨[1,2,22,23],[1,2],⟨[(3,.l (.own 32) (.int .i64)),(24,.d (.int .i64))],[]⟩,[(.exit 0,⟨[(3,.l (.own 32) (.int .i64))],[]⟩)]⟩),
 (10,⟨[2,6],[2],⟨[],[(6,.cells [.l (.own 45) .str])]⟩,[(.normal,⟨[],[(6,.cells [.l (.own 45) .str])]⟩)]⟩)],[]⟩
abbrev LU:List Sk:=[.d (.st 3)]
abbrev F5:List Sk:=[.d (.st 0)]
@[irreducible] noncomputable def sH (n:Nat) (p:aB R.T LU):Option (aB R.T F5):=bU E R n false (F4 n) aS yC Tryz.f18 LU F5 p
theorem alS (n:Nat):bY 18 LU F5 (sH n):=fun _ _ h=>by unfold sH at h;exact okF (aaB n) h Tryz.func18 (by kernel_rfl)
noncomputable def Sv (n:Nat):Nat→List (FR R):=bC 18 ⟨LU,F5,sH n,bI R F5,false⟩ (F4 n)
theorem aaC (n:Nat):aY E (Sv n):=bX (aaB n) (alS n)
def alT:bH:=⟨[],[]⟩
abbrev LV:List Sk:=[.d (.st 3)]
abbrev F6:List Sk:=[.d .str]
@[irreducible] noncomputable def yD (n:Nat) (p:aB R.T LV):Option (aB R.T F6):=bU E R n false (Sv n) aS alT Tryz.f63 LV F6 p
theorem alU (n:Nat):bY 63 LV F6 (yD n):=fun _ _ h=>by unfold yD at h;exact okF (aaC n) h Tryz.func63 (by kernel_rfl)
noncomputable def F7 (n:Nat):Nat→List (FR R):=bC 63 ⟨LV,F6,yD n,bI R F6,false⟩ (Sv n)
theorem aaD (n:Nat):aY E (F7 n):=bX (aaC n) (alU n)
def yE:bH:=⟨[(3,⟨[0,9,10],[],⟨[(3,.d (.int .i64)),(11,.d (.int .i64))],[]⟩,[(.exit 0,⟨[(3,.d (.int .i64))],[]⟩)]⟩),
 (11,⟨[25,26],[],⟨[(6,.l (.own 24) .str),(27,.d (.int .i64))],[]⟩,[(.exit 2,⟨[(6,.l (.own 24) .str)],[]⟩)]⟩)],[]⟩
abbrev LW:List Sk:=[.d (.slice (.slice .str))]
abbrev F8:List Sk:=[.d (.slice .str)]
@[irreducible] noncomputable def BP (n:Nat) (p:aB R.T LW):Option (aB R.T F8):=bU E R n false (F7 n) aS yE Tryz.f115 LW F8 p
theorem alV (n:Nat):bY 115 LW F8 (BP n):=fun _ _ h=>by unfold BP at h;exact okF (aaD n) h Tryz.func115 (by kernel_rfl)
noncomputable def Sw (n:Nat):Nat→List (FR R):=bC 115 ⟨LW,F8,BP n,bI R F8,false⟩ (F7 n)
theorem aaE (n:Nat):aY E (Sw n):=bX (aaD n) (alV n)
def alW:bH:=⟨[],[]⟩
abbrev LX:List Sk:=[.d (.st 4),.d (.int .i64),.d (.slice .str)]
abbrev F9:List Sk:=[.d (.st 1)]
@[irreducible] noncomputable def yF (n:Nat) (p:aB R.T LX):Option (aB R.T F9):=bU E R n false (Sw n) aS alW Tryz.f62 LX F9 p
theorem alX (n:Nat):bY 62 LX F9 (yF n):=fun _ _ h=>by unfold yF at h;exact okF (aaE n) h Tryz.func62 (by kernel_rfl)
noncomputable def Sy (n:Nat):Nat→List (FR R):=bC 62 ⟨LX,F9,yF n,bI R F9,false⟩ (Sw n)
theorem aaF (n:Nat):aY E (Sy n):=bX (aaE n) (alX n)
def alY:bH:=⟨[],[]⟩
abbrev LY:List Sk:=[.d (.st 4),.d (.st 3)]
abbrev Ga:List Sk:=[.d (.st 3),.d (.int .i64)]
@[irreducible] noncomputable def BQ (n:Nat) (p:aB R.T LY):Option (aB R.T Ga):=bU E R n false (Sy n) aS alY Tryz.f13 LY Ga p
theorem alZ (n:Nat):bY 13 LY Ga (BQ n):=fun _ _ h=>by unfold BQ at h;exact okF (aaF n) h Tryz.func13 (by kernel_rfl)
noncomputable def Sz (n:Nat):Nat→List (FR R):=bC 13 ⟨LY,Ga,BQ n,bI R Ga,false⟩ (Sy n)
theorem aaG (n:Nat):aY E (Sz n):=bX (aaF n) (alZ n)
def al0:bH:=⟨[],[]⟩
abbrev LZ:List Sk:=[.d (.st 0),.d (.st 0)]
abbrev Gb:List Sk:=[.d .bool]
@[irreducible] noncomputable def BR (n:Nat) (p:aB R.T LZ):Option (aB R.T Gb):=bU E R n false (Sz n) aS al0 Tryz.f68 LZ Gb p
theorem al1 (n:Nat):bY 68 LZ Gb (BR n):=fun _ _ h=>by unfold BR at h;exact okF (aaG n) h Tryz.func68 (by kernel_rfl)
noncomputable def L6 (n:Nat):Nat→List (FR R):=bC 68 ⟨LZ,Gb,BR n,bI R Gb,false⟩ (Sz n)
theorem aaH (n:Nat):aY E (L6 n):=bX (aaG n) (al1 n)
def L8:bH:=⟨[(4,⟨[1],[1],⟨[(3,.d (.int .i64))],[]⟩,[(.exit 0,⟨[],[]⟩),(.ret,⟨[(2,.d .bool)],[]⟩)]⟩)],[]⟩
abbrev L9:List Sk:=[.d (.st 3)]
abbrev Gc:List Sk:=[.d .bool]
@[irreducible] noncomputable def sI (n:Nat) (p:aB R.T L9):Option (aB R.T Gc):=bU E R n false (L6 n) aS L8 Tryz.f17 L9 Gc p
theorem al2 (n:Nat):bY 17 L9 Gc (sI n):=fun _ _ h=>by unfold sI at h;exact okF (aaH n) h Tryz.func17 (by kernel_rfl)
noncomputable def Ma (n:Nat):Nat→List (FR R):=bC 17 ⟨L9,Gc,sI n,bI R Gc,false⟩ (L6 n)
theorem aaI (n:Nat):aY E (Ma n):=bX (aaH n) (al2 n)
def Mc:bH:=⟨[(4,⟨[1,2],[1,2],⟨[(3,.l (.own 49) (.int .i64)),(4,.l (.own 58) .str),(5,.d (.int .i64))],[]⟩,[(.exit 0,⟨[(3,.l (.own 49) (.int .i64)),(4,.l (.own 58) .str)],[]⟩)]⟩)],[]⟩
abbrev Md:List Sk:=[.d (.st 3)]
abbrev Gf:List Sk:=[.d (.st 0)]
@[irreducible] noncomputable def sJ (n:Nat) (p:aB R.T Md):Option (aB R.T Gf):=bU E R n false (Ma n) aS Mc Tryz.f19 Md Gf p
theorem al3 (n:Nat):bY 19 Md Gf (sJ n):=fun _ _ h=>by unfold sJ at h;exact okF (aaI n) h Tryz.func19 (by kernel_rfl)
noncomputable def SA (n:Nat):Nat→List (FR R):=bC 19 ⟨Md,Gf,sJ n,bI R Gf,false⟩ (Ma n)
theorem aaJ (n:Nat):aY E (SA n):=bX (aaI n) (al3 n)
def al4:bH:=⟨[],[]⟩
abbrev Me:List Sk:=[.d (.st 3)]
abbrev Gg:List Sk:=[.d (.slice .str)]
@[irreducible] noncomputable def yG (n:Nat) (p:aB R.T Me):Option (aB R.T Gg):=bU E R n false (SA n) aS al4 Tryz.f65 Me Gg p
theorem al5 (n:Nat):bY 65 Me Gg (yG n):=fun _ _ h=>by unfold yG at h;exact okF (aaJ n) h Tryz.func65 (by kernel_rfl)
noncomputable def SB (n:Nat):Nat→List (FR R):=bC 65 ⟨Me,Gg,yG n,bI R Gg,false⟩ (SA n)
theorem aaK (n:Nat):aY E (SB n):=bX (aaJ n) (al5 n)
def al6:bH:=⟨[],[]⟩
abbrev Mf:List Sk:=[.d (.st 4),.d (.int .i64),.d (.slice .str)]
abbrev Gh:List Sk:=[.d (.st 1)]
@[irreducible] noncomputable def yH (n:Nat) (p:aB R.T Mf):Option (aB R.T Gh):=bU E R n false (SB n) aS al6 Tryz.f64 Mf Gh p
theorem al7 (n:Nat):bY 64 Mf Gh (yH n):=fun _ _ h=>by unfold yH at h;exact okF (aaK n) h Tryz.func64 (by kernel_rfl)
noncomputable def SC (n:Nat):Nat→List (FR R):=bC 64 ⟨Mf,Gh,yH n,bI R Gh,false⟩ (SB n)
theorem aaL (n:Nat):aY E (SC n):=bX (aaK n) (al7 n)
def al8:bH:=⟨[],[]⟩
abbrev Mg:List Sk:=[.d (.st 4),.d (.st 3)]
abbrev Gi:List Sk:=[.d (.st 5)]
@[irreducible] noncomputable def BS (n:Nat) (p:aB R.T Mg):Option (aB R.T Gi):=bU E R n false (SC n) aS al8 Tryz.f14 Mg Gi p
theorem al9 (n:Nat):bY 14 Mg Gi (BS n):=fun _ _ h=>by unfold BS at h;exact okF (aaL n) h Tryz.func14 (by kernel_rfl)
noncomputable def Mh (n:Nat):Nat→List (FR R):=bC 14 ⟨Mg,Gi,BS n,bI R Gi,false⟩ (SC n)
theorem aaM (n:Nat):aY E (Mh n):=bX (aaL n) (al9 n)
def Mi:bH:=⟨[(4,⟨[2,3],[2,3],⟨[(5,.d (.int .i64))],[]⟩,[(.exit 0,⟨[],[]⟩),(.ret,⟨[(4,.d .bool)],[]⟩)]⟩)],[]⟩
abbrev Mj:List Sk:=[.d (.st 3),.d (.st 3)]
abbrev Gj:List Sk:=[.d .bool]
@[irreducible] noncomputable def BU (n:Nat) (p:aB R.T Mj):Option (aB R.T Gj):=bU E R n false (Mh n) aS Mi Tryz.f15 Mj Gj p
theorem ama (n:Nat):bY 15 Mj Gj (BU n):=fun _ _ h=>by unfold BU at h;exact okF (aaM n) h Tryz.func15 (by kernel_rfl)
noncomputable def SE (n:Nat):Nat→List (FR R):=bC 15 ⟨Mj,Gj,BU n,bI R Gj,false⟩ (Mh n)
theorem aaN (n:Nat):aY E (SE n):=bX (aaM n) (ama n)
def amb:bH:=⟨[],[]⟩
abbrev Mk:List Sk:=[.d (.int .i64)]
abbrev Gl:List Sk:=[.d .bool]
@[irreducible] noncomputable def cmp_isNaN_int (n:Nat) (p:aB R.T Mk):Option (aB R.T Gl):=bU E R n false (SE n) aS amb Tryz.f159 Mk Gl p
theorem amc (n:Nat):bY 159 Mk Gl (cmp_isNaN_int n):=fun _ _ h=>by unfold cmp_isNaN_int at h;exact okF (aaN n) h Tryz.func159 (by kernel_rfl)
noncomputable def SF (n:Nat):Nat→List (FR R):=bC 159 ⟨Mk,Gl,cmp_isNaN_int n,bI R Gl,false⟩ (SE n)
theorem aaO (n:Nat):aY E (SF n):=bX (aaN n) (amc n)
def amd:bH:=⟨[],[]⟩
abbrev Ml:List Sk:=[.d (.int .i64),.d (.int .i64)]
abbrev Gm:List Sk:=[.d (.int .i64)]
@[irreducible] noncomputable def cmp_Compare_int (n:Nat) (p:aB R.T Ml):Option (aB R.T Gm):=bU E R n false (SF n) aS amd Tryz.f111 Ml Gm p
theorem ame (n:Nat):bY 111 Ml Gm (cmp_Compare_int n):=fun _ _ h=>by unfold cmp_Compare_int at h;exact okF (aaO n) h Tryz.func111 (by kernel_rfl)
noncomputable def Mq (n:Nat):Nat→List (FR R):=bC 111 ⟨Ml,Gm,cmp_Compare_int n,bI R Gm,false⟩ (SF n)
theorem aaP (n:Nat):aY E (Mq n):=bX (aaO n) (ame n)
def Mr:bH:=⟨[(3,⟨[3,6,7],[],⟨[(8,.d (.int .i64))],[]⟩,[(.exit 0,⟨[],[]⟩),(.ret,⟨[(2,.d (.int .i64))],[]⟩)]⟩)],[]⟩
abbrev Ms:List Sk:=[.d (.slice (.int .i64))]
abbrev Gn:List Sk:=[.d (.int .i64)]
@[irreducible] noncomputable def BX (n:Nat) (p:aB R.T Ms):Option (aB R.T Gn):=bU E R n false (Mq n) aS Mr Tryz.f217 Ms Gn p
theorem amf (n:Nat):bY 217 Ms Gn (BX n):=fun _ _ h=>by unfold BX at h;exact okF (aaP n) h Tryz.func217 (by kernel_rfl)
noncomputable def SG (n:Nat):Nat→List (FR R):=bC 217 ⟨Ms,Gn,BX n,bI R Gn,false⟩ (Mq n)
theorem aaQ (n:Nat):aY E (SG n):=bX (aaP n) (amf n)
def amg:bH:=⟨[],[]⟩
abbrev Mt:List Sk:=[.d (.st 4),.d (.st 4)]
abbrev Gp:List Sk:=[.d (.int .i64)]
@[irreducible] noncomputable def Gq (n:Nat) (p:aB R.T Mt):Option (aB R.T Gp):=bU E R n false (SG n) aS amg Tryz.f205 Mt Gp p
theorem amh (n:Nat):bY 205 Mt Gp (Gq n):=fun _ _ h=>by unfold Gq at h;exact okF (aaQ n) h Tryz.func205 (by kernel_rfl)
noncomputable def SH (n:Nat):Nat→List (FR R):=bC 205 ⟨Mt,Gp,Gq n,bI R Gp,false⟩ (SG n)
theorem aaR (n:Nat):aY E (SH n):=bX (aaQ n) (amh n)
def ami:bH:=⟨[],[]⟩
abbrev Mv:List Sk:=[.d (.st 4),.d (.st 4)]
abbrev Gr:List Sk:=[.d (.int .i64)]
@[irreducible] noncomputable def yI (n:Nat) (p:aB R.T Mv):Option (aB R.T Gr):=bU E R n false (SH n) aS ami Tryz.f204 Mv Gr p
theorem amj (n:Nat):bY 204 Mv Gr (yI n):=fun _ _ h=>by unfold yI at h;exact okF (aaR n) h Tryz.func204 (by kernel_rfl)
noncomputable def Mw (n:Nat):Nat→List (FR R):=bC 204 ⟨Mv,Gr,yI n,bI R Gr,false⟩ (SH n)
theorem aaS (n:Nat):aY E (Mw n):=bX (aaR n) (amj n)
def Mx:bH:=⟨[(3,⟨[0,2,4,8],[4],⟨[(9,.d (.int .i64)),(10,.d (.int .i64))],[]⟩,[(.exit 0,⟨[(9,.d (.int .i64))],[]⟩)]⟩)],[]⟩
abbrev MB:List Sk:=[.d (.slice (.st 4)),.d (.st 4),.fn 204 [] []]
abbrev Gs:List Sk:=[.d (.int .i64),.d .bool]
@[irreducible] noncomputable def Gt (n:Nat) (p:aB R.T MB):Option (aB R.T Gs):=bU E R n false (Mw n) aS Mx Tryz.f203 MB Gs p
theorem amk (n:Nat):bY 203 MB Gs (Gt n):=fun _ _ h=>by unfold Gt at h;exact okF (aaS n) h Tryz.func203 (by kernel_rfl)
noncomputable def SI (n:Nat):Nat→List (FR R):=bC 203 ⟨MB,Gs,Gt n,bI R Gs,false⟩ (Mw n)
theorem aaT (n:Nat):aY E (SI n):=bX (aaS n) (amk n)
def aml:bH:=⟨[],[]⟩
abbrev MC:List Sk:=[.d (.slice (.st 4)),.d (.int .i64),.d (.int .i64)]
abbrev Gu:List Sk:=[.d (.int .i64),.d .bool]
@[irreducible] noncomputable def BZ (n:Nat) (p:aB R.T MC):Option (aB R.T Gu):=bU E R n false (SI n) aS aml Tryz.f172 MC Gu p
theorem amm (n:Nat):bY 172 MC Gu (BZ n):=fun _ _ h=>by unfold BZ at h;exact okF (aaT n) h Tryz.func172 (by kernel_rfl)
noncomputable def SK (n:Nat):Nat→List (FR R):=bC 172 ⟨MC,Gu,BZ n,bI R Gu,false⟩ (SI n)
theorem aaU (n:Nat):aY E (SK n):=bX (aaT n) (amm n)
def amn:bH:=⟨[],[]⟩
abbrev ME:List Sk:=[.d (.slice (.st 4)),.d (.int .i64),.d (.int .i64)]
abbrev Gv:List Sk:=[.d (.st 4),.d (.int .i64)]
@[irreducible] noncomputable def Ca (n:Nat) (p:aB R.T ME):Option (aB R.T Gv):=bU E R n false (SK n) aS amn Tryz.f125 ME Gv p
theorem amo (n:Nat):bY 125 ME Gv (Ca n):=fun _ _ h=>by unfold Ca at h;exact okF (aaU n) h Tryz.func125 (by kernel_rfl)
noncomputable def SL (n:Nat):Nat→List (FR R):=bC 125 ⟨ME,Gv,Ca n,bI R Gv,false⟩ (SK n)
theorem aaV (n:Nat):aY E (SL n):=bX (aaU n) (amo n)
def amq:bH:=⟨[],[]⟩
abbrev MF:List Sk:=[.d (.st 4),.d (.int .i64)]
abbrev Gw:List Sk:=[.d .bool]
@[irreducible] noncomputable def Cb (n:Nat) (p:aB R.T MF):Option (aB R.T Gw):=bU E R n false (SL n) aS amq Tryz.f126 MF Gw p
theorem amr (n:Nat):bY 126 MF Gw (Cb n):=fun _ _ h=>by unfold Cb at h;exact okF (aaV n) h Tryz.func126 (by kernel_rfl)
noncomputable def SN (n:Nat):Nat→List (FR R):=bC 126 ⟨MF,Gw,Cb n,bI R Gw,false⟩ (SL n)
theorem aaW (n:Nat):aY E (SN n):=bX (aaV n) (amr n)
def ams:bH:=⟨[],[]⟩
abbrev MG:List Sk:=[.d (.slice (.st 4)),.d (.int .i64),.d (.int .i64),.d (.int .i64),.d (.slice .str),.d (.st 1),.d (.int .i64)]
abbrev Gx:List Sk:=[.d (.int .i64)]
@[irreducible] noncomputable def Cc (n:Nat) (p:aB R.T MG):Option (aB R.T Gx):=bU E R n false (SN n) aS ams Tryz.f74 MG Gx p
theorem amt (n:Nat):bY 74 MG Gx (Cc n):=fun _ _ h=>by unfold Cc at h;exact okF (aaW n) h Tryz.func74 (by kernel_rfl)
noncomputable def SQ (n:Nat):Nat→List (FR R):=bC 74 ⟨MG,Gx,Cc n,bI R Gx,false⟩ (SN n)
theorem aaX (n:Nat):aY E (SQ n):=bX (aaW n) (amt n)
def amu:bH:=⟨[],[]⟩
abbrev MH:List Sk:=[.d (.slice (.st 4)),.d (.st 3)]
abbrev Gy:List Sk:=[.d (.int .i64)]
@[irreducible] noncomputable def wB (n:Nat) (p:aB R.T MH):Option (aB R.T Gy):=bU E R n false (SQ n) aS amu Tryz.f20 MH Gy p
theorem amv (n:Nat):bY 20 MH Gy (wB n):=fun _ _ h=>by unfold wB at h;exact okF (aaX n) h Tryz.func20 (by kernel_rfl)
noncomputable def MI (n:Nat):Nat→List (FR R):=bC 20 ⟨MH,Gy,wB n,bI R Gy,false⟩ (SQ n)
theorem aaY (n:Nat):aY E (MI n):=bX (aaX n) (amv n)
def MJ:bH:=⟨[(2,⟨[0,1,2,6],[],⟨[(7,.d (.int .i64))],[(6,.st 19)]⟩,[(.exit 0,⟨[],[(6,.st 19)]⟩),(.ret,⟨[],[(6,.st 19)]⟩)]⟩)],[]⟩
abbrev MK:List Sk:=[.d (.slice (.st 4)),.d (.int .i64),.d (.int .i64)]
abbrev Gz:List Sk:=[.d (.st 19)]
@[irreducible] noncomputable def Ce (n:Nat) (p:aB R.T MK):Option (aB R.T Gz):=bU E R n false (MI n) aS MJ Tryz.f127 MK Gz p
theorem amw (n:Nat):bY 127 MK Gz (Ce n):=fun _ _ h=>by unfold Ce at h;exact okF (aaY n) h Tryz.func127 (by kernel_rfl)
noncomputable def SS (n:Nat):Nat→List (FR R):=bC 127 ⟨MK,Gz,Ce n,bI R Gz,false⟩ (MI n)
theorem aaZ (n:Nat):aY E (SS n):=bX (aaY n) (amw n)
def amx:bH:=⟨[],[]⟩
abbrev ML:List Sk:=[.d (.st 4),.d (.int .i64)]
abbrev GA:List Sk:=[.d .bool]
@[irreducible] noncomputable def Cg (n:Nat) (p:aB R.T ML):Option (aB R.T GA):=bU E R n false (SS n) aS amx Tryz.f128 ML GA p
theorem amy (n:Nat):bY 128 ML GA (Cg n):=fun _ _ h=>by unfold Cg at h;exact okF (aaZ n) h Tryz.func128 (by kernel_rfl)
noncomputable def SV (n:Nat):Nat→List (FR R):=bC 128 ⟨ML,GA,Cg n,bI R GA,false⟩ (SS n)
theorem aa0 (n:Nat):aY E (SV n):=bX (aaZ n) (amy n)
def amA:bH:=⟨[],[]⟩
abbrev MN:List Sk:=[.d (.slice (.st 4)),.d (.int .i64),.d (.int .i64),.d (.int .i64),.d (.slice .str),.d (.st 1),.d (.int .i64)]
abbrev GD:List Sk:=[.d (.int .i64)]
@[irreducible] noncomputable def Ch (n:Nat) (p:aB R.T MN):Option (aB R.T GD):=bU E R n false (SV n) aS amA Tryz.f75 MN GD p
theorem amB (n:Nat):bY 75 MN GD (Ch n):=fun _ _ h=>by unfold Ch at h;exact okF (aa0 n) h Tryz.func75 (by kernel_rfl)
noncomputable def SX (n:Nat):Nat→List (FR R):=bC 75 ⟨MN,GD,Ch n,bI R GD,false⟩ (SV n)
theorem aa1 (n:Nat):aY E (SX n):=bX (aa0 n) (amB n)
def amC:bH:=⟨[],[]⟩
abbrev MO:List Sk:=[.d (.slice (.st 4)),.d (.st 3)]
abbrev GH:List Sk:=[.d (.int .i64)]
@[irreducible] noncomputable def sK (n:Nat) (p:aB R.T MO):Option (aB R.T GH):=bU E R n false (SX n) aS amC Tryz.f21 MO GH p
theorem amD (n:Nat):bY 21 MO GH (sK n):=fun _ _ h=>by unfold sK at h;exact okF (aa1 n) h Tryz.func21 (by kernel_rfl)
noncomputable def SY (n:Nat):Nat→List (FR R):=bC 21 ⟨MO,GH,sK n,bI R GH,false⟩ (SX n)
theorem aa2 (n:Nat):aY E (SY n):=bX (aa1 n) (amD n)
def amE:bH:=⟨[],[]⟩
abbrev MP:List Sk:=[.d (.st 3),.d (.st 3)]
abbrev GI:List Sk:=[.d (.int .i64)]
@[irreducible] noncomputable def yJ (n:Nat) (p:aB R.T MP):Option (aB R.T GI):=bU E R n false (SY n) aS amE Tryz.f22 MP GI p
theorem amF (n:Nat):bY 22 MP GI (yJ n):=fun _ _ h=>by unfold yJ at h;exact okF (aa2 n) h Tryz.func22 (by kernel_rfl)
noncomputable def S9 (n:Nat):Nat→List (FR R):=bC 22 ⟨MP,GI,yJ n,bI R GI,false⟩ (SY n)
theorem aa3 (n:Nat):aY E (S9 n):=bX (aa2 n) (amF n)
def amG:bH:=⟨[],[]⟩
abbrev MQ:List Sk:=[.d (.st 3),.d (.st 3)]
abbrev GJ:List Sk:=[.d (.int .i64)]
@[irreducible] noncomputable def yK (n:Nat) (p:aB R.T MQ):Option (aB R.T GJ):=bU E R n false (S9 n) aS amG Tryz.f23 MQ GJ p
theorem amH (n:Nat):bY 23 MQ GJ (yK n):=fun _ _ h=>by unfold yK at h;exact okF (aa3 n) h Tryz.func23 (by kernel_rfl)
noncomputable def Ta (n:Nat):Nat→List (FR R):=bC 23 ⟨MQ,GJ,yK n,bI R GJ,false⟩ (S9 n)
theorem aa4 (n:Nat):aY E (Ta n):=bX (aa3 n) (amH n)
def amI:bH:=⟨[],[]⟩
abbrev MR:List Sk:=[.d (.slice (.st 4)),.d (.st 3),.d (.st 3)]
abbrev GK:List Sk:=[.d .bool]
@[irreducible] noncomputable def yL (n:Nat) (p:aB R.T MR):Option (aB R.T GK):=bU E R n false (Ta n) aS amI Tryz.f76 MR GK p
theorem amJ (n:Nat):bY 76 MR GK (yL n):=fun _ _ h=>by unfold yL at h;exact okF (aa4 n) h Tryz.func76 (by kernel_rfl)
noncomputable def Tc (n:Nat):Nat→List (FR R):=bC 76 ⟨MR,GK,yL n,bI R GK,false⟩ (Ta n)
theorem aa5 (n:Nat):aY E (Tc n):=bX (aa4 n) (amJ n)
def amK:bH:=⟨[],[]⟩
abbrev MU:List Sk:=[.d (.slice (.st 4)),.d (.st 3),.d (.st 3)]
abbrev GL:List Sk:=[.d .bool]
@[irreducible] noncomputable def Ci (n:Nat) (p:aB R.T MU):Option (aB R.T GL):=bU E R n false (Tc n) aS amK Tryz.f24 MU GL p
theorem amL (n:Nat):bY 24 MU GL (Ci n):=fun _ _ h=>by unfold Ci at h;exact okF (aa5 n) h Tryz.func24 (by kernel_rfl)
noncomputable def Td (n:Nat):Nat→List (FR R):=bC 24 ⟨MU,GL,Ci n,bI R GL,false⟩ (Tc n)
theorem aa6 (n:Nat):aY E (Td n):=bX (aa5 n) (amL n)
def amM:bH:=⟨[],[]⟩
abbrev MV:List Sk:=[.d (.slice (.st 4)),.d (.st 3),.d (.st 3)]
abbrev GN:List Sk:=[.d .bool]
@[irreducible] noncomputable def Cj (n:Nat) (p:aB R.T MV):Option (aB R.T GN):=bU E R n false (Td n) aS amM Tryz.f25 MV GN p
theorem amN (n:Nat):bY 25 MV GN (Cj n):=fun _ _ h=>by unfold Cj at h;exact okF (aa6 n) h Tryz.func25 (by kernel_rfl)
noncomputable def Te (n:Nat):Nat→List (FR R):=bC 25 ⟨MV,GN,Cj n,bI R GN,false⟩ (Td n)
theorem aa7 (n:Nat):aY E (Te n):=bX (aa6 n) (amN n)
def amO:bH:=⟨[],[]⟩
abbrev MW:List Sk:=[.d (.slice (.st 4)),.d (.st 3),.d (.st 3)]
abbrev GQ:List Sk:=[.d .bool]
@[irreducible] noncomputable def Ck (n:Nat) (p:aB R.T MW):Option (aB R.T GQ):=bU E R n false (Te n) aS amO Tryz.f26 MW GQ p
theorem amP (n:Nat):bY 26 MW GQ (Ck n):=fun _ _ h=>by unfold Ck at h;exact okF (aa7 n) h Tryz.func26 (by kernel_rfl)
noncomputable def Tf (n:Nat):Nat→List (FR R):=bC 26 ⟨MW,GQ,Ck n,bI R GQ,false⟩ (Te n)
theorem aa8 (n:Nat):aY E (Tf n):=bX (aa7 n) (amP n)
def amQ:bH:=⟨[],[]⟩
abbrev MX:List Sk:=[.d (.slice (.st 4)),.d (.st 3),.d (.st 3)]
abbrev GR:List Sk:=[.d .bool]
@[irreducible] noncomputable def Cm (n:Nat) (p:aB R.T MX):Option (aB R.T GR):=bU E R n false (Tf n) aS amQ Tryz.f27 MX GR p
theorem amR (n:Nat):bY 27 MX GR (Cm n):=fun _ _ h=>by unfold Cm at h;exact okF (aa8 n) h Tryz.func27 (by kernel_rfl)
noncomputable def aa9 (n:Nat):Nat→List (FR R):=bC 27 ⟨MX,GR,Cm n,bI R GR,false⟩ (Tf n)
theorem amS (n:Nat):aY E (aa9 n):=bX (aa8 n) (amR n)
def amT:bH:=⟨[],[]⟩
abbrev Tg:List Sk:=[.d (.st 3),.d (.st 3),.d (.st 4),.d (.slice (.st 4))]
abbrev Ti:List Sk:=[.d .bool]
@[irreducible] noncomputable def MZ (n:Nat) (p:aB R.T Tg):Option (aB R.T Ti):=bU E R n false (aa9 n) aS amT Tryz.f3 Tg Ti p
theorem amU (n:Nat):bY 3 Tg Ti (MZ n):=fun _ _ h=>by unfold MZ at h;exact okF (amS n) h Tryz.func3 (by kernel_rfl)
end Sh
