/- Part of the proof of a law. -/
import Derived.KernelRfl
import Derived.Test.YtdcnajadcbedkaaGreatDoorS615
set_option linter.all false
set_option linter.unusedSimpArgs false
set_option linter.unusedSectionVars false
open Go Go.Proofs Aq
namespace Sh
set_option maxRecDepth 100000
def bY (i:Nat) (a r:List Sk) (F:aB R.T a→Option (aB R.T r)):Prop:=∀p x,F p=some x→Pure E i (bA R a p) (ko (bA R r x))
theorem okF {n:Nat} {om:Bool} {F:Nat→List (FR R)} {A:bH} {i:Nat} {fn:Func} {a r:List Sk} {p:aB R.T a} {x:aB R.T r} (hF:aY E F) (h:bU E R n om F aS A fn a r p=some x) (hf:E.P.funcs[i]? =some fn) (hok:(match fn.body with|some c=>decide (a.length≤fn.ntmps)&& iC fn.ntmps c&&qQ c|none=>false)=true)
 (ha:gN a=true:=by rfl) (hl:(bA R a p).length=a.length:=by rfl) (ho:E.om i=om:=by rfl) (hs:E.iV i=none:=by rfl):Pure E i (bA R a p) (ko (bA R r x)):=YD Ey hF Kq h hf ha hl ho hs hok
def ajf:bH:=⟨[],[]⟩
abbrev Kv:List Sk:=[]
abbrev EC:List Sk:=[.sg [.a .u32 8,.a .u8 64,.i .u64]]
@[irreducible] noncomputable def AX (n:Nat) (p:aB R.T Kv):Option (aB R.T EC):=bU E R n false (Rp n) aS ajf Tryz.f119 Kv EC p
theorem ajg (n:Nat):bY 119 Kv EC (AX n):=fun _ _ h=>by unfold AX at h;exact okF (Y2 n) h Tryz.func119 (by kernel_rfl)
noncomputable def Ru (n:Nat):Nat→List (FR R):=bC 119 ⟨Kv,EC,AX n,bI R EC,false⟩ (Rp n)
theorem Zd (n:Nat):aY E (Ru n):=bX (Y2 n) (ajg n)
def ajh:bH:=⟨[],[]⟩
abbrev Kw:List Sk:=[.d (.int .u32),.d (.int .i64)]
abbrev ED:List Sk:=[.d (.int .u32)]
@[irreducible] noncomputable def qp (n:Nat) (p:aB R.T Kw):Option (aB R.T ED):=bU E R n false (Ru n) aS ajh Tryz.f216 Kw ED p
theorem aji (n:Nat):bY 216 Kw ED (qp n):=fun _ _ h=>by unfold qp at h;exact okF (Zd n) h Tryz.func216 (by kernel_rfl)
noncomputable def EF (n:Nat):Nat→List (FR R):=bC 216 ⟨Kw,ED,qp n,bI R ED,false⟩ (Ru n)
theorem Ze (n:Nat):aY E (EF n):=bX (Zd n) (aji n)
def xS:bH:=⟨[(3,⟨[0,2,3],[2],⟨[(11,.d (.int .i64))],[(3,.sg [.a .u32 64])]⟩,[(.exit 0,⟨[],[(3,.sg [.a .u32 64])]⟩)]⟩),
 (7,⟨[0,2,3,4,11,22,23],[2],⟨[(24,.d (.int .i64))],[(3,.sg [.a .u32 64])]⟩,[(.exit 2,⟨[],[(3,.sg [.a .u32 64])]⟩)]⟩)],[]⟩
abbrev Ky:List Sk:=[.d (.slice (.int .u8))]
abbrev EG:List Sk:=[.sg [.a .u32 64]]
@[irreducible] noncomputable def AY (n:Nat) (p:aB R.T Ky):Option (aB R.T EG):=bU E R n false (EF n) aS xS Tryz.f198 Ky EG p
theorem ajj (n:Nat):bY 198 Ky EG (AY n):=fun _ _ h=>by unfold AY at h;exact okF (Ze n) h Tryz.func198 (by kernel_rfl)
noncomputable def Rv (n:Nat):Nat→List (FR R):=bC 198 ⟨Ky,EG,AY n,bI R EG,false⟩ (EF n)
theorem Zf (n:Nat):aY E (Rv n):=bX (Ze n) (ajj n)
def ajk:bH:=⟨[],[]⟩
abbrev Kz:List Sk:=[.d (.int .u32),.d (.int .i64),.d (.int .i64),.d (.int .i64)]
abbrev EH:List Sk:=[.d (.int .u32)]
@[irreducible] noncomputable def xU (n:Nat) (p:aB R.T Kz):Option (aB R.T EH):=bU E R n false (Rv n) aS ajk Tryz.f199 Kz EH p
theorem ajl (n:Nat):bY 199 Kz EH (xU n):=fun _ _ h=>by unfold xU at h;exact okF (Zf n) h Tryz.func199 (by kernel_rfl)
noncomputable def EI (n:Nat):Nat→List (FR R):=bC 199 ⟨Kz,EH,xU n,bI R EH,false⟩ (Rv n)
theorem Zg (n:Nat):aY E (EI n):=bX (Zf n) (ajl n)
def xV:bH:=⟨[(4,⟨[2,4,5,6,7,21],[2,4,5],⟨[(22,.d (.int .i64))],[(6,.sg [.a .u32 4]),(7,.sg [.a .u32 4])]⟩,[(.exit 0,⟨[],[(6,.sg [.a .u32 4]),(7,.sg [.a .u32 4])]⟩)]⟩),
 (12,⟨[2,4,6,7],[4,6,7],⟨[(94,.d (.int .i64))],[(2,.sg [.a .u32 8])]⟩,[(.exit 2,⟨[],[(2,.sg [.a .u32 8])]⟩)]⟩)],[]⟩
abbrev KC:List Sk:=[.sg [.a .u32 8],.d (.slice (.int .u8))]
abbrev EJ:List Sk:=[.sg [.a .u32 8]]
@[irreducible] noncomputable def AZ (n:Nat) (p:aB R.T KC):Option (aB R.T EJ):=bU E R n false (EI n) aS xV Tryz.f169 KC EJ p
theorem ajm (n:Nat):bY 169 KC EJ (AZ n):=fun _ _ h=>by unfold AZ at h;exact okF (Zg n) h Tryz.func169 (by kernel_rfl)
noncomputable def KE (n:Nat):Nat→List (FR R):=bC 169 ⟨KC,EJ,AZ n,bI R EJ,false⟩ (EI n)
theorem Zh (n:Nat):aY E (KE n):=bX (Zg n) (ajm n)
def KF:bH:=⟨[(1,⟨[2,4],[4],⟨[(1,.d .str)],[(2,.sg [.a .u32 8,.a .u8 64,.i .u64])]⟩,[(.exit 0,⟨[],[(2,.sg [.a .u32 8,.a .u8 64,.i .u64])]⟩)]⟩)],[]⟩
abbrev KG:List Sk:=[.sg [.a .u32 8,.a .u8 64,.i .u64],.d .str]
abbrev EK:List Sk:=[.sg [.a .u32 8,.a .u8 64,.i .u64]]
@[irreducible] noncomputable def uo (n:Nat) (p:aB R.T KG):Option (aB R.T EK):=bU E R n false (KE n) aS KF Tryz.f120 KG EK p
theorem ajn (n:Nat):bY 120 KG EK (uo n):=fun _ _ h=>by unfold uo at h;exact okF (Zh n) h Tryz.func120 (by kernel_rfl)
noncomputable def KH (n:Nat):Nat→List (FR R):=bC 120 ⟨KG,EK,uo n,bI R EK,false⟩ (KE n)
theorem Zi (n:Nat):aY E (KH n):=bX (Zh n) (ajn n)
def KI:bH:=⟨[(3,⟨[],[],⟨[(3,.d (.int .u64)),(4,.l (.own 21) (.int .u8))],[]⟩,[(.exit 0,⟨[(3,.d (.int .u64)),(4,.l (.own 21) (.int .u8))],[]⟩)]⟩)],[]⟩
abbrev A8:List Sk:=[.d (.int .i64)]
abbrev Rw:List Sk:=[.d (.slice (.int .u8))]
@[irreducible] noncomputable def uq (n:Nat) (p:aB R.T A8):Option (aB R.T Rw):=JA E R n false (KH n) aS KI Tryz.f90 A8 (.int .u8) p
theorem ajo (n:Nat) (p:aB R.T A8) (x:aB R.T Rw) (h:uq n p=some x):Pure E 90 (bA R A8 p) (.aj .sh (List.map (aG R (.int .u8)) x))∧l6 E 90 (bA R A8 p) (cB R (.int .u8)) (List.map (aG R (.int .u8)) x):=by
 unfold uq at h
 exact YE Ey (Zi n) Kq h Tryz.func90 rfl rfl rfl rfl (by kernel_rfl)
noncomputable def Rx (n:Nat):Nat→List (FR R):=bC 90 ⟨A8,[.d (.slice (.int .u8))],uq n,bI R Rw,true⟩ (KH n)
theorem Zj (n:Nat):aY E (Rx n):=YH (G:=uq n) (Zi n) (ajo n)
def ajp:bH:=⟨[],[]⟩
abbrev KJ:List Sk:=[.d .str]
abbrev EL:List Sk:=[.d (.slice (.int .u8))]
@[irreducible] noncomputable def A9 (n:Nat) (p:aB R.T KJ):Option (aB R.T EL):=bU E R n false (Rx n) aS ajp Tryz.f121 KJ EL p
theorem ajq (n:Nat):bY 121 KJ EL (A9 n):=fun _ _ h=>by unfold A9 at h;exact okF (Zj n) h Tryz.func121 (by kernel_rfl)
noncomputable def Ba (n:Nat):Nat→List (FR R):=bC 121 ⟨KJ,EL,A9 n,bI R EL,false⟩ (Rx n)
theorem Zk (n:Nat):aY E (Ba n):=bX (Zj n) (ajq n)
def rZ:bH:=⟨[(3,⟨[1,2,3],[1,2],⟨[(4,.l (.own 22) (.int .u8))],[]⟩,[(.exit 0,⟨[(4,.l (.own 22) (.int .u8))],[]⟩)]⟩),
 (6,⟨[1,2,3],[1,2],⟨[(4,.l (.own 22) (.int .u8)),(23,.d (.int .i64))],[]⟩,[(.exit 2,⟨[(4,.l (.own 22) (.int .u8))],[]⟩)]⟩),
 (13,⟨[1,2,6],[1,2],⟨[(40,.d (.int .i64))],[(6,.sg [.a .u8 32])]⟩,[(.exit 4,⟨[],[(6,.sg [.a .u8 32])]⟩)]⟩)],[]⟩
abbrev KL:List Sk:=[.sg [.a .u32 8,.a .u8 64,.i .u64]]
abbrev EM:List Sk:=[.sg [.a .u8 32]]
@[irreducible] noncomputable def Bb (n:Nat) (p:aB R.T KL):Option (aB R.T EM):=bU E R n false (Ba n) aS rZ Tryz.f122 KL EM p
theorem ajr (n:Nat):bY 122 KL EM (Bb n):=fun _ _ h=>by unfold Bb at h;exact okF (Zk n) h Tryz.func122 (by kernel_rfl)
noncomputable def KM (n:Nat):Nat→List (FR R):=bC 122 ⟨KL,EM,Bb n,bI R EM,false⟩ (Ba n)
theorem Zl (n:Nat):aY E (KM n):=bX (Zk n) (ajr n)
def KN:bH:=⟨[(3,⟨[4,5,15,16],[4],⟨[(17,.d (.int .i64))],[(5,.sg [.a .u32 8,.a .u8 64,.i .u64])]⟩,[(.exit 0,⟨[],[(5,.sg [.a .u32 8,.a .u8 64,.i .u64])]⟩)]⟩)],[]⟩
abbrev KO:List Sk:=[.d (.int .i64),.d (.slice .str)]
abbrev EN:List Sk:=[.d (.st 0)]
@[irreducible] noncomputable def xW (n:Nat) (p:aB R.T KO):Option (aB R.T EN):=bU E R n false (KM n) aS KN Tryz.f71 KO EN p
theorem Zm (n:Nat):bY 71 KO EN (xW n):=fun _ _ h=>by unfold xW at h;exact okF (Zl n) h Tryz.func71 (by kernel_rfl)
noncomputable def KP (n:Nat):Nat→List (FR R):=bC 71 ⟨KO,EN,xW n,bI R EN,false⟩ (KM n)
theorem Zn (n:Nat):aY E (KP n):=bX (Zl n) (Zm n)
def KQ:bH:=⟨[(5,⟨[],[],⟨[(3,.d (.int .u64)),(4,.l (.own 23) (.int .u8))],[]⟩,[(.exit 0,⟨[(3,.d (.int .u64)),(4,.l (.own 23) (.int .u8))],[]⟩)]⟩)],[]⟩
abbrev Bc:List Sk:=[.d (.int .i64)]
abbrev Ry:List Sk:=[.d (.slice (.int .u8))]
@[irreducible] noncomputable def uw (n:Nat) (p:aB R.T Bc):Option (aB R.T Ry):=JA E R n false (KP n) aS KQ Tryz.f93 Bc (.int .u8) p
theorem ajs (n:Nat) (p:aB R.T Bc) (x:aB R.T Ry) (h:uw n p=some x):Pure E 93 (bA R Bc p) (.aj .sh (List.map (aG R (.int .u8)) x))∧l6 E 93 (bA R Bc p) (cB R (.int .u8)) (List.map (aG R (.int .u8)) x):=by
 unfold uw at h
 exact YE Ey (Zn n) Kq h Tryz.func93 rfl rfl rfl rfl (by kernel_rfl)
noncomputable def Rz (n:Nat):Nat→List (FR R):=bC 93 ⟨Bc,[.d (.slice (.int .u8))],uw n,bI R Ry,true⟩ (KP n)
theorem Zo (n:Nat):aY E (Rz n):=YH (G:=uw n) (Zn n) (ajs n)
def ajt:bH:=⟨[],[]⟩
abbrev KR:List Sk:=[.d .str]
abbrev EO:List Sk:=[.d (.slice (.int .u8))]
@[irreducible] noncomputable def Bd (n:Nat) (p:aB R.T KR):Option (aB R.T EO):=bU E R n false (Rz n) aS ajt Tryz.f171 KR EO p
theorem aju (n:Nat):bY 171 KR EO (Bd n):=fun _ _ h=>by unfold Bd at h;exact okF (Zo n) h Tryz.func171 (by kernel_rfl)
noncomputable def KS (n:Nat):Nat→List (FR R):=bC 171 ⟨KR,EO,Bd n,bI R EO,false⟩ (Rz n)
theorem Zp (n:Nat):aY E (KS n):=bX (Zo n) (aju n)
def KT:bH:=⟨[(3,⟨[1],[],⟨[(5,.l (.own 22) (.int .u8)),(6,.d (.int .i64))],[]⟩,[(.exit 0,⟨[(5,.l (.own 22) (.int .u8))],[]⟩)]⟩)],[]⟩
abbrev KU:List Sk:=[.d (.int .i64),.d (.slice .str)]
abbrev EP:List Sk:=[.d (.slice (.int .u8))]
@[irreducible] noncomputable def Bf (n:Nat) (p:aB R.T KU):Option (aB R.T EP):=bU E R n false (KS n) aS KT Tryz.f124 KU EP p
theorem ajv (n:Nat):bY 124 KU EP (Bf n):=fun _ _ h=>by unfold Bf at h;exact okF (Zp n) h Tryz.func124 (by kernel_rfl)
noncomputable def ER (n:Nat):Nat→List (FR R):=bC 124 ⟨KU,EP,Bf n,bI R EP,false⟩ (KS n)
theorem Zq (n:Nat):aY E (ER n):=bX (Zp n) (ajv n)
def xX:bH:=⟨[(3,⟨[0],[],⟨[(3,.l (.own 8) (.int .u8))],[]⟩,[(.exit 0,⟨[(3,.l (.own 8) (.int .u8))],[]⟩)]⟩),
 (7,⟨[4],[],⟨[(3,.l (.own 8) (.int .u8)),(5,.d (.int .i64))],[]⟩,[(.exit 2,⟨[(3,.l (.own 8) (.int .u8))],[]⟩)]⟩)],[]⟩
abbrev KV:List Sk:=[.d (.slice (.int .u8))]
abbrev ES:List Sk:=[.d (.slice (.int .u8))]
@[irreducible] noncomputable def Bg (n:Nat) (p:aB R.T KV):Option (aB R.T ES):=bU E R n false (ER n) aS xX Tryz.f200 KV ES p
theorem ajw (n:Nat):bY 200 KV ES (Bg n):=fun _ _ h=>by unfold Bg at h;exact okF (Zq n) h Tryz.func200 (by kernel_rfl)
noncomputable def RA (n:Nat):Nat→List (FR R):=bC 200 ⟨KV,ES,Bg n,bI R ES,false⟩ (ER n)
theorem Zr (n:Nat):aY E (RA n):=bX (Zq n) (ajw n)
def ajx:bH:=⟨[],[]⟩
abbrev KW:List Sk:=[.d (.int .u32),.d (.int .i64)]
abbrev ET:List Sk:=[.d (.int .u32)]
@[irreducible] noncomputable def nA (n:Nat) (p:aB R.T KW):Option (aB R.T ET):=bU E R n false (RA n) aS ajx Tryz.f202 KW ET p
theorem ajy (n:Nat):bY 202 KW ET (nA n):=fun _ _ h=>by unfold nA at h;exact okF (Zr n) h Tryz.func202 (by kernel_rfl)
noncomputable def EU (n:Nat):Nat→List (FR R):=bC 202 ⟨KW,ET,nA n,bI R ET,false⟩ (RA n)
theorem Zt (n:Nat):aY E (EU n):=bX (Zr n) (ajy n)
def xY:bH:=⟨[(3,⟨[0,2,3],[2],⟨[(4,.d (.int .i64))],[(3,.sg [.a .u32 64])]⟩,[(.exit 0,⟨[],[(3,.sg [.a .u32 64])]⟩)]⟩),
 (7,⟨[2,3],[2],⟨[(5,.d (.int .i64))],[(3,.sg [.a .u32 64])]⟩,[(.exit 2,⟨[],[(3,.sg [.a .u32 64])]⟩)]⟩)],[]⟩
abbrev KX:List Sk:=[.d (.slice (.int .u8))]
abbrev EW:List Sk:=[.sg [.a .u32 64]]
@[irreducible] noncomputable def Bh (n:Nat) (p:aB R.T KX):Option (aB R.T EW):=bU E R n false (EU n) aS xY Tryz.f201 KX EW p
theorem ajz (n:Nat):bY 201 KX EW (Bh n):=fun _ _ h=>by unfold Bh at h;exact okF (Zt n) h Tryz.func201 (by kernel_rfl)
noncomputable def xZ (n:Nat):Nat→List (FR R):=bC 201 ⟨KX,EW,Bh n,bI R EW,false⟩ (EU n)
theorem Zu (n:Nat):aY E (xZ n):=bX (Zt n) (ajz n)
def o7:bH:=⟨[(4,⟨[2,3,4],[2],⟨[(5,.d (.int .i64))],[(3,.sg [.a .u32 8])]⟩,[(.exit 0,⟨[],[(3,.sg [.a .u32 8])]⟩)]⟩),
 (9,⟨[2,3,4,5,6,7],[2,3,6],⟨[(8,.d (.int .i64))],[(7,.sg [.a .u32 8])]⟩,[(.exit 2,⟨[],[(7,.sg [.a .u32 8])]⟩)]⟩),
 (15,⟨[2,3,4,5,7],[2,7],⟨[(11,.d (.int .i64))],[(3,.sg [.a .u32 8])]⟩,[(.exit 4,⟨[],[(3,.sg [.a .u32 8])]⟩)]⟩),
 (20,⟨[2,3,12],[2,3],⟨[(13,.d (.int .i64))],[(12,.sg [.a .u8 32])]⟩,[(.exit 6,⟨[],[(12,.sg [.a .u8 32])]⟩)]⟩)],[]⟩
abbrev KY:List Sk:=[.d (.slice (.int .u8))]
abbrev EX:List Sk:=[.sg [.a .u8 32]]
@[irreducible] noncomputable def Bj (n:Nat) (p:aB R.T KY):Option (aB R.T EX):=bU E R n false (xZ n) aS o7 Tryz.f170 KY EX p
theorem ajA (n:Nat):bY 170 KY EX (Bj n):=fun _ _ h=>by unfold Bj at h;exact okF (Zu n) h Tryz.func170 (by kernel_rfl)
noncomputable def RB (n:Nat):Nat→List (FR R):=bC 170 ⟨KY,EX,Bj n,bI R EX,false⟩ (xZ n)
theorem Zv (n:Nat):aY E (RB n):=bX (Zu n) (ajA n)
def ajB:bH:=⟨[],[]⟩
abbrev KZ:List Sk:=[.d (.slice (.int .u8))]
abbrev EY:List Sk:=[.d (.st 0)]
@[irreducible] noncomputable def Bl (n:Nat) (p:aB R.T KZ):Option (aB R.T EY):=bU E R n false (RB n) aS ajB Tryz.f123 KZ EY p
theorem ajC (n:Nat):bY 123 KZ EY (Bl n):=fun _ _ h=>by unfold Bl at h;exact okF (Zv n) h Tryz.func123 (by kernel_rfl)
noncomputable def RD (n:Nat):Nat→List (FR R):=bC 123 ⟨KZ,EY,Bl n,bI R EY,false⟩ (RB n)
theorem Zw (n:Nat):aY E (RD n):=bX (Zv n) (ajC n)
def ajD:bH:=⟨[],[]⟩
abbrev K4:List Sk:=[.d (.int .i64),.d (.slice .str)]
abbrev EZ:List Sk:=[.d (.st 0)]
@[irreducible] noncomputable def yg (n:Nat) (p:aB R.T K4):Option (aB R.T EZ):=bU E R n false (RD n) aS ajD Tryz.f72 K4 EZ p
theorem ajE (n:Nat):bY 72 K4 EZ (yg n):=fun _ _ h=>by unfold yg at h;exact okF (Zw n) h Tryz.func72 (by kernel_rfl)
noncomputable def K5 (n:Nat):Nat→List (FR R):=bC 72 ⟨K4,EZ,yg n,bI R EZ,false⟩ (RD n)
theorem Zx (n:Nat):aY E (K5 n):=bX (Zw n) (ajE n)
def K6:bH:=⟨[(3,⟨[1,11,12],[],⟨[(5,.l (.own 10) (.int .u8)),(13,.d (.int .i64))],[]⟩,[(.exit 0,⟨[(5,.l (.own 10) (.int .u8))],[]⟩)]⟩)],[]⟩
abbrev K7:List Sk:=[.d (.slice (.int .i64)),.fn 90 [] []]
abbrev E5:List Sk:=[.d (.slice (.int .u8))]
@[irreducible] noncomputable def E8 (n:Nat) (p:aB R.T K7):Option (aB R.T E5):=bU E R n false (K5 n) aS K6 Tryz.f117 K7 E5 p
theorem ajF (n:Nat):bY 117 K7 E5 (E8 n):=fun _ _ h=>by unfold E8 at h;exact okF (Zx n) h Tryz.func117 (by kernel_rfl)
noncomputable def RF (n:Nat):Nat→List (FR R):=bC 117 ⟨K7,E5,E8 n,bI R E5,false⟩ (K5 n)
theorem Zy (n:Nat):aY E (RF n):=bX (Zx n) (ajF n)
def ajG:bH:=⟨[],[]⟩
abbrev K8:List Sk:=[.d (.slice (.int .i64))]
abbrev E9:List Sk:=[.d (.slice (.int .u8))]
@[irreducible] noncomputable def Bn (n:Nat) (p:aB R.T K8):Option (aB R.T E9):=bU E R n false (RF n) aS ajG Tryz.f69 K8 E9 p
theorem ajH (n:Nat):bY 69 K8 E9 (Bn n):=fun _ _ h=>by unfold Bn at h;exact okF (Zy n) h Tryz.func69 (by kernel_rfl)
noncomputable def K9 (n:Nat):Nat→List (FR R):=bC 69 ⟨K8,E9,Bn n,bI R E9,false⟩ (RF n)
theorem Zz (n:Nat):aY E (K9 n):=bX (Zy n) (ajH n)
def La:bH:=⟨[(3,⟨[0],[],⟨[(3,.l (.own 7) (.int .u8)),(4,.d (.int .i64))],[]⟩,[(.exit 0,⟨[(3,.l (.own 7) (.int .u8))],[]⟩)]⟩)],[]⟩
abbrev Lb:List Sk:=[.d (.slice (.int .i64))]
abbrev Fa:List Sk:=[.d (.slice (.int .u8))]
@[irreducible] noncomputable def Bo (n:Nat) (p:aB R.T Lb):Option (aB R.T Fa):=bU E R n false (K9 n) aS La Tryz.f73 Lb Fa p
theorem ajI (n:Nat):bY 73 Lb Fa (Bo n):=fun _ _ h=>by unfold Bo at h;exact okF (Zz n) h Tryz.func73 (by kernel_rfl)
noncomputable def RG (n:Nat):Nat→List (FR R):=bC 73 ⟨Lb,Fa,Bo n,bI R Fa,false⟩ (K9 n)
theorem ZA (n:Nat):aY E (RG n):=bX (Zz n) (ajI n)
end Sh
