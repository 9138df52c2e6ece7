/- Part of the proof of a law. -/
import Derived.KernelRfl
import Derived.Test.YtdcnajadcbedkaaGreatDoorS822
set_option linter.all false
set_option linter.unusedSimpArgs false
set_option linter.unusedSectionVars false
open Go Go.Proofs Aq
namespace Sh
set_option maxRecDepth 100000
def alm:bC:=⟨[],[]⟩
abbrev Ky:List Sk:=[.d (.st 3)]
abbrev Ew:List Sk:=[.d .bool]
@[irreducible] noncomputable def A8 (n:Nat) (p:aA R.T Ky):Option (aA R.T Ew):=bG E R n false (QJ n) aQ alm Tryz.f10 Ky Ew p
theorem aln (n:Nat):bK 10 Ky Ew (A8 n):=fun _ _ h=>by unfold A8 at h;exact okF (Zu n) h Tryz.func10 (by kernel_rfl)
noncomputable def Ra (n:Nat):Nat→List (FR R):=bn 10 ⟨Ky,Ew,A8 n,bB R Ew,false⟩ (QJ n)
theorem aak (n:Nat):aW E (Ra n):=bI (Zu n) (aln n)
def alo:bC:=⟨[],[]⟩
abbrev Kz:List Sk:=[.d (.st 4)]
abbrev Ey:List Sk:=[.d .bool]
@[irreducible] noncomputable def Rb (n:Nat) (p:aA R.T Kz):Option (aA R.T Ey):=bG E R n false (Ra n) aQ alo Tryz.f57 Kz Ey p
theorem alp (n:Nat):bK 57 Kz Ey (Rb n):=fun _ _ h=>by unfold Rb at h;exact okF (aak n) h Tryz.func57 (by kernel_rfl)
noncomputable def Rc (n:Nat):Nat→List (FR R):=bn 57 ⟨Kz,Ey,Rb n,bB R Ey,false⟩ (Ra n)
theorem aal (n:Nat):aW E (Rc n):=bI (aak n) (alp n)
def alq:bC:=⟨[],[]⟩
abbrev KC:List Sk:=[.d (.st 4),.d (.st 4)]
abbrev Ez:List Sk:=[.d .bool]
@[irreducible] noncomputable def Rf (n:Nat) (p:aA R.T KC):Option (aA R.T Ez):=bG E R n false (Rc n) aQ alq Tryz.f58 KC Ez p
theorem alr (n:Nat):bK 58 KC Ez (Rf n):=fun _ _ h=>by unfold Rf at h;exact okF (aal n) h Tryz.func58 (by kernel_rfl)
noncomputable def Rh (n:Nat):Nat→List (FR R):=bn 58 ⟨KC,Ez,Rf n,bB R Ez,false⟩ (Rc n)
theorem aam (n:Nat):aW E (Rh n):=bI (aal n) (alr n)
def als:bC:=⟨[(2,⟨[0],[],⟨[(3,.d (.int .i64))],[]⟩,[(.exit 0,⟨[],[]⟩),(.ret,⟨[(2,.d .bool)],[]⟩)]⟩)],[]⟩
abbrev KE:List Sk:=[.d (.slice (.st 4))]
abbrev EA:List Sk:=[.d .bool]
@[irreducible] noncomputable def Ri (n:Nat) (p:aA R.T KE):Option (aA R.T EA):=bG E R n false (Rh n) aQ als Tryz.f11 KE EA p
theorem alu (n:Nat):bK 11 KE EA (Ri n):=fun _ _ h=>by unfold Ri at h;exact okF (aam n) h Tryz.func11 (by kernel_rfl)
noncomputable def aan (n:Nat):Nat→List (FR R):=bn 11 ⟨KE,EA,Ri n,bB R EA,false⟩ (Rh n)
theorem alv (n:Nat):aW E (aan n):=bI (aam n) (alu n)
abbrev EB:List Sk:=[]
abbrev EC:List Sk:=[.d .bool]
@[irreducible] def uj (n:Nat) (p:aA R.T EB):Option (aA R.T EC):=some true
theorem aao (n:Nat) (p:aA R.T EB):uj n p=some true:=by unfold uj;rfl
theorem alx (n:Nat) (p:aA R.T EB) (x:aA R.T EC) (h:uj n p=some x):Pure E 12 (bD R EB p) (kU (bD R EC x)):=by
 unfold uj at h
 exact alk p x h
noncomputable def Rj (n:Nat):Nat→List (FR R):=bn 12 ⟨EB,EC,uj n,bB R EC,false⟩ (aan n)
theorem aap (n:Nat):aW E (Rj n):=bI (alv n) (alx n)
def aly:bC:=⟨[],[]⟩
abbrev KF:List Sk:=[.d (.int .i64),.d (.int .i64),.d (.int .i64)]
abbrev ED:List Sk:=[.d .bool]
@[irreducible] noncomputable def oW (n:Nat) (p:aA R.T KF):Option (aA R.T ED):=bG E R n false (Rj n) aQ aly Tryz.f66 KF ED p
theorem alz (n:Nat):bK 66 KF ED (oW n):=fun _ _ h=>by unfold oW at h;exact okF (aap n) h Tryz.func66 (by kernel_rfl)
noncomputable def aaq (n:Nat):Nat→List (FR R):=bn 66 ⟨KF,ED,oW n,bB R ED,false⟩ (Rj n)
theorem alA (n:Nat):aW E (aaq n):=bI (aap n) (alz n)
abbrev EF:List Sk:=[.d (.slice (.int .u8)),.d (.slice (.int .u8))]
abbrev EG:List Sk:=[.d (.int .i64)]
@[irreducible] def A9 (n:Nat) (p:aA R.T EF):Option (aA R.T EG):=some (Dw p.1 p.2)
theorem alB (n:Nat) (p:aA R.T EF):A9 n p=some (Dw p.1 p.2):=by unfold A9;rfl
theorem alC (n:Nat) (p:aA R.T EF) (x:aA R.T EG) (h:A9 n p=some x):Pure E 116 (bD R EF p) (kU (bD R EG x)):=by
 unfold A9 at h
 exact aiM p x h
noncomputable def Rk (n:Nat):Nat→List (FR R):=bn 116 ⟨EF,EG,A9 n,bB R EG,false⟩ (aaq n)
theorem aar (n:Nat):aW E (Rk n):=bI (alA n) (alC n)
def alD:bC:=⟨[],[]⟩
abbrev KG:List Sk:=[.d (.st 0),.d (.st 0)]
abbrev EH:List Sk:=[.d (.int .i64)]
@[irreducible] noncomputable def Ba (n:Nat) (p:aA R.T KG):Option (aA R.T EH):=bG E R n false (Rk n) aQ alD Tryz.f67 KG EH p
theorem alE (n:Nat):bK 67 KG EH (Ba n):=fun _ _ h=>by unfold Ba at h;exact okF (aar n) h Tryz.func67 (by kernel_rfl)
noncomputable def KH (n:Nat):Nat→List (FR R):=bn 67 ⟨KG,EH,Ba n,bB R EH,false⟩ (Rk n)
theorem aas (n:Nat):aW E (KH n):=bI (aar n) (alE n)
def KI:bC:=⟨[(2,⟨[1,7,8],[1],⟨[(9,.d (.int .i64))],[]⟩,[(.exit 0,⟨[],[]⟩),(.ret,⟨[(2,.d .bool)],[]⟩)]⟩)],[]⟩
abbrev KJ:List Sk:=[.d (.st 3)]
abbrev EI:List Sk:=[.d .bool]
@[irreducible] noncomputable def vO (n:Nat) (p:aA R.T KJ):Option (aA R.T EI):=bG E R n false (KH n) aQ KI Tryz.f16 KJ EI p
theorem alF (n:Nat):bK 16 KJ EI (vO n):=fun _ _ h=>by unfold vO at h;exact okF (aas n) h Tryz.func16 (by kernel_rfl)
noncomputable def Rm (n:Nat):Nat→List (FR R):=bn 16 ⟨KJ,EI,vO n,bB R EI,false⟩ (KH n)
theorem aat (n:Nat):aW E (Rm n):=bI (aas n) (alF n)
def alG:bC:=⟨[],[]⟩
abbrev KL:List Sk:=[.d (.int .i64),.d (.int .i64),.d (.int .i64)]
abbrev EJ:List Sk:=[.d .bool]
@[irreducible] noncomputable def Rn (n:Nat) (p:aA R.T KL):Option (aA R.T EJ):=bG E R n false (Rm n) aQ alG Tryz.f114 KL EJ p
theorem alH (n:Nat):bK 114 KL EJ (Rn n):=fun _ _ h=>by unfold Rn at h;exact okF (aat n) h Tryz.func114 (by kernel_rfl)
noncomputable def Ro (n:Nat):Nat→List (FR R):=bn 114 ⟨KL,EJ,Rn n,bB R EJ,false⟩ (Rm n)
theorem aau (n:Nat):aW E (Ro n):=bI (aat n) (alH n)
def alI:bC:=⟨[],[]⟩
abbrev KM:List Sk:=[.d (.st 4)]
abbrev EK:List Sk:=[.d .bool]
@[irreducible] noncomputable def Rp (n:Nat) (p:aA R.T KM):Option (aA R.T EK):=bG E R n false (Ro n) aQ alI Tryz.f60 KM EK p
theorem alJ (n:Nat):bK 60 KM EK (Rp n):=fun _ _ h=>by unfold Rp at h;exact okF (aau n) h Tryz.func60 (by kernel_rfl)
noncomputable def aav (n:Nat):Nat→List (FR R):=bn 60 ⟨KM,EK,Rp n,bB R EK,false⟩ (Ro n)
theorem alK (n:Nat):aW E (aav n):=bI (aau n) (alJ n)
abbrev KN:List Sk:=[.d (.slice (.st 2))]
abbrev EL:List Sk:=[.d (.slice (.st 2))]
@[irreducible] def Rq (n:Nat) (p:aA R.T KN):Option (aA R.T EL):=Qv p
theorem alL (n:Nat) (p:aA R.T KN) (x:aA R.T EL) (h:Rq n p=some x):Pure E 61 (bD R KN p) (kU (bD R EL x)):=by
 unfold Rq at h
 exact aiP p x h
noncomputable def Rs (n:Nat):Nat→List (FR R):=bn 61 ⟨KN,EL,Rq n,bB R EL,false⟩ (aav n)
theorem aaw (n:Nat):aW E (Rs n):=bI (alK n) (alL n)
def alM:bC:=⟨[],[]⟩
abbrev KO:List Sk:=[.d (.st 3)]
abbrev EM:List Sk:=[.fn 118 [] [.aI [.d (.int .i64),.d (.int .i64),.d (.int .i64),.d (.int .i64),.d (.int .u8),.d (.int .u8),.d (.int .u8),.d (.int .u8),.d (.int .u8),.d (.int .u8),.d (.int .u8),.d (.int .u8),.d (.int .u8),.d (.int .u8),.d (.int .u8),.d (.int .u8),.d (.int .u8),.d (.int .u8),.d (.int .u8),.d (.int .u8),.d (.int .u8),.d (.int .u8),.d (.int .u8),.d (.int .u8),.d (.int .u8),.d (.int .u8),.d (.int .u8),.d (.int .u8),.d (.int .u8),.d (.int .u8),.d (.int .u8),.d (.int .u8),.d (.int .u8),.d (.int .u8),.d (.int .u8),.d (.int .u8),.d (.slice (.st 2)),.d (.int .u8),.d (.int .u8),.d (.int .u8),.d (.int .u8),.d (.int .u8),.d (.int .u8),.d (.int .u8),.d (.int .u8),.d (.int .u8),.d (.int .u8),.d (.int .u8),.d (.int .u8),.d (.int .u8),.d (.int .u8),.d (.int .u8),.d (.int .u8),.d (.int .i64),.d (.int .u8),.d (.int .u8),.d (.int .u8),.d (.int .u8),.d (.int .u8),.d (.int .u8),.d (.int .u8),.d (.int .u8),.d (.int .u8),.d (.int .u8),.d (.int .u8),.d (.int .u8),.d (.int .u8),.d (.int .u8),.d (.int .u8),.d (.int .u8),.d (.int .i64),.d (.int .i64),.d (.int .u8),.d (.int .u8),.d (.int .u8),.d (.int .u8),.d (.int .u8),.d (.int .u8),.d (.int .u8),.d (.int .u8),.d (.int .u8),.d (.int .u8),.d (.int .u8),.d (.int .u8),.d (.int .u8),.d (.int .u8),.d (.int .u8),.d (.int .u8)] 0]]
@[irreducible] noncomputable def EN (n:Nat) (p:aA R.T KO):Option (aA R.T EM):=bG E R n false (Rs n) aQ alM Tryz.f70 KO EM p
theorem alN (n:Nat):bK 70 KO EM (EN n):=fun _ _ h=>by unfold EN at h;exact okF (aaw n) h Tryz.func70 (by kernel_rfl)
noncomputable def EO (n:Nat):Nat→List (FR R):=bn 70 ⟨KO,EM,EN n,bB R EM,false⟩ (Rs n)
theorem aax (n:Nat):aW E (EO n):=bI (aaw n) (alN n)
def xO:bC:=⟨[(3,⟨[1,2,22,23],[1,2],⟨[(3,.l (.own 32) (.int .i64)),(24,.d (.int .i64))],[]⟩,[(.exit 0,⟨[(3,.l (.own 32) (.int .i64))],[]⟩)]⟩),
 (10,⟨[2,6],[2],⟨[],[(6,.cells [.l (.own 45) .str])]⟩,[(.normal,⟨[],[(6,.cells [.l (.own 45) .str])]⟩)]⟩)],[]⟩
abbrev KP:List Sk:=[.d (.st 3)]
abbrev EP:List Sk:=[.d (.st 0)]
@[irreducible] noncomputable def Bb (n:Nat) (p:aA R.T KP):Option (aA R.T EP):=bG E R n false (EO n) aQ xO Tryz.f18 KP EP p
theorem alO (n:Nat):bK 18 KP EP (Bb n):=fun _ _ h=>by unfold Bb at h;exact okF (aax n) h Tryz.func18 (by kernel_rfl)
noncomputable def Rt (n:Nat):Nat→List (FR R):=bn 18 ⟨KP,EP,Bb n,bB R EP,false⟩ (EO n)
theorem aay (n:Nat):aW E (Rt n):=bI (aax n) (alO n)
def alP:bC:=⟨[],[]⟩
abbrev KQ:List Sk:=[.d (.st 3)]
abbrev ER:List Sk:=[.d .str]
@[irreducible] noncomputable def Ru (n:Nat) (p:aA R.T KQ):Option (aA R.T ER):=bG E R n false (Rt n) aQ alP Tryz.f63 KQ ER p
theorem alQ (n:Nat):bK 63 KQ ER (Ru n):=fun _ _ h=>by unfold Ru at h;exact okF (aay n) h Tryz.func63 (by kernel_rfl)
noncomputable def Rv (n:Nat):Nat→List (FR R):=bn 63 ⟨KQ,ER,Ru n,bB R ER,false⟩ (Rt n)
theorem aaz (n:Nat):aW E (Rv n):=bI (aay n) (alQ n)
def alR:bC:=⟨[(3,⟨[0,9,10],[],⟨[(3,.d (.int .i64)),(11,.d (.int .i64))],[]⟩,[(.exit 0,⟨[(3,.d (.int .i64))],[]⟩)]⟩),
 (11,⟨[25,26],[],⟨[(6,.l (.own 24) .str),(27,.d (.int .i64))],[]⟩,[(.exit 2,⟨[(6,.l (.own 24) .str)],[]⟩)]⟩)],[]⟩
abbrev KR:List Sk:=[.d (.slice (.slice .str))]
abbrev ES:List Sk:=[.d (.slice .str)]
@[irreducible] noncomputable def Rw (n:Nat) (p:aA R.T KR):Option (aA R.T ES):=bG E R n false (Rv n) aQ alR Tryz.f115 KR ES p
theorem alS (n:Nat):bK 115 KR ES (Rw n):=fun _ _ h=>by unfold Rw at h;exact okF (aaz n) h Tryz.func115 (by kernel_rfl)
noncomputable def Rx (n:Nat):Nat→List (FR R):=bn 115 ⟨KR,ES,Rw n,bB R ES,false⟩ (Rv n)
theorem aaA (n:Nat):aW E (Rx n):=bI (aaz n) (alS n)
def alT:bC:=⟨[],[]⟩
abbrev KS:List Sk:=[.d (.st 4),.d (.int .i64),.d (.slice .str)]
abbrev ET:List Sk:=[.d (.st 1)]
@[irreducible] noncomputable def Ry (n:Nat) (p:aA R.T KS):Option (aA R.T ET):=bG E R n false (Rx n) aQ alT Tryz.f62 KS ET p
theorem alU (n:Nat):bK 62 KS ET (Ry n):=fun _ _ h=>by unfold Ry at h;exact okF (aaA n) h Tryz.func62 (by kernel_rfl)
noncomputable def Rz (n:Nat):Nat→List (FR R):=bn 62 ⟨KS,ET,Ry n,bB R ET,false⟩ (Rx n)
theorem aaB (n:Nat):aW E (Rz n):=bI (aaA n) (alU n)
def alV:bC:=⟨[],[]⟩
abbrev KT:List Sk:=[.d (.st 4),.d (.st 3)]
abbrev EU:List Sk:=[.d (.st 3),.d (.int .i64)]
@[irreducible] noncomputable def RA (n:Nat) (p:aA R.T KT):Option (aA R.T EU):=bG E R n false (Rz n) aQ alV Tryz.f13 KT EU p
theorem alW (n:Nat):bK 13 KT EU (RA n):=fun _ _ h=>by unfold RA at h;exact okF (aaB n) h Tryz.func13 (by kernel_rfl)
noncomputable def RB (n:Nat):Nat→List (FR R):=bn 13 ⟨KT,EU,RA n,bB R EU,false⟩ (Rz n)
theorem aaC (n:Nat):aW E (RB n):=bI (aaB n) (alW n)
def alX:bC:=⟨[],[]⟩
abbrev KU:List Sk:=[.d (.st 0),.d (.st 0)]
abbrev EW:List Sk:=[.d .bool]
@[irreducible] noncomputable def Bc (n:Nat) (p:aA R.T KU):Option (aA R.T EW):=bG E R n false (RB n) aQ alX Tryz.f68 KU EW p
theorem alY (n:Nat):bK 68 KU EW (Bc n):=fun _ _ h=>by unfold Bc at h;exact okF (aaC n) h Tryz.func68 (by kernel_rfl)
noncomputable def KV (n:Nat):Nat→List (FR R):=bn 68 ⟨KU,EW,Bc n,bB R EW,false⟩ (RB n)
theorem aaD (n:Nat):aW E (KV n):=bI (aaC n) (alY n)
def KW:bC:=⟨[(4,⟨[1],[1],⟨[(3,.d (.int .i64))],[]⟩,[(.exit 0,⟨[],[]⟩),(.ret,⟨[(2,.d .bool)],[]⟩)]⟩)],[]⟩
abbrev KX:List Sk:=[.d (.st 3)]
abbrev EX:List Sk:=[.d .bool]
@[irreducible] noncomputable def vP (n:Nat) (p:aA R.T KX):Option (aA R.T EX):=bG E R n false (KV n) aQ KW Tryz.f17 KX EX p
theorem alZ (n:Nat):bK 17 KX EX (vP n):=fun _ _ h=>by unfold vP at h;exact okF (aaD n) h Tryz.func17 (by kernel_rfl)
noncomputable def KY (n:Nat):Nat→List (FR R):=bn 17 ⟨KX,EX,vP n,bB R EX,false⟩ (KV n)
theorem aaE (n:Nat):aW E (KY n):=bI (aaD n) (alZ n)
def KZ:bC:=⟨[(4,⟨[1,2],[1,2],⟨[(3,.l (.own 49) (.int .i64)),(4,.l (.own 58) .str),(5,.d (.int .i64))],[]⟩,[(.exit 0,⟨[(3,.l (.own 49) (.int .i64)),(4,.l (.own 58) .str)],[]⟩)]⟩)],[]⟩
abbrev K4:List Sk:=[.d (.st 3)]
abbrev EY:List Sk:=[.d (.st 0)]
@[irreducible] noncomputable def Bd (n:Nat) (p:aA R.T K4):Option (aA R.T EY):=bG E R n false (KY n) aQ KZ Tryz.f19 K4 EY p
theorem al0 (n:Nat):bK 19 K4 EY (Bd n):=fun _ _ h=>by unfold Bd at h;exact okF (aaE n) h Tryz.func19 (by kernel_rfl)
noncomputable def RD (n:Nat):Nat→List (FR R):=bn 19 ⟨K4,EY,Bd n,bB R EY,false⟩ (KY n)
theorem aaF (n:Nat):aW E (RD n):=bI (aaE n) (al0 n)
def al1:bC:=⟨[],[]⟩
abbrev K5:List Sk:=[.d (.st 3)]
abbrev EZ:List Sk:=[.d (.slice .str)]
@[irreducible] noncomputable def RF (n:Nat) (p:aA R.T K5):Option (aA R.T EZ):=bG E R n false (RD n) aQ al1 Tryz.f65 K5 EZ p
theorem al2 (n:Nat):bK 65 K5 EZ (RF n):=fun _ _ h=>by unfold RF at h;exact okF (aaF n) h Tryz.func65 (by kernel_rfl)
noncomputable def RG (n:Nat):Nat→List (FR R):=bn 65 ⟨K5,EZ,RF n,bB R EZ,false⟩ (RD n)
theorem aaG (n:Nat):aW E (RG n):=bI (aaF n) (al2 n)
def al3:bC:=⟨[],[]⟩
abbrev K6:List Sk:=[.d (.st 4),.d (.int .i64),.d (.slice .str)]
abbrev E5:List Sk:=[.d (.st 1)]
@[irreducible] noncomputable def RH (n:Nat) (p:aA R.T K6):Option (aA R.T E5):=bG E R n false (RG n) aQ al3 Tryz.f64 K6 E5 p
theorem al4 (n:Nat):bK 64 K6 E5 (RH n):=fun _ _ h=>by unfold RH at h;exact okF (aaG n) h Tryz.func64 (by kernel_rfl)
noncomputable def RI (n:Nat):Nat→List (FR R):=bn 64 ⟨K6,E5,RH n,bB R E5,false⟩ (RG n)
theorem aaH (n:Nat):aW E (RI n):=bI (aaG n) (al4 n)
def al5:bC:=⟨[],[]⟩
abbrev K7:List Sk:=[.d (.st 4),.d (.st 3)]
abbrev E8:List Sk:=[.d (.st 5)]
@[irreducible] noncomputable def RJ (n:Nat) (p:aA R.T K7):Option (aA R.T E8):=bG E R n false (RI n) aQ al5 Tryz.f14 K7 E8 p
theorem al6 (n:Nat):bK 14 K7 E8 (RJ n):=fun _ _ h=>by unfold RJ at h;exact okF (aaH n) h Tryz.func14 (by kernel_rfl)
noncomputable def K8 (n:Nat):Nat→List (FR R):=bn 14 ⟨K7,E8,RJ n,bB R E8,false⟩ (RI n)
theorem aaI (n:Nat):aW E (K8 n):=bI (aaH n) (al6 n)
def K9:bC:=⟨[(4,⟨[2,3],[2,3],⟨[(5,.d (.int .i64))],[]⟩,[(.exit 0,⟨[],[]⟩),(.ret,⟨[(4,.d .bool)],[]⟩)]⟩)],[]⟩
abbrev La:List Sk:=[.d (.st 3),.d (.st 3)]
abbrev E9:List Sk:=[.d .bool]
@[irreducible] noncomputable def vQ (n:Nat) (p:aA R.T La):Option (aA R.T E9):=bG E R n false (K8 n) aQ K9 Tryz.f15 La E9 p
theorem al7 (n:Nat):bK 15 La E9 (vQ n):=fun _ _ h=>by unfold vQ at h;exact okF (aaI n) h Tryz.func15 (by kernel_rfl)
noncomputable def RL (n:Nat):Nat→List (FR R):=bn 15 ⟨La,E9,vQ n,bB R E9,false⟩ (K8 n)
theorem aaJ (n:Nat):aW E (RL n):=bI (aaI n) (al7 n)
def al8:bC:=⟨[],[]⟩
abbrev Lb:List Sk:=[.d (.int .i64)]
abbrev Fa:List Sk:=[.d .bool]
@[irreducible] noncomputable def cmp_isNaN_int (n:Nat) (p:aA R.T Lb):Option (aA R.T Fa):=bG E R n false (RL n) aQ al8 Tryz.f159 Lb Fa p
theorem al9 (n:Nat):bK 159 Lb Fa (cmp_isNaN_int n):=fun _ _ h=>by unfold cmp_isNaN_int at h;exact okF (aaJ n) h Tryz.func159 (by kernel_rfl)
noncomputable def RN (n:Nat):Nat→List (FR R):=bn 159 ⟨Lb,Fa,cmp_isNaN_int n,bB R Fa,false⟩ (RL n)
theorem aaK (n:Nat):aW E (RN n):=bI (aaJ n) (al9 n)
def ama:bC:=⟨[],[]⟩
abbrev Lc:List Sk:=[.d (.int .i64),.d (.int .i64)]
abbrev Fb:List Sk:=[.d (.int .i64)]
@[irreducible] noncomputable def cmp_Compare_int (n:Nat) (p:aA R.T Lc):Option (aA R.T Fb):=bG E R n false (RN n) aQ ama Tryz.f111 Lc Fb p
theorem amb (n:Nat):bK 111 Lc Fb (cmp_Compare_int n):=fun _ _ h=>by unfold cmp_Compare_int at h;exact okF (aaK n) h Tryz.func111 (by kernel_rfl)
noncomputable def RP (n:Nat):Nat→List (FR R):=bn 111 ⟨Lc,Fb,cmp_Compare_int n,bB R Fb,false⟩ (RN n)
theorem aaL (n:Nat):aW E (RP n):=bI (aaK n) (amb n)
def amc:bC:=⟨[(3,⟨[3,6,7],[],⟨[(8,.d (.int .i64))],[]⟩,[(.exit 0,⟨[],[]⟩),(.ret,⟨[(2,.d (.int .i64))],[]⟩)]⟩)],[]⟩
abbrev Ld:List Sk:=[.d (.slice (.int .i64))]
abbrev Fe:List Sk:=[.d (.int .i64)]
@[irreducible] noncomputable def RQ (n:Nat) (p:aA R.T Ld):Option (aA R.T Fe):=bG E R n false (RP n) aQ amc Tryz.f217 Ld Fe p
theorem amd (n:Nat):bK 217 Ld Fe (RQ n):=fun _ _ h=>by unfold RQ at h;exact okF (aaL n) h Tryz.func217 (by kernel_rfl)
noncomputable def RU (n:Nat):Nat→List (FR R):=bn 217 ⟨Ld,Fe,RQ n,bB R Fe,false⟩ (RP n)
theorem aaM (n:Nat):aW E (RU n):=bI (aaL n) (amd n)
def ame:bC:=⟨[],[]⟩
abbrev Le:List Sk:=[.d (.st 4),.d (.st 4)]
abbrev Fg:List Sk:=[.d (.int .i64)]
@[irreducible] noncomputable def RV (n:Nat) (p:aA R.T Le):Option (aA R.T Fg):=bG E R n false (RU n) aQ ame Tryz.f205 Le Fg p
theorem amf (n:Nat):bK 205 Le Fg (RV n):=fun _ _ h=>by unfold RV at h;exact okF (aaM n) h Tryz.func205 (by kernel_rfl)
noncomputable def RX (n:Nat):Nat→List (FR R):=bn 205 ⟨Le,Fg,RV n,bB R Fg,false⟩ (RU n)
theorem aaN (n:Nat):aW E (RX n):=bI (aaM n) (amf n)
def amg:bC:=⟨[],[]⟩
abbrev Lf:List Sk:=[.d (.st 4),.d (.st 4)]
abbrev Fh:List Sk:=[.d (.int .i64)]
@[irreducible] noncomputable def RY (n:Nat) (p:aA R.T Lf):Option (aA R.T Fh):=bG E R n false (RX n) aQ amg Tryz.f204 Lf Fh p
theorem amh (n:Nat):bK 204 Lf Fh (RY n):=fun _ _ h=>by unfold RY at h;exact okF (aaN n) h Tryz.func204 (by kernel_rfl)
noncomputable def RZ (n:Nat):Nat→List (FR R):=bn 204 ⟨Lf,Fh,RY n,bB R Fh,false⟩ (RX n)
theorem aaO (n:Nat):aW E (RZ n):=bI (aaN n) (amh n)
def ami:bC:=⟨[(3,⟨[0,2,4,8],[4],⟨[(9,.d (.int .i64)),(10,.d (.int .i64))],[]⟩,[(.exit 0,⟨[(9,.d (.int .i64))],[]⟩)]⟩)],[]⟩
abbrev Lg:List Sk:=[.d (.slice (.st 4)),.d (.st 4),.fn 204 [] []]
abbrev Fj:List Sk:=[.d (.int .i64),.d .bool]
@[irreducible] noncomputable def R3 (n:Nat) (p:aA R.T Lg):Option (aA R.T Fj):=bG E R n false (RZ n) aQ ami Tryz.f203 Lg Fj p
theorem amj (n:Nat):bK 203 Lg Fj (R3 n):=fun _ _ h=>by unfold R3 at h;exact okF (aaO n) h Tryz.func203 (by kernel_rfl)
noncomputable def R4 (n:Nat):Nat→List (FR R):=bn 203 ⟨Lg,Fj,R3 n,bB R Fj,false⟩ (RZ n)
theorem aaP (n:Nat):aW E (R4 n):=bI (aaO n) (amj n)
def amk:bC:=⟨[],[]⟩
abbrev Lh:List Sk:=[.d (.slice (.st 4)),.d (.int .i64),.d (.int .i64)]
abbrev Fp:List Sk:=[.d (.int .i64),.d .bool]
@[irreducible] noncomputable def R5 (n:Nat) (p:aA R.T Lh):Option (aA R.T Fp):=bG E R n false (R4 n) aQ amk Tryz.f172 Lh Fp p
theorem aml (n:Nat):bK 172 Lh Fp (R5 n):=fun _ _ h=>by unfold R5 at h;exact okF (aaP n) h Tryz.func172 (by kernel_rfl)
noncomputable def R6 (n:Nat):Nat→List (FR R):=bn 172 ⟨Lh,Fp,R5 n,bB R Fp,false⟩ (R4 n)
theorem aaQ (n:Nat):aW E (R6 n):=bI (aaP n) (aml n)
def amm:bC:=⟨[],[]⟩
abbrev Li:List Sk:=[.d (.slice (.st 4)),.d (.int .i64),.d (.int .i64)]
abbrev Fq:List Sk:=[.d (.st 4),.d (.int .i64)]
@[irreducible] noncomputable def R7 (n:Nat) (p:aA R.T Li):Option (aA R.T Fq):=bG E R n false (R6 n) aQ amm Tryz.f125 Li Fq p
theorem amn (n:Nat):bK 125 Li Fq (R7 n):=fun _ _ h=>by unfold R7 at h;exact okF (aaQ n) h Tryz.func125 (by kernel_rfl)
noncomputable def R8 (n:Nat):Nat→List (FR R):=bn 125 ⟨Li,Fq,R7 n,bB R Fq,false⟩ (R6 n)
theorem aaR (n:Nat):aW E (R8 n):=bI (aaQ n) (amn n)
def amo:bC:=⟨[],[]⟩
abbrev Lj:List Sk:=[.d (.st 4),.d (.int .i64)]
abbrev Fu:List Sk:=[.d .bool]
@[irreducible] noncomputable def R9 (n:Nat) (p:aA R.T Lj):Option (aA R.T Fu):=bG E R n false (R8 n) aQ amo Tryz.f126 Lj Fu p
theorem amq (n:Nat):bK 126 Lj Fu (R9 n):=fun _ _ h=>by unfold R9 at h;exact okF (aaR n) h Tryz.func126 (by kernel_rfl)
noncomputable def Sb (n:Nat):Nat→List (FR R):=bn 126 ⟨Lj,Fu,R9 n,bB R Fu,false⟩ (R8 n)
theorem aaS (n:Nat):aW E (Sb n):=bI (aaR n) (amq n)
def amr:bC:=⟨[],[]⟩
abbrev Ll:List Sk:=[.d (.slice (.st 4)),.d (.int .i64),.d (.int .i64),.d (.int .i64),.d (.slice .str),.d (.st 1),.d (.int .i64)]
abbrev Fv:List Sk:=[.d (.int .i64)]
@[irreducible] noncomputable def Sc (n:Nat) (p:aA R.T Ll):Option (aA R.T Fv):=bG E R n false (Sb n) aQ amr Tryz.f74 Ll Fv p
theorem ams (n:Nat):bK 74 Ll Fv (Sc n):=fun _ _ h=>by unfold Sc at h;exact okF (aaS n) h Tryz.func74 (by kernel_rfl)
noncomputable def Sd (n:Nat):Nat→List (FR R):=bn 74 ⟨Ll,Fv,Sc n,bB R Fv,false⟩ (Sb n)
theorem aaT (n:Nat):aW E (Sd n):=bI (aaS n) (ams n)
def amt:bC:=⟨[],[]⟩
abbrev Lm:List Sk:=[.d (.slice (.st 4)),.d (.st 3)]
abbrev Fw:List Sk:=[.d (.int .i64)]
@[irreducible] noncomputable def Si (n:Nat) (p:aA R.T Lm):Option (aA R.T Fw):=bG E R n false (Sd n) aQ amt Tryz.f20 Lm Fw p
theorem amu (n:Nat):bK 20 Lm Fw (Si n):=fun _ _ h=>by unfold Si at h;exact okF (aaT n) h Tryz.func20 (by kernel_rfl)
noncomputable def Sj (n:Nat):Nat→List (FR R):=bn 20 ⟨Lm,Fw,Si n,bB R Fw,false⟩ (Sd n)
theorem aaU (n:Nat):aW E (Sj n):=bI (aaT n) (amu n)
def amv:bC:=⟨[(2,⟨[0,1,2,6],[],⟨[(7,.d (.int .i64))],[(6,.st 19)]⟩,[(.exit 0,⟨[],[(6,.st 19)]⟩),(.ret,⟨[],[(6,.st 19)]⟩)]⟩)],[]⟩
abbrev Lp:List Sk:=[.d (.slice (.st 4)),.d (.int .i64),.d (.int .i64)]
abbrev Fx:List Sk:=[.d (.st 19)]
@[irreducible] noncomputable def Sl (n:Nat) (p:aA R.T Lp):Option (aA R.T Fx):=bG E R n false (Sj n) aQ amv Tryz.f127 Lp Fx p
theorem amw (n:Nat):bK 127 Lp Fx (Sl n):=fun _ _ h=>by unfold Sl at h;exact okF (aaU n) h Tryz.func127 (by kernel_rfl)
noncomputable def Sm (n:Nat):Nat→List (FR R):=bn 127 ⟨Lp,Fx,Sl n,bB R Fx,false⟩ (Sj n)
theorem aaV (n:Nat):aW E (Sm n):=bI (aaU n) (amw n)
def amx:bC:=⟨[],[]⟩
abbrev Lr:List Sk:=[.d (.st 4),.d (.int .i64)]
abbrev Fy:List Sk:=[.d .bool]
@[irreducible] noncomputable def Sn (n:Nat) (p:aA R.T Lr):Option (aA R.T Fy):=bG E R n false (Sm n) aQ amx Tryz.f128 Lr Fy p
theorem amy (n:Nat):bK 128 Lr Fy (Sn n):=fun _ _ h=>by unfold Sn at h;exact okF (aaV n) h Tryz.func128 (by kernel_rfl)
noncomputable def Sq (n:Nat):Nat→List (FR R):=bn 128 ⟨Lr,Fy,Sn n,bB R Fy,false⟩ (Sm n)
theorem aaW (n:Nat):aW E (Sq n):=bI (aaV n) (amy n)
def amA:bC:=⟨[],[]⟩
abbrev Ls:List Sk:=[.d (.slice (.st 4)),.d (.int .i64),.d (.int .i64),.d (.int .i64),.d (.slice .str),.d (.st 1),.d (.int .i64)]
abbrev Fz:List Sk:=[.d (.int .i64)]
@[irreducible] noncomputable def Sr (n:Nat) (p:aA R.T Ls):Option (aA R.T Fz):=bG E R n false (Sq n) aQ amA Tryz.f75 Ls Fz p
theorem amB (n:Nat):bK 75 Ls Fz (Sr n):=fun _ _ h=>by unfold Sr at h;exact okF (aaW n) h Tryz.func75 (by kernel_rfl)
noncomputable def Sv (n:Nat):Nat→List (FR R):=bn 75 ⟨Ls,Fz,Sr n,bB R Fz,false⟩ (Sq n)
theorem aaX (n:Nat):aW E (Sv n):=bI (aaW n) (amB n)
def amC:bC:=⟨[],[]⟩
abbrev Lu:List Sk:=[.d (.slice (.st 4)),.d (.st 3)]
abbrev FB:List Sk:=[.d (.int .i64)]
@[irreducible] noncomputable def Sw (n:Nat) (p:aA R.T Lu):Option (aA R.T FB):=bG E R n false (Sv n) aQ amC Tryz.f21 Lu FB p
theorem amD (n:Nat):bK 21 Lu FB (Sw n):=fun _ _ h=>by unfold Sw at h;exact okF (aaX n) h Tryz.func21 (by kernel_rfl)
noncomputable def Sy (n:Nat):Nat→List (FR R):=bn 21 ⟨Lu,FB,Sw n,bB R FB,false⟩ (Sv n)
theorem aaY (n:Nat):aW E (Sy n):=bI (aaX n) (amD n)
def amE:bC:=⟨[],[]⟩
abbrev Lv:List Sk:=[.d (.st 3),.d (.st 3)]
abbrev FC:List Sk:=[.d (.int .i64)]
@[irreducible] noncomputable def Bf (n:Nat) (p:aA R.T Lv):Option (aA R.T FC):=bG E R n false (Sy n) aQ amE Tryz.f22 Lv FC p
theorem amF (n:Nat):bK 22 Lv FC (Bf n):=fun _ _ h=>by unfold Bf at h;exact okF (aaY n) h Tryz.func22 (by kernel_rfl)
noncomputable def Sz (n:Nat):Nat→List (FR R):=bn 22 ⟨Lv,FC,Bf n,bB R FC,false⟩ (Sy n)
theorem aaZ (n:Nat):aW E (Sz n):=bI (aaY n) (amF n)
def amG:bC:=⟨[],[]⟩
abbrev Lx:List Sk:=[.d (.st 3),.d (.st 3)]
abbrev FD:List Sk:=[.d (.int .i64)]
@[irreducible] noncomputable def Bg (n:Nat) (p:aA R.T Lx):Option (aA R.T FD):=bG E R n false (Sz n) aQ amG Tryz.f23 Lx FD p
theorem amH (n:Nat):bK 23 Lx FD (Bg n):=fun _ _ h=>by unfold Bg at h;exact okF (aaZ n) h Tryz.func23 (by kernel_rfl)
noncomputable def SA (n:Nat):Nat→List (FR R):=bn 23 ⟨Lx,FD,Bg n,bB R FD,false⟩ (Sz n)
theorem aa0 (n:Nat):aW E (SA n):=bI (aaZ n) (amH n)
def amI:bC:=⟨[],[]⟩
abbrev LA:List Sk:=[.d (.slice (.st 4)),.d (.st 3),.d (.st 3)]
abbrev FE:List Sk:=[.d .bool]
@[irreducible] noncomputable def SB (n:Nat) (p:aA R.T LA):Option (aA R.T FE):=bG E R n false (SA n) aQ amI Tryz.f76 LA FE p
theorem amJ (n:Nat):bK 76 LA FE (SB n):=fun _ _ h=>by unfold SB at h;exact okF (aa0 n) h Tryz.func76 (by kernel_rfl)
noncomputable def SC (n:Nat):Nat→List (FR R):=bn 76 ⟨LA,FE,SB n,bB R FE,false⟩ (SA n)
theorem aa1 (n:Nat):aW E (SC n):=bI (aa0 n) (amJ n)
def amK:bC:=⟨[],[]⟩
abbrev LB:List Sk:=[.d (.slice (.st 4)),.d (.st 3),.d (.st 3)]
abbrev FH:List Sk:=[.d .bool]
@[irreducible] noncomputable def SE (n:Nat) (p:aA R.T LB):Option (aA R.T FH):=bG E R n false (SC n) aQ amK Tryz.f24 LB FH p
theorem amL (n:Nat):bK 24 LB FH (SE n):=fun _ _ h=>by unfold SE at h;exact okF (aa1 n) h Tryz.func24 (by kernel_rfl)
noncomputable def SF (n:Nat):Nat→List (FR R):=bn 24 ⟨LB,FH,SE n,bB R FH,false⟩ (SC n)
theorem aa2 (n:Nat):aW E (SF n):=bI (aa1 n) (amL n)
def amM:bC:=⟨[],[]⟩
abbrev LC:List Sk:=[.d (.slice (.st 4)),.d (.st 3),.d (.st 3)]
abbrev FJ:List Sk:=[.d .bool]
@[irreducible] noncomputable def SG (n:Nat) (p:aA R.T LC):Option (aA R.T FJ):=bG E R n false (SF n) aQ amM Tryz.f25 LC FJ p
theorem amN (n:Nat):bK 25 LC FJ (SG n):=fun _ _ h=>by unfold SG at h;exact okF (aa2 n) h Tryz.func25 (by kernel_rfl)
noncomputable def SH (n:Nat):Nat→List (FR R):=bn 25 ⟨LC,FJ,SG n,bB R FJ,false⟩ (SF n)
theorem aa3 (n:Nat):aW E (SH n):=bI (aa2 n) (amN n)
def amO:bC:=⟨[],[]⟩
abbrev LD:List Sk:=[.d (.slice (.st 4)),.d (.st 3),.d (.st 3)]
abbrev FK:List Sk:=[.d .bool]
@[irreducible] noncomputable def SI (n:Nat) (p:aA R.T LD):Option (aA R.T FK):=bG E R n false (SH n) aQ amO Tryz.f26 LD FK p
theorem amP (n:Nat):bK 26 LD FK (SI n):=fun _ _ h=>by unfold SI at h;exact okF (aa3 n) h Tryz.func26 (by kernel_rfl)
noncomputable def SK (n:Nat):Nat→List (FR R):=bn 26 ⟨LD,FK,SI n,bB R FK,false⟩ (SH n)
theorem aa4 (n:Nat):aW E (SK n):=bI (aa3 n) (amP n)
def amQ:bC:=⟨[],[]⟩
abbrev LG:List Sk:=[.d (.slice (.st 4)),.d (.st 3),.d (.st 3)]
abbrev FL:List Sk:=[.d .bool]
@[irreducible] noncomputable def SL (n:Nat) (p:aA R.T LG):Option (aA R.T FL):=bG E R n false (SK n) aQ amQ Tryz.f27 LG FL p
theorem amR (n:Nat):bK 27 LG FL (SL n):=fun _ _ h=>by unfold SL at h;exact okF (aa4 n) h Tryz.func27 (by kernel_rfl)
noncomputable def SN (n:Nat):Nat→List (FR R):=bn 27 ⟨LG,FL,SL n,bB R FL,false⟩ (SK n)
theorem aa5 (n:Nat):aW E (SN n):=bI (aa4 n) (amR n)
def amS:bC:=⟨[],[]⟩
abbrev LH:List Sk:=[.d (.st 3),.d (.st 3),.d (.st 4),.d (.slice (.st 4))]
abbrev FN:List Sk:=[.d .bool]
@[irreducible] noncomputable def SQ (n:Nat) (p:aA R.T LH):Option (aA R.T FN):=bG E R n false (SN n) aQ amS Tryz.f3 LH FN p
theorem amT (n:Nat):bK 3 LH FN (SQ n):=fun _ _ h=>by unfold SQ at h;exact okF (aa5 n) h Tryz.func3 (by kernel_rfl)
noncomputable def SS (n:Nat):Nat→List (FR R):=bn 3 ⟨LH,FN,SQ n,bB R FN,false⟩ (SN n)
theorem aa6 (n:Nat):aW E (SS n):=bI (aa5 n) (amT n)
def amU:bC:=⟨[],[]⟩
abbrev LJ:List Sk:=[.d (.int .i64)]
abbrev FP:List Sk:=[.d (.st 4)]
@[irreducible] noncomputable def SV (n:Nat) (p:aA R.T LJ):Option (aA R.T FP):=bG E R n false (SS n) aQ amU Tryz.f28 LJ FP p
theorem amV (n:Nat):bK 28 LJ FP (SV n):=fun _ _ h=>by unfold SV at h;exact okF (aa6 n) h Tryz.func28 (by kernel_rfl)
noncomputable def SX (n:Nat):Nat→List (FR R):=bn 28 ⟨LJ,FP,SV n,bB R FP,false⟩ (SS n)
theorem aa7 (n:Nat):aW E (SX n):=bI (aa6 n) (amV n)
def amW:bC:=⟨[],[]⟩
abbrev LK:List Sk:=[.d (.st 6),.d (.st 3)]
abbrev FQ:List Sk:=[.d (.st 6),.d (.int .i64)]
@[irreducible] noncomputable def Bh (n:Nat) (p:aA R.T LK):Option (aA R.T FQ):=bG E R n false (SX n) aQ amW Tryz.f29 LK FQ p
theorem amX (n:Nat):bK 29 LK FQ (Bh n):=fun _ _ h=>by unfold Bh at h;exact okF (aa7 n) h Tryz.func29 (by kernel_rfl)
noncomputable def SY (n:Nat):Nat→List (FR R):=bn 29 ⟨LK,FQ,Bh n,bB R FQ,false⟩ (SX n)
theorem aa8 (n:Nat):aW E (SY n):=bI (aa7 n) (amX n)
def amY:bC:=⟨[(7,⟨[0,1,2,7,9,10,11],[7,9],⟨[(12,.d (.int .i64))],[(11,.st 6)]⟩,[(.exit 0,⟨[],[(11,.st 6)]⟩),(.ret,⟨[(8,.d .bool)],[]⟩)]⟩),
 (29,⟨[0,1,2,7,9,10,11],[7,9,11],⟨[(19,.d (.int .i64))],[]⟩,[(.exit 2,⟨[],[]⟩),(.ret,⟨[(8,.d .bool)],[]⟩)]⟩),
 (32,⟨[0,1,2,7,9,10,11,19],[7,9,11],⟨[(20,.d (.int .i64))],[]⟩,[(.exit 4,⟨[],[]⟩),(.ret,⟨[(8,.d .bool)],[]⟩)]⟩)],[]⟩
abbrev LM:List Sk:=[.d (.int .u8),.d (.slice (.st 3)),.d (.int .u8),.d (.st 3)]
abbrev FT:List Sk:=[.d .bool]
@[irreducible] noncomputable def S9 (n:Nat) (p:aA R.T LM):Option (aA R.T FT):=bG E R n false (SY n) aQ amY Tryz.f4 LM FT p
theorem amZ (n:Nat):bK 4 LM FT (S9 n):=fun _ _ h=>by unfold S9 at h;exact okF (aa8 n) h Tryz.func4 (by kernel_rfl)
noncomputable def Ta (n:Nat):Nat→List (FR R):=bn 4 ⟨LM,FT,S9 n,bB R FT,false⟩ (SY n)
theorem aa9 (n:Nat):aW E (Ta n):=bI (aa8 n) (amZ n)
def am0:bC:=⟨[],[]⟩
abbrev LP:List Sk:=[.d (.st 6),.d (.st 3)]
abbrev FU:List Sk:=[.d (.int .i64)]
@[irreducible] noncomputable def Bj (n:Nat) (p:aA R.T LP):Option (aA R.T FU):=bG E R n false (Ta n) aQ am0 Tryz.f30 LP FU p
theorem am1 (n:Nat):bK 30 LP FU (Bj n):=fun _ _ h=>by unfold Bj at h;exact okF (aa9 n) h Tryz.func30 (by kernel_rfl)
noncomputable def Tc (n:Nat):Nat→List (FR R):=bn 30 ⟨LP,FU,Bj n,bB R FU,false⟩ (Ta n)
theorem abb (n:Nat):aW E (Tc n):=bI (aa9 n) (am1 n)
def am2:bC:=⟨[],[]⟩
abbrev LQ:List Sk:=[.d (.st 3),.aI [.d (.int .i64)] 0]
abbrev FV:List Sk:=[.d .bool]
@[irreducible] noncomputable def FX (n:Nat) (p:aA R.T LQ):Option (aA R.T FV):=bG E R n false (Tc n) aQ am2 Tryz.f78 LQ FV p
theorem am3 (n:Nat):bK 78 LQ FV (FX n):=fun _ _ h=>by unfold FX at h;exact okF (abb n) h Tryz.func78 (by kernel_rfl)
noncomputable def LU (n:Nat):Nat→List (FR R):=bn 78 ⟨LQ,FV,FX n,bB R FV,false⟩ (Tc n)
theorem abd (n:Nat):aW E (LU n):=bI (abb n) (am3 n)
def LV:bC:=⟨[(2,⟨[0,1,7],[],⟨[(8,.d (.int .i64))],[]⟩,[(.exit 0,⟨[],[]⟩),(.ret,⟨[(4,.d (.int .i64))],[]⟩)]⟩)],[]⟩
abbrev LW:List Sk:=[.d (.slice (.st 3)),.fn 78 [] [.aI [.d (.int .i64)] 0]]
abbrev FY:List Sk:=[.d (.int .i64)]
@[irreducible] noncomputable def xP (n:Nat) (p:aA R.T LW):Option (aA R.T FY):=bG E R n false (LU n) aQ LV Tryz.f77 LW FY p
theorem am4 (n:Nat):bK 77 LW FY (xP n):=fun _ _ h=>by unfold xP at h;exact okF (abd n) h Tryz.func77 (by kernel_rfl)
noncomputable def Td (n:Nat):Nat→List (FR R):=bn 77 ⟨LW,FY,xP n,bB R FY,false⟩ (LU n)
theorem abe (n:Nat):aW E (Td n):=bI (abd n) (am4 n)
def am5:bC:=⟨[],[]⟩
abbrev LX:List Sk:=[.d (.st 6),.d (.int .i64)]
abbrev FZ:List Sk:=[.d (.st 3),.d (.int .i64)]
@[irreducible] noncomputable def Bl (n:Nat) (p:aA R.T LX):Option (aA R.T FZ):=bG E R n false (Td n) aQ am5 Tryz.f31 LX FZ p
theorem am6 (n:Nat):bK 31 LX FZ (Bl n):=fun _ _ h=>by unfold Bl at h;exact okF (abe n) h Tryz.func31 (by kernel_rfl)
noncomputable def LY (n:Nat):Nat→List (FR R):=bn 31 ⟨LX,FZ,Bl n,bB R FZ,false⟩ (Td n)
theorem abf (n:Nat):aW E (LY n):=bI (abe n) (am6 n)
def LZ:bC:=⟨[(2,⟨[1,2,4],[2],⟨[(5,.d (.int .i64))],[(4,.st 5)]⟩,[(.exit 0,⟨[],[(4,.st 5)]⟩),(.ret,⟨[],[(4,.st 5)]⟩)]⟩)],[]⟩
abbrev L6:List Sk:=[.d (.st 6),.d (.int .i64)]
abbrev F3:List Sk:=[.d (.st 5)]
@[irreducible] noncomputable def Bn (n:Nat) (p:aA R.T L6):Option (aA R.T F3):=bG E R n false (LY n) aQ LZ Tryz.f32 L6 F3 p
theorem am7 (n:Nat):bK 32 L6 F3 (Bn n):=fun _ _ h=>by unfold Bn at h;exact okF (abf n) h Tryz.func32 (by kernel_rfl)
noncomputable def Te (n:Nat):Nat→List (FR R):=bn 32 ⟨L6,F3,Bn n,bB R F3,false⟩ (LY n)
theorem am8 (n:Nat):aW E (Te n):=bI (abf n) (am7 n)
def L8:bC:=⟨[(6,⟨[0,1,5],[],⟨[(6,.d (.int .i64)),(7,.d (.int .i64))],[(5,.st 6)]⟩,[(.exit 0,⟨[],[(5,.st 6)]⟩),(.ret,⟨[(4,.d .bool)],[]⟩)]⟩)],[]⟩
abbrev Tf:List Sk:=[.d (.slice (.st 3)),.d (.int .i64)]
abbrev Tg:List Sk:=[.d .bool]
@[irreducible] noncomputable def L9 (n:Nat) (p:aA R.T Tf):Option (aA R.T Tg):=bG E R n false (Te n) aQ L8 Tryz.f5 Tf Tg p
theorem am9 (n:Nat):bK 5 Tf Tg (L9 n):=fun _ _ h=>by unfold L9 at h;exact okF (am8 n) h Tryz.func5 (by kernel_rfl)
end Sh
