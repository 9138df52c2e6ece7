/- Part of the proof of a law. -/
import Derived.KernelRfl
import Derived.Test.YtdcnajadcbedkaaGreatDoorS815
set_option linter.all false
set_option linter.unusedSimpArgs false
set_option linter.unusedSectionVars false
open Go Go.Proofs Aq
namespace Sh
set_option maxRecDepth 100000
def bK (i:Nat) (a r:List Sk) (F:aA R.T a→Option (aA R.T r)):Prop:=∀p x,F p=some x→Pure E i (bD R a p) (kU (bD R r x))
theorem okF {n:Nat} {om:Bool} {F:Nat→List (FR R)} {A:bC} {i:Nat} {fn:Func} {a r:List Sk} {p:aA R.T a} {x:aA R.T r} (hF:aW E F) (h:bG E R n om F aQ A fn a r p=some x) (hf:E.P.funcs[i]? =some fn) (hok:(match fn.body with|some c=>decide (a.length≤fn.ntmps)&& iF fn.ntmps c&&qL c|none=>false)=true)
 (ha:gJ a=true:=by rfl) (hl:(bD R a p).length=a.length:=by rfl) (ho:E.om i=om:=by rfl) (hs:E.iZ i=none:=by rfl):Pure E i (bD R a p) (kU (bD R r x)):=ahQ Ju hF Qk h hf ha hl ho hs hok
def ajb:bC:=⟨[],[]⟩
abbrev JC:List Sk:=[]
abbrev Dz:List Sk:=[.sg [.a .u32 8,.a .u8 64,.i .u64]]
@[irreducible] noncomputable def z8 (n:Nat) (p:aA R.T JC):Option (aA R.T Dz):=bG E R n false (Qu n) aQ ajb Tryz.f119 JC Dz p
theorem ajc (n:Nat):bK 119 JC Dz (z8 n):=fun _ _ h=>by unfold z8 at h;exact okF (YV n) h Tryz.func119 (by kernel_rfl)
noncomputable def Qz (n:Nat):Nat→List (FR R):=bn 119 ⟨JC,Dz,z8 n,bB R Dz,false⟩ (Qu n)
theorem Y7 (n:Nat):aW E (Qz n):=bI (YV n) (ajc n)
def ajd:bC:=⟨[],[]⟩
abbrev JD:List Sk:=[.d (.int .u32),.d (.int .i64)]
abbrev DC:List Sk:=[.d (.int .u32)]
@[irreducible] noncomputable def qd (n:Nat) (p:aA R.T JD):Option (aA R.T DC):=bG E R n false (Qz n) aQ ajd Tryz.f216 JD DC p
theorem aje (n:Nat):bK 216 JD DC (qd n):=fun _ _ h=>by unfold qd at h;exact okF (Y7 n) h Tryz.func216 (by kernel_rfl)
noncomputable def DF (n:Nat):Nat→List (FR R):=bn 216 ⟨JD,DC,qd n,bB R DC,false⟩ (Qz n)
theorem Y8 (n:Nat):aW E (DF n):=bI (Y7 n) (aje n)
def xA:bC:=⟨[(3,⟨[0,2,3],[2],⟨[(11,.d (.int .i64))],[(3,.sg [.a .u32 64])]⟩,[(.exit 0,⟨[],[(3,.sg [.a .u32 64])]⟩)]⟩),
 (7,⟨[0,2,3,4,11,22,23],[2],⟨[(24,.d (.int .i64))],[(3,.sg [.a .u32 64])]⟩,[(.exit 2,⟨[],[(3,.sg [.a .u32 64])]⟩)]⟩)],[]⟩
abbrev JE:List Sk:=[.d (.slice (.int .u8))]
abbrev DI:List Sk:=[.sg [.a .u32 64]]
@[irreducible] noncomputable def Aa (n:Nat) (p:aA R.T JE):Option (aA R.T DI):=bG E R n false (DF n) aQ xA Tryz.f198 JE DI p
theorem ajf (n:Nat):bK 198 JE DI (Aa n):=fun _ _ h=>by unfold Aa at h;exact okF (Y8 n) h Tryz.func198 (by kernel_rfl)
noncomputable def QA (n:Nat):Nat→List (FR R):=bn 198 ⟨JE,DI,Aa n,bB R DI,false⟩ (DF n)
theorem Y9 (n:Nat):aW E (QA n):=bI (Y8 n) (ajf n)
def ajg:bC:=⟨[],[]⟩
abbrev JF:List Sk:=[.d (.int .u32),.d (.int .i64),.d (.int .i64),.d (.int .i64)]
abbrev DJ:List Sk:=[.d (.int .u32)]
@[irreducible] noncomputable def xB (n:Nat) (p:aA R.T JF):Option (aA R.T DJ):=bG E R n false (QA n) aQ ajg Tryz.f199 JF DJ p
theorem ajh (n:Nat):bK 199 JF DJ (xB n):=fun _ _ h=>by unfold xB at h;exact okF (Y9 n) h Tryz.func199 (by kernel_rfl)
noncomputable def DK (n:Nat):Nat→List (FR R):=bn 199 ⟨JF,DJ,xB n,bB R DJ,false⟩ (QA n)
theorem Za (n:Nat):aW E (DK n):=bI (Y9 n) (ajh n)
def xC:bC:=⟨[(4,⟨[2,4,5,6,7,21],[2,4,5],⟨[(22,.d (.int .i64))],[(6,.sg [.a .u32 4]),(7,.sg [.a .u32 4])]⟩,[(.exit 0,⟨[],[(6,.sg [.a .u32 4]),(7,.sg [.a .u32 4])]⟩)]⟩),
 (12,⟨[2,4,6,7],[4,6,7],⟨[(94,.d (.int .i64))],[(2,.sg [.a .u32 8])]⟩,[(.exit 2,⟨[],[(2,.sg [.a .u32 8])]⟩)]⟩)],[]⟩
abbrev JG:List Sk:=[.sg [.a .u32 8],.d (.slice (.int .u8))]
abbrev DL:List Sk:=[.sg [.a .u32 8]]
@[irreducible] noncomputable def Ab (n:Nat) (p:aA R.T JG):Option (aA R.T DL):=bG E R n false (DK n) aQ xC Tryz.f169 JG DL p
theorem aji (n:Nat):bK 169 JG DL (Ab n):=fun _ _ h=>by unfold Ab at h;exact okF (Za n) h Tryz.func169 (by kernel_rfl)
noncomputable def JH (n:Nat):Nat→List (FR R):=bn 169 ⟨JG,DL,Ab n,bB R DL,false⟩ (DK n)
theorem Zb (n:Nat):aW E (JH n):=bI (Za n) (aji n)
def JI:bC:=⟨[(1,⟨[2,4],[4],⟨[(1,.d .str)],[(2,.sg [.a .u32 8,.a .u8 64,.i .u64])]⟩,[(.exit 0,⟨[],[(2,.sg [.a .u32 8,.a .u8 64,.i .u64])]⟩)]⟩)],[]⟩
abbrev JJ:List Sk:=[.sg [.a .u32 8,.a .u8 64,.i .u64],.d .str]
abbrev DN:List Sk:=[.sg [.a .u32 8,.a .u8 64,.i .u64]]
@[irreducible] noncomputable def tK (n:Nat) (p:aA R.T JJ):Option (aA R.T DN):=bG E R n false (JH n) aQ JI Tryz.f120 JJ DN p
theorem ajj (n:Nat):bK 120 JJ DN (tK n):=fun _ _ h=>by unfold tK at h;exact okF (Zb n) h Tryz.func120 (by kernel_rfl)
noncomputable def JK (n:Nat):Nat→List (FR R):=bn 120 ⟨JJ,DN,tK n,bB R DN,false⟩ (JH n)
theorem Zc (n:Nat):aW E (JK n):=bI (Zb n) (ajj n)
def JL:bC:=⟨[(3,⟨[],[],⟨[(3,.d (.int .u64)),(4,.l (.own 21) (.int .u8))],[]⟩,[(.exit 0,⟨[(3,.d (.int .u64)),(4,.l (.own 21) (.int .u8))],[]⟩)]⟩)],[]⟩
abbrev Ac:List Sk:=[.d (.int .i64)]
abbrev QB:List Sk:=[.d (.slice (.int .u8))]
@[irreducible] noncomputable def tL (n:Nat) (p:aA R.T Ac):Option (aA R.T QB):=Iy E R n false (JK n) aQ JL Tryz.f90 Ac (.int .u8) p
theorem ajk (n:Nat) (p:aA R.T Ac) (x:aA R.T QB) (h:tL n p=some x):Pure E 90 (bD R Ac p) (.aj .sh (List.map (aG R (.int .u8)) x))∧lU E 90 (bD R Ac p) (bW R (.int .u8)) (List.map (aG R (.int .u8)) x):=by
 unfold tL at h
 exact Yz Ju (Zc n) Qk h Tryz.func90 rfl rfl rfl rfl (by kernel_rfl)
noncomputable def QC (n:Nat):Nat→List (FR R):=bn 90 ⟨Ac,[.d (.slice (.int .u8))],tL n,bB R QB,true⟩ (JK n)
theorem Zd (n:Nat):aW E (QC n):=YC (G:=tL n) (Zc n) (ajk n)
def ajl:bC:=⟨[],[]⟩
abbrev JM:List Sk:=[.d .str]
abbrev DR:List Sk:=[.d (.slice (.int .u8))]
@[irreducible] noncomputable def Ad (n:Nat) (p:aA R.T JM):Option (aA R.T DR):=bG E R n false (QC n) aQ ajl Tryz.f121 JM DR p
theorem ajm (n:Nat):bK 121 JM DR (Ad n):=fun _ _ h=>by unfold Ad at h;exact okF (Zd n) h Tryz.func121 (by kernel_rfl)
noncomputable def Ae (n:Nat):Nat→List (FR R):=bn 121 ⟨JM,DR,Ad n,bB R DR,false⟩ (QC n)
theorem Ze (n:Nat):aW E (Ae n):=bI (Zd n) (ajm n)
def rP:bC:=⟨[(3,⟨[1,2,3],[1,2],⟨[(4,.l (.own 22) (.int .u8))],[]⟩,[(.exit 0,⟨[(4,.l (.own 22) (.int .u8))],[]⟩)]⟩),
 (6,⟨[1,2,3],[1,2],⟨[(4,.l (.own 22) (.int .u8)),(23,.d (.int .i64))],[]⟩,[(.exit 2,⟨[(4,.l (.own 22) (.int .u8))],[]⟩)]⟩),
 (13,⟨[1,2,6],[1,2],⟨[(40,.d (.int .i64))],[(6,.sg [.a .u8 32])]⟩,[(.exit 4,⟨[],[(6,.sg [.a .u8 32])]⟩)]⟩)],[]⟩
abbrev JN:List Sk:=[.sg [.a .u32 8,.a .u8 64,.i .u64]]
abbrev DT:List Sk:=[.sg [.a .u8 32]]
@[irreducible] noncomputable def Af (n:Nat) (p:aA R.T JN):Option (aA R.T DT):=bG E R n false (Ae n) aQ rP Tryz.f122 JN DT p
theorem ajn (n:Nat):bK 122 JN DT (Af n):=fun _ _ h=>by unfold Af at h;exact okF (Ze n) h Tryz.func122 (by kernel_rfl)
noncomputable def JO (n:Nat):Nat→List (FR R):=bn 122 ⟨JN,DT,Af n,bB R DT,false⟩ (Ae n)
theorem Zf (n:Nat):aW E (JO n):=bI (Ze n) (ajn n)
def JQ:bC:=⟨[(3,⟨[4,5,15,16],[4],⟨[(17,.d (.int .i64))],[(5,.sg [.a .u32 8,.a .u8 64,.i .u64])]⟩,[(.exit 0,⟨[],[(5,.sg [.a .u32 8,.a .u8 64,.i .u64])]⟩)]⟩)],[]⟩
abbrev JR:List Sk:=[.d (.int .i64),.d (.slice .str)]
abbrev DU:List Sk:=[.d (.st 0)]
@[irreducible] noncomputable def Ah (n:Nat) (p:aA R.T JR):Option (aA R.T DU):=bG E R n false (JO n) aQ JQ Tryz.f71 JR DU p
theorem Zg (n:Nat):bK 71 JR DU (Ah n):=fun _ _ h=>by unfold Ah at h;exact okF (Zf n) h Tryz.func71 (by kernel_rfl)
noncomputable def JU (n:Nat):Nat→List (FR R):=bn 71 ⟨JR,DU,Ah n,bB R DU,false⟩ (JO n)
theorem Zh (n:Nat):aW E (JU n):=bI (Zf n) (Zg n)
def JV:bC:=⟨[(5,⟨[],[],⟨[(3,.d (.int .u64)),(4,.l (.own 23) (.int .u8))],[]⟩,[(.exit 0,⟨[(3,.d (.int .u64)),(4,.l (.own 23) (.int .u8))],[]⟩)]⟩)],[]⟩
abbrev Ai:List Sk:=[.d (.int .i64)]
abbrev QD:List Sk:=[.d (.slice (.int .u8))]
@[irreducible] noncomputable def tN (n:Nat) (p:aA R.T Ai):Option (aA R.T QD):=Iy E R n false (JU n) aQ JV Tryz.f93 Ai (.int .u8) p
theorem ajo (n:Nat) (p:aA R.T Ai) (x:aA R.T QD) (h:tN n p=some x):Pure E 93 (bD R Ai p) (.aj .sh (List.map (aG R (.int .u8)) x))∧lU E 93 (bD R Ai p) (bW R (.int .u8)) (List.map (aG R (.int .u8)) x):=by
 unfold tN at h
 exact Yz Ju (Zh n) Qk h Tryz.func93 rfl rfl rfl rfl (by kernel_rfl)
noncomputable def QE (n:Nat):Nat→List (FR R):=bn 93 ⟨Ai,[.d (.slice (.int .u8))],tN n,bB R QD,true⟩ (JU n)
theorem Zi (n:Nat):aW E (QE n):=YC (G:=tN n) (Zh n) (ajo n)
def ajp:bC:=⟨[],[]⟩
abbrev JW:List Sk:=[.d .str]
abbrev DV:List Sk:=[.d (.slice (.int .u8))]
@[irreducible] noncomputable def Aj (n:Nat) (p:aA R.T JW):Option (aA R.T DV):=bG E R n false (QE n) aQ ajp Tryz.f171 JW DV p
theorem ajq (n:Nat):bK 171 JW DV (Aj n):=fun _ _ h=>by unfold Aj at h;exact okF (Zi n) h Tryz.func171 (by kernel_rfl)
noncomputable def JX (n:Nat):Nat→List (FR R):=bn 171 ⟨JW,DV,Aj n,bB R DV,false⟩ (QE n)
theorem Zj (n:Nat):aW E (JX n):=bI (Zi n) (ajq n)
def JY:bC:=⟨[(3,⟨[1],[],⟨[(5,.l (.own 22) (.int .u8)),(6,.d (.int .i64))],[]⟩,[(.exit 0,⟨[(5,.l (.own 22) (.int .u8))],[]⟩)]⟩)],[]⟩
abbrev JZ:List Sk:=[.d (.int .i64),.d (.slice .str)]
abbrev DW:List Sk:=[.d (.slice (.int .u8))]
@[irreducible] noncomputable def Ak (n:Nat) (p:aA R.T JZ):Option (aA R.T DW):=bG E R n false (JX n) aQ JY Tryz.f124 JZ DW p
theorem ajr (n:Nat):bK 124 JZ DW (Ak n):=fun _ _ h=>by unfold Ak at h;exact okF (Zj n) h Tryz.func124 (by kernel_rfl)
noncomputable def DX (n:Nat):Nat→List (FR R):=bn 124 ⟨JZ,DW,Ak n,bB R DW,false⟩ (JX n)
theorem Zk (n:Nat):aW E (DX n):=bI (Zj n) (ajr n)
def xD:bC:=⟨[(3,⟨[0],[],⟨[(3,.l (.own 8) (.int .u8))],[]⟩,[(.exit 0,⟨[(3,.l (.own 8) (.int .u8))],[]⟩)]⟩),
 (7,⟨[4],[],⟨[(3,.l (.own 8) (.int .u8)),(5,.d (.int .i64))],[]⟩,[(.exit 2,⟨[(3,.l (.own 8) (.int .u8))],[]⟩)]⟩)],[]⟩
abbrev J2:List Sk:=[.d (.slice (.int .u8))]
abbrev DY:List Sk:=[.d (.slice (.int .u8))]
@[irreducible] noncomputable def Al (n:Nat) (p:aA R.T J2):Option (aA R.T DY):=bG E R n false (DX n) aQ xD Tryz.f200 J2 DY p
theorem ajs (n:Nat):bK 200 J2 DY (Al n):=fun _ _ h=>by unfold Al at h;exact okF (Zk n) h Tryz.func200 (by kernel_rfl)
noncomputable def QF (n:Nat):Nat→List (FR R):=bn 200 ⟨J2,DY,Al n,bB R DY,false⟩ (DX n)
theorem Zl (n:Nat):aW E (QF n):=bI (Zk n) (ajs n)
def ajt:bC:=⟨[],[]⟩
abbrev J3:List Sk:=[.d (.int .u32),.d (.int .i64)]
abbrev DZ:List Sk:=[.d (.int .u32)]
@[irreducible] noncomputable def mZ (n:Nat) (p:aA R.T J3):Option (aA R.T DZ):=bG E R n false (QF n) aQ ajt Tryz.f202 J3 DZ p
theorem aju (n:Nat):bK 202 J3 DZ (mZ n):=fun _ _ h=>by unfold mZ at h;exact okF (Zl n) h Tryz.func202 (by kernel_rfl)
noncomputable def D5 (n:Nat):Nat→List (FR R):=bn 202 ⟨J3,DZ,mZ n,bB R DZ,false⟩ (QF n)
theorem Zm (n:Nat):aW E (D5 n):=bI (Zl n) (aju n)
def xE:bC:=⟨[(3,⟨[0,2,3],[2],⟨[(4,.d (.int .i64))],[(3,.sg [.a .u32 64])]⟩,[(.exit 0,⟨[],[(3,.sg [.a .u32 64])]⟩)]⟩),
 (7,⟨[2,3],[2],⟨[(5,.d (.int .i64))],[(3,.sg [.a .u32 64])]⟩,[(.exit 2,⟨[],[(3,.sg [.a .u32 64])]⟩)]⟩)],[]⟩
abbrev J4:List Sk:=[.d (.slice (.int .u8))]
abbrev D6:List Sk:=[.sg [.a .u32 64]]
@[irreducible] noncomputable def Am (n:Nat) (p:aA R.T J4):Option (aA R.T D6):=bG E R n false (D5 n) aQ xE Tryz.f201 J4 D6 p
theorem ajv (n:Nat):bK 201 J4 D6 (Am n):=fun _ _ h=>by unfold Am at h;exact okF (Zm n) h Tryz.func201 (by kernel_rfl)
noncomputable def xG (n:Nat):Nat→List (FR R):=bn 201 ⟨J4,D6,Am n,bB R D6,false⟩ (D5 n)
theorem Zn (n:Nat):aW E (xG n):=bI (Zm n) (ajv n)
def oO:bC:=⟨[(4,⟨[2,3,4],[2],⟨[(5,.d (.int .i64))],[(3,.sg [.a .u32 8])]⟩,[(.exit 0,⟨[],[(3,.sg [.a .u32 8])]⟩)]⟩),
 (9,⟨[2,3,4,5,6,7],[2,3,6],⟨[(8,.d (.int .i64))],[(7,.sg [.a .u32 8])]⟩,[(.exit 2,⟨[],[(7,.sg [.a .u32 8])]⟩)]⟩),
 (15,⟨[2,3,4,5,7],[2,7],⟨[(11,.d (.int .i64))],[(3,.sg [.a .u32 8])]⟩,[(.exit 4,⟨[],[(3,.sg [.a .u32 8])]⟩)]⟩),
 (20,⟨[2,3,12],[2,3],⟨[(13,.d (.int .i64))],[(12,.sg [.a .u8 32])]⟩,[(.exit 6,⟨[],[(12,.sg [.a .u8 32])]⟩)]⟩)],[]⟩
abbrev J5:List Sk:=[.d (.slice (.int .u8))]
abbrev D7:List Sk:=[.sg [.a .u8 32]]
@[irreducible] noncomputable def Ao (n:Nat) (p:aA R.T J5):Option (aA R.T D7):=bG E R n false (xG n) aQ oO Tryz.f170 J5 D7 p
theorem ajw (n:Nat):bK 170 J5 D7 (Ao n):=fun _ _ h=>by unfold Ao at h;exact okF (Zn n) h Tryz.func170 (by kernel_rfl)
noncomputable def QG (n:Nat):Nat→List (FR R):=bn 170 ⟨J5,D7,Ao n,bB R D7,false⟩ (xG n)
theorem Zo (n:Nat):aW E (QG n):=bI (Zn n) (ajw n)
def ajx:bC:=⟨[],[]⟩
abbrev J6:List Sk:=[.d (.slice (.int .u8))]
abbrev D8:List Sk:=[.d (.st 0)]
@[irreducible] noncomputable def Ap (n:Nat) (p:aA R.T J6):Option (aA R.T D8):=bG E R n false (QG n) aQ ajx Tryz.f123 J6 D8 p
theorem ajy (n:Nat):bK 123 J6 D8 (Ap n):=fun _ _ h=>by unfold Ap at h;exact okF (Zo n) h Tryz.func123 (by kernel_rfl)
noncomputable def QH (n:Nat):Nat→List (FR R):=bn 123 ⟨J6,D8,Ap n,bB R D8,false⟩ (QG n)
theorem Zp (n:Nat):aW E (QH n):=bI (Zo n) (ajy n)
def ajz:bC:=⟨[],[]⟩
abbrev J7:List Sk:=[.d (.int .i64),.d (.slice .str)]
abbrev D9:List Sk:=[.d (.st 0)]
@[irreducible] noncomputable def Ar (n:Nat) (p:aA R.T J7):Option (aA R.T D9):=bG E R n false (QH n) aQ ajz Tryz.f72 J7 D9 p
theorem ajA (n:Nat):bK 72 J7 D9 (Ar n):=fun _ _ h=>by unfold Ar at h;exact okF (Zp n) h Tryz.func72 (by kernel_rfl)
noncomputable def J8 (n:Nat):Nat→List (FR R):=bn 72 ⟨J7,D9,Ar n,bB R D9,false⟩ (QH n)
theorem Zq (n:Nat):aW E (J8 n):=bI (Zp n) (ajA n)
def J9:bC:=⟨[(3,⟨[1,11,12],[],⟨[(5,.l (.own 10) (.int .u8)),(13,.d (.int .i64))],[]⟩,[(.exit 0,⟨[(5,.l (.own 10) (.int .u8))],[]⟩)]⟩)],[]⟩
abbrev Ka:List Sk:=[.d (.slice (.int .i64)),.fn 90 [] []]
abbrev Ea:List Sk:=[.d (.slice (.int .u8))]
@[irreducible] noncomputable def Eb (n:Nat) (p:aA R.T Ka):Option (aA R.T Ea):=bG E R n false (J8 n) aQ J9 Tryz.f117 Ka Ea p
theorem ajB (n:Nat):bK 117 Ka Ea (Eb n):=fun _ _ h=>by unfold Eb at h;exact okF (Zq n) h Tryz.func117 (by kernel_rfl)
noncomputable def QI (n:Nat):Nat→List (FR R):=bn 117 ⟨Ka,Ea,Eb n,bB R Ea,false⟩ (J8 n)
theorem Zr (n:Nat):aW E (QI n):=bI (Zq n) (ajB n)
def ajC:bC:=⟨[],[]⟩
abbrev Kc:List Sk:=[.d (.slice (.int .i64))]
abbrev Ec:List Sk:=[.d (.slice (.int .u8))]
@[irreducible] noncomputable def Au (n:Nat) (p:aA R.T Kc):Option (aA R.T Ec):=bG E R n false (QI n) aQ ajC Tryz.f69 Kc Ec p
theorem ajD (n:Nat):bK 69 Kc Ec (Au n):=fun _ _ h=>by unfold Au at h;exact okF (Zr n) h Tryz.func69 (by kernel_rfl)
noncomputable def Ke (n:Nat):Nat→List (FR R):=bn 69 ⟨Kc,Ec,Au n,bB R Ec,false⟩ (QI n)
theorem Zt (n:Nat):aW E (Ke n):=bI (Zr n) (ajD n)
def Kg:bC:=⟨[(3,⟨[0],[],⟨[(3,.l (.own 7) (.int .u8)),(4,.d (.int .i64))],[]⟩,[(.exit 0,⟨[(3,.l (.own 7) (.int .u8))],[]⟩)]⟩)],[]⟩
abbrev Kh:List Sk:=[.d (.slice (.int .i64))]
abbrev Ed:List Sk:=[.d (.slice (.int .u8))]
@[irreducible] noncomputable def Av (n:Nat) (p:aA R.T Kh):Option (aA R.T Ed):=bG E R n false (Ke n) aQ Kg Tryz.f73 Kh Ed p
theorem ajE (n:Nat):bK 73 Kh Ed (Av n):=fun _ _ h=>by unfold Av at h;exact okF (Zt n) h Tryz.func73 (by kernel_rfl)
noncomputable def QJ (n:Nat):Nat→List (FR R):=bn 73 ⟨Kh,Ed,Av n,bB R Ed,false⟩ (Ke n)
theorem Zu (n:Nat):aW E (QJ n):=bI (Zt n) (ajE n)
end Sh
