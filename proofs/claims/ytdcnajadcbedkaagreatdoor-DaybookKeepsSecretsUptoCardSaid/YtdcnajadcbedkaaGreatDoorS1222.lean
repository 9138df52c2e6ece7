/- Part of the proof of a law. -/
import Derived.KernelRfl
import Derived.Test.YtdcnajadcbedkaaGreatDoorS1221
set_option linter.all false
open Go Go.Proofs Aq
namespace Sh
set_option maxRecDepth 100000
def Nq:bR:=⟨[(2,⟨[1],[1],⟨[(3,.d (.int .i64))],[]⟩,[(.exit 0,⟨[],[]⟩),(.ret,⟨[(2,.d .bool)],[]⟩)]⟩)],[]⟩
abbrev Nr:List Sk:=[.d (.st 10)]
abbrev H9:List Sk:=[.d .bool]
@[irreducible] noncomputable def Aj (n:Nat) (p:aA R.T Nr):Option (aA R.T H9):=dH E R n false (M9 n) aZ Nq Tryz.f34 Nr H9 p
theorem amu (n:Nat):dQ 34 Nr H9 (Aj n):=fun _ _ h=>by unfold Aj at h;exact okF (aa1 n) h Tryz.func34 (by kernel_rfl)
noncomputable def Ns (n:Nat):Nat->List (FR R):=cZ 34 ⟨Nr,H9,Aj n,cK R H9,false⟩ (M9 n)
theorem abA (n:Nat):bH E (Ns n):=dM (aa1 n) (amu n)
def Nt:bR:=⟨[(2,⟨[0,1],[],⟨[(5,.d (.int .i64))],[]⟩,[(.exit 0,⟨[],[]⟩),(.ret,⟨[(4,.d .bool)],[]⟩)]⟩)],[]⟩
abbrev Nu:List Sk:=[.d (.slice (.st 14)),.d (.int .i64)]
abbrev Ia:List Sk:=[.d .bool]
@[irreducible] noncomputable def Ak (n:Nat) (p:aA R.T Nu):Option (aA R.T Ia):=dH E R n false (Ns n) aZ Nt Tryz.f79 Nu Ia p
theorem amv (n:Nat):dQ 79 Nu Ia (Ak n):=fun _ _ h=>by unfold Ak at h;exact okF (abA n) h Tryz.func79 (by kernel_rfl)
noncomputable def Ib (n:Nat):Nat->List (FR R):=cZ 79 ⟨Nu,Ia,Ak n,cK R Ia,false⟩ (Ns n)
theorem abB (n:Nat):bH E (Ib n):=dM (abA n) (amv n)
def Al:bR:=⟨[(2,⟨[1,2],[2],⟨[(5,.d (.int .i64))],[]⟩,[(.exit 0,⟨[],[]⟩),(.ret,⟨[(4,.d .bool)],[]⟩)]⟩),
 (8,⟨[1,2,5,6],[2,6],⟨[(7,.d (.int .i64))],[]⟩,[(.exit 2,⟨[],[]⟩),(.ret,⟨[(4,.d .bool)],[]⟩)]⟩)],[]⟩
abbrev Nv:List Sk:=[.d (.st 8),.d (.int .i64)]
abbrev Ic:List Sk:=[.d .bool]
@[irreducible] noncomputable def Am (n:Nat) (p:aA R.T Nv):Option (aA R.T Ic):=dH E R n false (Ib n) aZ Al Tryz.f80 Nv Ic p
theorem amw (n:Nat):dQ 80 Nv Ic (Am n):=fun _ _ h=>by unfold Am at h;exact okF (abB n) h Tryz.func80 (by kernel_rfl)
noncomputable def Uz (n:Nat):Nat->List (FR R):=cZ 80 ⟨Nv,Ic,Am n,cK R Ic,false⟩ (Ib n)
theorem abC (n:Nat):bH E (Uz n):=dM (abB n) (amw n)
def amx:bR:=⟨[],[]⟩
abbrev Nw:List Sk:=[.d (.int .i64)]
abbrev Ie:List Sk:=[.d .bool]
@[irreducible] noncomputable def D7 (n:Nat) (p:aA R.T Nw):Option (aA R.T Ie):=dH E R n false (Uz n) aZ amx Tryz.f191 Nw Ie p
theorem amy (n:Nat):dQ 191 Nw Ie (D7 n):=fun _ _ h=>by unfold D7 at h;exact okF (abC n) h Tryz.func191 (by kernel_rfl)
noncomputable def Ny (n:Nat):Nat->List (FR R):=cZ 191 ⟨Nw,Ie,D7 n,cK R Ie,false⟩ (Uz n)
theorem abD (n:Nat):bH E (Ny n):=dM (abC n) (amy n)
def Nz:bR:=⟨[(2,⟨[0,1],[],⟨[(5,.d (.int .i64))],[]⟩,[(.exit 0,⟨[],[]⟩),(.ret,⟨[(4,.d .bool)],[]⟩)]⟩)],[]⟩
abbrev NA:List Sk:=[.d (.slice .str),.d .str]
abbrev Ig:List Sk:=[.d .bool]
@[irreducible] noncomputable def yI (n:Nat) (p:aA R.T NA):Option (aA R.T Ig):=dH E R n false (Ny n) aZ Nz Tryz.f220 NA Ig p
theorem amA (n:Nat):dQ 220 NA Ig (yI n):=fun _ _ h=>by unfold yI at h;exact okF (abD n) h Tryz.func220 (by kernel_rfl)
noncomputable def NC (n:Nat):Nat->List (FR R):=cZ 220 ⟨NA,Ig,yI n,cK R Ig,false⟩ (Ny n)
theorem abE (n:Nat):bH E (NC n):=dM (abD n) (amA n)
def ND:bR:=⟨[(2,⟨[0],[],⟨[(3,.d (.int .i64))],[]⟩,[(.exit 0,⟨[],[]⟩),(.ret,⟨[(2,.d .bool)],[]⟩)]⟩)],[]⟩
abbrev NG:List Sk:=[.d .str]
abbrev Ih:List Sk:=[.d .bool]
@[irreducible] noncomputable def Ao (n:Nat) (p:aA R.T NG):Option (aA R.T Ih):=dH E R n false (NC n) aZ ND Tryz.f212 NG Ih p
theorem amB (n:Nat):dQ 212 NG Ih (Ao n):=fun _ _ h=>by unfold Ao at h;exact okF (abE n) h Tryz.func212 (by kernel_rfl)
noncomputable def Ii (n:Nat):Nat->List (FR R):=cZ 212 ⟨NG,Ih,Ao n,cK R Ih,false⟩ (NC n)
theorem abF (n:Nat):bH E (Ii n):=dM (abE n) (amB n)
def Ap:bR:=⟨[(4,⟨[0],[],⟨[(3,.d (.int .i64))],[]⟩,[(.exit 0,⟨[],[]⟩),(.ret,⟨[(2,.d (.int .i64))],[]⟩)]⟩),
 (9,⟨[0],[],⟨[(4,.d (.int .i64))],[]⟩,[(.exit 2,⟨[],[]⟩),(.ret,⟨[(2,.d (.int .i64))],[]⟩)]⟩)],[]⟩
abbrev NH:List Sk:=[.d (.slice .str)]
abbrev Ij:List Sk:=[.d (.int .i64)]
@[irreducible] noncomputable def D8 (n:Nat) (p:aA R.T NH):Option (aA R.T Ij):=dH E R n false (Ii n) aZ Ap Tryz.f213 NH Ij p
theorem amC (n:Nat):dQ 213 NH Ij (D8 n):=fun _ _ h=>by unfold D8 at h;exact okF (abF n) h Tryz.func213 (by kernel_rfl)
noncomputable def UA (n:Nat):Nat->List (FR R):=cZ 213 ⟨NH,Ij,D8 n,cK R Ij,false⟩ (Ii n)
theorem abG (n:Nat):bH E (UA n):=dM (abF n) (amC n)
def amD:bR:=⟨[],[]⟩
abbrev NI:List Sk:=[.d (.st 7),.d .str]
abbrev Ik:List Sk:=[.d (.int .i64)]
@[irreducible] noncomputable def D9 (n:Nat) (p:aA R.T NI):Option (aA R.T Ik):=dH E R n false (UA n) aZ amD Tryz.f192 NI Ik p
theorem amE (n:Nat):dQ 192 NI Ik (D9 n):=fun _ _ h=>by unfold D9 at h;exact okF (abG n) h Tryz.func192 (by kernel_rfl)
noncomputable def NJ (n:Nat):Nat->List (FR R):=cZ 192 ⟨NI,Ik,D9 n,cK R Ik,false⟩ (UA n)
theorem abH (n:Nat):bH E (NJ n):=dM (abG n) (amE n)
def NK:bR:=⟨[(7,⟨[1],[1],⟨[(3,.d .str),(4,.d (.int .i64))],[]⟩,[(.exit 0,⟨[],[]⟩),(.ret,⟨[(2,.d (.int .i64))],[]⟩)]⟩)],[]⟩
abbrev NM:List Sk:=[.d (.st 8)]
abbrev Il:List Sk:=[.d (.int .i64)]
@[irreducible] noncomputable def Ea (n:Nat) (p:aA R.T NM):Option (aA R.T Il):=dH E R n false (NJ n) aZ NK Tryz.f160 NM Il p
theorem amF (n:Nat):dQ 160 NM Il (Ea n):=fun _ _ h=>by unfold Ea at h;exact okF (abH n) h Tryz.func160 (by kernel_rfl)
noncomputable def UC (n:Nat):Nat->List (FR R):=cZ 160 ⟨NM,Il,Ea n,cK R Il,false⟩ (NJ n)
theorem abI (n:Nat):bH E (UC n):=dM (abH n) (amF n)
def amG:bR:=⟨[],[]⟩
abbrev NP:List Sk:=[.d (.st 8)]
abbrev Im:List Sk:=[.d (.st 18)]
@[irreducible] noncomputable def yJ (n:Nat) (p:aA R.T NP):Option (aA R.T Im):=dH E R n false (UC n) aZ amG Tryz.f112 NP Im p
theorem amH (n:Nat):dQ 112 NP Im (yJ n):=fun _ _ h=>by unfold yJ at h;exact okF (abI n) h Tryz.func112 (by kernel_rfl)
noncomputable def NR (n:Nat):Nat->List (FR R):=cZ 112 ⟨NP,Im,yJ n,cK R Im,false⟩ (UC n)
theorem abJ (n:Nat):bH E (NR n):=dM (abI n) (amH n)
def NS:bR:=⟨[(2,⟨[1,2],[],⟨[(5,.d (.int .i64))],[]⟩,[(.exit 0,⟨[],[]⟩),(.ret,⟨[(4,.d .bool)],[]⟩)]⟩)],[]⟩
abbrev NT:List Sk:=[.d (.st 12),.d (.int .i64)]
abbrev Io:List Sk:=[.d .bool]
@[irreducible] noncomputable def Eb (n:Nat) (p:aA R.T NT):Option (aA R.T Io):=dH E R n false (NR n) aZ NS Tryz.f193 NT Io p
theorem amI (n:Nat):dQ 193 NT Io (Eb n):=fun _ _ h=>by unfold Eb at h;exact okF (abJ n) h Tryz.func193 (by kernel_rfl)
noncomputable def NU (n:Nat):Nat->List (FR R):=cZ 193 ⟨NT,Io,Eb n,cK R Io,false⟩ (NR n)
theorem abK (n:Nat):bH E (NU n):=dM (abJ n) (amI n)
def NV:bR:=⟨[(2,⟨[0],[],⟨[(3,.d (.int .i64))],[]⟩,[(.exit 0,⟨[],[]⟩),(.ret,⟨[(2,.d .bool)],[]⟩)]⟩)],[]⟩
abbrev NW:List Sk:=[.d (.slice (.int .i64))]
abbrev Ip:List Sk:=[.d .bool]
@[irreducible] noncomputable def Ec (n:Nat) (p:aA R.T NW):Option (aA R.T Ip):=dH E R n false (NU n) aZ NV Tryz.f214 NW Ip p
theorem amJ (n:Nat):dQ 214 NW Ip (Ec n):=fun _ _ h=>by unfold Ec at h;exact okF (abK n) h Tryz.func214 (by kernel_rfl)
noncomputable def NY (n:Nat):Nat->List (FR R):=cZ 214 ⟨NW,Ip,Ec n,cK R Ip,false⟩ (NU n)
theorem abL (n:Nat):bH E (NY n):=dM (abK n) (amJ n)
def NZ:bR:=⟨[(2,⟨[1,2],[2],⟨[(5,.d (.int .i64))],[]⟩,[(.exit 0,⟨[],[]⟩),(.ret,⟨[(4,.d (.int .i64))],[]⟩)]⟩)],[]⟩
abbrev N7:List Sk:=[.d (.st 8),.d .str]
abbrev Iq:List Sk:=[.d (.int .i64)]
@[irreducible] noncomputable def Ed (n:Nat) (p:aA R.T N7):Option (aA R.T Iq):=dH E R n false (NY n) aZ NZ Tryz.f221 N7 Iq p
theorem amK (n:Nat):dQ 221 N7 Iq (Ed n):=fun _ _ h=>by unfold Ed at h;exact okF (abL n) h Tryz.func221 (by kernel_rfl)
noncomputable def UD (n:Nat):Nat->List (FR R):=cZ 221 ⟨N7,Iq,Ed n,cK R Iq,false⟩ (NY n)
theorem abM (n:Nat):bH E (UD n):=dM (abL n) (amK n)
def amL:bR:=⟨[],[]⟩
abbrev N8:List Sk:=[.d (.st 7),.d (.st 9)]
abbrev Ir:List Sk:=[.d (.int .i64)]
@[irreducible] noncomputable def wE (n:Nat) (p:aA R.T N8):Option (aA R.T Ir):=dH E R n false (UD n) aZ amL Tryz.f222 N8 Ir p
theorem amM (n:Nat):dQ 222 N8 Ir (wE n):=fun _ _ h=>by unfold wE at h;exact okF (abM n) h Tryz.func222 (by kernel_rfl)
noncomputable def N9 (n:Nat):Nat->List (FR R):=cZ 222 ⟨N8,Ir,wE n,cK R Ir,false⟩ (UD n)
theorem abN (n:Nat):bH E (N9 n):=dM (abM n) (amM n)
def Oa:bR:=⟨[(2,⟨[1,2],[2],⟨[(5,.d (.int .i64))],[]⟩,[(.exit 0,⟨[],[]⟩),(.ret,⟨[(4,.d (.int .i64))],[]⟩)]⟩)],[]⟩
abbrev Oc:List Sk:=[.d (.st 8),.d (.slice (.st 9))]
abbrev Iu:List Sk:=[.d (.int .i64)]
@[irreducible] noncomputable def Ee (n:Nat) (p:aA R.T Oc):Option (aA R.T Iu):=dH E R n false (N9 n) aZ Oa Tryz.f215 Oc Iu p
theorem amN (n:Nat):dQ 215 Oc Iu (Ee n):=fun _ _ h=>by unfold Ee at h;exact okF (abN n) h Tryz.func215 (by kernel_rfl)
noncomputable def UE (n:Nat):Nat->List (FR R):=cZ 215 ⟨Oc,Iu,Ee n,cK R Iu,false⟩ (N9 n)
theorem abO (n:Nat):bH E (UE n):=dM (abN n) (amN n)
def amO:bR:=⟨[],[]⟩
abbrev Od:List Sk:=[.d (.st 8),.d (.st 10)]
abbrev Iw:List Sk:=[.d (.int .i64)]
@[irreducible] noncomputable def Ar (n:Nat) (p:aA R.T Od):Option (aA R.T Iw):=dH E R n false (UE n) aZ amO Tryz.f194 Od Iw p
theorem amP (n:Nat):dQ 194 Od Iw (Ar n):=fun _ _ h=>by unfold Ar at h;exact okF (abO n) h Tryz.func194 (by kernel_rfl)
noncomputable def Oe (n:Nat):Nat->List (FR R):=cZ 194 ⟨Od,Iw,Ar n,cK R Iw,false⟩ (UE n)
theorem abP (n:Nat):bH E (Oe n):=dM (abO n) (amP n)
def Og:bR:=⟨[(3,⟨[1,2],[],⟨[(5,.d (.int .i64)),(6,.d (.int .i64))],[]⟩,[(.exit 0,⟨[(5,.d (.int .i64))],[]⟩)]⟩)],[]⟩
abbrev Oh:List Sk:=[.d (.st 12),.d (.int .i64)]
abbrev Iy:List Sk:=[.d (.int .i64)]
@[irreducible] noncomputable def Ef (n:Nat) (p:aA R.T Oh):Option (aA R.T Iy):=dH E R n false (Oe n) aZ Og Tryz.f195 Oh Iy p
theorem amQ (n:Nat):dQ 195 Oh Iy (Ef n):=fun _ _ h=>by unfold Ef at h;exact okF (abP n) h Tryz.func195 (by kernel_rfl)
noncomputable def Oi (n:Nat):Nat->List (FR R):=cZ 195 ⟨Oh,Iy,Ef n,cK R Iy,false⟩ (Oe n)
theorem abQ (n:Nat):bH E (Oi n):=dM (abP n) (amQ n)
def Oj:bR:=⟨[(3,⟨[1,2,3,9],[],⟨[(10,.d (.int .i64))],[(13,.arr (.st 11))]⟩,[(.exit 0,⟨[],[(13,.arr (.st 11))]⟩)]⟩)],[]⟩
abbrev Ol:List Sk:=[.d (.slice (.st 11)),.d (.int .i64),.d (.int .i64),.d (.int .i64)]
abbrev Iz:List Sk:=[.d (.slice (.st 11))]
@[irreducible] noncomputable def Au (n:Nat) (p:aA R.T Ol):Option (aA R.T Iz):=dH E R n true (Oi n) aZ Oj Tryz.f196 Ol Iz p
theorem amR (n:Nat):dQ 196 Ol Iz (Au n):=fun _ _ h=>by unfold Au at h;exact okF (abQ n) h Tryz.func196 (by kernel_rfl)
noncomputable def Om (n:Nat):Nat->List (FR R):=cZ 196 ⟨Ol,Iz,Au n,cK R Iz,false⟩ (Oi n)
theorem abR (n:Nat):bH E (Om n):=dM (abQ n) (amR n)
def Oo:bR:=⟨[(5,⟨[2,3,5,6,9,10],[6,9,10],⟨[(11,.d (.int .i64)),(12,.l .any (.st 11)),(13,.l (.own 95) (.st 11)),(14,.d (.int .i64))],[]⟩,[(.exit 0,⟨[(11,.d (.int .i64)),(12,.l .any (.st 11)),(13,.l (.own 95) (.st 11))],[]⟩)]⟩)],[]⟩
abbrev Oq:List Sk:=[.d (.st 12),.d (.st 14),.d (.slice (.st 11)),.d (.slice (.st 22)),.d (.st 10)]
abbrev IB:List Sk:=[.d (.st 18)]
@[irreducible] noncomputable def uR (n:Nat) (p:aA R.T Oq):Option (aA R.T IB):=dH E R n false (Om n) aZ Oo Tryz.f162 Oq IB p
theorem amS (n:Nat):dQ 162 Oq IB (uR n):=fun _ _ h=>by unfold uR at h;exact okF (abR n) h Tryz.func162 (by kernel_rfl)
noncomputable def UF (n:Nat):Nat->List (FR R):=cZ 162 ⟨Oq,IB,uR n,cK R IB,false⟩ (Om n)
theorem abS (n:Nat):bH E (UF n):=dM (abR n) (amS n)
def amT:bR:=⟨[],[]⟩
abbrev Ot:List Sk:=[.d (.st 12),.d (.st 14)]
abbrev IC:List Sk:=[.d (.st 18)]
@[irreducible] noncomputable def Eh (n:Nat) (p:aA R.T Ot):Option (aA R.T IC):=dH E R n false (UF n) aZ amT Tryz.f161 Ot IC p
theorem amU (n:Nat):dQ 161 Ot IC (Eh n):=fun _ _ h=>by unfold Eh at h;exact okF (abS n) h Tryz.func161 (by kernel_rfl)
noncomputable def IE (n:Nat):Nat->List (FR R):=cZ 161 ⟨Ot,IC,Eh n,cK R IC,false⟩ (UF n)
theorem abT (n:Nat):bH E (IE n):=dM (abS n) (amU n)
def Av:bR:=⟨[(3,⟨[1,2],[],⟨[(5,.vw 42 (.st 11)),(6,.d (.int .i64))],[(42,.arr (.st 11))]⟩,[(.exit 0,⟨[(5,.vw 42 (.st 11))],[(42,.arr (.st 11))]⟩)]⟩),
 (8,⟨[1,2,5,6],[],⟨[(7,.d (.int .i64))],[(42,.arr (.st 11))]⟩,[(.exit 2,⟨[(7,.d (.int .i64))],[(42,.arr (.st 11))]⟩)]⟩)],[]⟩
abbrev Ou:List Sk:=[.d (.st 12),.d (.int .i64)]
abbrev IG:List Sk:=[.d (.slice (.st 11))]
@[irreducible] noncomputable def wF (n:Nat) (p:aA R.T Ou):Option (aA R.T IG):=dH E R n true (IE n) aZ Av Tryz.f163 Ou IG p
theorem amV (n:Nat):dQ 163 Ou IG (wF n):=fun _ _ h=>by unfold wF at h;exact okF (abT n) h Tryz.func163 (by kernel_rfl)
noncomputable def UG (n:Nat):Nat->List (FR R):=cZ 163 ⟨Ou,IG,wF n,cK R IG,false⟩ (IE n)
theorem abU (n:Nat):bH E (UG n):=dM (abT n) (amV n)
def amW:bR:=⟨[],[]⟩
abbrev Ov:List Sk:=[.d (.slice (.st 11))]
abbrev II:List Sk:=[.d (.int .i64)]
@[irreducible] noncomputable def uS (n:Nat) (p:aA R.T Ov):Option (aA R.T II):=dH E R n false (UG n) aZ amW Tryz.f197 Ov II p
theorem amX (n:Nat):dQ 197 Ov II (uS n):=fun _ _ h=>by unfold uS at h;exact okF (abU n) h Tryz.func197 (by kernel_rfl)
noncomputable def Ow (n:Nat):Nat->List (FR R):=cZ 197 ⟨Ov,II,uS n,cK R II,false⟩ (UG n)
theorem abV (n:Nat):bH E (Ow n):=dM (abU n) (amX n)
def Ox:bR:=⟨[(6,⟨[2,3,4,6,7],[4,6],⟨[(8,.l (.own 54) (.st 22)),(9,.d (.int .i64))],[]⟩,[(.exit 0,⟨[(8,.l (.own 54) (.st 22))],[]⟩)]⟩)],[]⟩
abbrev Oy:List Sk:=[.d (.st 12),.d (.st 14),.d (.slice (.st 11))]
abbrev IJ:List Sk:=[.d (.st 18)]
@[irreducible] noncomputable def wG (n:Nat) (p:aA R.T Oy):Option (aA R.T IJ):=dH E R n false (Ow n) aZ Ox Tryz.f164 Oy IJ p
theorem amY (n:Nat):dQ 164 Oy IJ (wG n):=fun _ _ h=>by unfold wG at h;exact okF (abV n) h Tryz.func164 (by kernel_rfl)
noncomputable def Oz (n:Nat):Nat->List (FR R):=cZ 164 ⟨Oy,IJ,wG n,cK R IJ,false⟩ (Ow n)
theorem abW (n:Nat):bH E (Oz n):=dM (abV n) (amY n)
def OA:bR:=⟨[(5,⟨[2,3,4,6],[4,6],⟨[(7,.l (.own 46) (.st 22)),(8,.d (.int .i64))],[]⟩,[(.exit 0,⟨[(7,.l (.own 46) (.st 22))],[]⟩)]⟩)],[]⟩
abbrev OB:List Sk:=[.d (.st 12),.d (.st 14),.d (.slice (.st 11))]
abbrev IK:List Sk:=[.d (.st 18)]
@[irreducible] noncomputable def wH (n:Nat) (p:aA R.T OB):Option (aA R.T IK):=dH E R n false (Oz n) aZ OA Tryz.f165 OB IK p
theorem amZ (n:Nat):dQ 165 OB IK (wH n):=fun _ _ h=>by unfold wH at h;exact okF (abW n) h Tryz.func165 (by kernel_rfl)
noncomputable def OC (n:Nat):Nat->List (FR R):=cZ 165 ⟨OB,IK,wH n,cK R IK,false⟩ (Oz n)
theorem abX (n:Nat):bH E (OC n):=dM (abW n) (amZ n)
def OD:bR:=⟨[(8,⟨[2,3,4,6,7],[4,6],⟨[(8,.l (.own 78) (.st 22)),(9,.d (.int .i64))],[]⟩,[(.exit 0,⟨[(8,.l (.own 78) (.st 22))],[]⟩)]⟩)],[]⟩
abbrev OE:List Sk:=[.d (.st 12),.d (.st 14),.d (.slice (.st 11))]
abbrev IL:List Sk:=[.d (.st 18)]
@[irreducible] noncomputable def wI (n:Nat) (p:aA R.T OE):Option (aA R.T IL):=dH E R n false (OC n) aZ OD Tryz.f166 OE IL p
theorem am0 (n:Nat):dQ 166 OE IL (wI n):=fun _ _ h=>by unfold wI at h;exact okF (abX n) h Tryz.func166 (by kernel_rfl)
noncomputable def UH (n:Nat):Nat->List (FR R):=cZ 166 ⟨OE,IL,wI n,cK R IL,false⟩ (OC n)
theorem abY (n:Nat):bH E (UH n):=dM (abX n) (am0 n)
def am1:bR:=⟨[],[]⟩
abbrev OG:List Sk:=[.d (.st 12),.d (.st 14)]
abbrev IQ:List Sk:=[.d (.st 18)]
@[irreducible] noncomputable def Aw (n:Nat) (p:aA R.T OG):Option (aA R.T IQ):=dH E R n false (UH n) aZ am1 Tryz.f113 OG IQ p
theorem am2 (n:Nat):dQ 113 OG IQ (Aw n):=fun _ _ h=>by unfold Aw at h;exact okF (abY n) h Tryz.func113 (by kernel_rfl)
noncomputable def OH (n:Nat):Nat->List (FR R):=cZ 113 ⟨OG,IQ,Aw n,cK R IQ,false⟩ (UH n)
theorem abZ (n:Nat):bH E (OH n):=dM (abY n) (am2 n)
def OI:bR:=⟨[(3,⟨[1,4,5],[],⟨[(6,.d (.int .i64))],[(4,.st 16),(5,.st 18)]⟩,[(.exit 0,⟨[],[(4,.st 16),(5,.st 18)]⟩),(.ret,⟨[],[(4,.st 16)]⟩)]⟩)],[]⟩
abbrev OJ:List Sk:=[.d (.st 8),.d (.slice (.st 14))]
abbrev IU:List Sk:=[.d (.st 16)]
@[irreducible] noncomputable def Ei (n:Nat) (p:aA R.T OJ):Option (aA R.T IU):=dH E R n false (OH n) aZ OI Tryz.f59 OJ IU p
theorem am3 (n:Nat):dQ 59 OJ IU (Ei n):=fun _ _ h=>by unfold Ei at h;exact okF (abZ n) h Tryz.func59 (by kernel_rfl)
noncomputable def UJ (n:Nat):Nat->List (FR R):=cZ 59 ⟨OJ,IU,Ei n,cK R IU,false⟩ (OH n)
theorem ab0 (n:Nat):bH E (UJ n):=dM (abZ n) (am3 n)
def am4:bR:=⟨[],[]⟩
abbrev OL:List Sk:=[.d (.st 8),.d (.slice (.st 14))]
abbrev IW:List Sk:=[.d (.st 12),.d .bool]
@[irreducible] noncomputable def qV (n:Nat) (p:aA R.T OL):Option (aA R.T IW):=dH E R n false (UJ n) aZ am4 Tryz.f33 OL IW p
theorem am5 (n:Nat):dQ 33 OL IW (qV n):=fun _ _ h=>by unfold qV at h;exact okF (ab0 n) h Tryz.func33 (by kernel_rfl)
noncomputable def ab1 (n:Nat):Nat->List (FR R):=cZ 33 ⟨OL,IW,qV n,cK R IW,false⟩ (UJ n)
theorem am6 (n:Nat):bH E (ab1 n):=dM (ab0 n) (am5 n)
abbrev IX:List Sk:=[]
abbrev IY:List Sk:=[.d .bool]
@[irreducible] def gZ (n:Nat) (p:aA R.T IX):Option (aA R.T IY):=some true
theorem am7 (n:Nat) (p:aA R.T IX):gZ n p=some true:=by unfold gZ;rfl
theorem am8 (n:Nat) (p:aA R.T IX) (x:aA R.T IY) (h:gZ n p=some x):Pure E 12 (bG R IX p) (lJ (bG R IY x)):=by
 unfold gZ at h
 exact amt p x h
noncomputable def UK (n:Nat):Nat->List (FR R):=cZ 12 ⟨IX,IY,gZ n,cK R IY,false⟩ (ab1 n)
theorem ab2 (n:Nat):bH E (UK n):=dM (am6 n) (am8 n)
def am9:bR:=⟨[],[]⟩
abbrev OM:List Sk:=[.d (.st 12),.d (.int .i64)]
abbrev IZ:List Sk:=[.d (.int .i64)]
@[irreducible] noncomputable def Ay (n:Nat) (p:aA R.T OM):Option (aA R.T IZ):=dH E R n false (UK n) aZ am9 Tryz.f129 OM IZ p
theorem ana (n:Nat):dQ 129 OM IZ (Ay n):=fun _ _ h=>by unfold Ay at h;exact okF (ab2 n) h Tryz.func129 (by kernel_rfl)
noncomputable def UL (n:Nat):Nat->List (FR R):=cZ 129 ⟨OM,IZ,Ay n,cK R IZ,false⟩ (UK n)
theorem ab3 (n:Nat):bH E (UL n):=dM (ab2 n) (ana n)
def anb:bR:=⟨[],[]⟩
abbrev OO:List Sk:=[.d (.st 12),.d (.st 11)]
abbrev I4:List Sk:=[.d .bool]
@[irreducible] noncomputable def Az (n:Nat) (p:aA R.T OO):Option (aA R.T I4):=dH E R n false (UL n) aZ anb Tryz.f83 OO I4 p
theorem anc (n:Nat):dQ 83 OO I4 (Az n):=fun _ _ h=>by unfold Az at h;exact okF (ab3 n) h Tryz.func83 (by kernel_rfl)
noncomputable def UM (n:Nat):Nat->List (FR R):=cZ 83 ⟨OO,I4,Az n,cK R I4,false⟩ (UL n)
theorem ab4 (n:Nat):bH E (UM n):=dM (ab3 n) (anc n)
def ane:bR:=⟨[],[]⟩
abbrev OP:List Sk:=[.d (.st 11),.aK [.d (.int .i64),.d (.int .i64),.d (.slice (.st 7)),.d (.int .i64),.d (.int .i64),.d (.slice (.int .i64)),.d (.slice (.st 11))] 0]
abbrev I5:List Sk:=[.d .bool]
@[irreducible] noncomputable def Ej (n:Nat) (p:aA R.T OP):Option (aA R.T I5):=dH E R n false (UM n) aZ ane Tryz.f82 OP I5 p
theorem anf (n:Nat):dQ 82 OP I5 (Ej n):=fun _ _ h=>by unfold Ej at h;exact okF (ab4 n) h Tryz.func82 (by kernel_rfl)
noncomputable def OQ (n:Nat):Nat->List (FR R):=cZ 82 ⟨OP,I5,Ej n,cK R I5,false⟩ (UM n)
theorem ab5 (n:Nat):bH E (OQ n):=dM (ab4 n) (anf n)
def OT:bR:=⟨[(2,⟨[1,8,9],[],⟨[(4,.l (.own 20) (.st 11)),(5,.l (.own 24) (.st 11)),(10,.d (.int .i64))],[]⟩,[(.exit 0,⟨[(4,.l (.own 20) (.st 11)),(5,.l (.own 24) (.st 11))],[]⟩)]⟩)],[]⟩
abbrev OU:List Sk:=[.d (.slice (.st 11)),.fn 82 [] [.aK [.d (.int .i64),.d (.int .i64),.d (.slice (.st 7)),.d (.int .i64),.d (.int .i64),.d (.slice (.int .i64)),.d (.slice (.st 11))] 0]]
abbrev I6:List Sk:=[.d (.slice (.st 11)),.d (.slice (.st 11))]
@[irreducible] noncomputable def I7 (n:Nat) (p:aA R.T OU):Option (aA R.T I6):=dH E R n false (OQ n) aZ OT Tryz.f81 OU I6 p
theorem ang (n:Nat):dQ 81 OU I6 (I7 n):=fun _ _ h=>by unfold I7 at h;exact okF (ab5 n) h Tryz.func81 (by kernel_rfl)
noncomputable def UN (n:Nat):Nat->List (FR R):=cZ 81 ⟨OU,I6,I7 n,cK R I6,false⟩ (OQ n)
theorem ab6 (n:Nat):bH E (UN n):=dM (ab5 n) (ang n)
def anh:bR:=⟨[],[]⟩
abbrev OV:List Sk:=[.d (.st 11)]
abbrev I8:List Sk:=[.d .bool]
@[irreducible] noncomputable def I9 (n:Nat) (p:aA R.T OV):Option (aA R.T I8):=dH E R n false (UN n) aZ anh Tryz.f84 OV I8 p
theorem ani (n:Nat):dQ 84 OV I8 (I9 n):=fun _ _ h=>by unfold I9 at h;exact okF (ab6 n) h Tryz.func84 (by kernel_rfl)
noncomputable def OX (n:Nat):Nat->List (FR R):=cZ 84 ⟨OV,I8,I9 n,cK R I8,false⟩ (UN n)
theorem ab7 (n:Nat):bH E (OX n):=dM (ab6 n) (ani n)
def OY:bR:=⟨[(2,⟨[1,8,9],[],⟨[(4,.l (.own 20) (.st 11)),(5,.l (.own 24) (.st 11)),(10,.d (.int .i64))],[]⟩,[(.exit 0,⟨[(4,.l (.own 20) (.st 11)),(5,.l (.own 24) (.st 11))],[]⟩)]⟩)],[]⟩
abbrev OZ:List Sk:=[.d (.slice (.st 11)),.fn 84 [] []]
abbrev Ja:List Sk:=[.d (.slice (.st 11)),.d (.slice (.st 11))]
@[irreducible] noncomputable def Jb (n:Nat) (p:aA R.T OZ):Option (aA R.T Ja):=dH E R n false (OX n) aZ OY Tryz.f81 OZ Ja p
theorem anj (n:Nat):dQ 81 OZ Ja (Jb n):=fun _ _ h=>by unfold Jb at h;exact okF (ab7 n) h Tryz.func81 (by kernel_rfl)
noncomputable def UO (n:Nat):Nat->List (FR R):=cZ 81 ⟨OZ,Ja,Jb n,cK R Ja,false⟩ (OX n)
theorem ab8 (n:Nat):bH E (UO n):=dM (ab7 n) (anj n)
def ank:bR:=⟨[],[]⟩
abbrev O1:List Sk:=[.d (.st 12)]
abbrev Jc:List Sk:=[.d (.slice (.st 11)),.d (.slice (.st 11))]
@[irreducible] noncomputable def qp (n:Nat) (p:aA R.T O1):Option (aA R.T Jc):=dH E R n false (UO n) aZ ank Tryz.f35 O1 Jc p
theorem anl (n:Nat):dQ 35 O1 Jc (qp n):=fun _ _ h=>by unfold qp at h;exact okF (ab8 n) h Tryz.func35 (by kernel_rfl)
noncomputable def O4 (n:Nat):Nat->List (FR R):=cZ 35 ⟨O1,Jc,qp n,cK R Jc,false⟩ (UO n)
theorem ab9 (n:Nat):bH E (O4 n):=dM (ab8 n) (anl n)
def O5:bR:=⟨[(5,⟨[],[],⟨[(3,.d (.int .u64)),(4,.l (.own 23) (.int .u8))],[]⟩,[(.exit 0,⟨[(3,.d (.int .u64)),(4,.l (.own 23) (.int .u8))],[]⟩)]⟩)],[]⟩
abbrev El:List Sk:=[.d (.int .i64)]
abbrev UQ:List Sk:=[.d (.slice (.int .u8))]
@[irreducible] noncomputable def uT (n:Nat) (p:aA R.T El):Option (aA R.T UQ):=zK E R n false (O4 n) aZ O5 Tryz.f93 El (.int .u8) p
theorem anm (n:Nat) (p:aA R.T El) (x:aA R.T UQ) (h:uT n p=some x):Pure E 93 (bG R El p) (.aj .sh (List.map (aG R (.int .u8)) x))/\oC E 93 (bG R El p) (dx R (.int .u8)) (List.map (aG R (.int .u8)) x):=by
 unfold uT at h
 exact GY nU (ab9 n) yB h Tryz.func93 rfl rfl rfl rfl (by kernel_rfl)
noncomputable def O6 (n:Nat):Nat->List (FR R):=cZ 93 ⟨El,[.d (.slice (.int .u8))],uT n,cK R UQ,true⟩ (O4 n)
theorem acd (n:Nat):bH E (O6 n):=G5 (G:=uT n) (ab9 n) (anm n)
def O7:bR:=⟨[(3,⟨[0],[],⟨[(3,.l (.own 7) (.int .u8)),(4,.d (.int .i64))],[]⟩,[(.exit 0,⟨[(3,.l (.own 7) (.int .u8))],[]⟩)]⟩)],[]⟩
abbrev Em:List Sk:=[.d (.slice (.int .i64))]
abbrev UR:List Sk:=[.d (.slice (.int .u8))]
@[irreducible] noncomputable def AA (n:Nat) (p:aA R.T Em):Option (aA R.T UR):=zK E R n false (O6 n) aZ O7 Tryz.f73 Em (.int .u8) p
theorem ano (n:Nat) (p:aA R.T Em) (x:aA R.T UR) (h:AA n p=some x):Pure E 73 (bG R Em p) (.aj .sh (List.map (aG R (.int .u8)) x))/\oC E 73 (bG R Em p) (dx R (.int .u8)) (List.map (aG R (.int .u8)) x):=by
 unfold AA at h
 exact GY nU (acd n) yB h Tryz.func73 rfl rfl rfl rfl (by kernel_rfl)
noncomputable def UU (n:Nat):Nat->List (FR R):=cZ 73 ⟨Em,[.d (.slice (.int .u8))],AA n,cK R UR,true⟩ (O6 n)
theorem ace (n:Nat):bH E (UU n):=G5 (G:=AA n) (acd n) (ano n)
def anp:bR:=⟨[],[]⟩
abbrev O8:List Sk:=[.d .str]
abbrev Jd:List Sk:=[.d (.slice (.int .u8))]
@[irreducible] noncomputable def En (n:Nat) (p:aA R.T O8):Option (aA R.T Jd):=dH E R n false (UU n) aZ anp Tryz.f171 O8 Jd p
theorem anq (n:Nat):dQ 171 O8 Jd (En n):=fun _ _ h=>by unfold En at h;exact okF (ace n) h Tryz.func171 (by kernel_rfl)
noncomputable def O9 (n:Nat):Nat->List (FR R):=cZ 171 ⟨O8,Jd,En n,cK R Jd,false⟩ (UU n)
theorem acf (n:Nat):bH E (O9 n):=dM (ace n) (anq n)
def Pb:bR:=⟨[(3,⟨[0],[],⟨[(3,.l (.own 7) (.int .u8)),(4,.d (.int .i64))],[]⟩,[(.exit 0,⟨[(3,.l (.own 7) (.int .u8))],[]⟩)]⟩)],[]⟩
abbrev Pd:List Sk:=[.d (.slice .str)]
abbrev Je:List Sk:=[.d (.slice (.int .u8))]
@[irreducible] noncomputable def Eo (n:Nat) (p:aA R.T Pd):Option (aA R.T Je):=dH E R n false (O9 n) aZ Pb Tryz.f137 Pd Je p
theorem anr (n:Nat):dQ 137 Pd Je (Eo n):=fun _ _ h=>by unfold Eo at h;exact okF (acf n) h Tryz.func137 (by kernel_rfl)
noncomputable def Pe (n:Nat):Nat->List (FR R):=cZ 137 ⟨Pd,Je,Eo n,cK R Je,false⟩ (O9 n)
theorem acg (n:Nat):bH E (Pe n):=dM (acf n) (anr n)
def Pf:bR:=⟨[(6,⟨[1],[1],⟨[(3,.l (.own 28) (.int .i64)),(4,.l (.own 71) .str),(5,.d (.int .i64))],[]⟩,[(.exit 0,⟨[(3,.l (.own 28) (.int .i64)),(4,.l (.own 71) .str)],[]⟩)]⟩)],[]⟩
abbrev Pg:List Sk:=[.d (.st 10)]
abbrev Jf:List Sk:=[.d (.slice (.int .u8))]
@[irreducible] noncomputable def AB (n:Nat) (p:aA R.T Pg):Option (aA R.T Jf):=dH E R n false (Pe n) aZ Pf Tryz.f94 Pg Jf p
theorem ant (n:Nat):dQ 94 Pg Jf (AB n):=fun _ _ h=>by unfold AB at h;exact okF (acg n) h Tryz.func94 (by kernel_rfl)
noncomputable def UW (n:Nat):Nat->List (FR R):=cZ 94 ⟨Pg,Jf,AB n,cK R Jf,false⟩ (Pe n)
theorem ach (n:Nat):bH E (UW n):=dM (acg n) (ant n)
def anu:bR:=⟨[],[]⟩
abbrev Ph:List Sk:=[.d (.st 10),.d (.st 10)]
abbrev Jg:List Sk:=[.d .bool]
@[irreducible] noncomputable def yK (n:Nat) (p:aA R.T Ph):Option (aA R.T Jg):=dH E R n false (UW n) aZ anu Tryz.f85 Ph Jg p
theorem anv (n:Nat):dQ 85 Ph Jg (yK n):=fun _ _ h=>by unfold yK at h;exact okF (ach n) h Tryz.func85 (by kernel_rfl)
noncomputable def Pj (n:Nat):Nat->List (FR R):=cZ 85 ⟨Ph,Jg,yK n,cK R Jg,false⟩ (UW n)
theorem aci (n:Nat):bH E (Pj n):=dM (ach n) (anv n)
def Pk:bR:=⟨[(2,⟨[0,3],[3],⟨[(5,.d (.int .i64))],[]⟩,[(.exit 0,⟨[],[]⟩),(.ret,⟨[(4,.d .bool)],[]⟩)]⟩)],[]⟩
abbrev Pm:List Sk:=[.d (.slice (.st 11)),.d (.st 10)]
abbrev Jh:List Sk:=[.d .bool]
@[irreducible] noncomputable def nC (n:Nat) (p:aA R.T Pm):Option (aA R.T Jh):=dH E R n false (Pj n) aZ Pk Tryz.f55 Pm Jh p
theorem anw (n:Nat):dQ 55 Pm Jh (nC n):=fun _ _ h=>by unfold nC at h;exact okF (aci n) h Tryz.func55 (by kernel_rfl)
noncomputable def UY (n:Nat):Nat->List (FR R):=cZ 55 ⟨Pm,Jh,nC n,cK R Jh,false⟩ (Pj n)
theorem acj (n:Nat):bH E (UY n):=dM (aci n) (anw n)
def anx:bR:=⟨[],[]⟩
abbrev Pn:List Sk:=[.d (.int .i64)]
abbrev Ji:List Sk:=[.d .bool]
@[irreducible] noncomputable def cmp_isNaN_int (n:Nat) (p:aA R.T Pn):Option (aA R.T Ji):=dH E R n false (UY n) aZ anx Tryz.f159 Pn Ji p
theorem anz (n:Nat):dQ 159 Pn Ji (cmp_isNaN_int n):=fun _ _ h=>by unfold cmp_isNaN_int at h;exact okF (acj n) h Tryz.func159 (by kernel_rfl)
noncomputable def UZ (n:Nat):Nat->List (FR R):=cZ 159 ⟨Pn,Ji,cmp_isNaN_int n,cK R Ji,false⟩ (UY n)
theorem acn (n:Nat):bH E (UZ n):=dM (acj n) (anz n)
def anA:bR:=⟨[],[]⟩
abbrev Po:List Sk:=[.d (.int .i64),.d (.int .i64)]
abbrev Jj:List Sk:=[.d (.int .i64)]
@[irreducible] noncomputable def cmp_Compare_int (n:Nat) (p:aA R.T Po):Option (aA R.T Jj):=dH E R n false (UZ n) aZ anA Tryz.f111 Po Jj p
theorem anB (n:Nat):dQ 111 Po Jj (cmp_Compare_int n):=fun _ _ h=>by unfold cmp_Compare_int at h;exact okF (acn n) h Tryz.func111 (by kernel_rfl)
noncomputable def U0 (n:Nat):Nat->List (FR R):=cZ 111 ⟨Po,Jj,cmp_Compare_int n,cK R Jj,false⟩ (UZ n)
theorem aco (n:Nat):bH E (U0 n):=dM (acn n) (anB n)
def anC:bR:=⟨[],[]⟩
abbrev Pp:List Sk:=[.d (.st 10),.d (.st 10)]
abbrev Jk:List Sk:=[.d (.int .i64)]
@[irreducible] noncomputable def tO (n:Nat) (p:aA R.T Pp):Option (aA R.T Jk):=dH E R n false (U0 n) aZ anC Tryz.f110 Pp Jk p
theorem anD (n:Nat):dQ 110 Pp Jk (tO n):=fun _ _ h=>by unfold tO at h;exact okF (aco n) h Tryz.func110 (by kernel_rfl)
noncomputable def kM (n:Nat):Nat->List (FR R):=cZ 110 ⟨Pp,Jk,tO n,cK R Jk,false⟩ (U0 n)
theorem yL (n:Nat):bH E (kM n):=dM (aco n) (anD n)
def AJ:bR:=⟨[(1,⟨[0,1,2,3],[],⟨[(8,.d (.int .i64))],[(1000000,.arr (.st 10))]⟩,[(.exit 0,⟨[],[(1000000,.arr (.st 10))]⟩)]⟩),
 (4,⟨[0,1,2,3,8],[],⟨[(9,.d (.int .i64))],[(1000000,.arr (.st 10))]⟩,[(.exit 2,⟨[],[(1000000,.arr (.st 10))]⟩)]⟩)],[]⟩
abbrev Jl:List Sk:=[.vw 1000000 (.st 10),.d (.int .i64),.d (.int .i64),.fn 110 [] []]
abbrev Jm:List Sk:=[]
abbrev Ep:List (Nat×gU):=[(1000000,.arr (.st 10))]
@[irreducible] noncomputable def uU (n:Nat) (p:aA R.T Jl) (q:gy R.T Ep):Option (aA R.T Jm×gy R.T Ep):=vS E R n false (kM n) aZ AJ Tryz.f189 Jl Ep Jm p q
theorem anE (n:Nat):wh E 189 (⟨Jl,Ep,Jm,uU n⟩:FM R):=by
 intro p q y q' h
 have h:uU n p q=some (y,q'):=h
 unfold uU at h
 exact Dr nU (yL n) yB h Tryz.func189 rfl (by kernel_rfl)
noncomputable def Pq (n:Nat):IR R:=qg 189 ⟨Jl,Ep,Jm,uU n⟩ aZ
theorem acp (n:Nat):oO E (Pq n):=zU (m:=⟨Jl,Ep,Jm,uU n⟩) yB (anE n)
def Pt:bR:=⟨[(1,⟨[0,1,2,3],[],⟨[(10,.d (.int .i64))],[(1000000,.arr (.st 10))]⟩,[(.exit 0,⟨[],[(1000000,.arr (.st 10))]⟩)]⟩)],[]⟩
abbrev Jo:List Sk:=[.vw 1000000 (.st 10),.d (.int .i64),.d (.int .i64),.d (.int .i64),.fn 110 [] []]
abbrev Jp:List Sk:=[]
abbrev Er:List (Nat×gU):=[(1000000,.arr (.st 10))]
@[irreducible] noncomputable def tQ (n:Nat) (p:aA R.T Jo) (q:gy R.T Er):Option (aA R.T Jp×gy R.T Er):=vS E R n false (kM n) (Pq n) Pt Tryz.f219 Jo Er Jp p q
theorem anF (n:Nat):wh E 219 (⟨Jo,Er,Jp,tQ n⟩:FM R):=by
 intro p q y q' h
 have h:tQ n p q=some (y,q'):=h
 unfold tQ at h
 exact Dr nU (yL n) (acp n) h Tryz.func219 rfl (by kernel_rfl)
noncomputable def Pv (n:Nat):IR R:=qg 219 ⟨Jo,Er,Jp,tQ n⟩ (Pq n)
theorem acr (n:Nat):oO E (Pv n):=zU (m:=⟨Jo,Er,Jp,tQ n⟩) (acp n) (anF n)
def Pw:bR:=⟨[(2,⟨[0,2,4],[],⟨[(10,.d (.int .i64)),(11,.d (.int .i64))],[(1000000,.arr (.st 10))]⟩,[(.exit 0,⟨[(10,.d (.int .i64))],[(1000000,.arr (.st 10))]⟩)]⟩)],[]⟩
abbrev Jq:List Sk:=[.vw 1000000 (.st 10),.d (.int .i64),.d (.int .i64),.d (.int .i64),.fn 110 [] []]
abbrev Jr:List Sk:=[]
abbrev Es:List (Nat×gU):=[(1000000,.arr (.st 10))]
@[irreducible] noncomputable def uV (n:Nat) (p:aA R.T Jq) (q:gy R.T Es):Option (aA R.T Jr×gy R.T Es):=vS E R n false (kM n) (Pv n) Pw Tryz.f211 Jq Es Jr p q
theorem anG (n:Nat):wh E 211 (⟨Jq,Es,Jr,uV n⟩:FM R):=by
 intro p q y q' h
 have h:uV n p q=some (y,q'):=h
 unfold uV at h
 exact Dr nU (yL n) (acr n) h Tryz.func211 rfl (by kernel_rfl)
noncomputable def wJ (n:Nat):IR R:=qg 211 ⟨Jq,Es,Jr,uV n⟩ (Pv n)
theorem acs (n:Nat):oO E (wJ n):=zU (m:=⟨Jq,Es,Jr,uV n⟩) (acr n) (anG n)
def nD:bR:=⟨[(3,⟨[0,1,4],[1000000],⟨[(10,.d (.int .i64)),(11,.d (.int .i64))],[]⟩,[(.exit 0,⟨[(10,.d (.int .i64))],[]⟩)]⟩),
 (9,⟨[0,10],[],⟨[(13,.d (.int .i64))],[(1000000,.arr (.st 10))]⟩,[(.exit 2,⟨[],[(1000000,.arr (.st 10))]⟩)]⟩),
 (15,⟨[0,2,4],[1000000],⟨[(14,.d (.int .i64)),(15,.d (.int .i64))],[]⟩,[(.exit 4,⟨[(14,.d (.int .i64))],[]⟩)]⟩),
 (21,⟨[0,14],[],⟨[(17,.d (.int .i64))],[(1000000,.arr (.st 10))]⟩,[(.exit 6,⟨[],[(1000000,.arr (.st 10))]⟩)]⟩),
 (33,⟨[0,1,2,3,4,18,19,22],[1000000],⟨[(20,.d (.int .i64)),(21,.d (.int .i64))],[]⟩,[(.exit 8,⟨[(20,.d (.int .i64))],[]⟩)]⟩)],[]⟩
abbrev mU:List Sk:=[.vw 1000000 (.st 10),.d (.int .i64),.d (.int .i64),.d (.int .i64),.fn 110 [] []]
abbrev nV:List Sk:=[]
abbrev lT:List (Nat×gU):=[(1000000,.arr (.st 10))]
noncomputable def jw (n:Nat):Nat->aA R.T mU->gy R.T lT->Option (aA R.T nV×gy R.T lT)
 |0,_,_=>none
 |m+1,p,q=>vS E R n false (kM n) (qg 190 ⟨mU,lT,nV,jw n m⟩ (wJ n)) nD Tryz.f190 mU lT nV p q
attribute [irreducible] jw
theorem anH (n m:Nat) (p:aA R.T mU) (q:gy R.T lT):jw n (m+1) p q=vS E R n false (kM n) (qg 190 ⟨mU,lT,nV,jw n m⟩ (wJ n)) nD Tryz.f190 mU lT nV p q:=by kernel_rfl
theorem anI (n:Nat) (p:aA R.T mU) (q:gy R.T lT):jw n 0 p q=none:=by kernel_rfl
theorem acu (n:Nat):∀m,wh E 190 (⟨mU,lT,nV,jw n m⟩:FM R)
 |0=>fun p q y q' h=>absurd (((anI n p q).symm.trans h)) nofun
 |m+1=>fun p q y q' h=>Dr nU (yL n) (zU (m:=⟨mU,lT,nV,jw n m⟩) (acs n) (acu n m)) ((anH n m p q).symm.trans h) Tryz.func190 rfl (by kernel_rfl)
@[irreducible] noncomputable def wK (n:Nat):aA R.T mU->gy R.T lT->Option (aA R.T nV×gy R.T lT):=jw n n
theorem anJ (n:Nat):wh E 190 (⟨mU,lT,nV,wK n⟩:FM R):=by
 unfold wK
 exact acu n n
noncomputable def Et (n:Nat):IR R:=qg 190 ⟨mU,lT,nV,wK n⟩ (wJ n)
theorem acv (n:Nat):oO E (Et n):=zU (m:=⟨mU,lT,nV,wK n⟩) (acs n) (anJ n)
def uW:bR:=⟨[(2,⟨[0,1,2,6],[],⟨[(7,.d (.int .i64)),(8,.d (.int .i64))],[(1000000,.arr (.st 10))]⟩,[(.exit 0,⟨[(7,.d (.int .i64))],[(1000000,.arr (.st 10))]⟩)]⟩),
 (7,⟨[0,1,2],[],⟨[(6,.d (.int .i64))],[(1000000,.arr (.st 10))]⟩,[(.exit 2,⟨[],[(1000000,.arr (.st 10))]⟩)]⟩),
 (9,⟨[0,1,2,6],[],⟨[(7,.d (.int .i64)),(8,.d (.int .i64))],[(1000000,.arr (.st 10))]⟩,[(.exit 4,⟨[(7,.d (.int .i64))],[(1000000,.arr (.st 10))]⟩)]⟩)],[]⟩
abbrev Js:List Sk:=[.vw 1000000 (.st 10),.d (.int .i64),.fn 110 [] []]
abbrev Jt:List Sk:=[]
abbrev Eu:List (Nat×gU):=[(1000000,.arr (.st 10))]
@[irreducible] noncomputable def yM (n:Nat) (p:aA R.T Js) (q:gy R.T Eu):Option (aA R.T Jt×gy R.T Eu):=vS E R n false (kM n) (Et n) uW Tryz.f158 Js Eu Jt p q
theorem anK (n:Nat):wh E 158 (⟨Js,Eu,Jt,yM n⟩:FM R):=by
 intro p q y q' h
 have h:yM n p q=some (y,q'):=h
 unfold yM at h
 exact Dr nU (yL n) (acv n) h Tryz.func158 rfl (by kernel_rfl)
noncomputable def U3 (n:Nat):IR R:=qg 158 ⟨Js,Eu,Jt,yM n⟩ (Et n)
theorem acw (n:Nat):oO E (U3 n):=zU (m:=⟨Js,Eu,Jt,yM n⟩) (acv n) (anK n)
def anL:bR:=⟨[],[]⟩
abbrev Ju:List Sk:=[.vw 1000000 (.st 10),.fn 110 [] []]
abbrev Jv:List Sk:=[]
abbrev Ev:List (Nat×gU):=[(1000000,.arr (.st 10))]
@[irreducible] noncomputable def yN (n:Nat) (p:aA R.T Ju) (q:gy R.T Ev):Option (aA R.T Jv×gy R.T Ev):=vS E R n false (kM n) (U3 n) anL Tryz.f109 Ju Ev Jv p q
theorem anM (n:Nat):wh E 109 (⟨Ju,Ev,Jv,yN n⟩:FM R):=by
 intro p q y q' h
 have h:yN n p q=some (y,q'):=h
 unfold yN at h
 exact Dr nU (yL n) (acw n) h Tryz.func109 rfl (by kernel_rfl)
noncomputable def wL (n:Nat):IR R:=qg 109 ⟨Ju,Ev,Jv,yN n⟩ (U3 n)
theorem U4 (n:Nat):oO E (wL n):=zU (m:=⟨Ju,Ev,Jv,yN n⟩) (acw n) (anM n)
def Px:bR:=⟨[(3,⟨[3,10,11],[3],⟨[(5,.vw 52 (.st 10)),(12,.d (.int .i64))],[(52,.arr (.st 10))]⟩,[(.exit 0,⟨[(5,.vw 52 (.st 10))],[(52,.arr (.st 10))]⟩)]⟩)],[]⟩
abbrev Jw:List Sk:=[.d (.st 12),.d (.st 15)]
abbrev Ew:List Sk:=[.d (.slice (.st 10))]
@[irreducible] noncomputable def Ey (n:Nat) (p:aA R.T Jw):Option (aA R.T Ew):=dH E R n true (kM n) (wL n) Px Tryz.f56 Jw Ew p
theorem anN (n:Nat) (p:aA R.T Jw) (x:aA R.T Ew) (h:Ey n p=some x):Pure E 56 (bG R Jw p) (lJ (bG R Ew x)):=by
 unfold Ey at h
 exact ME nU (yL n) (U4 n) h Tryz.func56 rfl rfl rfl rfl (by kernel_rfl)
noncomputable def Py (n:Nat):Nat->List (FR R):=cZ 56 ⟨Jw,Ew,Ey n,cK R Ew,false⟩ (kM n)
theorem acy (n:Nat):bH E (Py n):=dM (yL n) (anN n)
def Pz:bR:=⟨[(4,⟨[0,1],[],⟨[(5,.d (.int .i64))],[]⟩,[(.exit 0,⟨[],[]⟩),(.ret,⟨[(4,.d .bool)],[]⟩)]⟩)],[]⟩
abbrev Jy:List Sk:=[.d (.slice (.st 11)),.d (.slice (.st 11))]
abbrev Ez:List Sk:=[.d .bool]
@[irreducible] noncomputable def sF (n:Nat) (p:aA R.T Jy):Option (aA R.T Ez):=dH E R n false (Py n) (wL n) Pz Tryz.f36 Jy Ez p
theorem anO (n:Nat) (p:aA R.T Jy) (x:aA R.T Ez) (h:sF n p=some x):Pure E 36 (bG R Jy p) (lJ (bG R Ez x)):=by
 unfold sF at h
 exact ME nU (acy n) (U4 n) h Tryz.func36 rfl rfl rfl rfl (by kernel_rfl)
noncomputable def Jz (n:Nat):Nat->List (FR R):=cZ 36 ⟨Jy,Ez,sF n,cK R Ez,false⟩ (Py n)
theorem anP (n:Nat):bH E (Jz n):=dM (acy n) (anO n)
def uX:bR:=⟨[(6,⟨[1,2,4,5,8,11,13,14],[5,8,11],⟨[(15,.d (.int .i64))],[]⟩,[(.exit 0,⟨[],[]⟩),(.ret,⟨[(10,.d .bool)],[]⟩)]⟩),
 (15,⟨[1,4,5,8,11,13,14,20],[5,8,11],⟨[(22,.d (.int .i64))],[]⟩,[(.exit 2,⟨[],[]⟩),(.ret,⟨[(10,.d .bool)],[]⟩)]⟩),
 (22,⟨[1,4,5,11,13,14,23],[5,11],⟨[(24,.d (.int .i64))],[]⟩,[(.exit 4,⟨[],[]⟩),(.ret,⟨[(10,.d .bool)],[]⟩)]⟩)],[]⟩
abbrev PD:List Sk:=[.d (.st 8),.d (.slice (.st 14)),.d (.int .u8),.d (.st 15),.d (.slice (.int .i64))]
abbrev PE:List Sk:=[.d .bool]
@[irreducible] noncomputable def PG (n:Nat) (p:aA R.T PD):Option (aA R.T PE):=dH E R n true (Jz n) (wL n) uX Tryz.f9 PD PE p
theorem anQ (n:Nat) (p:aA R.T PD) (x:aA R.T PE) (h:PG n p=some x):Pure E 9 (bG R PD p) (lJ (bG R PE x)):=by
 unfold PG at h
 exact ME nU (anP n) (U4 n) h Tryz.func9 rfl rfl rfl rfl (by kernel_rfl)
end Sh
