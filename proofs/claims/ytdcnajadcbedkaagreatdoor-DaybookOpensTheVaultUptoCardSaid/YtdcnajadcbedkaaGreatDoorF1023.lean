import Derived.Test.YtdcnajadcbedkaaGreatDoorF1022
set_option linter.all false
noncomputable section
open Go Go.Proofs aQ
namespace Sh
set_option maxRecDepth 100000
variable (n:Nat)
def amc:bB:=⟨[(2,⟨[1],[1],⟨[(3,aH)],[]⟩,[(.exit 0,⟨[],[]⟩),(.ret,⟨[(2,.d .bool)],[]⟩)]⟩)],[]⟩
abbrev abr:aI:=[.d (.st 10)]
abbrev abt:aI:=[.d .bool]
@[irreducible] def Ka:dn abr abt:=bP E R n false (Ue n) bn amc Tryz.f34 abr abt
def Uy:bK:=dA 34 abr abt (Ka n) (Ue n)
theorem azE:bg E (Uy n):=bX (axP n) dW (by unfold Ka;rfl) Tryz.func34 av
def amd:bB:=⟨[(2,⟨[0,1],[],⟨[(5,aH)],[]⟩,[(.exit 0,⟨[],[]⟩),(.ret,⟨[(4,.d .bool)],[]⟩)]⟩)],[]⟩
abbrev abu:aI:=[.d (.slice (.st 14)),aH]
abbrev abv:aI:=[.d .bool]
@[irreducible] def Kc:dn abu abv:=bP E R n false (Uy n) bn amd Tryz.f79 abu abv
def Om:bK:=dA 79 abu abv (Kc n) (Uy n)
theorem azF:bg E (Om n):=bX (azE n) dW (by unfold Kc;rfl) Tryz.func79 av
def abw:bB:=⟨[(2,⟨[1,2],[2],⟨[(5,aH)],[]⟩,[(.exit 0,⟨[],[]⟩),(.ret,⟨[(4,.d .bool)],[]⟩)]⟩),
 (8,⟨[1,2,5,6],[2,6],⟨[(7,aH)],[]⟩,[(.exit 2,⟨[],[]⟩),(.ret,⟨[(4,.d .bool)],[]⟩)]⟩)],[]⟩
abbrev abx:aI:=[.d (.st 8),aH]
abbrev aby:aI:=[.d .bool]
@[irreducible] def Ke:dn abx aby:=bP E R n false (Om n) bn abw Tryz.f80 abx aby
def abz:bK:=dA 80 abx aby (Ke n) (Om n)
theorem azG:bg E (abz n):=bX (azF n) dW (by unfold Ke;rfl) Tryz.func80 av
def azH:bB:=⟨[],[]⟩
abbrev abA:aI:=[aH]
abbrev abB:aI:=[.d .bool]
@[irreducible] def Oo:dn abA abB:=bP E R n false (abz n) bn azH Tryz.f191 abA abB
def Uz:bK:=dA 191 abA abB (Oo n) (abz n)
theorem azI:bg E (Uz n):=bX (azG n) dW (by unfold Oo;rfl) Tryz.func191 av
def ame:bB:=⟨[(2,⟨[0,1],[],⟨[(5,aH)],[]⟩,[(.exit 0,⟨[],[]⟩),(.ret,⟨[(4,.d .bool)],[]⟩)]⟩)],[]⟩
abbrev abC:aI:=[.d (.slice .str),.d .str]
abbrev abD:aI:=[.d .bool]
@[irreducible] def F7:dn abC abD:=bP E R n false (Uz n) bn ame Tryz.f220 abC abD
def UA:bK:=dA 220 abC abD (F7 n) (Uz n)
theorem azJ:bg E (UA n):=bX (azI n) dW (by unfold F7;rfl) Tryz.func220 av
def amf:bB:=⟨[(2,⟨[0],[],⟨[(3,aH)],[]⟩,[(.exit 0,⟨[],[]⟩),(.ret,⟨[(2,.d .bool)],[]⟩)]⟩)],[]⟩
abbrev abE:aI:=[.d .str]
abbrev abF:aI:=[.d .bool]
@[irreducible] def QR:dn abE abF:=bP E R n false (UA n) bn amf Tryz.f212 abE abF
def Oq:bK:=dA 212 abE abF (QR n) (UA n)
theorem azK:bg E (Oq n):=bX (azJ n) dW (by unfold QR;rfl) Tryz.func212 av
def abG:bB:=⟨[(4,⟨[0],[],⟨[(3,aH)],[]⟩,[(.exit 0,⟨[],[]⟩),(.ret,⟨[(2,aH)],[]⟩)]⟩),
 (9,⟨[0],[],⟨[(4,aH)],[]⟩,[(.exit 2,⟨[],[]⟩),(.ret,⟨[(2,aH)],[]⟩)]⟩)],[]⟩
abbrev abH:aI:=[.d (.slice .str)]
abbrev abI:aI:=[aH]
@[irreducible] def Ot:dn abH abI:=bP E R n false (Oq n) bn abG Tryz.f213 abH abI
def abJ:bK:=dA 213 abH abI (Ot n) (Oq n)
theorem azL:bg E (abJ n):=bX (azK n) dW (by unfold Ot;rfl) Tryz.func213 av
def azM:bB:=⟨[],[]⟩
abbrev abK:aI:=[.d (.st 7),.d .str]
abbrev abL:aI:=[aH]
@[irreducible] def Ou:dn abK abL:=bP E R n false (abJ n) bn azM Tryz.f192 abK abL
def UC:bK:=dA 192 abK abL (Ou n) (abJ n)
theorem azN:bg E (UC n):=bX (azL n) dW (by unfold Ou;rfl) Tryz.func192 av
def amg:bB:=⟨[(7,⟨[1],[1],⟨[(3,.d .str),(4,aH)],[]⟩,[(.exit 0,⟨[],[]⟩),(.ret,⟨[(2,aH)],[]⟩)]⟩)],[]⟩
abbrev abM:aI:=[.d (.st 8)]
abbrev abN:aI:=[aH]
@[irreducible] def Ov:dn abM abN:=bP E R n false (UC n) bn amg Tryz.f160 abM abN
def abO:bK:=dA 160 abM abN (Ov n) (UC n)
theorem azO:bg E (abO n):=bX (azN n) dW (by unfold Ov;rfl) Tryz.func160 av
def azP:bB:=⟨[],[]⟩
abbrev abP:aI:=[.d (.st 8)]
abbrev abQ:aI:=[.d (.st 18)]
@[irreducible] def F8:dn abP abQ:=bP E R n false (abO n) bn azP Tryz.f112 abP abQ
def UD:bK:=dA 112 abP abQ (F8 n) (abO n)
theorem azQ:bg E (UD n):=bX (azO n) dW (by unfold F8;rfl) Tryz.func112 av
def amh:bB:=⟨[(2,⟨[1,2],[],⟨[(5,aH)],[]⟩,[(.exit 0,⟨[],[]⟩),(.ret,⟨[(4,.d .bool)],[]⟩)]⟩)],[]⟩
abbrev abR:aI:=[.d (.st 12),aH]
abbrev abS:aI:=[.d .bool]
@[irreducible] def Ow:dn abR abS:=bP E R n false (UD n) bn amh Tryz.f193 abR abS
def UE:bK:=dA 193 abR abS (Ow n) (UD n)
theorem azR:bg E (UE n):=bX (azQ n) dW (by unfold Ow;rfl) Tryz.func193 av
def ami:bB:=⟨[(2,⟨[0],[],⟨[(3,aH)],[]⟩,[(.exit 0,⟨[],[]⟩),(.ret,⟨[(2,.d .bool)],[]⟩)]⟩)],[]⟩
abbrev abT:aI:=[.d (.slice (.int .i64))]
abbrev abU:aI:=[.d .bool]
@[irreducible] def Ox:dn abT abU:=bP E R n false (UE n) bn ami Tryz.f214 abT abU
def UF:bK:=dA 214 abT abU (Ox n) (UE n)
theorem azS:bg E (UF n):=bX (azR n) dW (by unfold Ox;rfl) Tryz.func214 av
def amj:bB:=⟨[(2,⟨[1,2],[2],⟨[(5,aH)],[]⟩,[(.exit 0,⟨[],[]⟩),(.ret,⟨[(4,aH)],[]⟩)]⟩)],[]⟩
abbrev abV:aI:=[.d (.st 8),.d .str]
abbrev abW:aI:=[aH]
@[irreducible] def Oy:dn abV abW:=bP E R n false (UF n) bn amj Tryz.f221 abV abW
def abX:bK:=dA 221 abV abW (Oy n) (UF n)
theorem azT:bg E (abX n):=bX (azS n) dW (by unfold Oy;rfl) Tryz.func221 av
def azU:bB:=⟨[],[]⟩
abbrev abY:aI:=[.d (.st 7),.d (.st 9)]
abbrev abZ:aI:=[aH]
@[irreducible] def Dy:dn abY abZ:=bP E R n false (abX n) bn azU Tryz.f222 abY abZ
def UG:bK:=dA 222 abY abZ (Dy n) (abX n)
theorem azV:bg E (UG n):=bX (azT n) dW (by unfold Dy;rfl) Tryz.func222 av
def amk:bB:=⟨[(2,⟨[1,2],[2],⟨[(5,aH)],[]⟩,[(.exit 0,⟨[],[]⟩),(.ret,⟨[(4,aH)],[]⟩)]⟩)],[]⟩
abbrev ab0:aI:=[.d (.st 8),.d (.slice (.st 9))]
abbrev ab1:aI:=[aH]
@[irreducible] def QP:dn ab0 ab1:=bP E R n false (UG n) bn amk Tryz.f215 ab0 ab1
def ab2:bK:=dA 215 ab0 ab1 (QP n) (UG n)
theorem azW:bg E (ab2 n):=bX (azV n) dW (by unfold QP;rfl) Tryz.func215 av
def azX:bB:=⟨[],[]⟩
abbrev ab3:aI:=[.d (.st 8),.d (.st 10)]
abbrev ab4:aI:=[aH]
@[irreducible] def Kg:dn ab3 ab4:=bP E R n false (ab2 n) bn azX Tryz.f194 ab3 ab4
def UH:bK:=dA 194 ab3 ab4 (Kg n) (ab2 n)
theorem azY:bg E (UH n):=bX (azW n) dW (by unfold Kg;rfl) Tryz.func194 av
def aml:bB:=⟨[(3,⟨[1,2],[],⟨[(5,aH),(6,aH)],[]⟩,[(.exit 0,⟨[(5,aH)],[]⟩)]⟩)],[]⟩
abbrev ab5:aI:=[.d (.st 12),aH]
abbrev ab6:aI:=[aH]
@[irreducible] def Zs:dn ab5 ab6:=bP E R n false (UH n) bn aml Tryz.f195 ab5 ab6
def UJ:bK:=dA 195 ab5 ab6 (Zs n) (UH n)
theorem azZ:bg E (UJ n):=bX (azY n) dW (by unfold Zs;rfl) Tryz.func195 av
def amm:bB:=⟨[(3,⟨[1,2,3,9],[],⟨[(10,aH)],[(13,.arr (.st 11))]⟩,[(.exit 0,⟨[],[(13,.arr (.st 11))]⟩)]⟩)],[]⟩
abbrev ab7:aI:=[.d (.slice (.st 11)),aH,aH,aH]
abbrev ab8:aI:=[.d (.slice (.st 11))]
@[irreducible] def Kh (p:aV R.T ab7):Option (aV R.T ab8):=bP E R n true (UJ n) bn amm Tryz.f196 ab7 ab8 p
def UK:bK:=dA 196 ab7 ab8 (Kh n) (UJ n)
theorem az0:bg E (UK n):=bX (azZ n) dW (by unfold Kh;rfl) Tryz.func196 av
def amn:bB:=⟨[(5,⟨[2,3,5,6,9,10],[6,9,10],⟨[(11,aH),(12,.l .any (.st 11)),(13,.l (.own 95) (.st 11)),(14,aH)],[]⟩,[(.exit 0,⟨[(11,aH),(12,.l .any (.st 11)),(13,.l (.own 95) (.st 11))],[]⟩)]⟩)],[]⟩
abbrev ab9:aI:=[.d (.st 12),.d (.st 14),.d (.slice (.st 11)),.d (.slice (.st 22)),.d (.st 10)]
abbrev acd:aI:=[.d (.st 18)]
@[irreducible] def Bw:dn ab9 acd:=bP E R n false (UK n) bn amn Tryz.f162 ab9 acd
def ace:bK:=dA 162 ab9 acd (Bw n) (UK n)
theorem az1:bg E (ace n):=bX (az0 n) dW (by unfold Bw;rfl) Tryz.func162 av
def az2:bB:=⟨[],[]⟩
abbrev acf:aI:=[.d (.st 12),.d (.st 14)]
abbrev acg:aI:=[.d (.st 18)]
@[irreducible] def ZZ:dn acf acg:=bP E R n false (ace n) bn az2 Tryz.f161 acf acg
def Oz:bK:=dA 161 acf acg (ZZ n) (ace n)
theorem az3:bg E (Oz n):=bX (az1 n) dW (by unfold ZZ;rfl) Tryz.func161 av
def ach:bB:=⟨[(3,⟨[1,2],[],⟨[(5,.aS 42 (.st 11)),(6,aH)],[(42,.arr (.st 11))]⟩,[(.exit 0,⟨[(5,.aS 42 (.st 11))],[(42,.arr (.st 11))]⟩)]⟩),
 (8,⟨[1,2,5,6],[],⟨[(7,aH)],[(42,.arr (.st 11))]⟩,[(.exit 2,⟨[(7,aH)],[(42,.arr (.st 11))]⟩)]⟩)],[]⟩
abbrev aci:aI:=[.d (.st 12),aH]
abbrev acj:aI:=[.d (.slice (.st 11))]
@[irreducible] def Dz (p:aV R.T aci):Option (aV R.T acj):=bP E R n true (Oz n) bn ach Tryz.f163 aci acj p
def acn:bK:=dA 163 aci acj (Dz n) (Oz n)
theorem az4:bg E (acn n):=bX (az3 n) dW (by unfold Dz;rfl) Tryz.func163 av
def az5:bB:=⟨[],[]⟩
abbrev aco:aI:=[.d (.slice (.st 11))]
abbrev acp:aI:=[aH]
@[irreducible] def Bz:dn aco acp:=bP E R n false (acn n) bn az5 Tryz.f197 aco acp
def UL:bK:=dA 197 aco acp (Bz n) (acn n)
theorem az6:bg E (UL n):=bX (az4 n) dW (by unfold Bz;rfl) Tryz.func197 av
def amo:bB:=⟨[(6,⟨[2,3,4,6,7],[4,6],⟨[(8,.l (.own 54) (.st 22)),(9,aH)],[]⟩,[(.exit 0,⟨[(8,.l (.own 54) (.st 22))],[]⟩)]⟩)],[]⟩
abbrev acr:aI:=[.d (.st 12),.d (.st 14),.d (.slice (.st 11))]
abbrev acs:aI:=[.d (.st 18)]
@[irreducible] def DC:dn acr acs:=bP E R n false (UL n) bn amo Tryz.f164 acr acs
def UM:bK:=dA 164 acr acs (DC n) (UL n)
theorem az7:bg E (UM n):=bX (az6 n) dW (by unfold DC;rfl) Tryz.func164 av
def amq:bB:=⟨[(5,⟨[2,3,4,6],[4,6],⟨[(7,.l (.own 46) (.st 22)),(8,aH)],[]⟩,[(.exit 0,⟨[(7,.l (.own 46) (.st 22))],[]⟩)]⟩)],[]⟩
abbrev acu:aI:=[.d (.st 12),.d (.st 14),.d (.slice (.st 11))]
abbrev acv:aI:=[.d (.st 18)]
@[irreducible] def DF:dn acu acv:=bP E R n false (UM n) bn amq Tryz.f165 acu acv
def UN:bK:=dA 165 acu acv (DF n) (UM n)
theorem az8:bg E (UN n):=bX (az7 n) dW (by unfold DF;rfl) Tryz.func165 av
def amr:bB:=⟨[(8,⟨[2,3,4,6,7],[4,6],⟨[(8,.l (.own 78) (.st 22)),(9,aH)],[]⟩,[(.exit 0,⟨[(8,.l (.own 78) (.st 22))],[]⟩)]⟩)],[]⟩
abbrev acw:aI:=[.d (.st 12),.d (.st 14),.d (.slice (.st 11))]
abbrev acy:aI:=[.d (.st 18)]
@[irreducible] def QQ:dn acw acy:=bP E R n false (UN n) bn amr Tryz.f166 acw acy
def acz:bK:=dA 166 acw acy (QQ n) (UN n)
theorem az9:bg E (acz n):=bX (az8 n) dW (by unfold QQ;rfl) Tryz.func166 av
def aAa:bB:=⟨[],[]⟩
abbrev acA:aI:=[.d (.st 12),.d (.st 14)]
abbrev acB:aI:=[.d (.st 18)]
@[irreducible] def Ki:dn acA acB:=bP E R n false (acz n) bn aAa Tryz.f113 acA acB
def UO:bK:=dA 113 acA acB (Ki n) (acz n)
theorem aAb:bg E (UO n):=bX (az9 n) dW (by unfold Ki;rfl) Tryz.func113 av
def ams:bB:=⟨[(3,⟨[1,4,5],[],⟨[(6,aH)],[(4,.st 16),(5,.st 18)]⟩,[(.exit 0,⟨[],[(4,.st 16),(5,.st 18)]⟩),(.ret,⟨[],[(4,.st 16)]⟩)]⟩)],[]⟩
abbrev acC:aI:=[.d (.st 8),.d (.slice (.st 14))]
abbrev acD:aI:=[.d (.st 16)]
@[irreducible] def OA:dn acC acD:=bP E R n false (UO n) bn ams Tryz.f59 acC acD
def acE:bK:=dA 59 acC acD (OA n) (UO n)
theorem aAc:bg E (acE n):=bX (aAb n) dW (by unfold OA;rfl) Tryz.func59 av
def aAd:bB:=⟨[],[]⟩
abbrev acF:aI:=[.d (.st 8),.d (.slice (.st 14))]
abbrev acG:aI:=[.d (.st 12),.d .bool]
@[irreducible] def OB:dn acF acG:=bP E R n false (acE n) bn aAd Tryz.f33 acF acG
def amt:bK:=dA 33 acF acG (OB n) (acE n)
theorem aAe:bg E (amt n):=bX (aAc n) dW (by unfold OB;rfl) Tryz.func33 av
abbrev OC:aI:=[]
abbrev OD:aI:=[.d .bool]
@[irreducible] def DI (n:Nat)(p:aV R.T OC):Option (aV R.T OD):=some true
theorem aAf (p:aV R.T OC):DI n p=some true:=by unfold DI;rfl
theorem aAg (p:aV R.T OC)(x:aV R.T OD)(h:DI n p=some x):Pure E 12 (bR R OC p) (jW (bR R OD x)):=by unfold DI at h;exact azw p x h
def acH:bK:=kM 12 ⟨OC,OD,DI n,jY R OD,false⟩ (amt n)
theorem aAh:bg E (acH n):=qG (aAe n) (aAg n)
def aAi:bB:=⟨[],[]⟩
abbrev acI:aI:=[.d (.st 12),aH]
abbrev acJ:aI:=[aH]
@[irreducible] def Kj:dn acI acJ:=bP E R n false (acH n) bn aAi Tryz.f129 acI acJ
def acK:bK:=dA 129 acI acJ (Kj n) (acH n)
theorem aAj:bg E (acK n):=bX (aAh n) dW (by unfold Kj;rfl) Tryz.func129 av
def aAk:bB:=⟨[],[]⟩
abbrev acL:aI:=[.d (.st 12),.d (.st 11)]
abbrev acM:aI:=[.d .bool]
@[irreducible] def Kk:dn acL acM:=bP E R n false (acK n) bn aAk Tryz.f83 acL acM
def acN:bK:=dA 83 acL acM (Kk n) (acK n)
theorem aAl:bg E (acN n):=bX (aAj n) dW (by unfold Kk;rfl) Tryz.func83 av
def aAm:bB:=⟨[],[]⟩
abbrev acO:aI:=[.d (.st 11),.aW [aH,aH,.d (.slice (.st 7)),aH,aH,.d (.slice (.int .i64)),.d (.slice (.st 11))] 0]
abbrev acP:aI:=[.d .bool]
@[irreducible] def OE:dn acO acP:=bP E R n false (acN n) bn aAm Tryz.f82 acO acP
def UQ:bK:=dA 82 acO acP (OE n) (acN n)
theorem aAn:bg E (UQ n):=bX (aAl n) dW (by unfold OE;rfl) Tryz.func82 av
def amu:bB:=⟨[(2,⟨[1,8,9],[],⟨[(4,.l (.own 20) (.st 11)),(5,.l (.own 24) (.st 11)),(10,aH)],[]⟩,[(.exit 0,⟨[(4,.l (.own 20) (.st 11)),(5,.l (.own 24) (.st 11))],[]⟩)]⟩)],[]⟩
abbrev acQ:aI:=[.d (.slice (.st 11)),.fn 82 [] [.aW [aH,aH,.d (.slice (.st 7)),aH,aH,.d (.slice (.int .i64)),.d (.slice (.st 11))] 0]]
abbrev acR:aI:=[.d (.slice (.st 11)),.d (.slice (.st 11))]
@[irreducible] def UR:dn acQ acR:=bP E R n false (UQ n) bn amu Tryz.f81 acQ acR
def acS:bK:=dA 81 acQ acR (UR n) (UQ n)
theorem aAo:bg E (acS n):=bX (aAn n) dW (by unfold UR;rfl) Tryz.func81 av
def aAp:bB:=⟨[],[]⟩
abbrev acT:aI:=[.d (.st 11)]
abbrev acU:aI:=[.d .bool]
@[irreducible] def UU:dn acT acU:=bP E R n false (acS n) bn aAp Tryz.f84 acT acU
def UW:bK:=dA 84 acT acU (UU n) (acS n)
theorem aAq:bg E (UW n):=bX (aAo n) dW (by unfold UU;rfl) Tryz.func84 av
def amv:bB:=⟨[(2,⟨[1,8,9],[],⟨[(4,.l (.own 20) (.st 11)),(5,.l (.own 24) (.st 11)),(10,aH)],[]⟩,[(.exit 0,⟨[(4,.l (.own 20) (.st 11)),(5,.l (.own 24) (.st 11))],[]⟩)]⟩)],[]⟩
abbrev acV:aI:=[.d (.slice (.st 11)),.fn 84 [] []]
abbrev acW:aI:=[.d (.slice (.st 11)),.d (.slice (.st 11))]
@[irreducible] def UY:dn acV acW:=bP E R n false (UW n) bn amv Tryz.f81 acV acW
def acX:bK:=dA 81 acV acW (UY n) (UW n)
theorem aAr:bg E (acX n):=bX (aAq n) dW (by unfold UY;rfl) Tryz.func81 av
def aAs:bB:=⟨[],[]⟩
abbrev acY:aI:=[.d (.st 12)]
abbrev acZ:aI:=[.d (.slice (.st 11)),.d (.slice (.st 11))]
@[irreducible] def Kl:dn acY acZ:=bP E R n false (acX n) bn aAs Tryz.f35 acY acZ
def ac0:bK:=dA 35 acY acZ (Kl n) (acX n)
theorem aAt:bg E (ac0 n):=bX (aAr n) dW (by unfold Kl;rfl) Tryz.func35 av
def aAu:bB:=⟨[],[]⟩
abbrev ac1:aI:=[.d (.st 14),.aW [aH,aH,aH,aH,aH,aH,aH,.d (.slice (.int .i64)),.d (.slice (.st 9)),aH] 0]
abbrev ac2:aI:=[.d .bool]
@[irreducible] def UZ:dn ac1 ac2:=bP E R n false (ac0 n) bn aAu Tryz.f96 ac1 ac2
def U0:bK:=dA 96 ac1 ac2 (UZ n) (ac0 n)
theorem aAv:bg E (U0 n):=bX (aAt n) dW (by unfold UZ;rfl) Tryz.func96 av
def amw:bB:=⟨[(2,⟨[0,1,7],[],⟨[(8,aH)],[]⟩,[(.exit 0,⟨[],[]⟩),(.ret,⟨[(4,aH)],[]⟩)]⟩)],[]⟩
abbrev ac3:aI:=[.d (.slice (.st 14)),.fn 96 [] [.aW [aH,aH,aH,aH,aH,aH,aH,.d (.slice (.int .i64)),.d (.slice (.st 9)),aH] 0]]
abbrev ac4:aI:=[aH]
@[irreducible] def OG:dn ac3 ac4:=bP E R n false (U0 n) bn amw Tryz.f95 ac3 ac4
def OH:bK:=dA 95 ac3 ac4 (OG n) (U0 n)
theorem amx:bg E (OH n):=bX (aAv n) dW (by unfold OG;rfl) Tryz.func95 av
def ac5:bB:=⟨[(3,⟨[0,9,10],[],⟨[(3,aH),(11,aH)],[]⟩,[(.exit 0,⟨[(3,aH)],[]⟩)]⟩),
 (11,⟨[25,26],[],⟨[(6,.l (.own 24) (.int .i64)),(27,aH)],[]⟩,[(.exit 2,⟨[(6,.l (.own 24) (.int .i64))],[]⟩)]⟩)],[]⟩
abbrev Km:aI:=[.d (.slice (.slice (.int .i64)))]
abbrev ac6:aI:=[.d (.slice (.int .i64))]
@[irreducible] def F9 (p:aV R.T Km):Option (aV R.T ac6):=CP E R n false (OH n) bn ac5 Tryz.f134 Km (.int .i64) p
theorem aAw (p:aV R.T Km)(x:aV R.T ac6)(h:F9 n p=some x):Pure E 134 (bR R Km p) (.ak .sh (List.map (aU R (.int .i64)) x))/\oM E 134 (bR R Km p) (dL R (.int .i64)) (List.map (aU R (.int .i64)) x):=by unfold F9 at h;exact Je p8 (amx n) dW h Tryz.func134 rfl rfl rfl rfl av
def U1:bK:=kM 134 ⟨Km,[.d (.slice (.int .i64))],F9 n,jY R ac6,true⟩ (OH n)
theorem aAx:bg E (U1 n):=Jg (G:=F9 n) (amx n) (aAw n)
def amy:bB:=⟨[(3,⟨[1,11,12],[],⟨[(5,.l (.own 10) (.int .u8)),(13,aH)],[]⟩,[(.exit 0,⟨[(5,.l (.own 10) (.int .u8))],[]⟩)]⟩)],[]⟩
abbrev ac7:aI:=[.d (.slice .str),.fn 121 [] []]
abbrev ac8:aI:=[.d (.slice (.int .u8))]
@[irreducible] def U2:dn ac7 ac8:=bP E R n false (U1 n) bn amy Tryz.f176 ac7 ac8
def ac9:bK:=dA 176 ac7 ac8 (U2 n) (U1 n)
theorem aAy:bg E (ac9 n):=bX (aAx n) dW (by unfold U2;rfl) Tryz.func176 av
def aAz:bB:=⟨[],[]⟩
abbrev ada:aI:=[.d (.slice .str)]
abbrev adb:aI:=[.d (.slice (.int .u8))]
@[irreducible] def OI:dn ada adb:=bP E R n false (ac9 n) bn aAz Tryz.f136 ada adb
def OJ:bK:=dA 136 ada adb (OI n) (ac9 n)
theorem aAA:bg E (OJ n):=bX (aAy n) dW (by unfold OI;rfl) Tryz.func136 av
def ade:bB:=⟨[(3,⟨[0,9,10],[],⟨[(3,aH),(11,aH)],[]⟩,[(.exit 0,⟨[(3,aH)],[]⟩)]⟩),
 (11,⟨[25,26],[],⟨[(6,.l (.own 24) (.int .u8)),(27,aH)],[]⟩,[(.exit 2,⟨[(6,.l (.own 24) (.int .u8))],[]⟩)]⟩)],[]⟩
abbrev adf:aI:=[.d (.slice (.slice (.int .u8)))]
abbrev adg:aI:=[.d (.slice (.int .u8))]
@[irreducible] def OL:dn adf adg:=bP E R n false (OJ n) bn ade Tryz.f135 adf adg
def U3:bK:=dA 135 adf adg (OL n) (OJ n)
theorem aAB:bg E (U3 n):=bX (aAA n) dW (by unfold OL;rfl) Tryz.func135 av
def amA:bB:=⟨[(4,⟨[34,35],[],⟨[(3,.l (.own 32) (.int .i64)),(4,.l (.own 53) .str),(36,aH)],[]⟩,[(.exit 0,⟨[(3,.l (.own 32) (.int .i64)),(4,.l (.own 53) .str)],[]⟩)]⟩)],[]⟩
abbrev adh:aI:=[.d (.st 10)]
abbrev adi:aI:=[.d (.slice (.int .u8))]
@[irreducible] def OM:dn adh adi:=bP E R n false (U3 n) bn amA Tryz.f91 adh adi
def OO:bK:=dA 91 adh adi (OM n) (U3 n)
theorem aAC:bg E (OO n):=bX (aAB n) dW (by unfold OM;rfl) Tryz.func91 av
def adj:bB:=⟨[(3,⟨[0,9,10],[],⟨[(3,aH),(11,aH)],[]⟩,[(.exit 0,⟨[(3,aH)],[]⟩)]⟩),
 (11,⟨[25,26],[],⟨[(6,.l (.own 24) .str),(27,aH)],[]⟩,[(.exit 2,⟨[(6,.l (.own 24) .str)],[]⟩)]⟩)],[]⟩
abbrev adk:aI:=[.d (.slice (.slice .str))]
abbrev adl:aI:=[.d (.slice .str)]
@[irreducible] def OP:dn adk adl:=bP E R n false (OO n) bn adj Tryz.f115 adk adl
def adn:bK:=dA 115 adk adl (OP n) (OO n)
theorem aAD:bg E (adn n):=bX (aAC n) dW (by unfold OP;rfl) Tryz.func115 av
def aAE:bB:=⟨[],[]⟩
abbrev ado:aI:=[.d .str,.d (.slice .str)]
abbrev adp:aI:=[j5]
@[irreducible] def OQ:dn ado adp:=bP E R n false (adn n) bn aAE Tryz.f89 ado adp
def adq:bK:=dA 89 ado adp (OQ n) (adn n)
theorem aAF:bg E (adq n):=bX (aAD n) dW (by unfold OQ;rfl) Tryz.func89 av
def aAG:bB:=⟨[],[]⟩
abbrev adr:aI:=[j5,.d (.st 10)]
abbrev ads:aI:=[j5]
@[irreducible] def BA:dn adr ads:=bP E R n false (adq n) bn aAG Tryz.f40 adr ads
def amB:bK:=dA 40 adr ads (BA n) (adq n)
theorem aAH:bg E (amB n):=bX (aAF n) dW (by unfold BA;rfl) Tryz.func40 av
abbrev OT:aI:=[.d (.slice (.int .u8)),.d (.slice (.int .u8))]
abbrev OU:aI:=[aH]
@[irreducible] def Kn (n:Nat)(p:aV R.T OT):Option (aV R.T OU):=some (Nq p.1 p.2)
theorem aAI (p:aV R.T OT):Kn n p=some (Nq p.1 p.2):=by unfold Kn;rfl
theorem aAJ (p:aV R.T OT)(x:aV R.T OU)(h:Kn n p=some x):Pure E 116 (bR R OT p) (jW (bR R OU x)):=by unfold Kn at h;exact awl p x h
def adt:bK:=kM 116 ⟨OT,OU,Kn n,jY R OU,false⟩ (amB n)
theorem aAK:bg E (adt n):=qG (aAH n) (aAJ n)
def aAL:bB:=⟨[],[]⟩
abbrev adu:aI:=[j5,j5]
abbrev adv:aI:=[aH]
@[irreducible] def OV:dn adu adv:=bP E R n false (adt n) bn aAL Tryz.f67 adu adv
def yQ:bK:=dA 67 adu adv (OV n) (adt n)
theorem U4:bg E (yQ n):=bX (aAK n) dW (by unfold OV;rfl) Tryz.func67 av
def adw:bB:=⟨[(1,⟨[0,1,2,3],[],⟨[(8,aH)],[iA]⟩,[(.exit 0,⟨[],[iA]⟩)]⟩),
 (4,⟨[0,1,2,3,8],[],⟨[(9,aH)],[iA]⟩,[(.exit 2,⟨[],[iA]⟩)]⟩)],[]⟩
abbrev OW:aI:=[.aS 1000000 (.st 0),aH,aH,.fn 67 [] []]
abbrev OX:aI:=[]
abbrev OY:List (Nat×iC):=[iA]
@[irreducible] def Ga:tK OW OY OX:=qE E R n false (yQ n) bn adw Tryz.f177 OW OY OX
theorem aAM:Nb E 177 (⟨OW,OY,OX,Ga n⟩:qV R):=by intro p q y q' h;have h:Ga n p q=some (y,q'):=h;unfold Ga at h;exact YW p8 (U4 n) dW h Tryz.func177 rfl av
def U5:IR R:=FI 177 ⟨OW,OY,OX,Ga n⟩ bn
theorem aAN:ng E (U5 n):=Tt (m:=⟨OW,OY,OX,Ga n⟩) dW (aAM n)
def amC:bB:=⟨[(1,⟨[0,2,3,4],[],⟨[(10,aH)],[iA]⟩,[(.exit 0,⟨[],[iA]⟩),(.ret,⟨[],[iA]⟩)]⟩)],[(5,⟨[0,2,3,4,10],[1000000],⟨[],[]⟩,[(.normal,⟨[(11,aH)],[]⟩)]⟩)]⟩
abbrev adx:aI:=[.aS 1000000 (.st 0),aH,aH,aH,.fn 67 [] []]
abbrev ady:aI:=[]
abbrev adz:List (Nat×iC):=[iA]
@[irreducible] def adA:tK adx adz ady:=qE E R n false (yQ n) (U5 n) amC Tryz.f206 adx adz ady
def OZ:IR R:=vZ 206 adx adz ady (adA n) (U5 n)
theorem aAO:ng E (OZ n):=xC (U4 n) (aAN n) (by unfold adA;rfl) Tryz.func206 av
def adB:bB:=⟨[(4,⟨[0,3,8,9,10],[],⟨[(11,aH)],[iA]⟩,[(.exit 0,⟨[],[iA]⟩)]⟩),
 (8,⟨[0,3,8,9],[],⟨[(12,aH)],[iA]⟩,[(.exit 2,⟨[],[iA]⟩)]⟩)],[]⟩
abbrev adC:aI:=[.aS 1000000 (.st 0),aH,aH,.fn 67 [] []]
abbrev adD:aI:=[]
abbrev adE:List (Nat×iC):=[iA]
@[irreducible] def U6:tK adC adE adD:=qE E R n false (yQ n) (OZ n) adB Tryz.f178 adC adE adD
def U7:IR R:=vZ 178 adC adE adD (U6 n) (OZ n)
theorem amD:ng E (U7 n):=xC (U4 n) (aAO n) (by unfold U6;rfl) Tryz.func178 av
def aAP:bB:=⟨[],[]⟩
abbrev adF:aI:=[aH]
abbrev adG:aI:=[.d (.int .u64)]
@[irreducible] def O1:dn adF adG:=bP E R n false (yQ n) (U7 n) aAP Tryz.f207 adF adG
def BD:bK:=dA 207 adF adG (O1 n) (yQ n)
theorem Ko:bg E (BD n):=bX (U4 n) (amD n) (by unfold O1;rfl) Tryz.func207 av
def aAQ:bB:=⟨[],[]⟩
abbrev adH:aI:=[.ref 1000000 0]
abbrev adI:aI:=[.d (.int .u64)]
abbrev adJ:List (Nat×iC):=[(1000000,.cells [.d (.int .u64)])]
@[irreducible] def O4:tK adH adJ adI:=qE E R n false (BD n) (U7 n) aAQ Tryz.f208 adH adJ adI
def U8:IR R:=vZ 208 adH adJ adI (O4 n) (U7 n)
theorem aAR:ng E (U8 n):=xC (Ko n) (amD n) (by unfold O4;rfl) Tryz.func208 av
def amE:bB:=⟨[(5,⟨[0,1,8,9,10],[],⟨[(11,aH)],[(9,.cells [.d (.int .u64)]),iA]⟩,[(.exit 0,⟨[],[iA]⟩)]⟩)],[(10,⟨[0,1,8,9,10,11],[9,1000000],⟨[],[]⟩,[(.normal,⟨[(12,aH)],[]⟩)]⟩)]⟩
abbrev adK:aI:=[.aS 1000000 (.st 0),aH,aH,.fn 67 [] []]
abbrev adL:aI:=[]
abbrev adM:List (Nat×iC):=[iA]
@[irreducible] def U9:tK adK adM adL:=qE E R n false (BD n) (U8 n) amE Tryz.f179 adK adM adL
def adN:IR R:=vZ 179 adK adM adL (U9 n) (U8 n)
theorem aAS:ng E (adN n):=xC (Ko n) (aAR n) (by unfold U9;rfl) Tryz.func179 av
def aAT:bB:=⟨[],[]⟩
abbrev adO:aI:=[oF,aH,aH,.ref 1000000 0,.fn 67 [] []]
abbrev adP:aI:=[aH,aH]
abbrev adQ:List (Nat×iC):=[(1000000,.cells [aH])]
@[irreducible] def adR:tK adO adQ adP:=qE E R n false (BD n) (adN n) aAT Tryz.f218 adO adQ adP
def adS:IR R:=vZ 218 adO adQ adP (adR n) (adN n)
theorem aAU:ng E (adS n):=xC (Ko n) (aAS n) (by unfold adR;rfl) Tryz.func218 av
def aAV:bB:=⟨[],[]⟩
abbrev adT:aI:=[oF,aH,aH,aH,.ref 1000000 0,.fn 67 [] []]
abbrev adU:aI:=[aH]
abbrev adV:List (Nat×iC):=[(1000000,.cells [aH])]
@[irreducible] def adW:tK adT adV adU:=qE E R n false (BD n) (adS n) aAV Tryz.f210 adT adV adU
def adX:IR R:=vZ 210 adT adV adU (adW n) (adS n)
theorem aAW:ng E (adX n):=xC (Ko n) (aAU n) (by unfold adW;rfl) Tryz.func210 av
def aAX:bB:=⟨[],[]⟩
abbrev adY:aI:=[oF,aH,.ref 1000000 0,.fn 67 [] []]
abbrev adZ:aI:=[aH]
abbrev ad1:List (Nat×iC):=[(1000000,.cells [aH])]
@[irreducible] def ad2:tK adY ad1 adZ:=qE E R n false (BD n) (adX n) aAX Tryz.f209 adY ad1 adZ
def O5:IR R:=vZ 209 adY ad1 adZ (ad2 n) (adX n)
theorem amF:ng E (O5 n):=xC (Ko n) (aAW n) (by unfold ad2;rfl) Tryz.func209 av
def aAY:bB:=⟨[],[]⟩
abbrev ad3:aI:=[oF,aH,aH,.fn 67 [] []]
abbrev ad4:aI:=[aH,aH]
@[irreducible] def Va:dn ad3 ad4:=bP E R n false (BD n) (O5 n) aAY Tryz.f180 ad3 ad4
def nk:bK:=dA 180 ad3 ad4 (Va n) (BD n)
theorem Gb:bg E (nk n):=bX (Ko n) (amF n) (by unfold Va;rfl) Tryz.func180 av
def amG:bB:=⟨[(2,⟨[0],[],⟨[(8,aH),(9,aH)],[iA]⟩,[(.exit 0,⟨[],[iA]⟩)]⟩)],[]⟩
abbrev ad5:aI:=[.aS 1000000 (.st 0),aH,aH,.fn 67 [] []]
abbrev ad6:aI:=[]
abbrev ad7:List (Nat×iC):=[iA]
@[irreducible] def Vb:tK ad5 ad7 ad6:=qE E R n false (nk n) (O5 n) amG Tryz.f181 ad5 ad7 ad6
def Gc:IR R:=vZ 181 ad5 ad7 ad6 (Vb n) (O5 n)
theorem aAZ:ng E (Gc n):=xC (Gb n) (amF n) (by unfold Vb;rfl) Tryz.func181 av
def O6:bB:=⟨[(3,⟨[0,1,2,3],[],⟨[(9,aH),(10,aH)],[iA]⟩,[(.exit 0,⟨[],[iA]⟩),(.ret,⟨[(8,.d .bool)],[iA]⟩)]⟩),
 (5,⟨[0,1,2,3,10],[1000000],⟨[(9,aH)],[]⟩,[(.exit 2,⟨[(9,aH)],[]⟩)]⟩),
 (14,⟨[0,1,2,3,9,10],[],⟨[(11,aH)],[iA]⟩,[(.exit 4,⟨[],[iA]⟩)]⟩),
 (20,⟨[0,1,2,3,9,10],[],⟨[(12,aH)],[iA]⟩,[(.exit 6,⟨[],[iA]⟩)]⟩)],[(18,⟨[0,1,2,3,9,10],[],⟨[],[]⟩,[(.normal,⟨[],[iA]⟩)]⟩)]⟩
abbrev ad8:aI:=[.aS 1000000 (.st 0),aH,aH,.fn 67 [] []]
abbrev ad9:aI:=[.d .bool]
abbrev aea:List (Nat×iC):=[iA]
@[irreducible] def Vd:tK ad8 aea ad9:=qE E R n false (nk n) (Gc n) O6 Tryz.f182 ad8 aea ad9
def Kq:IR R:=vZ 182 ad8 aea ad9 (Vd n) (Gc n)
theorem aA0:ng E (Kq n):=xC (Gb n) (aAZ n) (by unfold Vd;rfl) Tryz.func182 av
def Ve:bB:=⟨[(503,⟨[0,1,4],[],⟨[(11,aH),(12,aH)],[iA]⟩,[(.exit 0,⟨[(11,aH)],[iA]⟩)]⟩),
 (3,⟨[0,1,4,12],[1000000],⟨[(11,aH)],[]⟩,[(.exit 2,⟨[(11,aH)],[]⟩)]⟩),
 (5,⟨[0,1,4,11],[1000000],⟨[(12,aH)],[]⟩,[(.exit 4,⟨[(12,aH)],[]⟩)]⟩)],[]⟩
abbrev aeb:aI:=[.aS 1000000 (.st 0),aH,aH,aH,.fn 67 [] []]
abbrev aec:aI:=[aH]
abbrev aed:List (Nat×iC):=[iA]
@[irreducible] def Vf:tK aeb aed aec:=qE E R n false (nk n) (Kq n) Ve Tryz.f183 aeb aed aec
def DJ:IR R:=vZ 183 aeb aed aec (Vf n) (Kq n)
theorem aA1:ng E (DJ n):=xC (Gb n) (aA0 n) (by unfold Vf;rfl) Tryz.func183 av
def Kr:bB:=⟨[(3,⟨[0,1,4,13],[1000000],⟨[(12,aH)],[]⟩,[(.exit 0,⟨[(12,aH)],[]⟩)]⟩),
 (5,⟨[0,1,4,12],[1000000],⟨[(13,aH)],[]⟩,[(.exit 2,⟨[(13,aH)],[]⟩)]⟩),
 (513,⟨[0,1,4],[],⟨[(12,aH),(13,aH)],[iA]⟩,[(.exit 4,⟨[(13,aH)],[iA]⟩)]⟩),
 (13,⟨[0,1,4,13],[1000000],⟨[(12,aH)],[]⟩,[(.exit 6,⟨[(12,aH)],[]⟩)]⟩),
 (15,⟨[0,1,4,12],[1000000],⟨[(13,aH)],[]⟩,[(.exit 8,⟨[(13,aH)],[]⟩)]⟩)],[]⟩
abbrev aee:aI:=[.aS 1000000 (.st 0),aH,aH,aH,.fn 67 [] []]
abbrev aef:aI:=[aH,.d .bool]
abbrev aeg:List (Nat×iC):=[iA]
@[irreducible] def Vg:tK aee aeg aef:=qE E R n false (nk n) (DJ n) Kr Tryz.f184 aee aeg aef
def O7:IR R:=vZ 184 aee aeg aef (Vg n) (DJ n)
theorem amH:ng E (O7 n):=xC (Gb n) (aA1 n) (by unfold Vg;rfl) Tryz.func184 av
def O8:bB:=⟨[(2,⟨[0,4],[],⟨[(1,aH),(2,aH),(3,aH),(10,.d .bool),(11,.d .bool)],[iA]⟩,[(.ret,⟨[],[iA]⟩)]⟩)],[(10,⟨[0,1,2,4,10,11,12],[],⟨[],[]⟩,[(.normal,⟨[(3,aH)],[iA]⟩)]⟩),(15,⟨[0,1,2,3,4,10,11,12],[],⟨[],[]⟩,[(.normal,⟨[(13,aH),(14,aH)],[iA]⟩)]⟩),(17,⟨[0,1,2,3,4,10,11,12,13],[],⟨[],[]⟩,[(.normal,⟨[],[iA]⟩),(.ret,⟨[],[iA]⟩)]⟩)]⟩
abbrev uS:aI:=[.aS 1000000 (.st 0),aH,aH,aH,.fn 67 [] []]
abbrev xH:aI:=[]
abbrev su:List (Nat×iC):=[iA]
def yR (n:Nat):Nat->aV R.T uS->lX R.T su->Option (aV R.T xH×lX R.T su)
 |0,_,_=>none|m+1,p,q=>qE E R n false (nk n) (FI 138 ⟨uS,su,xH,yR n m⟩ (O7 n)) O8 Tryz.f138 uS su xH p q
attribute [irreducible] yR
theorem aA2 (n m:Nat)(p:aV R.T uS)(q:lX R.T su):yR n (m+1) p q=qE E R n false (nk n) (FI 138 ⟨uS,su,xH,yR n m⟩ (O7 n)) O8 Tryz.f138 uS su xH p q:=av
theorem aA3 (p:aV R.T uS)(q:lX R.T su):yR n 0 p q=none:=av
theorem amI (n:Nat):∀m,Nb E 138 (⟨uS,su,xH,yR n m⟩:qV R)
 |0=>fun p q y q' h=>absurd (((aA3 n p q).symm.trans h)) nofun
 |m+1=>fun p q y q' h=>YW p8 (Gb n) (Tt (m:=⟨uS,su,xH,yR n m⟩) (amH n) (amI n m)) ((aA2 n m p q).symm.trans h) Tryz.func138 rfl av
@[irreducible] def DK:aV R.T uS->lX R.T su->Option (aV R.T xH×lX R.T su):=yR n n
theorem aA4:Nb E 138 (⟨uS,su,xH,DK n⟩:qV R):=by unfold DK;exact amI n n
def aeh:IR R:=FI 138 ⟨uS,su,xH,DK n⟩ (O7 n)
theorem aA5:ng E (aeh n):=Tt (m:=⟨uS,su,xH,DK n⟩) (amH n) (aA4 n)
def aA6:bB:=⟨[],[]⟩
abbrev aei:aI:=[.aS 1000000 (.st 0),.fn 67 [] []]
abbrev aej:aI:=[]
abbrev aek:List (Nat×iC):=[iA]
@[irreducible] def ZD:tK aei aek aej:=qE E R n false (nk n) (aeh n) aA6 Tryz.f97 aei aek aej
def iK:IR R:=vZ 97 aei aek aej (ZD n) (aeh n)
theorem l7:ng E (iK n):=xC (Gb n) (aA5 n) (by unfold ZD;rfl) Tryz.func97 av
def amJ:bB:=⟨[(4,⟨[0,16,17],[],⟨[(5,.aS 37 (.st 0)),(18,aH)],[(37,.arr (.st 0))]⟩,[(.exit 0,⟨[(5,.aS 37 (.st 0))],[(37,.arr (.st 0))]⟩)]⟩)],[]⟩
abbrev ael:aI:=[.d (.slice (.st 14)),.d (.st 12)]
abbrev aem:aI:=[oF]
@[irreducible] def O9 (p:aV R.T ael):Option (aV R.T aem):=bP E R n true (nk n) (iK n) amJ Tryz.f43 ael aem p
def aen:bK:=dA 43 ael aem (O9 n) (nk n)
theorem aA7:bg E (aen n):=bX (Gb n) (l7 n) (by unfold O9;rfl) Tryz.func43 av
def aA8:bB:=⟨[],[]⟩
abbrev aeo:aI:=[]
abbrev aep:aI:=[j5]
@[irreducible] def Pb:dn aeo aep:=bP E R n false (aen n) (iK n) aA8 Tryz.f140 aeo aep
def aer:bK:=dA 140 aeo aep (Pb n) (aen n)
theorem aes:bg E (aer n):=bX (aA7 n) (l7 n) (by unfold Pb;rfl) Tryz.func140 av
def amK:bB:=⟨[],[]⟩
abbrev yS:aI:=[oF]
abbrev zZ:aI:=[j5]
def z8:Nat->List bO
 |_=>yS
def wm:Nat->List bO
 |_=>zZ
def aA9:Nat->bB
 |_=>amK
def aBa:Nat->Func
 |_=>Tryz.f98
def Vh (g:(i:Nat)->aV R.T (z8 i)->Option (aV R.T (wm i))):Nat->List (iy R):=kM 98 ⟨z8 0,wm 0,g 0,jY R (wm 0),false⟩ (aer n)
def xI (n:Nat):Nat->(i:Nat)->aV R.T (z8 i)->Option (aV R.T (wm i))
 |0,_,_=>none|m+1,i,p=>bP E R n false (Vh n (xI n m)) (iK n) (aA9 i) (aBa i) (z8 i) (wm i) p
attribute [irreducible] xI
theorem amL (n m:Nat)(p:aV R.T yS):xI n (m+1) 0 p=bP E R n false (Vh n (xI n m)) (iK n) amK Tryz.f98 yS zZ p:=av
theorem amM (p:aV R.T yS):xI n 0 0 p=none:=av
theorem aBb (p:aV R.T (z8 0))(x:aV R.T (wm 0))(h:xI n 0 0 p=some x):Pure E 98 (bR R (z8 0) p) (jW (bR R (wm 0) x)):=absurd ((amM n p).symm.trans h) nofun
theorem aBd (n m:Nat)(hk:bg E (Vh n (xI n m)))(p:aV R.T (z8 0))(x:aV R.T (wm 0))(h:xI n (m+1) 0 p=some x):Pure E 98 (bR R (z8 0) p) (jW (bR R (wm 0) x)):=
 Bc (args:=yS) (res:=zZ) p8 hk (l7 n) ((amL n m p).symm.trans h) Tryz.func98 rfl rfl rfl rfl av
theorem amN (n:Nat):∀m,bg E (Vh n (xI n m))
 |0=>qG (f:=98) (r:=⟨z8 0,wm 0,xI n 0 0,jY R (wm 0),false⟩) (aes n) (aBb n)|m+1=>qG (f:=98) (r:=⟨z8 0,wm 0,xI n (m+1) 0,jY R (wm 0),false⟩) (aes n) (aBd n m (amN n m))
@[irreducible] def DL (n m:Nat)(p:aV R.T yS):Option (aV R.T zZ):=xI n m 0 p
@[irreducible] def Aa (p:aV R.T yS):Option (aV R.T zZ):=DL n n p
theorem amO (p:aV R.T yS)(x:aV R.T zZ)(h:Aa n p=some x):Pure E 98 (bR R yS p) (jW (bR R zZ x)):=by
 unfold Aa DL at h;cases n with
 |zero=>exact absurd ((amM 0 p).symm.trans h) nofun|succ n=>exact Bc (args:=yS) (res:=zZ) p8 (amN (n+1) n) (l7 (n+1)) ((amL (n+1) n p).symm.trans h) Tryz.func98 rfl rfl rfl rfl av
def aeu:bK:=kM 98 ⟨yS,zZ,Aa n,jY R zZ,false⟩ (aer n)
theorem aBe:bg E (aeu n):=qG (aes n) (amO n)
def aBf:bB:=⟨[],[]⟩
abbrev aev:aI:=[oF]
abbrev aew:aI:=[j5]
@[irreducible] def Pd:dn aev aew:=bP E R n false (aeu n) (iK n) aBf Tryz.f45 aev aew
def Vi:bK:=dA 45 aev aew (Pd n) (aeu n)
theorem aBg:bg E (Vi n):=bX (aBe n) (l7 n) (by unfold Pd;rfl) Tryz.func45 av
def amP:bB:=⟨[(2,⟨[0,1],[],⟨[(5,aH)],[]⟩,[(.exit 0,⟨[],[]⟩),(.ret,⟨[(4,aH)],[]⟩)]⟩)],[]⟩
abbrev aex:aI:=[.d (.slice (.st 14)),aH]
abbrev aey:aI:=[aH]
@[irreducible] def Kt:dn aex aey:=bP E R n false (Vi n) (iK n) amP Tryz.f49 aex aey
def amQ:bK:=dA 49 aex aey (Kt n) (Vi n)
theorem aBh:bg E (amQ n):=bX (aBg n) (l7 n) (by unfold Kt;rfl) Tryz.func49 av
abbrev Vj:aI:=[oF,aH]
abbrev Pe:aI:=[oF,aH]
@[irreducible] def ZS (p:aV R.T Vj):Option (aV R.T Pe):=J9 (Aa n) (zT n) p.1 p.2
theorem amR (l:List au)(i:Int):ZS n (l,i)=J9 (Aa n) (zT n) l i:=by unfold ZS;rfl
theorem aBi (p:aV R.T Vj)(x:aV R.T Pe)(h:ZS n p=some x):Pure E 87 (bR R Vj p) (jW (bR R Pe x)):=by unfold ZS at h;exact azB (amO n) (aaE n) h
def Vk:bK:=kM 87 ⟨Vj,Pe,ZS n,jY R Pe,false⟩ (amQ n)
theorem aBj:bg E (Vk n):=qG (aBh n) (aBi n)
def amS:bB:=⟨[(2,⟨[0,3,11,12],[3],⟨[(13,aH)],[]⟩,[(.exit 0,⟨[],[]⟩),(.ret,⟨[(4,aH),(5,.l .any (.st 0)),(6,aH)],[]⟩)]⟩)],[]⟩
abbrev aez:aI:=[oF,j5]
abbrev aeA:aI:=[aH,oF,aH]
@[irreducible] def Gd:dn aez aeA:=bP E R n false (Vk n) (iK n) amS Tryz.f38 aez aeA
def amT:bK:=dA 38 aez aeA (Gd n) (Vk n)
theorem aBk:bg E (amT n):=bX (aBj n) (l7 n) (by unfold Gd;rfl) Tryz.func38 av
abbrev Pf:aI:=[j5,aH,aH,oF,j5]
abbrev Pg:aI:=[.d .bool]
@[irreducible] def DN (n:Nat)(p:aV R.T Pf):Option (aV R.T Pg):=Bl p.1 p.2.1 p.2.2.1 p.2.2.2.1 p.2.2.2.2
theorem aBl (p:aV R.T Pf):DN n p=Bl p.1 p.2.1 p.2.2.1 p.2.2.2.1 p.2.2.2.2:=by unfold DN;rfl
theorem aBm (p:aV R.T Pf)(x:aV R.T Pg)(h:DN n p=some x):Pure E 100 (bR R Pf p) (jW (bR R Pg x)):=by unfold DN at h;exact azD p x h
def aeB:bK:=kM 100 ⟨Pf,Pg,DN n,jY R Pg,false⟩ (amT n)
theorem aBn:bg E (aeB n):=qG (aBk n) (aBm n)
def aBo:bB:=⟨[],[]⟩
abbrev aeC:aI:=[.d (.st 3),j5,.d (.st 10),aH,oF]
abbrev aeD:aI:=[.d .bool]
@[irreducible] def Xs:dn aeC aeD:=bP E R n false (aeB n) (iK n) aBo Tryz.f47 aeC aeD
def Vl:bK:=dA 47 aeC aeD (Xs n) (aeB n)
theorem aBp:bg E (Vl n):=bX (aBn n) (l7 n) (by unfold Xs;rfl) Tryz.func47 av
def amU:bB:=⟨[(2,⟨[0,3],[3],⟨[(5,aH)],[]⟩,[(.exit 0,⟨[],[]⟩),(.ret,⟨[(4,.d .bool)],[]⟩)]⟩)],[]⟩
abbrev aeE:aI:=[oF,j5]
abbrev aeF:aI:=[.d .bool]
@[irreducible] def Ku:dn aeE aeF:=bP E R n false (Vl n) (iK n) amU Tryz.f50 aeE aeF
def Vm:bK:=dA 50 aeE aeF (Ku n) (Vl n)
theorem aBq:bg E (Vm n):=bX (aBp n) (l7 n) (by unfold Ku;rfl) Tryz.func50 av
def amV:bB:=⟨[(3,⟨[0],[],⟨[(3,.l (.own 7) (.int .u8)),(4,aH)],[]⟩,[(.exit 0,⟨[(3,.l (.own 7) (.int .u8))],[]⟩)]⟩)],[]⟩
abbrev aeG:aI:=[.d (.slice .str)]
abbrev aeH:aI:=[.d (.slice (.int .u8))]
@[irreducible] def Ph:dn aeG aeH:=bP E R n false (Vm n) (iK n) amV Tryz.f137 aeG aeH
def Vn:bK:=dA 137 aeG aeH (Ph n) (Vm n)
theorem aBr:bg E (Vn n):=bX (aBq n) (l7 n) (by unfold Ph;rfl) Tryz.func137 av
def amW:bB:=⟨[(6,⟨[1],[1],⟨[(3,.l (.own 28) (.int .i64)),(4,.l (.own 71) .str),(5,aH)],[]⟩,[(.exit 0,⟨[(3,.l (.own 28) (.int .i64)),(4,.l (.own 71) .str)],[]⟩)]⟩)],[]⟩
abbrev aeI:aI:=[.d (.st 10)]
abbrev aeJ:aI:=[.d (.slice (.int .u8))]
@[irreducible] def Pj:dn aeI aeJ:=bP E R n false (Vn n) (iK n) amW Tryz.f94 aeI aeJ
def aeK:bK:=dA 94 aeI aeJ (Pj n) (Vn n)
theorem aBs:bg E (aeK n):=bX (aBr n) (l7 n) (by unfold Pj;rfl) Tryz.func94 av
def aBt:bB:=⟨[],[]⟩
abbrev aeL:aI:=[.d .str,.d (.slice .str)]
abbrev aeM:aI:=[j5]
@[irreducible] def Pk:dn aeL aeM:=bP E R n false (aeK n) (iK n) aBt Tryz.f92 aeL aeM
def aeN:bK:=dA 92 aeL aeM (Pk n) (aeK n)
theorem aBu:bg E (aeN n):=bX (aBs n) (l7 n) (by unfold Pk;rfl) Tryz.func92 av
def aBv:bB:=⟨[],[]⟩
abbrev aeO:aI:=[j5,.d (.st 10)]
abbrev aeP:aI:=[j5]
@[irreducible] def Gf:dn aeO aeP:=bP E R n false (aeN n) (iK n) aBv Tryz.f41 aeO aeP
def Vo:bK:=dA 41 aeO aeP (Gf n) (aeN n)
theorem amX:bg E (Vo n):=bX (aBu n) (l7 n) (by unfold Gf;rfl) Tryz.func41 av
def amY:bB:=⟨[(10,⟨[1,5,9,11,12],[5,12],⟨[(13,aH)],[]⟩,[(.exit 0,⟨[],[]⟩),(.ret,⟨[(6,.d .bool)],[]⟩)]⟩)],[]⟩
abbrev Pm:aI:=[.d (.st 8),.d (.slice (.st 14)),j5]
abbrev Kv:aI:=[.d .bool]
@[irreducible] def Pn:dn Pm Kv:=bP E R n false (Vo n) (iK n) amY Tryz.f7 Pm Kv
theorem amZ (p:aV R.T Pm)(x:aV R.T Kv)(h:Pn n p=some x):Pure E 7 (bR R Pm p) (jW (bR R Kv x)):=by unfold Pn at h;exact Bc p8 (amX n) (l7 n) h Tryz.func7 rfl rfl rfl rfl av
def Vp:bK:=kM 7 ⟨Pm,Kv,Pn n,jY R Kv,false⟩ (Vo n)
theorem aBw:bg E (Vp n):=qG (amX n) (amZ n)
def am0:bB:=⟨[(2,⟨[0],[],⟨[(3,aH)],[]⟩,[(.exit 0,⟨[(3,aH)],[]⟩)]⟩)],[]⟩
abbrev aeQ:aI:=[aH]
abbrev aeR:aI:=[aH]
@[irreducible] def Kw:dn aeQ aeR:=bP E R n false (Vp n) (iK n) am0 Tryz.f143 aeQ aeR
def aeS:bK:=dA 143 aeQ aeR (Kw n) (Vp n)
theorem aBx:bg E (aeS n):=bX (aBw n) (l7 n) (by unfold Kw;rfl) Tryz.func143 av
def aBy:bB:=⟨[],[]⟩
abbrev aeT:aI:=[]
abbrev aeU:aI:=[j5]
@[irreducible] def Po:dn aeT aeU:=bP E R n false (aeS n) (iK n) aBy Tryz.f142 aeT aeU
def aeV:bK:=dA 142 aeT aeU (Po n) (aeS n)
theorem aeW:bg E (aeV n):=bX (aBx n) (l7 n) (by unfold Po;rfl) Tryz.func142 av
def am1:bB:=⟨[],[]⟩
abbrev yT:aI:=[oF]
abbrev Ab:aI:=[j5]
def Ac:Nat->List bO
 |_=>yT
def wo:Nat->List bO
 |_=>Ab
def aBz:Nat->bB
 |_=>am1
def aBA:Nat->Func
 |_=>Tryz.f99
def Vq (g:(i:Nat)->aV R.T (Ac i)->Option (aV R.T (wo i))):Nat->List (iy R):=kM 99 ⟨Ac 0,wo 0,g 0,jY R (wo 0),false⟩ (aeV n)
def xJ (n:Nat):Nat->(i:Nat)->aV R.T (Ac i)->Option (aV R.T (wo i))
 |0,_,_=>none|m+1,i,p=>bP E R n false (Vq n (xJ n m)) (iK n) (aBz i) (aBA i) (Ac i) (wo i) p
attribute [irreducible] xJ
theorem am2 (n m:Nat)(p:aV R.T yT):xJ n (m+1) 0 p=bP E R n false (Vq n (xJ n m)) (iK n) am1 Tryz.f99 yT Ab p:=av
theorem am3 (p:aV R.T yT):xJ n 0 0 p=none:=av
theorem aBB (p:aV R.T (Ac 0))(x:aV R.T (wo 0))(h:xJ n 0 0 p=some x):Pure E 99 (bR R (Ac 0) p) (jW (bR R (wo 0) x)):=absurd ((am3 n p).symm.trans h) nofun
theorem aBC (n m:Nat)(hk:bg E (Vq n (xJ n m)))(p:aV R.T (Ac 0))(x:aV R.T (wo 0))(h:xJ n (m+1) 0 p=some x):Pure E 99 (bR R (Ac 0) p) (jW (bR R (wo 0) x)):=
 Bc (args:=yT) (res:=Ab) p8 hk (l7 n) ((am2 n m p).symm.trans h) Tryz.func99 rfl rfl rfl rfl av
theorem am4 (n:Nat):∀m,bg E (Vq n (xJ n m))
 |0=>qG (f:=99) (r:=⟨Ac 0,wo 0,xJ n 0 0,jY R (wo 0),false⟩) (aeW n) (aBB n)|m+1=>qG (f:=99) (r:=⟨Ac 0,wo 0,xJ n (m+1) 0,jY R (wo 0),false⟩) (aeW n) (aBC n m (am4 n m))
@[irreducible] def Ky (n m:Nat)(p:aV R.T yT):Option (aV R.T Ab):=xJ n m 0 p
@[irreducible] def Gg (p:aV R.T yT):Option (aV R.T Ab):=Ky n n p
theorem aBD (p:aV R.T yT)(x:aV R.T Ab)(h:Gg n p=some x):Pure E 99 (bR R yT p) (jW (bR R Ab x)):=by
 unfold Gg Ky at h;cases n with
 |zero=>exact absurd ((am3 0 p).symm.trans h) nofun|succ n=>exact Bc (args:=yT) (res:=Ab) p8 (am4 (n+1) n) (l7 (n+1)) ((am2 (n+1) n p).symm.trans h) Tryz.func99 rfl rfl rfl rfl av
def aeX:bK:=kM 99 ⟨yT,Ab,Gg n,jY R Ab,false⟩ (aeV n)
theorem aBE:bg E (aeX n):=qG (aeW n) (aBD n)
def aBF:bB:=⟨[],[]⟩
abbrev aeY:aI:=[oF,j5]
abbrev aeZ:aI:=[oF]
@[irreducible] def Kz:dn aeY aeZ:=bP E R n false (aeX n) (iK n) aBF Tryz.f173 aeY aeZ
def ae0:bK:=dA 173 aeY aeZ (Kz n) (aeX n)
theorem ae1:bg E (ae0 n):=bX (aBE n) (l7 n) (by unfold Kz;rfl) Tryz.func173 av
def am5:bB:=⟨[],[]⟩
abbrev yU:aI:=[oF,aH]
abbrev Ad:aI:=[oF]
def Ae:Nat->List bO
 |_=>yU
def wu:Nat->List bO
 |_=>Ad
def aBG:Nat->bB
 |_=>am5
def aBH:Nat->Func
 |_=>Tryz.f133
def Vr (g:(i:Nat)->aV R.T (Ae i)->Option (aV R.T (wu i))):Nat->List (iy R):=kM 133 ⟨Ae 0,wu 0,g 0,jY R (wu 0),false⟩ (ae0 n)
def xK (n:Nat):Nat->(i:Nat)->aV R.T (Ae i)->Option (aV R.T (wu i))
 |0,_,_=>none|m+1,i,p=>bP E R n false (Vr n (xK n m)) (iK n) (aBG i) (aBH i) (Ae i) (wu i) p
attribute [irreducible] xK
theorem am6 (n m:Nat)(p:aV R.T yU):xK n (m+1) 0 p=bP E R n false (Vr n (xK n m)) (iK n) am5 Tryz.f133 yU Ad p:=av
theorem am7 (p:aV R.T yU):xK n 0 0 p=none:=av
theorem aBI (p:aV R.T (Ae 0))(x:aV R.T (wu 0))(h:xK n 0 0 p=some x):Pure E 133 (bR R (Ae 0) p) (jW (bR R (wu 0) x)):=absurd ((am7 n p).symm.trans h) nofun
theorem aBJ (n m:Nat)(hk:bg E (Vr n (xK n m)))(p:aV R.T (Ae 0))(x:aV R.T (wu 0))(h:xK n (m+1) 0 p=some x):Pure E 133 (bR R (Ae 0) p) (jW (bR R (wu 0) x)):=
 Bc (args:=yU) (res:=Ad) p8 hk (l7 n) ((am6 n m p).symm.trans h) Tryz.func133 rfl rfl rfl rfl av
theorem am8 (n:Nat):∀m,bg E (Vr n (xK n m))
 |0=>qG (f:=133) (r:=⟨Ae 0,wu 0,xK n 0 0,jY R (wu 0),false⟩) (ae1 n) (aBI n)|m+1=>qG (f:=133) (r:=⟨Ae 0,wu 0,xK n (m+1) 0,jY R (wu 0),false⟩) (ae1 n) (aBJ n m (am8 n m))
@[irreducible] def KA (n m:Nat)(p:aV R.T yU):Option (aV R.T Ad):=xK n m 0 p
@[irreducible] def KC (p:aV R.T yU):Option (aV R.T Ad):=KA n n p
theorem aBK (p:aV R.T yU)(x:aV R.T Ad)(h:KC n p=some x):Pure E 133 (bR R yU p) (jW (bR R Ad x)):=by
 unfold KC KA at h;cases n with
 |zero=>exact absurd ((am7 0 p).symm.trans h) nofun|succ n=>exact Bc (args:=yU) (res:=Ad) p8 (am8 (n+1) n) (l7 (n+1)) ((am6 (n+1) n p).symm.trans h) Tryz.func133 rfl rfl rfl rfl av
def ae2:bK:=kM 133 ⟨yU,Ad,KC n,jY R Ad,false⟩ (ae0 n)
theorem aBL:bg E (ae2 n):=qG (ae1 n) (aBK n)
def aBM:bB:=⟨[],[]⟩
abbrev ae3:aI:=[oF,aH]
abbrev ae4:aI:=[.d (.st 17)]
@[irreducible] def Pp:dn ae3 ae4:=bP E R n false (ae2 n) (iK n) aBM Tryz.f88 ae3 ae4
def Vs:bK:=dA 88 ae3 ae4 (Pp n) (ae2 n)
theorem aBN:bg E (Vs n):=bX (aBL n) (l7 n) (by unfold Pp;rfl) Tryz.func88 av
def am9:bB:=⟨[(2,⟨[0,3,4],[3],⟨[(5,aH)],[(4,.st 13)]⟩,[(.exit 0,⟨[],[(4,.st 13)]⟩),(.ret,⟨[],[(4,.st 13)]⟩)]⟩)],[]⟩
abbrev ae5:aI:=[oF,j5]
abbrev ae6:aI:=[.d (.st 13)]
@[irreducible] def Vt:dn ae5 ae6:=bP E R n false (Vs n) (iK n) am9 Tryz.f39 ae5 ae6
def ae7:bK:=dA 39 ae5 ae6 (Vt n) (Vs n)
theorem aBO:bg E (ae7 n):=bX (aBN n) (l7 n) (by unfold Vt;rfl) Tryz.func39 av
def aBP:bB:=⟨[],[]⟩
abbrev ae8:aI:=[.d (.st 12),aH]
abbrev ae9:aI:=[aH]
@[irreducible] def KD:dn ae8 ae9:=bP E R n false (ae7 n) (iK n) aBP Tryz.f130 ae8 ae9
def afa:bK:=dA 130 ae8 ae9 (KD n) (ae7 n)
theorem aBQ:bg E (afa n):=bX (aBO n) (l7 n) (by unfold KD;rfl) Tryz.func130 av
def aBR:bB:=⟨[],[]⟩
abbrev afb:aI:=[.d (.st 12),.d (.st 11)]
abbrev afc:aI:=[.d .bool]
@[irreducible] def Pq:dn afb afc:=bP E R n false (afa n) (iK n) aBR Tryz.f86 afb afc
def Vu:bK:=dA 86 afb afc (Pq n) (afa n)
theorem aBS:bg E (Vu n):=bX (aBQ n) (l7 n) (by unfold Pq;rfl) Tryz.func86 av
def ana:bB:=⟨[(3,⟨[1,2],[],⟨[(5,.l (.own 50) (.st 11)),(6,aH)],[]⟩,[(.exit 0,⟨[(5,.l (.own 50) (.st 11))],[]⟩)]⟩)],[]⟩
abbrev afd:aI:=[.d (.st 12),.d .bool]
abbrev afe:aI:=[.d (.slice (.st 11))]
@[irreducible] def KE:dn afd afe:=bP E R n false (Vu n) (iK n) ana Tryz.f37 afd afe
def aff:bK:=dA 37 afd afe (KE n) (Vu n)
theorem aBT:bg E (aff n):=bX (aBS n) (l7 n) (by unfold KE;rfl) Tryz.func37 av
def aBU:bB:=⟨[],[]⟩
abbrev afg:aI:=[j5,j5]
abbrev afh:aI:=[.d .bool]
@[irreducible] def Pt:dn afg afh:=bP E R n false (aff n) (iK n) aBU Tryz.f68 afg afh
def Vv:bK:=dA 68 afg afh (Pt n) (aff n)
theorem aGa:bg E (Vv n):=bX (aBT n) (l7 n) (by unfold Pt;rfl) Tryz.func68 av
def afi:bB:=⟨[(4,⟨[0,6],[],⟨[(5,.l (.own 60) (.st 0)),(7,aH)],[]⟩,[(.exit 0,⟨[(5,.l (.own 60) (.st 0))],[]⟩)]⟩),
 (12,⟨[0,5,6,7,9],[9],⟨[(10,.l (.own 60) (.st 0)),(11,.l (.own 67) (.st 0)),(12,aH)],[]⟩,[(.exit 2,⟨[(10,.l (.own 60) (.st 0)),(11,.l (.own 67) (.st 0))],[]⟩)]⟩)],[]⟩
abbrev anb:aI:=[.d (.slice (.st 14)),.d (.st 12)]
abbrev anc:aI:=[oF]
@[irreducible] def ane:dn anb anc:=bP E R n false (Vv n) (iK n) afi Tryz.f44 anb anc
end Sh
