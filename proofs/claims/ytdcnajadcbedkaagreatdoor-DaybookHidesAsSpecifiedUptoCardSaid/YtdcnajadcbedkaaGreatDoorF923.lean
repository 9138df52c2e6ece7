import Derived.Test.YtdcnajadcbedkaaGreatDoorF922
set_option linter.all false
noncomputable section
open Go Go.Proofs aR
namespace Sh
set_option maxRecDepth 100000
variable (n:Nat)
def am2:bq:=⟨[(2,⟨[1],[1],⟨[(3,aJ)],[]⟩,[(.exit 0,⟨[],[]⟩),(.ret,⟨[(2,.d .bool)],[]⟩)]⟩)],[]⟩
abbrev abU:aI:=[.d (.st 10)]
abbrev abV:aI:=[.d .bool]
@[irreducible] def Gn:bZ abU abV:=bI E R n false (Ut n) aX am2 Tryz.f34 abU abV
def UR:bF:=cZ 34 abU abV (Gn n) (Ut n)
theorem aAp:bg E (UR n):=bO (ayE n) bY (by unfold Gn;rfl) Tryz.func34 av
def am3:bq:=⟨[(2,⟨[0,1],[],⟨[(5,aJ)],[]⟩,[(.exit 0,⟨[],[]⟩),(.ret,⟨[(4,.d .bool)],[]⟩)]⟩)],[]⟩
abbrev abW:aI:=[.d (.slice (.st 14)),aJ]
abbrev abX:aI:=[.d .bool]
@[irreducible] def Kr:bZ abW abX:=bI E R n false (UR n) aX am3 Tryz.f79 abW abX
def OE:bF:=cZ 79 abW abX (Kr n) (UR n)
theorem aAq:bg E (OE n):=bO (aAp n) bY (by unfold Kr;rfl) Tryz.func79 av
def abY:bq:=⟨[(2,⟨[1,2],[2],⟨[(5,aJ)],[]⟩,[(.exit 0,⟨[],[]⟩),(.ret,⟨[(4,.d .bool)],[]⟩)]⟩),
 (8,⟨[1,2,5,6],[2,6],⟨[(7,aJ)],[]⟩,[(.exit 2,⟨[],[]⟩),(.ret,⟨[(4,.d .bool)],[]⟩)]⟩)],[]⟩
abbrev abZ:aI:=[.d (.st 8),aJ]
abbrev ab0:aI:=[.d .bool]
@[irreducible] def Kt:bZ abZ ab0:=bI E R n false (OE n) aX abY Tryz.f80 abZ ab0
def ab1:bF:=cZ 80 abZ ab0 (Kt n) (OE n)
theorem aAr:bg E (ab1 n):=bO (aAq n) bY (by unfold Kt;rfl) Tryz.func80 av
def aAs:bq:=⟨[],[]⟩
abbrev ab2:aI:=[aJ]
abbrev ab3:aI:=[.d .bool]
@[irreducible] def OG:bZ ab2 ab3:=bI E R n false (ab1 n) aX aAs Tryz.f191 ab2 ab3
def UU:bF:=cZ 191 ab2 ab3 (OG n) (ab1 n)
theorem aAt:bg E (UU n):=bO (aAr n) bY (by unfold OG;rfl) Tryz.func191 av
def am4:bq:=⟨[(2,⟨[0,1],[],⟨[(5,aJ)],[]⟩,[(.exit 0,⟨[],[]⟩),(.ret,⟨[(4,.d .bool)],[]⟩)]⟩)],[]⟩
abbrev ab4:aI:=[.d (.slice .str),.d .str]
abbrev ab5:aI:=[.d .bool]
@[irreducible] def Gp:bZ ab4 ab5:=bI E R n false (UU n) aX am4 Tryz.f220 ab4 ab5
def UW:bF:=cZ 220 ab4 ab5 (Gp n) (UU n)
theorem aAu:bg E (UW n):=bO (aAt n) bY (by unfold Gp;rfl) Tryz.func220 av
def am5:bq:=⟨[(2,⟨[0],[],⟨[(3,aJ)],[]⟩,[(.exit 0,⟨[],[]⟩),(.ret,⟨[(2,.d .bool)],[]⟩)]⟩)],[]⟩
abbrev ab6:aI:=[.d .str]
abbrev ab7:aI:=[.d .bool]
@[irreducible] def Ku:bZ ab6 ab7:=bI E R n false (UW n) aX am5 Tryz.f212 ab6 ab7
def OH:bF:=cZ 212 ab6 ab7 (Ku n) (UW n)
theorem aAv:bg E (OH n):=bO (aAu n) bY (by unfold Ku;rfl) Tryz.func212 av
def ab8:bq:=⟨[(4,⟨[0],[],⟨[(3,aJ)],[]⟩,[(.exit 0,⟨[],[]⟩),(.ret,⟨[(2,aJ)],[]⟩)]⟩),
 (9,⟨[0],[],⟨[(4,aJ)],[]⟩,[(.exit 2,⟨[],[]⟩),(.ret,⟨[(2,aJ)],[]⟩)]⟩)],[]⟩
abbrev ab9:aI:=[.d (.slice .str)]
abbrev acd:aI:=[aJ]
@[irreducible] def OI:bZ ab9 acd:=bI E R n false (OH n) aX ab8 Tryz.f213 ab9 acd
def ace:bF:=cZ 213 ab9 acd (OI n) (OH n)
theorem aAw:bg E (ace n):=bO (aAv n) bY (by unfold OI;rfl) Tryz.func213 av
def aAx:bq:=⟨[],[]⟩
abbrev acf:aI:=[.d (.st 7),.d .str]
abbrev acg:aI:=[aJ]
@[irreducible] def OJ:bZ acf acg:=bI E R n false (ace n) aX aAx Tryz.f192 acf acg
def UY:bF:=cZ 192 acf acg (OJ n) (ace n)
theorem aAy:bg E (UY n):=bO (aAw n) bY (by unfold OJ;rfl) Tryz.func192 av
def am6:bq:=⟨[(7,⟨[1],[1],⟨[(3,.d .str),(4,aJ)],[]⟩,[(.exit 0,⟨[],[]⟩),(.ret,⟨[(2,aJ)],[]⟩)]⟩)],[]⟩
abbrev ach:aI:=[.d (.st 8)]
abbrev aci:aI:=[aJ]
@[irreducible] def OL:bZ ach aci:=bI E R n false (UY n) aX am6 Tryz.f160 ach aci
def acj:bF:=cZ 160 ach aci (OL n) (UY n)
theorem aAz:bg E (acj n):=bO (aAy n) bY (by unfold OL;rfl) Tryz.func160 av
def aAA:bq:=⟨[],[]⟩
abbrev acn:aI:=[.d (.st 8)]
abbrev aco:aI:=[.d (.st 18)]
@[irreducible] def Gq:bZ acn aco:=bI E R n false (acj n) aX aAA Tryz.f112 acn aco
def UZ:bF:=cZ 112 acn aco (Gq n) (acj n)
theorem aAB:bg E (UZ n):=bO (aAz n) bY (by unfold Gq;rfl) Tryz.func112 av
def am7:bq:=⟨[(2,⟨[1,2],[],⟨[(5,aJ)],[]⟩,[(.exit 0,⟨[],[]⟩),(.ret,⟨[(4,.d .bool)],[]⟩)]⟩)],[]⟩
abbrev acp:aI:=[.d (.st 12),aJ]
abbrev acr:aI:=[.d .bool]
@[irreducible] def OM:bZ acp acr:=bI E R n false (UZ n) aX am7 Tryz.f193 acp acr
def U0:bF:=cZ 193 acp acr (OM n) (UZ n)
theorem aAC:bg E (U0 n):=bO (aAB n) bY (by unfold OM;rfl) Tryz.func193 av
def am8:bq:=⟨[(2,⟨[0],[],⟨[(3,aJ)],[]⟩,[(.exit 0,⟨[],[]⟩),(.ret,⟨[(2,.d .bool)],[]⟩)]⟩)],[]⟩
abbrev acs:aI:=[.d (.slice (.int .i64))]
abbrev acu:aI:=[.d .bool]
@[irreducible] def OO:bZ acs acu:=bI E R n false (U0 n) aX am8 Tryz.f214 acs acu
def U1:bF:=cZ 214 acs acu (OO n) (U0 n)
theorem aAD:bg E (U1 n):=bO (aAC n) bY (by unfold OO;rfl) Tryz.func214 av
def am9:bq:=⟨[(2,⟨[1,2],[2],⟨[(5,aJ)],[]⟩,[(.exit 0,⟨[],[]⟩),(.ret,⟨[(4,aJ)],[]⟩)]⟩)],[]⟩
abbrev acv:aI:=[.d (.st 8),.d .str]
abbrev acw:aI:=[aJ]
@[irreducible] def OP:bZ acv acw:=bI E R n false (U1 n) aX am9 Tryz.f221 acv acw
def acy:bF:=cZ 221 acv acw (OP n) (U1 n)
theorem aAE:bg E (acy n):=bO (aAD n) bY (by unfold OP;rfl) Tryz.func221 av
def aAF:bq:=⟨[],[]⟩
abbrev acz:aI:=[.d (.st 7),.d (.st 9)]
abbrev acA:aI:=[aJ]
@[irreducible] def DU:bZ acz acA:=bI E R n false (acy n) aX aAF Tryz.f222 acz acA
def U2:bF:=cZ 222 acz acA (DU n) (acy n)
theorem aAG:bg E (U2 n):=bO (aAE n) bY (by unfold DU;rfl) Tryz.func222 av
def ana:bq:=⟨[(2,⟨[1,2],[2],⟨[(5,aJ)],[]⟩,[(.exit 0,⟨[],[]⟩),(.ret,⟨[(4,aJ)],[]⟩)]⟩)],[]⟩
abbrev acB:aI:=[.d (.st 8),.d (.slice (.st 9))]
abbrev acC:aI:=[aJ]
@[irreducible] def OQ:bZ acB acC:=bI E R n false (U2 n) aX ana Tryz.f215 acB acC
def acD:bF:=cZ 215 acB acC (OQ n) (U2 n)
theorem aAH:bg E (acD n):=bO (aAG n) bY (by unfold OQ;rfl) Tryz.func215 av
def aAI:bq:=⟨[],[]⟩
abbrev acE:aI:=[.d (.st 8),.d (.st 10)]
abbrev acF:aI:=[aJ]
@[irreducible] def Kv:bZ acE acF:=bI E R n false (acD n) aX aAI Tryz.f194 acE acF
def U3:bF:=cZ 194 acE acF (Kv n) (acD n)
theorem aAJ:bg E (U3 n):=bO (aAH n) bY (by unfold Kv;rfl) Tryz.func194 av
def anb:bq:=⟨[(3,⟨[1,2],[],⟨[(5,aJ),(6,aJ)],[]⟩,[(.exit 0,⟨[(5,aJ)],[]⟩)]⟩)],[]⟩
abbrev acG:aI:=[.d (.st 12),aJ]
abbrev acH:aI:=[aJ]
@[irreducible] def Zs:bZ acG acH:=bI E R n false (U3 n) aX anb Tryz.f195 acG acH
def U4:bF:=cZ 195 acG acH (Zs n) (U3 n)
theorem aAK:bg E (U4 n):=bO (aAJ n) bY (by unfold Zs;rfl) Tryz.func195 av
def anc:bq:=⟨[(3,⟨[1,2,3,9],[],⟨[(10,aJ)],[(13,.arr (.st 11))]⟩,[(.exit 0,⟨[],[(13,.arr (.st 11))]⟩)]⟩)],[]⟩
abbrev acI:aI:=[.d (.slice (.st 11)),aJ,aJ,aJ]
abbrev acJ:aI:=[.d (.slice (.st 11))]
@[irreducible] def Kw (p:aT R.T acI):Option (aT R.T acJ):=bI E R n true (U4 n) aX anc Tryz.f196 acI acJ p
def U5:bF:=cZ 196 acI acJ (Kw n) (U4 n)
theorem aAL:bg E (U5 n):=bO (aAK n) bY (by unfold Kw;rfl) Tryz.func196 av
def ane:bq:=⟨[(5,⟨[2,3,5,6,9,10],[6,9,10],⟨[(11,aJ),(12,.l .any (.st 11)),(13,.l (.own 95) (.st 11)),(14,aJ)],[]⟩,[(.exit 0,⟨[(11,aJ),(12,.l .any (.st 11)),(13,.l (.own 95) (.st 11))],[]⟩)]⟩)],[]⟩
abbrev acK:aI:=[.d (.st 12),.d (.st 14),.d (.slice (.st 11)),.d (.slice (.st 22)),.d (.st 10)]
abbrev acL:aI:=[.d (.st 18)]
@[irreducible] def BJ:bZ acK acL:=bI E R n false (U5 n) aX ane Tryz.f162 acK acL
def acM:bF:=cZ 162 acK acL (BJ n) (U5 n)
theorem aAM:bg E (acM n):=bO (aAL n) bY (by unfold BJ;rfl) Tryz.func162 av
def aAN:bq:=⟨[],[]⟩
abbrev acN:aI:=[.d (.st 12),.d (.st 14)]
abbrev acO:aI:=[.d (.st 18)]
@[irreducible] def OT:bZ acN acO:=bI E R n false (acM n) aX aAN Tryz.f161 acN acO
def OU:bF:=cZ 161 acN acO (OT n) (acM n)
theorem aAO:bg E (OU n):=bO (aAM n) bY (by unfold OT;rfl) Tryz.func161 av
def acP:bq:=⟨[(3,⟨[1,2],[],⟨[(5,.aS 42 (.st 11)),(6,aJ)],[(42,.arr (.st 11))]⟩,[(.exit 0,⟨[(5,.aS 42 (.st 11))],[(42,.arr (.st 11))]⟩)]⟩),
 (8,⟨[1,2,5,6],[],⟨[(7,aJ)],[(42,.arr (.st 11))]⟩,[(.exit 2,⟨[(7,aJ)],[(42,.arr (.st 11))]⟩)]⟩)],[]⟩
abbrev acQ:aI:=[.d (.st 12),aJ]
abbrev acR:aI:=[.d (.slice (.st 11))]
@[irreducible] def DV (p:aT R.T acQ):Option (aT R.T acR):=bI E R n true (OU n) aX acP Tryz.f163 acQ acR p
def acS:bF:=cZ 163 acQ acR (DV n) (OU n)
theorem aAP:bg E (acS n):=bO (aAO n) bY (by unfold DV;rfl) Tryz.func163 av
def aAQ:bq:=⟨[],[]⟩
abbrev acT:aI:=[.d (.slice (.st 11))]
abbrev acU:aI:=[aJ]
@[irreducible] def BK:bZ acT acU:=bI E R n false (acS n) aX aAQ Tryz.f197 acT acU
def U6:bF:=cZ 197 acT acU (BK n) (acS n)
theorem aAR:bg E (U6 n):=bO (aAP n) bY (by unfold BK;rfl) Tryz.func197 av
def anf:bq:=⟨[(6,⟨[2,3,4,6,7],[4,6],⟨[(8,.l (.own 54) (.st 22)),(9,aJ)],[]⟩,[(.exit 0,⟨[(8,.l (.own 54) (.st 22))],[]⟩)]⟩)],[]⟩
abbrev acV:aI:=[.d (.st 12),.d (.st 14),.d (.slice (.st 11))]
abbrev acW:aI:=[.d (.st 18)]
@[irreducible] def DW:bZ acV acW:=bI E R n false (U6 n) aX anf Tryz.f164 acV acW
def U7:bF:=cZ 164 acV acW (DW n) (U6 n)
theorem aAS:bg E (U7 n):=bO (aAR n) bY (by unfold DW;rfl) Tryz.func164 av
def ang:bq:=⟨[(5,⟨[2,3,4,6],[4,6],⟨[(7,.l (.own 46) (.st 22)),(8,aJ)],[]⟩,[(.exit 0,⟨[(7,.l (.own 46) (.st 22))],[]⟩)]⟩)],[]⟩
abbrev acX:aI:=[.d (.st 12),.d (.st 14),.d (.slice (.st 11))]
abbrev acY:aI:=[.d (.st 18)]
@[irreducible] def DX:bZ acX acY:=bI E R n false (U7 n) aX ang Tryz.f165 acX acY
def U8:bF:=cZ 165 acX acY (DX n) (U7 n)
theorem aAT:bg E (U8 n):=bO (aAS n) bY (by unfold DX;rfl) Tryz.func165 av
def anh:bq:=⟨[(8,⟨[2,3,4,6,7],[4,6],⟨[(8,.l (.own 78) (.st 22)),(9,aJ)],[]⟩,[(.exit 0,⟨[(8,.l (.own 78) (.st 22))],[]⟩)]⟩)],[]⟩
abbrev acZ:aI:=[.d (.st 12),.d (.st 14),.d (.slice (.st 11))]
abbrev ac0:aI:=[.d (.st 18)]
@[irreducible] def DY:bZ acZ ac0:=bI E R n false (U8 n) aX anh Tryz.f166 acZ ac0
def ac1:bF:=cZ 166 acZ ac0 (DY n) (U8 n)
theorem aAU:bg E (ac1 n):=bO (aAT n) bY (by unfold DY;rfl) Tryz.func166 av
def aAV:bq:=⟨[],[]⟩
abbrev ac2:aI:=[.d (.st 12),.d (.st 14)]
abbrev ac3:aI:=[.d (.st 18)]
@[irreducible] def ZS:bZ ac2 ac3:=bI E R n false (ac1 n) aX aAV Tryz.f113 ac2 ac3
def U9:bF:=cZ 113 ac2 ac3 (ZS n) (ac1 n)
theorem aAW:bg E (U9 n):=bO (aAU n) bY (by unfold ZS;rfl) Tryz.func113 av
def ani:bq:=⟨[(3,⟨[1,4,5],[],⟨[(6,aJ)],[(4,.st 16),(5,.st 18)]⟩,[(.exit 0,⟨[],[(4,.st 16),(5,.st 18)]⟩),(.ret,⟨[],[(4,.st 16)]⟩)]⟩)],[]⟩
abbrev ac4:aI:=[.d (.st 8),.d (.slice (.st 14))]
abbrev ac5:aI:=[.d (.st 16)]
@[irreducible] def OV:bZ ac4 ac5:=bI E R n false (U9 n) aX ani Tryz.f59 ac4 ac5
def ac6:bF:=cZ 59 ac4 ac5 (OV n) (U9 n)
theorem aAX:bg E (ac6 n):=bO (aAW n) bY (by unfold OV;rfl) Tryz.func59 av
def aAY:bq:=⟨[],[]⟩
abbrev ac7:aI:=[.d (.st 8),.d (.slice (.st 14))]
abbrev ac8:aI:=[.d (.st 12),.d .bool]
@[irreducible] def OW:bZ ac7 ac8:=bI E R n false (ac6 n) aX aAY Tryz.f33 ac7 ac8
def ac9:bF:=cZ 33 ac7 ac8 (OW n) (ac6 n)
theorem aAZ:bg E (ac9 n):=bO (aAX n) bY (by unfold OW;rfl) Tryz.func33 av
def aA0:bq:=⟨[],[]⟩
abbrev ada:aI:=[.d (.st 3)]
abbrev adb:aI:=[.d .bool]
@[irreducible] def Va:bZ ada adb:=bI E R n false (ac9 n) aX aA0 Tryz.f10 ada adb
def anj:bF:=cZ 10 ada adb (Va n) (ac9 n)
theorem aA1:bg E (anj n):=bO (aAZ n) bY (by unfold Va;rfl) Tryz.func10 av
abbrev OX:aI:=[]
abbrev OY:aI:=[.d .bool]
@[irreducible] def Ad (n:Nat)(p:aT R.T OX):Option (aT R.T OY):=some true
theorem aA2 (p:aT R.T OX):Ad n p=some true:=by unfold Ad;rfl
theorem aA3 (p:aT R.T OX)(x:aT R.T OY)(h:Ad n p=some x):Pure E 12 (bM R OX p) (jy (bM R OY x)):=by unfold Ad at h;exact aAh p x h
def ade:bF:=kE 12 ⟨OX,OY,Ad n,jC R OY,false⟩ (anj n)
theorem aA4:bg E (ade n):=pG (aA1 n) (aA3 n)
def aA5:bq:=⟨[],[]⟩
abbrev adf:aI:=[.d (.st 12),aJ]
abbrev adg:aI:=[aJ]
@[irreducible] def Ky:bZ adf adg:=bI E R n false (ade n) aX aA5 Tryz.f129 adf adg
def adh:bF:=cZ 129 adf adg (Ky n) (ade n)
theorem aA6:bg E (adh n):=bO (aA4 n) bY (by unfold Ky;rfl) Tryz.func129 av
def aA7:bq:=⟨[],[]⟩
abbrev adi:aI:=[.d (.st 12),.d (.st 11)]
abbrev adj:aI:=[.d .bool]
@[irreducible] def Kz:bZ adi adj:=bI E R n false (adh n) aX aA7 Tryz.f83 adi adj
def adk:bF:=cZ 83 adi adj (Kz n) (adh n)
theorem aA8:bg E (adk n):=bO (aA6 n) bY (by unfold Kz;rfl) Tryz.func83 av
def aA9:bq:=⟨[],[]⟩
abbrev adl:aI:=[.d (.st 11),.aY [aJ,aJ,.d (.slice (.st 7)),aJ,aJ,.d (.slice (.int .i64)),.d (.slice (.st 11))] 0]
abbrev adn:aI:=[.d .bool]
@[irreducible] def OZ:bZ adl adn:=bI E R n false (adk n) aX aA9 Tryz.f82 adl adn
def Vb:bF:=cZ 82 adl adn (OZ n) (adk n)
theorem aBa:bg E (Vb n):=bO (aA8 n) bY (by unfold OZ;rfl) Tryz.func82 av
def ank:bq:=⟨[(2,⟨[1,8,9],[],⟨[(4,.l (.own 20) (.st 11)),(5,.l (.own 24) (.st 11)),(10,aJ)],[]⟩,[(.exit 0,⟨[(4,.l (.own 20) (.st 11)),(5,.l (.own 24) (.st 11))],[]⟩)]⟩)],[]⟩
abbrev ado:aI:=[.d (.slice (.st 11)),.fn 82 [] [.aY [aJ,aJ,.d (.slice (.st 7)),aJ,aJ,.d (.slice (.int .i64)),.d (.slice (.st 11))] 0]]
abbrev adp:aI:=[.d (.slice (.st 11)),.d (.slice (.st 11))]
@[irreducible] def Vd:bZ ado adp:=bI E R n false (Vb n) aX ank Tryz.f81 ado adp
def adq:bF:=cZ 81 ado adp (Vd n) (Vb n)
theorem aBb:bg E (adq n):=bO (aBa n) bY (by unfold Vd;rfl) Tryz.func81 av
def aBd:bq:=⟨[],[]⟩
abbrev adr:aI:=[.d (.st 11)]
abbrev ads:aI:=[.d .bool]
@[irreducible] def Ve:bZ adr ads:=bI E R n false (adq n) aX aBd Tryz.f84 adr ads
def Vf:bF:=cZ 84 adr ads (Ve n) (adq n)
theorem aBe:bg E (Vf n):=bO (aBb n) bY (by unfold Ve;rfl) Tryz.func84 av
def anl:bq:=⟨[(2,⟨[1,8,9],[],⟨[(4,.l (.own 20) (.st 11)),(5,.l (.own 24) (.st 11)),(10,aJ)],[]⟩,[(.exit 0,⟨[(4,.l (.own 20) (.st 11)),(5,.l (.own 24) (.st 11))],[]⟩)]⟩)],[]⟩
abbrev adt:aI:=[.d (.slice (.st 11)),.fn 84 [] []]
abbrev adu:aI:=[.d (.slice (.st 11)),.d (.slice (.st 11))]
@[irreducible] def Vg:bZ adt adu:=bI E R n false (Vf n) aX anl Tryz.f81 adt adu
def adv:bF:=cZ 81 adt adu (Vg n) (Vf n)
theorem aBf:bg E (adv n):=bO (aBe n) bY (by unfold Vg;rfl) Tryz.func81 av
def aBg:bq:=⟨[],[]⟩
abbrev adw:aI:=[.d (.st 12)]
abbrev adx:aI:=[.d (.slice (.st 11)),.d (.slice (.st 11))]
@[irreducible] def KA:bZ adw adx:=bI E R n false (adv n) aX aBg Tryz.f35 adw adx
def ady:bF:=cZ 35 adw adx (KA n) (adv n)
theorem aBh:bg E (ady n):=bO (aBf n) bY (by unfold KA;rfl) Tryz.func35 av
def aBi:bq:=⟨[],[]⟩
abbrev adz:aI:=[.d (.st 12),aJ]
abbrev adA:aI:=[aJ]
@[irreducible] def KC:bZ adz adA:=bI E R n false (ady n) aX aBi Tryz.f130 adz adA
def adB:bF:=cZ 130 adz adA (KC n) (ady n)
theorem aBj:bg E (adB n):=bO (aBh n) bY (by unfold KC;rfl) Tryz.func130 av
def aBk:bq:=⟨[],[]⟩
abbrev adC:aI:=[.d (.st 12),.d (.st 11)]
abbrev adD:aI:=[.d .bool]
@[irreducible] def O1:bZ adC adD:=bI E R n false (adB n) aX aBk Tryz.f86 adC adD
def Vh:bF:=cZ 86 adC adD (O1 n) (adB n)
theorem aBl:bg E (Vh n):=bO (aBj n) bY (by unfold O1;rfl) Tryz.func86 av
def anm:bq:=⟨[(3,⟨[1,2],[],⟨[(5,.l (.own 50) (.st 11)),(6,aJ)],[]⟩,[(.exit 0,⟨[(5,.l (.own 50) (.st 11))],[]⟩)]⟩)],[]⟩
abbrev adE:aI:=[.d (.st 12),.d .bool]
abbrev adF:aI:=[.d (.slice (.st 11))]
@[irreducible] def BL:bZ adE adF:=bI E R n false (Vh n) aX anm Tryz.f37 adE adF
def Vi:bF:=cZ 37 adE adF (BL n) (Vh n)
theorem aBm:bg E (Vi n):=bO (aBl n) bY (by unfold BL;rfl) Tryz.func37 av
def ano:bq:=⟨[(3,⟨[0],[],⟨[(3,.l (.own 7) (.int .u8)),(4,aJ)],[]⟩,[(.exit 0,⟨[(3,.l (.own 7) (.int .u8))],[]⟩)]⟩)],[]⟩
abbrev adG:aI:=[.d (.slice .str)]
abbrev adH:aI:=[.d (.slice (.int .u8))]
@[irreducible] def KD:bZ adG adH:=bI E R n false (Vi n) aX ano Tryz.f137 adG adH
def Vj:bF:=cZ 137 adG adH (KD n) (Vi n)
theorem aBn:bg E (Vj n):=bO (aBm n) bY (by unfold KD;rfl) Tryz.func137 av
def anp:bq:=⟨[(6,⟨[1],[1],⟨[(3,.l (.own 28) (.int .i64)),(4,.l (.own 71) .str),(5,aJ)],[]⟩,[(.exit 0,⟨[(3,.l (.own 28) (.int .i64)),(4,.l (.own 71) .str)],[]⟩)]⟩)],[]⟩
abbrev adI:aI:=[.d (.st 10)]
abbrev adJ:aI:=[.d (.slice (.int .u8))]
@[irreducible] def DZ:bZ adI adJ:=bI E R n false (Vj n) aX anp Tryz.f94 adI adJ
def adK:bF:=cZ 94 adI adJ (DZ n) (Vj n)
theorem aBo:bg E (adK n):=bO (aBn n) bY (by unfold DZ;rfl) Tryz.func94 av
def aBp:bq:=⟨[],[]⟩
abbrev adL:aI:=[.d (.st 10),.d (.st 10)]
abbrev adM:aI:=[.d .bool]
@[irreducible] def O4:bZ adL adM:=bI E R n false (adK n) aX aBp Tryz.f85 adL adM
def Vk:bF:=cZ 85 adL adM (O4 n) (adK n)
theorem aBq:bg E (Vk n):=bO (aBo n) bY (by unfold O4;rfl) Tryz.func85 av
def anq:bq:=⟨[(4,⟨[0,1],[],⟨[(5,aJ)],[]⟩,[(.exit 0,⟨[],[]⟩),(.ret,⟨[(4,.d .bool)],[]⟩)]⟩)],[]⟩
abbrev adN:aI:=[.d (.slice (.st 11)),.d (.slice (.st 11))]
abbrev adO:aI:=[.d .bool]
@[irreducible] def KE:bZ adN adO:=bI E R n false (Vk n) aX anq Tryz.f36 adN adO
def adP:bF:=cZ 36 adN adO (KE n) (Vk n)
theorem aBr:bg E (adP n):=bO (aBq n) bY (by unfold KE;rfl) Tryz.func36 av
def aBs:bq:=⟨[],[]⟩
abbrev adQ:aI:=[]
abbrev adR:aI:=[jl]
@[irreducible] def O5:bZ adQ adR:=bI E R n false (adP n) aX aBs Tryz.f140 adQ adR
def adS:bF:=cZ 140 adQ adR (O5 n) (adP n)
theorem adT:bg E (adS n):=bO (aBr n) bY (by unfold O5;rfl) Tryz.func140 av
def anr:bq:=⟨[],[]⟩
abbrev yT:aI:=[lF]
abbrev Ae:aI:=[jl]
def Af:Nat->List bQ
 |_=>yT
def vY:Nat->List bQ
 |_=>Ae
def aBt:Nat->bq
 |_=>anr
def aBu:Nat->Func
 |_=>Tryz.f98
def Vl (g:(i:Nat)->aT R.T (Af i)->Option (aT R.T (vY i))):Nat->List (ig R):=kE 98 ⟨Af 0,vY 0,g 0,jC R (vY 0),false⟩ (adS n)
def xJ (n:Nat):Nat->(i:Nat)->aT R.T (Af i)->Option (aT R.T (vY i))
 |0,_,_=>none|m+1,i,p=>bI E R n false (Vl n (xJ n m)) aX (aBt i) (aBu i) (Af i) (vY i) p
attribute [irreducible] xJ
theorem ant (n m:Nat)(p:aT R.T yT):xJ n (m+1) 0 p=bI E R n false (Vl n (xJ n m)) aX anr Tryz.f98 yT Ae p:=av
theorem anu (p:aT R.T yT):xJ n 0 0 p=none:=av
theorem aBv (p:aT R.T (Af 0))(x:aT R.T (vY 0))(h:xJ n 0 0 p=some x):Pure E 98 (bM R (Af 0) p) (jy (bM R (vY 0) x)):=absurd ((anu n p).symm.trans h) nofun
theorem aBw (n m:Nat)(hk:bg E (Vl n (xJ n m)))(p:aT R.T (Af 0))(x:aT R.T (vY 0))(h:xJ n (m+1) 0 p=some x):Pure E 98 (bM R (Af 0) p) (jy (bM R (vY 0) x)):=
 yM (args:=yT) (res:=Ae) oK hk bY ((ant n m p).symm.trans h) Tryz.func98 rfl rfl rfl rfl av
theorem anv (n:Nat):∀m,bg E (Vl n (xJ n m))
 |0=>pG (f:=98) (r:=⟨Af 0,vY 0,xJ n 0 0,jC R (vY 0),false⟩) (adT n) (aBv n)|m+1=>pG (f:=98) (r:=⟨Af 0,vY 0,xJ n (m+1) 0,jC R (vY 0),false⟩) (adT n) (aBw n m (anv n m))
@[irreducible] def D5 (n m:Nat)(p:aT R.T yT):Option (aT R.T Ae):=xJ n m 0 p
@[irreducible] def BM (p:aT R.T yT):Option (aT R.T Ae):=D5 n n p
theorem anw (p:aT R.T yT)(x:aT R.T Ae)(h:BM n p=some x):Pure E 98 (bM R yT p) (jy (bM R Ae x)):=by
 unfold BM D5 at h;cases n with
 |zero=>exact absurd ((anu 0 p).symm.trans h) nofun|succ n=>exact yM (args:=yT) (res:=Ae) oK (anv (n+1) n) bY ((ant (n+1) n p).symm.trans h) Tryz.func98 rfl rfl rfl rfl av
def anx:bF:=kE 98 ⟨yT,Ae,BM n,jC R Ae,false⟩ (adS n)
theorem aBx:bg E (anx n):=pG (adT n) (anw n)
abbrev Vm:aI:=[lF,aJ]
abbrev O6:aI:=[lF,aJ]
@[irreducible] def Xs (p:aT R.T Vm):Option (aT R.T O6):=OD (BM n) (Bz n) p.1 p.2
theorem aBy (l:List au)(i:Int):Xs n (l,i)=OD (BM n) (Bz n) l i:=by unfold Xs;rfl
theorem aBz (p:aT R.T Vm)(x:aT R.T O6)(h:Xs n p=some x):Pure E 87 (bM R Vm p) (jy (bM R O6 x)):=by unfold Xs at h;exact aAm (anw n) (aa3 n) h
def Vn:bF:=kE 87 ⟨Vm,O6,Xs n,jC R O6,false⟩ (anx n)
theorem aBA:bg E (Vn n):=pG (aBx n) (aBz n)
def anz:bq:=⟨[(2,⟨[0,3,11,12],[3],⟨[(13,aJ)],[]⟩,[(.exit 0,⟨[],[]⟩),(.ret,⟨[(4,aJ),(5,.l .any (.st 0)),(6,aJ)],[]⟩)]⟩)],[]⟩
abbrev adU:aI:=[lF,jl]
abbrev adV:aI:=[aJ,lF,aJ]
@[irreducible] def O7:bZ adU adV:=bI E R n false (Vn n) aX anz Tryz.f38 adU adV
def Vo:bF:=cZ 38 adU adV (O7 n) (Vn n)
theorem aBB:bg E (Vo n):=bO (aBA n) bY (by unfold O7;rfl) Tryz.func38 av
def anA:bq:=⟨[(2,⟨[0],[],⟨[(3,aJ)],[]⟩,[(.exit 0,⟨[(3,aJ)],[]⟩)]⟩)],[]⟩
abbrev adW:aI:=[aJ]
abbrev adX:aI:=[aJ]
@[irreducible] def Gr:bZ adW adX:=bI E R n false (Vo n) aX anA Tryz.f143 adW adX
def adY:bF:=cZ 143 adW adX (Gr n) (Vo n)
theorem aBC:bg E (adY n):=bO (aBB n) bY (by unfold Gr;rfl) Tryz.func143 av
def aBD:bq:=⟨[],[]⟩
abbrev adZ:aI:=[]
abbrev ad1:aI:=[jl]
@[irreducible] def O8:bZ adZ ad1:=bI E R n false (adY n) aX aBD Tryz.f142 adZ ad1
def ad2:bF:=cZ 142 adZ ad1 (O8 n) (adY n)
theorem ad3:bg E (ad2 n):=bO (aBC n) bY (by unfold O8;rfl) Tryz.func142 av
def anB:bq:=⟨[],[]⟩
abbrev yU:aI:=[lF]
abbrev Ag:aI:=[jl]
def Ah:Nat->List bQ
 |_=>yU
def vZ:Nat->List bQ
 |_=>Ag
def aBE:Nat->bq
 |_=>anB
def aBF:Nat->Func
 |_=>Tryz.f99
def Vp (g:(i:Nat)->aT R.T (Ah i)->Option (aT R.T (vZ i))):Nat->List (ig R):=kE 99 ⟨Ah 0,vZ 0,g 0,jC R (vZ 0),false⟩ (ad2 n)
def xK (n:Nat):Nat->(i:Nat)->aT R.T (Ah i)->Option (aT R.T (vZ i))
 |0,_,_=>none|m+1,i,p=>bI E R n false (Vp n (xK n m)) aX (aBE i) (aBF i) (Ah i) (vZ i) p
attribute [irreducible] xK
theorem anC (n m:Nat)(p:aT R.T yU):xK n (m+1) 0 p=bI E R n false (Vp n (xK n m)) aX anB Tryz.f99 yU Ag p:=av
theorem anD (p:aT R.T yU):xK n 0 0 p=none:=av
theorem aBG (p:aT R.T (Ah 0))(x:aT R.T (vZ 0))(h:xK n 0 0 p=some x):Pure E 99 (bM R (Ah 0) p) (jy (bM R (vZ 0) x)):=absurd ((anD n p).symm.trans h) nofun
theorem aBH (n m:Nat)(hk:bg E (Vp n (xK n m)))(p:aT R.T (Ah 0))(x:aT R.T (vZ 0))(h:xK n (m+1) 0 p=some x):Pure E 99 (bM R (Ah 0) p) (jy (bM R (vZ 0) x)):=
 yM (args:=yU) (res:=Ag) oK hk bY ((anC n m p).symm.trans h) Tryz.func99 rfl rfl rfl rfl av
theorem anE (n:Nat):∀m,bg E (Vp n (xK n m))
 |0=>pG (f:=99) (r:=⟨Ah 0,vZ 0,xK n 0 0,jC R (vZ 0),false⟩) (ad3 n) (aBG n)|m+1=>pG (f:=99) (r:=⟨Ah 0,vZ 0,xK n (m+1) 0,jC R (vZ 0),false⟩) (ad3 n) (aBH n m (anE n m))
@[irreducible] def KF (n m:Nat)(p:aT R.T yU):Option (aT R.T Ag):=xK n m 0 p
@[irreducible] def D6 (p:aT R.T yU):Option (aT R.T Ag):=KF n n p
theorem aBI (p:aT R.T yU)(x:aT R.T Ag)(h:D6 n p=some x):Pure E 99 (bM R yU p) (jy (bM R Ag x)):=by
 unfold D6 KF at h;cases n with
 |zero=>exact absurd ((anD 0 p).symm.trans h) nofun|succ n=>exact yM (args:=yU) (res:=Ag) oK (anE (n+1) n) bY ((anC (n+1) n p).symm.trans h) Tryz.func99 rfl rfl rfl rfl av
def ad4:bF:=kE 99 ⟨yU,Ag,D6 n,jC R Ag,false⟩ (ad2 n)
theorem aBJ:bg E (ad4 n):=pG (ad3 n) (aBI n)
def aBK:bq:=⟨[],[]⟩
abbrev ad5:aI:=[lF,jl]
abbrev ad6:aI:=[lF]
@[irreducible] def KG:bZ ad5 ad6:=bI E R n false (ad4 n) aX aBK Tryz.f173 ad5 ad6
def ad7:bF:=cZ 173 ad5 ad6 (KG n) (ad4 n)
theorem ad8:bg E (ad7 n):=bO (aBJ n) bY (by unfold KG;rfl) Tryz.func173 av
def anF:bq:=⟨[],[]⟩
abbrev yV:aI:=[lF,aJ]
abbrev Ai:aI:=[lF]
def Aj:Nat->List bQ
 |_=>yV
def wh:Nat->List bQ
 |_=>Ai
def aBL:Nat->bq
 |_=>anF
def aBM:Nat->Func
 |_=>Tryz.f133
def Vq (g:(i:Nat)->aT R.T (Aj i)->Option (aT R.T (wh i))):Nat->List (ig R):=kE 133 ⟨Aj 0,wh 0,g 0,jC R (wh 0),false⟩ (ad7 n)
def xL (n:Nat):Nat->(i:Nat)->aT R.T (Aj i)->Option (aT R.T (wh i))
 |0,_,_=>none|m+1,i,p=>bI E R n false (Vq n (xL n m)) aX (aBL i) (aBM i) (Aj i) (wh i) p
attribute [irreducible] xL
theorem anG (n m:Nat)(p:aT R.T yV):xL n (m+1) 0 p=bI E R n false (Vq n (xL n m)) aX anF Tryz.f133 yV Ai p:=av
theorem anH (p:aT R.T yV):xL n 0 0 p=none:=av
theorem aBN (p:aT R.T (Aj 0))(x:aT R.T (wh 0))(h:xL n 0 0 p=some x):Pure E 133 (bM R (Aj 0) p) (jy (bM R (wh 0) x)):=absurd ((anH n p).symm.trans h) nofun
theorem aBO (n m:Nat)(hk:bg E (Vq n (xL n m)))(p:aT R.T (Aj 0))(x:aT R.T (wh 0))(h:xL n (m+1) 0 p=some x):Pure E 133 (bM R (Aj 0) p) (jy (bM R (wh 0) x)):=
 yM (args:=yV) (res:=Ai) oK hk bY ((anG n m p).symm.trans h) Tryz.func133 rfl rfl rfl rfl av
theorem anI (n:Nat):∀m,bg E (Vq n (xL n m))
 |0=>pG (f:=133) (r:=⟨Aj 0,wh 0,xL n 0 0,jC R (wh 0),false⟩) (ad8 n) (aBN n)|m+1=>pG (f:=133) (r:=⟨Aj 0,wh 0,xL n (m+1) 0,jC R (wh 0),false⟩) (ad8 n) (aBO n m (anI n m))
@[irreducible] def KH (n m:Nat)(p:aT R.T yV):Option (aT R.T Ai):=xL n m 0 p
@[irreducible] def KI (p:aT R.T yV):Option (aT R.T Ai):=KH n n p
theorem aBP (p:aT R.T yV)(x:aT R.T Ai)(h:KI n p=some x):Pure E 133 (bM R yV p) (jy (bM R Ai x)):=by
 unfold KI KH at h;cases n with
 |zero=>exact absurd ((anH 0 p).symm.trans h) nofun|succ n=>exact yM (args:=yV) (res:=Ai) oK (anI (n+1) n) bY ((anG (n+1) n p).symm.trans h) Tryz.func133 rfl rfl rfl rfl av
def ad9:bF:=kE 133 ⟨yV,Ai,KI n,jC R Ai,false⟩ (ad7 n)
theorem aBQ:bg E (ad9 n):=pG (ad8 n) (aBP n)
def aBR:bq:=⟨[],[]⟩
abbrev aea:aI:=[lF,aJ]
abbrev aeb:aI:=[.d (.st 17)]
@[irreducible] def O9:bZ aea aeb:=bI E R n false (ad9 n) aX aBR Tryz.f88 aea aeb
def Vr:bF:=cZ 88 aea aeb (O9 n) (ad9 n)
theorem aBS:bg E (Vr n):=bO (aBQ n) bY (by unfold O9;rfl) Tryz.func88 av
def anJ:bq:=⟨[(2,⟨[0,3,4],[3],⟨[(5,aJ)],[(4,.st 13)]⟩,[(.exit 0,⟨[],[(4,.st 13)]⟩),(.ret,⟨[],[(4,.st 13)]⟩)]⟩)],[]⟩
abbrev aec:aI:=[lF,jl]
abbrev aed:aI:=[.d (.st 13)]
@[irreducible] def Pb:bZ aec aed:=bI E R n false (Vr n) aX anJ Tryz.f39 aec aed
def Pd:bF:=cZ 39 aec aed (Pb n) (Vr n)
theorem anK:bg E (Pd n):=bO (aBS n) bY (by unfold Pb;rfl) Tryz.func39 av
def aee:bq:=⟨[(3,⟨[0,9,10],[],⟨[(3,aJ),(11,aJ)],[]⟩,[(.exit 0,⟨[(3,aJ)],[]⟩)]⟩),
 (11,⟨[25,26],[],⟨[(6,.l (.own 24) (.int .i64)),(27,aJ)],[]⟩,[(.exit 2,⟨[(6,.l (.own 24) (.int .i64))],[]⟩)]⟩)],[]⟩
abbrev KJ:aI:=[.d (.slice (.slice (.int .i64)))]
abbrev aef:aI:=[.d (.slice (.int .i64))]
@[irreducible] def Gs (p:aT R.T KJ):Option (aT R.T aef):=C8 E R n false (Pd n) aX aee Tryz.f134 KJ (.int .i64) p
theorem aBT (p:aT R.T KJ)(x:aT R.T aef)(h:Gs n p=some x):Pure E 134 (bM R KJ p) (.ak .sh (List.map (aV R (.int .i64)) x))/\oH E 134 (bM R KJ p) (dN R (.int .i64)) (List.map (aV R (.int .i64)) x):=by unfold Gs at h;exact Jw oK (anK n) bY h Tryz.func134 rfl rfl rfl rfl av
def Vs:bF:=kE 134 ⟨KJ,[.d (.slice (.int .i64))],Gs n,jC R aef,true⟩ (Pd n)
theorem aBU:bg E (Vs n):=Jz (G:=Gs n) (anK n) (aBT n)
def anL:bq:=⟨[(3,⟨[1,11,12],[],⟨[(5,.l (.own 10) (.int .u8)),(13,aJ)],[]⟩,[(.exit 0,⟨[(5,.l (.own 10) (.int .u8))],[]⟩)]⟩)],[]⟩
abbrev aeg:aI:=[.d (.slice .str),.fn 121 [] []]
abbrev aeh:aI:=[.d (.slice (.int .u8))]
@[irreducible] def Vt:bZ aeg aeh:=bI E R n false (Vs n) aX anL Tryz.f176 aeg aeh
def aei:bF:=cZ 176 aeg aeh (Vt n) (Vs n)
theorem aBV:bg E (aei n):=bO (aBU n) bY (by unfold Vt;rfl) Tryz.func176 av
def aBW:bq:=⟨[],[]⟩
abbrev aej:aI:=[.d (.slice .str)]
abbrev aek:aI:=[.d (.slice (.int .u8))]
@[irreducible] def Pe:bZ aej aek:=bI E R n false (aei n) aX aBW Tryz.f136 aej aek
def Pf:bF:=cZ 136 aej aek (Pe n) (aei n)
theorem aBX:bg E (Pf n):=bO (aBV n) bY (by unfold Pe;rfl) Tryz.func136 av
def ael:bq:=⟨[(3,⟨[0,9,10],[],⟨[(3,aJ),(11,aJ)],[]⟩,[(.exit 0,⟨[(3,aJ)],[]⟩)]⟩),
 (11,⟨[25,26],[],⟨[(6,.l (.own 24) (.int .u8)),(27,aJ)],[]⟩,[(.exit 2,⟨[(6,.l (.own 24) (.int .u8))],[]⟩)]⟩)],[]⟩
abbrev aem:aI:=[.d (.slice (.slice (.int .u8)))]
abbrev aen:aI:=[.d (.slice (.int .u8))]
@[irreducible] def QP:bZ aem aen:=bI E R n false (Pf n) aX ael Tryz.f135 aem aen
def Vu:bF:=cZ 135 aem aen (QP n) (Pf n)
theorem aBY:bg E (Vu n):=bO (aBX n) bY (by unfold QP;rfl) Tryz.func135 av
def anM:bq:=⟨[(4,⟨[34,35],[],⟨[(3,.l (.own 32) (.int .i64)),(4,.l (.own 53) .str),(36,aJ)],[]⟩,[(.exit 0,⟨[(3,.l (.own 32) (.int .i64)),(4,.l (.own 53) .str)],[]⟩)]⟩)],[]⟩
abbrev aeo:aI:=[.d (.st 10)]
abbrev aep:aI:=[.d (.slice (.int .u8))]
@[irreducible] def Pg:bZ aeo aep:=bI E R n false (Vu n) aX anM Tryz.f91 aeo aep
def Ph:bF:=cZ 91 aeo aep (Pg n) (Vu n)
theorem aBZ:bg E (Ph n):=bO (aBY n) bY (by unfold Pg;rfl) Tryz.func91 av
def aer:bq:=⟨[(3,⟨[0,9,10],[],⟨[(3,aJ),(11,aJ)],[]⟩,[(.exit 0,⟨[(3,aJ)],[]⟩)]⟩),
 (11,⟨[25,26],[],⟨[(6,.l (.own 24) .str),(27,aJ)],[]⟩,[(.exit 2,⟨[(6,.l (.own 24) .str)],[]⟩)]⟩)],[]⟩
abbrev aes:aI:=[.d (.slice (.slice .str))]
abbrev aeu:aI:=[.d (.slice .str)]
@[irreducible] def QQ:bZ aes aeu:=bI E R n false (Ph n) aX aer Tryz.f115 aes aeu
def aev:bF:=cZ 115 aes aeu (QQ n) (Ph n)
theorem aB0:bg E (aev n):=bO (aBZ n) bY (by unfold QQ;rfl) Tryz.func115 av
def aB1:bq:=⟨[],[]⟩
abbrev aew:aI:=[.d .str,.d (.slice .str)]
abbrev aex:aI:=[jl]
@[irreducible] def Pj:bZ aew aex:=bI E R n false (aev n) aX aB1 Tryz.f89 aew aex
def aey:bF:=cZ 89 aew aex (Pj n) (aev n)
theorem aB2:bg E (aey n):=bO (aB0 n) bY (by unfold Pj;rfl) Tryz.func89 av
def aB3:bq:=⟨[],[]⟩
abbrev aez:aI:=[jl,.d (.st 10)]
abbrev aeA:aI:=[jl]
@[irreducible] def Gt:bZ aez aeA:=bI E R n false (aey n) aX aB3 Tryz.f40 aez aeA
def aeB:bF:=cZ 40 aez aeA (Gt n) (aey n)
theorem aB4:bg E (aeB n):=bO (aB2 n) bY (by unfold Gt;rfl) Tryz.func40 av
def aB5:bq:=⟨[],[]⟩
abbrev aeC:aI:=[.d .str,.d (.slice .str)]
abbrev aeD:aI:=[jl]
@[irreducible] def Pk:bZ aeC aeD:=bI E R n false (aeB n) aX aB5 Tryz.f92 aeC aeD
def aeE:bF:=cZ 92 aeC aeD (Pk n) (aeB n)
theorem aB6:bg E (aeE n):=bO (aB4 n) bY (by unfold Pk;rfl) Tryz.func92 av
def aB7:bq:=⟨[],[]⟩
abbrev aeF:aI:=[jl,.d (.st 10)]
abbrev aeG:aI:=[jl]
@[irreducible] def Gu:bZ aeF aeG:=bI E R n false (aeE n) aX aB7 Tryz.f41 aeF aeG
def aeH:bF:=cZ 41 aeF aeG (Gu n) (aeE n)
theorem aB8:bg E (aeH n):=bO (aB6 n) bY (by unfold Gu;rfl) Tryz.func41 av
def aB9:bq:=⟨[],[]⟩
abbrev aeI:aI:=[.d (.st 14),.aY [aJ,aJ,aJ,aJ,aJ,aJ,aJ,.d (.slice (.int .i64)),.d (.slice (.st 9)),aJ] 0]
abbrev aeJ:aI:=[.d .bool]
@[irreducible] def Vv:bZ aeI aeJ:=bI E R n false (aeH n) aX aB9 Tryz.f96 aeI aeJ
def Vw:bF:=cZ 96 aeI aeJ (Vv n) (aeH n)
theorem aCa:bg E (Vw n):=bO (aB8 n) bY (by unfold Vv;rfl) Tryz.func96 av
def anN:bq:=⟨[(2,⟨[0,1,7],[],⟨[(8,aJ)],[]⟩,[(.exit 0,⟨[],[]⟩),(.ret,⟨[(4,aJ)],[]⟩)]⟩)],[]⟩
abbrev aeK:aI:=[.d (.slice (.st 14)),.fn 96 [] [.aY [aJ,aJ,aJ,aJ,aJ,aJ,aJ,.d (.slice (.int .i64)),.d (.slice (.st 9)),aJ] 0]]
abbrev aeL:aI:=[aJ]
@[irreducible] def Pm:bZ aeK aeL:=bI E R n false (Vw n) aX anN Tryz.f95 aeK aeL
def anO:bF:=cZ 95 aeK aeL (Pm n) (Vw n)
theorem aCb:bg E (anO n):=bO (aCa n) bY (by unfold Pm;rfl) Tryz.func95 av
abbrev Pn:aI:=[.d (.slice (.int .u8)),.d (.slice (.int .u8))]
abbrev Po:aI:=[aJ]
@[irreducible] def KL (n:Nat)(p:aT R.T Pn):Option (aT R.T Po):=some (NJ p.1 p.2)
theorem aCc (p:aT R.T Pn):KL n p=some (NJ p.1 p.2):=by unfold KL;rfl
theorem aCd (p:aT R.T Pn)(x:aT R.T Po)(h:KL n p=some x):Pure E 116 (bM R Pn p) (jy (bM R Po x)):=by unfold KL at h;exact axd p x h
def aeM:bF:=kE 116 ⟨Pn,Po,KL n,jC R Po,false⟩ (anO n)
theorem aCe:bg E (aeM n):=pG (aCb n) (aCd n)
def aCf:bq:=⟨[],[]⟩
abbrev aeN:aI:=[jl,jl]
abbrev aeO:aI:=[aJ]
@[irreducible] def Pp:bZ aeN aeO:=bI E R n false (aeM n) aX aCf Tryz.f67 aeN aeO
def yX:bF:=cZ 67 aeN aeO (Pp n) (aeM n)
theorem Vx:bg E (yX n):=bO (aCe n) bY (by unfold Pp;rfl) Tryz.func67 av
def aeP:bq:=⟨[(1,⟨[0,1,2,3],[],⟨[(8,aJ)],[iB]⟩,[(.exit 0,⟨[],[iB]⟩)]⟩),
 (4,⟨[0,1,2,3,8],[],⟨[(9,aJ)],[iB]⟩,[(.exit 2,⟨[],[iB]⟩)]⟩)],[]⟩
abbrev Pq:aI:=[.aS 1000000 (.st 0),aJ,aJ,.fn 67 [] []]
abbrev Pt:aI:=[]
abbrev Pv:List (Nat×iD):=[iB]
@[irreducible] def Gv:tu Pq Pv Pt:=qz E R n false (yX n) aX aeP Tryz.f177 Pq Pv Pt
theorem aCg:Ny E 177 (⟨Pq,Pv,Pt,Gv n⟩:qO R):=by intro p q y q' h;have h:Gv n p q=some (y,q'):=h;unfold Gv at h;exact Zk oK (Vx n) bY h Tryz.func177 rfl av
def Vy:IR R:=FW 177 ⟨Pq,Pv,Pt,Gv n⟩ aX
theorem aCh:mZ E (Vy n):=TL (m:=⟨Pq,Pv,Pt,Gv n⟩) bY (aCg n)
def anP:bq:=⟨[(1,⟨[0,2,3,4],[],⟨[(10,aJ)],[iB]⟩,[(.exit 0,⟨[],[iB]⟩),(.ret,⟨[],[iB]⟩)]⟩)],[(5,⟨[0,2,3,4,10],[1000000],⟨[],[]⟩,[(.normal,⟨[(11,aJ)],[]⟩)]⟩)]⟩
abbrev aeQ:aI:=[.aS 1000000 (.st 0),aJ,aJ,aJ,.fn 67 [] []]
abbrev aeR:aI:=[]
abbrev aeS:List (Nat×iD):=[iB]
@[irreducible] def ZD:tu aeQ aeS aeR:=qz E R n false (yX n) (Vy n) anP Tryz.f206 aeQ aeS aeR
def Pw:IR R:=vV 206 aeQ aeS aeR (ZD n) (Vy n)
theorem aCi:mZ E (Pw n):=xG (Vx n) (aCh n) (by unfold ZD;rfl) Tryz.func206 av
def aeT:bq:=⟨[(4,⟨[0,3,8,9,10],[],⟨[(11,aJ)],[iB]⟩,[(.exit 0,⟨[],[iB]⟩)]⟩),
 (8,⟨[0,3,8,9],[],⟨[(12,aJ)],[iB]⟩,[(.exit 2,⟨[],[iB]⟩)]⟩)],[]⟩
abbrev aeU:aI:=[.aS 1000000 (.st 0),aJ,aJ,.fn 67 [] []]
abbrev aeV:aI:=[]
abbrev aeW:List (Nat×iD):=[iB]
@[irreducible] def Vz:tu aeU aeW aeV:=qz E R n false (yX n) (Pw n) aeT Tryz.f178 aeU aeW aeV
def VA:IR R:=vV 178 aeU aeW aeV (Vz n) (Pw n)
theorem anQ:mZ E (VA n):=xG (Vx n) (aCi n) (by unfold Vz;rfl) Tryz.func178 av
def aCj:bq:=⟨[],[]⟩
abbrev aeX:aI:=[aJ]
abbrev aeY:aI:=[.d (.int .u64)]
@[irreducible] def Px:bZ aeX aeY:=bI E R n false (yX n) (VA n) aCj Tryz.f207 aeX aeY
def BN:bF:=cZ 207 aeX aeY (Px n) (yX n)
theorem KM:bg E (BN n):=bO (Vx n) (anQ n) (by unfold Px;rfl) Tryz.func207 av
def aCk:bq:=⟨[],[]⟩
abbrev aeZ:aI:=[.ref 1000000 0]
abbrev ae0:aI:=[.d (.int .u64)]
abbrev ae1:List (Nat×iD):=[(1000000,.cells [.d (.int .u64)])]
@[irreducible] def Py:tu aeZ ae1 ae0:=qz E R n false (BN n) (VA n) aCk Tryz.f208 aeZ ae1 ae0
def VB:IR R:=vV 208 aeZ ae1 ae0 (Py n) (VA n)
theorem aCl:mZ E (VB n):=xG (KM n) (anQ n) (by unfold Py;rfl) Tryz.func208 av
def anR:bq:=⟨[(5,⟨[0,1,8,9,10],[],⟨[(11,aJ)],[(9,.cells [.d (.int .u64)]),iB]⟩,[(.exit 0,⟨[],[iB]⟩)]⟩)],[(10,⟨[0,1,8,9,10,11],[9,1000000],⟨[],[]⟩,[(.normal,⟨[(12,aJ)],[]⟩)]⟩)]⟩
abbrev ae2:aI:=[.aS 1000000 (.st 0),aJ,aJ,.fn 67 [] []]
abbrev ae3:aI:=[]
abbrev ae4:List (Nat×iD):=[iB]
@[irreducible] def VD:tu ae2 ae4 ae3:=qz E R n false (BN n) (VB n) anR Tryz.f179 ae2 ae4 ae3
def ae5:IR R:=vV 179 ae2 ae4 ae3 (VD n) (VB n)
theorem aCm:mZ E (ae5 n):=xG (KM n) (aCl n) (by unfold VD;rfl) Tryz.func179 av
def aCn:bq:=⟨[],[]⟩
abbrev ae6:aI:=[lF,aJ,aJ,.ref 1000000 0,.fn 67 [] []]
abbrev ae7:aI:=[aJ,aJ]
abbrev ae8:List (Nat×iD):=[(1000000,.cells [aJ])]
@[irreducible] def ae9:tu ae6 ae8 ae7:=qz E R n false (BN n) (ae5 n) aCn Tryz.f218 ae6 ae8 ae7
def afa:IR R:=vV 218 ae6 ae8 ae7 (ae9 n) (ae5 n)
theorem aCo:mZ E (afa n):=xG (KM n) (aCm n) (by unfold ae9;rfl) Tryz.func218 av
def aCp:bq:=⟨[],[]⟩
abbrev afb:aI:=[lF,aJ,aJ,aJ,.ref 1000000 0,.fn 67 [] []]
abbrev afc:aI:=[aJ]
abbrev afd:List (Nat×iD):=[(1000000,.cells [aJ])]
@[irreducible] def afe:tu afb afd afc:=qz E R n false (BN n) (afa n) aCp Tryz.f210 afb afd afc
def aff:IR R:=vV 210 afb afd afc (afe n) (afa n)
theorem aCq:mZ E (aff n):=xG (KM n) (aCo n) (by unfold afe;rfl) Tryz.func210 av
def aCr:bq:=⟨[],[]⟩
abbrev afg:aI:=[lF,aJ,.ref 1000000 0,.fn 67 [] []]
abbrev afh:aI:=[aJ]
abbrev afi:List (Nat×iD):=[(1000000,.cells [aJ])]
@[irreducible] def afj:tu afg afi afh:=qz E R n false (BN n) (aff n) aCr Tryz.f209 afg afi afh
def Pz:IR R:=vV 209 afg afi afh (afj n) (aff n)
theorem anS:mZ E (Pz n):=xG (KM n) (aCq n) (by unfold afj;rfl) Tryz.func209 av
def aCs:bq:=⟨[],[]⟩
abbrev afk:aI:=[lF,aJ,aJ,.fn 67 [] []]
abbrev afl:aI:=[aJ,aJ]
@[irreducible] def VE:bZ afk afl:=bI E R n false (BN n) (Pz n) aCs Tryz.f180 afk afl
def ng:bF:=cZ 180 afk afl (VE n) (BN n)
theorem Gw:bg E (ng n):=bO (KM n) (anS n) (by unfold VE;rfl) Tryz.func180 av
def anT:bq:=⟨[(2,⟨[0],[],⟨[(8,aJ),(9,aJ)],[iB]⟩,[(.exit 0,⟨[],[iB]⟩)]⟩)],[]⟩
abbrev afm:aI:=[.aS 1000000 (.st 0),aJ,aJ,.fn 67 [] []]
abbrev afn:aI:=[]
abbrev afo:List (Nat×iD):=[iB]
@[irreducible] def VF:tu afm afo afn:=qz E R n false (ng n) (Pz n) anT Tryz.f181 afm afo afn
def Gx:IR R:=vV 181 afm afo afn (VF n) (Pz n)
theorem aCt:mZ E (Gx n):=xG (Gw n) (anS n) (by unfold VF;rfl) Tryz.func181 av
def PD:bq:=⟨[(3,⟨[0,1,2,3],[],⟨[(9,aJ),(10,aJ)],[iB]⟩,[(.exit 0,⟨[],[iB]⟩),(.ret,⟨[(8,.d .bool)],[iB]⟩)]⟩),
 (5,⟨[0,1,2,3,10],[1000000],⟨[(9,aJ)],[]⟩,[(.exit 2,⟨[(9,aJ)],[]⟩)]⟩),
 (14,⟨[0,1,2,3,9,10],[],⟨[(11,aJ)],[iB]⟩,[(.exit 4,⟨[],[iB]⟩)]⟩),
 (20,⟨[0,1,2,3,9,10],[],⟨[(12,aJ)],[iB]⟩,[(.exit 6,⟨[],[iB]⟩)]⟩)],[(18,⟨[0,1,2,3,9,10],[],⟨[],[]⟩,[(.normal,⟨[],[iB]⟩)]⟩)]⟩
abbrev afp:aI:=[.aS 1000000 (.st 0),aJ,aJ,.fn 67 [] []]
abbrev afq:aI:=[.d .bool]
abbrev afr:List (Nat×iD):=[iB]
@[irreducible] def VG:tu afp afr afq:=qz E R n false (ng n) (Gx n) PD Tryz.f182 afp afr afq
def KN:IR R:=vV 182 afp afr afq (VG n) (Gx n)
theorem aCu:mZ E (KN n):=xG (Gw n) (aCt n) (by unfold VG;rfl) Tryz.func182 av
def VH:bq:=⟨[(503,⟨[0,1,4],[],⟨[(11,aJ),(12,aJ)],[iB]⟩,[(.exit 0,⟨[(11,aJ)],[iB]⟩)]⟩),
 (3,⟨[0,1,4,12],[1000000],⟨[(11,aJ)],[]⟩,[(.exit 2,⟨[(11,aJ)],[]⟩)]⟩),
 (5,⟨[0,1,4,11],[1000000],⟨[(12,aJ)],[]⟩,[(.exit 4,⟨[(12,aJ)],[]⟩)]⟩)],[]⟩
abbrev afs:aI:=[.aS 1000000 (.st 0),aJ,aJ,aJ,.fn 67 [] []]
abbrev aft:aI:=[aJ]
abbrev afu:List (Nat×iD):=[iB]
@[irreducible] def VI:tu afs afu aft:=qz E R n false (ng n) (KN n) VH Tryz.f183 afs afu aft
def D7:IR R:=vV 183 afs afu aft (VI n) (KN n)
theorem aCv:mZ E (D7 n):=xG (Gw n) (aCu n) (by unfold VI;rfl) Tryz.func183 av
def KO:bq:=⟨[(3,⟨[0,1,4,13],[1000000],⟨[(12,aJ)],[]⟩,[(.exit 0,⟨[(12,aJ)],[]⟩)]⟩),
 (5,⟨[0,1,4,12],[1000000],⟨[(13,aJ)],[]⟩,[(.exit 2,⟨[(13,aJ)],[]⟩)]⟩),
 (513,⟨[0,1,4],[],⟨[(12,aJ),(13,aJ)],[iB]⟩,[(.exit 4,⟨[(13,aJ)],[iB]⟩)]⟩),
 (13,⟨[0,1,4,13],[1000000],⟨[(12,aJ)],[]⟩,[(.exit 6,⟨[(12,aJ)],[]⟩)]⟩),
 (15,⟨[0,1,4,12],[1000000],⟨[(13,aJ)],[]⟩,[(.exit 8,⟨[(13,aJ)],[]⟩)]⟩)],[]⟩
abbrev afv:aI:=[.aS 1000000 (.st 0),aJ,aJ,aJ,.fn 67 [] []]
abbrev afw:aI:=[aJ,.d .bool]
abbrev afx:List (Nat×iD):=[iB]
@[irreducible] def VJ:tu afv afx afw:=qz E R n false (ng n) (D7 n) KO Tryz.f184 afv afx afw
def PE:IR R:=vV 184 afv afx afw (VJ n) (D7 n)
theorem anU:mZ E (PE n):=xG (Gw n) (aCv n) (by unfold VJ;rfl) Tryz.func184 av
def PG:bq:=⟨[(2,⟨[0,4],[],⟨[(1,aJ),(2,aJ),(3,aJ),(10,.d .bool),(11,.d .bool)],[iB]⟩,[(.ret,⟨[],[iB]⟩)]⟩)],[(10,⟨[0,1,2,4,10,11,12],[],⟨[],[]⟩,[(.normal,⟨[(3,aJ)],[iB]⟩)]⟩),(15,⟨[0,1,2,3,4,10,11,12],[],⟨[],[]⟩,[(.normal,⟨[(13,aJ),(14,aJ)],[iB]⟩)]⟩),(17,⟨[0,1,2,3,4,10,11,12,13],[],⟨[],[]⟩,[(.normal,⟨[],[iB]⟩),(.ret,⟨[],[iB]⟩)]⟩)]⟩
abbrev uL:aI:=[.aS 1000000 (.st 0),aJ,aJ,aJ,.fn 67 [] []]
abbrev xM:aI:=[]
abbrev rW:List (Nat×iD):=[iB]
def yY (n:Nat):Nat->aT R.T uL->lW R.T rW->Option (aT R.T xM×lW R.T rW)
 |0,_,_=>none|m+1,p,q=>qz E R n false (ng n) (FW 138 ⟨uL,rW,xM,yY n m⟩ (PE n)) PG Tryz.f138 uL rW xM p q
attribute [irreducible] yY
theorem aCw (n m:Nat)(p:aT R.T uL)(q:lW R.T rW):yY n (m+1) p q=qz E R n false (ng n) (FW 138 ⟨uL,rW,xM,yY n m⟩ (PE n)) PG Tryz.f138 uL rW xM p q:=av
theorem aCx (p:aT R.T uL)(q:lW R.T rW):yY n 0 p q=none:=av
theorem anV (n:Nat):∀m,Ny E 138 (⟨uL,rW,xM,yY n m⟩:qO R)
 |0=>fun p q y q' h=>absurd (((aCx n p q).symm.trans h)) nofun
 |m+1=>fun p q y q' h=>Zk oK (Gw n) (TL (m:=⟨uL,rW,xM,yY n m⟩) (anU n) (anV n m)) ((aCw n m p q).symm.trans h) Tryz.func138 rfl av
@[irreducible] def D8:aT R.T uL->lW R.T rW->Option (aT R.T xM×lW R.T rW):=yY n n
theorem aCy:Ny E 138 (⟨uL,rW,xM,D8 n⟩:qO R):=by unfold D8;exact anV n n
def afy:IR R:=FW 138 ⟨uL,rW,xM,D8 n⟩ (PE n)
theorem aCz:mZ E (afy n):=TL (m:=⟨uL,rW,xM,D8 n⟩) (anU n) (aCy n)
def aCA:bq:=⟨[],[]⟩
abbrev afz:aI:=[.aS 1000000 (.st 0),.fn 67 [] []]
abbrev afA:aI:=[]
abbrev afB:List (Nat×iD):=[iB]
@[irreducible] def PI:tu afz afB afA:=qz E R n false (ng n) (afy n) aCA Tryz.f97 afz afB afA
def pY:IR R:=vV 97 afz afB afA (PI n) (afy n)
theorem wm:mZ E (pY n):=xG (Gw n) (aCz n) (by unfold PI;rfl) Tryz.func97 av
def anW:bq:=⟨[(4,⟨[0,16,17],[],⟨[(5,.aS 37 (.st 0)),(18,aJ)],[(37,.arr (.st 0))]⟩,[(.exit 0,⟨[(5,.aS 37 (.st 0))],[(37,.arr (.st 0))]⟩)]⟩)],[]⟩
abbrev afC:aI:=[.d (.slice (.st 14)),.d (.st 12)]
abbrev afD:aI:=[lF]
@[irreducible] def PK (p:aT R.T afC):Option (aT R.T afD):=bI E R n true (ng n) (pY n) anW Tryz.f43 afC afD p
def VK:bF:=cZ 43 afC afD (PK n) (ng n)
theorem aCB:bg E (VK n):=bO (Gw n) (wm n) (by unfold PK;rfl) Tryz.func43 av
def anX:bq:=⟨[(2,⟨[0,1],[],⟨[(5,aJ)],[]⟩,[(.exit 0,⟨[],[]⟩),(.ret,⟨[(4,aJ)],[]⟩)]⟩)],[]⟩
abbrev afE:aI:=[.d (.slice (.st 14)),aJ]
abbrev afF:aI:=[aJ]
@[irreducible] def PL:bZ afE afF:=bI E R n false (VK n) (pY n) anX Tryz.f49 afE afF
def afG:bF:=cZ 49 afE afF (PL n) (VK n)
theorem aCC:bg E (afG n):=bO (aCB n) (wm n) (by unfold PL;rfl) Tryz.func49 av
def aCD:bq:=⟨[],[]⟩
abbrev afH:aI:=[jl,jl]
abbrev afI:aI:=[.d .bool]
@[irreducible] def PN:bZ afH afI:=bI E R n false (afG n) (pY n) aCD Tryz.f68 afH afI
def PO:bF:=cZ 68 afH afI (PN n) (afG n)
theorem aCE:bg E (PO n):=bO (aCC n) (wm n) (by unfold PN;rfl) Tryz.func68 av
def afJ:bq:=⟨[(4,⟨[0,6],[],⟨[(5,.l (.own 60) (.st 0)),(7,aJ)],[]⟩,[(.exit 0,⟨[(5,.l (.own 60) (.st 0))],[]⟩)]⟩),
 (12,⟨[0,5,6,7,9],[9],⟨[(10,.l (.own 60) (.st 0)),(11,.l (.own 67) (.st 0)),(12,aJ)],[]⟩,[(.exit 2,⟨[(10,.l (.own 60) (.st 0)),(11,.l (.own 67) (.st 0))],[]⟩)]⟩)],[]⟩
abbrev afK:aI:=[.d (.slice (.st 14)),.d (.st 12)]
abbrev afL:aI:=[lF]
@[irreducible] def PS:bZ afK afL:=bI E R n false (PO n) (pY n) afJ Tryz.f44 afK afL
def VL:bF:=cZ 44 afK afL (PS n) (PO n)
theorem aCF:bg E (VL n):=bO (aCE n) (wm n) (by unfold PS;rfl) Tryz.func44 av
def anY:bq:=⟨[(4,⟨[0,1],[],⟨[(5,aJ)],[]⟩,[(.exit 0,⟨[],[]⟩),(.ret,⟨[(4,.d .bool)],[]⟩)]⟩)],[]⟩
abbrev afM:aI:=[lF,lF]
abbrev afN:aI:=[.d .bool]
@[irreducible] def D9:bZ afM afN:=bI E R n false (VL n) (pY n) anY Tryz.f42 afM afN
def afO:bF:=cZ 42 afM afN (D9 n) (VL n)
theorem aCG:bg E (afO n):=bO (aCF n) (wm n) (by unfold D9;rfl) Tryz.func42 av
def aCH:bq:=⟨[],[]⟩
abbrev afP:aI:=[lF]
abbrev afQ:aI:=[jl]
@[irreducible] def PU:bZ afP afQ:=bI E R n false (afO n) (pY n) aCH Tryz.f45 afP afQ
def afR:bF:=cZ 45 afP afQ (PU n) (afO n)
theorem aCI:bg E (afR n):=bO (aCG n) (wm n) (by unfold PU;rfl) Tryz.func45 av
def aCJ:bq:=⟨[],[]⟩
abbrev afS:aI:=[lF]
abbrev afT:aI:=[jl]
@[irreducible] def PV:bZ afS afT:=bI E R n false (afR n) (pY n) aCJ Tryz.f46 afS afT
def anZ:bF:=cZ 46 afS afT (PV n) (afR n)
theorem aCK:bg E (anZ n):=bO (aCI n) (wm n) (by unfold PV;rfl) Tryz.func46 av
abbrev PW:aI:=[jl,aJ,aJ,lF,jl]
abbrev PX:aI:=[.d .bool]
@[irreducible] def Ea (n:Nat)(p:aT R.T PW):Option (aT R.T PX):=zW p.1 p.2.1 p.2.2.1 p.2.2.2.1 p.2.2.2.2
theorem aCL (p:aT R.T PW):Ea n p=zW p.1 p.2.1 p.2.2.1 p.2.2.2.1 p.2.2.2.2:=by unfold Ea;rfl
theorem aCM (p:aT R.T PW)(x:aT R.T PX)(h:Ea n p=some x):Pure E 100 (bM R PW p) (jy (bM R PX x)):=by unfold Ea at h;exact aAo p x h
def afU:bF:=kE 100 ⟨PW,PX,Ea n,jC R PX,false⟩ (anZ n)
theorem aCN:bg E (afU n):=pG (aCK n) (aCM n)
def aCO:bq:=⟨[],[]⟩
abbrev afV:aI:=[.d (.st 3),jl,.d (.st 10),aJ,lF]
abbrev afW:aI:=[.d .bool]
@[irreducible] def PY:bZ afV afW:=bI E R n false (afU n) (pY n) aCO Tryz.f47 afV afW
def afX:bF:=cZ 47 afV afW (PY n) (afU n)
theorem afY:bg E (afX n):=bO (aCN n) (wm n) (by unfold PY;rfl) Tryz.func47 av
def an0:bq:=⟨[],[]⟩
abbrev yZ:aI:=[jl,aJ,aJ,lF]
abbrev Ak:aI:=[.d (.st 21)]
def Al:Nat->List bQ
 |_=>yZ
def wo:Nat->List bQ
 |_=>Ak
def aCP:Nat->bq
 |_=>an0
def aCQ:Nat->Func
 |_=>Tryz.f148
def VN (g:(i:Nat)->aT R.T (Al i)->Option (aT R.T (wo i))):Nat->List (ig R):=kE 148 ⟨Al 0,wo 0,g 0,jC R (wo 0),false⟩ (afX n)
def xO (n:Nat):Nat->(i:Nat)->aT R.T (Al i)->Option (aT R.T (wo i))
 |0,_,_=>none|m+1,i,p=>bI E R n false (VN n (xO n m)) (pY n) (aCP i) (aCQ i) (Al i) (wo i) p
attribute [irreducible] xO
theorem an1 (n m:Nat)(p:aT R.T yZ):xO n (m+1) 0 p=bI E R n false (VN n (xO n m)) (pY n) an0 Tryz.f148 yZ Ak p:=av
theorem an2 (p:aT R.T yZ):xO n 0 0 p=none:=av
theorem aCR (p:aT R.T (Al 0))(x:aT R.T (wo 0))(h:xO n 0 0 p=some x):Pure E 148 (bM R (Al 0) p) (jy (bM R (wo 0) x)):=absurd ((an2 n p).symm.trans h) nofun
theorem aCS (n m:Nat)(hk:bg E (VN n (xO n m)))(p:aT R.T (Al 0))(x:aT R.T (wo 0))(h:xO n (m+1) 0 p=some x):Pure E 148 (bM R (Al 0) p) (jy (bM R (wo 0) x)):=
 yM (args:=yZ) (res:=Ak) oK hk (wm n) ((an1 n m p).symm.trans h) Tryz.func148 rfl rfl rfl rfl av
theorem an3 (n:Nat):∀m,bg E (VN n (xO n m))
 |0=>pG (f:=148) (r:=⟨Al 0,wo 0,xO n 0 0,jC R (wo 0),false⟩) (afY n) (aCR n)|m+1=>pG (f:=148) (r:=⟨Al 0,wo 0,xO n (m+1) 0,jC R (wo 0),false⟩) (afY n) (aCS n m (an3 n m))
@[irreducible] def KP (n m:Nat)(p:aT R.T yZ):Option (aT R.T Ak):=xO n m 0 p
@[irreducible] def KQ (p:aT R.T yZ):Option (aT R.T Ak):=KP n n p
theorem aCT (p:aT R.T yZ)(x:aT R.T Ak)(h:KQ n p=some x):Pure E 148 (bM R yZ p) (jy (bM R Ak x)):=by
 unfold KQ KP at h;cases n with
 |zero=>exact absurd ((an2 0 p).symm.trans h) nofun|succ n=>exact yM (args:=yZ) (res:=Ak) oK (an3 (n+1) n) (wm (n+1)) ((an1 (n+1) n p).symm.trans h) Tryz.func148 rfl rfl rfl rfl av
def afZ:bF:=kE 148 ⟨yZ,Ak,KQ n,jC R Ak,false⟩ (afX n)
theorem aCU:bg E (afZ n):=pG (afY n) (aCT n)
def aCV:bq:=⟨[],[]⟩
abbrev af0:aI:=[jl,aJ,aJ,lF,jl]
abbrev af2:aI:=[.d .bool]
@[irreducible] def KR:bZ af0 af2:=bI E R n false (afZ n) (pY n) aCV Tryz.f101 af0 af2
def af3:bF:=cZ 101 af0 af2 (KR n) (afZ n)
theorem aCW:bg E (af3 n):=bO (aCU n) (wm n) (by unfold KR;rfl) Tryz.func101 av
def aCX:bq:=⟨[],[]⟩
abbrev af4:aI:=[.d (.st 3),jl,.d (.st 10),aJ,lF]
abbrev af5:aI:=[.d .bool]
@[irreducible] def PZ:bZ af4 af5:=bI E R n false (af3 n) (pY n) aCX Tryz.f48 af4 af5
def an4:bF:=cZ 48 af4 af5 (PZ n) (af3 n)
theorem aCY:bg E (an4 n):=bO (aCW n) (wm n) (by unfold PZ;rfl) Tryz.func48 av
def aCZ:bq:=⟨[],[]⟩
abbrev VO:aI:=[.d (.st 8),.d (.slice (.st 14)),jl,.d (.st 10),lF,jl,.d (.st 3),aJ]
abbrev VP:aI:=[.d .bool]
@[irreducible] def XN:bZ VO VP:=bI E R n false (an4 n) (pY n) aCZ Tryz.f6 VO VP
theorem aC0 (p:aT R.T VO)(x:aT R.T VP)(h:XN n p=some x):Pure E 6 (bM R VO p) (jy (bM R VP x)):=by unfold XN at h;exact yM oK (aCY n) (wm n) h Tryz.func6 rfl rfl rfl rfl av
end Sh
