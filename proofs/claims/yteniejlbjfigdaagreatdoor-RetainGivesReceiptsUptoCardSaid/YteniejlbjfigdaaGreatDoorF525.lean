import Derived.Test.YteniejlbjfigdaaGreatDoorF524
set_option linter.all false
noncomputable section
open Go Go.Proofs aR
namespace Sh
set_option maxRecDepth 100000
variable (n:Nat)
def aj3:bP:=⟨[(2,⟨[1],[1],⟨[(3,aV)],[]⟩,[(.exit 0,⟨[],[]⟩),(.ret,⟨[(2,.d .bool)],[]⟩)]⟩)],[]⟩
abbrev aai:aP:=[.d (.st 3)]
abbrev aaj:aP:=[.d .bool]
@[irreducible] def JN:dM aai aaj:=dz E R n false (Tc n) bf aj3 Tryz.f75 aai aaj
def TN:bX:=dR 75 aai aaj (JN n) (Tc n)
theorem avY:bF E (TN n):=dx (atU n) dH (by unfold JN;rfl) Tryz.func75 ay
def aj4:bP:=⟨[(2,⟨[0,1],[],⟨[(5,aV)],[]⟩,[(.exit 0,⟨[],[]⟩),(.ret,⟨[(4,.d .bool)],[]⟩)]⟩)],[]⟩
abbrev aak:aP:=[.d (.slice (.st 13)),aV]
abbrev aal:aP:=[.d .bool]
@[irreducible] def JO:dM aak aal:=dz E R n false (TN n) bf aj4 Tryz.f38 aak aal
def NP:bX:=dR 38 aak aal (JO n) (TN n)
theorem avZ:bF E (NP n):=dx (avY n) dH (by unfold JO;rfl) Tryz.func38 ay
def aam:bP:=⟨[(2,⟨[1,2],[2],⟨[(5,aV)],[]⟩,[(.exit 0,⟨[],[]⟩),(.ret,⟨[(4,.d .bool)],[]⟩)]⟩),
 (8,⟨[1,2,5,6],[2,6],⟨[(7,aV)],[]⟩,[(.exit 2,⟨[],[]⟩),(.ret,⟨[(4,.d .bool)],[]⟩)]⟩)],[]⟩
abbrev aan:aP:=[.d (.st 1),aV]
abbrev aao:aP:=[.d .bool]
@[irreducible] def JQ:dM aan aao:=dz E R n false (NP n) bf aam Tryz.f43 aan aao
def aap:bX:=dR 43 aan aao (JQ n) (NP n)
theorem av0:bF E (aap n):=dx (avZ n) dH (by unfold JQ;rfl) Tryz.func43 ay
def av1:bP:=⟨[],[]⟩
abbrev aaq:aP:=[aV]
abbrev aar:aP:=[.d .bool]
@[irreducible] def NQ:dM aaq aar:=dz E R n false (aap n) bf av1 Tryz.f90 aaq aar
def TP:bX:=dR 90 aaq aar (NQ n) (aap n)
theorem av2:bF E (TP n):=dx (av0 n) dH (by unfold NQ;rfl) Tryz.func90 ay
def aj5:bP:=⟨[(2,⟨[0,1],[],⟨[(5,aV)],[]⟩,[(.exit 0,⟨[],[]⟩),(.ret,⟨[(4,.d .bool)],[]⟩)]⟩)],[]⟩
abbrev aas:aP:=[.d (.slice .str),.d .str]
abbrev aat:aP:=[.d .bool]
@[irreducible] def FL:dM aas aat:=dz E R n false (TP n) bf aj5 Tryz.f197 aas aat
def TQ:bX:=dR 197 aas aat (FL n) (TP n)
theorem av3:bF E (TQ n):=dx (av2 n) dH (by unfold FL;rfl) Tryz.func197 ay
def aj6:bP:=⟨[(2,⟨[0],[],⟨[(3,aV)],[]⟩,[(.exit 0,⟨[],[]⟩),(.ret,⟨[(2,.d .bool)],[]⟩)]⟩)],[]⟩
abbrev aau:aP:=[.d .str]
abbrev aav:aP:=[.d .bool]
@[irreducible] def JR:dM aau aav:=dz E R n false (TQ n) bf aj6 Tryz.f150 aau aav
def NR:bX:=dR 150 aau aav (JR n) (TQ n)
theorem av4:bF E (NR n):=dx (av3 n) dH (by unfold JR;rfl) Tryz.func150 ay
def aaw:bP:=⟨[(4,⟨[0],[],⟨[(3,aV)],[]⟩,[(.exit 0,⟨[],[]⟩),(.ret,⟨[(2,aV)],[]⟩)]⟩),
 (9,⟨[0],[],⟨[(4,aV)],[]⟩,[(.exit 2,⟨[],[]⟩),(.ret,⟨[(2,aV)],[]⟩)]⟩)],[]⟩
abbrev aax:aP:=[.d (.slice .str)]
abbrev aay:aP:=[aV]
@[irreducible] def NS:dM aax aay:=dz E R n false (NR n) bf aaw Tryz.f151 aax aay
def aaz:bX:=dR 151 aax aay (NS n) (NR n)
theorem av5:bF E (aaz n):=dx (av4 n) dH (by unfold NS;rfl) Tryz.func151 ay
def av6:bP:=⟨[],[]⟩
abbrev aaA:aP:=[aiq,.d .str]
abbrev aaB:aP:=[aV]
@[irreducible] def NT:dM aaA aaB:=dz E R n false (aaz n) bf av6 Tryz.f91 aaA aaB
def TR:bX:=dR 91 aaA aaB (NT n) (aaz n)
theorem av7:bF E (TR n):=dx (av5 n) dH (by unfold NT;rfl) Tryz.func91 ay
def aj7:bP:=⟨[(7,⟨[1],[1],⟨[(3,.d .str),(4,aV)],[]⟩,[(.exit 0,⟨[],[]⟩),(.ret,⟨[(2,aV)],[]⟩)]⟩)],[]⟩
abbrev aaC:aP:=[.d (.st 1)]
abbrev aaD:aP:=[aV]
@[irreducible] def JU:dM aaC aaD:=dz E R n false (TR n) bf aj7 Tryz.f45 aaC aaD
def aaE:bX:=dR 45 aaC aaD (JU n) (TR n)
theorem av8:bF E (aaE n):=dx (av7 n) dH (by unfold JU;rfl) Tryz.func45 ay
def av9:bP:=⟨[],[]⟩
abbrev aaF:aP:=[.d (.st 1)]
abbrev aaG:aP:=[.d (.st 18)]
@[irreducible] def Dq:dM aaF aaG:=dz E R n false (aaE n) bf av9 Tryz.f88 aaF aaG
def TS:bX:=dR 88 aaF aaG (Dq n) (aaE n)
theorem awc:bF E (TS n):=dx (av8 n) dH (by unfold Dq;rfl) Tryz.func88 ay
def aj8:bP:=⟨[(2,⟨[1,2],[2],⟨[(5,aV)],[]⟩,[(.exit 0,⟨[],[]⟩),(.ret,⟨[(4,.d .bool)],[]⟩)]⟩)],[]⟩
abbrev aaH:aP:=[.d (.st 5),aV]
abbrev aaI:aP:=[.d .bool]
@[irreducible] def NU:dM aaH aaI:=dz E R n false (TS n) bf aj8 Tryz.f192 aaH aaI
def TT:bX:=dR 192 aaH aaI (NU n) (TS n)
theorem awd:bF E (TT n):=dx (awc n) dH (by unfold NU;rfl) Tryz.func192 ay
def aj9:bP:=⟨[(2,⟨[0],[],⟨[(3,aV)],[]⟩,[(.exit 0,⟨[],[]⟩),(.ret,⟨[(2,.d .bool)],[]⟩)]⟩)],[]⟩
abbrev aaJ:aP:=[.d (.slice (.int .i64))]
abbrev aaK:aP:=[.d .bool]
@[irreducible] def NV:dM aaJ aaK:=dz E R n false (TT n) bf aj9 Tryz.f221 aaJ aaK
def TU:bX:=dR 221 aaJ aaK (NV n) (TT n)
theorem awe:bF E (TU n):=dx (awd n) dH (by unfold NV;rfl) Tryz.func221 ay
def akb:bP:=⟨[(2,⟨[1,2],[2],⟨[(5,aV)],[]⟩,[(.exit 0,⟨[],[]⟩),(.ret,⟨[(4,aV)],[]⟩)]⟩)],[]⟩
abbrev aaL:aP:=[.d (.st 1),.d .str]
abbrev aaM:aP:=[aV]
@[irreducible] def NW:dM aaL aaM:=dz E R n false (TU n) bf akb Tryz.f56 aaL aaM
def aaN:bX:=dR 56 aaL aaM (NW n) (TU n)
theorem awf:bF E (aaN n):=dx (awe n) dH (by unfold NW;rfl) Tryz.func56 ay
def awg:bP:=⟨[],[]⟩
abbrev aaO:aP:=[aiq,.d (.st 2)]
abbrev aaP:aP:=[aV]
@[irreducible] def Dr:dM aaO aaP:=dz E R n false (aaN n) bf awg Tryz.f236 aaO aaP
def TV:bX:=dR 236 aaO aaP (Dr n) (aaN n)
theorem awh:bF E (TV n):=dx (awf n) dH (by unfold Dr;rfl) Tryz.func236 ay
def akc:bP:=⟨[(2,⟨[1,2],[2],⟨[(5,aV)],[]⟩,[(.exit 0,⟨[],[]⟩),(.ret,⟨[(4,aV)],[]⟩)]⟩)],[]⟩
abbrev aaQ:aP:=[.d (.st 1),.d (.slice (.st 2))]
abbrev aaR:aP:=[aV]
@[irreducible] def NY:dM aaQ aaR:=dz E R n false (TV n) bf akc Tryz.f222 aaQ aaR
def aaS:bX:=dR 222 aaQ aaR (NY n) (TV n)
theorem awi:bF E (aaS n):=dx (awh n) dH (by unfold NY;rfl) Tryz.func222 ay
def awj:bP:=⟨[],[]⟩
abbrev aaT:aP:=[.d (.st 1),.d (.st 3)]
abbrev aaU:aP:=[aV]
@[irreducible] def JV:dM aaT aaU:=dz E R n false (aaS n) bf awj Tryz.f193 aaT aaU
def TW:bX:=dR 193 aaT aaU (JV n) (aaS n)
theorem awk:bF E (TW n):=dx (awi n) dH (by unfold JV;rfl) Tryz.func193 ay
def akd:bP:=⟨[(3,⟨[1,2],[2],⟨[(5,aV),(6,aV)],[]⟩,[(.exit 0,⟨[(5,aV)],[]⟩)]⟩)],[]⟩
abbrev aaV:aP:=[.d (.st 5),aV]
abbrev aaW:aP:=[aV]
@[irreducible] def NZ:dM aaV aaW:=dz E R n false (TW n) bf akd Tryz.f194 aaV aaW
def TY:bX:=dR 194 aaV aaW (NZ n) (TW n)
theorem awl:bF E (TY n):=dx (awk n) dH (by unfold NZ;rfl) Tryz.func194 ay
def ake:bP:=⟨[(3,⟨[1,2,3,9],[],⟨[(10,aV)],[(13,.arr (.st 4))]⟩,[(.exit 0,⟨[],[(13,.arr (.st 4))]⟩)]⟩)],[]⟩
abbrev aaX:aP:=[.d (.slice (.st 4)),aV,aV,aV]
abbrev aaY:aP:=[.d (.slice (.st 4))]
@[irreducible] def JW (p:bB R.T aaX):Option (bB R.T aaY):=dz E R n true (TY n) bf ake Tryz.f195 aaX aaY p
def T9:bX:=dR 195 aaX aaY (JW n) (TY n)
theorem awm:bF E (T9 n):=dx (awl n) dH (by unfold JW;rfl) Tryz.func195 ay
def akf:bP:=⟨[(5,⟨[2,3,5,6,9,10],[5,6,9,10],⟨[(11,aV),(12,.l .any (.st 4)),(13,.l (.own 95) (.st 4)),(14,aV)],[]⟩,[(.exit 0,⟨[(11,aV),(12,.l .any (.st 4)),(13,.l (.own 95) (.st 4))],[]⟩)]⟩)],[]⟩
abbrev aaZ:aP:=[.d (.st 5),.d (.st 13),.d (.slice (.st 4)),.d (.slice (.st 21)),.d (.st 3)]
abbrev aa0:aP:=[.d (.st 18)]
@[irreducible] def Bg:dM aaZ aa0:=dz E R n false (T9 n) bf akf Tryz.f145 aaZ aa0
def aa1:bX:=dR 145 aaZ aa0 (Bg n) (T9 n)
theorem awn:bF E (aa1 n):=dx (awm n) dH (by unfold Bg;rfl) Tryz.func145 ay
def awo:bP:=⟨[],[]⟩
abbrev aa2:aP:=[.d (.st 5),.d (.st 13)]
abbrev aa3:aP:=[.d (.st 18)]
@[irreducible] def N7:dM aa2 aa3:=dz E R n false (aa1 n) bf awo Tryz.f144 aa2 aa3
def N8:bX:=dR 144 aa2 aa3 (N7 n) (aa1 n)
theorem awp:bF E (N8 n):=dx (awn n) dH (by unfold N7;rfl) Tryz.func144 ay
def aa4:bP:=⟨[(3,⟨[1,2],[2],⟨[(5,.aU 42 (.st 4)),(6,aV)],[(42,.arr (.st 4))]⟩,[(.exit 0,⟨[(5,.aU 42 (.st 4))],[(42,.arr (.st 4))]⟩)]⟩),
 (8,⟨[1,2,5,6],[2],⟨[(7,aV)],[(42,.arr (.st 4))]⟩,[(.exit 2,⟨[(7,aV)],[(42,.arr (.st 4))]⟩)]⟩)],[]⟩
abbrev aa5:aP:=[.d (.st 5),aV]
abbrev aa6:aP:=[.d (.slice (.st 4))]
@[irreducible] def Dt (p:bB R.T aa5):Option (bB R.T aa6):=dz E R n true (N8 n) bf aa4 Tryz.f146 aa5 aa6 p
def aa7:bX:=dR 146 aa5 aa6 (Dt n) (N8 n)
theorem awq:bF E (aa7 n):=dx (awp n) dH (by unfold Dt;rfl) Tryz.func146 ay
def awr:bP:=⟨[],[]⟩
abbrev aa8:aP:=[.d (.slice (.st 4))]
abbrev aa9:aP:=[aV]
@[irreducible] def Bh:dM aa8 aa9:=dz E R n false (aa7 n) bf awr Tryz.f196 aa8 aa9
def Ua:bX:=dR 196 aa8 aa9 (Bh n) (aa7 n)
theorem awt:bF E (Ua n):=dx (awq n) dH (by unfold Bh;rfl) Tryz.func196 ay
def akg:bP:=⟨[(6,⟨[2,3,4,6,7],[3,4,6],⟨[(8,.l (.own 54) (.st 21)),(9,aV)],[]⟩,[(.exit 0,⟨[(8,.l (.own 54) (.st 21))],[]⟩)]⟩)],[]⟩
abbrev abb:aP:=[.d (.st 5),.d (.st 13),.d (.slice (.st 4))]
abbrev abd:aP:=[.d (.st 18)]
@[irreducible] def Du:dM abb abd:=dz E R n false (Ua n) bf akg Tryz.f147 abb abd
def Ub:bX:=dR 147 abb abd (Du n) (Ua n)
theorem awu:bF E (Ub n):=dx (awt n) dH (by unfold Du;rfl) Tryz.func147 ay
def akh:bP:=⟨[(5,⟨[2,3,4,6],[3,4,6],⟨[(7,.l (.own 46) (.st 21)),(8,aV)],[]⟩,[(.exit 0,⟨[(7,.l (.own 46) (.st 21))],[]⟩)]⟩)],[]⟩
abbrev abe:aP:=[.d (.st 5),.d (.st 13),.d (.slice (.st 4))]
abbrev abf:aP:=[.d (.st 18)]
@[irreducible] def Dv:dM abe abf:=dz E R n false (Ub n) bf akh Tryz.f148 abe abf
def Uc:bX:=dR 148 abe abf (Dv n) (Ub n)
theorem awv:bF E (Uc n):=dx (awu n) dH (by unfold Dv;rfl) Tryz.func148 ay
def aki:bP:=⟨[(8,⟨[2,3,4,6,7],[3,4,6],⟨[(8,.l (.own 78) (.st 21)),(9,aV)],[]⟩,[(.exit 0,⟨[(8,.l (.own 78) (.st 21))],[]⟩)]⟩)],[]⟩
abbrev abg:aP:=[.d (.st 5),.d (.st 13),.d (.slice (.st 4))]
abbrev abh:aP:=[.d (.st 18)]
@[irreducible] def Dw:dM abg abh:=dz E R n false (Uc n) bf aki Tryz.f149 abg abh
def abj:bX:=dR 149 abg abh (Dw n) (Uc n)
theorem aww:bF E (abj n):=dx (awv n) dH (by unfold Dw;rfl) Tryz.func149 ay
def awx:bP:=⟨[],[]⟩
abbrev abk:aP:=[.d (.st 5),.d (.st 13)]
abbrev abl:aP:=[.d (.st 18)]
@[irreducible] def JX:dM abk abl:=dz E R n false (abj n) bf awx Tryz.f89 abk abl
def Ud:bX:=dR 89 abk abl (JX n) (abj n)
theorem awy:bF E (Ud n):=dx (aww n) dH (by unfold JX;rfl) Tryz.func89 ay
def akj:bP:=⟨[(3,⟨[1,4,5],[],⟨[(6,aV)],[(4,.st 16),(5,.st 18)]⟩,[(.exit 0,⟨[],[(4,.st 16),(5,.st 18)]⟩),(.ret,⟨[],[(4,.st 16)]⟩)]⟩)],[]⟩
abbrev abm:aP:=[.d (.st 1),.d (.slice (.st 13))]
abbrev abn:aP:=[.d (.st 16)]
@[irreducible] def N9:dM abm abn:=dz E R n false (Ud n) bf akj Tryz.f44 abm abn
def abo:bX:=dR 44 abm abn (N9 n) (Ud n)
theorem awz:bF E (abo n):=dx (awy n) dH (by unfold N9;rfl) Tryz.func44 ay
def awC:bP:=⟨[],[]⟩
abbrev abp:aP:=[.d (.st 1),.d (.slice (.st 13))]
abbrev abq:aP:=[.d (.st 5),.d .bool]
@[irreducible] def Oa:dM abp abq:=dz E R n false (abo n) bf awC Tryz.f9 abp abq
def akk:bX:=dR 9 abp abq (Oa n) (abo n)
theorem awD:bF E (akk n):=dx (awz n) dH (by unfold Oa;rfl) Tryz.func9 ay
abbrev Ob:aP:=[]
abbrev Oc:aP:=[.d .bool]
@[irreducible] def Dx (n:Nat)(p:bB R.T Ob):Option (bB R.T Oc):=some true
theorem awE (p:bB R.T Ob):Dx n p=some true:=by unfold Dx;rfl
theorem awF (p:bB R.T Ob)(x:bB R.T Oc)(h:Dx n p=some x):Pure E 11 (dw R Ob p) (mJ (dw R Oc x)):=by unfold Dx at h;exact avX p x h
def Ue:bX:=ny 11 ⟨Ob,Oc,Dx n,nR R Oc,false⟩ (akk n)
theorem awG:bF E (Ue n):=zG (awD n) (awF n)
def akl:bP:=⟨[(3,⟨[3,7,8],[],⟨[(9,aV)],[(6,.map (.int .i64) (.int .i64))]⟩,[(.exit 0,⟨[],[(6,.map (.int .i64) (.int .i64))]⟩)]⟩)],[]⟩
abbrev abr:aP:=[.d (.slice (.st 4))]
abbrev abt:aP:=[.eF (.int .i64) (.int .i64)]
@[irreducible] def Od:dM abr abt:=dz E R n false (Ue n) bf akl Tryz.f99 abr abt
def abu:bX:=dR 99 abr abt (Od n) (Ue n)
theorem awH:bF E (abu n):=dx (awG n) dH (by unfold Od;rfl) Tryz.func99 ay
def awI:bP:=⟨[],[]⟩
abbrev abv:aP:=[.d (.st 5),aV]
abbrev abw:aP:=[.fn 100 [] [.aX [aV] 0,.aX [.eF (.int .i64) (.int .i64)] 0]]
@[irreducible] def FM:dM abv abw:=dz E R n false (abu n) bf awI Tryz.f51 abv abw
def abx:bX:=dR 51 abv abw (FM n) (abu n)
theorem awJ:bF E (abx n):=dx (awH n) dH (by unfold FM;rfl) Tryz.func51 ay
def awK:bP:=⟨[],[]⟩
abbrev aby:aP:=[.d (.st 4),.aX [aV] 0,.aX [.eF (.int .i64) (.int .i64)] 0]
abbrev abz:aP:=[.d .bool]
@[irreducible] def JY:dM aby abz:=dz E R n false (abx n) bf awK Tryz.f100 aby abz
def Uf:bX:=dR 100 aby abz (JY n) (abx n)
theorem awL:bF E (Uf n):=dx (awJ n) dH (by unfold JY;rfl) Tryz.func100 ay
def akm:bP:=⟨[(2,⟨[1,8,9],[],⟨[(4,.l (.own 20) (.st 4)),(5,.l (.own 24) (.st 4)),(10,aV)],[]⟩,[(.exit 0,⟨[(4,.l (.own 20) (.st 4)),(5,.l (.own 24) (.st 4))],[]⟩)]⟩)],[]⟩
abbrev abA:aP:=[.d (.slice (.st 4)),.fn 100 [] [.aX [aV] 0,.aX [.eF (.int .i64) (.int .i64)] 0]]
abbrev abB:aP:=[.d (.slice (.st 4)),.d (.slice (.st 4))]
@[irreducible] def Zs:dM abA abB:=dz E R n false (Uf n) bf akm Tryz.f50 abA abB
def Oe:bX:=dR 50 abA abB (Zs n) (Uf n)
theorem akn:bF E (Oe n):=dx (awL n) dH (by unfold Zs;rfl) Tryz.func50 ay
def abC:bP:=⟨[(3,⟨[0,9,10],[],⟨[(3,aV),(11,aV)],[]⟩,[(.exit 0,⟨[(3,aV)],[]⟩)]⟩),
 (11,⟨[25,26],[],⟨[(6,.l (.own 24) (.int .i64)),(27,aV)],[]⟩,[(.exit 2,⟨[(6,.l (.own 24) (.int .i64))],[]⟩)]⟩)],[]⟩
abbrev JZ:aP:=[.d (.slice (.slice (.int .i64)))]
abbrev abD:aP:=[.d (.slice (.int .i64))]
@[irreducible] def QR (p:bB R.T JZ):Option (bB R.T abD):=Cz E R n false (Oe n) bf abC Tryz.f161 JZ (.int .i64) p
theorem awM (p:bB R.T JZ)(x:bB R.T abD)(h:QR n p=some x):Pure E 161 (dw R JZ p) (.ak .sh (List.map (aO R (.int .i64)) x))/\oI E 161 (dw R JZ p) (dB R (.int .i64)) (List.map (aO R (.int .i64)) x):=by unfold QR at h;exact IX sQ (akn n) dH h Tryz.func161 rfl rfl rfl rfl ay
def Ug:bX:=ny 161 ⟨JZ,[.d (.slice (.int .i64))],QR n,nR R abD,true⟩ (Oe n)
theorem awN:bF E (Ug n):=IZ (G:=QR n) (akn n) (awM n)
def ako:bP:=⟨[(3,⟨[1,11,12],[],⟨[(5,.l (.own 10) (.int .u8)),(13,aV)],[]⟩,[(.exit 0,⟨[(5,.l (.own 10) (.int .u8))],[]⟩)]⟩)],[]⟩
abbrev abE:aP:=[.d (.slice .str),.fn 159 [] []]
abbrev abF:aP:=[.d (.slice (.int .u8))]
@[irreducible] def Uh:dM abE abF:=dz E R n false (Ug n) bf ako Tryz.f201 abE abF
def abG:bX:=dR 201 abE abF (Uh n) (Ug n)
theorem awO:bF E (abG n):=dx (awN n) dH (by unfold Uh;rfl) Tryz.func201 ay
def awP:bP:=⟨[],[]⟩
abbrev abH:aP:=[.d (.slice .str)]
abbrev abI:aP:=[.d (.slice (.int .u8))]
@[irreducible] def Og:dM abH abI:=dz E R n false (abG n) bf awP Tryz.f163 abH abI
def Oh:bX:=dR 163 abH abI (Og n) (abG n)
theorem awQ:bF E (Oh n):=dx (awO n) dH (by unfold Og;rfl) Tryz.func163 ay
def abJ:bP:=⟨[(3,⟨[0,9,10],[],⟨[(3,aV),(11,aV)],[]⟩,[(.exit 0,⟨[(3,aV)],[]⟩)]⟩),
 (11,⟨[25,26],[],⟨[(6,.l (.own 24) (.int .u8)),(27,aV)],[]⟩,[(.exit 2,⟨[(6,.l (.own 24) (.int .u8))],[]⟩)]⟩)],[]⟩
abbrev abK:aP:=[.d (.slice (.slice (.int .u8)))]
abbrev abL:aP:=[.d (.slice (.int .u8))]
@[irreducible] def Oi:dM abK abL:=dz E R n false (Oh n) bf abJ Tryz.f162 abK abL
def Ui:bX:=dR 162 abK abL (Oi n) (Oh n)
theorem awR:bF E (Ui n):=dx (awQ n) dH (by unfold Oi;rfl) Tryz.func162 ay
def akp:bP:=⟨[(4,⟨[34,35],[],⟨[(3,.l (.own 32) (.int .i64)),(4,.l (.own 53) .str),(36,aV)],[]⟩,[(.exit 0,⟨[(3,.l (.own 32) (.int .i64)),(4,.l (.own 53) .str)],[]⟩)]⟩)],[]⟩
abbrev abM:aP:=[.d (.st 3)]
abbrev abN:aP:=[.d (.slice (.int .u8))]
@[irreducible] def Oj:dM abM abN:=dz E R n false (Ui n) bf akp Tryz.f103 abM abN
def abO:bX:=dR 103 abM abN (Oj n) (Ui n)
theorem awS:bF E (abO n):=dx (awR n) dH (by unfold Oj;rfl) Tryz.func103 ay
def awT:bP:=⟨[],[]⟩
abbrev abP:aP:=[.d (.st 3)]
abbrev abQ:aP:=[.d (.st 6)]
@[irreducible] def Ol:dM abP abQ:=dz E R n false (abO n) bf awT Tryz.f58 abP abQ
def abR:bX:=dR 58 abP abQ (Ol n) (abO n)
theorem awU:bF E (abR n):=dx (awS n) dH (by unfold Ol;rfl) Tryz.func58 ay
def awV:bP:=⟨[],[]⟩
abbrev abS:aP:=[.d (.st 4)]
abbrev abT:aP:=[.d (.st 7)]
@[irreducible] def J2:dM abS abT:=dz E R n false (abR n) bf awV Tryz.f25 abS abT
def Uj:bX:=dR 25 abS abT (J2 n) (abR n)
theorem awW:bF E (Uj n):=dx (awU n) dH (by unfold J2;rfl) Tryz.func25 ay
def akq:bP:=⟨[(6,⟨[2,4,8,30,31],[2,4],⟨[(9,.l (.own 40) (.st 7)),(32,aV)],[]⟩,[(.exit 0,⟨[(9,.l (.own 40) (.st 7))],[]⟩)]⟩)],[]⟩
abbrev abU:aP:=[.d (.st 5),aV]
abbrev abV:aP:=[.d (.st 5),.d (.slice (.st 7)),aV]
@[irreducible] def Om:dM abU abV:=dz E R n false (Uj n) bf akq Tryz.f16 abU abV
def abW:bX:=dR 16 abU abV (Om n) (Uj n)
theorem awX:bF E (abW n):=dx (awW n) dH (by unfold Om;rfl) Tryz.func16 ay
def awY:bP:=⟨[],[]⟩
abbrev abX:aP:=[.d (.slice .str)]
abbrev abY:aP:=[.d (.st 6)]
@[irreducible] def Oo:dM abX abY:=dz E R n false (abW n) bf awY Tryz.f59 abX abY
def abZ:bX:=dR 59 abX abY (Oo n) (abW n)
theorem awZ:bF E (abZ n):=dx (awX n) dH (by unfold Oo;rfl) Tryz.func59 ay
def aw0:bP:=⟨[],[]⟩
abbrev ab0:aP:=[.d (.st 7)]
abbrev ab1:aP:=[.d (.st 6)]
@[irreducible] def J3:dM ab0 ab1:=dz E R n false (abZ n) bf aw0 Tryz.f26 ab0 ab1
def Uk:bX:=dR 26 ab0 ab1 (J3 n) (abZ n)
theorem aw1:bF E (Uk n):=dx (awZ n) dH (by unfold J3;rfl) Tryz.func26 ay
def akr:bP:=⟨[(3,⟨[6,7],[],⟨[(3,.l (.own 16) (.st 6)),(8,aV)],[]⟩,[(.exit 0,⟨[(3,.l (.own 16) (.st 6))],[]⟩)]⟩)],[]⟩
abbrev ab2:aP:=[.d (.slice (.st 7))]
abbrev ab3:aP:=[.d (.slice (.st 6))]
@[irreducible] def J4:dM ab2 ab3:=dz E R n false (Uk n) bf akr Tryz.f64 ab2 ab3
def ab4:bX:=dR 64 ab2 ab3 (J4 n) (Uk n)
theorem aw2:bF E (ab4 n):=dx (aw1 n) dH (by unfold J4;rfl) Tryz.func64 ay
def aw3:bP:=⟨[],[]⟩
abbrev ab5:aP:=[]
abbrev ab6:aP:=[.d (.st 6)]
@[irreducible] def Oq:dM ab5 ab6:=dz E R n false (ab4 n) bf aw3 Tryz.f112 ab5 ab6
def ab7:bX:=dR 112 ab5 ab6 (Oq n) (ab4 n)
theorem ab8:bF E (ab7 n):=dx (aw2 n) dH (by unfold Oq;rfl) Tryz.func112 ay
def aks:bP:=⟨[],[]⟩
abbrev yF:aP:=[.d (.slice (.st 6))]
abbrev zT:aP:=[.d (.st 6)]
def zU:Nat->List bR
 |_=>yF
def vU:Nat->List bR
 |_=>zT
def aw4:Nat->bP
 |_=>aks
def aw5:Nat->Func
 |_=>Tryz.f67
def Ul (g:(i:Nat)->bB R.T (zU i)->Option (bB R.T (vU i))):Nat->List (iF R):=ny 67 ⟨zU 0,vU 0,g 0,nR R (vU 0),false⟩ (ab7 n)
def xu (n:Nat):Nat->(i:Nat)->bB R.T (zU i)->Option (bB R.T (vU i))
 |0,_,_=>none|m+1,i,p=>dz E R n false (Ul n (xu n m)) bf (aw4 i) (aw5 i) (zU i) (vU i) p
attribute [irreducible] xu
theorem akt (n m:Nat)(p:bB R.T yF):xu n (m+1) 0 p=dz E R n false (Ul n (xu n m)) bf aks Tryz.f67 yF zT p:=ay
theorem aku (p:bB R.T yF):xu n 0 0 p=none:=ay
theorem aw6 (p:bB R.T (zU 0))(x:bB R.T (vU 0))(h:xu n 0 0 p=some x):Pure E 67 (dw R (zU 0) p) (mJ (dw R (vU 0) x)):=absurd ((aku n p).symm.trans h) nofun
theorem aw7 (n m:Nat)(hk:bF E (Ul n (xu n m)))(p:bB R.T (zU 0))(x:bB R.T (vU 0))(h:xu n (m+1) 0 p=some x):Pure E 67 (dw R (zU 0) p) (mJ (dw R (vU 0) x)):=
 MP (args:=yF) (res:=zT) sQ hk dH ((akt n m p).symm.trans h) Tryz.func67 rfl rfl rfl rfl ay
theorem akv (n:Nat):∀m,bF E (Ul n (xu n m))
 |0=>zG (f:=67) (r:=⟨zU 0,vU 0,xu n 0 0,nR R (vU 0),false⟩) (ab8 n) (aw6 n)|m+1=>zG (f:=67) (r:=⟨zU 0,vU 0,xu n (m+1) 0,nR R (vU 0),false⟩) (ab8 n) (aw7 n m (akv n m))
@[irreducible] def Dy (n m:Nat)(p:bB R.T yF):Option (bB R.T zT):=xu n m 0 p
@[irreducible] def zV (p:bB R.T yF):Option (bB R.T zT):=Dy n n p
theorem akw (p:bB R.T yF)(x:bB R.T zT)(h:zV n p=some x):Pure E 67 (dw R yF p) (mJ (dw R zT x)):=by
 unfold zV Dy at h;cases n with
 |zero=>exact absurd ((aku 0 p).symm.trans h) nofun|succ n=>exact MP (args:=yF) (res:=zT) sQ (akv (n+1) n) dH ((akt (n+1) n p).symm.trans h) Tryz.func67 rfl rfl rfl rfl ay
def ab9:bX:=ny 67 ⟨yF,zT,zV n,nR R zT,false⟩ (ab7 n)
theorem aw8:bF E (ab9 n):=zG (ab8 n) (akw n)
def aw9:bP:=⟨[],[]⟩
abbrev acd:aP:=[.d (.slice (.st 7))]
abbrev ace:aP:=[.d (.st 6)]
@[irreducible] def Ot:dM acd ace:=dz E R n false (ab9 n) bf aw9 Tryz.f32 acd ace
def acf:bX:=dR 32 acd ace (Ot n) (ab9 n)
theorem axa:bF E (acf n):=dx (aw8 n) dH (by unfold Ot;rfl) Tryz.func32 ay
def axb:bP:=⟨[],[]⟩
abbrev acg:aP:=[.d (.st 5),aV,aV]
abbrev ach:aP:=[.d .bool]
@[irreducible] def Ou:dM acg ach:=dz E R n false (acf n) bf axb Tryz.f21 acg ach
def akx:bX:=dR 21 acg ach (Ou n) (acf n)
theorem axc:bF E (akx n):=dx (axa n) dH (by unfold Ou;rfl) Tryz.func21 ay
abbrev Um:aP:=[.d (.slice (.st 6)),aV]
abbrev Ov:aP:=[.d (.slice (.st 6)),aV]
@[irreducible] def Dz (p:bB R.T Um):Option (bB R.T Ov):=JL (zV n) (ZD n) p.1 p.2
theorem aky (l:List aC)(i:Int):Dz n (l,i)=JL (zV n) (ZD n) l i:=by unfold Dz;rfl
theorem axd (p:bB R.T Um)(x:bB R.T Ov)(h:Dz n p=some x):Pure E 63 (dw R Um p) (mJ (dw R Ov x)):=by unfold Dz at h;exact avP (akw n) (ZB n) h
def aci:bX:=ny 63 ⟨Um,Ov,Dz n,nR R Ov,false⟩ (akx n)
theorem axe:bF E (aci n):=zG (axc n) (axd n)
def axf:bP:=⟨[],[]⟩
abbrev acj:aP:=[.d (.slice (.st 7)),aV]
abbrev acn:aP:=[.d (.slice (.st 6)),aV]
@[irreducible] def Ow:dM acj acn:=dz E R n false (aci n) bf axf Tryz.f30 acj acn
def akz:bX:=dR 30 acj acn (Ow n) (aci n)
theorem axg:bF E (akz n):=dx (axe n) dH (by unfold Ow;rfl) Tryz.func30 ay
abbrev Ox:aP:=[.d (.st 6),aV,aV,.d (.slice (.st 6)),.d (.st 6)]
abbrev Oy:aP:=[.d .bool]
@[irreducible] def DC (n:Nat)(p:bB R.T Ox):Option (bB R.T Oy):=zK p.1 p.2.1 p.2.2.1 p.2.2.2.1 p.2.2.2.2
theorem axh (p:bB R.T Ox):DC n p=zK p.1 p.2.1 p.2.2.1 p.2.2.2.1 p.2.2.2.2:=by unfold DC;rfl
theorem axi (p:bB R.T Ox)(x:bB R.T Oy)(h:DC n p=some x):Pure E 70 (dw R Ox p) (mJ (dw R Oy x)):=by unfold DC at h;exact avQ p x h
def aco:bX:=ny 70 ⟨Ox,Oy,DC n,nR R Oy,false⟩ (akz n)
theorem axj:bF E (aco n):=zG (axg n) (axi n)
def axk:bP:=⟨[],[]⟩
abbrev acp:aP:=[.d (.st 6),aV,aV,.d (.st 7),.d (.slice (.st 6))]
abbrev acr:aP:=[.d .bool]
@[irreducible] def Oz:dM acp acr:=dz E R n false (aco n) bf axk Tryz.f35 acp acr
def acs:bX:=dR 35 acp acr (Oz n) (aco n)
theorem axl:bF E (acs n):=dx (axj n) dH (by unfold Oz;rfl) Tryz.func35 ay
def axn:bP:=⟨[],[]⟩
abbrev acu:aP:=[aV]
abbrev acv:aP:=[.d .bool]
@[irreducible] def ZZ:dM acu acv:=dz E R n false (acs n) bf axn Tryz.f128 acu acv
def acw:bX:=dR 128 acu acv (ZZ n) (acs n)
theorem axo:bF E (acw n):=dx (axl n) dH (by unfold ZZ;rfl) Tryz.func128 ay
def axp:bP:=⟨[],[]⟩
abbrev acy:aP:=[aV,aV]
abbrev acz:aP:=[aV]
@[irreducible] def J5:dM acy acz:=dz E R n false (acw n) bf axp Tryz.f73 acy acz
def acA:bX:=dR 73 acy acz (J5 n) (acw n)
theorem axq:bF E (acA n):=dx (axo n) dH (by unfold J5;rfl) Tryz.func73 ay
def axr:bP:=⟨[],[]⟩
abbrev acB:aP:=[.d (.st 3),.d (.st 3)]
abbrev acC:aP:=[aV]
@[irreducible] def zW:dM acB acC:=dz E R n false (acA n) bf axr Tryz.f72 acB acC
def nA:bX:=dR 72 acB acC (zW n) (acA n)
theorem FN:bF E (nA n):=dx (axq n) dH (by unfold zW;rfl) Tryz.func72 ay
def acD:bP:=⟨[(1,⟨[0,1,2,3],[],⟨[(8,aV)],[(1000000,.arr (.st 3))]⟩,[(.exit 0,⟨[],[(1000000,.arr (.st 3))]⟩)]⟩),
 (4,⟨[0,1,2,3,8],[],⟨[(9,aV)],[(1000000,.arr (.st 3))]⟩,[(.exit 2,⟨[],[(1000000,.arr (.st 3))]⟩)]⟩)],[]⟩
abbrev OA:aP:=[.aU 1000000 (.st 3),aV,aV,.fn 72 [] []]
abbrev OB:aP:=[]
abbrev OC:List (Nat×jA):=[(1000000,.arr (.st 3))]
@[irreducible] def zX:Fv OA OC OB:=zw E R n false (nA n) bf acD Tryz.f170 OA OC OB
theorem axt:MJ E 170 (⟨OA,OC,OB,zX n⟩:qI R):=by intro p q y q' h;have h:zX n p q=some (y,q'):=h;unfold zX at h;exact Yh sQ (FN n) dH h Tryz.func170 rfl ay
def Un:IR R:=yC 170 ⟨OA,OC,OB,zX n⟩ bf
theorem axu:qO E (Un n):=SA (m:=⟨OA,OC,OB,zX n⟩) dH (axt n)
def akA:bP:=⟨[(1,⟨[0,1,2,3],[],⟨[(10,aV)],[(1000000,.arr (.st 3))]⟩,[(.exit 0,⟨[],[(1000000,.arr (.st 3))]⟩)]⟩)],[]⟩
abbrev acE:aP:=[.aU 1000000 (.st 3),aV,aV,aV,.fn 72 [] []]
abbrev acF:aP:=[]
abbrev acG:List (Nat×jA):=[(1000000,.arr (.st 3))]
@[irreducible] def DF:Fv acE acG acF:=zw E R n false (nA n) (Un n) akA Tryz.f225 acE acG acF
def Uo:IR R:=M0 225 acE acG acF (DF n) (Un n)
theorem axv:qO E (Uo n):=SH (FN n) (axu n) (by unfold DF;rfl) Tryz.func225 ay
def akB:bP:=⟨[(2,⟨[0,2,4],[],⟨[(10,aV),(11,aV)],[(1000000,.arr (.st 3))]⟩,[(.exit 0,⟨[(10,aV)],[(1000000,.arr (.st 3))]⟩)]⟩)],[]⟩
abbrev acH:aP:=[.aU 1000000 (.st 3),aV,aV,aV,.fn 72 [] []]
abbrev acI:aP:=[]
abbrev acJ:List (Nat×jA):=[(1000000,.arr (.st 3))]
@[irreducible] def FP:Fv acH acJ acI:=zw E R n false (nA n) (Uo n) akB Tryz.f210 acH acJ acI
def Bj:IR R:=M0 210 acH acJ acI (FP n) (Uo n)
theorem akC:qO E (Bj n):=SH (FN n) (axv n) (by unfold FP;rfl) Tryz.func210 ay
def qU:bP:=⟨[(3,⟨[0,1,4],[1000000],⟨[(10,aV),(11,aV)],[]⟩,[(.exit 0,⟨[(10,aV)],[]⟩)]⟩),
 (9,⟨[0,10],[],⟨[(13,aV)],[(1000000,.arr (.st 3))]⟩,[(.exit 2,⟨[],[(1000000,.arr (.st 3))]⟩)]⟩),
 (15,⟨[0,2,4],[1000000],⟨[(14,aV),(15,aV)],[]⟩,[(.exit 4,⟨[(14,aV)],[]⟩)]⟩),
 (21,⟨[0,14],[],⟨[(17,aV)],[(1000000,.arr (.st 3))]⟩,[(.exit 6,⟨[],[(1000000,.arr (.st 3))]⟩)]⟩),
 (33,⟨[0,1,2,3,4,18,19,22],[1000000],⟨[(20,aV),(21,aV)],[]⟩,[(.exit 8,⟨[(20,aV)],[]⟩)]⟩)],[]⟩
abbrev qw:aP:=[.aU 1000000 (.st 3),aV,aV,aV,.fn 72 [] []]
abbrev rP:aP:=[]
abbrev oU:List (Nat×jA):=[(1000000,.arr (.st 3))]
def lg (n:Nat):Nat->bB R.T qw->kZ R.T oU->Option (bB R.T rP×kZ R.T oU)
 |0,_,_=>none|m+1,p,q=>zw E R n false (nA n) (yC 171 ⟨qw,oU,rP,lg n m⟩ (Bj n)) qU Tryz.f171 qw oU rP p q
attribute [irreducible] lg
theorem axw (n m:Nat)(p:bB R.T qw)(q:kZ R.T oU):lg n (m+1) p q=zw E R n false (nA n) (yC 171 ⟨qw,oU,rP,lg n m⟩ (Bj n)) qU Tryz.f171 qw oU rP p q:=ay
theorem axx (p:bB R.T qw)(q:kZ R.T oU):lg n 0 p q=none:=ay
theorem akD (n:Nat):∀m,MJ E 171 (⟨qw,oU,rP,lg n m⟩:qI R)
 |0=>fun p q y q' h=>absurd (((axx n p q).symm.trans h)) nofun
 |m+1=>fun p q y q' h=>Yh sQ (FN n) (SA (m:=⟨qw,oU,rP,lg n m⟩) (akC n) (akD n m)) ((axw n m p q).symm.trans h) Tryz.func171 rfl ay
@[irreducible] def Bl:bB R.T qw->kZ R.T oU->Option (bB R.T rP×kZ R.T oU):=lg n n
theorem axy:MJ E 171 (⟨qw,oU,rP,Bl n⟩:qI R):=by unfold Bl;exact akD n n
def J6:IR R:=yC 171 ⟨qw,oU,rP,Bl n⟩ (Bj n)
theorem axz:qO E (J6 n):=SA (m:=⟨qw,oU,rP,Bl n⟩) (akC n) (axy n)
def Uq:bP:=⟨[(2,⟨[0,1,2,6],[],⟨[(7,aV),(8,aV)],[(1000000,.arr (.st 3))]⟩,[(.exit 0,⟨[(7,aV)],[(1000000,.arr (.st 3))]⟩)]⟩),
 (7,⟨[0,1,2],[],⟨[(6,aV)],[(1000000,.arr (.st 3))]⟩,[(.exit 2,⟨[],[(1000000,.arr (.st 3))]⟩)]⟩),
 (9,⟨[0,1,2,6],[],⟨[(7,aV),(8,aV)],[(1000000,.arr (.st 3))]⟩,[(.exit 4,⟨[(7,aV)],[(1000000,.arr (.st 3))]⟩)]⟩)],[]⟩
abbrev acK:aP:=[.aU 1000000 (.st 3),aV,.fn 72 [] []]
abbrev acL:aP:=[]
abbrev acM:List (Nat×jA):=[(1000000,.arr (.st 3))]
@[irreducible] def OD:Fv acK acM acL:=zw E R n false (nA n) (J6 n) Uq Tryz.f127 acK acM acL
def acN:IR R:=M0 127 acK acM acL (OD n) (J6 n)
theorem axA:qO E (acN n):=SH (FN n) (axz n) (by unfold OD;rfl) Tryz.func127 ay
def axB:bP:=⟨[],[]⟩
abbrev acO:aP:=[.aU 1000000 (.st 3),.fn 72 [] []]
abbrev acP:aP:=[]
abbrev acQ:List (Nat×jA):=[(1000000,.arr (.st 3))]
@[irreducible] def OE:Fv acO acQ acP:=zw E R n false (nA n) (acN n) axB Tryz.f71 acO acQ acP
def uK:IR R:=M0 71 acO acQ acP (OE n) (acN n)
theorem J7:qO E (uK n):=SH (FN n) (axA n) (by unfold OE;rfl) Tryz.func71 ay
def akE:bP:=⟨[(3,⟨[3,10,11],[3],⟨[(5,.aU 52 (.st 3)),(12,aV)],[(52,.arr (.st 3))]⟩,[(.exit 0,⟨[(5,.aU 52 (.st 3))],[(52,.arr (.st 3))]⟩)]⟩)],[]⟩
abbrev acR:aP:=[.d (.st 5),.d (.st 11)]
abbrev acS:aP:=[.d (.slice (.st 3))]
@[irreducible] def J8 (p:bB R.T acR):Option (bB R.T acS):=dz E R n true (nA n) (uK n) akE Tryz.f36 acR acS p
def acT:bX:=dR 36 acR acS (J8 n) (nA n)
theorem axC:bF E (acT n):=dx (FN n) (J7 n) (by unfold J8;rfl) Tryz.func36 ay
def axD:bP:=⟨[],[]⟩
abbrev acU:aP:=[.d (.st 7),aV]
abbrev acV:aP:=[.d .bool]
@[irreducible] def Ur:dM acU acV:=dz E R n false (acT n) (uK n) axD Tryz.f28 acU acV
def Us:bX:=dR 28 acU acV (Ur n) (acT n)
theorem axE:bF E (Us n):=dx (axC n) (J7 n) (by unfold Ur;rfl) Tryz.func28 ay
def akF:bP:=⟨[(3,⟨[0],[],⟨[(3,.l (.own 7) (.int .u8)),(4,aV)],[]⟩,[(.exit 0,⟨[(3,.l (.own 7) (.int .u8))],[]⟩)]⟩)],[]⟩
abbrev acW:aP:=[.d (.slice .str)]
abbrev acX:aP:=[.d (.slice (.int .u8))]
@[irreducible] def OG:dM acW acX:=dz E R n false (Us n) (uK n) akF Tryz.f129 acW acX
def Ut:bX:=dR 129 acW acX (OG n) (Us n)
theorem axF:bF E (Ut n):=dx (axE n) (J7 n) (by unfold OG;rfl) Tryz.func129 ay
def akG:bP:=⟨[(6,⟨[1],[1],⟨[(3,.l (.own 28) (.int .i64)),(4,.l (.own 71) .str),(5,aV)],[]⟩,[(.exit 0,⟨[(3,.l (.own 28) (.int .i64)),(4,.l (.own 71) .str)],[]⟩)]⟩)],[]⟩
abbrev acY:aP:=[.d (.st 3)]
abbrev acZ:aP:=[.d (.slice (.int .u8))]
@[irreducible] def OH:dM acY acZ:=dz E R n false (Ut n) (uK n) akG Tryz.f74 acY acZ
def ac0:bX:=dR 74 acY acZ (OH n) (Ut n)
theorem axG:bF E (ac0 n):=dx (axF n) (J7 n) (by unfold OH;rfl) Tryz.func74 ay
def axH:bP:=⟨[],[]⟩
abbrev ac1:aP:=[.d (.st 3)]
abbrev ac2:aP:=[.d (.st 6)]
@[irreducible] def OI:dM ac1 ac2:=dz E R n false (ac0 n) (uK n) axH Tryz.f37 ac1 ac2
def J9:bX:=dR 37 ac1 ac2 (OI n) (ac0 n)
theorem axI:bF E (J9 n):=dx (axG n) (J7 n) (by unfold OI;rfl) Tryz.func37 ay
def OJ:bP:=⟨[(11,⟨[7,9,11,12,13,15],[7,9,12,15],⟨[(16,aV),(17,aV)],[]⟩,[(.exit 0,⟨[(16,aV)],[]⟩),(.ret,⟨[(8,.d .bool)],[]⟩)]⟩),
 (23,⟨[7,13,20,21],[7],⟨[(22,aV)],[]⟩,[(.exit 2,⟨[],[]⟩),(.ret,⟨[(8,.d .bool)],[]⟩)]⟩),
 (27,⟨[7,13,20,21,22],[7],⟨[(23,.d .bool),(24,aV)],[]⟩,[(.exit 4,⟨[(23,.d .bool)],[]⟩)]⟩),
 (31,⟨[7,13,20,21,22],[7],⟨[(23,.d .bool),(25,aV)],[]⟩,[(.exit 6,⟨[(23,.d .bool)],[]⟩)]⟩)],[]⟩
abbrev Uu:aP:=[.d (.st 1),.d (.slice (.st 13)),.d (.int .u8),.d (.st 11)]
abbrev Uv:aP:=[.d .bool]
@[irreducible] def Uw:dM Uu Uv:=dz E R n false (J9 n) (uK n) OJ Tryz.f7 Uu Uv
theorem axJ (p:bB R.T Uu)(x:bB R.T Uv)(h:Uw n p=some x):Pure E 7 (dw R Uu p) (mJ (dw R Uv x)):=by unfold Uw at h;exact MP sQ (axI n) (J7 n) h Tryz.func7 rfl rfl rfl rfl ay
end Sh
