import Derived.Test.YtgdialomgeijcaaGreatF4024
set_option linter.all false
noncomputable section
open Go Go.Proofs Aq
namespace Sh
set_option maxRecDepth 100000
variable (n:Nat)
def ajR:Rs:=⟨[(2,⟨[1,2],[2],⟨[(5,Fb)],[]⟩,[(.exit 0,⟨[],[]⟩),(.ret,⟨[(4,.d .bool)],[]⟩)]⟩),
 (8,⟨[1,2,5,6],[2,6],⟨[(7,Fb)],[]⟩,[(.exit 2,⟨[],[]⟩),(.ret,⟨[(4,.d .bool)],[]⟩)]⟩)],[]⟩
abbrev ajS:Q7:=[.d (.st 2),Fb]
abbrev ajT:Q7:=[.d .bool]
@[irreducible] def Zq:R4 ajS ajT:=RD E R n false (afi n) RF ajR Tryz.f46 ajS ajT
def ajU:RH:=Sj 46 ajS ajT (Zq n) (afi n)
theorem axg:Rt E (ajU n):=RX (awT n) Sw (by unfold Zq;rfl) Tryz.func46 (by kernel_rfl)
def axh:Rs:=⟨[],[]⟩
abbrev ajV:Q7:=[Fb]
abbrev ajW:Q7:=[.d .bool]
@[irreducible] def XR:R4 ajV ajW:=RD E R n false (ajU n) RF axh Tryz.f73 ajV ajW
def ahk:RH:=Sj 73 ajV ajW (XR n) (ajU n)
theorem axi:Rt E (ahk n):=RX (axg n) Sw (by unfold XR;rfl) Tryz.func73 (by kernel_rfl)
def aqx:Rs:=⟨[(2,⟨[0,1],[],⟨[(5,Fb)],[]⟩,[(.exit 0,⟨[],[]⟩),(.ret,⟨[(4,.d .bool)],[]⟩)]⟩)],[]⟩
abbrev ajX:Q7:=[.d (.slice .str),.d .str]
abbrev ajY:Q7:=[.d .bool]
@[irreducible] def ZO:R4 ajX ajY:=RD E R n false (ahk n) RF aqx Tryz.f83 ajX ajY
def ahl:RH:=Sj 83 ajX ajY (ZO n) (ahk n)
theorem axj:Rt E (ahl n):=RX (axi n) Sw (by unfold ZO;rfl) Tryz.func83 (by kernel_rfl)
def aqy:Rs:=⟨[(2,⟨[0],[],⟨[(3,Fb)],[]⟩,[(.exit 0,⟨[],[]⟩),(.ret,⟨[(2,.d .bool)],[]⟩)]⟩)],[]⟩
abbrev ajZ:Q7:=[.d .str]
abbrev aj0:Q7:=[.d .bool]
@[irreducible] def ZI:R4 ajZ aj0:=RD E R n false (ahl n) RF aqy Tryz.f87 ajZ aj0
def afn:RH:=Sj 87 ajZ aj0 (ZI n) (ahl n)
theorem axk:Rt E (afn n):=RX (axj n) Sw (by unfold ZI;rfl) Tryz.func87 (by kernel_rfl)
def aj1:Rs:=⟨[(4,⟨[0],[],⟨[(3,Fb)],[]⟩,[(.exit 0,⟨[],[]⟩),(.ret,⟨[(2,Fb)],[]⟩)]⟩),
 (9,⟨[0],[],⟨[(4,Fb)],[]⟩,[(.exit 2,⟨[],[]⟩),(.ret,⟨[(2,Fb)],[]⟩)]⟩)],[]⟩
abbrev aj2:Q7:=[.d (.slice .str)]
abbrev aj3:Q7:=[Fb]
@[irreducible] def Zl:R4 aj2 aj3:=RD E R n false (afn n) RF aj1 Tryz.f88 aj2 aj3
def aj4:RH:=Sj 88 aj2 aj3 (Zl n) (afn n)
theorem axl:Rt E (aj4 n):=RX (axk n) Sw (by unfold Zl;rfl) Tryz.func88 (by kernel_rfl)
def axn:Rs:=⟨[],[]⟩
abbrev aj5:Q7:=[.d (.st 1),.d .str]
abbrev aj6:Q7:=[Fb]
@[irreducible] def Xw:R4 aj5 aj6:=RD E R n false (aj4 n) RF axn Tryz.f74 aj5 aj6
def ahm:RH:=Sj 74 aj5 aj6 (Xw n) (aj4 n)
theorem axo:Rt E (ahm n):=RX (axl n) Sw (by unfold Xw;rfl) Tryz.func74 (by kernel_rfl)
def aqz:Rs:=⟨[(7,⟨[1],[1],⟨[(3,.d .str),(4,Fb)],[]⟩,[(.exit 0,⟨[],[]⟩),(.ret,⟨[(2,Fb)],[]⟩)]⟩)],[]⟩
abbrev aj7:Q7:=[.d (.st 2)]
abbrev aj8:Q7:=[Fb]
@[irreducible] def Zx:R4 aj7 aj8:=RD E R n false (ahm n) RF aqz Tryz.f47 aj7 aj8
def aj9:RH:=Sj 47 aj7 aj8 (Zx n) (ahm n)
theorem axp:Rt E (aj9 n):=RX (axo n) Sw (by unfold Zx;rfl) Tryz.func47 (by kernel_rfl)
def axq:Rs:=⟨[],[]⟩
abbrev akb:Q7:=[.d (.st 2)]
abbrev akc:Q7:=[.d .bool]
@[irreducible] def XE:R4 akb akc:=RD E R n false (aj9 n) RF axq Tryz.f18 akb akc
def akd:RH:=Sj 18 akb akc (XE n) (aj9 n)
theorem ake:Rt E (akd n):=RX (axp n) Sw (by unfold XE;rfl) Tryz.func18 (by kernel_rfl)
def akf:Rs:=⟨[(3,⟨[1],[1],⟨[(3,.l (.own 26) (.st 0)),(4,Fb)],[]⟩,[(.exit 0,⟨[(3,.l (.own 26) (.st 0))],[]⟩)]⟩)],[]⟩
abbrev aat:Q7:=[SE]
abbrev aa8:Q7:=[Vo]
def aa9:Nat->List Sk
 |_=>aat
def Yv:Nat->List Sk
 |_=>aa8
def axr:Nat->Rs
 |_=>akf
def axt:Nat->Func
 |_=>Tryz.f39
def afo (g:(i:Nat)->FN R.T (aa9 i)->Option (FN R.T (Yv i))):Nat->List (FR R):=TR 39 ⟨aa9 0,Yv 0,g 0,R3 R (Yv 0),false⟩ (akd n)
def Yw (n:Nat):Nat->(i:Nat)->FN R.T (aa9 i)->Option (FN R.T (Yv i))
 |0,_,_=>none|m+1,i,p=>RD E R n false (afo n (Yw n m)) RF (axr i) (axt i) (aa9 i) (Yv i) p
attribute [irreducible] Yw
theorem aqA (n m:Nat)(p:FN R.T aat):Yw n (m+1) 0 p=RD E R n false (afo n (Yw n m)) RF akf Tryz.f39 aat aa8 p:=by kernel_rfl
theorem aqB (p:FN R.T aat):Yw n 0 0 p=none:=by kernel_rfl
theorem axu (p:FN R.T (aa9 0))(x:FN R.T (Yv 0))(h:Yw n 0 0 p=some x):Pure E 39 (Rj R (aa9 0) p) (R9 (Rj R (Yv 0) x)):=absurd ((aqB n p).symm.trans h) nofun
theorem axv (n m:Nat)(hk:Rt E (afo n (Yw n m)))(p:FN R.T (aa9 0))(x:FN R.T (Yv 0))(h:Yw n (m+1) 0 p=some x):Pure E 39 (Rj R (aa9 0) p) (R9 (Rj R (Yv 0) x)):=
 Uv (args:=aat) (res:=aa8) TA hk Sw ((aqA n m p).symm.trans h) Tryz.func39 rfl rfl rfl rfl (by kernel_rfl)
theorem aqC (n:Nat):∀m,Rt E (afo n (Yw n m))
 |0=>Tc (f:=39) (r:=⟨aa9 0,Yv 0,Yw n 0 0,R3 R (Yv 0),false⟩) (ake n) (axu n)|m+1=>Tc (f:=39) (r:=⟨aa9 0,Yv 0,Yw n (m+1) 0,R3 R (Yv 0),false⟩) (ake n) (axv n m (aqC n m))
@[irreducible] def aeh (n m:Nat)(p:FN R.T aat):Option (FN R.T aa8):=Yw n m 0 p
@[irreducible] def Zb (p:FN R.T aat):Option (FN R.T aa8):=aeh n n p
theorem axw (p:FN R.T aat)(x:FN R.T aa8)(h:Zb n p=some x):Pure E 39 (Rj R aat p) (R9 (Rj R aa8 x)):=by
 unfold Zb aeh at h;cases n with
 |zero=>exact absurd ((aqB 0 p).symm.trans h) nofun|succ n=>exact Uv (args:=aat) (res:=aa8) TA (aqC (n+1) n) Sw ((aqA (n+1) n p).symm.trans h) Tryz.func39 rfl rfl rfl rfl (by kernel_rfl)
def akg:RH:=TR 39 ⟨aat,aa8,Zb n,R3 R aa8,false⟩ (akd n)
theorem axx:Rt E (akg n):=Tc (ake n) (axw n)
def axy:Rs:=⟨[],[]⟩
abbrev akh:Q7:=[SE]
abbrev aki:Q7:=[Fb]
@[irreducible] def Xh:R4 akh aki:=RD E R n false (akg n) RF axy Tryz.f15 akh aki
def akj:RH:=Sj 15 akh aki (Xh n) (akg n)
theorem akk:Rt E (akj n):=RX (axx n) Sw (by unfold Xh;rfl) Tryz.func15 (by kernel_rfl)
def akl:Rs:=⟨[(4,⟨[1,2],[2],⟨[(5,Fb)],[]⟩,[(.exit 0,⟨[],[]⟩),(.ret,⟨[(4,.d .bool)],[]⟩)]⟩)],[]⟩
abbrev aau:Q7:=[SE,Fb]
abbrev abb:Q7:=[.d .bool]
def abd:Nat->List Sk
 |_=>aau
def Yx:Nat->List Sk
 |_=>abb
def axz:Nat->Rs
 |_=>akl
def axA:Nat->Func
 |_=>Tryz.f10
def afp (g:(i:Nat)->FN R.T (abd i)->Option (FN R.T (Yx i))):Nat->List (FR R):=TR 10 ⟨abd 0,Yx 0,g 0,R3 R (Yx 0),false⟩ (akj n)
def Yy (n:Nat):Nat->(i:Nat)->FN R.T (abd i)->Option (FN R.T (Yx i))
 |0,_,_=>none|m+1,i,p=>RD E R n false (afp n (Yy n m)) RF (axz i) (axA i) (abd i) (Yx i) p
attribute [irreducible] Yy
theorem aqD (n m:Nat)(p:FN R.T aau):Yy n (m+1) 0 p=RD E R n false (afp n (Yy n m)) RF akl Tryz.f10 aau abb p:=by kernel_rfl
theorem aqE (p:FN R.T aau):Yy n 0 0 p=none:=by kernel_rfl
theorem axB (p:FN R.T (abd 0))(x:FN R.T (Yx 0))(h:Yy n 0 0 p=some x):Pure E 10 (Rj R (abd 0) p) (R9 (Rj R (Yx 0) x)):=absurd ((aqE n p).symm.trans h) nofun
theorem axC (n m:Nat)(hk:Rt E (afp n (Yy n m)))(p:FN R.T (abd 0))(x:FN R.T (Yx 0))(h:Yy n (m+1) 0 p=some x):Pure E 10 (Rj R (abd 0) p) (R9 (Rj R (Yx 0) x)):=
 Uv (args:=aau) (res:=abb) TA hk Sw ((aqD n m p).symm.trans h) Tryz.func10 rfl rfl rfl rfl (by kernel_rfl)
theorem aqF (n:Nat):∀m,Rt E (afp n (Yy n m))
 |0=>Tc (f:=10) (r:=⟨abd 0,Yx 0,Yy n 0 0,R3 R (Yx 0),false⟩) (akk n) (axB n)|m+1=>Tc (f:=10) (r:=⟨abd 0,Yx 0,Yy n (m+1) 0,R3 R (Yx 0),false⟩) (akk n) (axC n m (aqF n m))
@[irreducible] def adg (n m:Nat)(p:FN R.T aau):Option (FN R.T abb):=Yy n m 0 p
@[irreducible] def QQ (p:FN R.T aau):Option (FN R.T abb):=adg n n p
theorem axD (p:FN R.T aau)(x:FN R.T abb)(h:QQ n p=some x):Pure E 10 (Rj R aau p) (R9 (Rj R abb x)):=by
 unfold QQ adg at h;cases n with
 |zero=>exact absurd ((aqE 0 p).symm.trans h) nofun|succ n=>exact Uv (args:=aau) (res:=abb) TA (aqF (n+1) n) Sw ((aqD (n+1) n p).symm.trans h) Tryz.func10 rfl rfl rfl rfl (by kernel_rfl)
def akm:RH:=TR 10 ⟨aau,abb,QQ n,R3 R abb,false⟩ (akj n)
theorem axE:Rt E (akm n):=Tc (akk n) (axD n)
def axF:Rs:=⟨[],[]⟩
abbrev akn:Q7:=[SE,SE]
abbrev ako:Q7:=[SE]
@[irreducible] def Xt:R4 akn ako:=RD E R n false (akm n) RF axF Tryz.f33 akn ako
def ahn:RH:=Sj 33 akn ako (Xt n) (akm n)
theorem axG:Rt E (ahn n):=RX (axE n) Sw (by unfold Xt;rfl) Tryz.func33 (by kernel_rfl)
def aqG:Rs:=⟨[(2,⟨[0,1],[],⟨[(5,Fb)],[]⟩,[(.exit 0,⟨[],[]⟩),(.ret,⟨[(4,.d .bool)],[]⟩)]⟩)],[]⟩
abbrev akp:Q7:=[Vo,.d .str]
abbrev akq:Q7:=[.d .bool]
@[irreducible] def ZY:R4 akp akq:=RD E R n false (ahn n) RF aqG Tryz.f79 akp akq
def aho:RH:=Sj 79 akp akq (ZY n) (ahn n)
theorem axH:Rt E (aho n):=RX (axG n) Sw (by unfold ZY;rfl) Tryz.func79 (by kernel_rfl)
def aqH:Rs:=⟨[(2,⟨[0,1,2,3],[],⟨[(9,Fb)],[]⟩,[(.exit 0,⟨[],[]⟩),(.ret,⟨[(8,.d .bool)],[]⟩)]⟩)],[]⟩
abbrev akr:Q7:=[Vo,.d .str,Fb,Fb]
abbrev aks:Q7:=[.d .bool]
@[irreducible] def ZT:R4 akr aks:=RD E R n false (aho n) RF aqH Tryz.f96 akr aks
def adh:RH:=Sj 96 akr aks (ZT n) (aho n)
theorem axI:Rt E (adh n):=RX (axH n) Sw (by unfold ZT;rfl) Tryz.func96 (by kernel_rfl)
def afq:Rs:=⟨[(5,⟨[1,2],[],⟨[(5,.l (.own 81) (.st 6)),(6,.d .bool),(7,Fb)],[]⟩,[(.exit 0,⟨[(5,.l (.own 81) (.st 6))],[]⟩)]⟩),
 (9,⟨[1,2,6,7],[],⟨[(5,.l (.own 81) (.st 6)),(8,.d .bool),(9,Fb)],[]⟩,[(.exit 2,⟨[(5,.l (.own 81) (.st 6)),(8,.d .bool)],[]⟩)]⟩),
 (18,⟨[1,2],[],⟨[(5,.l (.own 99) (.st 6)),(10,Fb)],[]⟩,[(.ret,⟨[(4,.l (.own 99) (.st 6))],[]⟩)]⟩),
 (20,⟨[1,2,10],[],⟨[(5,.l (.own 99) (.st 6)),(11,Fb),(12,Fb)],[]⟩,[(.exit 6,⟨[(5,.l (.own 99) (.st 6)),(11,Fb)],[]⟩)]⟩)],[]⟩
abbrev akt:Q7:=[.d (.st 1),Vo]
abbrev aku:Q7:=[.d (.slice (.st 6))]
@[irreducible] def QP:R4 akt aku:=RD E R n false (adh n) RF afq Tryz.f80 akt aku
def ahp:RH:=Sj 80 akt aku (QP n) (adh n)
theorem axJ:Rt E (ahp n):=RX (axI n) Sw (by unfold QP;rfl) Tryz.func80 (by kernel_rfl)
def aqI:Rs:=⟨[(4,⟨[2,5],[2],⟨[(6,.l (.own 36) (.slice (.st 6))),(7,Fb)],[]⟩,[(.exit 0,⟨[(6,.l (.own 36) (.slice (.st 6)))],[]⟩)]⟩)],[]⟩
abbrev akv:Q7:=[.d (.st 2),SE]
abbrev akw:Q7:=[.d (.slice (.slice (.st 6)))]
@[irreducible] def ZQ:R4 akv akw:=RD E R n false (ahp n) RF aqI Tryz.f57 akv akw
def ahq:RH:=Sj 57 akv akw (ZQ n) (ahp n)
theorem axK:Rt E (ahq n):=RX (axJ n) Sw (by unfold ZQ;rfl) Tryz.func57 (by kernel_rfl)
def aqJ:Rs:=⟨[(4,⟨[5],[],⟨[(6,Fb),(7,Fb)],[]⟩,[(.exit 0,⟨[(6,Fb)],[]⟩),(.ret,⟨[(4,Fb)],[]⟩)]⟩)],[]⟩
abbrev akx:Q7:=[.d (.st 2),SE]
abbrev aky:Q7:=[Fb]
@[irreducible] def ZU:R4 akx aky:=RD E R n false (ahq n) RF aqJ Tryz.f24 akx aky
def akz:RH:=Sj 24 akx aky (ZU n) (ahq n)
theorem axL:Rt E (akz n):=RX (axK n) Sw (by unfold ZU;rfl) Tryz.func24 (by kernel_rfl)
def axM:Rs:=⟨[],[]⟩
abbrev akA:Q7:=[.d (.st 2),SE,SE]
abbrev akB:Q7:=[.d .bool]
@[irreducible] def XS:R4 akA akB:=RD E R n false (akz n) RF axM Tryz.f25 akA akB
def akC:RH:=Sj 25 akA akB (XS n) (akz n)
theorem axN:Rt E (akC n):=RX (axL n) Sw (by unfold XS;rfl) Tryz.func25 (by kernel_rfl)
def axO:Rs:=⟨[],[]⟩
abbrev akD:Q7:=[SE]
abbrev akE:Q7:=[.fn 69 [] [.Q9 [Fb,.d .str,Fb,Fb,.d .str,Vo] 0]]
@[irreducible] def Xi:R4 akD akE:=RD E R n false (akC n) RF axO Tryz.f38 akD akE
def ahr:RH:=Sj 38 akD akE (Xi n) (akC n)
theorem axP:Rt E (ahr n):=RX (axN n) Sw (by unfold Xi;rfl) Tryz.func38 (by kernel_rfl)
def ahs:Rs:=⟨[(3,⟨[3],[],⟨[],[(3,.cells [Fb])]⟩,[(.normal,⟨[],[(3,.cells [Fb])]⟩),(.exit 0,⟨[],[(3,.cells [Fb])]⟩)]⟩)],[]⟩
abbrev akF:Q7:=[SE]
abbrev akG:Q7:=[Fb]
@[irreducible] def ZJ:R4 akF akG:=RD E R n false (ahr n) RF ahs Tryz.f14 akF akG
def akH:RH:=Sj 14 akF akG (ZJ n) (ahr n)
theorem axQ:Rt E (akH n):=RX (axP n) Sw (by unfold ZJ;rfl) Tryz.func14 (by kernel_rfl)
def axR:Rs:=⟨[],[]⟩
abbrev akI:Q7:=[SE]
abbrev akJ:Q7:=[.d .bool]
@[irreducible] def XF:R4 akI akJ:=RD E R n false (akH n) RF axR Tryz.f48 akI akJ
def akK:RH:=Sj 48 akI akJ (XF n) (akH n)
theorem axS:Rt E (akK n):=RX (axQ n) Sw (by unfold XF;rfl) Tryz.func48 (by kernel_rfl)
def axT:Rs:=⟨[],[]⟩
abbrev akL:Q7:=[.d (.st 1),.Q9 [.d .str] 0]
abbrev akM:Q7:=[.d .bool]
@[irreducible] def XY:R4 akL akM:=RD E R n false (akK n) RF axT Tryz.f76 akL akM
def aht:RH:=Sj 76 akL akM (XY n) (akK n)
theorem axU:Rt E (aht n):=RX (axS n) Sw (by unfold XY;rfl) Tryz.func76 (by kernel_rfl)
def aqK:Rs:=⟨[(2,⟨[0,1,7],[],⟨[(8,Fb)],[]⟩,[(.exit 0,⟨[],[]⟩),(.ret,⟨[(4,Fb)],[]⟩)]⟩)],[]⟩
abbrev akN:Q7:=[.d (.slice (.st 1)),.fn 76 [] [.Q9 [.d .str] 0]]
abbrev akO:Q7:=[Fb]
@[irreducible] def Xc:R4 akN akO:=RD E R n false (aht n) RF aqK Tryz.f75 akN akO
def akP:RH:=Sj 75 akN akO (Xc n) (aht n)
theorem axV:Rt E (akP n):=RX (axU n) Sw (by unfold Xc;rfl) Tryz.func75 (by kernel_rfl)
def axW:Rs:=⟨[],[]⟩
abbrev akQ:Q7:=[.d (.st 2),.d .str]
abbrev akR:Q7:=[.d (.st 1),.d .bool]
@[irreducible] def XG:R4 akQ akR:=RD E R n false (akP n) RF axW Tryz.f49 akQ akR
def ahu:RH:=Sj 49 akQ akR (XG n) (akP n)
theorem axX:Rt E (ahu n):=RX (axV n) Sw (by unfold XG;rfl) Tryz.func49 (by kernel_rfl)
def ahv:Rs:=⟨[(5,⟨[2,4],[2],⟨[],[(4,.cells [Fb])]⟩,[(.normal,⟨[],[(4,.cells [Fb])]⟩),(.ret,⟨[],[(4,.cells [Fb])]⟩)]⟩)],[]⟩
abbrev akS:Q7:=[.d (.st 2),SE]
abbrev akT:Q7:=[Fb]
@[irreducible] def Zh:R4 akS akT:=RD E R n false (ahu n) RF ahv Tryz.f19 akS akT
def aqL:RH:=Sj 19 akS akT (Zh n) (ahu n)
theorem axY:Rt E (aqL n):=RX (axX n) Sw (by unfold Zh;rfl) Tryz.func19 (by kernel_rfl)
abbrev afr:Q7:=[]
abbrev afs:Q7:=[.d .bool]
@[irreducible] def Xk (n:Nat)(p:FN R.T afr):Option (FN R.T afs):=some true
theorem axZ (p:FN R.T afr):Xk n p=some true:=by unfold Xk;rfl
theorem ax0 (p:FN R.T afr)(x:FN R.T afs)(h:Xk n p=some x):Pure E 11 (Rj R afr p) (R9 (Rj R afs x)):=by unfold Xk at h;exact avv p x h
def akU:RH:=TR 11 ⟨afr,afs,Xk n,R3 R afs,false⟩ (aqL n)
theorem ax1:Rt E (akU n):=Tc (axY n) (ax0 n)
def ax2:Rs:=⟨[],[]⟩
abbrev akV:Q7:=[SE]
abbrev akW:Q7:=[SE]
@[irreducible] def Xx:R4 akV akW:=RD E R n false (akU n) RF ax2 Tryz.f59 akV akW
def akX:RH:=Sj 59 akV akW (Xx n) (akU n)
theorem ax3:Rt E (akX n):=RX (ax1 n) Sw (by unfold Xx;rfl) Tryz.func59 (by kernel_rfl)
def ax4:Rs:=⟨[],[]⟩
abbrev akY:Q7:=[.d (.int .u32)]
abbrev akZ:Q7:=[Fb]
@[irreducible] def JP:R4 akY akZ:=RD E R n false (akX n) RF ax4 Tryz.f115 akY akZ
def ak0:RH:=Sj 115 akY akZ (JP n) (akX n)
theorem ax5:Rt E (ak0 n):=RX (ax3 n) Sw (by unfold JP;rfl) Tryz.func115 (by kernel_rfl)
def ax6:Rs:=⟨[],[]⟩
abbrev ak1:Q7:=[.d (.int .u64)]
abbrev ak2:Q7:=[Fb]
@[irreducible] def XH:R4 ak1 ak2:=RD E R n false (ak0 n) RF ax6 Tryz.f116 ak1 ak2
def ak3:RH:=Sj 116 ak1 ak2 (XH n) (ak0 n)
theorem ax7:Rt E (ak3 n):=RX (ax5 n) Sw (by unfold XH;rfl) Tryz.func116 (by kernel_rfl)
def ax8:Rs:=⟨[],[]⟩
abbrev ak4:Q7:=[.d (.int .u64)]
abbrev ak5:Q7:=[Fb]
@[irreducible] def Xj:R4 ak4 ak5:=RD E R n false (ak3 n) RF ax8 Tryz.f102 ak4 ak5
def ak6:RH:=Sj 102 ak4 ak5 (Xj n) (ak3 n)
theorem ax9:Rt E (ak6 n):=RX (ax7 n) Sw (by unfold Xj;rfl) Tryz.func102 (by kernel_rfl)
def aya:Rs:=⟨[],[]⟩
abbrev ak7:Q7:=[Fb]
abbrev ak8:Q7:=[.d .bool]
@[irreducible] def Xu:R4 ak7 ak8:=RD E R n false (ak6 n) RF aya Tryz.f71 ak7 ak8
def ak9:RH:=Sj 71 ak7 ak8 (Xu n) (ak6 n)
theorem ayb:Rt E (ak9 n):=RX (ax9 n) Sw (by unfold Xu;rfl) Tryz.func71 (by kernel_rfl)
def ayc:Rs:=⟨[],[]⟩
abbrev ala:Q7:=[Fb,Fb]
abbrev alb:Q7:=[.d .bool]
@[irreducible] def XT:R4 ala alb:=RD E R n false (ak9 n) RF ayc Tryz.f133 ala alb
def aav:RH:=Sj 133 ala alb (XT n) (ak9 n)
theorem ahw:Rt E (aav n):=RX (ayb n) Sw (by unfold XT;rfl) Tryz.func133 (by kernel_rfl)
def alc:Rs:=⟨[(1,⟨[0,1,2],[],⟨[(6,Fb)],[Sz]⟩,[(.exit 0,⟨[],[Sz]⟩)]⟩),
 (4,⟨[0,1,2,6],[],⟨[(7,Fb)],[Sz]⟩,[(.exit 2,⟨[],[Sz]⟩)]⟩)],[]⟩
abbrev afu:Q7:=[.vw 1000000 (.int .i64),Fb,Fb]
abbrev afv:Q7:=[]
abbrev afw:List (Nat×R8):=[Sz]
@[irreducible] def ZC:Uh afu afw afv:=TI E R n false (aav n) RF alc Tryz.f127 afu afw afv
theorem ayd:adb E 127 (⟨afu,afw,afv,ZC n⟩:FM R):=by intro p q y q' h;have h:ZC n p q=some (y,q'):=h;unfold ZC at h;exact ag4 TA (ahw n) Sw h Tryz.func127 rfl (by kernel_rfl)
def ahx:IR R:=aai 127 ⟨afu,afw,afv,ZC n⟩ RF
theorem aye:Tf E (ahx n):=ad7 (m:=⟨afu,afw,afv,ZC n⟩) Sw (ayd n)
def aqM:Rs:=⟨[(1,⟨[0,2,3],[],⟨[(8,Fb)],[Sz]⟩,[(.exit 0,⟨[],[Sz]⟩),(.ret,⟨[],[Sz]⟩)]⟩)],[(5,⟨[0,2,3,8],[1000000],⟨[],[]⟩,[(.normal,⟨[(9,Fb)],[]⟩)]⟩)]⟩
abbrev ald:Q7:=[.vw 1000000 (.int .i64),Fb,Fb,Fb]
abbrev ale:Q7:=[]
abbrev alf:List (Nat×R8):=[Sz]
@[irreducible] def ZZ:Uh ald alf ale:=TI E R n false (aav n) (ahx n) aqM Tryz.f137 ald alf ale
def afx:IR R:=Ux 137 ald alf ale (ZZ n) (ahx n)
theorem ayf:Tf E (afx n):=Uz (ahw n) (aye n) (by unfold ZZ;rfl) Tryz.func137 (by kernel_rfl)
def alg:Rs:=⟨[(4,⟨[0,6,7,8],[],⟨[(9,Fb)],[Sz]⟩,[(.exit 0,⟨[],[Sz]⟩)]⟩),
 (8,⟨[0,6,7],[],⟨[(10,Fb)],[Sz]⟩,[(.exit 2,⟨[],[Sz]⟩)]⟩)],[]⟩
abbrev alh:Q7:=[.vw 1000000 (.int .i64),Fb,Fb]
abbrev ali:Q7:=[]
abbrev alj:List (Nat×R8):=[Sz]
@[irreducible] def ZK:Uh alh alj ali:=TI E R n false (aav n) (afx n) alg Tryz.f128 alh alj ali
def ahy:IR R:=Ux 128 alh alj ali (ZK n) (afx n)
theorem aqN:Tf E (ahy n):=Uz (ahw n) (ayf n) (by unfold ZK;rfl) Tryz.func128 (by kernel_rfl)
def ayg:Rs:=⟨[],[]⟩
abbrev alk:Q7:=[Fb]
abbrev alm:Q7:=[.d (.int .u64)]
@[irreducible] def XB:R4 alk alm:=RD E R n false (aav n) (ahy n) ayg Tryz.f123 alk alm
def abN:RH:=Sj 123 alk alm (XB n) (aav n)
theorem aei:Rt E (abN n):=RX (ahw n) (aqN n) (by unfold XB;rfl) Tryz.func123 (by kernel_rfl)
def ayh:Rs:=⟨[],[]⟩
abbrev aln:Q7:=[.ref 1000000 0]
abbrev alo:Q7:=[.d (.int .u64)]
abbrev alp:List (Nat×R8):=[(1000000,.cells [.d (.int .u64)])]
@[irreducible] def Xd:Uh aln alp alo:=TI E R n false (abN n) (ahy n) ayh Tryz.f124 aln alp alo
def ahz:IR R:=Ux 124 aln alp alo (Xd n) (ahy n)
theorem ayi:Tf E (ahz n):=Uz (aei n) (aqN n) (by unfold Xd;rfl) Tryz.func124 (by kernel_rfl)
def aqO:Rs:=⟨[(5,⟨[0,1,6,7,8],[],⟨[(9,Fb)],[(7,.cells [.d (.int .u64)]),Sz]⟩,[(.exit 0,⟨[],[Sz]⟩)]⟩)],[(10,⟨[0,1,6,7,8,9],[7,1000000],⟨[],[]⟩,[(.normal,⟨[(10,Fb)],[]⟩)]⟩)]⟩
abbrev alq:Q7:=[.vw 1000000 (.int .i64),Fb,Fb]
abbrev alr:Q7:=[]
abbrev als:List (Nat×R8):=[Sz]
@[irreducible] def ZV:Uh alq als alr:=TI E R n false (abN n) (ahz n) aqO Tryz.f129 alq als alr
def alu:IR R:=Ux 129 alq als alr (ZV n) (ahz n)
theorem ayj:Tf E (alu n):=Uz (aei n) (ayi n) (by unfold ZV;rfl) Tryz.func129 (by kernel_rfl)
def ayk:Rs:=⟨[],[]⟩
abbrev alv:Q7:=[.d (.slice (.int .i64)),Fb,Fb,.ref 1000000 0]
abbrev alx:Q7:=[Fb,Fb]
abbrev aly:List (Nat×R8):=[(1000000,.cells [Fb])]
@[irreducible] def Xl:Uh alv aly alx:=TI E R n false (abN n) (alu n) ayk Tryz.f140 alv aly alx
def alz:IR R:=Ux 140 alv aly alx (Xl n) (alu n)
theorem ayl:Tf E (alz n):=Uz (aei n) (ayj n) (by unfold Xl;rfl) Tryz.func140 (by kernel_rfl)
def aym:Rs:=⟨[],[]⟩
abbrev alA:Q7:=[.d (.slice (.int .i64)),Fb,Fb,Fb,.ref 1000000 0]
abbrev alB:Q7:=[Fb]
abbrev alC:List (Nat×R8):=[(1000000,.cells [Fb])]
@[irreducible] def Xm:Uh alA alC alB:=TI E R n false (abN n) (alz n) aym Tryz.f139 alA alC alB
def alD:IR R:=Ux 139 alA alC alB (Xm n) (alz n)
theorem ayn:Tf E (alD n):=Uz (aei n) (ayl n) (by unfold Xm;rfl) Tryz.func139 (by kernel_rfl)
def ayo:Rs:=⟨[],[]⟩
abbrev alE:Q7:=[.d (.slice (.int .i64)),Fb,.ref 1000000 0]
abbrev alF:Q7:=[Fb]
abbrev alG:List (Nat×R8):=[(1000000,.cells [Fb])]
@[irreducible] def Xn:Uh alE alG alF:=TI E R n false (abN n) (alD n) ayo Tryz.f138 alE alG alF
def afy:IR R:=Ux 138 alE alG alF (Xn n) (alD n)
theorem aqP:Tf E (afy n):=Uz (aei n) (ayn n) (by unfold Xn;rfl) Tryz.func138 (by kernel_rfl)
def ayp:Rs:=⟨[],[]⟩
abbrev alH:Q7:=[.d (.slice (.int .i64)),Fb,Fb]
abbrev alI:Q7:=[Fb,Fb]
@[irreducible] def XZ:R4 alH alI:=RD E R n false (abN n) (afy n) ayp Tryz.f130 alH alI
def UC:RH:=Sj 130 alH alI (XZ n) (abN n)
theorem acu:Rt E (UC n):=RX (aei n) (aqP n) (by unfold XZ;rfl) Tryz.func130 (by kernel_rfl)
def aqQ:Rs:=⟨[(2,⟨[0],[],⟨[(6,Fb),(7,Fb)],[Sz]⟩,[(.exit 0,⟨[],[Sz]⟩)]⟩)],[]⟩
abbrev alJ:Q7:=[.vw 1000000 (.int .i64),Fb,Fb]
abbrev alK:Q7:=[]
abbrev alL:List (Nat×R8):=[Sz]
@[irreducible] def ZM:Uh alJ alL alK:=TI E R n false (UC n) (afy n) aqQ Tryz.f131 alJ alL alK
def adi:IR R:=Ux 131 alJ alL alK (ZM n) (afy n)
theorem ayq:Tf E (adi n):=Uz (acu n) (aqP n) (by unfold ZM;rfl) Tryz.func131 (by kernel_rfl)
def afz:Rs:=⟨[(3,⟨[0,1,2],[],⟨[(7,Fb),(8,Fb)],[Sz]⟩,[(.exit 0,⟨[],[Sz]⟩),(.ret,⟨[(6,.d .bool)],[Sz]⟩)]⟩),
 (5,⟨[0,1,2,8],[1000000],⟨[(7,Fb)],[]⟩,[(.exit 2,⟨[(7,Fb)],[]⟩)]⟩),
 (14,⟨[0,1,2,7,8],[],⟨[(9,Fb)],[Sz]⟩,[(.exit 4,⟨[],[Sz]⟩)]⟩),
 (20,⟨[0,1,2,7,8],[],⟨[(10,Fb)],[Sz]⟩,[(.exit 6,⟨[],[Sz]⟩)]⟩)],[(18,⟨[0,1,2,7,8],[],⟨[],[]⟩,[(.normal,⟨[],[Sz]⟩)]⟩)]⟩
abbrev alM:Q7:=[.vw 1000000 (.int .i64),Fb,Fb]
abbrev alN:Q7:=[.d .bool]
abbrev alO:List (Nat×R8):=[Sz]
@[irreducible] def Zs:Uh alM alO alN:=TI E R n false (UC n) (adi n) afz Tryz.f132 alM alO alN
def aej:IR R:=Ux 132 alM alO alN (Zs n) (adi n)
theorem ayr:Tf E (aej n):=Uz (acu n) (ayq n) (by unfold Zs;rfl) Tryz.func132 (by kernel_rfl)
def ahA:Rs:=⟨[(503,⟨[0,1],[],⟨[(9,Fb),(10,Fb)],[Sz]⟩,[(.exit 0,⟨[(9,Fb)],[Sz]⟩)]⟩),
 (3,⟨[0,1,10],[1000000],⟨[(9,Fb)],[]⟩,[(.exit 2,⟨[(9,Fb)],[]⟩)]⟩),
 (5,⟨[0,1,9],[1000000],⟨[(10,Fb)],[]⟩,[(.exit 4,⟨[(10,Fb)],[]⟩)]⟩)],[]⟩
abbrev alP:Q7:=[.vw 1000000 (.int .i64),Fb,Fb,Fb]
abbrev alQ:Q7:=[Fb]
abbrev alR:List (Nat×R8):=[Sz]
@[irreducible] def ZA:Uh alP alR alQ:=TI E R n false (UC n) (aej n) ahA Tryz.f134 alP alR alQ
def acv:IR R:=Ux 134 alP alR alQ (ZA n) (aej n)
theorem ays:Tf E (acv n):=Uz (acu n) (ayr n) (by unfold ZA;rfl) Tryz.func134 (by kernel_rfl)
def aek:Rs:=⟨[(3,⟨[0,1,11],[1000000],⟨[(10,Fb)],[]⟩,[(.exit 0,⟨[(10,Fb)],[]⟩)]⟩),
 (5,⟨[0,1,10],[1000000],⟨[(11,Fb)],[]⟩,[(.exit 2,⟨[(11,Fb)],[]⟩)]⟩),
 (513,⟨[0,1],[],⟨[(10,Fb),(11,Fb)],[Sz]⟩,[(.exit 4,⟨[(11,Fb)],[Sz]⟩)]⟩),
 (13,⟨[0,1,11],[1000000],⟨[(10,Fb)],[]⟩,[(.exit 6,⟨[(10,Fb)],[]⟩)]⟩),
 (15,⟨[0,1,10],[1000000],⟨[(11,Fb)],[]⟩,[(.exit 8,⟨[(11,Fb)],[]⟩)]⟩)],[]⟩
abbrev alS:Q7:=[.vw 1000000 (.int .i64),Fb,Fb,Fb]
abbrev alT:Q7:=[Fb,.d .bool]
abbrev alU:List (Nat×R8):=[Sz]
@[irreducible] def Zi:Uh alS alU alT:=TI E R n false (UC n) (acv n) aek Tryz.f135 alS alU alT
def afA:IR R:=Ux 135 alS alU alT (Zi n) (acv n)
theorem aqR:Tf E (afA n):=Uz (acu n) (ays n) (by unfold Zi;rfl) Tryz.func135 (by kernel_rfl)
def afB:Rs:=⟨[(2,⟨[0],[],⟨[(1,Fb),(2,Fb),(3,Fb),(8,.d .bool),(9,.d .bool)],[Sz]⟩,[(.ret,⟨[],[Sz]⟩)]⟩)],[(10,⟨[0,1,2,8,9,10],[],⟨[],[]⟩,[(.normal,⟨[(3,Fb)],[Sz]⟩)]⟩),(15,⟨[0,1,2,3,8,9,10],[],⟨[],[]⟩,[(.normal,⟨[(11,Fb),(12,Fb)],[Sz]⟩)]⟩),(17,⟨[0,1,2,3,8,9,10,11],[],⟨[],[]⟩,[(.normal,⟨[],[Sz]⟩),(.ret,⟨[],[Sz]⟩)]⟩)]⟩
abbrev Yc:Q7:=[.vw 1000000 (.int .i64),Fb,Fb,Fb]
abbrev Z5:Q7:=[]
abbrev Wx:List (Nat×R8):=[Sz]
def aaw (n:Nat):Nat->FN R.T Yc->TP R.T Wx->Option (FN R.T Z5×TP R.T Wx)
 |0,_,_=>none|m+1,p,q=>TI E R n false (UC n) (aai 117 ⟨Yc,Wx,Z5,aaw n m⟩ (afA n)) afB Tryz.f117 Yc Wx Z5 p q
attribute [irreducible] aaw
theorem ayt (n m:Nat)(p:FN R.T Yc)(q:TP R.T Wx):aaw n (m+1) p q=TI E R n false (UC n) (aai 117 ⟨Yc,Wx,Z5,aaw n m⟩ (afA n)) afB Tryz.f117 Yc Wx Z5 p q:=by kernel_rfl
theorem ayu (p:FN R.T Yc)(q:TP R.T Wx):aaw n 0 p q=none:=by kernel_rfl
theorem aqS (n:Nat):∀m,adb E 117 (⟨Yc,Wx,Z5,aaw n m⟩:FM R)
 |0=>fun p q y q' h=>absurd (((ayu n p q).symm.trans h)) nofun
 |m+1=>fun p q y q' h=>ag4 TA (acu n) (ad7 (m:=⟨Yc,Wx,Z5,aaw n m⟩) (aqR n) (aqS n m)) ((ayt n m p q).symm.trans h) Tryz.func117 rfl (by kernel_rfl)
@[irreducible] def QR:FN R.T Yc->TP R.T Wx->Option (FN R.T Z5×TP R.T Wx):=aaw n n
theorem ayv:adb E 117 (⟨Yc,Wx,Z5,QR n⟩:FM R):=by unfold QR;exact aqS n n
def alV:IR R:=aai 117 ⟨Yc,Wx,Z5,QR n⟩ (afA n)
theorem ayw:Tf E (alV n):=ad7 (m:=⟨Yc,Wx,Z5,QR n⟩) (aqR n) (ayv n)
def ayx:Rs:=⟨[],[]⟩
abbrev alW:Q7:=[.vw 1000000 (.int .i64)]
abbrev alX:Q7:=[]
abbrev alY:List (Nat×R8):=[Sz]
@[irreducible] def Xf:Uh alW alY alX:=TI E R n false (UC n) (alV n) ayx Tryz.f103 alW alY alX
def afC:IR R:=Ux 103 alW alY alX (Xf n) (alV n)
theorem ayy:Tf E (afC n):=Uz (acu n) (ayw n) (by unfold Xf;rfl) Tryz.func103 (by kernel_rfl)
def alZ:Rs:=⟨[(4,⟨[0],[],⟨[(3,Fb)],[Sz]⟩,[(.exit 0,⟨[],[Sz]⟩),(.ret,⟨[(2,.sub 1000000 (.int .i64))],[Sz]⟩)]⟩),
 (9,⟨[0,4],[],⟨[(3,Fb),(5,Fb)],[Sz]⟩,[(.exit 2,⟨[(3,Fb)],[Sz]⟩)]⟩)],[]⟩
abbrev al0:Q7:=[.vw 1000000 (.int .i64)]
abbrev al1:Q7:=[.sub 1000000 (.int .i64)]
abbrev al2:List (Nat×R8):=[Sz]
@[irreducible] def Zn:Uh al0 al2 al1:=TI E R n false (UC n) (afC n) alZ Tryz.f105 al0 al2 al1
def abe:IR R:=Ux 105 al0 al2 al1 (Zn n) (afC n)
theorem ahB:Tf E (abe n):=Uz (acu n) (ayy n) (by unfold Zn;rfl) Tryz.func105 (by kernel_rfl)
def ahC:Rs:=⟨[(4,⟨[2,3,5],[3],⟨[],[(5,.cells [.l (.own 32) .bool])]⟩,[(.normal,⟨[],[(5,.cells [.l (.own 32) .bool])]⟩)]⟩)],[]⟩
abbrev al3:Q7:=[Fb,.Q9 [Fb,.d .str,Fb,Fb,.d .str,Vo] 0,.Q9 [.d .str,Fb,Fb,Fb,.d (.slice .str)] 0]
abbrev al4:Q7:=[.d (.slice .bool)]
@[irreducible] def ZH:R4 al3 al4:=RD E R n false (UC n) (abe n) ahC Tryz.f118 al3 al4
def ahD:RH:=Sj 118 al3 al4 (ZH n) (UC n)
theorem ayz:Rt E (ahD n):=RX (acu n) (ahB n) (by unfold ZH;rfl) Tryz.func118 (by kernel_rfl)
def aqT:Rs:=⟨[(4,⟨[0,1,12],[],⟨[(13,Fb)],[]⟩,[(.exit 0,⟨[],[]⟩),(.ret,⟨[(4,.d .bool)],[]⟩)]⟩)],[]⟩
abbrev al5:Q7:=[.d (.slice .bool),.d (.slice .bool)]
abbrev al6:Q7:=[.d .bool]
@[irreducible] def ZR:R4 al5 al6:=RD E R n false (ahD n) (abe n) aqT Tryz.f121 al5 al6
def al7:RH:=Sj 121 al5 al6 (ZR n) (ahD n)
theorem ayA:Rt E (al7 n):=RX (ayz n) (ahB n) (by unfold ZR;rfl) Tryz.func121 (by kernel_rfl)
def ayB:Rs:=⟨[],[]⟩
abbrev al8:Q7:=[Fb,Fb,.Q9 [.fn 118 [] [.Q9 [Fb,.d .str,Fb,Fb,.d .str,Vo] 0,.Q9 [.d .str,Fb,Fb,Fb,.d (.slice .str)] 0]] 0]
abbrev al9:Q7:=[.d .bool]
@[irreducible] def Xy:R4 al8 al9:=RD E R n false (al7 n) (abe n) ayB Tryz.f120 al8 al9
def acw:RH:=Sj 120 al8 al9 (Xy n) (al7 n)
theorem ama:Rt E (acw n):=RX (ayA n) (ahB n) (by unfold Xy;rfl) Tryz.func120 (by kernel_rfl)
def amb:Rs:=⟨[(4,⟨[0,1],[1000001],⟨[(5,Fb)],[Sz]⟩,[(.exit 0,⟨[],[Sz]⟩),(.ret,⟨[(4,.sub 1000000 (.int .i64))],[Sz]⟩)]⟩),
 (9,⟨[0,1,6],[1000001],⟨[(5,Fb),(7,Fb)],[Sz]⟩,[(.exit 2,⟨[(5,Fb)],[Sz]⟩)]⟩)],[]⟩
abbrev amc:Q7:=[.sub 1000000 (.int .i64),.fn 120 [] [.ref 1000001 0]]
abbrev amd:Q7:=[.sub 1000000 (.int .i64)]
abbrev ame:List (Nat×R8):=[Sz,(1000001,.cells [.fn 118 [] [.Q9 [Fb,.d .str,Fb,Fb,.d .str,Vo] 0,.Q9 [.d .str,Fb,Fb,Fb,.d (.slice .str)] 0]])]
@[irreducible] def Zr:Uh amc ame amd:=TI E R n false (acw n) (abe n) amb Tryz.f119 amc ame amd
def amf:IR R:=Ux 119 amc ame amd (Zr n) (abe n)
theorem ayC:Tf E (amf n):=Uz (ama n) (ahB n) (by unfold Zr;rfl) Tryz.func119 (by kernel_rfl)
def ayD:Rs:=⟨[],[]⟩
abbrev amg:Q7:=[.d (.st 1),SE,.sub 1000000 (.int .i64)]
abbrev amh:Q7:=[.sub 1000000 (.int .i64)]
abbrev ami:List (Nat×R8):=[Sz]
@[irreducible] def Xe:Uh amg ami amh:=TI E R n false (acw n) (amf n) ayD Tryz.f104 amg ami amh
def Ur:IR R:=Ux 104 amg ami amh (Xe n) (amf n)
theorem Wj:Tf E (Ur n):=Uz (ama n) (ayC n) (by unfold Xe;rfl) Tryz.func104 (by kernel_rfl)
def ahE:Rs:=⟨[(4,⟨[2,3,5],[],⟨[],[(5,.cells [.vw 99999 (.int .i64)]),(99999,.arr (.int .i64))]⟩,[(.normal,⟨[],[(5,.cells [.vw 99999 (.int .i64)]),(99999,.arr (.int .i64))]⟩)]⟩)],[]⟩
abbrev amj:Q7:=[.d (.st 1),SE]
abbrev amk:Q7:=[.d (.slice (.int .i64))]
@[irreducible] def ZD (p:FN R.T amj):Option (FN R.T amk):=RD E R n true (acw n) (Ur n) ahE Tryz.f94 amj amk p
def afD:RH:=Sj 94 amj amk (ZD n) (acw n)
theorem ayE:Rt E (afD n):=RX (ama n) (Wj n) (by unfold ZD;rfl) Tryz.func94 (by kernel_rfl)
def afE:Rs:=⟨[(4,⟨[2,5],[5],⟨[],[(11,.map .str .bool)]⟩,[(.normal,⟨[],[(11,.map .str .bool)]⟩)]⟩),
 (9,⟨[5,29,30],[5,11],⟨[(7,.l (.own 45) .str),(8,.d .bool),(31,Fb)],[]⟩,[(.exit 2,⟨[(7,.l (.own 45) .str)],[]⟩)]⟩)],[]⟩
abbrev aml:Q7:=[.d (.st 1),SE]
abbrev amm:Q7:=[.d (.slice .str)]
@[irreducible] def Zp:R4 aml amm:=RD E R n false (afD n) (Ur n) afE Tryz.f95 aml amm
def afF:RH:=Sj 95 aml amm (Zp n) (afD n)
theorem ayF:Rt E (afF n):=RX (ayE n) (Wj n) (by unfold Zp;rfl) Tryz.func95 (by kernel_rfl)
def amn:Rs:=⟨[(4,⟨[2,17,18],[],⟨[(5,.l (.own 32) (.st 7)),(19,Fb)],[]⟩,[(.exit 0,⟨[(5,.l (.own 32) (.st 7))],[]⟩)]⟩),
 (10,⟨[2,37,38],[],⟨[(5,.l (.own 32) (.st 7)),(39,Fb)],[]⟩,[(.exit 2,⟨[(5,.l (.own 32) (.st 7))],[]⟩)]⟩)],[]⟩
abbrev amo:Q7:=[.d (.st 1),SE]
abbrev amq:Q7:=[.d (.slice (.st 7))]
@[irreducible] def Zw:R4 amo amq:=RD E R n false (afF n) (Ur n) amn Tryz.f78 amo amq
def afG:RH:=Sj 78 amo amq (Zw n) (afF n)
theorem ayG:Rt E (afG n):=RX (ayF n) (Wj n) (by unfold Zw;rfl) Tryz.func78 (by kernel_rfl)
def afH:Rs:=⟨[(3,⟨[3,5,10,11],[],⟨[(12,Fb)],[(5,.cells [.l (.own 34) (.slice (.st 7))])]⟩,[(.exit 0,⟨[],[(5,.cells [.l (.own 34) (.slice (.st 7))])]⟩)]⟩),
 (7,⟨[3,5,7,10,11,12],[7],⟨[],[(5,.cells [.l (.own 34) (.slice (.st 7))])]⟩,[(.normal,⟨[],[(5,.cells [.l (.own 34) (.slice (.st 7))])]⟩),(.exit 2,⟨[],[(5,.cells [.l (.own 34) (.slice (.st 7))])]⟩)]⟩)],[]⟩
abbrev amr:Q7:=[.d (.st 2),SE]
abbrev ams:Q7:=[.d (.slice (.slice (.st 7)))]
@[irreducible] def Zt:R4 amr ams:=RD E R n false (afG n) (Ur n) afH Tryz.f56 amr ams
def aqU:RH:=Sj 56 amr ams (Zt n) (afG n)
theorem ayH:Rt E (aqU n):=RX (ayG n) (Wj n) (by unfold Zt;rfl) Tryz.func56 (by kernel_rfl)
abbrev afI:Q7:=[.d (.slice (.slice (.st 7))),SE]
abbrev afJ:Q7:=[.d (.slice (.st 3)),.d .bool]
@[irreducible] def XU (n:Nat)(p:FN R.T afI):Option (FN R.T afJ):=abK p.1 p.2
theorem aqV (p:FN R.T afI):XU n p=abK p.1 p.2:=by unfold XU;rfl
theorem ayI (p:FN R.T afI)(x:FN R.T afJ)(h:XU n p=some x):Pure E 58 (Rj R afI p) (R9 (Rj R afJ x)):=by unfold XU at h;exact axf p x h
def amt:RH:=TR 58 ⟨afI,afJ,XU n,R3 R afJ,false⟩ (aqU n)
theorem ayJ:Rt E (amt n):=Tc (ayH n) (ayI n)
def ayK:Rs:=⟨[],[]⟩
abbrev amu:Q7:=[.d (.st 2),SE]
abbrev amv:Q7:=[.d (.slice (.st 3)),.d .bool,Fb]
@[irreducible] def Xo:R4 amu amv:=RD E R n false (amt n) (Ur n) ayK Tryz.f26 amu amv
def ahF:RH:=Sj 26 amu amv (Xo n) (amt n)
theorem ayL:Rt E (ahF n):=RX (ayJ n) (Wj n) (by unfold Xo;rfl) Tryz.func26 (by kernel_rfl)
def aqW:Rs:=⟨[(2,⟨[3,4,5,14,15],[3,5],⟨[(16,Fb)],[]⟩,[(.exit 0,⟨[],[]⟩),(.ret,⟨[(6,.l .any (.st 3)),(7,.d .bool),(8,Fb)],[]⟩)]⟩)],[]⟩
abbrev amw:Q7:=[.d (.st 2),SE,SE]
abbrev amx:Q7:=[.d (.slice (.st 3)),.d .bool,Fb]
@[irreducible] def ZE:R4 amw amx:=RD E R n false (ahF n) (Ur n) aqW Tryz.f27 amw amx
def amy:RH:=Sj 27 amw amx (ZE n) (ahF n)
theorem ayM:Rt E (amy n):=RX (ayL n) (Wj n) (by unfold ZE;rfl) Tryz.func27 (by kernel_rfl)
def ayN:Rs:=⟨[],[]⟩
abbrev amA:Q7:=[SE,SE]
abbrev amB:Q7:=[SE]
@[irreducible] def XL:R4 amA amB:=RD E R n false (amy n) (Ur n) ayN Tryz.f34 amA amB
def amC:RH:=Sj 34 amA amB (XL n) (amy n)
theorem ayO:Rt E (amC n):=RX (ayM n) (Wj n) (by unfold XL;rfl) Tryz.func34 (by kernel_rfl)
def ayP:Rs:=⟨[],[]⟩
abbrev amD:Q7:=[SE]
abbrev amE:Q7:=[SE]
@[irreducible] def XM:R4 amD amE:=RD E R n false (amC n) (Ur n) ayP Tryz.f31 amD amE
def amF:RH:=Sj 31 amD amE (XM n) (amC n)
theorem ayQ:Rt E (amF n):=RX (ayO n) (Wj n) (by unfold XM;rfl) Tryz.func31 (by kernel_rfl)
def ayR:Rs:=⟨[],[]⟩
abbrev amG:Q7:=[.d .bool]
abbrev amH:Q7:=[SE]
@[irreducible] def XC:R4 amG amH:=RD E R n false (amF n) (Ur n) ayR Tryz.f89 amG amH
def amI:RH:=Sj 89 amG amH (XC n) (amF n)
theorem ayS:Rt E (amI n):=RX (ayQ n) (Wj n) (by unfold XC;rfl) Tryz.func89 (by kernel_rfl)
def ayT:Rs:=⟨[],[]⟩
abbrev amJ:Q7:=[Fb,Fb]
abbrev amK:Q7:=[Fb]
@[irreducible] def Xz:R4 amJ amK:=RD E R n false (amI n) (Ur n) ayT Tryz.f41 amJ amK
def aqX:RH:=Sj 41 amJ amK (Xz n) (amI n)
theorem ayU:Rt E (aqX n):=RX (ayS n) (Wj n) (by unfold Xz;rfl) Tryz.func41 (by kernel_rfl)
abbrev ahG:Q7:=[.d .str,.d .str]
abbrev afK:Q7:=[Fb]
@[irreducible] def XV (n:Nat)(p:FN R.T ahG):Option (FN R.T afK):=some (U2 p.1 p.2)
theorem ayV (p:FN R.T ahG)(x:FN R.T afK)(h:XV n p=some x):Pure E 42 (Rj R ahG p) (R9 (Rj R afK x)):=by unfold XV at h;exact avw p x h
def ahH:RH:=TR 42 ⟨ahG,afK,XV n,R3 R afK,false⟩ (aqX n)
theorem ayW:Rt E (ahH n):=Tc (ayU n) (ayV n)
def aqY:Rs:=⟨[(3,⟨[3,6,7],[],⟨[(8,Fb)],[]⟩,[(.exit 0,⟨[],[]⟩),(.ret,⟨[(2,Fb)],[]⟩)]⟩)],[]⟩
abbrev amL:Q7:=[.d (.slice (.int .i64))]
abbrev amM:Q7:=[Fb]
@[irreducible] def ZP:R4 amL amM:=RD E R n false (ahH n) (Ur n) aqY Tryz.f40 amL amM
def amN:RH:=Sj 40 amL amM (ZP n) (ahH n)
theorem amO:Rt E (amN n):=RX (ayW n) (Wj n) (by unfold ZP;rfl) Tryz.func40 (by kernel_rfl)
def aqZ:Rs:=⟨[],[]⟩
abbrev aax:Q7:=[SE,SE]
abbrev abf:Q7:=[Fb]
def amP:Rs:=⟨[(2,⟨[0,1,2,11,12],[],⟨[(13,Fb)],[]⟩,[(.exit 0,⟨[],[]⟩),(.ret,⟨[(6,Fb)],[]⟩)]⟩)],[]⟩
abbrev aay:Q7:=[Vo,Vo,.fn 16 [] []]
abbrev abg:Q7:=[Fb]
def Wm:Nat->List Sk
 |0=>aax|_=>aay
def U4:Nat->List Sk
 |0=>abf|_=>abg
def ayX:Nat->Rs
 |0=>aqZ|_=>amP
def ayY:Nat->Func
 |0=>Tryz.f16|_=>Tryz.f43
def adj (g:(i:Nat)->FN R.T (Wm i)->Option (FN R.T (U4 i))):Nat->List (FR R):=TR 43 ⟨Wm 1,U4 1,g 1,R3 R (U4 1),false⟩ (TR 16 ⟨Wm 0,U4 0,g 0,R3 R (U4 0),false⟩ (amN n))
def Vf (n:Nat):Nat->(i:Nat)->FN R.T (Wm i)->Option (FN R.T (U4 i))
 |0,_,_=>none|m+1,i,p=>RD E R n false (adj n (Vf n m)) (Ur n) (ayX i) (ayY i) (Wm i) (U4 i) p
attribute [irreducible] Vf
theorem aq0 (n m:Nat)(p:FN R.T aax):Vf n (m+1) 0 p=RD E R n false (adj n (Vf n m)) (Ur n) aqZ Tryz.f16 aax abf p:=by kernel_rfl
theorem aq1 (n m:Nat)(p:FN R.T aay):Vf n (m+1) 1 p=RD E R n false (adj n (Vf n m)) (Ur n) amP Tryz.f43 aay abg p:=by kernel_rfl
theorem aq2 (p:FN R.T aax):Vf n 0 0 p=none:=by kernel_rfl
theorem ayZ (p:FN R.T (Wm 0))(x:FN R.T (U4 0))(h:Vf n 0 0 p=some x):Pure E 16 (Rj R (Wm 0) p) (R9 (Rj R (U4 0) x)):=absurd ((aq2 n p).symm.trans h) nofun
theorem aq3 (p:FN R.T aay):Vf n 0 1 p=none:=by kernel_rfl
theorem ay0 (p:FN R.T (Wm 1))(x:FN R.T (U4 1))(h:Vf n 0 1 p=some x):Pure E 43 (Rj R (Wm 1) p) (R9 (Rj R (U4 1) x)):=absurd ((aq3 n p).symm.trans h) nofun
theorem ay1 (n m:Nat)(hk:Rt E (adj n (Vf n m)))(p:FN R.T (Wm 0))(x:FN R.T (U4 0))(h:Vf n (m+1) 0 p=some x):Pure E 16 (Rj R (Wm 0) p) (R9 (Rj R (U4 0) x)):=
 Uv (args:=aax) (res:=abf) TA hk (Wj n) ((aq0 n m p).symm.trans h) Tryz.func16 rfl rfl rfl rfl (by kernel_rfl)
theorem ay2 (n m:Nat)(hk:Rt E (adj n (Vf n m)))(p:FN R.T (Wm 1))(x:FN R.T (U4 1))(h:Vf n (m+1) 1 p=some x):Pure E 43 (Rj R (Wm 1) p) (R9 (Rj R (U4 1) x)):=
 Uv (args:=aay) (res:=abg) TA hk (Wj n) ((aq1 n m p).symm.trans h) Tryz.func43 rfl rfl rfl rfl (by kernel_rfl)
theorem ahI (n:Nat):∀m,Rt E (adj n (Vf n m))
 |0=>Tc (f:=43) (r:=⟨Wm 1,U4 1,Vf n 0 1,R3 R (U4 1),false⟩) (Tc (f:=16) (r:=⟨Wm 0,U4 0,Vf n 0 0,R3 R (U4 0),false⟩) (amO n) (ayZ n)) (ay0 n)|m+1=>Tc (f:=43) (r:=⟨Wm 1,U4 1,Vf n (m+1) 1,R3 R (U4 1),false⟩) (Tc (f:=16) (r:=⟨Wm 0,U4 0,Vf n (m+1) 0,R3 R (U4 0),false⟩) (amO n) (ay1 n m (ahI n m))) (ay2 n m (ahI n m))
@[irreducible] def adk (n m:Nat)(p:FN R.T aax):Option (FN R.T abf):=Vf n m 0 p
@[irreducible] def Zj (p:FN R.T aax):Option (FN R.T abf):=adk n n p
theorem ay3 (p:FN R.T aax)(x:FN R.T abf)(h:Zj n p=some x):Pure E 16 (Rj R aax p) (R9 (Rj R abf x)):=by
 unfold Zj adk at h;cases n with
 |zero=>exact absurd ((aq2 0 p).symm.trans h) nofun|succ n=>exact Uv (args:=aax) (res:=abf) TA (ahI (n+1) n) (Wj (n+1)) ((aq0 (n+1) n p).symm.trans h) Tryz.func16 rfl rfl rfl rfl (by kernel_rfl)
@[irreducible] def afL (n m:Nat)(p:FN R.T aay):Option (FN R.T abg):=Vf n m 1 p
@[irreducible] def Zd (p:FN R.T aay):Option (FN R.T abg):=afL n n p
theorem ay4 (p:FN R.T aay)(x:FN R.T abg)(h:Zd n p=some x):Pure E 43 (Rj R aay p) (R9 (Rj R abg x)):=by
 unfold Zd afL at h;cases n with
 |zero=>exact absurd ((aq3 0 p).symm.trans h) nofun|succ n=>exact Uv (args:=aay) (res:=abg) TA (ahI (n+1) n) (Wj (n+1)) ((aq1 (n+1) n p).symm.trans h) Tryz.func43 rfl rfl rfl rfl (by kernel_rfl)
def aq4:RH:=TR 16 ⟨aax,abf,Zj n,R3 R abf,false⟩ (amN n)
theorem ay5:Rt E (aq4 n):=Tc (amO n) (ay3 n)
def amQ:RH:=TR 43 ⟨aay,abg,Zd n,R3 R abg,false⟩ (aq4 n)
theorem ay6:Rt E (amQ n):=Tc (ay5 n) (ay4 n)
def ay7:Rs:=⟨[],[]⟩
abbrev amR:Q7:=[SE,SE]
abbrev amS:Q7:=[.d .bool]
@[irreducible] def Xp:R4 amR amS:=RD E R n false (amQ n) (Ur n) ay7 Tryz.f90 amR amS
def Wy:RH:=Sj 90 amR amS (Xp n) (amQ n)
theorem acy:Rt E (Wy n):=RX (ay6 n) (Wj n) (by unfold Xp;rfl) Tryz.func90 (by kernel_rfl)
def amT:Rs:=⟨[(1,⟨[0,1,2,3],[],⟨[(8,Fb)],[SK]⟩,[(.exit 0,⟨[],[SK]⟩)]⟩),
 (4,⟨[0,1,2,3,8],[],⟨[(9,Fb)],[SK]⟩,[(.exit 2,⟨[],[SK]⟩)]⟩)],[]⟩
abbrev amU:Q7:=[.vw 1000000 (.st 0),Fb,Fb,.fn 16 [] []]
abbrev amV:Q7:=[]
abbrev amW:List (Nat×R8):=[SK]
@[irreducible] def ZF:Uh amU amW amV:=TI E R n false (Wy n) (Ur n) amT Tryz.f107 amU amW amV
def ahJ:IR R:=Ux 107 amU amW amV (ZF n) (Ur n)
theorem ay8:Tf E (ahJ n):=Uz (acy n) (Wj n) (by unfold ZF;rfl) Tryz.func107 (by kernel_rfl)
def aq5:Rs:=⟨[(1,⟨[0,2,3,4],[],⟨[(10,Fb)],[SK]⟩,[(.exit 0,⟨[],[SK]⟩),(.ret,⟨[],[SK]⟩)]⟩)],[(5,⟨[0,2,3,4,10],[1000000],⟨[],[]⟩,[(.normal,⟨[(11,Fb)],[]⟩)]⟩)]⟩
abbrev amX:Q7:=[.vw 1000000 (.st 0),Fb,Fb,Fb,.fn 16 [] []]
abbrev amY:Q7:=[]
abbrev amZ:List (Nat×R8):=[SK]
@[irreducible] def Xa:Uh amX amZ amY:=TI E R n false (Wy n) (ahJ n) aq5 Tryz.f122 amX amZ amY
def afM:IR R:=Ux 122 amX amZ amY (Xa n) (ahJ n)
theorem ay9:Tf E (afM n):=Uz (acy n) (ay8 n) (by unfold Xa;rfl) Tryz.func122 (by kernel_rfl)
def am0:Rs:=⟨[(4,⟨[0,3,8,9,10],[],⟨[(11,Fb)],[SK]⟩,[(.exit 0,⟨[],[SK]⟩)]⟩),
 (8,⟨[0,3,8,9],[],⟨[(12,Fb)],[SK]⟩,[(.exit 2,⟨[],[SK]⟩)]⟩)],[]⟩
abbrev am1:Q7:=[.vw 1000000 (.st 0),Fb,Fb,.fn 16 [] []]
abbrev am2:Q7:=[]
abbrev am3:List (Nat×R8):=[SK]
@[irreducible] def ZL:Uh am1 am3 am2:=TI E R n false (Wy n) (afM n) am0 Tryz.f108 am1 am3 am2
def ahK:IR R:=Ux 108 am1 am3 am2 (ZL n) (afM n)
theorem aza:Tf E (ahK n):=Uz (acy n) (ay9 n) (by unfold ZL;rfl) Tryz.func108 (by kernel_rfl)
def aq6:Rs:=⟨[(5,⟨[0,1,8,9,10],[],⟨[(11,Fb)],[(9,.cells [.d (.int .u64)]),SK]⟩,[(.exit 0,⟨[],[SK]⟩)]⟩)],[(10,⟨[0,1,8,9,10,11],[9,1000000],⟨[],[]⟩,[(.normal,⟨[(12,Fb)],[]⟩)]⟩)]⟩
abbrev am4:Q7:=[.vw 1000000 (.st 0),Fb,Fb,.fn 16 [] []]
abbrev am5:Q7:=[]
abbrev am6:List (Nat×R8):=[SK]
@[irreducible] def ZW:Uh am4 am6 am5:=TI E R n false (Wy n) (ahK n) aq6 Tryz.f109 am4 am6 am5
def am7:IR R:=Ux 109 am4 am6 am5 (ZW n) (ahK n)
theorem azb:Tf E (am7 n):=Uz (acy n) (aza n) (by unfold ZW;rfl) Tryz.func109 (by kernel_rfl)
def azc:Rs:=⟨[],[]⟩
abbrev am8:Q7:=[Vo,Fb,Fb,.ref 1000000 0,.fn 16 [] []]
abbrev am9:Q7:=[Fb,Fb]
abbrev ana:List (Nat×R8):=[(1000000,.cells [Fb])]
@[irreducible] def Xq:Uh am8 ana am9:=TI E R n false (Wy n) (am7 n) azc Tryz.f136 am8 ana am9
def anb:IR R:=Ux 136 am8 ana am9 (Xq n) (am7 n)
theorem azd:Tf E (anb n):=Uz (acy n) (azb n) (by unfold Xq;rfl) Tryz.func136 (by kernel_rfl)
def aze:Rs:=⟨[],[]⟩
abbrev anc:Q7:=[Vo,Fb,Fb,Fb,.ref 1000000 0,.fn 16 [] []]
abbrev ane:Q7:=[Fb]
abbrev anf:List (Nat×R8):=[(1000000,.cells [Fb])]
@[irreducible] def Xr:Uh anc anf ane:=TI E R n false (Wy n) (anb n) aze Tryz.f126 anc anf ane
def ang:IR R:=Ux 126 anc anf ane (Xr n) (anb n)
theorem azf:Tf E (ang n):=Uz (acy n) (azd n) (by unfold Xr;rfl) Tryz.func126 (by kernel_rfl)
def azg:Rs:=⟨[],[]⟩
abbrev anh:Q7:=[Vo,Fb,.ref 1000000 0,.fn 16 [] []]
abbrev ani:Q7:=[Fb]
abbrev anj:List (Nat×R8):=[(1000000,.cells [Fb])]
@[irreducible] def Xs:Uh anh anj ani:=TI E R n false (Wy n) (ang n) azg Tryz.f125 anh anj ani
def afN:IR R:=Ux 125 anh anj ani (Xs n) (ang n)
theorem aq7:Tf E (afN n):=Uz (acy n) (azf n) (by unfold Xs;rfl) Tryz.func125 (by kernel_rfl)
def azh:Rs:=⟨[],[]⟩
abbrev ank:Q7:=[Vo,Fb,Fb,.fn 16 [] []]
abbrev anl:Q7:=[Fb,Fb]
@[irreducible] def Jn:R4 ank anl:=RD E R n false (Wy n) (afN n) azh Tryz.f110 ank anl
def UE:RH:=Sj 110 ank anl (Jn n) (Wy n)
theorem acz:Rt E (UE n):=RX (acy n) (aq7 n) (by unfold Jn;rfl) Tryz.func110 (by kernel_rfl)
def aq8:Rs:=⟨[(2,⟨[0],[],⟨[(8,Fb),(9,Fb)],[SK]⟩,[(.exit 0,⟨[],[SK]⟩)]⟩)],[]⟩
abbrev anm:Q7:=[.vw 1000000 (.st 0),Fb,Fb,.fn 16 [] []]
abbrev ano:Q7:=[]
abbrev anp:List (Nat×R8):=[SK]
@[irreducible] def ZN:Uh anm anp ano:=TI E R n false (UE n) (afN n) aq8 Tryz.f111 anm anp ano
def adl:IR R:=Ux 111 anm anp ano (ZN n) (afN n)
theorem azi:Tf E (adl n):=Uz (acz n) (aq7 n) (by unfold ZN;rfl) Tryz.func111 (by kernel_rfl)
def afO:Rs:=⟨[(3,⟨[0,1,2,3],[],⟨[(9,Fb),(10,Fb)],[SK]⟩,[(.exit 0,⟨[],[SK]⟩),(.ret,⟨[(8,.d .bool)],[SK]⟩)]⟩),
 (5,⟨[0,1,2,3,10],[1000000],⟨[(9,Fb)],[]⟩,[(.exit 2,⟨[(9,Fb)],[]⟩)]⟩),
 (14,⟨[0,1,2,3,9,10],[],⟨[(11,Fb)],[SK]⟩,[(.exit 4,⟨[],[SK]⟩)]⟩),
 (20,⟨[0,1,2,3,9,10],[],⟨[(12,Fb)],[SK]⟩,[(.exit 6,⟨[],[SK]⟩)]⟩)],[(18,⟨[0,1,2,3,9,10],[],⟨[],[]⟩,[(.normal,⟨[],[SK]⟩)]⟩)]⟩
abbrev anq:Q7:=[.vw 1000000 (.st 0),Fb,Fb,.fn 16 [] []]
abbrev anr:Q7:=[.d .bool]
abbrev ant:List (Nat×R8):=[SK]
@[irreducible] def Zu:Uh anq ant anr:=TI E R n false (UE n) (adl n) afO Tryz.f112 anq ant anr
def ael:IR R:=Ux 112 anq ant anr (Zu n) (adl n)
theorem azj:Tf E (ael n):=Uz (acz n) (azi n) (by unfold Zu;rfl) Tryz.func112 (by kernel_rfl)
def ahL:Rs:=⟨[(503,⟨[0,1,4],[],⟨[(11,Fb),(12,Fb)],[SK]⟩,[(.exit 0,⟨[(11,Fb)],[SK]⟩)]⟩),
 (3,⟨[0,1,4,12],[1000000],⟨[(11,Fb)],[]⟩,[(.exit 2,⟨[(11,Fb)],[]⟩)]⟩),
 (5,⟨[0,1,4,11],[1000000],⟨[(12,Fb)],[]⟩,[(.exit 4,⟨[(12,Fb)],[]⟩)]⟩)],[]⟩
abbrev anu:Q7:=[.vw 1000000 (.st 0),Fb,Fb,Fb,.fn 16 [] []]
abbrev anv:Q7:=[Fb]
abbrev anw:List (Nat×R8):=[SK]
@[irreducible] def ZB:Uh anu anw anv:=TI E R n false (UE n) (ael n) ahL Tryz.f113 anu anw anv
def acA:IR R:=Ux 113 anu anw anv (ZB n) (ael n)
theorem azk:Tf E (acA n):=Uz (acz n) (azj n) (by unfold ZB;rfl) Tryz.func113 (by kernel_rfl)
def aem:Rs:=⟨[(3,⟨[0,1,4,13],[1000000],⟨[(12,Fb)],[]⟩,[(.exit 0,⟨[(12,Fb)],[]⟩)]⟩),
 (5,⟨[0,1,4,12],[1000000],⟨[(13,Fb)],[]⟩,[(.exit 2,⟨[(13,Fb)],[]⟩)]⟩),
 (513,⟨[0,1,4],[],⟨[(12,Fb),(13,Fb)],[SK]⟩,[(.exit 4,⟨[(13,Fb)],[SK]⟩)]⟩),
 (13,⟨[0,1,4,13],[1000000],⟨[(12,Fb)],[]⟩,[(.exit 6,⟨[(12,Fb)],[]⟩)]⟩),
 (15,⟨[0,1,4,12],[1000000],⟨[(13,Fb)],[]⟩,[(.exit 8,⟨[(13,Fb)],[]⟩)]⟩)],[]⟩
abbrev anx:Q7:=[.vw 1000000 (.st 0),Fb,Fb,Fb,.fn 16 [] []]
abbrev anz:Q7:=[Fb,.d .bool]
abbrev anA:List (Nat×R8):=[SK]
@[irreducible] def Zk:Uh anx anA anz:=TI E R n false (UE n) (acA n) aem Tryz.f114 anx anA anz
def afP:IR R:=Ux 114 anx anA anz (Zk n) (acA n)
theorem aq9:Tf E (afP n):=Uz (acz n) (azk n) (by unfold Zk;rfl) Tryz.func114 (by kernel_rfl)
def afQ:Rs:=⟨[(2,⟨[0,4],[],⟨[(1,Fb),(2,Fb),(3,Fb),(10,.d .bool),(11,.d .bool)],[SK]⟩,[(.ret,⟨[],[SK]⟩)]⟩)],[(10,⟨[0,1,2,4,10,11,12],[],⟨[],[]⟩,[(.normal,⟨[(3,Fb)],[SK]⟩)]⟩),(15,⟨[0,1,2,3,4,10,11,12],[],⟨[],[]⟩,[(.normal,⟨[(13,Fb),(14,Fb)],[SK]⟩)]⟩),(17,⟨[0,1,2,3,4,10,11,12,13],[],⟨[],[]⟩,[(.normal,⟨[],[SK]⟩),(.ret,⟨[],[SK]⟩)]⟩)]⟩
abbrev Yd:Q7:=[.vw 1000000 (.st 0),Fb,Fb,Fb,.fn 16 [] []]
abbrev Z6:Q7:=[]
abbrev Wz:List (Nat×R8):=[SK]
def aaz (n:Nat):Nat->FN R.T Yd->TP R.T Wz->Option (FN R.T Z6×TP R.T Wz)
 |0,_,_=>none|m+1,p,q=>TI E R n false (UE n) (aai 101 ⟨Yd,Wz,Z6,aaz n m⟩ (afP n)) afQ Tryz.f101 Yd Wz Z6 p q
attribute [irreducible] aaz
theorem azl (n m:Nat)(p:FN R.T Yd)(q:TP R.T Wz):aaz n (m+1) p q=TI E R n false (UE n) (aai 101 ⟨Yd,Wz,Z6,aaz n m⟩ (afP n)) afQ Tryz.f101 Yd Wz Z6 p q:=by kernel_rfl
theorem azm (p:FN R.T Yd)(q:TP R.T Wz):aaz n 0 p q=none:=by kernel_rfl
theorem ara (n:Nat):∀m,adb E 101 (⟨Yd,Wz,Z6,aaz n m⟩:FM R)
 |0=>fun p q y q' h=>absurd (((azm n p q).symm.trans h)) nofun
 |m+1=>fun p q y q' h=>ag4 TA (acz n) (ad7 (m:=⟨Yd,Wz,Z6,aaz n m⟩) (aq9 n) (ara n m)) ((azl n m p q).symm.trans h) Tryz.func101 rfl (by kernel_rfl)
@[irreducible] def Za:FN R.T Yd->TP R.T Wz->Option (FN R.T Z6×TP R.T Wz):=aaz n n
theorem azn:adb E 101 (⟨Yd,Wz,Z6,Za n⟩:FM R):=by unfold Za;exact ara n n
def anB:IR R:=aai 101 ⟨Yd,Wz,Z6,Za n⟩ (afP n)
theorem azo:Tf E (anB n):=ad7 (m:=⟨Yd,Wz,Z6,Za n⟩) (aq9 n) (azn n)
def azp:Rs:=⟨[],[]⟩
abbrev anC:Q7:=[.vw 1000000 (.st 0),.fn 16 [] []]
abbrev anD:Q7:=[]
abbrev anE:List (Nat×R8):=[SK]
@[irreducible] def Xg:Uh anC anE anD:=TI E R n false (UE n) (anB n) azp Tryz.f91 anC anE anD
def afR:IR R:=Ux 91 anC anE anD (Xg n) (anB n)
theorem azq:Tf E (afR n):=Uz (acz n) (azo n) (by unfold Xg;rfl) Tryz.func91 (by kernel_rfl)
def anF:Rs:=⟨[(4,⟨[0,1],[],⟨[(5,Fb)],[SK]⟩,[(.exit 0,⟨[],[SK]⟩),(.ret,⟨[(4,.sub 1000000 (.st 0))],[SK]⟩)]⟩),
 (9,⟨[0,1,6],[],⟨[(5,Fb),(7,Fb)],[SK]⟩,[(.exit 2,⟨[(5,Fb)],[SK]⟩)]⟩)],[]⟩
abbrev anG:Q7:=[.vw 1000000 (.st 0),.fn 90 [] []]
abbrev anH:Q7:=[.sub 1000000 (.st 0)]
abbrev anI:List (Nat×R8):=[SK]
@[irreducible] def Zo:Uh anG anI anH:=TI E R n false (UE n) (afR n) anF Tryz.f92 anG anI anH
def aaA:IR R:=Ux 92 anG anI anH (Zo n) (afR n)
theorem abO:Tf E (aaA n):=Uz (acz n) (azq n) (by unfold Zo;rfl) Tryz.func92 (by kernel_rfl)
def azr:Rs:=⟨[],[]⟩
abbrev anJ:Q7:=[SE,.Q9 [Fb,.d .str,Fb,Fb,.d .str,Vo] 0]
abbrev anK:Q7:=[.d .bool]
@[irreducible] def XI:R4 anJ anK:=RD E R n false (UE n) (aaA n) azr Tryz.f93 anJ anK
def ahM:RH:=Sj 93 anJ anK (XI n) (UE n)
theorem azs:Rt E (ahM n):=RX (acz n) (abO n) (by unfold XI;rfl) Tryz.func93 (by kernel_rfl)
def arb:Rs:=⟨[(2,⟨[0,1,7],[],⟨[(8,Fb)],[]⟩,[(.exit 0,⟨[],[]⟩),(.ret,⟨[(4,Fb)],[]⟩)]⟩)],[]⟩
abbrev anL:Q7:=[Vo,.fn 93 [] [.Q9 [Fb,.d .str,Fb,Fb,.d .str,Vo] 0]]
abbrev anM:Q7:=[Fb]
@[irreducible] def ZX:R4 anL anM:=RD E R n false (ahM n) (aaA n) arb Tryz.f98 anL anM
def anN:RH:=Sj 98 anL anM (ZX n) (ahM n)
theorem azt:Rt E (anN n):=RX (azs n) (abO n) (by unfold ZX;rfl) Tryz.func98 (by kernel_rfl)
def azu:Rs:=⟨[],[]⟩
abbrev anO:Q7:=[Vo,.fn 93 [] [.Q9 [Fb,.d .str,Fb,Fb,.d .str,Vo] 0]]
abbrev anP:Q7:=[.d .bool]
@[irreducible] def XA:R4 anO anP:=RD E R n false (anN n) (aaA n) azu Tryz.f84 anO anP
def anQ:RH:=Sj 84 anO anP (XA n) (anN n)
theorem anR:Rt E (anQ n):=RX (azt n) (abO n) (by unfold XA;rfl) Tryz.func84 (by kernel_rfl)
def ard:Rs:=⟨[],[]⟩
abbrev aaB:Q7:=[SE,.d .bool]
abbrev abh:Q7:=[SE]
def anS:Rs:=⟨[(8,⟨[1,4,6,7,8,25,26],[4,7,8],⟨[(9,.vw 41 (.st 0)),(27,Fb)],[(41,.arr (.st 0))]⟩,[(.exit 0,⟨[(9,.vw 41 (.st 0))],[(41,.arr (.st 0))]⟩)]⟩)],[(5,⟨[1,2,4,5],[2,4],⟨[],[]⟩,[(.normal,⟨[(6,Fb)],[]⟩)]⟩)]⟩
abbrev aaC:Q7:=[SE,.d .bool]
abbrev abj:Q7:=[SE]
def Wn:Nat->List Sk
 |0=>aaB|_=>aaC
def U5:Nat->List Sk
 |0=>abh|_=>abj
def azv:Nat->Rs
 |0=>ard|_=>anS
def OX:Nat->Bool
 |0=>false|_=>true
def azw:Nat->Func
 |0=>Tryz.f52|_=>Tryz.f77
def adn (g:(i:Nat)->FN R.T (Wn i)->Option (FN R.T (U5 i))):Nat->List (FR R):=TR 77 ⟨Wn 1,U5 1,g 1,R3 R (U5 1),false⟩ (TR 52 ⟨Wn 0,U5 0,g 0,R3 R (U5 0),false⟩ (anQ n))
def Vg (n:Nat):Nat->(i:Nat)->FN R.T (Wn i)->Option (FN R.T (U5 i))
 |0,_,_=>none|m+1,i,p=>RD E R n (OX i) (adn n (Vg n m)) (aaA n) (azv i) (azw i) (Wn i) (U5 i) p
attribute [irreducible] Vg
theorem arf (n m:Nat)(p:FN R.T aaB):Vg n (m+1) 0 p=RD E R n false (adn n (Vg n m)) (aaA n) ard Tryz.f52 aaB abh p:=by kernel_rfl
theorem arh (n m:Nat)(p:FN R.T aaC):Vg n (m+1) 1 p=RD E R n true (adn n (Vg n m)) (aaA n) anS Tryz.f77 aaC abj p:=by kernel_rfl
theorem ari (p:FN R.T aaB):Vg n 0 0 p=none:=by kernel_rfl
theorem azx (p:FN R.T (Wn 0))(x:FN R.T (U5 0))(h:Vg n 0 0 p=some x):Pure E 52 (Rj R (Wn 0) p) (R9 (Rj R (U5 0) x)):=absurd ((ari n p).symm.trans h) nofun
theorem arj (p:FN R.T aaC):Vg n 0 1 p=none:=by kernel_rfl
theorem azy (p:FN R.T (Wn 1))(x:FN R.T (U5 1))(h:Vg n 0 1 p=some x):Pure E 77 (Rj R (Wn 1) p) (R9 (Rj R (U5 1) x)):=absurd ((arj n p).symm.trans h) nofun
theorem azz (n m:Nat)(hk:Rt E (adn n (Vg n m)))(p:FN R.T (Wn 0))(x:FN R.T (U5 0))(h:Vg n (m+1) 0 p=some x):Pure E 52 (Rj R (Wn 0) p) (R9 (Rj R (U5 0) x)):=
 Uv (args:=aaB) (res:=abh) TA hk (abO n) ((arf n m p).symm.trans h) Tryz.func52 rfl rfl rfl rfl (by kernel_rfl)
theorem azA (n m:Nat)(hk:Rt E (adn n (Vg n m)))(p:FN R.T (Wn 1))(x:FN R.T (U5 1))(h:Vg n (m+1) 1 p=some x):Pure E 77 (Rj R (Wn 1) p) (R9 (Rj R (U5 1) x)):=
 Uv (args:=aaC) (res:=abj) TA hk (abO n) ((arh n m p).symm.trans h) Tryz.func77 rfl rfl rfl rfl (by kernel_rfl)
theorem ahN (n:Nat):∀m,Rt E (adn n (Vg n m))
 |0=>Tc (f:=77) (r:=⟨Wn 1,U5 1,Vg n 0 1,R3 R (U5 1),false⟩) (Tc (f:=52) (r:=⟨Wn 0,U5 0,Vg n 0 0,R3 R (U5 0),false⟩) (anR n) (azx n)) (azy n)|m+1=>Tc (f:=77) (r:=⟨Wn 1,U5 1,Vg n (m+1) 1,R3 R (U5 1),false⟩) (Tc (f:=52) (r:=⟨Wn 0,U5 0,Vg n (m+1) 0,R3 R (U5 0),false⟩) (anR n) (azz n m (ahN n m))) (azA n m (ahN n m))
@[irreducible] def aaD (n m:Nat)(p:FN R.T aaB):Option (FN R.T abh):=Vg n m 0 p
@[irreducible] def Zm (p:FN R.T aaB):Option (FN R.T abh):=aaD n n p
theorem azB (p:FN R.T aaB)(x:FN R.T abh)(h:Zm n p=some x):Pure E 52 (Rj R aaB p) (R9 (Rj R abh x)):=by
 unfold Zm aaD at h;cases n with
 |zero=>exact absurd ((ari 0 p).symm.trans h) nofun|succ n=>exact Uv (args:=aaB) (res:=abh) TA (ahN (n+1) n) (abO (n+1)) ((arf (n+1) n p).symm.trans h) Tryz.func52 rfl rfl rfl rfl (by kernel_rfl)
@[irreducible] def aen (n m:Nat)(p:FN R.T aaC):Option (FN R.T abj):=Vg n m 1 p
@[irreducible] def Zc (p:FN R.T aaC):Option (FN R.T abj):=aen n n p
theorem azC (p:FN R.T aaC)(x:FN R.T abj)(h:Zc n p=some x):Pure E 77 (Rj R aaC p) (R9 (Rj R abj x)):=by
 unfold Zc aen at h;cases n with
 |zero=>exact absurd ((arj 0 p).symm.trans h) nofun|succ n=>exact Uv (args:=aaC) (res:=abj) TA (ahN (n+1) n) (abO (n+1)) ((arh (n+1) n p).symm.trans h) Tryz.func77 rfl rfl rfl rfl (by kernel_rfl)
def ark:RH:=TR 52 ⟨aaB,abh,Zm n,R3 R abh,false⟩ (anQ n)
theorem azD:Rt E (ark n):=Tc (anR n) (azB n)
def anT:RH:=TR 77 ⟨aaC,abj,Zc n,R3 R abj,false⟩ (ark n)
theorem azE:Rt E (anT n):=Tc (azD n) (azC n)
def azF:Rs:=⟨[],[]⟩
abbrev anU:Q7:=[SE]
abbrev anV:Q7:=[SE]
@[irreducible] def XJ:R4 anU anV:=RD E R n false (anT n) (aaA n) azF Tryz.f21 anU anV
def arl:RH:=Sj 21 anU anV (XJ n) (anT n)
theorem azG:Rt E (arl n):=RX (azE n) (abO n) (by unfold XJ;rfl) Tryz.func21 (by kernel_rfl)
def azH:Rs:=⟨[],[]⟩
abbrev ahO:Q7:=[.d (.st 2),SE,SE]
abbrev ahP:Q7:=[.d .bool]
@[irreducible] def XK:R4 ahO ahP:=RD E R n false (arl n) (aaA n) azH Tryz.f9 ahO ahP
theorem azI (p:FN R.T ahO)(x:FN R.T ahP)(h:XK n p=some x):Pure E 9 (Rj R ahO p) (R9 (Rj R ahP x)):=by unfold XK at h;exact Uv TA (azG n) (abO n) h Tryz.func9 rfl rfl rfl rfl (by kernel_rfl)
end Sh
