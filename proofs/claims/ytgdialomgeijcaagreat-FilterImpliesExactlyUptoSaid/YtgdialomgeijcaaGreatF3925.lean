import Derived.Test.YtgdialomgeijcaaGreatF3924
set_option linter.all false
noncomputable section
open Go Go.Proofs Aq
namespace Sh
set_option maxRecDepth 100000
variable (n:Nat)
def ahB:Rt:=⟨[(2,⟨[1,2],[2],⟨[(5,Q0)],[]⟩,[(.exit 0,⟨[],[]⟩),(.ret,⟨[(4,.d .bool)],[]⟩)]⟩),
 (8,⟨[1,2,5,6],[2,6],⟨[(7,Q0)],[]⟩,[(.exit 2,⟨[],[]⟩),(.ret,⟨[(4,.d .bool)],[]⟩)]⟩)],[]⟩
abbrev ahC:Q7:=[.d (.st 2),Q0]
abbrev ahD:Q7:=[.d .bool]
@[irreducible] def Zi:Si ahC ahD:=RI E R n false (adB n) Rw ahB Tryz.f46 ahC ahD
def ahE:RL:=Sm 46 ahC ahD (Zi n) (adB n)
theorem arY:Ro E (ahE n):=RY (arC n) RZ (by unfold Zi;rfl) Tryz.func46 (by kernel_rfl)
def arZ:Rt:=⟨[],[]⟩
abbrev ahF:Q7:=[Q0]
abbrev ahG:Q7:=[.d .bool]
@[irreducible] def Xq:Si ahF ahG:=RI E R n false (ahE n) Rw arZ Tryz.f73 ahF ahG
def afv:RL:=Sm 73 ahF ahG (Xq n) (ahE n)
theorem ar0:Ro E (afv n):=RY (arY n) RZ (by unfold Xq;rfl) Tryz.func73 (by kernel_rfl)
def amQ:Rt:=⟨[(2,⟨[0,1],[],⟨[(5,Q0)],[]⟩,[(.exit 0,⟨[],[]⟩),(.ret,⟨[(4,.d .bool)],[]⟩)]⟩)],[]⟩
abbrev ahH:Q7:=[.d (.slice .str),.d .str]
abbrev ahI:Q7:=[.d .bool]
@[irreducible] def ZC:Si ahH ahI:=RI E R n false (afv n) Rw amQ Tryz.f83 ahH ahI
def afw:RL:=Sm 83 ahH ahI (ZC n) (afv n)
theorem ar1:Ro E (afw n):=RY (ar0 n) RZ (by unfold ZC;rfl) Tryz.func83 (by kernel_rfl)
def amR:Rt:=⟨[(2,⟨[0],[],⟨[(3,Q0)],[]⟩,[(.exit 0,⟨[],[]⟩),(.ret,⟨[(2,.d .bool)],[]⟩)]⟩)],[]⟩
abbrev ahJ:Q7:=[.d .str]
abbrev ahK:Q7:=[.d .bool]
@[irreducible] def Zx:Si ahJ ahK:=RI E R n false (afw n) Rw amR Tryz.f87 ahJ ahK
def adI:RL:=Sm 87 ahJ ahK (Zx n) (afw n)
theorem ar2:Ro E (adI n):=RY (ar1 n) RZ (by unfold Zx;rfl) Tryz.func87 (by kernel_rfl)
def ahL:Rt:=⟨[(4,⟨[0],[],⟨[(3,Q0)],[]⟩,[(.exit 0,⟨[],[]⟩),(.ret,⟨[(2,Q0)],[]⟩)]⟩),
 (9,⟨[0],[],⟨[(4,Q0)],[]⟩,[(.exit 2,⟨[],[]⟩),(.ret,⟨[(2,Q0)],[]⟩)]⟩)],[]⟩
abbrev ahM:Q7:=[.d (.slice .str)]
abbrev ahN:Q7:=[Q0]
@[irreducible] def Zf:Si ahM ahN:=RI E R n false (adI n) Rw ahL Tryz.f88 ahM ahN
def ahO:RL:=Sm 88 ahM ahN (Zf n) (adI n)
theorem ar3:Ro E (ahO n):=RY (ar2 n) RZ (by unfold Zf;rfl) Tryz.func88 (by kernel_rfl)
def ar4:Rt:=⟨[],[]⟩
abbrev ahP:Q7:=[.d (.st 1),.d .str]
abbrev ahQ:Q7:=[Q0]
@[irreducible] def Xa:Si ahP ahQ:=RI E R n false (ahO n) Rw ar4 Tryz.f74 ahP ahQ
def afx:RL:=Sm 74 ahP ahQ (Xa n) (ahO n)
theorem ar5:Ro E (afx n):=RY (ar3 n) RZ (by unfold Xa;rfl) Tryz.func74 (by kernel_rfl)
def amS:Rt:=⟨[(7,⟨[1],[1],⟨[(3,.d .str),(4,Q0)],[]⟩,[(.exit 0,⟨[],[]⟩),(.ret,⟨[(2,Q0)],[]⟩)]⟩)],[]⟩
abbrev ahR:Q7:=[.d (.st 2)]
abbrev ahS:Q7:=[Q0]
@[irreducible] def Zp:Si ahR ahS:=RI E R n false (afx n) Rw amS Tryz.f47 ahR ahS
def ahT:RL:=Sm 47 ahR ahS (Zp n) (afx n)
theorem ar6:Ro E (ahT n):=RY (ar5 n) RZ (by unfold Zp;rfl) Tryz.func47 (by kernel_rfl)
def ar7:Rt:=⟨[],[]⟩
abbrev ahU:Q7:=[.d (.st 2)]
abbrev ahV:Q7:=[.d .bool]
@[irreducible] def Xd:Si ahU ahV:=RI E R n false (ahT n) Rw ar7 Tryz.f18 ahU ahV
def ahW:RL:=Sm 18 ahU ahV (Xd n) (ahT n)
theorem ahX:Ro E (ahW n):=RY (ar6 n) RZ (by unfold Xd;rfl) Tryz.func18 (by kernel_rfl)
def ahY:Rt:=⟨[(3,⟨[1],[1],⟨[(3,.l (.own 26) (.st 0)),(4,Q0)],[]⟩,[(.exit 0,⟨[(3,.l (.own 26) (.st 0))],[]⟩)]⟩)],[]⟩
abbrev Yi:Q7:=[Tj]
abbrev YU:Q7:=[YE]
def YV:Nat->List Sk
 |_=>Yi
def WR:Nat->List Sk
 |_=>YU
def ar8:Nat->Rt
 |_=>ahY
def ar9:Nat->Func
 |_=>Tryz.f39
def adJ (g:(i:Nat)->Lv R.T (YV i)->Option (Lv R.T (WR i))):Nat->List (FR R):=Uu 39 ⟨YV 0,WR 0,g 0,SF R (WR 0),false⟩ (ahW n)
def WS (n:Nat):Nat->(i:Nat)->Lv R.T (YV i)->Option (Lv R.T (WR i))
 |0,_,_=>none|m+1,i,p=>RI E R n false (adJ n (WS n m)) Rw (ar8 i) (ar9 i) (YV i) (WR i) p
attribute [irreducible] WS
theorem amT (n m:Nat)(p:Lv R.T Yi):WS n (m+1) 0 p=RI E R n false (adJ n (WS n m)) Rw ahY Tryz.f39 Yi YU p:=by kernel_rfl
theorem amU (p:Lv R.T Yi):WS n 0 0 p=none:=by kernel_rfl
theorem asa (p:Lv R.T (YV 0))(x:Lv R.T (WR 0))(h:WS n 0 0 p=some x):Pure E 39 (Rj R (YV 0) p) (SB (Rj R (WR 0) x)):=absurd ((amU n p).symm.trans h) nofun
theorem asb (n m:Nat)(hk:Ro E (adJ n (WS n m)))(p:Lv R.T (YV 0))(x:Lv R.T (WR 0))(h:WS n (m+1) 0 p=some x):Pure E 39 (Rj R (YV 0) p) (SB (Rj R (WR 0) x)):=
 UW (args:=Yi) (res:=YU) Ub hk RZ ((amT n m p).symm.trans h) Tryz.func39 rfl rfl rfl rfl (by kernel_rfl)
theorem amV (n:Nat):∀m,Ro E (adJ n (WS n m))
 |0=>TH (f:=39) (r:=⟨YV 0,WR 0,WS n 0 0,SF R (WR 0),false⟩) (ahX n) (asa n)|m+1=>TH (f:=39) (r:=⟨YV 0,WR 0,WS n (m+1) 0,SF R (WR 0),false⟩) (ahX n) (asb n m (amV n m))
@[irreducible] def acE (n m:Nat)(p:Lv R.T Yi):Option (Lv R.T YU):=WS n m 0 p
@[irreducible] def Za (p:Lv R.T Yi):Option (Lv R.T YU):=acE n n p
theorem ase (p:Lv R.T Yi)(x:Lv R.T YU)(h:Za n p=some x):Pure E 39 (Rj R Yi p) (SB (Rj R YU x)):=by
 unfold Za acE at h;cases n with
 |zero=>exact absurd ((amU 0 p).symm.trans h) nofun|succ n=>exact UW (args:=Yi) (res:=YU) Ub (amV (n+1) n) RZ ((amT (n+1) n p).symm.trans h) Tryz.func39 rfl rfl rfl rfl (by kernel_rfl)
def ahZ:RL:=Uu 39 ⟨Yi,YU,Za n,SF R YU,false⟩ (ahW n)
theorem asf:Ro E (ahZ n):=TH (ahX n) (ase n)
def asg:Rt:=⟨[],[]⟩
abbrev ah0:Q7:=[Tj]
abbrev ah1:Q7:=[Q0]
@[irreducible] def ZX:Si ah0 ah1:=RI E R n false (ahZ n) Rw asg Tryz.f15 ah0 ah1
def ah2:RL:=Sm 15 ah0 ah1 (ZX n) (ahZ n)
theorem ah3:Ro E (ah2 n):=RY (asf n) RZ (by unfold ZX;rfl) Tryz.func15 (by kernel_rfl)
def ah4:Rt:=⟨[(4,⟨[1,2],[2],⟨[(5,Q0)],[]⟩,[(.exit 0,⟨[],[]⟩),(.ret,⟨[(4,.d .bool)],[]⟩)]⟩)],[]⟩
abbrev Yj:Q7:=[Tj,Q0]
abbrev YX:Q7:=[.d .bool]
def YZ:Nat->List Sk
 |_=>Yj
def WT:Nat->List Sk
 |_=>YX
def ash:Nat->Rt
 |_=>ah4
def asi:Nat->Func
 |_=>Tryz.f10
def adK (g:(i:Nat)->Lv R.T (YZ i)->Option (Lv R.T (WT i))):Nat->List (FR R):=Uu 10 ⟨YZ 0,WT 0,g 0,SF R (WT 0),false⟩ (ah2 n)
def WU (n:Nat):Nat->(i:Nat)->Lv R.T (YZ i)->Option (Lv R.T (WT i))
 |0,_,_=>none|m+1,i,p=>RI E R n false (adK n (WU n m)) Rw (ash i) (asi i) (YZ i) (WT i) p
attribute [irreducible] WU
theorem amW (n m:Nat)(p:Lv R.T Yj):WU n (m+1) 0 p=RI E R n false (adK n (WU n m)) Rw ah4 Tryz.f10 Yj YX p:=by kernel_rfl
theorem amX (p:Lv R.T Yj):WU n 0 0 p=none:=by kernel_rfl
theorem asj (p:Lv R.T (YZ 0))(x:Lv R.T (WT 0))(h:WU n 0 0 p=some x):Pure E 10 (Rj R (YZ 0) p) (SB (Rj R (WT 0) x)):=absurd ((amX n p).symm.trans h) nofun
theorem asl (n m:Nat)(hk:Ro E (adK n (WU n m)))(p:Lv R.T (YZ 0))(x:Lv R.T (WT 0))(h:WU n (m+1) 0 p=some x):Pure E 10 (Rj R (YZ 0) p) (SB (Rj R (WT 0) x)):=
 UW (args:=Yj) (res:=YX) Ub hk RZ ((amW n m p).symm.trans h) Tryz.func10 rfl rfl rfl rfl (by kernel_rfl)
theorem amY (n:Nat):∀m,Ro E (adK n (WU n m))
 |0=>TH (f:=10) (r:=⟨YZ 0,WT 0,WU n 0 0,SF R (WT 0),false⟩) (ah3 n) (asj n)|m+1=>TH (f:=10) (r:=⟨YZ 0,WT 0,WU n (m+1) 0,SF R (WT 0),false⟩) (ah3 n) (asl n m (amY n m))
@[irreducible] def abH (n m:Nat)(p:Lv R.T Yj):Option (Lv R.T YX):=WU n m 0 p
@[irreducible] def QQ (p:Lv R.T Yj):Option (Lv R.T YX):=abH n n p
theorem asn (p:Lv R.T Yj)(x:Lv R.T YX)(h:QQ n p=some x):Pure E 10 (Rj R Yj p) (SB (Rj R YX x)):=by
 unfold QQ abH at h;cases n with
 |zero=>exact absurd ((amX 0 p).symm.trans h) nofun|succ n=>exact UW (args:=Yj) (res:=YX) Ub (amY (n+1) n) RZ ((amW (n+1) n p).symm.trans h) Tryz.func10 rfl rfl rfl rfl (by kernel_rfl)
def ah5:RL:=Uu 10 ⟨Yj,YX,QQ n,SF R YX,false⟩ (ah2 n)
theorem aso:Ro E (ah5 n):=TH (ah3 n) (asn n)
def asq:Rt:=⟨[],[]⟩
abbrev ah6:Q7:=[Tj,Tj]
abbrev ah7:Q7:=[Tj]
@[irreducible] def Xv:Si ah6 ah7:=RI E R n false (ah5 n) Rw asq Tryz.f33 ah6 ah7
def afy:RL:=Sm 33 ah6 ah7 (Xv n) (ah5 n)
theorem asr:Ro E (afy n):=RY (aso n) RZ (by unfold Xv;rfl) Tryz.func33 (by kernel_rfl)
def amZ:Rt:=⟨[(2,⟨[0,1],[],⟨[(5,Q0)],[]⟩,[(.exit 0,⟨[],[]⟩),(.ret,⟨[(4,.d .bool)],[]⟩)]⟩)],[]⟩
abbrev ah8:Q7:=[YE,.d .str]
abbrev ah9:Q7:=[.d .bool]
@[irreducible] def ZL:Si ah8 ah9:=RI E R n false (afy n) Rw amZ Tryz.f79 ah8 ah9
def afz:RL:=Sm 79 ah8 ah9 (ZL n) (afy n)
theorem asu:Ro E (afz n):=RY (asr n) RZ (by unfold ZL;rfl) Tryz.func79 (by kernel_rfl)
def am0:Rt:=⟨[(2,⟨[0,1,2,3],[],⟨[(9,Q0)],[]⟩,[(.exit 0,⟨[],[]⟩),(.ret,⟨[(8,.d .bool)],[]⟩)]⟩)],[]⟩
abbrev aia:Q7:=[YE,.d .str,Q0,Q0]
abbrev aib:Q7:=[.d .bool]
@[irreducible] def ZJ:Si aia aib:=RI E R n false (afz n) Rw am0 Tryz.f96 aia aib
def abI:RL:=Sm 96 aia aib (ZJ n) (afz n)
theorem asw:Ro E (abI n):=RY (asu n) RZ (by unfold ZJ;rfl) Tryz.func96 (by kernel_rfl)
def adL:Rt:=⟨[(5,⟨[1,2],[],⟨[(5,.l (.own 81) (.st 6)),(6,.d .bool),(7,Q0)],[]⟩,[(.exit 0,⟨[(5,.l (.own 81) (.st 6))],[]⟩)]⟩),
 (9,⟨[1,2,6,7],[],⟨[(5,.l (.own 81) (.st 6)),(8,.d .bool),(9,Q0)],[]⟩,[(.exit 2,⟨[(5,.l (.own 81) (.st 6)),(8,.d .bool)],[]⟩)]⟩),
 (18,⟨[1,2],[],⟨[(5,.l (.own 99) (.st 6)),(10,Q0)],[]⟩,[(.ret,⟨[(4,.l (.own 99) (.st 6))],[]⟩)]⟩),
 (20,⟨[1,2,10],[],⟨[(5,.l (.own 99) (.st 6)),(11,Q0),(12,Q0)],[]⟩,[(.exit 6,⟨[(5,.l (.own 99) (.st 6)),(11,Q0)],[]⟩)]⟩)],[]⟩
abbrev aic:Q7:=[.d (.st 1),YE]
abbrev aie:Q7:=[.d (.slice (.st 6))]
@[irreducible] def QP:Si aic aie:=RI E R n false (abI n) Rw adL Tryz.f80 aic aie
def afA:RL:=Sm 80 aic aie (QP n) (abI n)
theorem asx:Ro E (afA n):=RY (asw n) RZ (by unfold QP;rfl) Tryz.func80 (by kernel_rfl)
def am1:Rt:=⟨[(4,⟨[2,5],[2],⟨[(6,.l (.own 36) (.slice (.st 6))),(7,Q0)],[]⟩,[(.exit 0,⟨[(6,.l (.own 36) (.slice (.st 6)))],[]⟩)]⟩)],[]⟩
abbrev aif:Q7:=[.d (.st 2),Tj]
abbrev aii:Q7:=[.d (.slice (.slice (.st 6)))]
@[irreducible] def ZF:Si aif aii:=RI E R n false (afA n) Rw am1 Tryz.f57 aif aii
def afB:RL:=Sm 57 aif aii (ZF n) (afA n)
theorem asy:Ro E (afB n):=RY (asx n) RZ (by unfold ZF;rfl) Tryz.func57 (by kernel_rfl)
def am2:Rt:=⟨[(4,⟨[5],[],⟨[(6,Q0),(7,Q0)],[]⟩,[(.exit 0,⟨[(6,Q0)],[]⟩),(.ret,⟨[(4,Q0)],[]⟩)]⟩)],[]⟩
abbrev aij:Q7:=[.d (.st 2),Tj]
abbrev aik:Q7:=[Q0]
@[irreducible] def ZM:Si aij aik:=RI E R n false (afB n) Rw am2 Tryz.f24 aij aik
def ail:RL:=Sm 24 aij aik (ZM n) (afB n)
theorem asz:Ro E (ail n):=RY (asy n) RZ (by unfold ZM;rfl) Tryz.func24 (by kernel_rfl)
def asA:Rt:=⟨[],[]⟩
abbrev ain:Q7:=[.d (.st 2),Tj,Tj]
abbrev aio:Q7:=[.d .bool]
@[irreducible] def Xr:Si ain aio:=RI E R n false (ail n) Rw asA Tryz.f25 ain aio
def afC:RL:=Sm 25 ain aio (Xr n) (ail n)
theorem asB:Ro E (afC n):=RY (asz n) RZ (by unfold Xr;rfl) Tryz.func25 (by kernel_rfl)
def am3:Rt:=⟨[(2,⟨[1,2],[2],⟨[(5,Q0)],[]⟩,[(.exit 0,⟨[],[]⟩),(.ret,⟨[(4,Q0)],[]⟩)]⟩)],[]⟩
abbrev aip:Q7:=[.d (.st 2),.d .str]
abbrev aiq:Q7:=[Q0]
@[irreducible] def ZG:Si aip aiq:=RI E R n false (afC n) Rw am3 Tryz.f51 aip aiq
def air:RL:=Sm 51 aip aiq (ZG n) (afC n)
theorem asC:Ro E (air n):=RY (asB n) RZ (by unfold ZG;rfl) Tryz.func51 (by kernel_rfl)
def asD:Rt:=⟨[],[]⟩
abbrev ais:Q7:=[.d (.st 1),.d (.st 3)]
abbrev ait:Q7:=[Q0]
@[irreducible] def Xe:Si ais ait:=RI E R n false (air n) Rw asD Tryz.f61 ais ait
def afD:RL:=Sm 61 ais ait (Xe n) (air n)
theorem asE:Ro E (afD n):=RY (asC n) RZ (by unfold Xe;rfl) Tryz.func61 (by kernel_rfl)
def am4:Rt:=⟨[(2,⟨[1,2],[2],⟨[(5,Q0)],[]⟩,[(.exit 0,⟨[],[]⟩),(.ret,⟨[(4,Q0)],[]⟩)]⟩)],[]⟩
abbrev aiu:Q7:=[.d (.st 2),.d (.slice (.st 3))]
abbrev aiv:Q7:=[Q0]
@[irreducible] def Zy:Si aiu aiv:=RI E R n false (afD n) Rw am4 Tryz.f32 aiu aiv
def am5:RL:=Sm 32 aiu aiv (Zy n) (afD n)
theorem asF:Ro E (am5 n):=RY (asE n) RZ (by unfold Zy;rfl) Tryz.func32 (by kernel_rfl)
abbrev adM:Q7:=[]
abbrev adN:Q7:=[.d .bool]
@[irreducible] def Xc (n:Nat)(p:Lv R.T adM):Option (Lv R.T adN):=some true
theorem asG (p:Lv R.T adM):Xc n p=some true:=by unfold Xc;rfl
theorem asH (p:Lv R.T adM)(x:Lv R.T adN)(h:Xc n p=some x):Pure E 11 (Rj R adM p) (SB (Rj R adN x)):=by unfold Xc at h;exact aqc p x h
def aiw:RL:=Uu 11 ⟨adM,adN,Xc n,SF R adN,false⟩ (am5 n)
theorem asI:Ro E (aiw n):=TH (asF n) (asH n)
def asJ:Rt:=⟨[],[]⟩
abbrev aix:Q7:=[Tj]
abbrev aiy:Q7:=[.fn 69 [] [.Q5 [Q0,.d .str,Q0,Q0,.d .str,YE] 0]]
@[irreducible] def ZT:Si aix aiy:=RI E R n false (aiw n) Rw asJ Tryz.f38 aix aiy
def afE:RL:=Sm 38 aix aiy (ZT n) (aiw n)
theorem asK:Ro E (afE n):=RY (asI n) RZ (by unfold ZT;rfl) Tryz.func38 (by kernel_rfl)
def afF:Rt:=⟨[(3,⟨[3],[],⟨[],[(3,.cells [Q0])]⟩,[(.normal,⟨[],[(3,.cells [Q0])]⟩),(.exit 0,⟨[],[(3,.cells [Q0])]⟩)]⟩)],[]⟩
abbrev aiz:Q7:=[Tj]
abbrev aiA:Q7:=[Q0]
@[irreducible] def Zz:Si aiz aiA:=RI E R n false (afE n) Rw afF Tryz.f14 aiz aiA
def aiB:RL:=Sm 14 aiz aiA (Zz n) (afE n)
theorem asL:Ro E (aiB n):=RY (asK n) RZ (by unfold Zz;rfl) Tryz.func14 (by kernel_rfl)
def asM:Rt:=⟨[],[]⟩
abbrev aiC:Q7:=[Tj]
abbrev aiD:Q7:=[.d .bool]
@[irreducible] def Xf:Si aiC aiD:=RI E R n false (aiB n) Rw asM Tryz.f48 aiC aiD
def aiE:RL:=Sm 48 aiC aiD (Xf n) (aiB n)
theorem asN:Ro E (aiE n):=RY (asL n) RZ (by unfold Xf;rfl) Tryz.func48 (by kernel_rfl)
def asO:Rt:=⟨[],[]⟩
abbrev aiF:Q7:=[.d (.st 1),.Q5 [.d .str] 0]
abbrev aiG:Q7:=[.d .bool]
@[irreducible] def Xw:Si aiF aiG:=RI E R n false (aiE n) Rw asO Tryz.f76 aiF aiG
def afG:RL:=Sm 76 aiF aiG (Xw n) (aiE n)
theorem asP:Ro E (afG n):=RY (asN n) RZ (by unfold Xw;rfl) Tryz.func76 (by kernel_rfl)
def am6:Rt:=⟨[(2,⟨[0,1,7],[],⟨[(8,Q0)],[]⟩,[(.exit 0,⟨[],[]⟩),(.ret,⟨[(4,Q0)],[]⟩)]⟩)],[]⟩
abbrev aiH:Q7:=[.d (.slice (.st 1)),.fn 76 [] [.Q5 [.d .str] 0]]
abbrev aiI:Q7:=[Q0]
@[irreducible] def ZP:Si aiH aiI:=RI E R n false (afG n) Rw am6 Tryz.f75 aiH aiI
def aiJ:RL:=Sm 75 aiH aiI (ZP n) (afG n)
theorem asQ:Ro E (aiJ n):=RY (asP n) RZ (by unfold ZP;rfl) Tryz.func75 (by kernel_rfl)
def asR:Rt:=⟨[],[]⟩
abbrev aiK:Q7:=[.d (.st 2),.d .str]
abbrev aiL:Q7:=[.d (.st 1),.d .bool]
@[irreducible] def Xg:Si aiK aiL:=RI E R n false (aiJ n) Rw asR Tryz.f49 aiK aiL
def afH:RL:=Sm 49 aiK aiL (Xg n) (aiJ n)
theorem asS:Ro E (afH n):=RY (asQ n) RZ (by unfold Xg;rfl) Tryz.func49 (by kernel_rfl)
def afI:Rt:=⟨[(5,⟨[2,4],[2],⟨[],[(4,.cells [Q0])]⟩,[(.normal,⟨[],[(4,.cells [Q0])]⟩),(.ret,⟨[],[(4,.cells [Q0])]⟩)]⟩)],[]⟩
abbrev aiM:Q7:=[.d (.st 2),Tj]
abbrev aiN:Q7:=[Q0]
@[irreducible] def Zm:Si aiM aiN:=RI E R n false (afH n) Rw afI Tryz.f19 aiM aiN
def aiO:RL:=Sm 19 aiM aiN (Zm n) (afH n)
theorem asT:Ro E (aiO n):=RY (asS n) RZ (by unfold Zm;rfl) Tryz.func19 (by kernel_rfl)
def asU:Rt:=⟨[],[]⟩
abbrev aiP:Q7:=[Tj]
abbrev aiQ:Q7:=[Tj]
@[irreducible] def Xs:Si aiP aiQ:=RI E R n false (aiO n) Rw asU Tryz.f59 aiP aiQ
def aiR:RL:=Sm 59 aiP aiQ (Xs n) (aiO n)
theorem asV:Ro E (aiR n):=RY (asT n) RZ (by unfold Xs;rfl) Tryz.func59 (by kernel_rfl)
def asX:Rt:=⟨[],[]⟩
abbrev aiS:Q7:=[.d (.int .u32)]
abbrev aiT:Q7:=[Q0]
@[irreducible] def XA:Si aiS aiT:=RI E R n false (aiR n) Rw asX Tryz.f115 aiS aiT
def aiU:RL:=Sm 115 aiS aiT (XA n) (aiR n)
theorem asY:Ro E (aiU n):=RY (asV n) RZ (by unfold XA;rfl) Tryz.func115 (by kernel_rfl)
def asZ:Rt:=⟨[],[]⟩
abbrev aiV:Q7:=[.d (.int .u64)]
abbrev aiW:Q7:=[Q0]
@[irreducible] def Xk:Si aiV aiW:=RI E R n false (aiU n) Rw asZ Tryz.f116 aiV aiW
def aiX:RL:=Sm 116 aiV aiW (Xk n) (aiU n)
theorem as0:Ro E (aiX n):=RY (asY n) RZ (by unfold Xk;rfl) Tryz.func116 (by kernel_rfl)
def as1:Rt:=⟨[],[]⟩
abbrev aiY:Q7:=[.d (.int .u64)]
abbrev aiZ:Q7:=[Q0]
@[irreducible] def ZY:Si aiY aiZ:=RI E R n false (aiX n) Rw as1 Tryz.f102 aiY aiZ
def ai0:RL:=Sm 102 aiY aiZ (ZY n) (aiX n)
theorem as2:Ro E (ai0 n):=RY (as0 n) RZ (by unfold ZY;rfl) Tryz.func102 (by kernel_rfl)
def as3:Rt:=⟨[],[]⟩
abbrev ai1:Q7:=[Q0]
abbrev ai2:Q7:=[.d .bool]
@[irreducible] def Xl:Si ai1 ai2:=RI E R n false (ai0 n) Rw as3 Tryz.f71 ai1 ai2
def ai3:RL:=Sm 71 ai1 ai2 (Xl n) (ai0 n)
theorem as4:Ro E (ai3 n):=RY (as2 n) RZ (by unfold Xl;rfl) Tryz.func71 (by kernel_rfl)
def as5:Rt:=⟨[],[]⟩
abbrev ai4:Q7:=[Q0,Q0]
abbrev ai5:Q7:=[.d .bool]
@[irreducible] def Xt:Si ai4 ai5:=RI E R n false (ai3 n) Rw as5 Tryz.f133 ai4 ai5
def Yk:RL:=Sm 133 ai4 ai5 (Xt n) (ai3 n)
theorem afJ:Ro E (Yk n):=RY (as4 n) RZ (by unfold Xt;rfl) Tryz.func133 (by kernel_rfl)
def ai6:Rt:=⟨[(1,⟨[0,1,2],[],⟨[(6,Q0)],[R8]⟩,[(.exit 0,⟨[],[R8]⟩)]⟩),
 (4,⟨[0,1,2,6],[],⟨[(7,Q0)],[R8]⟩,[(.exit 2,⟨[],[R8]⟩)]⟩)],[]⟩
abbrev adO:Q7:=[.vw 1000000 (.int .i64),Q0,Q0]
abbrev adP:Q7:=[]
abbrev adQ:List (Nat×Sz):=[R8]
@[irreducible] def Zt:Vs adO adQ adP:=UR E R n false (Yk n) Rw ai6 Tryz.f127 adO adQ adP
theorem as6:adk E 127 (⟨adO,adQ,adP,Zt n⟩:FM R):=by intro p q y q' h;have h:Zt n p q=some (y,q'):=h;unfold Zt at h;exact agx Ub (afJ n) RZ h Tryz.func127 rfl (by kernel_rfl)
def afK:IR R:=abE 127 ⟨adO,adQ,adP,Zt n⟩ Rw
theorem as7:TW E (afK n):=afa (m:=⟨adO,adQ,adP,Zt n⟩) RZ (as6 n)
def am7:Rt:=⟨[(1,⟨[0,2,3],[],⟨[(8,Q0)],[R8]⟩,[(.exit 0,⟨[],[R8]⟩),(.ret,⟨[],[R8]⟩)]⟩)],[(5,⟨[0,2,3,8],[1000000],⟨[],[]⟩,[(.normal,⟨[(9,Q0)],[]⟩)]⟩)]⟩
abbrev ai7:Q7:=[.vw 1000000 (.int .i64),Q0,Q0,Q0]
abbrev ai8:Q7:=[]
abbrev ai9:List (Nat×Sz):=[R8]
@[irreducible] def ZN:Vs ai7 ai9 ai8:=UR E R n false (Yk n) (afK n) am7 Tryz.f137 ai7 ai9 ai8
def adR:IR R:=VP 137 ai7 ai9 ai8 (ZN n) (afK n)
theorem as8:TW E (adR n):=Wn (afJ n) (as7 n) (by unfold ZN;rfl) Tryz.func137 (by kernel_rfl)
def aja:Rt:=⟨[(4,⟨[0,6,7,8],[],⟨[(9,Q0)],[R8]⟩,[(.exit 0,⟨[],[R8]⟩)]⟩),
 (8,⟨[0,6,7],[],⟨[(10,Q0)],[R8]⟩,[(.exit 2,⟨[],[R8]⟩)]⟩)],[]⟩
abbrev ajb:Q7:=[.vw 1000000 (.int .i64),Q0,Q0]
abbrev ajc:Q7:=[]
abbrev ajd:List (Nat×Sz):=[R8]
@[irreducible] def ZA:Vs ajb ajd ajc:=UR E R n false (Yk n) (adR n) aja Tryz.f128 ajb ajd ajc
def afL:IR R:=VP 128 ajb ajd ajc (ZA n) (adR n)
theorem am8:TW E (afL n):=Wn (afJ n) (as8 n) (by unfold ZA;rfl) Tryz.func128 (by kernel_rfl)
def as9:Rt:=⟨[],[]⟩
abbrev aje:Q7:=[Q0]
abbrev ajf:Q7:=[.d (.int .u64)]
@[irreducible] def Xh:Si aje ajf:=RI E R n false (Yk n) (afL n) as9 Tryz.f123 aje ajf
def aas:RL:=Sm 123 aje ajf (Xh n) (Yk n)
theorem acF:Ro E (aas n):=RY (afJ n) (am8 n) (by unfold Xh;rfl) Tryz.func123 (by kernel_rfl)
def ata:Rt:=⟨[],[]⟩
abbrev ajg:Q7:=[.ref 1000000 0]
abbrev ajh:Q7:=[.d (.int .u64)]
abbrev aji:List (Nat×Sz):=[(1000000,.cells [.d (.int .u64)])]
@[irreducible] def ZR:Vs ajg aji ajh:=UR E R n false (aas n) (afL n) ata Tryz.f124 ajg aji ajh
def afM:IR R:=VP 124 ajg aji ajh (ZR n) (afL n)
theorem atb:TW E (afM n):=Wn (acF n) (am8 n) (by unfold ZR;rfl) Tryz.func124 (by kernel_rfl)
def am9:Rt:=⟨[(5,⟨[0,1,6,7,8],[],⟨[(9,Q0)],[(7,.cells [.d (.int .u64)]),R8]⟩,[(.exit 0,⟨[],[R8]⟩)]⟩)],[(10,⟨[0,1,6,7,8,9],[7,1000000],⟨[],[]⟩,[(.normal,⟨[(10,Q0)],[]⟩)]⟩)]⟩
abbrev ajj:Q7:=[.vw 1000000 (.int .i64),Q0,Q0]
abbrev ajk:Q7:=[]
abbrev ajl:List (Nat×Sz):=[R8]
@[irreducible] def ZK:Vs ajj ajl ajk:=UR E R n false (aas n) (afM n) am9 Tryz.f129 ajj ajl ajk
def ajm:IR R:=VP 129 ajj ajl ajk (ZK n) (afM n)
theorem atc:TW E (ajm n):=Wn (acF n) (atb n) (by unfold ZK;rfl) Tryz.func129 (by kernel_rfl)
def atd:Rt:=⟨[],[]⟩
abbrev ajn:Q7:=[.d (.slice (.int .i64)),Q0,Q0,.ref 1000000 0]
abbrev ajo:Q7:=[Q0,Q0]
abbrev ajp:List (Nat×Sz):=[(1000000,.cells [Q0])]
@[irreducible] def ZU:Vs ajn ajp ajo:=UR E R n false (aas n) (ajm n) atd Tryz.f140 ajn ajp ajo
def ajq:IR R:=VP 140 ajn ajp ajo (ZU n) (ajm n)
theorem ate:TW E (ajq n):=Wn (acF n) (atc n) (by unfold ZU;rfl) Tryz.func140 (by kernel_rfl)
def atf:Rt:=⟨[],[]⟩
abbrev ajr:Q7:=[.d (.slice (.int .i64)),Q0,Q0,Q0,.ref 1000000 0]
abbrev ajs:Q7:=[Q0]
abbrev ajt:List (Nat×Sz):=[(1000000,.cells [Q0])]
@[irreducible] def ZV:Vs ajr ajt ajs:=UR E R n false (aas n) (ajq n) atf Tryz.f139 ajr ajt ajs
def aju:IR R:=VP 139 ajr ajt ajs (ZV n) (ajq n)
theorem atg:TW E (aju n):=Wn (acF n) (ate n) (by unfold ZV;rfl) Tryz.func139 (by kernel_rfl)
def ath:Rt:=⟨[],[]⟩
abbrev ajv:Q7:=[.d (.slice (.int .i64)),Q0,.ref 1000000 0]
abbrev ajw:Q7:=[Q0]
abbrev ajx:List (Nat×Sz):=[(1000000,.cells [Q0])]
@[irreducible] def ZW:Vs ajv ajx ajw:=UR E R n false (aas n) (aju n) ath Tryz.f138 ajv ajx ajw
def adS:IR R:=VP 138 ajv ajx ajw (ZW n) (aju n)
theorem ana:TW E (adS n):=Wn (acF n) (atg n) (by unfold ZW;rfl) Tryz.func138 (by kernel_rfl)
def ati:Rt:=⟨[],[]⟩
abbrev ajy:Q7:=[.d (.slice (.int .i64)),Q0,Q0]
abbrev ajz:Q7:=[Q0,Q0]
@[irreducible] def Xx:Si ajy ajz:=RI E R n false (aas n) (adS n) ati Tryz.f130 ajy ajz
def Ui:RL:=Sm 130 ajy ajz (Xx n) (aas n)
theorem aaY:Ro E (Ui n):=RY (acF n) (ana n) (by unfold Xx;rfl) Tryz.func130 (by kernel_rfl)
def anb:Rt:=⟨[(2,⟨[0],[],⟨[(6,Q0),(7,Q0)],[R8]⟩,[(.exit 0,⟨[],[R8]⟩)]⟩)],[]⟩
abbrev ajA:Q7:=[.vw 1000000 (.int .i64),Q0,Q0]
abbrev ajB:Q7:=[]
abbrev ajC:List (Nat×Sz):=[R8]
@[irreducible] def ZE:Vs ajA ajC ajB:=UR E R n false (Ui n) (adS n) anb Tryz.f131 ajA ajC ajB
def abJ:IR R:=VP 131 ajA ajC ajB (ZE n) (adS n)
theorem atj:TW E (abJ n):=Wn (aaY n) (ana n) (by unfold ZE;rfl) Tryz.func131 (by kernel_rfl)
def adT:Rt:=⟨[(3,⟨[0,1,2],[],⟨[(7,Q0),(8,Q0)],[R8]⟩,[(.exit 0,⟨[],[R8]⟩),(.ret,⟨[(6,.d .bool)],[R8]⟩)]⟩),
 (5,⟨[0,1,2,8],[1000000],⟨[(7,Q0)],[]⟩,[(.exit 2,⟨[(7,Q0)],[]⟩)]⟩),
 (14,⟨[0,1,2,7,8],[],⟨[(9,Q0)],[R8]⟩,[(.exit 4,⟨[],[R8]⟩)]⟩),
 (20,⟨[0,1,2,7,8],[],⟨[(10,Q0)],[R8]⟩,[(.exit 6,⟨[],[R8]⟩)]⟩)],[(18,⟨[0,1,2,7,8],[],⟨[],[]⟩,[(.normal,⟨[],[R8]⟩)]⟩)]⟩
abbrev ajD:Q7:=[.vw 1000000 (.int .i64),Q0,Q0]
abbrev ajE:Q7:=[.d .bool]
abbrev ajF:List (Nat×Sz):=[R8]
@[irreducible] def Zk:Vs ajD ajF ajE:=UR E R n false (Ui n) (abJ n) adT Tryz.f132 ajD ajF ajE
def acG:IR R:=VP 132 ajD ajF ajE (Zk n) (abJ n)
theorem atl:TW E (acG n):=Wn (aaY n) (atj n) (by unfold Zk;rfl) Tryz.func132 (by kernel_rfl)
def afN:Rt:=⟨[(503,⟨[0,1],[],⟨[(9,Q0),(10,Q0)],[R8]⟩,[(.exit 0,⟨[(9,Q0)],[R8]⟩)]⟩),
 (3,⟨[0,1,10],[1000000],⟨[(9,Q0)],[]⟩,[(.exit 2,⟨[(9,Q0)],[]⟩)]⟩),
 (5,⟨[0,1,9],[1000000],⟨[(10,Q0)],[]⟩,[(.exit 4,⟨[(10,Q0)],[]⟩)]⟩)],[]⟩
abbrev ajG:Q7:=[.vw 1000000 (.int .i64),Q0,Q0,Q0]
abbrev ajH:Q7:=[Q0]
abbrev ajI:List (Nat×Sz):=[R8]
@[irreducible] def Zs:Vs ajG ajI ajH:=UR E R n false (Ui n) (acG n) afN Tryz.f134 ajG ajI ajH
def aaZ:IR R:=VP 134 ajG ajI ajH (Zs n) (acG n)
theorem atm:TW E (aaZ n):=Wn (aaY n) (atl n) (by unfold Zs;rfl) Tryz.func134 (by kernel_rfl)
def acH:Rt:=⟨[(3,⟨[0,1,11],[1000000],⟨[(10,Q0)],[]⟩,[(.exit 0,⟨[(10,Q0)],[]⟩)]⟩),
 (5,⟨[0,1,10],[1000000],⟨[(11,Q0)],[]⟩,[(.exit 2,⟨[(11,Q0)],[]⟩)]⟩),
 (513,⟨[0,1],[],⟨[(10,Q0),(11,Q0)],[R8]⟩,[(.exit 4,⟨[(11,Q0)],[R8]⟩)]⟩),
 (13,⟨[0,1,11],[1000000],⟨[(10,Q0)],[]⟩,[(.exit 6,⟨[(10,Q0)],[]⟩)]⟩),
 (15,⟨[0,1,10],[1000000],⟨[(11,Q0)],[]⟩,[(.exit 8,⟨[(11,Q0)],[]⟩)]⟩)],[]⟩
abbrev ajJ:Q7:=[.vw 1000000 (.int .i64),Q0,Q0,Q0]
abbrev ajK:Q7:=[Q0,.d .bool]
abbrev ajL:List (Nat×Sz):=[R8]
@[irreducible] def Ze:Vs ajJ ajL ajK:=UR E R n false (Ui n) (aaZ n) acH Tryz.f135 ajJ ajL ajK
def adU:IR R:=VP 135 ajJ ajL ajK (Ze n) (aaZ n)
theorem anc:TW E (adU n):=Wn (aaY n) (atm n) (by unfold Ze;rfl) Tryz.func135 (by kernel_rfl)
def adV:Rt:=⟨[(2,⟨[0],[],⟨[(1,Q0),(2,Q0),(3,Q0),(8,.d .bool),(9,.d .bool)],[R8]⟩,[(.ret,⟨[],[R8]⟩)]⟩)],[(10,⟨[0,1,2,8,9,10],[],⟨[],[]⟩,[(.normal,⟨[(3,Q0)],[R8]⟩)]⟩),(15,⟨[0,1,2,3,8,9,10],[],⟨[],[]⟩,[(.normal,⟨[(11,Q0),(12,Q0)],[R8]⟩)]⟩),(17,⟨[0,1,2,3,8,9,10,11],[],⟨[],[]⟩,[(.normal,⟨[],[R8]⟩),(.ret,⟨[],[R8]⟩)]⟩)]⟩
abbrev Wz:Q7:=[.vw 1000000 (.int .i64),Q0,Q0,Q0]
abbrev XV:Q7:=[]
abbrev VT:List (Nat×Sz):=[R8]
def Yl (n:Nat):Nat->Lv R.T Wz->Ue R.T VT->Option (Lv R.T XV×Ue R.T VT)
 |0,_,_=>none|m+1,p,q=>UR E R n false (Ui n) (abE 117 ⟨Wz,VT,XV,Yl n m⟩ (adU n)) adV Tryz.f117 Wz VT XV p q
attribute [irreducible] Yl
theorem atn (n m:Nat)(p:Lv R.T Wz)(q:Ue R.T VT):Yl n (m+1) p q=UR E R n false (Ui n) (abE 117 ⟨Wz,VT,XV,Yl n m⟩ (adU n)) adV Tryz.f117 Wz VT XV p q:=by kernel_rfl
theorem ato (p:Lv R.T Wz)(q:Ue R.T VT):Yl n 0 p q=none:=by kernel_rfl
theorem ane (n:Nat):∀m,adk E 117 (⟨Wz,VT,XV,Yl n m⟩:FM R)
 |0=>fun p q y q' h=>absurd (((ato n p q).symm.trans h)) nofun
 |m+1=>fun p q y q' h=>agx Ub (aaY n) (afa (m:=⟨Wz,VT,XV,Yl n m⟩) (anc n) (ane n m)) ((atn n m p q).symm.trans h) Tryz.func117 rfl (by kernel_rfl)
@[irreducible] def QR:Lv R.T Wz->Ue R.T VT->Option (Lv R.T XV×Ue R.T VT):=Yl n n
theorem atp:adk E 117 (⟨Wz,VT,XV,QR n⟩:FM R):=by unfold QR;exact ane n n
def ajM:IR R:=abE 117 ⟨Wz,VT,XV,QR n⟩ (adU n)
theorem atq:TW E (ajM n):=afa (m:=⟨Wz,VT,XV,QR n⟩) (anc n) (atp n)
def atr:Rt:=⟨[],[]⟩
abbrev ajN:Q7:=[.vw 1000000 (.int .i64)]
abbrev ajO:Q7:=[]
abbrev ajP:List (Nat×Sz):=[R8]
@[irreducible] def ZS:Vs ajN ajP ajO:=UR E R n false (Ui n) (ajM n) atr Tryz.f103 ajN ajP ajO
def adW:IR R:=VP 103 ajN ajP ajO (ZS n) (ajM n)
theorem att:TW E (adW n):=Wn (aaY n) (atq n) (by unfold ZS;rfl) Tryz.func103 (by kernel_rfl)
def ajQ:Rt:=⟨[(4,⟨[0],[],⟨[(3,Q0)],[R8]⟩,[(.exit 0,⟨[],[R8]⟩),(.ret,⟨[(2,.sub 1000000 (.int .i64))],[R8]⟩)]⟩),
 (9,⟨[0,4],[],⟨[(3,Q0),(5,Q0)],[R8]⟩,[(.exit 2,⟨[(3,Q0)],[R8]⟩)]⟩)],[]⟩
abbrev ajR:Q7:=[.vw 1000000 (.int .i64)]
abbrev ajS:Q7:=[.sub 1000000 (.int .i64)]
abbrev ajT:List (Nat×Sz):=[R8]
@[irreducible] def Zg:Vs ajR ajT ajS:=UR E R n false (Ui n) (adW n) ajQ Tryz.f105 ajR ajT ajS
def Y6:IR R:=VP 105 ajR ajT ajS (Zg n) (adW n)
theorem afO:TW E (Y6 n):=Wn (aaY n) (att n) (by unfold Zg;rfl) Tryz.func105 (by kernel_rfl)
def afP:Rt:=⟨[(4,⟨[2,3,5],[3],⟨[],[(5,.cells [.l (.own 32) .bool])]⟩,[(.normal,⟨[],[(5,.cells [.l (.own 32) .bool])]⟩)]⟩)],[]⟩
abbrev ajU:Q7:=[Q0,.Q5 [Q0,.d .str,Q0,Q0,.d .str,YE] 0,.Q5 [.d .str,Q0,Q0,Q0,.d (.slice .str)] 0]
abbrev ajV:Q7:=[.d (.slice .bool)]
@[irreducible] def Zw:Si ajU ajV:=RI E R n false (Ui n) (Y6 n) afP Tryz.f118 ajU ajV
def afQ:RL:=Sm 118 ajU ajV (Zw n) (Ui n)
theorem atu:Ro E (afQ n):=RY (aaY n) (afO n) (by unfold Zw;rfl) Tryz.func118 (by kernel_rfl)
def anf:Rt:=⟨[(4,⟨[0,1,12],[],⟨[(13,Q0)],[]⟩,[(.exit 0,⟨[],[]⟩),(.ret,⟨[(4,.d .bool)],[]⟩)]⟩)],[]⟩
abbrev ajW:Q7:=[.d (.slice .bool),.d (.slice .bool)]
abbrev ajX:Q7:=[.d .bool]
@[irreducible] def ZH:Si ajW ajX:=RI E R n false (afQ n) (Y6 n) anf Tryz.f121 ajW ajX
def ajY:RL:=Sm 121 ajW ajX (ZH n) (afQ n)
theorem atv:Ro E (ajY n):=RY (atu n) (afO n) (by unfold ZH;rfl) Tryz.func121 (by kernel_rfl)
def atw:Rt:=⟨[],[]⟩
abbrev ajZ:Q7:=[Q0,Q0,.Q5 [.fn 118 [] [.Q5 [Q0,.d .str,Q0,Q0,.d .str,YE] 0,.Q5 [.d .str,Q0,Q0,Q0,.d (.slice .str)] 0]] 0]
abbrev aj0:Q7:=[.d .bool]
@[irreducible] def Xb:Si ajZ aj0:=RI E R n false (ajY n) (Y6 n) atw Tryz.f120 ajZ aj0
def aa0:RL:=Sm 120 ajZ aj0 (Xb n) (ajY n)
theorem aj1:Ro E (aa0 n):=RY (atv n) (afO n) (by unfold Xb;rfl) Tryz.func120 (by kernel_rfl)
def aj2:Rt:=⟨[(4,⟨[0,1],[1000001],⟨[(5,Q0)],[R8]⟩,[(.exit 0,⟨[],[R8]⟩),(.ret,⟨[(4,.sub 1000000 (.int .i64))],[R8]⟩)]⟩),
 (9,⟨[0,1,6],[1000001],⟨[(5,Q0),(7,Q0)],[R8]⟩,[(.exit 2,⟨[(5,Q0)],[R8]⟩)]⟩)],[]⟩
abbrev aj3:Q7:=[.sub 1000000 (.int .i64),.fn 120 [] [.ref 1000001 0]]
abbrev aj4:Q7:=[.sub 1000000 (.int .i64)]
abbrev aj5:List (Nat×Sz):=[R8,(1000001,.cells [.fn 118 [] [.Q5 [Q0,.d .str,Q0,Q0,.d .str,YE] 0,.Q5 [.d .str,Q0,Q0,Q0,.d (.slice .str)] 0]])]
@[irreducible] def Zj:Vs aj3 aj5 aj4:=UR E R n false (aa0 n) (Y6 n) aj2 Tryz.f119 aj3 aj5 aj4
def aj6:IR R:=VP 119 aj3 aj5 aj4 (Zj n) (Y6 n)
theorem atx:TW E (aj6 n):=Wn (aj1 n) (afO n) (by unfold Zj;rfl) Tryz.func119 (by kernel_rfl)
def aty:Rt:=⟨[],[]⟩
abbrev aj7:Q7:=[.d (.st 1),Tj,.sub 1000000 (.int .i64)]
abbrev aj8:Q7:=[.sub 1000000 (.int .i64)]
abbrev aj9:List (Nat×Sz):=[R8]
@[irreducible] def ZQ:Vs aj7 aj9 aj8:=UR E R n false (aa0 n) (aj6 n) aty Tryz.f104 aj7 aj9 aj8
def VU:IR R:=VP 104 aj7 aj9 aj8 (ZQ n) (aj6 n)
theorem abK:TW E (VU n):=Wn (aj1 n) (atx n) (by unfold ZQ;rfl) Tryz.func104 (by kernel_rfl)
def afR:Rt:=⟨[(4,⟨[2,3,5],[],⟨[],[(5,.cells [.vw 99999 (.int .i64)]),(99999,.arr (.int .i64))]⟩,[(.normal,⟨[],[(5,.cells [.vw 99999 (.int .i64)]),(99999,.arr (.int .i64))]⟩)]⟩)],[]⟩
abbrev akb:Q7:=[.d (.st 1),Tj]
abbrev akc:Q7:=[.d (.slice (.int .i64))]
@[irreducible] def Zu (p:Lv R.T akb):Option (Lv R.T akc):=RI E R n true (aa0 n) (VU n) afR Tryz.f94 akb akc p
def adX:RL:=Sm 94 akb akc (Zu n) (aa0 n)
theorem atz:Ro E (adX n):=RY (aj1 n) (abK n) (by unfold Zu;rfl) Tryz.func94 (by kernel_rfl)
def adY:Rt:=⟨[(4,⟨[2,5],[5],⟨[],[(11,.map .str .bool)]⟩,[(.normal,⟨[],[(11,.map .str .bool)]⟩)]⟩),
 (9,⟨[5,29,30],[5,11],⟨[(7,.l (.own 45) .str),(8,.d .bool),(31,Q0)],[]⟩,[(.exit 2,⟨[(7,.l (.own 45) .str)],[]⟩)]⟩)],[]⟩
abbrev akd:Q7:=[.d (.st 1),Tj]
abbrev ake:Q7:=[.d (.slice .str)]
@[irreducible] def Zh:Si akd ake:=RI E R n false (adX n) (VU n) adY Tryz.f95 akd ake
def adZ:RL:=Sm 95 akd ake (Zh n) (adX n)
theorem atA:Ro E (adZ n):=RY (atz n) (abK n) (by unfold Zh;rfl) Tryz.func95 (by kernel_rfl)
def akf:Rt:=⟨[(4,⟨[2,17,18],[],⟨[(5,.l (.own 32) (.st 7)),(19,Q0)],[]⟩,[(.exit 0,⟨[(5,.l (.own 32) (.st 7))],[]⟩)]⟩),
 (10,⟨[2,37,38],[],⟨[(5,.l (.own 32) (.st 7)),(39,Q0)],[]⟩,[(.exit 2,⟨[(5,.l (.own 32) (.st 7))],[]⟩)]⟩)],[]⟩
abbrev akg:Q7:=[.d (.st 1),Tj]
abbrev akh:Q7:=[.d (.slice (.st 7))]
@[irreducible] def Zo:Si akg akh:=RI E R n false (adZ n) (VU n) akf Tryz.f78 akg akh
def ad1:RL:=Sm 78 akg akh (Zo n) (adZ n)
theorem atB:Ro E (ad1 n):=RY (atA n) (abK n) (by unfold Zo;rfl) Tryz.func78 (by kernel_rfl)
def ad2:Rt:=⟨[(3,⟨[3,5,10,11],[],⟨[(12,Q0)],[(5,.cells [.l (.own 34) (.slice (.st 7))])]⟩,[(.exit 0,⟨[],[(5,.cells [.l (.own 34) (.slice (.st 7))])]⟩)]⟩),
 (7,⟨[3,5,7,10,11,12],[7],⟨[],[(5,.cells [.l (.own 34) (.slice (.st 7))])]⟩,[(.normal,⟨[],[(5,.cells [.l (.own 34) (.slice (.st 7))])]⟩),(.exit 2,⟨[],[(5,.cells [.l (.own 34) (.slice (.st 7))])]⟩)]⟩)],[]⟩
abbrev aki:Q7:=[.d (.st 2),Tj]
abbrev akj:Q7:=[.d (.slice (.slice (.st 7)))]
@[irreducible] def Zl:Si aki akj:=RI E R n false (ad1 n) (VU n) ad2 Tryz.f56 aki akj
def ang:RL:=Sm 56 aki akj (Zl n) (ad1 n)
theorem atC:Ro E (ang n):=RY (atB n) (abK n) (by unfold Zl;rfl) Tryz.func56 (by kernel_rfl)
abbrev ad3:Q7:=[.d (.slice (.slice (.st 7))),Tj]
abbrev ad4:Q7:=[.d (.slice (.st 3)),.d .bool]
@[irreducible] def Xy (n:Nat)(p:Lv R.T ad3):Option (Lv R.T ad4):=abG p.1 p.2
theorem atD (p:Lv R.T ad3):Xy n p=abG p.1 p.2:=by unfold Xy;rfl
theorem atE (p:Lv R.T ad3)(x:Lv R.T ad4)(h:Xy n p=some x):Pure E 58 (Rj R ad3 p) (SB (Rj R ad4 x)):=by unfold Xy at h;exact arX p x h
def akk:RL:=Uu 58 ⟨ad3,ad4,Xy n,SF R ad4,false⟩ (ang n)
theorem atF:Ro E (akk n):=TH (atC n) (atE n)
def atG:Rt:=⟨[],[]⟩
abbrev akl:Q7:=[.d (.st 2),Tj]
abbrev akm:Q7:=[.d (.slice (.st 3)),.d .bool,Q0]
@[irreducible] def Xi:Si akl akm:=RI E R n false (akk n) (VU n) atG Tryz.f26 akl akm
def afS:RL:=Sm 26 akl akm (Xi n) (akk n)
theorem atH:Ro E (afS n):=RY (atF n) (abK n) (by unfold Xi;rfl) Tryz.func26 (by kernel_rfl)
def anh:Rt:=⟨[(2,⟨[3,4,5,14,15],[3,5],⟨[(16,Q0)],[]⟩,[(.exit 0,⟨[],[]⟩),(.ret,⟨[(6,.l .any (.st 3)),(7,.d .bool),(8,Q0)],[]⟩)]⟩)],[]⟩
abbrev akn:Q7:=[.d (.st 2),Tj,Tj]
abbrev ako:Q7:=[.d (.slice (.st 3)),.d .bool,Q0]
@[irreducible] def ZB:Si akn ako:=RI E R n false (afS n) (VU n) anh Tryz.f27 akn ako
def ani:RL:=Sm 27 akn ako (ZB n) (afS n)
theorem atI:Ro E (ani n):=RY (atH n) (abK n) (by unfold ZB;rfl) Tryz.func27 (by kernel_rfl)
def atJ:Rt:=⟨[],[]⟩
abbrev afT:Q7:=[.d (.st 2),Tj,Tj,.d (.slice (.st 3))]
abbrev afU:Q7:=[.d .bool]
@[irreducible] def Xj:Si afT afU:=RI E R n false (ani n) (VU n) atJ Tryz.f8 afT afU
theorem atK (p:Lv R.T afT)(x:Lv R.T afU)(h:Xj n p=some x):Pure E 8 (Rj R afT p) (SB (Rj R afU x)):=by unfold Xj at h;exact UW Ub (atI n) (abK n) h Tryz.func8 rfl rfl rfl rfl (by kernel_rfl)
end Sh
