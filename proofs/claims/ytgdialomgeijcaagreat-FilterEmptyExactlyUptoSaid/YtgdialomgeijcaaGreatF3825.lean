import Derived.Test.YtgdialomgeijcaaGreatF3824
set_option linter.all false
noncomputable section
open Go Go.Proofs Aq
namespace Sh
set_option maxRecDepth 100000
variable (n:Nat)
def ahx:Ru:=⟨[(2,⟨[1,2],[2],⟨[(5,Q0)],[]⟩,[(.exit 0,⟨[],[]⟩),(.ret,⟨[(4,.d .bool)],[]⟩)]⟩),
 (8,⟨[1,2,5,6],[2,6],⟨[(7,Q0)],[]⟩,[(.exit 2,⟨[],[]⟩),(.ret,⟨[(4,.d .bool)],[]⟩)]⟩)],[]⟩
abbrev ahy:Q7:=[.d (.st 2),Q0]
abbrev ahz:Q7:=[.d .bool]
@[irreducible] def Zi:Sc ahy ahz:=RH E R n false (ady n) Rw ahx Tryz.f46 ahy ahz
def ahA:RJ:=Sr 46 ahy ahz (Zi n) (ady n)
theorem arI:Ro E (ahA n):=RZ (ari n) RY (by unfold Zi;rfl) Tryz.func46 (by kernel_rfl)
def arJ:Ru:=⟨[],[]⟩
abbrev ahB:Q7:=[Q0]
abbrev ahC:Q7:=[.d .bool]
@[irreducible] def Xp:Sc ahB ahC:=RH E R n false (ahA n) Rw arJ Tryz.f73 ahB ahC
def afq:RJ:=Sr 73 ahB ahC (Xp n) (ahA n)
theorem arK:Ro E (afq n):=RZ (arI n) RY (by unfold Xp;rfl) Tryz.func73 (by kernel_rfl)
def amD:Ru:=⟨[(2,⟨[0,1],[],⟨[(5,Q0)],[]⟩,[(.exit 0,⟨[],[]⟩),(.ret,⟨[(4,.d .bool)],[]⟩)]⟩)],[]⟩
abbrev ahD:Q7:=[.d (.slice .str),.d .str]
abbrev ahE:Q7:=[.d .bool]
@[irreducible] def ZB:Sc ahD ahE:=RH E R n false (afq n) Rw amD Tryz.f83 ahD ahE
def afr:RJ:=Sr 83 ahD ahE (ZB n) (afq n)
theorem arL:Ro E (afr n):=RZ (arK n) RY (by unfold ZB;rfl) Tryz.func83 (by kernel_rfl)
def amE:Ru:=⟨[(2,⟨[0],[],⟨[(3,Q0)],[]⟩,[(.exit 0,⟨[],[]⟩),(.ret,⟨[(2,.d .bool)],[]⟩)]⟩)],[]⟩
abbrev ahF:Q7:=[.d .str]
abbrev ahG:Q7:=[.d .bool]
@[irreducible] def Zx:Sc ahF ahG:=RH E R n false (afr n) Rw amE Tryz.f87 ahF ahG
def adE:RJ:=Sr 87 ahF ahG (Zx n) (afr n)
theorem arM:Ro E (adE n):=RZ (arL n) RY (by unfold Zx;rfl) Tryz.func87 (by kernel_rfl)
def ahH:Ru:=⟨[(4,⟨[0],[],⟨[(3,Q0)],[]⟩,[(.exit 0,⟨[],[]⟩),(.ret,⟨[(2,Q0)],[]⟩)]⟩),
 (9,⟨[0],[],⟨[(4,Q0)],[]⟩,[(.exit 2,⟨[],[]⟩),(.ret,⟨[(2,Q0)],[]⟩)]⟩)],[]⟩
abbrev ahI:Q7:=[.d (.slice .str)]
abbrev ahJ:Q7:=[Q0]
@[irreducible] def Zf:Sc ahI ahJ:=RH E R n false (adE n) Rw ahH Tryz.f88 ahI ahJ
def ahK:RJ:=Sr 88 ahI ahJ (Zf n) (adE n)
theorem arN:Ro E (ahK n):=RZ (arM n) RY (by unfold Zf;rfl) Tryz.func88 (by kernel_rfl)
def arO:Ru:=⟨[],[]⟩
abbrev ahL:Q7:=[.d (.st 1),.d .str]
abbrev ahM:Q7:=[Q0]
@[irreducible] def ZZ:Sc ahL ahM:=RH E R n false (ahK n) Rw arO Tryz.f74 ahL ahM
def afs:RJ:=Sr 74 ahL ahM (ZZ n) (ahK n)
theorem arP:Ro E (afs n):=RZ (arN n) RY (by unfold ZZ;rfl) Tryz.func74 (by kernel_rfl)
def amF:Ru:=⟨[(7,⟨[1],[1],⟨[(3,.d .str),(4,Q0)],[]⟩,[(.exit 0,⟨[],[]⟩),(.ret,⟨[(2,Q0)],[]⟩)]⟩)],[]⟩
abbrev ahN:Q7:=[.d (.st 2)]
abbrev ahO:Q7:=[Q0]
@[irreducible] def Zo:Sc ahN ahO:=RH E R n false (afs n) Rw amF Tryz.f47 ahN ahO
def ahP:RJ:=Sr 47 ahN ahO (Zo n) (afs n)
theorem arQ:Ro E (ahP n):=RZ (arP n) RY (by unfold Zo;rfl) Tryz.func47 (by kernel_rfl)
def arR:Ru:=⟨[],[]⟩
abbrev ahQ:Q7:=[.d (.st 2)]
abbrev ahR:Q7:=[.d .bool]
@[irreducible] def Xc:Sc ahQ ahR:=RH E R n false (ahP n) Rw arR Tryz.f18 ahQ ahR
def ahS:RJ:=Sr 18 ahQ ahR (Xc n) (ahP n)
theorem ahT:Ro E (ahS n):=RZ (arQ n) RY (by unfold Xc;rfl) Tryz.func18 (by kernel_rfl)
def ahU:Ru:=⟨[(3,⟨[1],[1],⟨[(3,.l (.own 26) (.st 0)),(4,Q0)],[]⟩,[(.exit 0,⟨[(3,.l (.own 26) (.st 0))],[]⟩)]⟩)],[]⟩
abbrev Ye:Q7:=[TH]
abbrev YQ:Q7:=[YB]
def YS:Nat->List Sk
 |_=>Ye
def WQ:Nat->List Sk
 |_=>YQ
def arS:Nat->Ru
 |_=>ahU
def arT:Nat->Func
 |_=>Tryz.f39
def adF (g:(i:Nat)->Lv R.T (YS i)->Option (Lv R.T (WQ i))):Nat->List (FR R):=Ut 39 ⟨YS 0,WQ 0,g 0,SE R (WQ 0),false⟩ (ahS n)
def WR (n:Nat):Nat->(i:Nat)->Lv R.T (YS i)->Option (Lv R.T (WQ i))
 |0,_,_=>none|m+1,i,p=>RH E R n false (adF n (WR n m)) Rw (arS i) (arT i) (YS i) (WQ i) p
attribute [irreducible] WR
theorem amG (n m:Nat)(p:Lv R.T Ye):WR n (m+1) 0 p=RH E R n false (adF n (WR n m)) Rw ahU Tryz.f39 Ye YQ p:=by kernel_rfl
theorem amH (p:Lv R.T Ye):WR n 0 0 p=none:=by kernel_rfl
theorem arU (p:Lv R.T (YS 0))(x:Lv R.T (WQ 0))(h:WR n 0 0 p=some x):Pure E 39 (Ri R (YS 0) p) (SA (Ri R (WQ 0) x)):=absurd ((amH n p).symm.trans h) nofun
theorem arV (n m:Nat)(hk:Ro E (adF n (WR n m)))(p:Lv R.T (YS 0))(x:Lv R.T (WQ 0))(h:WR n (m+1) 0 p=some x):Pure E 39 (Ri R (YS 0) p) (SA (Ri R (WQ 0) x)):=
 UQ (args:=Ye) (res:=YQ) Ua hk RY ((amG n m p).symm.trans h) Tryz.func39 rfl rfl rfl rfl (by kernel_rfl)
theorem amI (n:Nat):∀m,Ro E (adF n (WR n m))
 |0=>TF (f:=39) (r:=⟨YS 0,WQ 0,WR n 0 0,SE R (WQ 0),false⟩) (ahT n) (arU n)|m+1=>TF (f:=39) (r:=⟨YS 0,WQ 0,WR n (m+1) 0,SE R (WQ 0),false⟩) (ahT n) (arV n m (amI n m))
@[irreducible] def acA (n m:Nat)(p:Lv R.T Ye):Option (Lv R.T YQ):=WR n m 0 p
@[irreducible] def Za (p:Lv R.T Ye):Option (Lv R.T YQ):=acA n n p
theorem arW (p:Lv R.T Ye)(x:Lv R.T YQ)(h:Za n p=some x):Pure E 39 (Ri R Ye p) (SA (Ri R YQ x)):=by
 unfold Za acA at h;cases n with
 |zero=>exact absurd ((amH 0 p).symm.trans h) nofun|succ n=>exact UQ (args:=Ye) (res:=YQ) Ua (amI (n+1) n) RY ((amG (n+1) n p).symm.trans h) Tryz.func39 rfl rfl rfl rfl (by kernel_rfl)
def ahV:RJ:=Ut 39 ⟨Ye,YQ,Za n,SE R YQ,false⟩ (ahS n)
theorem arX:Ro E (ahV n):=TF (ahT n) (arW n)
def arY:Ru:=⟨[],[]⟩
abbrev ahW:Q7:=[TH]
abbrev ahX:Q7:=[Q0]
@[irreducible] def ZW:Sc ahW ahX:=RH E R n false (ahV n) Rw arY Tryz.f15 ahW ahX
def ahY:RJ:=Sr 15 ahW ahX (ZW n) (ahV n)
theorem ahZ:Ro E (ahY n):=RZ (arX n) RY (by unfold ZW;rfl) Tryz.func15 (by kernel_rfl)
def ah0:Ru:=⟨[(4,⟨[1,2],[2],⟨[(5,Q0)],[]⟩,[(.exit 0,⟨[],[]⟩),(.ret,⟨[(4,.d .bool)],[]⟩)]⟩)],[]⟩
abbrev Yf:Q7:=[TH,Q0]
abbrev YT:Q7:=[.d .bool]
def YU:Nat->List Sk
 |_=>Yf
def WS:Nat->List Sk
 |_=>YT
def arZ:Nat->Ru
 |_=>ah0
def ar0:Nat->Func
 |_=>Tryz.f10
def adG (g:(i:Nat)->Lv R.T (YU i)->Option (Lv R.T (WS i))):Nat->List (FR R):=Ut 10 ⟨YU 0,WS 0,g 0,SE R (WS 0),false⟩ (ahY n)
def WT (n:Nat):Nat->(i:Nat)->Lv R.T (YU i)->Option (Lv R.T (WS i))
 |0,_,_=>none|m+1,i,p=>RH E R n false (adG n (WT n m)) Rw (arZ i) (ar0 i) (YU i) (WS i) p
attribute [irreducible] WT
theorem amJ (n m:Nat)(p:Lv R.T Yf):WT n (m+1) 0 p=RH E R n false (adG n (WT n m)) Rw ah0 Tryz.f10 Yf YT p:=by kernel_rfl
theorem amK (p:Lv R.T Yf):WT n 0 0 p=none:=by kernel_rfl
theorem ar1 (p:Lv R.T (YU 0))(x:Lv R.T (WS 0))(h:WT n 0 0 p=some x):Pure E 10 (Ri R (YU 0) p) (SA (Ri R (WS 0) x)):=absurd ((amK n p).symm.trans h) nofun
theorem ar2 (n m:Nat)(hk:Ro E (adG n (WT n m)))(p:Lv R.T (YU 0))(x:Lv R.T (WS 0))(h:WT n (m+1) 0 p=some x):Pure E 10 (Ri R (YU 0) p) (SA (Ri R (WS 0) x)):=
 UQ (args:=Yf) (res:=YT) Ua hk RY ((amJ n m p).symm.trans h) Tryz.func10 rfl rfl rfl rfl (by kernel_rfl)
theorem amL (n:Nat):∀m,Ro E (adG n (WT n m))
 |0=>TF (f:=10) (r:=⟨YU 0,WS 0,WT n 0 0,SE R (WS 0),false⟩) (ahZ n) (ar1 n)|m+1=>TF (f:=10) (r:=⟨YU 0,WS 0,WT n (m+1) 0,SE R (WS 0),false⟩) (ahZ n) (ar2 n m (amL n m))
@[irreducible] def abE (n m:Nat)(p:Lv R.T Yf):Option (Lv R.T YT):=WT n m 0 p
@[irreducible] def QQ (p:Lv R.T Yf):Option (Lv R.T YT):=abE n n p
theorem ar3 (p:Lv R.T Yf)(x:Lv R.T YT)(h:QQ n p=some x):Pure E 10 (Ri R Yf p) (SA (Ri R YT x)):=by
 unfold QQ abE at h;cases n with
 |zero=>exact absurd ((amK 0 p).symm.trans h) nofun|succ n=>exact UQ (args:=Yf) (res:=YT) Ua (amL (n+1) n) RY ((amJ (n+1) n p).symm.trans h) Tryz.func10 rfl rfl rfl rfl (by kernel_rfl)
def ah1:RJ:=Ut 10 ⟨Yf,YT,QQ n,SE R YT,false⟩ (ahY n)
theorem ar4:Ro E (ah1 n):=TF (ahZ n) (ar3 n)
def ar5:Ru:=⟨[],[]⟩
abbrev ah2:Q7:=[TH,TH]
abbrev ah3:Q7:=[TH]
@[irreducible] def Xt:Sc ah2 ah3:=RH E R n false (ah1 n) Rw ar5 Tryz.f33 ah2 ah3
def afu:RJ:=Sr 33 ah2 ah3 (Xt n) (ah1 n)
theorem ar6:Ro E (afu n):=RZ (ar4 n) RY (by unfold Xt;rfl) Tryz.func33 (by kernel_rfl)
def amM:Ru:=⟨[(2,⟨[0,1],[],⟨[(5,Q0)],[]⟩,[(.exit 0,⟨[],[]⟩),(.ret,⟨[(4,.d .bool)],[]⟩)]⟩)],[]⟩
abbrev ah4:Q7:=[YB,.d .str]
abbrev ah5:Q7:=[.d .bool]
@[irreducible] def ZJ:Sc ah4 ah5:=RH E R n false (afu n) Rw amM Tryz.f79 ah4 ah5
def afv:RJ:=Sr 79 ah4 ah5 (ZJ n) (afu n)
theorem ar7:Ro E (afv n):=RZ (ar6 n) RY (by unfold ZJ;rfl) Tryz.func79 (by kernel_rfl)
def amN:Ru:=⟨[(2,⟨[0,1,2,3],[],⟨[(9,Q0)],[]⟩,[(.exit 0,⟨[],[]⟩),(.ret,⟨[(8,.d .bool)],[]⟩)]⟩)],[]⟩
abbrev ah6:Q7:=[YB,.d .str,Q0,Q0]
abbrev ah7:Q7:=[.d .bool]
@[irreducible] def ZH:Sc ah6 ah7:=RH E R n false (afv n) Rw amN Tryz.f96 ah6 ah7
def abF:RJ:=Sr 96 ah6 ah7 (ZH n) (afv n)
theorem ar8:Ro E (abF n):=RZ (ar7 n) RY (by unfold ZH;rfl) Tryz.func96 (by kernel_rfl)
def adH:Ru:=⟨[(5,⟨[1,2],[],⟨[(5,.l (.own 81) (.st 6)),(6,.d .bool),(7,Q0)],[]⟩,[(.exit 0,⟨[(5,.l (.own 81) (.st 6))],[]⟩)]⟩),
 (9,⟨[1,2,6,7],[],⟨[(5,.l (.own 81) (.st 6)),(8,.d .bool),(9,Q0)],[]⟩,[(.exit 2,⟨[(5,.l (.own 81) (.st 6)),(8,.d .bool)],[]⟩)]⟩),
 (18,⟨[1,2],[],⟨[(5,.l (.own 99) (.st 6)),(10,Q0)],[]⟩,[(.ret,⟨[(4,.l (.own 99) (.st 6))],[]⟩)]⟩),
 (20,⟨[1,2,10],[],⟨[(5,.l (.own 99) (.st 6)),(11,Q0),(12,Q0)],[]⟩,[(.exit 6,⟨[(5,.l (.own 99) (.st 6)),(11,Q0)],[]⟩)]⟩)],[]⟩
abbrev ah8:Q7:=[.d (.st 1),YB]
abbrev ah9:Q7:=[.d (.slice (.st 6))]
@[irreducible] def QP:Sc ah8 ah9:=RH E R n false (abF n) Rw adH Tryz.f80 ah8 ah9
def afw:RJ:=Sr 80 ah8 ah9 (QP n) (abF n)
theorem ar9:Ro E (afw n):=RZ (ar8 n) RY (by unfold QP;rfl) Tryz.func80 (by kernel_rfl)
def amO:Ru:=⟨[(4,⟨[2,5],[2],⟨[(6,.l (.own 36) (.slice (.st 6))),(7,Q0)],[]⟩,[(.exit 0,⟨[(6,.l (.own 36) (.slice (.st 6)))],[]⟩)]⟩)],[]⟩
abbrev aia:Q7:=[.d (.st 2),TH]
abbrev aib:Q7:=[.d (.slice (.slice (.st 6)))]
@[irreducible] def ZD:Sc aia aib:=RH E R n false (afw n) Rw amO Tryz.f57 aia aib
def afx:RJ:=Sr 57 aia aib (ZD n) (afw n)
theorem asa:Ro E (afx n):=RZ (ar9 n) RY (by unfold ZD;rfl) Tryz.func57 (by kernel_rfl)
def amP:Ru:=⟨[(4,⟨[5],[],⟨[(6,Q0),(7,Q0)],[]⟩,[(.exit 0,⟨[(6,Q0)],[]⟩),(.ret,⟨[(4,Q0)],[]⟩)]⟩)],[]⟩
abbrev aic:Q7:=[.d (.st 2),TH]
abbrev aie:Q7:=[Q0]
@[irreducible] def ZK:Sc aic aie:=RH E R n false (afx n) Rw amP Tryz.f24 aic aie
def aif:RJ:=Sr 24 aic aie (ZK n) (afx n)
theorem asb:Ro E (aif n):=RZ (asa n) RY (by unfold ZK;rfl) Tryz.func24 (by kernel_rfl)
def ase:Ru:=⟨[],[]⟩
abbrev aii:Q7:=[.d (.st 2),TH,TH]
abbrev aij:Q7:=[.d .bool]
@[irreducible] def Xq:Sc aii aij:=RH E R n false (aif n) Rw ase Tryz.f25 aii aij
def afy:RJ:=Sr 25 aii aij (Xq n) (aif n)
theorem asf:Ro E (afy n):=RZ (asb n) RY (by unfold Xq;rfl) Tryz.func25 (by kernel_rfl)
def amQ:Ru:=⟨[(2,⟨[1,2],[2],⟨[(5,Q0)],[]⟩,[(.exit 0,⟨[],[]⟩),(.ret,⟨[(4,Q0)],[]⟩)]⟩)],[]⟩
abbrev aik:Q7:=[.d (.st 2),.d .str]
abbrev ail:Q7:=[Q0]
@[irreducible] def ZE:Sc aik ail:=RH E R n false (afy n) Rw amQ Tryz.f51 aik ail
def ain:RJ:=Sr 51 aik ail (ZE n) (afy n)
theorem asg:Ro E (ain n):=RZ (asf n) RY (by unfold ZE;rfl) Tryz.func51 (by kernel_rfl)
def ash:Ru:=⟨[],[]⟩
abbrev aio:Q7:=[.d (.st 1),.d (.st 3)]
abbrev aip:Q7:=[Q0]
@[irreducible] def Xd:Sc aio aip:=RH E R n false (ain n) Rw ash Tryz.f61 aio aip
def afz:RJ:=Sr 61 aio aip (Xd n) (ain n)
theorem asi:Ro E (afz n):=RZ (asg n) RY (by unfold Xd;rfl) Tryz.func61 (by kernel_rfl)
def amR:Ru:=⟨[(2,⟨[1,2],[2],⟨[(5,Q0)],[]⟩,[(.exit 0,⟨[],[]⟩),(.ret,⟨[(4,Q0)],[]⟩)]⟩)],[]⟩
abbrev aiq:Q7:=[.d (.st 2),.d (.slice (.st 3))]
abbrev air:Q7:=[Q0]
@[irreducible] def Zy:Sc aiq air:=RH E R n false (afz n) Rw amR Tryz.f32 aiq air
def amS:RJ:=Sr 32 aiq air (Zy n) (afz n)
theorem asj:Ro E (amS n):=RZ (asi n) RY (by unfold Zy;rfl) Tryz.func32 (by kernel_rfl)
abbrev adI:Q7:=[]
abbrev adJ:Q7:=[.d .bool]
@[irreducible] def Xb (n:Nat)(p:Lv R.T adI):Option (Lv R.T adJ):=some true
theorem asl (p:Lv R.T adI):Xb n p=some true:=by unfold Xb;rfl
theorem asn (p:Lv R.T adI)(x:Lv R.T adJ)(h:Xb n p=some x):Pure E 11 (Ri R adI p) (SA (Ri R adJ x)):=by unfold Xb at h;exact apW p x h
def ais:RJ:=Ut 11 ⟨adI,adJ,Xb n,SE R adJ,false⟩ (amS n)
theorem aso:Ro E (ais n):=TF (asj n) (asn n)
def asq:Ru:=⟨[],[]⟩
abbrev ait:Q7:=[TH]
abbrev aiu:Q7:=[.fn 69 [] [.Q5 [Q0,.d .str,Q0,Q0,.d .str,YB] 0]]
@[irreducible] def ZS:Sc ait aiu:=RH E R n false (ais n) Rw asq Tryz.f38 ait aiu
def afA:RJ:=Sr 38 ait aiu (ZS n) (ais n)
theorem asr:Ro E (afA n):=RZ (aso n) RY (by unfold ZS;rfl) Tryz.func38 (by kernel_rfl)
def afB:Ru:=⟨[(3,⟨[3],[],⟨[],[(3,.cells [Q0])]⟩,[(.normal,⟨[],[(3,.cells [Q0])]⟩),(.exit 0,⟨[],[(3,.cells [Q0])]⟩)]⟩)],[]⟩
abbrev aiv:Q7:=[TH]
abbrev aiw:Q7:=[Q0]
@[irreducible] def Zz:Sc aiv aiw:=RH E R n false (afA n) Rw afB Tryz.f14 aiv aiw
def aix:RJ:=Sr 14 aiv aiw (Zz n) (afA n)
theorem asu:Ro E (aix n):=RZ (asr n) RY (by unfold Zz;rfl) Tryz.func14 (by kernel_rfl)
def asw:Ru:=⟨[],[]⟩
abbrev aiy:Q7:=[TH]
abbrev aiz:Q7:=[.d .bool]
@[irreducible] def Xe:Sc aiy aiz:=RH E R n false (aix n) Rw asw Tryz.f48 aiy aiz
def aiA:RJ:=Sr 48 aiy aiz (Xe n) (aix n)
theorem asx:Ro E (aiA n):=RZ (asu n) RY (by unfold Xe;rfl) Tryz.func48 (by kernel_rfl)
def asy:Ru:=⟨[],[]⟩
abbrev aiB:Q7:=[.d (.st 1),.Q5 [.d .str] 0]
abbrev aiC:Q7:=[.d .bool]
@[irreducible] def Xu:Sc aiB aiC:=RH E R n false (aiA n) Rw asy Tryz.f76 aiB aiC
def afC:RJ:=Sr 76 aiB aiC (Xu n) (aiA n)
theorem asz:Ro E (afC n):=RZ (asx n) RY (by unfold Xu;rfl) Tryz.func76 (by kernel_rfl)
def amT:Ru:=⟨[(2,⟨[0,1,7],[],⟨[(8,Q0)],[]⟩,[(.exit 0,⟨[],[]⟩),(.ret,⟨[(4,Q0)],[]⟩)]⟩)],[]⟩
abbrev aiD:Q7:=[.d (.slice (.st 1)),.fn 76 [] [.Q5 [.d .str] 0]]
abbrev aiE:Q7:=[Q0]
@[irreducible] def ZN:Sc aiD aiE:=RH E R n false (afC n) Rw amT Tryz.f75 aiD aiE
def aiF:RJ:=Sr 75 aiD aiE (ZN n) (afC n)
theorem asA:Ro E (aiF n):=RZ (asz n) RY (by unfold ZN;rfl) Tryz.func75 (by kernel_rfl)
def asB:Ru:=⟨[],[]⟩
abbrev aiG:Q7:=[.d (.st 2),.d .str]
abbrev aiH:Q7:=[.d (.st 1),.d .bool]
@[irreducible] def Xf:Sc aiG aiH:=RH E R n false (aiF n) Rw asB Tryz.f49 aiG aiH
def afD:RJ:=Sr 49 aiG aiH (Xf n) (aiF n)
theorem asC:Ro E (afD n):=RZ (asA n) RY (by unfold Xf;rfl) Tryz.func49 (by kernel_rfl)
def afE:Ru:=⟨[(5,⟨[2,4],[2],⟨[],[(4,.cells [Q0])]⟩,[(.normal,⟨[],[(4,.cells [Q0])]⟩),(.ret,⟨[],[(4,.cells [Q0])]⟩)]⟩)],[]⟩
abbrev aiI:Q7:=[.d (.st 2),TH]
abbrev aiJ:Q7:=[Q0]
@[irreducible] def Zs:Sc aiI aiJ:=RH E R n false (afD n) Rw afE Tryz.f19 aiI aiJ
def aiK:RJ:=Sr 19 aiI aiJ (Zs n) (afD n)
theorem asD:Ro E (aiK n):=RZ (asC n) RY (by unfold Zs;rfl) Tryz.func19 (by kernel_rfl)
def asE:Ru:=⟨[],[]⟩
abbrev aiL:Q7:=[.d (.int .u32)]
abbrev aiM:Q7:=[Q0]
@[irreducible] def Xy:Sc aiL aiM:=RH E R n false (aiK n) Rw asE Tryz.f115 aiL aiM
def aiN:RJ:=Sr 115 aiL aiM (Xy n) (aiK n)
theorem asF:Ro E (aiN n):=RZ (asD n) RY (by unfold Xy;rfl) Tryz.func115 (by kernel_rfl)
def asG:Ru:=⟨[],[]⟩
abbrev aiO:Q7:=[.d (.int .u64)]
abbrev aiP:Q7:=[Q0]
@[irreducible] def Xj:Sc aiO aiP:=RH E R n false (aiN n) Rw asG Tryz.f116 aiO aiP
def aiQ:RJ:=Sr 116 aiO aiP (Xj n) (aiN n)
theorem asH:Ro E (aiQ n):=RZ (asF n) RY (by unfold Xj;rfl) Tryz.func116 (by kernel_rfl)
def asI:Ru:=⟨[],[]⟩
abbrev aiR:Q7:=[.d (.int .u64)]
abbrev aiS:Q7:=[Q0]
@[irreducible] def ZX:Sc aiR aiS:=RH E R n false (aiQ n) Rw asI Tryz.f102 aiR aiS
def aiT:RJ:=Sr 102 aiR aiS (ZX n) (aiQ n)
theorem asJ:Ro E (aiT n):=RZ (asH n) RY (by unfold ZX;rfl) Tryz.func102 (by kernel_rfl)
def asK:Ru:=⟨[],[]⟩
abbrev aiU:Q7:=[Q0]
abbrev aiV:Q7:=[.d .bool]
@[irreducible] def Xk:Sc aiU aiV:=RH E R n false (aiT n) Rw asK Tryz.f71 aiU aiV
def aiW:RJ:=Sr 71 aiU aiV (Xk n) (aiT n)
theorem asL:Ro E (aiW n):=RZ (asJ n) RY (by unfold Xk;rfl) Tryz.func71 (by kernel_rfl)
def asM:Ru:=⟨[],[]⟩
abbrev aiX:Q7:=[Q0,Q0]
abbrev aiY:Q7:=[.d .bool]
@[irreducible] def Xr:Sc aiX aiY:=RH E R n false (aiW n) Rw asM Tryz.f133 aiX aiY
def Yg:RJ:=Sr 133 aiX aiY (Xr n) (aiW n)
theorem afF:Ro E (Yg n):=RZ (asL n) RY (by unfold Xr;rfl) Tryz.func133 (by kernel_rfl)
def aiZ:Ru:=⟨[(1,⟨[0,1,2],[],⟨[(6,Q0)],[R8]⟩,[(.exit 0,⟨[],[R8]⟩)]⟩),
 (4,⟨[0,1,2,6],[],⟨[(7,Q0)],[R8]⟩,[(.exit 2,⟨[],[R8]⟩)]⟩)],[]⟩
abbrev adK:Q7:=[.vw 1000000 (.int .i64),Q0,Q0]
abbrev adL:Q7:=[]
abbrev adM:List (Nat×Sy):=[R8]
@[irreducible] def Zt:Vr adK adM adL:=UO E R n false (Yg n) Rw aiZ Tryz.f127 adK adM adL
theorem asN:adh E 127 (⟨adK,adM,adL,Zt n⟩:FM R):=by intro p q y q' h;have h:Zt n p q=some (y,q'):=h;unfold Zt at h;exact ags Ua (afF n) RY h Tryz.func127 rfl (by kernel_rfl)
def afG:IR R:=abB 127 ⟨adK,adM,adL,Zt n⟩ Rw
theorem asO:TU E (afG n):=ae6 (m:=⟨adK,adM,adL,Zt n⟩) RY (asN n)
def amU:Ru:=⟨[(1,⟨[0,2,3],[],⟨[(8,Q0)],[R8]⟩,[(.exit 0,⟨[],[R8]⟩),(.ret,⟨[],[R8]⟩)]⟩)],[(5,⟨[0,2,3,8],[1000000],⟨[],[]⟩,[(.normal,⟨[(9,Q0)],[]⟩)]⟩)]⟩
abbrev ai0:Q7:=[.vw 1000000 (.int .i64),Q0,Q0,Q0]
abbrev ai1:Q7:=[]
abbrev ai2:List (Nat×Sy):=[R8]
@[irreducible] def ZL:Vr ai0 ai2 ai1:=UO E R n false (Yg n) (afG n) amU Tryz.f137 ai0 ai2 ai1
def adN:IR R:=VN 137 ai0 ai2 ai1 (ZL n) (afG n)
theorem asP:TU E (adN n):=Wj (afF n) (asO n) (by unfold ZL;rfl) Tryz.func137 (by kernel_rfl)
def ai3:Ru:=⟨[(4,⟨[0,6,7,8],[],⟨[(9,Q0)],[R8]⟩,[(.exit 0,⟨[],[R8]⟩)]⟩),
 (8,⟨[0,6,7],[],⟨[(10,Q0)],[R8]⟩,[(.exit 2,⟨[],[R8]⟩)]⟩)],[]⟩
abbrev ai4:Q7:=[.vw 1000000 (.int .i64),Q0,Q0]
abbrev ai5:Q7:=[]
abbrev ai6:List (Nat×Sy):=[R8]
@[irreducible] def ZA:Vr ai4 ai6 ai5:=UO E R n false (Yg n) (adN n) ai3 Tryz.f128 ai4 ai6 ai5
def afH:IR R:=VN 128 ai4 ai6 ai5 (ZA n) (adN n)
theorem amV:TU E (afH n):=Wj (afF n) (asP n) (by unfold ZA;rfl) Tryz.func128 (by kernel_rfl)
def asQ:Ru:=⟨[],[]⟩
abbrev ai7:Q7:=[Q0]
abbrev ai8:Q7:=[.d (.int .u64)]
@[irreducible] def Xg:Sc ai7 ai8:=RH E R n false (Yg n) (afH n) asQ Tryz.f123 ai7 ai8
def aao:RJ:=Sr 123 ai7 ai8 (Xg n) (Yg n)
theorem acB:Ro E (aao n):=RZ (afF n) (amV n) (by unfold Xg;rfl) Tryz.func123 (by kernel_rfl)
def asR:Ru:=⟨[],[]⟩
abbrev ai9:Q7:=[.ref 1000000 0]
abbrev aja:Q7:=[.d (.int .u64)]
abbrev ajb:List (Nat×Sy):=[(1000000,.cells [.d (.int .u64)])]
@[irreducible] def ZP:Vr ai9 ajb aja:=UO E R n false (aao n) (afH n) asR Tryz.f124 ai9 ajb aja
def afI:IR R:=VN 124 ai9 ajb aja (ZP n) (afH n)
theorem asS:TU E (afI n):=Wj (acB n) (amV n) (by unfold ZP;rfl) Tryz.func124 (by kernel_rfl)
def amW:Ru:=⟨[(5,⟨[0,1,6,7,8],[],⟨[(9,Q0)],[(7,.cells [.d (.int .u64)]),R8]⟩,[(.exit 0,⟨[],[R8]⟩)]⟩)],[(10,⟨[0,1,6,7,8,9],[7,1000000],⟨[],[]⟩,[(.normal,⟨[(10,Q0)],[]⟩)]⟩)]⟩
abbrev ajc:Q7:=[.vw 1000000 (.int .i64),Q0,Q0]
abbrev ajd:Q7:=[]
abbrev aje:List (Nat×Sy):=[R8]
@[irreducible] def ZI:Vr ajc aje ajd:=UO E R n false (aao n) (afI n) amW Tryz.f129 ajc aje ajd
def ajf:IR R:=VN 129 ajc aje ajd (ZI n) (afI n)
theorem asT:TU E (ajf n):=Wj (acB n) (asS n) (by unfold ZI;rfl) Tryz.func129 (by kernel_rfl)
def asU:Ru:=⟨[],[]⟩
abbrev ajg:Q7:=[.d (.slice (.int .i64)),Q0,Q0,.ref 1000000 0]
abbrev ajh:Q7:=[Q0,Q0]
abbrev aji:List (Nat×Sy):=[(1000000,.cells [Q0])]
@[irreducible] def ZT:Vr ajg aji ajh:=UO E R n false (aao n) (ajf n) asU Tryz.f140 ajg aji ajh
def ajj:IR R:=VN 140 ajg aji ajh (ZT n) (ajf n)
theorem asV:TU E (ajj n):=Wj (acB n) (asT n) (by unfold ZT;rfl) Tryz.func140 (by kernel_rfl)
def asX:Ru:=⟨[],[]⟩
abbrev ajk:Q7:=[.d (.slice (.int .i64)),Q0,Q0,Q0,.ref 1000000 0]
abbrev ajl:Q7:=[Q0]
abbrev ajm:List (Nat×Sy):=[(1000000,.cells [Q0])]
@[irreducible] def ZU:Vr ajk ajm ajl:=UO E R n false (aao n) (ajj n) asX Tryz.f139 ajk ajm ajl
def ajn:IR R:=VN 139 ajk ajm ajl (ZU n) (ajj n)
theorem asY:TU E (ajn n):=Wj (acB n) (asV n) (by unfold ZU;rfl) Tryz.func139 (by kernel_rfl)
def asZ:Ru:=⟨[],[]⟩
abbrev ajo:Q7:=[.d (.slice (.int .i64)),Q0,.ref 1000000 0]
abbrev ajp:Q7:=[Q0]
abbrev ajq:List (Nat×Sy):=[(1000000,.cells [Q0])]
@[irreducible] def ZV:Vr ajo ajq ajp:=UO E R n false (aao n) (ajn n) asZ Tryz.f138 ajo ajq ajp
def adO:IR R:=VN 138 ajo ajq ajp (ZV n) (ajn n)
theorem amX:TU E (adO n):=Wj (acB n) (asY n) (by unfold ZV;rfl) Tryz.func138 (by kernel_rfl)
def as0:Ru:=⟨[],[]⟩
abbrev ajr:Q7:=[.d (.slice (.int .i64)),Q0,Q0]
abbrev ajs:Q7:=[Q0,Q0]
@[irreducible] def Xv:Sc ajr ajs:=RH E R n false (aao n) (adO n) as0 Tryz.f130 ajr ajs
def Uf:RJ:=Sr 130 ajr ajs (Xv n) (aao n)
theorem aaW:Ro E (Uf n):=RZ (acB n) (amX n) (by unfold Xv;rfl) Tryz.func130 (by kernel_rfl)
def amY:Ru:=⟨[(2,⟨[0],[],⟨[(6,Q0),(7,Q0)],[R8]⟩,[(.exit 0,⟨[],[R8]⟩)]⟩)],[]⟩
abbrev ajt:Q7:=[.vw 1000000 (.int .i64),Q0,Q0]
abbrev aju:Q7:=[]
abbrev ajv:List (Nat×Sy):=[R8]
@[irreducible] def ZC:Vr ajt ajv aju:=UO E R n false (Uf n) (adO n) amY Tryz.f131 ajt ajv aju
def abG:IR R:=VN 131 ajt ajv aju (ZC n) (adO n)
theorem as1:TU E (abG n):=Wj (aaW n) (amX n) (by unfold ZC;rfl) Tryz.func131 (by kernel_rfl)
def adP:Ru:=⟨[(3,⟨[0,1,2],[],⟨[(7,Q0),(8,Q0)],[R8]⟩,[(.exit 0,⟨[],[R8]⟩),(.ret,⟨[(6,.d .bool)],[R8]⟩)]⟩),
 (5,⟨[0,1,2,8],[1000000],⟨[(7,Q0)],[]⟩,[(.exit 2,⟨[(7,Q0)],[]⟩)]⟩),
 (14,⟨[0,1,2,7,8],[],⟨[(9,Q0)],[R8]⟩,[(.exit 4,⟨[],[R8]⟩)]⟩),
 (20,⟨[0,1,2,7,8],[],⟨[(10,Q0)],[R8]⟩,[(.exit 6,⟨[],[R8]⟩)]⟩)],[(18,⟨[0,1,2,7,8],[],⟨[],[]⟩,[(.normal,⟨[],[R8]⟩)]⟩)]⟩
abbrev ajw:Q7:=[.vw 1000000 (.int .i64),Q0,Q0]
abbrev ajx:Q7:=[.d .bool]
abbrev ajy:List (Nat×Sy):=[R8]
@[irreducible] def Zk:Vr ajw ajy ajx:=UO E R n false (Uf n) (abG n) adP Tryz.f132 ajw ajy ajx
def acC:IR R:=VN 132 ajw ajy ajx (Zk n) (abG n)
theorem as2:TU E (acC n):=Wj (aaW n) (as1 n) (by unfold Zk;rfl) Tryz.func132 (by kernel_rfl)
def afJ:Ru:=⟨[(503,⟨[0,1],[],⟨[(9,Q0),(10,Q0)],[R8]⟩,[(.exit 0,⟨[(9,Q0)],[R8]⟩)]⟩),
 (3,⟨[0,1,10],[1000000],⟨[(9,Q0)],[]⟩,[(.exit 2,⟨[(9,Q0)],[]⟩)]⟩),
 (5,⟨[0,1,9],[1000000],⟨[(10,Q0)],[]⟩,[(.exit 4,⟨[(10,Q0)],[]⟩)]⟩)],[]⟩
abbrev ajz:Q7:=[.vw 1000000 (.int .i64),Q0,Q0,Q0]
abbrev ajA:Q7:=[Q0]
abbrev ajB:List (Nat×Sy):=[R8]
@[irreducible] def Zr:Vr ajz ajB ajA:=UO E R n false (Uf n) (acC n) afJ Tryz.f134 ajz ajB ajA
def aaX:IR R:=VN 134 ajz ajB ajA (Zr n) (acC n)
theorem as3:TU E (aaX n):=Wj (aaW n) (as2 n) (by unfold Zr;rfl) Tryz.func134 (by kernel_rfl)
def acD:Ru:=⟨[(3,⟨[0,1,11],[1000000],⟨[(10,Q0)],[]⟩,[(.exit 0,⟨[(10,Q0)],[]⟩)]⟩),
 (5,⟨[0,1,10],[1000000],⟨[(11,Q0)],[]⟩,[(.exit 2,⟨[(11,Q0)],[]⟩)]⟩),
 (513,⟨[0,1],[],⟨[(10,Q0),(11,Q0)],[R8]⟩,[(.exit 4,⟨[(11,Q0)],[R8]⟩)]⟩),
 (13,⟨[0,1,11],[1000000],⟨[(10,Q0)],[]⟩,[(.exit 6,⟨[(10,Q0)],[]⟩)]⟩),
 (15,⟨[0,1,10],[1000000],⟨[(11,Q0)],[]⟩,[(.exit 8,⟨[(11,Q0)],[]⟩)]⟩)],[]⟩
abbrev ajC:Q7:=[.vw 1000000 (.int .i64),Q0,Q0,Q0]
abbrev ajD:Q7:=[Q0,.d .bool]
abbrev ajE:List (Nat×Sy):=[R8]
@[irreducible] def Ze:Vr ajC ajE ajD:=UO E R n false (Uf n) (aaX n) acD Tryz.f135 ajC ajE ajD
def adQ:IR R:=VN 135 ajC ajE ajD (Ze n) (aaX n)
theorem amZ:TU E (adQ n):=Wj (aaW n) (as3 n) (by unfold Ze;rfl) Tryz.func135 (by kernel_rfl)
def adR:Ru:=⟨[(2,⟨[0],[],⟨[(1,Q0),(2,Q0),(3,Q0),(8,.d .bool),(9,.d .bool)],[R8]⟩,[(.ret,⟨[],[R8]⟩)]⟩)],[(10,⟨[0,1,2,8,9,10],[],⟨[],[]⟩,[(.normal,⟨[(3,Q0)],[R8]⟩)]⟩),(15,⟨[0,1,2,3,8,9,10],[],⟨[],[]⟩,[(.normal,⟨[(11,Q0),(12,Q0)],[R8]⟩)]⟩),(17,⟨[0,1,2,3,8,9,10,11],[],⟨[],[]⟩,[(.normal,⟨[],[R8]⟩),(.ret,⟨[],[R8]⟩)]⟩)]⟩
abbrev Ww:Q7:=[.vw 1000000 (.int .i64),Q0,Q0,Q0]
abbrev XQ:Q7:=[]
abbrev VQ:List (Nat×Sy):=[R8]
def Yh (n:Nat):Nat->Lv R.T Ww->Uc R.T VQ->Option (Lv R.T XQ×Uc R.T VQ)
 |0,_,_=>none|m+1,p,q=>UO E R n false (Uf n) (abB 117 ⟨Ww,VQ,XQ,Yh n m⟩ (adQ n)) adR Tryz.f117 Ww VQ XQ p q
attribute [irreducible] Yh
theorem as4 (n m:Nat)(p:Lv R.T Ww)(q:Uc R.T VQ):Yh n (m+1) p q=UO E R n false (Uf n) (abB 117 ⟨Ww,VQ,XQ,Yh n m⟩ (adQ n)) adR Tryz.f117 Ww VQ XQ p q:=by kernel_rfl
theorem as5 (p:Lv R.T Ww)(q:Uc R.T VQ):Yh n 0 p q=none:=by kernel_rfl
theorem am0 (n:Nat):∀m,adh E 117 (⟨Ww,VQ,XQ,Yh n m⟩:FM R)
 |0=>fun p q y q' h=>absurd (((as5 n p q).symm.trans h)) nofun
 |m+1=>fun p q y q' h=>ags Ua (aaW n) (ae6 (m:=⟨Ww,VQ,XQ,Yh n m⟩) (amZ n) (am0 n m)) ((as4 n m p q).symm.trans h) Tryz.func117 rfl (by kernel_rfl)
@[irreducible] def QR:Lv R.T Ww->Uc R.T VQ->Option (Lv R.T XQ×Uc R.T VQ):=Yh n n
theorem as6:adh E 117 (⟨Ww,VQ,XQ,QR n⟩:FM R):=by unfold QR;exact am0 n n
def ajF:IR R:=abB 117 ⟨Ww,VQ,XQ,QR n⟩ (adQ n)
theorem as7:TU E (ajF n):=ae6 (m:=⟨Ww,VQ,XQ,QR n⟩) (amZ n) (as6 n)
def as8:Ru:=⟨[],[]⟩
abbrev ajG:Q7:=[.vw 1000000 (.int .i64)]
abbrev ajH:Q7:=[]
abbrev ajI:List (Nat×Sy):=[R8]
@[irreducible] def ZQ:Vr ajG ajI ajH:=UO E R n false (Uf n) (ajF n) as8 Tryz.f103 ajG ajI ajH
def adS:IR R:=VN 103 ajG ajI ajH (ZQ n) (ajF n)
theorem as9:TU E (adS n):=Wj (aaW n) (as7 n) (by unfold ZQ;rfl) Tryz.func103 (by kernel_rfl)
def ajJ:Ru:=⟨[(4,⟨[0],[],⟨[(3,Q0)],[R8]⟩,[(.exit 0,⟨[],[R8]⟩),(.ret,⟨[(2,.sub 1000000 (.int .i64))],[R8]⟩)]⟩),
 (9,⟨[0,4],[],⟨[(3,Q0),(5,Q0)],[R8]⟩,[(.exit 2,⟨[(3,Q0)],[R8]⟩)]⟩)],[]⟩
abbrev ajK:Q7:=[.vw 1000000 (.int .i64)]
abbrev ajL:Q7:=[.sub 1000000 (.int .i64)]
abbrev ajM:List (Nat×Sy):=[R8]
@[irreducible] def Zg:Vr ajK ajM ajL:=UO E R n false (Uf n) (adS n) ajJ Tryz.f105 ajK ajM ajL
def YV:IR R:=VN 105 ajK ajM ajL (Zg n) (adS n)
theorem afK:TU E (YV n):=Wj (aaW n) (as9 n) (by unfold Zg;rfl) Tryz.func105 (by kernel_rfl)
def afL:Ru:=⟨[(4,⟨[2,3,5],[3],⟨[],[(5,.cells [.l (.own 32) .bool])]⟩,[(.normal,⟨[],[(5,.cells [.l (.own 32) .bool])]⟩)]⟩)],[]⟩
abbrev ajN:Q7:=[Q0,.Q5 [Q0,.d .str,Q0,Q0,.d .str,YB] 0,.Q5 [.d .str,Q0,Q0,Q0,.d (.slice .str)] 0]
abbrev ajO:Q7:=[.d (.slice .bool)]
@[irreducible] def Zw:Sc ajN ajO:=RH E R n false (Uf n) (YV n) afL Tryz.f118 ajN ajO
def afM:RJ:=Sr 118 ajN ajO (Zw n) (Uf n)
theorem ata:Ro E (afM n):=RZ (aaW n) (afK n) (by unfold Zw;rfl) Tryz.func118 (by kernel_rfl)
def am1:Ru:=⟨[(4,⟨[0,1,12],[],⟨[(13,Q0)],[]⟩,[(.exit 0,⟨[],[]⟩),(.ret,⟨[(4,.d .bool)],[]⟩)]⟩)],[]⟩
abbrev ajP:Q7:=[.d (.slice .bool),.d (.slice .bool)]
abbrev ajQ:Q7:=[.d .bool]
@[irreducible] def ZF:Sc ajP ajQ:=RH E R n false (afM n) (YV n) am1 Tryz.f121 ajP ajQ
def ajR:RJ:=Sr 121 ajP ajQ (ZF n) (afM n)
theorem atb:Ro E (ajR n):=RZ (ata n) (afK n) (by unfold ZF;rfl) Tryz.func121 (by kernel_rfl)
def atc:Ru:=⟨[],[]⟩
abbrev ajS:Q7:=[Q0,Q0,.Q5 [.fn 118 [] [.Q5 [Q0,.d .str,Q0,Q0,.d .str,YB] 0,.Q5 [.d .str,Q0,Q0,Q0,.d (.slice .str)] 0]] 0]
abbrev ajT:Q7:=[.d .bool]
@[irreducible] def Xa:Sc ajS ajT:=RH E R n false (ajR n) (YV n) atc Tryz.f120 ajS ajT
def aaY:RJ:=Sr 120 ajS ajT (Xa n) (ajR n)
theorem ajU:Ro E (aaY n):=RZ (atb n) (afK n) (by unfold Xa;rfl) Tryz.func120 (by kernel_rfl)
def ajV:Ru:=⟨[(4,⟨[0,1],[1000001],⟨[(5,Q0)],[R8]⟩,[(.exit 0,⟨[],[R8]⟩),(.ret,⟨[(4,.sub 1000000 (.int .i64))],[R8]⟩)]⟩),
 (9,⟨[0,1,6],[1000001],⟨[(5,Q0),(7,Q0)],[R8]⟩,[(.exit 2,⟨[(5,Q0)],[R8]⟩)]⟩)],[]⟩
abbrev ajW:Q7:=[.sub 1000000 (.int .i64),.fn 120 [] [.ref 1000001 0]]
abbrev ajX:Q7:=[.sub 1000000 (.int .i64)]
abbrev ajY:List (Nat×Sy):=[R8,(1000001,.cells [.fn 118 [] [.Q5 [Q0,.d .str,Q0,Q0,.d .str,YB] 0,.Q5 [.d .str,Q0,Q0,Q0,.d (.slice .str)] 0]])]
@[irreducible] def Zj:Vr ajW ajY ajX:=UO E R n false (aaY n) (YV n) ajV Tryz.f119 ajW ajY ajX
def ajZ:IR R:=VN 119 ajW ajY ajX (Zj n) (YV n)
theorem atd:TU E (ajZ n):=Wj (ajU n) (afK n) (by unfold Zj;rfl) Tryz.func119 (by kernel_rfl)
def ate:Ru:=⟨[],[]⟩
abbrev aj0:Q7:=[.d (.st 1),TH,.sub 1000000 (.int .i64)]
abbrev aj1:Q7:=[.sub 1000000 (.int .i64)]
abbrev aj2:List (Nat×Sy):=[R8]
@[irreducible] def ZO:Vr aj0 aj2 aj1:=UO E R n false (aaY n) (ajZ n) ate Tryz.f104 aj0 aj2 aj1
def Wx:IR R:=VN 104 aj0 aj2 aj1 (ZO n) (ajZ n)
theorem acE:TU E (Wx n):=Wj (ajU n) (atd n) (by unfold ZO;rfl) Tryz.func104 (by kernel_rfl)
def afN:Ru:=⟨[(4,⟨[2,3,5],[],⟨[],[(5,.cells [.vw 99999 (.int .i64)]),(99999,.arr (.int .i64))]⟩,[(.normal,⟨[],[(5,.cells [.vw 99999 (.int .i64)]),(99999,.arr (.int .i64))]⟩)]⟩)],[]⟩
abbrev aj3:Q7:=[.d (.st 1),TH]
abbrev aj4:Q7:=[.d (.slice (.int .i64))]
@[irreducible] def Zu (p:Lv R.T aj3):Option (Lv R.T aj4):=RH E R n true (aaY n) (Wx n) afN Tryz.f94 aj3 aj4 p
def adT:RJ:=Sr 94 aj3 aj4 (Zu n) (aaY n)
theorem atf:Ro E (adT n):=RZ (ajU n) (acE n) (by unfold Zu;rfl) Tryz.func94 (by kernel_rfl)
def adU:Ru:=⟨[(4,⟨[2,5],[5],⟨[],[(11,.map .str .bool)]⟩,[(.normal,⟨[],[(11,.map .str .bool)]⟩)]⟩),
 (9,⟨[5,29,30],[5,11],⟨[(7,.l (.own 45) .str),(8,.d .bool),(31,Q0)],[]⟩,[(.exit 2,⟨[(7,.l (.own 45) .str)],[]⟩)]⟩)],[]⟩
abbrev aj5:Q7:=[.d (.st 1),TH]
abbrev aj6:Q7:=[.d (.slice .str)]
@[irreducible] def Zh:Sc aj5 aj6:=RH E R n false (adT n) (Wx n) adU Tryz.f95 aj5 aj6
def adV:RJ:=Sr 95 aj5 aj6 (Zh n) (adT n)
theorem atg:Ro E (adV n):=RZ (atf n) (acE n) (by unfold Zh;rfl) Tryz.func95 (by kernel_rfl)
def aj7:Ru:=⟨[(4,⟨[2,17,18],[],⟨[(5,.l (.own 32) (.st 7)),(19,Q0)],[]⟩,[(.exit 0,⟨[(5,.l (.own 32) (.st 7))],[]⟩)]⟩),
 (10,⟨[2,37,38],[],⟨[(5,.l (.own 32) (.st 7)),(39,Q0)],[]⟩,[(.exit 2,⟨[(5,.l (.own 32) (.st 7))],[]⟩)]⟩)],[]⟩
abbrev aj8:Q7:=[.d (.st 1),TH]
abbrev aj9:Q7:=[.d (.slice (.st 7))]
@[irreducible] def Zn:Sc aj8 aj9:=RH E R n false (adV n) (Wx n) aj7 Tryz.f78 aj8 aj9
def adW:RJ:=Sr 78 aj8 aj9 (Zn n) (adV n)
theorem ath:Ro E (adW n):=RZ (atg n) (acE n) (by unfold Zn;rfl) Tryz.func78 (by kernel_rfl)
def adX:Ru:=⟨[(3,⟨[3,5,10,11],[],⟨[(12,Q0)],[(5,.cells [.l (.own 34) (.slice (.st 7))])]⟩,[(.exit 0,⟨[],[(5,.cells [.l (.own 34) (.slice (.st 7))])]⟩)]⟩),
 (7,⟨[3,5,7,10,11,12],[7],⟨[],[(5,.cells [.l (.own 34) (.slice (.st 7))])]⟩,[(.normal,⟨[],[(5,.cells [.l (.own 34) (.slice (.st 7))])]⟩),(.exit 2,⟨[],[(5,.cells [.l (.own 34) (.slice (.st 7))])]⟩)]⟩)],[]⟩
abbrev akb:Q7:=[.d (.st 2),TH]
abbrev akc:Q7:=[.d (.slice (.slice (.st 7)))]
@[irreducible] def Zl:Sc akb akc:=RH E R n false (adW n) (Wx n) adX Tryz.f56 akb akc
def am2:RJ:=Sr 56 akb akc (Zl n) (adW n)
theorem ati:Ro E (am2 n):=RZ (ath n) (acE n) (by unfold Zl;rfl) Tryz.func56 (by kernel_rfl)
abbrev adY:Q7:=[.d (.slice (.slice (.st 7))),TH]
abbrev adZ:Q7:=[.d (.slice (.st 3)),.d .bool]
@[irreducible] def Xw (n:Nat)(p:Lv R.T adY):Option (Lv R.T adZ):=abD p.1 p.2
theorem atj (p:Lv R.T adY):Xw n p=abD p.1 p.2:=by unfold Xw;rfl
theorem atl (p:Lv R.T adY)(x:Lv R.T adZ)(h:Xw n p=some x):Pure E 58 (Ri R adY p) (SA (Ri R adZ x)):=by unfold Xw at h;exact arH p x h
def akd:RJ:=Ut 58 ⟨adY,adZ,Xw n,SE R adZ,false⟩ (am2 n)
theorem atm:Ro E (akd n):=TF (ati n) (atl n)
def atn:Ru:=⟨[],[]⟩
abbrev ake:Q7:=[.d (.st 2),TH]
abbrev akf:Q7:=[.d (.slice (.st 3)),.d .bool,Q0]
@[irreducible] def Xh:Sc ake akf:=RH E R n false (akd n) (Wx n) atn Tryz.f26 ake akf
def am3:RJ:=Sr 26 ake akf (Xh n) (akd n)
theorem ato:Ro E (am3 n):=RZ (atm n) (acE n) (by unfold Xh;rfl) Tryz.func26 (by kernel_rfl)
def atp:Ru:=⟨[],[]⟩
abbrev afO:Q7:=[.d (.st 2),TH,.d (.slice (.st 3))]
abbrev afP:Q7:=[.d .bool]
@[irreducible] def Xi:Sc afO afP:=RH E R n false (am3 n) (Wx n) atp Tryz.f7 afO afP
theorem atq (p:Lv R.T afO)(x:Lv R.T afP)(h:Xi n p=some x):Pure E 7 (Ri R afO p) (SA (Ri R afP x)):=by unfold Xi at h;exact UQ Ua (ato n) (acE n) h Tryz.func7 rfl rfl rfl rfl (by kernel_rfl)
end Sh
