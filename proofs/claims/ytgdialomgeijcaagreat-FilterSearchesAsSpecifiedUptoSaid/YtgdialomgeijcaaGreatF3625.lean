import Derived.Test.YtgdialomgeijcaaGreatF3624
set_option linter.all false
noncomputable section
open Go Go.Proofs Aq
namespace Sh
set_option maxRecDepth 100000
variable (n:Nat)
def ahM:Rs:=⟨[(2,⟨[1,2],[2],⟨[(5,Q0)],[]⟩,[(.exit 0,⟨[],[]⟩),(.ret,⟨[(4,.d .bool)],[]⟩)]⟩),
 (8,⟨[1,2,5,6],[2,6],⟨[(7,Q0)],[]⟩,[(.exit 2,⟨[],[]⟩),(.ret,⟨[(4,.d .bool)],[]⟩)]⟩)],[]⟩
abbrev ahN:Q6:=[.d (.st 2),Q0]
abbrev ahO:Q6:=[.d .bool]
@[irreducible] def Zi:R5 ahN ahO:=Rz E R n false (adG n) Rx ahM Tryz.f46 ahN ahO
def ahP:RG:=Sj 46 ahN ahO (Zi n) (adG n)
theorem aso:Rq E (ahP n):=RN (arU n) Sb (by unfold Zi;rfl) Tryz.func46 (by kernel_rfl)
def asq:Rs:=⟨[],[]⟩
abbrev ahQ:Q6:=[Q0]
abbrev ahR:Q6:=[.d .bool]
@[irreducible] def Xu:R5 ahQ ahR:=Rz E R n false (ahP n) Rx asq Tryz.f73 ahQ ahR
def afD:RG:=Sj 73 ahQ ahR (Xu n) (ahP n)
theorem asr:Rq E (afD n):=RN (aso n) Sb (by unfold Xu;rfl) Tryz.func73 (by kernel_rfl)
def am7:Rs:=⟨[(2,⟨[0,1],[],⟨[(5,Q0)],[]⟩,[(.exit 0,⟨[],[]⟩),(.ret,⟨[(4,.d .bool)],[]⟩)]⟩)],[]⟩
abbrev ahS:Q6:=[.d (.slice .str),.d .str]
abbrev ahT:Q6:=[.d .bool]
@[irreducible] def ZF:R5 ahS ahT:=Rz E R n false (afD n) Rx am7 Tryz.f83 ahS ahT
def afE:RG:=Sj 83 ahS ahT (ZF n) (afD n)
theorem asu:Rq E (afE n):=RN (asr n) Sb (by unfold ZF;rfl) Tryz.func83 (by kernel_rfl)
def am8:Rs:=⟨[(2,⟨[0],[],⟨[(3,Q0)],[]⟩,[(.exit 0,⟨[],[]⟩),(.ret,⟨[(2,.d .bool)],[]⟩)]⟩)],[]⟩
abbrev ahU:Q6:=[.d .str]
abbrev ahV:Q6:=[.d .bool]
@[irreducible] def Zy:R5 ahU ahV:=Rz E R n false (afE n) Rx am8 Tryz.f87 ahU ahV
def adO:RG:=Sj 87 ahU ahV (Zy n) (afE n)
theorem asw:Rq E (adO n):=RN (asu n) Sb (by unfold Zy;rfl) Tryz.func87 (by kernel_rfl)
def ahW:Rs:=⟨[(4,⟨[0],[],⟨[(3,Q0)],[]⟩,[(.exit 0,⟨[],[]⟩),(.ret,⟨[(2,Q0)],[]⟩)]⟩),
 (9,⟨[0],[],⟨[(4,Q0)],[]⟩,[(.exit 2,⟨[],[]⟩),(.ret,⟨[(2,Q0)],[]⟩)]⟩)],[]⟩
abbrev ahX:Q6:=[.d (.slice .str)]
abbrev ahY:Q6:=[Q0]
@[irreducible] def Zf:R5 ahX ahY:=Rz E R n false (adO n) Rx ahW Tryz.f88 ahX ahY
def ahZ:RG:=Sj 88 ahX ahY (Zf n) (adO n)
theorem asx:Rq E (ahZ n):=RN (asw n) Sb (by unfold Zf;rfl) Tryz.func88 (by kernel_rfl)
def asy:Rs:=⟨[],[]⟩
abbrev ah0:Q6:=[.d (.st 1),.d .str]
abbrev ah1:Q6:=[Q0]
@[irreducible] def Xa:R5 ah0 ah1:=Rz E R n false (ahZ n) Rx asy Tryz.f74 ah0 ah1
def afF:RG:=Sj 74 ah0 ah1 (Xa n) (ahZ n)
theorem asz:Rq E (afF n):=RN (asx n) Sb (by unfold Xa;rfl) Tryz.func74 (by kernel_rfl)
def am9:Rs:=⟨[(7,⟨[1],[1],⟨[(3,.d .str),(4,Q0)],[]⟩,[(.exit 0,⟨[],[]⟩),(.ret,⟨[(2,Q0)],[]⟩)]⟩)],[]⟩
abbrev ah2:Q6:=[.d (.st 2)]
abbrev ah3:Q6:=[Q0]
@[irreducible] def Zq:R5 ah2 ah3:=Rz E R n false (afF n) Rx am9 Tryz.f47 ah2 ah3
def ah4:RG:=Sj 47 ah2 ah3 (Zq n) (afF n)
theorem asA:Rq E (ah4 n):=RN (asz n) Sb (by unfold Zq;rfl) Tryz.func47 (by kernel_rfl)
def asB:Rs:=⟨[],[]⟩
abbrev ah5:Q6:=[.d (.st 2)]
abbrev ah6:Q6:=[.d .bool]
@[irreducible] def Xh:R5 ah5 ah6:=Rz E R n false (ah4 n) Rx asB Tryz.f18 ah5 ah6
def ah7:RG:=Sj 18 ah5 ah6 (Xh n) (ah4 n)
theorem ah8:Rq E (ah7 n):=RN (asA n) Sb (by unfold Xh;rfl) Tryz.func18 (by kernel_rfl)
def ah9:Rs:=⟨[(3,⟨[1],[1],⟨[(3,.l (.own 26) (.st 0)),(4,Q0)],[]⟩,[(.exit 0,⟨[(3,.l (.own 26) (.st 0))],[]⟩)]⟩)],[]⟩
abbrev Yi:Q6:=[SL]
abbrev YV:Q6:=[YF]
def YX:Nat->List Sk
 |_=>Yi
def WL:Nat->List Sk
 |_=>YV
def asC:Nat->Rs
 |_=>ah9
def asD:Nat->Func
 |_=>Tryz.f39
def adP (g:(i:Nat)->FN R.T (YX i)->Option (FN R.T (WL i))):Nat->List (FR R):=Uh 39 ⟨YX 0,WL 0,g 0,Sz R (WL 0),false⟩ (ah7 n)
def WM (n:Nat):Nat->(i:Nat)->FN R.T (YX i)->Option (FN R.T (WL i))
 |0,_,_=>none|m+1,i,p=>Rz E R n false (adP n (WM n m)) Rx (asC i) (asD i) (YX i) (WL i) p
attribute [irreducible] WM
theorem ana (n m:Nat)(p:FN R.T Yi):WM n (m+1) 0 p=Rz E R n false (adP n (WM n m)) Rx ah9 Tryz.f39 Yi YV p:=by kernel_rfl
theorem anb (p:FN R.T Yi):WM n 0 0 p=none:=by kernel_rfl
theorem asE (p:FN R.T (YX 0))(x:FN R.T (WL 0))(h:WM n 0 0 p=some x):Pure E 39 (Ri R (YX 0) p) (Sy (Ri R (WL 0) x)):=absurd ((anb n p).symm.trans h) nofun
theorem asF (n m:Nat)(hk:Rq E (adP n (WM n m)))(p:FN R.T (YX 0))(x:FN R.T (WL 0))(h:WM n (m+1) 0 p=some x):Pure E 39 (Ri R (YX 0) p) (Sy (Ri R (WL 0) x)):=
 Uz (args:=Yi) (res:=YV) TR hk Sb ((ana n m p).symm.trans h) Tryz.func39 rfl rfl rfl rfl (by kernel_rfl)
theorem anc (n:Nat):∀m,Rq E (adP n (WM n m))
 |0=>Tv (f:=39) (r:=⟨YX 0,WL 0,WM n 0 0,Sz R (WL 0),false⟩) (ah8 n) (asE n)|m+1=>Tv (f:=39) (r:=⟨YX 0,WL 0,WM n (m+1) 0,Sz R (WL 0),false⟩) (ah8 n) (asF n m (anc n m))
@[irreducible] def acM (n m:Nat)(p:FN R.T Yi):Option (FN R.T YV):=WM n m 0 p
@[irreducible] def QY (p:FN R.T Yi):Option (FN R.T YV):=acM n n p
theorem asG (p:FN R.T Yi)(x:FN R.T YV)(h:QY n p=some x):Pure E 39 (Ri R Yi p) (Sy (Ri R YV x)):=by
 unfold QY acM at h;cases n with
 |zero=>exact absurd ((anb 0 p).symm.trans h) nofun|succ n=>exact Uz (args:=Yi) (res:=YV) TR (anc (n+1) n) Sb ((ana (n+1) n p).symm.trans h) Tryz.func39 rfl rfl rfl rfl (by kernel_rfl)
def aia:RG:=Uh 39 ⟨Yi,YV,QY n,Sz R YV,false⟩ (ah7 n)
theorem asH:Rq E (aia n):=Tv (ah8 n) (asG n)
def asI:Rs:=⟨[],[]⟩
abbrev aib:Q6:=[SL]
abbrev aic:Q6:=[Q0]
@[irreducible] def ZX:R5 aib aic:=Rz E R n false (aia n) Rx asI Tryz.f15 aib aic
def aie:RG:=Sj 15 aib aic (ZX n) (aia n)
theorem aif:Rq E (aie n):=RN (asH n) Sb (by unfold ZX;rfl) Tryz.func15 (by kernel_rfl)
def aii:Rs:=⟨[(4,⟨[1,2],[2],⟨[(5,Q0)],[]⟩,[(.exit 0,⟨[],[]⟩),(.ret,⟨[(4,.d .bool)],[]⟩)]⟩)],[]⟩
abbrev Yj:Q6:=[SL,Q0]
abbrev YZ:Q6:=[.d .bool]
def Y6:Nat->List Sk
 |_=>Yj
def WO:Nat->List Sk
 |_=>YZ
def asJ:Nat->Rs
 |_=>aii
def asK:Nat->Func
 |_=>Tryz.f10
def adQ (g:(i:Nat)->FN R.T (Y6 i)->Option (FN R.T (WO i))):Nat->List (FR R):=Uh 10 ⟨Y6 0,WO 0,g 0,Sz R (WO 0),false⟩ (aie n)
def WQ (n:Nat):Nat->(i:Nat)->FN R.T (Y6 i)->Option (FN R.T (WO i))
 |0,_,_=>none|m+1,i,p=>Rz E R n false (adQ n (WQ n m)) Rx (asJ i) (asK i) (Y6 i) (WO i) p
attribute [irreducible] WQ
theorem ane (n m:Nat)(p:FN R.T Yj):WQ n (m+1) 0 p=Rz E R n false (adQ n (WQ n m)) Rx aii Tryz.f10 Yj YZ p:=by kernel_rfl
theorem anf (p:FN R.T Yj):WQ n 0 0 p=none:=by kernel_rfl
theorem asL (p:FN R.T (Y6 0))(x:FN R.T (WO 0))(h:WQ n 0 0 p=some x):Pure E 10 (Ri R (Y6 0) p) (Sy (Ri R (WO 0) x)):=absurd ((anf n p).symm.trans h) nofun
theorem asM (n m:Nat)(hk:Rq E (adQ n (WQ n m)))(p:FN R.T (Y6 0))(x:FN R.T (WO 0))(h:WQ n (m+1) 0 p=some x):Pure E 10 (Ri R (Y6 0) p) (Sy (Ri R (WO 0) x)):=
 Uz (args:=Yj) (res:=YZ) TR hk Sb ((ane n m p).symm.trans h) Tryz.func10 rfl rfl rfl rfl (by kernel_rfl)
theorem ang (n:Nat):∀m,Rq E (adQ n (WQ n m))
 |0=>Tv (f:=10) (r:=⟨Y6 0,WO 0,WQ n 0 0,Sz R (WO 0),false⟩) (aif n) (asL n)|m+1=>Tv (f:=10) (r:=⟨Y6 0,WO 0,WQ n (m+1) 0,Sz R (WO 0),false⟩) (aif n) (asM n m (ang n m))
@[irreducible] def abP (n m:Nat)(p:FN R.T Yj):Option (FN R.T YZ):=WQ n m 0 p
@[irreducible] def QQ (p:FN R.T Yj):Option (FN R.T YZ):=abP n n p
theorem asN (p:FN R.T Yj)(x:FN R.T YZ)(h:QQ n p=some x):Pure E 10 (Ri R Yj p) (Sy (Ri R YZ x)):=by
 unfold QQ abP at h;cases n with
 |zero=>exact absurd ((anf 0 p).symm.trans h) nofun|succ n=>exact Uz (args:=Yj) (res:=YZ) TR (ang (n+1) n) Sb ((ane (n+1) n p).symm.trans h) Tryz.func10 rfl rfl rfl rfl (by kernel_rfl)
def aij:RG:=Uh 10 ⟨Yj,YZ,QQ n,Sz R YZ,false⟩ (aie n)
theorem asO:Rq E (aij n):=Tv (aif n) (asN n)
def asP:Rs:=⟨[],[]⟩
abbrev aik:Q6:=[SL,SL]
abbrev ail:Q6:=[SL]
@[irreducible] def Xy:R5 aik ail:=Rz E R n false (aij n) Rx asP Tryz.f33 aik ail
def afG:RG:=Sj 33 aik ail (Xy n) (aij n)
theorem asQ:Rq E (afG n):=RN (asO n) Sb (by unfold Xy;rfl) Tryz.func33 (by kernel_rfl)
def anh:Rs:=⟨[(2,⟨[0,1],[],⟨[(5,Q0)],[]⟩,[(.exit 0,⟨[],[]⟩),(.ret,⟨[(4,.d .bool)],[]⟩)]⟩)],[]⟩
abbrev ain:Q6:=[YF,.d .str]
abbrev aio:Q6:=[.d .bool]
@[irreducible] def ZM:R5 ain aio:=Rz E R n false (afG n) Rx anh Tryz.f79 ain aio
def afH:RG:=Sj 79 ain aio (ZM n) (afG n)
theorem asR:Rq E (afH n):=RN (asQ n) Sb (by unfold ZM;rfl) Tryz.func79 (by kernel_rfl)
def ani:Rs:=⟨[(2,⟨[0,1,2,3],[],⟨[(9,Q0)],[]⟩,[(.exit 0,⟨[],[]⟩),(.ret,⟨[(8,.d .bool)],[]⟩)]⟩)],[]⟩
abbrev aip:Q6:=[YF,.d .str,Q0,Q0]
abbrev aiq:Q6:=[.d .bool]
@[irreducible] def ZJ:R5 aip aiq:=Rz E R n false (afH n) Rx ani Tryz.f96 aip aiq
def abQ:RG:=Sj 96 aip aiq (ZJ n) (afH n)
theorem asS:Rq E (abQ n):=RN (asR n) Sb (by unfold ZJ;rfl) Tryz.func96 (by kernel_rfl)
def adR:Rs:=⟨[(5,⟨[1,2],[],⟨[(5,.l (.own 81) (.st 6)),(6,.d .bool),(7,Q0)],[]⟩,[(.exit 0,⟨[(5,.l (.own 81) (.st 6))],[]⟩)]⟩),
 (9,⟨[1,2,6,7],[],⟨[(5,.l (.own 81) (.st 6)),(8,.d .bool),(9,Q0)],[]⟩,[(.exit 2,⟨[(5,.l (.own 81) (.st 6)),(8,.d .bool)],[]⟩)]⟩),
 (18,⟨[1,2],[],⟨[(5,.l (.own 99) (.st 6)),(10,Q0)],[]⟩,[(.ret,⟨[(4,.l (.own 99) (.st 6))],[]⟩)]⟩),
 (20,⟨[1,2,10],[],⟨[(5,.l (.own 99) (.st 6)),(11,Q0),(12,Q0)],[]⟩,[(.exit 6,⟨[(5,.l (.own 99) (.st 6)),(11,Q0)],[]⟩)]⟩)],[]⟩
abbrev air:Q6:=[.d (.st 1),YF]
abbrev ais:Q6:=[.d (.slice (.st 6))]
@[irreducible] def QP:R5 air ais:=Rz E R n false (abQ n) Rx adR Tryz.f80 air ais
def afI:RG:=Sj 80 air ais (QP n) (abQ n)
theorem asT:Rq E (afI n):=RN (asS n) Sb (by unfold QP;rfl) Tryz.func80 (by kernel_rfl)
def anj:Rs:=⟨[(4,⟨[2,5],[2],⟨[(6,.l (.own 36) (.slice (.st 6))),(7,Q0)],[]⟩,[(.exit 0,⟨[(6,.l (.own 36) (.slice (.st 6)))],[]⟩)]⟩)],[]⟩
abbrev ait:Q6:=[.d (.st 2),SL]
abbrev aiu:Q6:=[.d (.slice (.slice (.st 6)))]
@[irreducible] def ZG:R5 ait aiu:=Rz E R n false (afI n) Rx anj Tryz.f57 ait aiu
def afJ:RG:=Sj 57 ait aiu (ZG n) (afI n)
theorem asU:Rq E (afJ n):=RN (asT n) Sb (by unfold ZG;rfl) Tryz.func57 (by kernel_rfl)
def ank:Rs:=⟨[(4,⟨[5],[],⟨[(6,Q0),(7,Q0)],[]⟩,[(.exit 0,⟨[(6,Q0)],[]⟩),(.ret,⟨[(4,Q0)],[]⟩)]⟩)],[]⟩
abbrev aiv:Q6:=[.d (.st 2),SL]
abbrev aiw:Q6:=[Q0]
@[irreducible] def ZK:R5 aiv aiw:=Rz E R n false (afJ n) Rx ank Tryz.f24 aiv aiw
def aix:RG:=Sj 24 aiv aiw (ZK n) (afJ n)
theorem asV:Rq E (aix n):=RN (asU n) Sb (by unfold ZK;rfl) Tryz.func24 (by kernel_rfl)
def asX:Rs:=⟨[],[]⟩
abbrev aiy:Q6:=[.d (.st 2),SL,SL]
abbrev aiz:Q6:=[.d .bool]
@[irreducible] def Xv:R5 aiy aiz:=Rz E R n false (aix n) Rx asX Tryz.f25 aiy aiz
def anl:RG:=Sj 25 aiy aiz (Xv n) (aix n)
theorem asY:Rq E (anl n):=RN (asV n) Sb (by unfold Xv;rfl) Tryz.func25 (by kernel_rfl)
abbrev adS:Q6:=[]
abbrev adT:Q6:=[.d .bool]
@[irreducible] def Xm (n:Nat)(p:FN R.T adS):Option (FN R.T adT):=some true
theorem asZ (p:FN R.T adS):Xm n p=some true:=by unfold Xm;rfl
theorem as0 (p:FN R.T adS)(x:FN R.T adT)(h:Xm n p=some x):Pure E 11 (Ri R adS p) (Sy (Ri R adT x)):=by unfold Xm at h;exact aqw p x h
def aiA:RG:=Uh 11 ⟨adS,adT,Xm n,Sz R adT,false⟩ (anl n)
theorem as1:Rq E (aiA n):=Tv (asY n) (as0 n)
def as2:Rs:=⟨[],[]⟩
abbrev aiB:Q6:=[SL]
abbrev aiC:Q6:=[.fn 69 [] [.Q5 [Q0,.d .str,Q0,Q0,.d .str,YF] 0]]
@[irreducible] def ZT:R5 aiB aiC:=Rz E R n false (aiA n) Rx as2 Tryz.f38 aiB aiC
def afK:RG:=Sj 38 aiB aiC (ZT n) (aiA n)
theorem as3:Rq E (afK n):=RN (as1 n) Sb (by unfold ZT;rfl) Tryz.func38 (by kernel_rfl)
def afL:Rs:=⟨[(3,⟨[3],[],⟨[],[(3,.cells [Q0])]⟩,[(.normal,⟨[],[(3,.cells [Q0])]⟩),(.exit 0,⟨[],[(3,.cells [Q0])]⟩)]⟩)],[]⟩
abbrev aiD:Q6:=[SL]
abbrev aiE:Q6:=[Q0]
@[irreducible] def Zz:R5 aiD aiE:=Rz E R n false (afK n) Rx afL Tryz.f14 aiD aiE
def aiF:RG:=Sj 14 aiD aiE (Zz n) (afK n)
theorem as4:Rq E (aiF n):=RN (as3 n) Sb (by unfold Zz;rfl) Tryz.func14 (by kernel_rfl)
def as5:Rs:=⟨[],[]⟩
abbrev aiG:Q6:=[SL]
abbrev aiH:Q6:=[.d .bool]
@[irreducible] def Xi:R5 aiG aiH:=Rz E R n false (aiF n) Rx as5 Tryz.f48 aiG aiH
def aiI:RG:=Sj 48 aiG aiH (Xi n) (aiF n)
theorem as6:Rq E (aiI n):=RN (as4 n) Sb (by unfold Xi;rfl) Tryz.func48 (by kernel_rfl)
def as7:Rs:=⟨[],[]⟩
abbrev aiJ:Q6:=[.d (.st 1),.Q5 [.d .str] 0]
abbrev aiK:Q6:=[.d .bool]
@[irreducible] def Xz:R5 aiJ aiK:=Rz E R n false (aiI n) Rx as7 Tryz.f76 aiJ aiK
def afM:RG:=Sj 76 aiJ aiK (Xz n) (aiI n)
theorem as8:Rq E (afM n):=RN (as6 n) Sb (by unfold Xz;rfl) Tryz.func76 (by kernel_rfl)
def anm:Rs:=⟨[(2,⟨[0,1,7],[],⟨[(8,Q0)],[]⟩,[(.exit 0,⟨[],[]⟩),(.ret,⟨[(4,Q0)],[]⟩)]⟩)],[]⟩
abbrev aiL:Q6:=[.d (.slice (.st 1)),.fn 76 [] [.Q5 [.d .str] 0]]
abbrev aiM:Q6:=[Q0]
@[irreducible] def ZP:R5 aiL aiM:=Rz E R n false (afM n) Rx anm Tryz.f75 aiL aiM
def aiN:RG:=Sj 75 aiL aiM (ZP n) (afM n)
theorem as9:Rq E (aiN n):=RN (as8 n) Sb (by unfold ZP;rfl) Tryz.func75 (by kernel_rfl)
def ata:Rs:=⟨[],[]⟩
abbrev aiO:Q6:=[.d (.st 2),.d .str]
abbrev aiP:Q6:=[.d (.st 1),.d .bool]
@[irreducible] def Xj:R5 aiO aiP:=Rz E R n false (aiN n) Rx ata Tryz.f49 aiO aiP
def afN:RG:=Sj 49 aiO aiP (Xj n) (aiN n)
theorem atb:Rq E (afN n):=RN (as9 n) Sb (by unfold Xj;rfl) Tryz.func49 (by kernel_rfl)
def afO:Rs:=⟨[(5,⟨[2,4],[2],⟨[],[(4,.cells [Q0])]⟩,[(.normal,⟨[],[(4,.cells [Q0])]⟩),(.ret,⟨[],[(4,.cells [Q0])]⟩)]⟩)],[]⟩
abbrev aiQ:Q6:=[.d (.st 2),SL]
abbrev aiR:Q6:=[Q0]
@[irreducible] def Zn:R5 aiQ aiR:=Rz E R n false (afN n) Rx afO Tryz.f19 aiQ aiR
def aiS:RG:=Sj 19 aiQ aiR (Zn n) (afN n)
theorem atc:Rq E (aiS n):=RN (atb n) Sb (by unfold Zn;rfl) Tryz.func19 (by kernel_rfl)
def atd:Rs:=⟨[],[]⟩
abbrev aiT:Q6:=[.d (.int .u32)]
abbrev aiU:Q6:=[Q0]
@[irreducible] def XD:R5 aiT aiU:=Rz E R n false (aiS n) Rx atd Tryz.f115 aiT aiU
def aiV:RG:=Sj 115 aiT aiU (XD n) (aiS n)
theorem ate:Rq E (aiV n):=RN (atc n) Sb (by unfold XD;rfl) Tryz.func115 (by kernel_rfl)
def atf:Rs:=⟨[],[]⟩
abbrev aiW:Q6:=[.d (.int .u64)]
abbrev aiX:Q6:=[Q0]
@[irreducible] def Xn:R5 aiW aiX:=Rz E R n false (aiV n) Rx atf Tryz.f116 aiW aiX
def aiY:RG:=Sj 116 aiW aiX (Xn n) (aiV n)
theorem atg:Rq E (aiY n):=RN (ate n) Sb (by unfold Xn;rfl) Tryz.func116 (by kernel_rfl)
def ath:Rs:=⟨[],[]⟩
abbrev aiZ:Q6:=[.d (.int .u64)]
abbrev ai0:Q6:=[Q0]
@[irreducible] def ZY:R5 aiZ ai0:=Rz E R n false (aiY n) Rx ath Tryz.f102 aiZ ai0
def ai1:RG:=Sj 102 aiZ ai0 (ZY n) (aiY n)
theorem ati:Rq E (ai1 n):=RN (atg n) Sb (by unfold ZY;rfl) Tryz.func102 (by kernel_rfl)
def atj:Rs:=⟨[],[]⟩
abbrev ai2:Q6:=[Q0]
abbrev ai3:Q6:=[.d .bool]
@[irreducible] def Xo:R5 ai2 ai3:=Rz E R n false (ai1 n) Rx atj Tryz.f71 ai2 ai3
def ai4:RG:=Sj 71 ai2 ai3 (Xo n) (ai1 n)
theorem atl:Rq E (ai4 n):=RN (ati n) Sb (by unfold Xo;rfl) Tryz.func71 (by kernel_rfl)
def atm:Rs:=⟨[],[]⟩
abbrev ai5:Q6:=[Q0,Q0]
abbrev ai6:Q6:=[.d .bool]
@[irreducible] def Xw:R5 ai5 ai6:=Rz E R n false (ai4 n) Rx atm Tryz.f133 ai5 ai6
def Yk:RG:=Sj 133 ai5 ai6 (Xw n) (ai4 n)
theorem afP:Rq E (Yk n):=RN (atl n) Sb (by unfold Xw;rfl) Tryz.func133 (by kernel_rfl)
def ai7:Rs:=⟨[(1,⟨[0,1,2],[],⟨[(6,Q0)],[Si]⟩,[(.exit 0,⟨[],[Si]⟩)]⟩),
 (4,⟨[0,1,2,6],[],⟨[(7,Q0)],[Si]⟩,[(.exit 2,⟨[],[Si]⟩)]⟩)],[]⟩
abbrev adU:Q6:=[.vw 1000000 (.int .i64),Q0,Q0]
abbrev adV:Q6:=[]
abbrev adW:List (Nat×SC):=[Si]
@[irreducible] def Zu:Vq adU adW adV:=UQ E R n false (Yk n) Rx ai7 Tryz.f127 adU adW adV
theorem atn:ado E 127 (⟨adU,adW,adV,Zu n⟩:FM R):=by intro p q y q' h;have h:Zu n p q=some (y,q'):=h;unfold Zu at h;exact agF TR (afP n) Sb h Tryz.func127 rfl (by kernel_rfl)
def afQ:IR R:=abK 127 ⟨adU,adW,adV,Zu n⟩ Rx
theorem ato:Ua E (afQ n):=afk (m:=⟨adU,adW,adV,Zu n⟩) Sb (atn n)
def ano:Rs:=⟨[(1,⟨[0,2,3],[],⟨[(8,Q0)],[Si]⟩,[(.exit 0,⟨[],[Si]⟩),(.ret,⟨[],[Si]⟩)]⟩)],[(5,⟨[0,2,3,8],[1000000],⟨[],[]⟩,[(.normal,⟨[(9,Q0)],[]⟩)]⟩)]⟩
abbrev ai8:Q6:=[.vw 1000000 (.int .i64),Q0,Q0,Q0]
abbrev ai9:Q6:=[]
abbrev aja:List (Nat×SC):=[Si]
@[irreducible] def ZN:Vq ai8 aja ai9:=UQ E R n false (Yk n) (afQ n) ano Tryz.f137 ai8 aja ai9
def adX:IR R:=VO 137 ai8 aja ai9 (ZN n) (afQ n)
theorem atp:Ua E (adX n):=Wd (afP n) (ato n) (by unfold ZN;rfl) Tryz.func137 (by kernel_rfl)
def ajb:Rs:=⟨[(4,⟨[0,6,7,8],[],⟨[(9,Q0)],[Si]⟩,[(.exit 0,⟨[],[Si]⟩)]⟩),
 (8,⟨[0,6,7],[],⟨[(10,Q0)],[Si]⟩,[(.exit 2,⟨[],[Si]⟩)]⟩)],[]⟩
abbrev ajc:Q6:=[.vw 1000000 (.int .i64),Q0,Q0]
abbrev ajd:Q6:=[]
abbrev aje:List (Nat×SC):=[Si]
@[irreducible] def ZA:Vq ajc aje ajd:=UQ E R n false (Yk n) (adX n) ajb Tryz.f128 ajc aje ajd
def afR:IR R:=VO 128 ajc aje ajd (ZA n) (adX n)
theorem anp:Ua E (afR n):=Wd (afP n) (atp n) (by unfold ZA;rfl) Tryz.func128 (by kernel_rfl)
def atq:Rs:=⟨[],[]⟩
abbrev ajf:Q6:=[Q0]
abbrev ajg:Q6:=[.d (.int .u64)]
@[irreducible] def Xk:R5 ajf ajg:=Rz E R n false (Yk n) (afR n) atq Tryz.f123 ajf ajg
def aav:RG:=Sj 123 ajf ajg (Xk n) (Yk n)
theorem acN:Rq E (aav n):=RN (afP n) (anp n) (by unfold Xk;rfl) Tryz.func123 (by kernel_rfl)
def atr:Rs:=⟨[],[]⟩
abbrev ajh:Q6:=[.ref 1000000 0]
abbrev aji:Q6:=[.d (.int .u64)]
abbrev ajj:List (Nat×SC):=[(1000000,.cells [.d (.int .u64)])]
@[irreducible] def ZR:Vq ajh ajj aji:=UQ E R n false (aav n) (afR n) atr Tryz.f124 ajh ajj aji
def afS:IR R:=VO 124 ajh ajj aji (ZR n) (afR n)
theorem att:Ua E (afS n):=Wd (acN n) (anp n) (by unfold ZR;rfl) Tryz.func124 (by kernel_rfl)
def anq:Rs:=⟨[(5,⟨[0,1,6,7,8],[],⟨[(9,Q0)],[(7,.cells [.d (.int .u64)]),Si]⟩,[(.exit 0,⟨[],[Si]⟩)]⟩)],[(10,⟨[0,1,6,7,8,9],[7,1000000],⟨[],[]⟩,[(.normal,⟨[(10,Q0)],[]⟩)]⟩)]⟩
abbrev ajk:Q6:=[.vw 1000000 (.int .i64),Q0,Q0]
abbrev ajl:Q6:=[]
abbrev ajm:List (Nat×SC):=[Si]
@[irreducible] def ZL:Vq ajk ajm ajl:=UQ E R n false (aav n) (afS n) anq Tryz.f129 ajk ajm ajl
def ajn:IR R:=VO 129 ajk ajm ajl (ZL n) (afS n)
theorem atu:Ua E (ajn n):=Wd (acN n) (att n) (by unfold ZL;rfl) Tryz.func129 (by kernel_rfl)
def atv:Rs:=⟨[],[]⟩
abbrev ajo:Q6:=[.d (.slice (.int .i64)),Q0,Q0,.ref 1000000 0]
abbrev ajp:Q6:=[Q0,Q0]
abbrev ajq:List (Nat×SC):=[(1000000,.cells [Q0])]
@[irreducible] def ZU:Vq ajo ajq ajp:=UQ E R n false (aav n) (ajn n) atv Tryz.f140 ajo ajq ajp
def ajr:IR R:=VO 140 ajo ajq ajp (ZU n) (ajn n)
theorem atw:Ua E (ajr n):=Wd (acN n) (atu n) (by unfold ZU;rfl) Tryz.func140 (by kernel_rfl)
def atx:Rs:=⟨[],[]⟩
abbrev ajs:Q6:=[.d (.slice (.int .i64)),Q0,Q0,Q0,.ref 1000000 0]
abbrev ajt:Q6:=[Q0]
abbrev aju:List (Nat×SC):=[(1000000,.cells [Q0])]
@[irreducible] def ZV:Vq ajs aju ajt:=UQ E R n false (aav n) (ajr n) atx Tryz.f139 ajs aju ajt
def ajv:IR R:=VO 139 ajs aju ajt (ZV n) (ajr n)
theorem aty:Ua E (ajv n):=Wd (acN n) (atw n) (by unfold ZV;rfl) Tryz.func139 (by kernel_rfl)
def atz:Rs:=⟨[],[]⟩
abbrev ajw:Q6:=[.d (.slice (.int .i64)),Q0,.ref 1000000 0]
abbrev ajx:Q6:=[Q0]
abbrev ajy:List (Nat×SC):=[(1000000,.cells [Q0])]
@[irreducible] def ZW:Vq ajw ajy ajx:=UQ E R n false (aav n) (ajv n) atz Tryz.f138 ajw ajy ajx
def adY:IR R:=VO 138 ajw ajy ajx (ZW n) (ajv n)
theorem anr:Ua E (adY n):=Wd (acN n) (aty n) (by unfold ZW;rfl) Tryz.func138 (by kernel_rfl)
def atA:Rs:=⟨[],[]⟩
abbrev ajz:Q6:=[.d (.slice (.int .i64)),Q0,Q0]
abbrev ajA:Q6:=[Q0,Q0]
@[irreducible] def XA:R5 ajz ajA:=Rz E R n false (aav n) (adY n) atA Tryz.f130 ajz ajA
def Uf:RG:=Sj 130 ajz ajA (XA n) (aav n)
theorem aa2:Rq E (Uf n):=RN (acN n) (anr n) (by unfold XA;rfl) Tryz.func130 (by kernel_rfl)
def ant:Rs:=⟨[(2,⟨[0],[],⟨[(6,Q0),(7,Q0)],[Si]⟩,[(.exit 0,⟨[],[Si]⟩)]⟩)],[]⟩
abbrev ajB:Q6:=[.vw 1000000 (.int .i64),Q0,Q0]
abbrev ajC:Q6:=[]
abbrev ajD:List (Nat×SC):=[Si]
@[irreducible] def ZD:Vq ajB ajD ajC:=UQ E R n false (Uf n) (adY n) ant Tryz.f131 ajB ajD ajC
def abR:IR R:=VO 131 ajB ajD ajC (ZD n) (adY n)
theorem atB:Ua E (abR n):=Wd (aa2 n) (anr n) (by unfold ZD;rfl) Tryz.func131 (by kernel_rfl)
def adZ:Rs:=⟨[(3,⟨[0,1,2],[],⟨[(7,Q0),(8,Q0)],[Si]⟩,[(.exit 0,⟨[],[Si]⟩),(.ret,⟨[(6,.d .bool)],[Si]⟩)]⟩),
 (5,⟨[0,1,2,8],[1000000],⟨[(7,Q0)],[]⟩,[(.exit 2,⟨[(7,Q0)],[]⟩)]⟩),
 (14,⟨[0,1,2,7,8],[],⟨[(9,Q0)],[Si]⟩,[(.exit 4,⟨[],[Si]⟩)]⟩),
 (20,⟨[0,1,2,7,8],[],⟨[(10,Q0)],[Si]⟩,[(.exit 6,⟨[],[Si]⟩)]⟩)],[(18,⟨[0,1,2,7,8],[],⟨[],[]⟩,[(.normal,⟨[],[Si]⟩)]⟩)]⟩
abbrev ajE:Q6:=[.vw 1000000 (.int .i64),Q0,Q0]
abbrev ajF:Q6:=[.d .bool]
abbrev ajG:List (Nat×SC):=[Si]
@[irreducible] def Zl:Vq ajE ajG ajF:=UQ E R n false (Uf n) (abR n) adZ Tryz.f132 ajE ajG ajF
def acO:IR R:=VO 132 ajE ajG ajF (Zl n) (abR n)
theorem atC:Ua E (acO n):=Wd (aa2 n) (atB n) (by unfold Zl;rfl) Tryz.func132 (by kernel_rfl)
def afT:Rs:=⟨[(503,⟨[0,1],[],⟨[(9,Q0),(10,Q0)],[Si]⟩,[(.exit 0,⟨[(9,Q0)],[Si]⟩)]⟩),
 (3,⟨[0,1,10],[1000000],⟨[(9,Q0)],[]⟩,[(.exit 2,⟨[(9,Q0)],[]⟩)]⟩),
 (5,⟨[0,1,9],[1000000],⟨[(10,Q0)],[]⟩,[(.exit 4,⟨[(10,Q0)],[]⟩)]⟩)],[]⟩
abbrev ajH:Q6:=[.vw 1000000 (.int .i64),Q0,Q0,Q0]
abbrev ajI:Q6:=[Q0]
abbrev ajJ:List (Nat×SC):=[Si]
@[irreducible] def Zt:Vq ajH ajJ ajI:=UQ E R n false (Uf n) (acO n) afT Tryz.f134 ajH ajJ ajI
def aa3:IR R:=VO 134 ajH ajJ ajI (Zt n) (acO n)
theorem atD:Ua E (aa3 n):=Wd (aa2 n) (atC n) (by unfold Zt;rfl) Tryz.func134 (by kernel_rfl)
def acP:Rs:=⟨[(3,⟨[0,1,11],[1000000],⟨[(10,Q0)],[]⟩,[(.exit 0,⟨[(10,Q0)],[]⟩)]⟩),
 (5,⟨[0,1,10],[1000000],⟨[(11,Q0)],[]⟩,[(.exit 2,⟨[(11,Q0)],[]⟩)]⟩),
 (513,⟨[0,1],[],⟨[(10,Q0),(11,Q0)],[Si]⟩,[(.exit 4,⟨[(11,Q0)],[Si]⟩)]⟩),
 (13,⟨[0,1,11],[1000000],⟨[(10,Q0)],[]⟩,[(.exit 6,⟨[(10,Q0)],[]⟩)]⟩),
 (15,⟨[0,1,10],[1000000],⟨[(11,Q0)],[]⟩,[(.exit 8,⟨[(11,Q0)],[]⟩)]⟩)],[]⟩
abbrev ajK:Q6:=[.vw 1000000 (.int .i64),Q0,Q0,Q0]
abbrev ajL:Q6:=[Q0,.d .bool]
abbrev ajM:List (Nat×SC):=[Si]
@[irreducible] def Ze:Vq ajK ajM ajL:=UQ E R n false (Uf n) (aa3 n) acP Tryz.f135 ajK ajM ajL
def ad1:IR R:=VO 135 ajK ajM ajL (Ze n) (aa3 n)
theorem anu:Ua E (ad1 n):=Wd (aa2 n) (atD n) (by unfold Ze;rfl) Tryz.func135 (by kernel_rfl)
def ad2:Rs:=⟨[(2,⟨[0],[],⟨[(1,Q0),(2,Q0),(3,Q0),(8,.d .bool),(9,.d .bool)],[Si]⟩,[(.ret,⟨[],[Si]⟩)]⟩)],[(10,⟨[0,1,2,8,9,10],[],⟨[],[]⟩,[(.normal,⟨[(3,Q0)],[Si]⟩)]⟩),(15,⟨[0,1,2,3,8,9,10],[],⟨[],[]⟩,[(.normal,⟨[(11,Q0),(12,Q0)],[Si]⟩)]⟩),(17,⟨[0,1,2,3,8,9,10,11],[],⟨[],[]⟩,[(.normal,⟨[],[Si]⟩),(.ret,⟨[],[Si]⟩)]⟩)]⟩
abbrev Wu:Q6:=[.vw 1000000 (.int .i64),Q0,Q0,Q0]
abbrev XV:Q6:=[]
abbrev VR:List (Nat×SC):=[Si]
def Yl (n:Nat):Nat->FN R.T Wu->Ud R.T VR->Option (FN R.T XV×Ud R.T VR)
 |0,_,_=>none|m+1,p,q=>UQ E R n false (Uf n) (abK 117 ⟨Wu,VR,XV,Yl n m⟩ (ad1 n)) ad2 Tryz.f117 Wu VR XV p q
attribute [irreducible] Yl
theorem atE (n m:Nat)(p:FN R.T Wu)(q:Ud R.T VR):Yl n (m+1) p q=UQ E R n false (Uf n) (abK 117 ⟨Wu,VR,XV,Yl n m⟩ (ad1 n)) ad2 Tryz.f117 Wu VR XV p q:=by kernel_rfl
theorem atF (p:FN R.T Wu)(q:Ud R.T VR):Yl n 0 p q=none:=by kernel_rfl
theorem anv (n:Nat):∀m,ado E 117 (⟨Wu,VR,XV,Yl n m⟩:FM R)
 |0=>fun p q y q' h=>absurd (((atF n p q).symm.trans h)) nofun
 |m+1=>fun p q y q' h=>agF TR (aa2 n) (afk (m:=⟨Wu,VR,XV,Yl n m⟩) (anu n) (anv n m)) ((atE n m p q).symm.trans h) Tryz.func117 rfl (by kernel_rfl)
@[irreducible] def QR:FN R.T Wu->Ud R.T VR->Option (FN R.T XV×Ud R.T VR):=Yl n n
theorem atG:ado E 117 (⟨Wu,VR,XV,QR n⟩:FM R):=by unfold QR;exact anv n n
def ajN:IR R:=abK 117 ⟨Wu,VR,XV,QR n⟩ (ad1 n)
theorem atH:Ua E (ajN n):=afk (m:=⟨Wu,VR,XV,QR n⟩) (anu n) (atG n)
def atI:Rs:=⟨[],[]⟩
abbrev ajO:Q6:=[.vw 1000000 (.int .i64)]
abbrev ajP:Q6:=[]
abbrev ajQ:List (Nat×SC):=[Si]
@[irreducible] def ZS:Vq ajO ajQ ajP:=UQ E R n false (Uf n) (ajN n) atI Tryz.f103 ajO ajQ ajP
def ad3:IR R:=VO 103 ajO ajQ ajP (ZS n) (ajN n)
theorem atJ:Ua E (ad3 n):=Wd (aa2 n) (atH n) (by unfold ZS;rfl) Tryz.func103 (by kernel_rfl)
def ajR:Rs:=⟨[(4,⟨[0],[],⟨[(3,Q0)],[Si]⟩,[(.exit 0,⟨[],[Si]⟩),(.ret,⟨[(2,.sub 1000000 (.int .i64))],[Si]⟩)]⟩),
 (9,⟨[0,4],[],⟨[(3,Q0),(5,Q0)],[Si]⟩,[(.exit 2,⟨[(3,Q0)],[Si]⟩)]⟩)],[]⟩
abbrev ajS:Q6:=[.vw 1000000 (.int .i64)]
abbrev ajT:Q6:=[.sub 1000000 (.int .i64)]
abbrev ajU:List (Nat×SC):=[Si]
@[irreducible] def Zg:Vq ajS ajU ajT:=UQ E R n false (Uf n) (ad3 n) ajR Tryz.f105 ajS ajU ajT
def Y7:IR R:=VO 105 ajS ajU ajT (Zg n) (ad3 n)
theorem afU:Ua E (Y7 n):=Wd (aa2 n) (atJ n) (by unfold Zg;rfl) Tryz.func105 (by kernel_rfl)
def afV:Rs:=⟨[(4,⟨[2,3,5],[3],⟨[],[(5,.cells [.l (.own 32) .bool])]⟩,[(.normal,⟨[],[(5,.cells [.l (.own 32) .bool])]⟩)]⟩)],[]⟩
abbrev ajV:Q6:=[Q0,.Q5 [Q0,.d .str,Q0,Q0,.d .str,YF] 0,.Q5 [.d .str,Q0,Q0,Q0,.d (.slice .str)] 0]
abbrev ajW:Q6:=[.d (.slice .bool)]
@[irreducible] def Zw:R5 ajV ajW:=Rz E R n false (Uf n) (Y7 n) afV Tryz.f118 ajV ajW
def afW:RG:=Sj 118 ajV ajW (Zw n) (Uf n)
theorem atK:Rq E (afW n):=RN (aa2 n) (afU n) (by unfold Zw;rfl) Tryz.func118 (by kernel_rfl)
def anw:Rs:=⟨[(4,⟨[0,1,12],[],⟨[(13,Q0)],[]⟩,[(.exit 0,⟨[],[]⟩),(.ret,⟨[(4,.d .bool)],[]⟩)]⟩)],[]⟩
abbrev ajX:Q6:=[.d (.slice .bool),.d (.slice .bool)]
abbrev ajY:Q6:=[.d .bool]
@[irreducible] def ZH:R5 ajX ajY:=Rz E R n false (afW n) (Y7 n) anw Tryz.f121 ajX ajY
def ajZ:RG:=Sj 121 ajX ajY (ZH n) (afW n)
theorem atL:Rq E (ajZ n):=RN (atK n) (afU n) (by unfold ZH;rfl) Tryz.func121 (by kernel_rfl)
def atM:Rs:=⟨[],[]⟩
abbrev aj0:Q6:=[Q0,Q0,.Q5 [.fn 118 [] [.Q5 [Q0,.d .str,Q0,Q0,.d .str,YF] 0,.Q5 [.d .str,Q0,Q0,Q0,.d (.slice .str)] 0]] 0]
abbrev aj1:Q6:=[.d .bool]
@[irreducible] def Xb:R5 aj0 aj1:=Rz E R n false (ajZ n) (Y7 n) atM Tryz.f120 aj0 aj1
def aa4:RG:=Sj 120 aj0 aj1 (Xb n) (ajZ n)
theorem aj2:Rq E (aa4 n):=RN (atL n) (afU n) (by unfold Xb;rfl) Tryz.func120 (by kernel_rfl)
def aj3:Rs:=⟨[(4,⟨[0,1],[1000001],⟨[(5,Q0)],[Si]⟩,[(.exit 0,⟨[],[Si]⟩),(.ret,⟨[(4,.sub 1000000 (.int .i64))],[Si]⟩)]⟩),
 (9,⟨[0,1,6],[1000001],⟨[(5,Q0),(7,Q0)],[Si]⟩,[(.exit 2,⟨[(5,Q0)],[Si]⟩)]⟩)],[]⟩
abbrev aj4:Q6:=[.sub 1000000 (.int .i64),.fn 120 [] [.ref 1000001 0]]
abbrev aj5:Q6:=[.sub 1000000 (.int .i64)]
abbrev aj6:List (Nat×SC):=[Si,(1000001,.cells [.fn 118 [] [.Q5 [Q0,.d .str,Q0,Q0,.d .str,YF] 0,.Q5 [.d .str,Q0,Q0,Q0,.d (.slice .str)] 0]])]
@[irreducible] def Zj:Vq aj4 aj6 aj5:=UQ E R n false (aa4 n) (Y7 n) aj3 Tryz.f119 aj4 aj6 aj5
def aj7:IR R:=VO 119 aj4 aj6 aj5 (Zj n) (Y7 n)
theorem atN:Ua E (aj7 n):=Wd (aj2 n) (afU n) (by unfold Zj;rfl) Tryz.func119 (by kernel_rfl)
def atO:Rs:=⟨[],[]⟩
abbrev aj8:Q6:=[.d (.st 1),SL,.sub 1000000 (.int .i64)]
abbrev aj9:Q6:=[.sub 1000000 (.int .i64)]
abbrev akb:List (Nat×SC):=[Si]
@[irreducible] def ZQ:Vq aj8 akb aj9:=UQ E R n false (aa4 n) (aj7 n) atO Tryz.f104 aj8 akb aj9
def Ub:IR R:=VO 104 aj8 akb aj9 (ZQ n) (aj7 n)
theorem Vz:Ua E (Ub n):=Wd (aj2 n) (atN n) (by unfold ZQ;rfl) Tryz.func104 (by kernel_rfl)
def afX:Rs:=⟨[(4,⟨[2,3,5],[],⟨[],[(5,.cells [.vw 99999 (.int .i64)]),(99999,.arr (.int .i64))]⟩,[(.normal,⟨[],[(5,.cells [.vw 99999 (.int .i64)]),(99999,.arr (.int .i64))]⟩)]⟩)],[]⟩
abbrev akc:Q6:=[.d (.st 1),SL]
abbrev akd:Q6:=[.d (.slice (.int .i64))]
@[irreducible] def Zv (p:FN R.T akc):Option (FN R.T akd):=Rz E R n true (aa4 n) (Ub n) afX Tryz.f94 akc akd p
def ad4:RG:=Sj 94 akc akd (Zv n) (aa4 n)
theorem atP:Rq E (ad4 n):=RN (aj2 n) (Vz n) (by unfold Zv;rfl) Tryz.func94 (by kernel_rfl)
def ad5:Rs:=⟨[(4,⟨[2,5],[5],⟨[],[(11,.map .str .bool)]⟩,[(.normal,⟨[],[(11,.map .str .bool)]⟩)]⟩),
 (9,⟨[5,29,30],[5,11],⟨[(7,.l (.own 45) .str),(8,.d .bool),(31,Q0)],[]⟩,[(.exit 2,⟨[(7,.l (.own 45) .str)],[]⟩)]⟩)],[]⟩
abbrev ake:Q6:=[.d (.st 1),SL]
abbrev akf:Q6:=[.d (.slice .str)]
@[irreducible] def Zh:R5 ake akf:=Rz E R n false (ad4 n) (Ub n) ad5 Tryz.f95 ake akf
def ad6:RG:=Sj 95 ake akf (Zh n) (ad4 n)
theorem atQ:Rq E (ad6 n):=RN (atP n) (Vz n) (by unfold Zh;rfl) Tryz.func95 (by kernel_rfl)
def akg:Rs:=⟨[(4,⟨[2,17,18],[],⟨[(5,.l (.own 32) (.st 7)),(19,Q0)],[]⟩,[(.exit 0,⟨[(5,.l (.own 32) (.st 7))],[]⟩)]⟩),
 (10,⟨[2,37,38],[],⟨[(5,.l (.own 32) (.st 7)),(39,Q0)],[]⟩,[(.exit 2,⟨[(5,.l (.own 32) (.st 7))],[]⟩)]⟩)],[]⟩
abbrev akh:Q6:=[.d (.st 1),SL]
abbrev aki:Q6:=[.d (.slice (.st 7))]
@[irreducible] def Zp:R5 akh aki:=Rz E R n false (ad6 n) (Ub n) akg Tryz.f78 akh aki
def ad7:RG:=Sj 78 akh aki (Zp n) (ad6 n)
theorem atS:Rq E (ad7 n):=RN (atQ n) (Vz n) (by unfold Zp;rfl) Tryz.func78 (by kernel_rfl)
def ad8:Rs:=⟨[(3,⟨[3,5,10,11],[],⟨[(12,Q0)],[(5,.cells [.l (.own 34) (.slice (.st 7))])]⟩,[(.exit 0,⟨[],[(5,.cells [.l (.own 34) (.slice (.st 7))])]⟩)]⟩),
 (7,⟨[3,5,7,10,11,12],[7],⟨[],[(5,.cells [.l (.own 34) (.slice (.st 7))])]⟩,[(.normal,⟨[],[(5,.cells [.l (.own 34) (.slice (.st 7))])]⟩),(.exit 2,⟨[],[(5,.cells [.l (.own 34) (.slice (.st 7))])]⟩)]⟩)],[]⟩
abbrev akj:Q6:=[.d (.st 2),SL]
abbrev akk:Q6:=[.d (.slice (.slice (.st 7)))]
@[irreducible] def Zm:R5 akj akk:=Rz E R n false (ad7 n) (Ub n) ad8 Tryz.f56 akj akk
def anx:RG:=Sj 56 akj akk (Zm n) (ad7 n)
theorem atT:Rq E (anx n):=RN (atS n) (Vz n) (by unfold Zm;rfl) Tryz.func56 (by kernel_rfl)
abbrev ad9:Q6:=[.d (.slice (.slice (.st 7))),SL]
abbrev aea:Q6:=[.d (.slice (.st 3)),.d .bool]
@[irreducible] def XB (n:Nat)(p:FN R.T ad9):Option (FN R.T aea):=abM p.1 p.2
theorem atU (p:FN R.T ad9):XB n p=abM p.1 p.2:=by unfold XB;rfl
theorem atV (p:FN R.T ad9)(x:FN R.T aea)(h:XB n p=some x):Pure E 58 (Ri R ad9 p) (Sy (Ri R aea x)):=by unfold XB at h;exact asn p x h
def akl:RG:=Uh 58 ⟨ad9,aea,XB n,Sz R aea,false⟩ (anx n)
theorem atW:Rq E (akl n):=Tv (atT n) (atV n)
def atX:Rs:=⟨[],[]⟩
abbrev akm:Q6:=[.d (.st 2),SL]
abbrev akn:Q6:=[.d (.slice (.st 3)),.d .bool,Q0]
@[irreducible] def Xe:R5 akm akn:=Rz E R n false (akl n) (Ub n) atX Tryz.f26 akm akn
def ako:RG:=Sj 26 akm akn (Xe n) (akl n)
theorem atY:Rq E (ako n):=RN (atW n) (Vz n) (by unfold Xe;rfl) Tryz.func26 (by kernel_rfl)
def atZ:Rs:=⟨[],[]⟩
abbrev akp:Q6:=[SL]
abbrev akq:Q6:=[SL]
@[irreducible] def Xl:R5 akp akq:=Rz E R n false (ako n) (Ub n) atZ Tryz.f59 akp akq
def afY:RG:=Sj 59 akp akq (Xl n) (ako n)
theorem at0:Rq E (afY n):=RN (atY n) (Vz n) (by unfold Xl;rfl) Tryz.func59 (by kernel_rfl)
def anz:Rs:=⟨[(2,⟨[3,4,5,14,15],[3,5],⟨[(16,Q0)],[]⟩,[(.exit 0,⟨[],[]⟩),(.ret,⟨[(6,.l .any (.st 3)),(7,.d .bool),(8,Q0)],[]⟩)]⟩)],[]⟩
abbrev akr:Q6:=[.d (.st 2),SL,SL]
abbrev aks:Q6:=[.d (.slice (.st 3)),.d .bool,Q0]
@[irreducible] def Zx:R5 akr aks:=Rz E R n false (afY n) (Ub n) anz Tryz.f27 akr aks
def akt:RG:=Sj 27 akr aks (Zx n) (afY n)
theorem at1:Rq E (akt n):=RN (at0 n) (Vz n) (by unfold Zx;rfl) Tryz.func27 (by kernel_rfl)
def at5:Rs:=⟨[],[]⟩
abbrev aku:Q6:=[SL]
abbrev akv:Q6:=[.d .bool]
@[irreducible] def Xc:R5 aku akv:=Rz E R n false (akt n) (Ub n) at5 Tryz.f50 aku akv
def afZ:RG:=Sj 50 aku akv (Xc n) (akt n)
theorem at6:Rq E (afZ n):=RN (at1 n) (Vz n) (by unfold Xc;rfl) Tryz.func50 (by kernel_rfl)
def anA:Rs:=⟨[(2,⟨[1,2],[2],⟨[(5,Q0)],[]⟩,[(.exit 0,⟨[],[]⟩),(.ret,⟨[(4,Q0)],[]⟩)]⟩)],[]⟩
abbrev akw:Q6:=[.d (.st 2),.d .str]
abbrev akx:Q6:=[Q0]
@[irreducible] def ZE:R5 akw akx:=Rz E R n false (afZ n) (Ub n) anA Tryz.f51 akw akx
def af0:RG:=Sj 51 akw akx (ZE n) (afZ n)
theorem at7:Rq E (af0 n):=RN (at6 n) (Vz n) (by unfold ZE;rfl) Tryz.func51 (by kernel_rfl)
def anB:Rs:=⟨[(5,⟨[2,5],[2],⟨[(6,Q0)],[]⟩,[(.exit 0,⟨[],[]⟩),(.ret,⟨[(4,Q0)],[]⟩)]⟩)],[]⟩
abbrev aky:Q6:=[.d (.st 2),SL]
abbrev akz:Q6:=[Q0]
@[irreducible] def Zk:R5 aky akz:=Rz E R n false (af0 n) (Ub n) anB Tryz.f20 aky akz
def akA:RG:=Sj 20 aky akz (Zk n) (af0 n)
theorem akB:Rq E (akA n):=RN (at7 n) (Vz n) (by unfold Zk;rfl) Tryz.func20 (by kernel_rfl)
def akC:Rs:=⟨[(5,⟨[0,1,5,6],[5],⟨[(8,Q0)],[(6,.st 4)]⟩,[(.exit 0,⟨[],[(6,.st 4)]⟩),(.ret,⟨[],[(6,.st 4)]⟩)]⟩)],[]⟩
abbrev Ym:Q6:=[.d (.slice (.slice (.st 6))),.d (.slice (.st 3)),SL]
abbrev Y8:Q6:=[.d (.st 4)]
def Y9:Nat->List Sk
 |_=>Ym
def WR:Nat->List Sk
 |_=>Y8
def aua:Nat->Rs
 |_=>akC
def aub:Nat->Func
 |_=>Tryz.f60
def aeb (g:(i:Nat)->FN R.T (Y9 i)->Option (FN R.T (WR i))):Nat->List (FR R):=Uh 60 ⟨Y9 0,WR 0,g 0,Sz R (WR 0),false⟩ (akA n)
def WS (n:Nat):Nat->(i:Nat)->FN R.T (Y9 i)->Option (FN R.T (WR i))
 |0,_,_=>none|m+1,i,p=>Rz E R n false (aeb n (WS n m)) (Ub n) (aua i) (aub i) (Y9 i) (WR i) p
attribute [irreducible] WS
theorem anC (n m:Nat)(p:FN R.T Ym):WS n (m+1) 0 p=Rz E R n false (aeb n (WS n m)) (Ub n) akC Tryz.f60 Ym Y8 p:=by kernel_rfl
theorem anD (p:FN R.T Ym):WS n 0 0 p=none:=by kernel_rfl
theorem auc (p:FN R.T (Y9 0))(x:FN R.T (WR 0))(h:WS n 0 0 p=some x):Pure E 60 (Ri R (Y9 0) p) (Sy (Ri R (WR 0) x)):=absurd ((anD n p).symm.trans h) nofun
theorem aud (n m:Nat)(hk:Rq E (aeb n (WS n m)))(p:FN R.T (Y9 0))(x:FN R.T (WR 0))(h:WS n (m+1) 0 p=some x):Pure E 60 (Ri R (Y9 0) p) (Sy (Ri R (WR 0) x)):=
 Uz (args:=Ym) (res:=Y8) TR hk (Vz n) ((anC n m p).symm.trans h) Tryz.func60 rfl rfl rfl rfl (by kernel_rfl)
theorem anE (n:Nat):∀m,Rq E (aeb n (WS n m))
 |0=>Tv (f:=60) (r:=⟨Y9 0,WR 0,WS n 0 0,Sz R (WR 0),false⟩) (akB n) (auc n)|m+1=>Tv (f:=60) (r:=⟨Y9 0,WR 0,WS n (m+1) 0,Sz R (WR 0),false⟩) (akB n) (aud n m (anE n m))
@[irreducible] def aa5 (n m:Nat)(p:FN R.T Ym):Option (FN R.T Y8):=WS n m 0 p
@[irreducible] def Za (p:FN R.T Ym):Option (FN R.T Y8):=aa5 n n p
theorem aue (p:FN R.T Ym)(x:FN R.T Y8)(h:Za n p=some x):Pure E 60 (Ri R Ym p) (Sy (Ri R Y8 x)):=by
 unfold Za aa5 at h;cases n with
 |zero=>exact absurd ((anD 0 p).symm.trans h) nofun|succ n=>exact Uz (args:=Ym) (res:=Y8) TR (anE (n+1) n) (Vz (n+1)) ((anC (n+1) n p).symm.trans h) Tryz.func60 rfl rfl rfl rfl (by kernel_rfl)
def akD:RG:=Uh 60 ⟨Ym,Y8,Za n,Sz R Y8,false⟩ (akA n)
theorem auf:Rq E (akD n):=Tv (akB n) (aue n)
def aug:Rs:=⟨[],[]⟩
abbrev akE:Q6:=[.d (.st 2),SL]
abbrev akF:Q6:=[.d (.st 4)]
@[irreducible] def Xf:R5 akE akF:=Rz E R n false (akD n) (Ub n) aug Tryz.f28 akE akF
def akG:RG:=Sj 28 akE akF (Xf n) (akD n)
theorem auh:Rq E (akG n):=RN (auf n) (Vz n) (by unfold Xf;rfl) Tryz.func28 (by kernel_rfl)
def aui:Rs:=⟨[],[]⟩
abbrev akH:Q6:=[SL]
abbrev akI:Q6:=[SL]
@[irreducible] def Xp:R5 akH akI:=Rz E R n false (akG n) (Ub n) aui Tryz.f53 akH akI
def akJ:RG:=Sj 53 akH akI (Xp n) (akG n)
theorem auj:Rq E (akJ n):=RN (auh n) (Vz n) (by unfold Xp;rfl) Tryz.func53 (by kernel_rfl)
def auk:Rs:=⟨[],[]⟩
abbrev akK:Q6:=[.d (.st 2),SL,SL]
abbrev akL:Q6:=[.d (.st 4)]
@[irreducible] def Xd:R5 akK akL:=Rz E R n false (akJ n) (Ub n) auk Tryz.f29 akK akL
def af2:RG:=Sj 29 akK akL (Xd n) (akJ n)
theorem aul:Rq E (af2 n):=RN (auj n) (Vz n) (by unfold Xd;rfl) Tryz.func29 (by kernel_rfl)
def anF:Rs:=⟨[(4,⟨[0,1],[],⟨[(5,Q0)],[]⟩,[(.exit 0,⟨[],[]⟩),(.ret,⟨[(4,.d .bool)],[]⟩)]⟩)],[]⟩
abbrev akM:Q6:=[.d (.slice (.st 3)),.d (.slice (.st 3))]
abbrev akN:Q6:=[.d .bool]
@[irreducible] def ZC:R5 akM akN:=Rz E R n false (af2 n) (Ub n) anF Tryz.f30 akM akN
def anG:RG:=Sj 30 akM akN (ZC n) (af2 n)
theorem aum:Rq E (anG n):=RN (aul n) (Vz n) (by unfold ZC;rfl) Tryz.func30 (by kernel_rfl)
def aun:Rs:=⟨[],[]⟩
abbrev af3:Q6:=[.d (.st 2),SL,SL]
abbrev af4:Q6:=[.d .bool]
@[irreducible] def XC:R5 af3 af4:=Rz E R n false (anG n) (Ub n) aun Tryz.f5 af3 af4
theorem auo (p:FN R.T af3)(x:FN R.T af4)(h:XC n p=some x):Pure E 5 (Ri R af3 p) (Sy (Ri R af4 x)):=by unfold XC at h;exact Uz TR (aum n) (Vz n) h Tryz.func5 rfl rfl rfl rfl (by kernel_rfl)
end Sh
