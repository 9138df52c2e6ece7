/- Part of the proof of a law. -/
import Derived.KernelRfl
import Derived.Test.YtdcnajadcbedkaaGreatDoorS1122
set_option linter.all false
set_option linter.unusedSimpArgs false
set_option linter.unusedSectionVars false
open Go Go.Proofs Aq
namespace Sh
set_option maxRecDepth 100000
def ai2:dP:=⟨[],[]⟩
abbrev Ky:List Sk:=[.d (.st 3)]
abbrev Fu:List Sk:=[.d .bool]
@[irreducible] noncomputable def Fv (n:Nat) (p:aJ R.T Ky):Option (aJ R.T Fu):=fO E R n false (Qm n) bL ai2 Tryz.f10 Ky Fu p
theorem ai3 (n:Nat):gU 10 Ky Fu (Fv n):=fun _ _ h=>by unfold Fv at h;exact okF (XD n) h Tryz.func10 (by kernel_rfl)
noncomputable def Yf (n:Nat):Nat→List (FR R):=dK 10 ⟨Ky,Fu,Fv n,dW R Fu,false⟩ (Qm n)
theorem ai4 (n:Nat):bS E (Yf n):=gF (XD n) (ai3 n)
abbrev Fw:List Sk:=[]
abbrev Fx:List Sk:=[.d .bool]
@[irreducible] def yX (n:Nat) (p:aJ R.T Fw):Option (aJ R.T Fx):=some true
theorem QE (n:Nat) (p:aJ R.T Fw):yX n p=some true:=by unfold yX;rfl
theorem ai5 (n:Nat) (p:aJ R.T Fw) (x:aJ R.T Fx) (h:yX n p=some x):Pure E 12 (aY R Fw p) (mO (aY R Fx x)):=by
 unfold yX at h
 exact ai1 p x h
noncomputable def QF (n:Nat):Nat→List (FR R):=dK 12 ⟨Fw,Fx,yX n,dW R Fx,false⟩ (Yf n)
theorem Yg (n:Nat):bS E (QF n):=gF (ai4 n) (ai5 n)
def ai6:dP:=⟨[],[]⟩
abbrev Kz:List Sk:=[.d (.st 3)]
abbrev Fy:List Sk:=[.fn 118 [] [.aK [.d (.int .i64),.d (.int .i64),.d (.int .i64),.d (.int .i64),.d (.int .u8),.d (.int .u8),.d (.int .u8),.d (.int .u8),.d (.int .u8),.d (.int .u8),.d (.int .u8),.d (.int .u8),.d (.int .u8),.d (.int .u8),.d (.int .u8),.d (.int .u8),.d (.int .u8),.d (.int .u8),.d (.int .u8),.d (.int .u8),.d (.int .u8),.d (.int .u8),.d (.int .u8),.d (.int .u8),.d (.int .u8),.d (.int .u8),.d (.int .u8),.d (.int .u8),.d (.int .u8),.d (.int .u8),.d (.int .u8),.d (.int .u8),.d (.int .u8),.d (.int .u8),.d (.int .u8),.d (.int .u8),.d (.slice (.st 2)),.d (.int .u8),.d (.int .u8),.d (.int .u8),.d (.int .u8),.d (.int .u8),.d (.int .u8),.d (.int .u8),.d (.int .u8),.d (.int .u8),.d (.int .u8),.d (.int .u8),.d (.int .u8),.d (.int .u8),.d (.int .u8),.d (.int .u8),.d (.int .u8),.d (.int .i64),.d (.int .u8),.d (.int .u8),.d (.int .u8),.d (.int .u8),.d (.int .u8),.d (.int .u8),.d (.int .u8),.d (.int .u8),.d (.int .u8),.d (.int .u8),.d (.int .u8),.d (.int .u8),.d (.int .u8),.d (.int .u8),.d (.int .u8),.d (.int .u8),.d (.int .i64),.d (.int .i64),.d (.int .u8),.d (.int .u8),.d (.int .u8),.d (.int .u8),.d (.int .u8),.d (.int .u8),.d (.int .u8),.d (.int .u8),.d (.int .u8),.d (.int .u8),.d (.int .u8),.d (.int .u8),.d (.int .u8),.d (.int .u8),.d (.int .u8),.d (.int .u8)] 0]]
@[irreducible] noncomputable def Fz (n:Nat) (p:aJ R.T Kz):Option (aJ R.T Fy):=fO E R n false (QF n) bL ai6 Tryz.f70 Kz Fy p
theorem ai7 (n:Nat):gU 70 Kz Fy (Fz n):=fun _ _ h=>by unfold Fz at h;exact okF (Yg n) h Tryz.func70 (by kernel_rfl)
noncomputable def KC (n:Nat):Nat→List (FR R):=dK 70 ⟨Kz,Fy,Fz n,dW R Fy,false⟩ (QF n)
theorem Yh (n:Nat):bS E (KC n):=gF (Yg n) (ai7 n)
def KE:dP:=⟨[(3,⟨[2],[],⟨[],[(2,.cells [.l (.own 11) (.st 0)])]⟩,[(.normal,⟨[],[(2,.cells [.l (.own 11) (.st 0)])]⟩)]⟩)],[]⟩
abbrev QG:List Sk:=[.dN,.fn 118 [] [.aK [.d (.int .i64),.d (.int .i64),.d (.int .i64),.d (.int .i64),.d (.int .u8),.d (.int .u8),.d (.int .u8),.d (.int .u8),.d (.int .u8),.d (.int .u8),.d (.int .u8),.d (.int .u8),.d (.int .u8),.d (.int .u8),.d (.int .u8),.d (.int .u8),.d (.int .u8),.d (.int .u8),.d (.int .u8),.d (.int .u8),.d (.int .u8),.d (.int .u8),.d (.int .u8),.d (.int .u8),.d (.int .u8),.d (.int .u8),.d (.int .u8),.d (.int .u8),.d (.int .u8),.d (.int .u8),.d (.int .u8),.d (.int .u8),.d (.int .u8),.d (.int .u8),.d (.int .u8),.d (.int .u8),.d (.slice (.st 2)),.d (.int .u8),.d (.int .u8),.d (.int .u8),.d (.int .u8),.d (.int .u8),.d (.int .u8),.d (.int .u8),.d (.int .u8),.d (.int .u8),.d (.int .u8),.d (.int .u8),.d (.int .u8),.d (.int .u8),.d (.int .u8),.d (.int .u8),.d (.int .u8),.d (.int .i64),.d (.int .u8),.d (.int .u8),.d (.int .u8),.d (.int .u8),.d (.int .u8),.d (.int .u8),.d (.int .u8),.d (.int .u8),.d (.int .u8),.d (.int .u8),.d (.int .u8),.d (.int .u8),.d (.int .u8),.d (.int .u8),.d (.int .u8),.d (.int .u8),.d (.int .i64),.d (.int .i64),.d (.int .u8),.d (.int .u8),.d (.int .u8),.d (.int .u8),.d (.int .u8),.d (.int .u8),.d (.int .u8),.d (.int .u8),.d (.int .u8),.d (.int .u8),.d (.int .u8),.d (.int .u8),.d (.int .u8),.d (.int .u8),.d (.int .u8),.d (.int .u8)] 0]]
abbrev QH:List Sk:=[.d (.slice (.st 0))]
@[irreducible] noncomputable def yY (n:Nat) (p:aJ R.T QG):Option (aJ R.T QH):=sU E R n false (KC n) bL KE Tryz.f149 QG (.st 0) p
theorem ai8 (n:Nat) (u:Unit) (p:aJ R.T [.fn 118 [] [.aK [.d (.int .i64),.d (.int .i64),.d (.int .i64),.d (.int .i64),.d (.int .u8),.d (.int .u8),.d (.int .u8),.d (.int .u8),.d (.int .u8),.d (.int .u8),.d (.int .u8),.d (.int .u8),.d (.int .u8),.d (.int .u8),.d (.int .u8),.d (.int .u8),.d (.int .u8),.d (.int .u8),.d (.int .u8),.d (.int .u8),.d (.int .u8),.d (.int .u8),.d (.int .u8),.d (.int .u8),.d (.int .u8),.d (.int .u8),.d (.int .u8),.d (.int .u8),.d (.int .u8),.d (.int .u8),.d (.int .u8),.d (.int .u8),.d (.int .u8),.d (.int .u8),.d (.int .u8),.d (.int .u8),.d (.slice (.st 2)),.d (.int .u8),.d (.int .u8),.d (.int .u8),.d (.int .u8),.d (.int .u8),.d (.int .u8),.d (.int .u8),.d (.int .u8),.d (.int .u8),.d (.int .u8),.d (.int .u8),.d (.int .u8),.d (.int .u8),.d (.int .u8),.d (.int .u8),.d (.int .u8),.d (.int .i64),.d (.int .u8),.d (.int .u8),.d (.int .u8),.d (.int .u8),.d (.int .u8),.d (.int .u8),.d (.int .u8),.d (.int .u8),.d (.int .u8),.d (.int .u8),.d (.int .u8),.d (.int .u8),.d (.int .u8),.d (.int .u8),.d (.int .u8),.d (.int .u8),.d (.int .i64),.d (.int .i64),.d (.int .u8),.d (.int .u8),.d (.int .u8),.d (.int .u8),.d (.int .u8),.d (.int .u8),.d (.int .u8),.d (.int .u8),.d (.int .u8),.d (.int .u8),.d (.int .u8),.d (.int .u8),.d (.int .u8),.d (.int .u8),.d (.int .u8),.d (.int .u8)] 0]]) (x:aJ R.T QH) (h:yY n (u,p)=some x):jJ E 149 (.aj .nil []::aY R [.fn 118 [] [.aK [.d (.int .i64),.d (.int .i64),.d (.int .i64),.d (.int .i64),.d (.int .u8),.d (.int .u8),.d (.int .u8),.d (.int .u8),.d (.int .u8),.d (.int .u8),.d (.int .u8),.d (.int .u8),.d (.int .u8),.d (.int .u8),.d (.int .u8),.d (.int .u8),.d (.int .u8),.d (.int .u8),.d (.int .u8),.d (.int .u8),.d (.int .u8),.d (.int .u8),.d (.int .u8),.d (.int .u8),.d (.int .u8),.d (.int .u8),.d (.int .u8),.d (.int .u8),.d (.int .u8),.d (.int .u8),.d (.int .u8),.d (.int .u8),.d (.int .u8),.d (.int .u8),.d (.int .u8),.d (.int .u8),.d (.slice (.st 2)),.d (.int .u8),.d (.int .u8),.d (.int .u8),.d (.int .u8),.d (.int .u8),.d (.int .u8),.d (.int .u8),.d (.int .u8),.d (.int .u8),.d (.int .u8),.d (.int .u8),.d (.int .u8),.d (.int .u8),.d (.int .u8),.d (.int .u8),.d (.int .u8),.d (.int .i64),.d (.int .u8),.d (.int .u8),.d (.int .u8),.d (.int .u8),.d (.int .u8),.d (.int .u8),.d (.int .u8),.d (.int .u8),.d (.int .u8),.d (.int .u8),.d (.int .u8),.d (.int .u8),.d (.int .u8),.d (.int .u8),.d (.int .u8),.d (.int .u8),.d (.int .i64),.d (.int .i64),.d (.int .u8),.d (.int .u8),.d (.int .u8),.d (.int .u8),.d (.int .u8),.d (.int .u8),.d (.int .u8),.d (.int .u8),.d (.int .u8),.d (.int .u8),.d (.int .u8),.d (.int .u8),.d (.int .u8),.d (.int .u8),.d (.int .u8),.d (.int .u8)] 0]] p) (bI R (.st 0)) (List.map (aG R (.st 0)) x):=by
 unfold yY at h
 exact af0 vH (Yh n) xk h Tryz.func149 rfl rfl rfl rfl (by kernel_rfl)
noncomputable def QI (n:Nat):Nat→List (FR R):=dK 149 ⟨QG,[.d (.slice (.st 0))],yY n,dW R QH,true⟩ (KC n)
theorem Yi (n:Nat):bS E (QI n):=JH (G:=yY n) (Yh n) (ai8 n)
def ai9:dP:=⟨[],[]⟩
abbrev Ct:List Sk:=[.fn 118 [] [.aK [.d (.int .i64),.d (.int .i64),.d (.int .i64),.d (.int .i64),.d (.int .u8),.d (.int .u8),.d (.int .u8),.d (.int .u8),.d (.int .u8),.d (.int .u8),.d (.int .u8),.d (.int .u8),.d (.int .u8),.d (.int .u8),.d (.int .u8),.d (.int .u8),.d (.int .u8),.d (.int .u8),.d (.int .u8),.d (.int .u8),.d (.int .u8),.d (.int .u8),.d (.int .u8),.d (.int .u8),.d (.int .u8),.d (.int .u8),.d (.int .u8),.d (.int .u8),.d (.int .u8),.d (.int .u8),.d (.int .u8),.d (.int .u8),.d (.int .u8),.d (.int .u8),.d (.int .u8),.d (.int .u8),.d (.slice (.st 2)),.d (.int .u8),.d (.int .u8),.d (.int .u8),.d (.int .u8),.d (.int .u8),.d (.int .u8),.d (.int .u8),.d (.int .u8),.d (.int .u8),.d (.int .u8),.d (.int .u8),.d (.int .u8),.d (.int .u8),.d (.int .u8),.d (.int .u8),.d (.int .u8),.d (.int .i64),.d (.int .u8),.d (.int .u8),.d (.int .u8),.d (.int .u8),.d (.int .u8),.d (.int .u8),.d (.int .u8),.d (.int .u8),.d (.int .u8),.d (.int .u8),.d (.int .u8),.d (.int .u8),.d (.int .u8),.d (.int .u8),.d (.int .u8),.d (.int .u8),.d (.int .i64),.d (.int .i64),.d (.int .u8),.d (.int .u8),.d (.int .u8),.d (.int .u8),.d (.int .u8),.d (.int .u8),.d (.int .u8),.d (.int .u8),.d (.int .u8),.d (.int .u8),.d (.int .u8),.d (.int .u8),.d (.int .u8),.d (.int .u8),.d (.int .u8),.d (.int .u8)] 0]]
abbrev QJ:List Sk:=[.d (.slice (.st 0))]
@[irreducible] noncomputable def yZ (n:Nat) (p:aJ R.T Ct):Option (aJ R.T QJ):=sU E R n false (QI n) bL ai9 Tryz.f102 Ct (.st 0) p
theorem aja (n:Nat) (p:aJ R.T Ct) (x:aJ R.T QJ) (h:yZ n p=some x):Pure E 102 (aY R Ct p) (.aj .sh (List.map (aG R (.st 0)) x))∧jJ E 102 (aY R Ct p) (bI R (.st 0)) (List.map (aG R (.st 0)) x):=by
 unfold yZ at h
 exact BJ vH (Yi n) xk h Tryz.func102 rfl rfl rfl rfl (by kernel_rfl)
noncomputable def Yj (n:Nat):Nat→List (FR R):=dK 102 ⟨Ct,[.d (.slice (.st 0))],yZ n,dW R QJ,true⟩ (QI n)
theorem ajb (n:Nat):bS E (Yj n):=BK (G:=yZ n) (Yi n) (aja n)
abbrev FB:List Sk:=[.d (.st 0)]
abbrev FC:List Sk:=[.d (.slice (.int .u8))]
@[irreducible] def Cu (n:Nat) (p:aJ R.T FB):Option (aJ R.T FC):=some (dD p)
theorem ajc (n:Nat) (p:aJ R.T FB):Cu n p=some (dD p):=by unfold Cu;rfl
theorem ajd (n:Nat) (p:aJ R.T FB) (x:aJ R.T FC) (h:Cu n p=some x):Pure E 151 (aY R FB p) (mO (aY R FC x)):=by
 unfold Cu at h
 exact ag0 p x h
noncomputable def KF (n:Nat):Nat→List (FR R):=dK 151 ⟨FB,FC,Cu n,dW R FC,false⟩ (Yj n)
theorem Yk (n:Nat):bS E (KF n):=gF (ajb n) (ajd n)
def KG:dP:=⟨[(3,⟨[1,11,12],[],⟨[(5,.l (.own 10) (.int .u8)),(13,.d (.int .i64))],[]⟩,[(.exit 0,⟨[(5,.l (.own 10) (.int .u8))],[]⟩)]⟩)],[]⟩
abbrev KH:List Sk:=[.d (.slice (.st 0)),.fn 151 [] []]
abbrev FD:List Sk:=[.d (.slice (.int .u8))]
@[irreducible] noncomputable def FE (n:Nat) (p:aJ R.T KH):Option (aJ R.T FD):=fO E R n false (KF n) bL KG Tryz.f150 KH FD p
theorem aje (n:Nat):gU 150 KH FD (FE n):=fun _ _ h=>by unfold FE at h;exact okF (Yk n) h Tryz.func150 (by kernel_rfl)
noncomputable def QK (n:Nat):Nat→List (FR R):=dK 150 ⟨KH,FD,FE n,dW R FD,false⟩ (KF n)
theorem Yl (n:Nat):bS E (QK n):=gF (Yk n) (aje n)
def ajf:dP:=⟨[],[]⟩
abbrev KI:List Sk:=[.d (.slice (.st 0))]
abbrev FH:List Sk:=[.d (.slice (.int .u8))]
@[irreducible] noncomputable def Cv (n:Nat) (p:aJ R.T KI):Option (aJ R.T FH):=fO E R n false (QK n) bL ajf Tryz.f103 KI FH p
theorem ajg (n:Nat):gU 103 KI FH (Cv n):=fun _ _ h=>by unfold Cv at h;exact okF (Yl n) h Tryz.func103 (by kernel_rfl)
noncomputable def KJ (n:Nat):Nat→List (FR R):=dK 103 ⟨KI,FH,Cv n,dW R FH,false⟩ (QK n)
theorem Ym (n:Nat):bS E (KJ n):=gF (Yl n) (ajg n)
def KL:dP:=⟨[(3,⟨[1,23,24],[1],⟨[(3,.l (.own 33) (.int .i64)),(25,.d (.int .i64))],[]⟩,[(.exit 0,⟨[(3,.l (.own 33) (.int .i64))],[]⟩)]⟩)],[]⟩
abbrev KM:List Sk:=[.d (.st 3)]
abbrev FJ:List Sk:=[.d (.slice (.int .u8))]
@[irreducible] noncomputable def za (n:Nat) (p:aJ R.T KM):Option (aJ R.T FJ):=fO E R n false (KJ n) bL KL Tryz.f51 KM FJ p
theorem ajh (n:Nat):gU 51 KM FJ (za n):=fun _ _ h=>by unfold za at h;exact okF (Ym n) h Tryz.func51 (by kernel_rfl)
noncomputable def KN (n:Nat):Nat→List (FR R):=dK 51 ⟨KM,FJ,za n,dW R FJ,false⟩ (KJ n)
theorem Yn (n:Nat):bS E (KN n):=gF (Ym n) (ajh n)
def KO:dP:=⟨[(4,⟨[9,10],[],⟨[(5,.d (.int .u64)),(6,.d (.int .i64)),(11,.d (.int .i64))],[]⟩,[(.exit 0,⟨[(5,.d (.int .u64)),(6,.d (.int .i64))],[]⟩),(.ret,⟨[(2,.d (.int .i64)),(3,.d (.int .i64)),(4,.d (.int .i64))],[]⟩)]⟩)],[]⟩
abbrev KP:List Sk:=[.d (.slice (.int .u8))]
abbrev FK:List Sk:=[.d (.int .i64),.d (.int .i64),.d (.int .i64)]
@[irreducible] noncomputable def ze (n:Nat) (p:aJ R.T KP):Option (aJ R.T FK):=fO E R n false (KN n) bL KO Tryz.f153 KP FK p
theorem aji (n:Nat):gU 153 KP FK (ze n):=fun _ _ h=>by unfold ze at h;exact okF (Yn n) h Tryz.func153 (by kernel_rfl)
noncomputable def QL (n:Nat):Nat→List (FR R):=dK 153 ⟨KP,FK,ze n,dW R FK,false⟩ (KN n)
theorem Yo (n:Nat):bS E (QL n):=gF (Yn n) (aji n)
def ajj:dP:=⟨[],[]⟩
abbrev KQ:List Sk:=[.d (.slice (.int .u8)),.d (.int .i64)]
abbrev FL:List Sk:=[.d (.int .i64),.d (.int .i64),.d (.int .i64)]
@[irreducible] noncomputable def zf (n:Nat) (p:aJ R.T KQ):Option (aJ R.T FL):=fO E R n false (QL n) bL ajj Tryz.f188 KQ FL p
theorem ajk (n:Nat):gU 188 KQ FL (zf n):=fun _ _ h=>by unfold zf at h;exact okF (Yo n) h Tryz.func188 (by kernel_rfl)
noncomputable def KR (n:Nat):Nat→List (FR R):=dK 188 ⟨KQ,FL,zf n,dW R FL,false⟩ (QL n)
theorem Yp (n:Nat):bS E (KR n):=gF (Yo n) (ajk n)
def KS:dP:=⟨[(6,⟨[0,2,26],[],⟨[(10,.d (.int .i64)),(12,.l (.own 44) (.int .i64)),(27,.d (.int .i64))],[]⟩,[(.exit 0,⟨[(10,.d (.int .i64)),(12,.l (.own 44) (.int .i64))],[]⟩),(.ret,⟨[(6,.l (.own 44) (.int .i64)),(7,.d (.int .i64)),(8,.d (.int .i64))],[]⟩)]⟩)],[]⟩
abbrev KT:List Sk:=[.d (.slice (.int .u8)),.d (.int .i64),.fn 153 [] []]
abbrev FN:List Sk:=[.d (.slice (.int .i64)),.d (.int .i64),.d (.int .i64)]
@[irreducible] noncomputable def Cw (n:Nat) (p:aJ R.T KT):Option (aJ R.T FN):=fO E R n false (KR n) bL KS Tryz.f152 KT FN p
theorem ajl (n:Nat):gU 152 KT FN (Cw n):=fun _ _ h=>by unfold Cw at h;exact okF (Yp n) h Tryz.func152 (by kernel_rfl)
noncomputable def QM (n:Nat):Nat→List (FR R):=dK 152 ⟨KT,FN,Cw n,dW R FN,false⟩ (KR n)
theorem Yq (n:Nat):bS E (QM n):=gF (Yp n) (ajl n)
def ajm:dP:=⟨[],[]⟩
abbrev KU:List Sk:=[.d (.slice (.int .u8))]
abbrev FP:List Sk:=[.d (.slice (.int .i64)),.d (.int .i64),.d (.int .i64)]
@[irreducible] noncomputable def Cy (n:Nat) (p:aJ R.T KU):Option (aJ R.T FP):=fO E R n false (QM n) bL ajm Tryz.f104 KU FP p
theorem ajn (n:Nat):gU 104 KU FP (Cy n):=fun _ _ h=>by unfold Cy at h;exact okF (Yq n) h Tryz.func104 (by kernel_rfl)
noncomputable def QN (n:Nat):Nat→List (FR R):=dK 104 ⟨KU,FP,Cy n,dW R FP,false⟩ (QM n)
theorem Yr (n:Nat):bS E (QN n):=gF (Yq n) (ajn n)
def ajo:dP:=⟨[],[]⟩
abbrev KV:List Sk:=[.d (.slice (.int .u8))]
abbrev FQ:List Sk:=[.d (.st 0),.d (.int .i64),.d (.int .i64)]
@[irreducible] noncomputable def zh (n:Nat) (p:aJ R.T KV):Option (aJ R.T FQ):=fO E R n false (QN n) bL ajo Tryz.f155 KV FQ p
theorem ajp (n:Nat):gU 155 KV FQ (zh n):=fun _ _ h=>by unfold zh at h;exact okF (Yr n) h Tryz.func155 (by kernel_rfl)
noncomputable def KW (n:Nat):Nat→List (FR R):=dK 155 ⟨KV,FQ,zh n,dW R FQ,false⟩ (QN n)
theorem Yt (n:Nat):bS E (KW n):=gF (Yr n) (ajp n)
def KX:dP:=⟨[(6,⟨[0,2,26],[],⟨[(10,.d (.int .i64)),(12,.l (.own 44) (.st 0)),(27,.d (.int .i64))],[]⟩,[(.exit 0,⟨[(10,.d (.int .i64)),(12,.l (.own 44) (.st 0))],[]⟩),(.ret,⟨[(6,.l (.own 44) (.st 0)),(7,.d (.int .i64)),(8,.d (.int .i64))],[]⟩)]⟩)],[]⟩
abbrev KY:List Sk:=[.d (.slice (.int .u8)),.d (.int .i64),.fn 155 [] []]
abbrev FT:List Sk:=[.d (.slice (.st 0)),.d (.int .i64),.d (.int .i64)]
@[irreducible] noncomputable def Cz (n:Nat) (p:aJ R.T KY):Option (aJ R.T FT):=fO E R n false (KW n) bL KX Tryz.f154 KY FT p
theorem ajq (n:Nat):gU 154 KY FT (Cz n):=fun _ _ h=>by unfold Cz at h;exact okF (Yt n) h Tryz.func154 (by kernel_rfl)
noncomputable def QO (n:Nat):Nat→List (FR R):=dK 154 ⟨KY,FT,Cz n,dW R FT,false⟩ (KW n)
theorem Yu (n:Nat):bS E (QO n):=gF (Yt n) (ajq n)
def ajr:dP:=⟨[],[]⟩
abbrev KZ:List Sk:=[.d (.slice (.int .u8))]
abbrev FU:List Sk:=[.d (.slice (.st 0)),.d (.int .i64),.d (.int .i64)]
@[irreducible] noncomputable def CB (n:Nat) (p:aJ R.T KZ):Option (aJ R.T FU):=fO E R n false (QO n) bL ajr Tryz.f105 KZ FU p
theorem ajs (n:Nat):gU 105 KZ FU (CB n):=fun _ _ h=>by unfold CB at h;exact okF (Yu n) h Tryz.func105 (by kernel_rfl)
noncomputable def K4 (n:Nat):Nat→List (FR R):=dK 105 ⟨KZ,FU,CB n,dW R FU,false⟩ (QO n)
theorem Yv (n:Nat):bS E (K4 n):=gF (Yu n) (ajs n)
def K5:dP:=⟨[(12,⟨[2,7,9,102,103],[2],⟨[(104,.d (.int .i64))],[(9,.cells [.d (.int .i64),.d (.int .i64),.d (.int .i64),.d (.int .i64),.d (.int .u8),.d (.int .u8),.d (.int .u8),.d (.int .u8),.d (.int .u8),.d (.int .u8),.d (.int .u8),.d (.int .u8),.d (.int .u8),.d (.int .u8),.d (.int .u8),.d (.int .u8),.d (.int .u8),.d (.int .u8),.d (.int .u8),.d (.int .u8),.d (.int .u8),.d (.int .u8),.d (.int .u8),.d (.int .u8),.d (.int .u8),.d (.int .u8),.d (.int .u8),.d (.int .u8),.d (.int .u8),.d (.int .u8),.d (.int .u8),.d (.int .u8),.d (.int .u8),.d (.int .u8),.d (.int .u8),.d (.int .u8),.l (.own 126) (.st 2),.d (.int .u8),.d (.int .u8),.d (.int .u8),.d (.int .u8),.d (.int .u8),.d (.int .u8),.d (.int .u8),.d (.int .u8),.d (.int .u8),.d (.int .u8),.d (.int .u8),.d (.int .u8),.d (.int .u8),.d (.int .u8),.d (.int .u8),.d (.int .u8),.d (.int .i64),.d (.int .u8),.d (.int .u8),.d (.int .u8),.d (.int .u8),.d (.int .u8),.d (.int .u8),.d (.int .u8),.d (.int .u8),.d (.int .u8),.d (.int .u8),.d (.int .u8),.d (.int .u8),.d (.int .u8),.d (.int .u8),.d (.int .u8),.d (.int .u8),.d (.int .i64),.d (.int .i64),.d (.int .u8),.d (.int .u8),.d (.int .u8),.d (.int .u8),.d (.int .u8),.d (.int .u8),.d (.int .u8),.d (.int .u8),.d (.int .u8),.d (.int .u8),.d (.int .u8),.d (.int .u8),.d (.int .u8),.d (.int .u8),.d (.int .u8),.d (.int .u8)])]⟩,[(.exit 0,⟨[],[(9,.cells [.d (.int .i64),.d (.int .i64),.d (.int .i64),.d (.int .i64),.d (.int .u8),.d (.int .u8),.d (.int .u8),.d (.int .u8),.d (.int .u8),.d (.int .u8),.d (.int .u8),.d (.int .u8),.d (.int .u8),.d (.int .u8),.d (.int .u8),.d (.int .u8),.d (.int .u8),.d (.int .u8),.d (.int .u8),.d (.int .u8),.d (.int .u8),.d (.int .u8),.d (.int .u8),.d (.int .u8),.d (.int .u8),.d (.int .u8),.d (.int .u8),.d (.int .u8),.d (.int .u8),.d (.int .u8),.d (.int .u8),.d (.int .u8),.d (.int .u8),.d (.int .u8),.d (.int .u8),.d (.int .u8),.l (.own 126) (.st 2),.d (.int .u8),.d (.int .u8),.d (.int .u8),.d (.int .u8),.d (.int .u8),.d (.int .u8),.d (.int .u8),.d (.int .u8),.d (.int .u8),.d (.int .u8),.d (.int .u8),.d (.int .u8),.d (.int .u8),.d (.int .u8),.d (.int .u8),.d (.int .u8),.d (.int .i64),.d (.int .u8),.d (.int .u8),.d (.int .u8),.d (.int .u8),.d (.int .u8),.d (.int .u8),.d (.int .u8),.d (.int .u8),.d (.int .u8),.d (.int .u8),.d (.int .u8),.d (.int .u8),.d (.int .u8),.d (.int .u8),.d (.int .u8),.d (.int .u8),.d (.int .i64),.d (.int .i64),.d (.int .u8),.d (.int .u8),.d (.int .u8),.d (.int .u8),.d (.int .u8),.d (.int .u8),.d (.int .u8),.d (.int .u8),.d (.int .u8),.d (.int .u8),.d (.int .u8),.d (.int .u8),.d (.int .u8),.d (.int .u8),.d (.int .u8),.d (.int .u8)])]⟩)]⟩)],[]⟩
abbrev K6:List Sk:=[.d (.slice (.int .u8))]
abbrev FV:List Sk:=[.d (.st 3),.d (.int .i64)]
@[irreducible] noncomputable def zi (n:Nat) (p:aJ R.T K6):Option (aJ R.T FV):=fO E R n false (K4 n) bL K5 Tryz.f52 K6 FV p
theorem ajt (n:Nat):gU 52 K6 FV (zi n):=fun _ _ h=>by unfold zi at h;exact okF (Yv n) h Tryz.func52 (by kernel_rfl)
noncomputable def FX (n:Nat):Nat→List (FR R):=dK 52 ⟨K6,FV,zi n,dW R FV,false⟩ (K4 n)
theorem Yw (n:Nat):bS E (FX n):=gF (Yv n) (ajt n)
def zk:dP:=⟨[(2,⟨[0],[],⟨[(5,.d (.int .i64))],[]⟩,[(.exit 0,⟨[(5,.d (.int .i64))],[]⟩)]⟩),
 (12,⟨[0,5],[],⟨[(6,.d (.int .u64)),(7,.d (.int .i64))],[]⟩,[(.exit 2,⟨[(6,.d (.int .u64))],[]⟩)]⟩)],[]⟩
abbrev K7:List Sk:=[.d (.slice (.int .u8))]
abbrev FY:List Sk:=[.d (.int .i64),.d (.int .i64),.d (.int .i64)]
@[irreducible] noncomputable def zl (n:Nat) (p:aJ R.T K7):Option (aJ R.T FY):=fO E R n false (FX n) bL zk Tryz.f157 K7 FY p
theorem aju (n:Nat):gU 157 K7 FY (zl n):=fun _ _ h=>by unfold zl at h;exact okF (Yw n) h Tryz.func157 (by kernel_rfl)
noncomputable def QS (n:Nat):Nat→List (FR R):=dK 157 ⟨K7,FY,zl n,dW R FY,false⟩ (FX n)
theorem Yx (n:Nat):bS E (QS n):=gF (Yw n) (aju n)
def ajv:dP:=⟨[],[]⟩
abbrev K8:List Sk:=[.d (.slice (.int .u8)),.d (.int .i64)]
abbrev FZ:List Sk:=[.d (.int .i64),.d (.int .i64),.d (.int .i64)]
@[irreducible] noncomputable def zm (n:Nat) (p:aJ R.T K8):Option (aJ R.T FZ):=fO E R n false (QS n) bL ajv Tryz.f156 K8 FZ p
theorem ajw (n:Nat):gU 156 K8 FZ (zm n):=fun _ _ h=>by unfold zm at h;exact okF (Yx n) h Tryz.func156 (by kernel_rfl)
noncomputable def K9 (n:Nat):Nat→List (FR R):=dK 156 ⟨K8,FZ,zm n,dW R FZ,false⟩ (QS n)
theorem Yy (n:Nat):bS E (K9 n):=gF (Yx n) (ajw n)
def La:dP:=⟨[(6,⟨[0,5],[],⟨[(6,.d (.int .i64)),(8,.l (.own 41) (.int .i64)),(9,.d (.int .i64))],[]⟩,[(.exit 0,⟨[(6,.d (.int .i64)),(8,.l (.own 41) (.int .i64))],[]⟩),(.ret,⟨[(2,.l (.own 41) (.int .i64)),(3,.d (.int .i64)),(4,.d (.int .i64))],[]⟩)]⟩)],[]⟩
abbrev Lb:List Sk:=[.d (.slice (.int .u8))]
abbrev F3:List Sk:=[.d (.slice (.int .i64)),.d (.int .i64),.d (.int .i64)]
@[irreducible] noncomputable def CF (n:Nat) (p:aJ R.T Lb):Option (aJ R.T F3):=fO E R n false (K9 n) bL La Tryz.f106 Lb F3 p
theorem ajx (n:Nat):gU 106 Lb F3 (CF n):=fun _ _ h=>by unfold CF at h;exact okF (Yy n) h Tryz.func106 (by kernel_rfl)
noncomputable def Lc (n:Nat):Nat→List (FR R):=dK 106 ⟨Lb,F3,CF n,dW R F3,false⟩ (K9 n)
theorem Yz (n:Nat):bS E (Lc n):=gF (Yy n) (ajx n)
def Ld:dP:=⟨[(6,⟨[0,5],[],⟨[(6,.d (.int .i64)),(8,.l (.own 41) (.st 0)),(9,.d (.int .i64))],[]⟩,[(.exit 0,⟨[(6,.d (.int .i64)),(8,.l (.own 41) (.st 0))],[]⟩)]⟩)],[]⟩
abbrev Le:List Sk:=[.d (.slice (.int .u8))]
abbrev F4:List Sk:=[.d (.slice (.st 0)),.d (.int .i64),.d (.int .i64)]
@[irreducible] noncomputable def CG (n:Nat) (p:aJ R.T Le):Option (aJ R.T F4):=fO E R n false (Lc n) bL Ld Tryz.f107 Le F4 p
theorem ajy (n:Nat):gU 107 Le F4 (CG n):=fun _ _ h=>by unfold CG at h;exact okF (Yz n) h Tryz.func107 (by kernel_rfl)
noncomputable def Lf (n:Nat):Nat→List (FR R):=dK 107 ⟨Le,F4,CG n,dW R F4,false⟩ (Lc n)
theorem YA (n:Nat):bS E (Lf n):=gF (Yz n) (ajy n)
def Lg:dP:=⟨[(12,⟨[2,3,6,9,10],[2],⟨[(11,.d (.int .i64))],[(10,.cells [.d (.int .i64),.d (.int .i64),.d (.int .i64),.d (.int .i64),.d (.int .u8),.d (.int .u8),.d (.int .u8),.d (.int .u8),.d (.int .u8),.d (.int .u8),.d (.int .u8),.d (.int .u8),.d (.int .u8),.d (.int .u8),.d (.int .u8),.d (.int .u8),.d (.int .u8),.d (.int .u8),.d (.int .u8),.d (.int .u8),.d (.int .u8),.d (.int .u8),.d (.int .u8),.d (.int .u8),.d (.int .u8),.d (.int .u8),.d (.int .u8),.d (.int .u8),.d (.int .u8),.d (.int .u8),.d (.int .u8),.d (.int .u8),.d (.int .u8),.d (.int .u8),.d (.int .u8),.d (.int .u8),.l (.own 122) (.st 2),.d (.int .u8),.d (.int .u8),.d (.int .u8),.d (.int .u8),.d (.int .u8),.d (.int .u8),.d (.int .u8),.d (.int .u8),.d (.int .u8),.d (.int .u8),.d (.int .u8),.d (.int .u8),.d (.int .u8),.d (.int .u8),.d (.int .u8),.d (.int .u8),.d (.int .i64),.d (.int .u8),.d (.int .u8),.d (.int .u8),.d (.int .u8),.d (.int .u8),.d (.int .u8),.d (.int .u8),.d (.int .u8),.d (.int .u8),.d (.int .u8),.d (.int .u8),.d (.int .u8),.d (.int .u8),.d (.int .u8),.d (.int .u8),.d (.int .u8),.d (.int .i64),.d (.int .i64),.d (.int .u8),.d (.int .u8),.d (.int .u8),.d (.int .u8),.d (.int .u8),.d (.int .u8),.d (.int .u8),.d (.int .u8),.d (.int .u8),.d (.int .u8),.d (.int .u8),.d (.int .u8),.d (.int .u8),.d (.int .u8),.d (.int .u8),.d (.int .u8)])]⟩,[(.exit 0,⟨[],[(10,.cells [.d (.int .i64),.d (.int .i64),.d (.int .i64),.d (.int .i64),.d (.int .u8),.d (.int .u8),.d (.int .u8),.d (.int .u8),.d (.int .u8),.d (.int .u8),.d (.int .u8),.d (.int .u8),.d (.int .u8),.d (.int .u8),.d (.int .u8),.d (.int .u8),.d (.int .u8),.d (.int .u8),.d (.int .u8),.d (.int .u8),.d (.int .u8),.d (.int .u8),.d (.int .u8),.d (.int .u8),.d (.int .u8),.d (.int .u8),.d (.int .u8),.d (.int .u8),.d (.int .u8),.d (.int .u8),.d (.int .u8),.d (.int .u8),.d (.int .u8),.d (.int .u8),.d (.int .u8),.d (.int .u8),.l (.own 122) (.st 2),.d (.int .u8),.d (.int .u8),.d (.int .u8),.d (.int .u8),.d (.int .u8),.d (.int .u8),.d (.int .u8),.d (.int .u8),.d (.int .u8),.d (.int .u8),.d (.int .u8),.d (.int .u8),.d (.int .u8),.d (.int .u8),.d (.int .u8),.d (.int .u8),.d (.int .i64),.d (.int .u8),.d (.int .u8),.d (.int .u8),.d (.int .u8),.d (.int .u8),.d (.int .u8),.d (.int .u8),.d (.int .u8),.d (.int .u8),.d (.int .u8),.d (.int .u8),.d (.int .u8),.d (.int .u8),.d (.int .u8),.d (.int .u8),.d (.int .u8),.d (.int .i64),.d (.int .i64),.d (.int .u8),.d (.int .u8),.d (.int .u8),.d (.int .u8),.d (.int .u8),.d (.int .u8),.d (.int .u8),.d (.int .u8),.d (.int .u8),.d (.int .u8),.d (.int .u8),.d (.int .u8),.d (.int .u8),.d (.int .u8),.d (.int .u8),.d (.int .u8)])]⟩)]⟩)],[]⟩
abbrev Lh:List Sk:=[.d (.slice (.int .u8))]
abbrev F5:List Sk:=[.d (.st 5)]
@[irreducible] noncomputable def CJ (n:Nat) (p:aJ R.T Lh):Option (aJ R.T F5):=fO E R n false (Lf n) bL Lg Tryz.f53 Lh F5 p
theorem ajz (n:Nat):gU 53 Lh F5 (CJ n):=fun _ _ h=>by unfold CJ at h;exact okF (YA n) h Tryz.func53 (by kernel_rfl)
noncomputable def Li (n:Nat):Nat→List (FR R):=dK 53 ⟨Lh,F5,CJ n,dW R F5,false⟩ (Lf n)
theorem YB (n:Nat):bS E (Li n):=gF (YA n) (ajz n)
def Lj:dP:=⟨[(5,⟨[],[],⟨[(3,.d (.int .u64)),(4,.l (.own 23) (.int .u8))],[]⟩,[(.exit 0,⟨[(3,.d (.int .u64)),(4,.l (.own 23) (.int .u8))],[]⟩)]⟩)],[]⟩
abbrev CK:List Sk:=[.d (.int .i64)]
abbrev QT:List Sk:=[.d (.slice (.int .u8))]
@[irreducible] noncomputable def vN (n:Nat) (p:aJ R.T CK):Option (aJ R.T QT):=sU E R n false (Li n) bL Lj Tryz.f93 CK (.int .u8) p
theorem ajA (n:Nat) (p:aJ R.T CK) (x:aJ R.T QT) (h:vN n p=some x):Pure E 93 (aY R CK p) (.aj .sh (List.map (aG R (.int .u8)) x))∧jJ E 93 (aY R CK p) (bI R (.int .u8)) (List.map (aG R (.int .u8)) x):=by
 unfold vN at h
 exact BJ vH (YB n) xk h Tryz.func93 rfl rfl rfl rfl (by kernel_rfl)
noncomputable def Ll (n:Nat):Nat→List (FR R):=dK 93 ⟨CK,[.d (.slice (.int .u8))],vN n,dW R QT,true⟩ (Li n)
theorem YC (n:Nat):bS E (Ll n):=BK (G:=vN n) (YB n) (ajA n)
def Lm:dP:=⟨[(3,⟨[0],[],⟨[(3,.l (.own 7) (.int .u8)),(4,.d (.int .i64))],[]⟩,[(.exit 0,⟨[(3,.l (.own 7) (.int .u8))],[]⟩)]⟩)],[]⟩
abbrev CO:List Sk:=[.d (.slice (.int .i64))]
abbrev QU:List Sk:=[.d (.slice (.int .u8))]
@[irreducible] noncomputable def zn (n:Nat) (p:aJ R.T CO):Option (aJ R.T QU):=sU E R n false (Ll n) bL Lm Tryz.f73 CO (.int .u8) p
theorem ajB (n:Nat) (p:aJ R.T CO) (x:aJ R.T QU) (h:zn n p=some x):Pure E 73 (aY R CO p) (.aj .sh (List.map (aG R (.int .u8)) x))∧jJ E 73 (aY R CO p) (bI R (.int .u8)) (List.map (aG R (.int .u8)) x):=by
 unfold zn at h
 exact BJ vH (YC n) xk h Tryz.func73 rfl rfl rfl rfl (by kernel_rfl)
noncomputable def Lp (n:Nat):Nat→List (FR R):=dK 73 ⟨CO,[.d (.slice (.int .u8))],zn n,dW R QU,true⟩ (Ll n)
theorem YD (n:Nat):bS E (Lp n):=BK (G:=zn n) (YC n) (ajB n)
def Lr:dP:=⟨[(3,⟨[0],[],⟨[(3,.l (.own 7) (.int .u8)),(4,.d (.int .i64))],[]⟩,[(.exit 0,⟨[(3,.l (.own 7) (.int .u8))],[]⟩)]⟩)],[]⟩
abbrev Ls:List Sk:=[.d (.slice (.st 0))]
abbrev F6:List Sk:=[.d (.slice (.int .u8))]
@[irreducible] noncomputable def CP (n:Nat) (p:aJ R.T Ls):Option (aJ R.T F6):=fO E R n false (Lp n) bL Lr Tryz.f108 Ls F6 p
theorem ajC (n:Nat):gU 108 Ls F6 (CP n):=fun _ _ h=>by unfold CP at h;exact okF (YD n) h Tryz.func108 (by kernel_rfl)
noncomputable def Lu (n:Nat):Nat→List (FR R):=dK 108 ⟨Ls,F6,CP n,dW R F6,false⟩ (Lp n)
theorem YE (n:Nat):bS E (Lu n):=gF (YD n) (ajC n)
def Lv:dP:=⟨[(4,⟨[1],[1],⟨[(3,.l (.own 45) (.int .i64)),(4,.l (.own 60) (.st 0)),(5,.d (.int .i64))],[]⟩,[(.exit 0,⟨[(3,.l (.own 45) (.int .i64)),(4,.l (.own 60) (.st 0))],[]⟩)]⟩)],[]⟩
abbrev Lx:List Sk:=[.d (.st 3)]
abbrev F7:List Sk:=[.d (.slice (.int .u8))]
@[irreducible] noncomputable def CQ (n:Nat) (p:aJ R.T Lx):Option (aJ R.T F7):=fO E R n false (Lu n) bL Lv Tryz.f54 Lx F7 p
theorem ajD (n:Nat):gU 54 Lx F7 (CQ n):=fun _ _ h=>by unfold CQ at h;exact okF (YE n) h Tryz.func54 (by kernel_rfl)
noncomputable def LA (n:Nat):Nat→List (FR R):=dK 54 ⟨Lx,F7,CQ n,dW R F7,false⟩ (Lu n)
theorem YF (n:Nat):bS E (LA n):=gF (YE n) (ajD n)
def LB:dP:=⟨[(4,⟨[2,3],[2,3],⟨[(5,.d (.int .i64))],[]⟩,[(.exit 0,⟨[],[]⟩),(.ret,⟨[(4,.d .bool)],[]⟩)]⟩)],[]⟩
abbrev LC:List Sk:=[.d (.st 3),.d (.st 3)]
abbrev F8:List Sk:=[.d .bool]
@[irreducible] noncomputable def zo (n:Nat) (p:aJ R.T LC):Option (aJ R.T F8):=fO E R n false (LA n) bL LB Tryz.f15 LC F8 p
theorem ajE (n:Nat):gU 15 LC F8 (zo n):=fun _ _ h=>by unfold zo at h;exact okF (YF n) h Tryz.func15 (by kernel_rfl)
noncomputable def YG (n:Nat):Nat→List (FR R):=dK 15 ⟨LC,F8,zo n,dW R F8,false⟩ (LA n)
theorem ajF (n:Nat):bS E (YG n):=gF (YF n) (ajE n)
def ajG:dP:=⟨[],[]⟩
abbrev QV:List Sk:=[.d (.st 3),.d (.slice (.int .u8))]
abbrev QW:List Sk:=[.d .bool]
@[irreducible] noncomputable def LD (n:Nat) (p:aJ R.T QV):Option (aJ R.T QW):=fO E R n false (YG n) bL ajG Tryz.f8 QV QW p
theorem ajH (n:Nat):gU 8 QV QW (LD n):=fun _ _ h=>by unfold LD at h;exact okF (ajF n) h Tryz.func8 (by kernel_rfl)
end Sh
