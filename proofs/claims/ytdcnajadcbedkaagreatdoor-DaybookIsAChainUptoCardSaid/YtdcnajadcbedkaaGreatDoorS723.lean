/- Part of the proof of a law. -/
import Derived.KernelRfl
import Derived.Test.YtdcnajadcbedkaaGreatDoorS722
set_option linter.all false
set_option linter.unusedSimpArgs false
set_option linter.unusedSectionVars false
open Go Go.Proofs Aq
namespace Sh
set_option maxRecDepth 100000
abbrev En:List Sk:=[]
abbrev Eo:List Sk:=[.d .bool]
@[irreducible] def qo (n:Nat) (p:aH R.T En):Option (aH R.T Eo):=some true
theorem Px (n:Nat) (p:aH R.T En):qo n p=some true:=by unfold qo;rfl
theorem aip (n:Nat) (p:aH R.T En) (x:aH R.T Eo) (h:qo n p=some x):Pure E 12 (bf R En p) (kZ (bf R Eo x)):=by
 unfold qo at h
 exact aio p x h
noncomputable def Py (n:Nat):Nat→List (FR R):=bW 12 ⟨En,Eo,qo n,dn R Eo,false⟩ (WW n)
theorem XC (n:Nat):bI E (Py n):=dN (agX n) (aip n)
def aiq:dz:=⟨[],[]⟩
abbrev JF:List Sk:=[.d (.int .i64)]
abbrev Ep:List Sk:=[.d (.st 4)]
@[irreducible] noncomputable def Bf (n:Nat) (p:aH R.T JF):Option (aH R.T Ep):=dK E R n false (Py n) bG aiq Tryz.f28 JF Ep p
theorem air (n:Nat):dW 28 JF Ep (Bf n):=fun _ _ h=>by unfold Bf at h;exact okF (XC n) h Tryz.func28 (by kernel_rfl)
noncomputable def Pz (n:Nat):Nat→List (FR R):=bW 28 ⟨JF,Ep,Bf n,dn R Ep,false⟩ (Py n)
theorem XD (n:Nat):bI E (Pz n):=dN (XC n) (air n)
def ais:dz:=⟨[],[]⟩
abbrev JG:List Sk:=[.d (.st 3)]
abbrev Er:List Sk:=[.fn 118 [] [.aI [.d (.int .i64),.d (.int .i64),.d (.int .i64),.d (.int .i64),.d (.int .u8),.d (.int .u8),.d (.int .u8),.d (.int .u8),.d (.int .u8),.d (.int .u8),.d (.int .u8),.d (.int .u8),.d (.int .u8),.d (.int .u8),.d (.int .u8),.d (.int .u8),.d (.int .u8),.d (.int .u8),.d (.int .u8),.d (.int .u8),.d (.int .u8),.d (.int .u8),.d (.int .u8),.d (.int .u8),.d (.int .u8),.d (.int .u8),.d (.int .u8),.d (.int .u8),.d (.int .u8),.d (.int .u8),.d (.int .u8),.d (.int .u8),.d (.int .u8),.d (.int .u8),.d (.int .u8),.d (.int .u8),.d (.slice (.st 2)),.d (.int .u8),.d (.int .u8),.d (.int .u8),.d (.int .u8),.d (.int .u8),.d (.int .u8),.d (.int .u8),.d (.int .u8),.d (.int .u8),.d (.int .u8),.d (.int .u8),.d (.int .u8),.d (.int .u8),.d (.int .u8),.d (.int .u8),.d (.int .u8),.d (.int .i64),.d (.int .u8),.d (.int .u8),.d (.int .u8),.d (.int .u8),.d (.int .u8),.d (.int .u8),.d (.int .u8),.d (.int .u8),.d (.int .u8),.d (.int .u8),.d (.int .u8),.d (.int .u8),.d (.int .u8),.d (.int .u8),.d (.int .u8),.d (.int .u8),.d (.int .i64),.d (.int .i64),.d (.int .u8),.d (.int .u8),.d (.int .u8),.d (.int .u8),.d (.int .u8),.d (.int .u8),.d (.int .u8),.d (.int .u8),.d (.int .u8),.d (.int .u8),.d (.int .u8),.d (.int .u8),.d (.int .u8),.d (.int .u8),.d (.int .u8),.d (.int .u8)] 0]]
@[irreducible] noncomputable def Es (n:Nat) (p:aH R.T JG):Option (aH R.T Er):=dK E R n false (Pz n) bG ais Tryz.f70 JG Er p
theorem ait (n:Nat):dW 70 JG Er (Es n):=fun _ _ h=>by unfold Es at h;exact okF (XD n) h Tryz.func70 (by kernel_rfl)
noncomputable def Et (n:Nat):Nat→List (FR R):=bW 70 ⟨JG,Er,Es n,dn R Er,false⟩ (Pz n)
theorem XE (n:Nat):bI E (Et n):=dN (XD n) (ait n)
def yh:dz:=⟨[(3,⟨[1,2,22,23],[1,2],⟨[(3,.l (.own 32) (.int .i64)),(24,.d (.int .i64))],[]⟩,[(.exit 0,⟨[(3,.l (.own 32) (.int .i64))],[]⟩)]⟩),
 (10,⟨[2,6],[2],⟨[],[(6,.cells [.l (.own 45) .str])]⟩,[(.normal,⟨[],[(6,.cells [.l (.own 45) .str])]⟩)]⟩)],[]⟩
abbrev JH:List Sk:=[.d (.st 3)]
abbrev Eu:List Sk:=[.d (.st 0)]
@[irreducible] noncomputable def qp (n:Nat) (p:aH R.T JH):Option (aH R.T Eu):=dK E R n false (Et n) bG yh Tryz.f18 JH Eu p
theorem aiu (n:Nat):dW 18 JH Eu (qp n):=fun _ _ h=>by unfold qp at h;exact okF (XE n) h Tryz.func18 (by kernel_rfl)
noncomputable def PD (n:Nat):Nat→List (FR R):=bW 18 ⟨JH,Eu,qp n,dn R Eu,false⟩ (Et n)
theorem XF (n:Nat):bI E (PD n):=dN (XE n) (aiu n)
def aiv:dz:=⟨[],[]⟩
abbrev JI:List Sk:=[.d (.st 3)]
abbrev Ev:List Sk:=[.d .bool]
@[irreducible] noncomputable def uo (n:Nat) (p:aH R.T JI):Option (aH R.T Ev):=dK E R n false (PD n) bG aiv Tryz.f10 JI Ev p
theorem aiw (n:Nat):dW 10 JI Ev (uo n):=fun _ _ h=>by unfold uo at h;exact okF (XF n) h Tryz.func10 (by kernel_rfl)
noncomputable def PE (n:Nat):Nat→List (FR R):=bW 10 ⟨JI,Ev,uo n,dn R Ev,false⟩ (PD n)
theorem XG (n:Nat):bI E (PE n):=dN (XF n) (aiw n)
def aix:dz:=⟨[],[]⟩
abbrev JJ:List Sk:=[.d (.st 0),.d (.st 0)]
abbrev Ew:List Sk:=[.d .bool]
@[irreducible] noncomputable def Bg (n:Nat) (p:aH R.T JJ):Option (aH R.T Ew):=dK E R n false (PE n) bG aix Tryz.f68 JJ Ew p
theorem aiy (n:Nat):dW 68 JJ Ew (Bg n):=fun _ _ h=>by unfold Bg at h;exact okF (XG n) h Tryz.func68 (by kernel_rfl)
noncomputable def JK (n:Nat):Nat→List (FR R):=bW 68 ⟨JJ,Ew,Bg n,dn R Ew,false⟩ (PE n)
theorem XH (n:Nat):bI E (JK n):=dN (XG n) (aiy n)
def JL:dz:=⟨[(4,⟨[1],[1],⟨[(3,.d (.int .i64))],[]⟩,[(.exit 0,⟨[],[]⟩),(.ret,⟨[(2,.d .bool)],[]⟩)]⟩)],[]⟩
abbrev JM:List Sk:=[.d (.st 3)]
abbrev Ey:List Sk:=[.d .bool]
@[irreducible] noncomputable def vX (n:Nat) (p:aH R.T JM):Option (aH R.T Ey):=dK E R n false (JK n) bG JL Tryz.f17 JM Ey p
theorem aiz (n:Nat):dW 17 JM Ey (vX n):=fun _ _ h=>by unfold vX at h;exact okF (XH n) h Tryz.func17 (by kernel_rfl)
noncomputable def PG (n:Nat):Nat→List (FR R):=bW 17 ⟨JM,Ey,vX n,dn R Ey,false⟩ (JK n)
theorem XI (n:Nat):bI E (PG n):=dN (XH n) (aiz n)
def aiA:dz:=⟨[],[]⟩
abbrev JN:List Sk:=[.d (.int .i64),.d (.int .i64),.d (.int .i64)]
abbrev Ez:List Sk:=[.d .bool]
@[irreducible] noncomputable def o9 (n:Nat) (p:aH R.T JN):Option (aH R.T Ez):=dK E R n false (PG n) bG aiA Tryz.f66 JN Ez p
theorem aiB (n:Nat):dW 66 JN Ez (o9 n):=fun _ _ h=>by unfold o9 at h;exact okF (XI n) h Tryz.func66 (by kernel_rfl)
noncomputable def XJ (n:Nat):Nat→List (FR R):=bW 66 ⟨JN,Ez,o9 n,dn R Ez,false⟩ (PG n)
theorem aiC (n:Nat):bI E (XJ n):=dN (XI n) (aiB n)
abbrev EA:List Sk:=[.d (.slice (.int .u8)),.d (.slice (.int .u8))]
abbrev EB:List Sk:=[.d (.int .i64)]
@[irreducible] def Bh (n:Nat) (p:aH R.T EA):Option (aH R.T EB):=some (DT p.1 p.2)
theorem aiD (n:Nat) (p:aH R.T EA):Bh n p=some (DT p.1 p.2):=by unfold Bh;rfl
theorem aiE (n:Nat) (p:aH R.T EA) (x:aH R.T EB) (h:Bh n p=some x):Pure E 116 (bf R EA p) (kZ (bf R EB x)):=by
 unfold Bh at h
 exact agc p x h
noncomputable def PI (n:Nat):Nat→List (FR R):=bW 116 ⟨EA,EB,Bh n,dn R EB,false⟩ (XJ n)
theorem XK (n:Nat):bI E (PI n):=dN (aiC n) (aiE n)
def aiF:dz:=⟨[],[]⟩
abbrev JO:List Sk:=[.d (.st 0),.d (.st 0)]
abbrev EC:List Sk:=[.d (.int .i64)]
@[irreducible] noncomputable def Bj (n:Nat) (p:aH R.T JO):Option (aH R.T EC):=dK E R n false (PI n) bG aiF Tryz.f67 JO EC p
theorem aiG (n:Nat):dW 67 JO EC (Bj n):=fun _ _ h=>by unfold Bj at h;exact okF (XK n) h Tryz.func67 (by kernel_rfl)
noncomputable def JQ (n:Nat):Nat→List (FR R):=bW 67 ⟨JO,EC,Bj n,dn R EC,false⟩ (PI n)
theorem XL (n:Nat):bI E (JQ n):=dN (XK n) (aiG n)
def JR:dz:=⟨[(2,⟨[1,7,8],[1],⟨[(9,.d (.int .i64))],[]⟩,[(.exit 0,⟨[],[]⟩),(.ret,⟨[(2,.d .bool)],[]⟩)]⟩)],[]⟩
abbrev JU:List Sk:=[.d (.st 3)]
abbrev ED:List Sk:=[.d .bool]
@[irreducible] noncomputable def rZ (n:Nat) (p:aH R.T JU):Option (aH R.T ED):=dK E R n false (JQ n) bG JR Tryz.f16 JU ED p
theorem aiH (n:Nat):dW 16 JU ED (rZ n):=fun _ _ h=>by unfold rZ at h;exact okF (XL n) h Tryz.func16 (by kernel_rfl)
noncomputable def PK (n:Nat):Nat→List (FR R):=bW 16 ⟨JU,ED,rZ n,dn R ED,false⟩ (JQ n)
theorem XM (n:Nat):bI E (PK n):=dN (XL n) (aiH n)
def aiI:dz:=⟨[],[]⟩
abbrev JV:List Sk:=[.d (.int .i64),.d (.int .i64),.d (.int .i64)]
abbrev EF:List Sk:=[.d .bool]
@[irreducible] noncomputable def sj (n:Nat) (p:aH R.T JV):Option (aH R.T EF):=dK E R n false (PK n) bG aiI Tryz.f114 JV EF p
theorem aiJ (n:Nat):dW 114 JV EF (sj n):=fun _ _ h=>by unfold sj at h;exact okF (XM n) h Tryz.func114 (by kernel_rfl)
noncomputable def PL (n:Nat):Nat→List (FR R):=bW 114 ⟨JV,EF,sj n,dn R EF,false⟩ (PK n)
theorem XO (n:Nat):bI E (PL n):=dN (XM n) (aiJ n)
def aiK:dz:=⟨[],[]⟩
abbrev JW:List Sk:=[.d (.st 4)]
abbrev EG:List Sk:=[.d .bool]
@[irreducible] noncomputable def Bl (n:Nat) (p:aH R.T JW):Option (aH R.T EG):=dK E R n false (PL n) bG aiK Tryz.f60 JW EG p
theorem aiL (n:Nat):dW 60 JW EG (Bl n):=fun _ _ h=>by unfold Bl at h;exact okF (XO n) h Tryz.func60 (by kernel_rfl)
noncomputable def XP (n:Nat):Nat→List (FR R):=bW 60 ⟨JW,EG,Bl n,dn R EG,false⟩ (PL n)
theorem aiM (n:Nat):bI E (XP n):=dN (XO n) (aiL n)
abbrev EH:List Sk:=[.d (.slice (.st 2))]
abbrev EI:List Sk:=[.d (.slice (.st 2))]
@[irreducible] def Bn (n:Nat) (p:aH R.T EH):Option (aH R.T EI):=I9 p
theorem aiN (n:Nat) (p:aH R.T EH):Bn n p=I9 p:=by unfold Bn;rfl
theorem aiO (n:Nat) (p:aH R.T EH) (x:aH R.T EI) (h:Bn n p=some x):Pure E 61 (bf R EH p) (kZ (bf R EI x)):=by
 unfold Bn at h
 exact agh p x h
noncomputable def PN (n:Nat):Nat→List (FR R):=bW 61 ⟨EH,EI,Bn n,dn R EI,false⟩ (XP n)
theorem XQ (n:Nat):bI E (PN n):=dN (aiM n) (aiO n)
def aiP:dz:=⟨[],[]⟩
abbrev JX:List Sk:=[.d (.st 3)]
abbrev EJ:List Sk:=[.d .str]
@[irreducible] noncomputable def yj (n:Nat) (p:aH R.T JX):Option (aH R.T EJ):=dK E R n false (PN n) bG aiP Tryz.f63 JX EJ p
theorem aiQ (n:Nat):dW 63 JX EJ (yj n):=fun _ _ h=>by unfold yj at h;exact okF (XQ n) h Tryz.func63 (by kernel_rfl)
noncomputable def EK (n:Nat):Nat→List (FR R):=bW 63 ⟨JX,EJ,yj n,dn R EJ,false⟩ (PN n)
theorem XR (n:Nat):bI E (EK n):=dN (XQ n) (aiQ n)
def yt:dz:=⟨[(3,⟨[0,9,10],[],⟨[(3,.d (.int .i64)),(11,.d (.int .i64))],[]⟩,[(.exit 0,⟨[(3,.d (.int .i64))],[]⟩)]⟩),
 (11,⟨[25,26],[],⟨[(6,.l (.own 24) .str),(27,.d (.int .i64))],[]⟩,[(.exit 2,⟨[(6,.l (.own 24) .str)],[]⟩)]⟩)],[]⟩
abbrev JY:List Sk:=[.d (.slice (.slice .str))]
abbrev EL:List Sk:=[.d (.slice .str)]
@[irreducible] noncomputable def Bo (n:Nat) (p:aH R.T JY):Option (aH R.T EL):=dK E R n false (EK n) bG yt Tryz.f115 JY EL p
theorem aiR (n:Nat):dW 115 JY EL (Bo n):=fun _ _ h=>by unfold Bo at h;exact okF (XR n) h Tryz.func115 (by kernel_rfl)
noncomputable def PO (n:Nat):Nat→List (FR R):=bW 115 ⟨JY,EL,Bo n,dn R EL,false⟩ (EK n)
theorem XT (n:Nat):bI E (PO n):=dN (XR n) (aiR n)
def aiS:dz:=⟨[],[]⟩
abbrev JZ:List Sk:=[.d (.st 4),.d (.int .i64),.d (.slice .str)]
abbrev EM:List Sk:=[.d (.st 1)]
@[irreducible] noncomputable def yu (n:Nat) (p:aH R.T JZ):Option (aH R.T EM):=dK E R n false (PO n) bG aiS Tryz.f62 JZ EM p
theorem aiT (n:Nat):dW 62 JZ EM (yu n):=fun _ _ h=>by unfold yu at h;exact okF (XT n) h Tryz.func62 (by kernel_rfl)
noncomputable def PS (n:Nat):Nat→List (FR R):=bW 62 ⟨JZ,EM,yu n,dn R EM,false⟩ (PO n)
theorem XU (n:Nat):bI E (PS n):=dN (XT n) (aiT n)
def aiU:dz:=⟨[],[]⟩
abbrev J2:List Sk:=[.d (.st 4),.d (.st 3)]
abbrev EN:List Sk:=[.d (.st 3),.d (.int .i64)]
@[irreducible] noncomputable def su (n:Nat) (p:aH R.T J2):Option (aH R.T EN):=dK E R n false (PS n) bG aiU Tryz.f13 J2 EN p
theorem aiV (n:Nat):dW 13 J2 EN (su n):=fun _ _ h=>by unfold su at h;exact okF (XU n) h Tryz.func13 (by kernel_rfl)
noncomputable def PU (n:Nat):Nat→List (FR R):=bW 13 ⟨J2,EN,su n,dn R EN,false⟩ (PS n)
theorem XV (n:Nat):bI E (PU n):=dN (XU n) (aiV n)
def aiW:dz:=⟨[],[]⟩
abbrev J3:List Sk:=[.d (.st 3),.d (.st 3)]
abbrev EO:List Sk:=[.d (.int .i64)]
@[irreducible] noncomputable def vY (n:Nat) (p:aH R.T J3):Option (aH R.T EO):=dK E R n false (PU n) bG aiW Tryz.f22 J3 EO p
theorem aiX (n:Nat):dW 22 J3 EO (vY n):=fun _ _ h=>by unfold vY at h;exact okF (XV n) h Tryz.func22 (by kernel_rfl)
noncomputable def PV (n:Nat):Nat→List (FR R):=bW 22 ⟨J3,EO,vY n,dn R EO,false⟩ (PU n)
theorem XW (n:Nat):bI E (PV n):=dN (XV n) (aiX n)
def aiY:dz:=⟨[],[]⟩
abbrev J4:List Sk:=[.d (.st 6),.d (.st 3)]
abbrev EP:List Sk:=[.d (.st 6),.d (.int .i64)]
@[irreducible] noncomputable def vZ (n:Nat) (p:aH R.T J4):Option (aH R.T EP):=dK E R n false (PV n) bG aiY Tryz.f29 J4 EP p
theorem aiZ (n:Nat):dW 29 J4 EP (vZ n):=fun _ _ h=>by unfold vZ at h;exact okF (XW n) h Tryz.func29 (by kernel_rfl)
noncomputable def PW (n:Nat):Nat→List (FR R):=bW 29 ⟨J4,EP,vZ n,dn R EP,false⟩ (PV n)
theorem XY (n:Nat):bI E (PW n):=dN (XW n) (aiZ n)
def ai0:dz:=⟨[],[]⟩
abbrev J5:List Sk:=[.d (.int .i64)]
abbrev ER:List Sk:=[.d .bool]
@[irreducible] noncomputable def cmp_isNaN_int (n:Nat) (p:aH R.T J5):Option (aH R.T ER):=dK E R n false (PW n) bG ai0 Tryz.f159 J5 ER p
theorem ai1 (n:Nat):dW 159 J5 ER (cmp_isNaN_int n):=fun _ _ h=>by unfold cmp_isNaN_int at h;exact okF (XY n) h Tryz.func159 (by kernel_rfl)
noncomputable def PX (n:Nat):Nat→List (FR R):=bW 159 ⟨J5,ER,cmp_isNaN_int n,dn R ER,false⟩ (PW n)
theorem XZ (n:Nat):bI E (PX n):=dN (XY n) (ai1 n)
def ai2:dz:=⟨[],[]⟩
abbrev J6:List Sk:=[.d (.int .i64),.d (.int .i64)]
abbrev ES:List Sk:=[.d (.int .i64)]
@[irreducible] noncomputable def cmp_Compare_int (n:Nat) (p:aH R.T J6):Option (aH R.T ES):=dK E R n false (PX n) bG ai2 Tryz.f111 J6 ES p
theorem ai3 (n:Nat):dW 111 J6 ES (cmp_Compare_int n):=fun _ _ h=>by unfold cmp_Compare_int at h;exact okF (XZ n) h Tryz.func111 (by kernel_rfl)
noncomputable def J7 (n:Nat):Nat→List (FR R):=bW 111 ⟨J6,ES,cmp_Compare_int n,dn R ES,false⟩ (PX n)
theorem X0 (n:Nat):bI E (J7 n):=dN (XZ n) (ai3 n)
def J8:dz:=⟨[(3,⟨[3,6,7],[],⟨[(8,.d (.int .i64))],[]⟩,[(.exit 0,⟨[],[]⟩),(.ret,⟨[(2,.d (.int .i64))],[]⟩)]⟩)],[]⟩
abbrev J9:List Sk:=[.d (.slice (.int .i64))]
abbrev ET:List Sk:=[.d (.int .i64)]
@[irreducible] noncomputable def Bp (n:Nat) (p:aH R.T J9):Option (aH R.T ET):=dK E R n false (J7 n) bG J8 Tryz.f217 J9 ET p
theorem ai4 (n:Nat):dW 217 J9 ET (Bp n):=fun _ _ h=>by unfold Bp at h;exact okF (X0 n) h Tryz.func217 (by kernel_rfl)
noncomputable def PY (n:Nat):Nat→List (FR R):=bW 217 ⟨J9,ET,Bp n,dn R ET,false⟩ (J7 n)
theorem X3 (n:Nat):bI E (PY n):=dN (X0 n) (ai4 n)
def ai5:dz:=⟨[],[]⟩
abbrev Ka:List Sk:=[.d (.st 4),.d (.st 4)]
abbrev EU:List Sk:=[.d (.int .i64)]
@[irreducible] noncomputable def EW (n:Nat) (p:aH R.T Ka):Option (aH R.T EU):=dK E R n false (PY n) bG ai5 Tryz.f205 Ka EU p
theorem ai6 (n:Nat):dW 205 Ka EU (EW n):=fun _ _ h=>by unfold EW at h;exact okF (X3 n) h Tryz.func205 (by kernel_rfl)
noncomputable def PZ (n:Nat):Nat→List (FR R):=bW 205 ⟨Ka,EU,EW n,dn R EU,false⟩ (PY n)
theorem X4 (n:Nat):bI E (PZ n):=dN (X3 n) (ai6 n)
def ai7:dz:=⟨[],[]⟩
abbrev Kc:List Sk:=[.d (.st 4),.d (.st 4)]
abbrev EX:List Sk:=[.d (.int .i64)]
@[irreducible] noncomputable def yw (n:Nat) (p:aH R.T Kc):Option (aH R.T EX):=dK E R n false (PZ n) bG ai7 Tryz.f204 Kc EX p
theorem ai8 (n:Nat):dW 204 Kc EX (yw n):=fun _ _ h=>by unfold yw at h;exact okF (X4 n) h Tryz.func204 (by kernel_rfl)
noncomputable def Ke (n:Nat):Nat→List (FR R):=bW 204 ⟨Kc,EX,yw n,dn R EX,false⟩ (PZ n)
theorem X5 (n:Nat):bI E (Ke n):=dN (X4 n) (ai8 n)
def Kg:dz:=⟨[(3,⟨[0,2,4,8],[4],⟨[(9,.d (.int .i64)),(10,.d (.int .i64))],[]⟩,[(.exit 0,⟨[(9,.d (.int .i64))],[]⟩)]⟩)],[]⟩
abbrev Kh:List Sk:=[.d (.slice (.st 4)),.d (.st 4),.fn 204 [] []]
abbrev EY:List Sk:=[.d (.int .i64),.d .bool]
@[irreducible] noncomputable def EZ (n:Nat) (p:aH R.T Kh):Option (aH R.T EY):=dK E R n false (Ke n) bG Kg Tryz.f203 Kh EY p
theorem ai9 (n:Nat):dW 203 Kh EY (EZ n):=fun _ _ h=>by unfold EZ at h;exact okF (X5 n) h Tryz.func203 (by kernel_rfl)
noncomputable def P5 (n:Nat):Nat→List (FR R):=bW 203 ⟨Kh,EY,EZ n,dn R EY,false⟩ (Ke n)
theorem X6 (n:Nat):bI E (P5 n):=dN (X5 n) (ai9 n)
def aja:dz:=⟨[],[]⟩
abbrev Ki:List Sk:=[.d (.slice (.st 4)),.d (.int .i64),.d (.int .i64)]
abbrev E5:List Sk:=[.d (.int .i64),.d .bool]
@[irreducible] noncomputable def Bq (n:Nat) (p:aH R.T Ki):Option (aH R.T E5):=dK E R n false (P5 n) bG aja Tryz.f172 Ki E5 p
theorem ajb (n:Nat):dW 172 Ki E5 (Bq n):=fun _ _ h=>by unfold Bq at h;exact okF (X6 n) h Tryz.func172 (by kernel_rfl)
noncomputable def P6 (n:Nat):Nat→List (FR R):=bW 172 ⟨Ki,E5,Bq n,dn R E5,false⟩ (P5 n)
theorem X7 (n:Nat):bI E (P6 n):=dN (X6 n) (ajb n)
def ajc:dz:=⟨[],[]⟩
abbrev Kj:List Sk:=[.d (.slice (.st 4)),.d (.int .i64),.d (.int .i64)]
abbrev E8:List Sk:=[.d (.st 4),.d (.int .i64)]
@[irreducible] noncomputable def Br (n:Nat) (p:aH R.T Kj):Option (aH R.T E8):=dK E R n false (P6 n) bG ajc Tryz.f125 Kj E8 p
theorem ajd (n:Nat):dW 125 Kj E8 (Br n):=fun _ _ h=>by unfold Br at h;exact okF (X7 n) h Tryz.func125 (by kernel_rfl)
noncomputable def P7 (n:Nat):Nat→List (FR R):=bW 125 ⟨Kj,E8,Br n,dn R E8,false⟩ (P6 n)
theorem X8 (n:Nat):bI E (P7 n):=dN (X7 n) (ajd n)
def aje:dz:=⟨[],[]⟩
abbrev Kk:List Sk:=[.d (.st 4),.d (.int .i64)]
abbrev E9:List Sk:=[.d .bool]
@[irreducible] noncomputable def Bt (n:Nat) (p:aH R.T Kk):Option (aH R.T E9):=dK E R n false (P7 n) bG aje Tryz.f126 Kk E9 p
theorem ajf (n:Nat):dW 126 Kk E9 (Bt n):=fun _ _ h=>by unfold Bt at h;exact okF (X8 n) h Tryz.func126 (by kernel_rfl)
noncomputable def P8 (n:Nat):Nat→List (FR R):=bW 126 ⟨Kk,E9,Bt n,dn R E9,false⟩ (P7 n)
theorem X9 (n:Nat):bI E (P8 n):=dN (X8 n) (ajf n)
def ajg:dz:=⟨[],[]⟩
abbrev Kl:List Sk:=[.d (.slice (.st 4)),.d (.int .i64),.d (.int .i64),.d (.int .i64),.d (.slice .str),.d (.st 1),.d (.int .i64)]
abbrev Fa:List Sk:=[.d (.int .i64)]
@[irreducible] noncomputable def Bu (n:Nat) (p:aH R.T Kl):Option (aH R.T Fa):=dK E R n false (P8 n) bG ajg Tryz.f74 Kl Fa p
theorem ajh (n:Nat):dW 74 Kl Fa (Bu n):=fun _ _ h=>by unfold Bu at h;exact okF (X9 n) h Tryz.func74 (by kernel_rfl)
noncomputable def P9 (n:Nat):Nat→List (FR R):=bW 74 ⟨Kl,Fa,Bu n,dn R Fa,false⟩ (P8 n)
theorem Ya (n:Nat):bI E (P9 n):=dN (X9 n) (ajh n)
def aji:dz:=⟨[],[]⟩
abbrev Km:List Sk:=[.d (.slice (.st 4)),.d (.st 3)]
abbrev Fb:List Sk:=[.d (.int .i64)]
@[irreducible] noncomputable def sw (n:Nat) (p:aH R.T Km):Option (aH R.T Fb):=dK E R n false (P9 n) bG aji Tryz.f20 Km Fb p
theorem ajj (n:Nat):dW 20 Km Fb (sw n):=fun _ _ h=>by unfold sw at h;exact okF (Ya n) h Tryz.func20 (by kernel_rfl)
noncomputable def Qa (n:Nat):Nat→List (FR R):=bW 20 ⟨Km,Fb,sw n,dn R Fb,false⟩ (P9 n)
theorem Yb (n:Nat):bI E (Qa n):=dN (Ya n) (ajj n)
def ajk:dz:=⟨[],[]⟩
abbrev Kn:List Sk:=[.d (.slice (.st 4)),.d (.st 3),.d (.st 3)]
abbrev Fe:List Sk:=[.d .bool]
@[irreducible] noncomputable def yx (n:Nat) (p:aH R.T Kn):Option (aH R.T Fe):=dK E R n false (Qa n) bG ajk Tryz.f76 Kn Fe p
theorem ajl (n:Nat):dW 76 Kn Fe (yx n):=fun _ _ h=>by unfold yx at h;exact okF (Yb n) h Tryz.func76 (by kernel_rfl)
noncomputable def Qb (n:Nat):Nat→List (FR R):=bW 76 ⟨Kn,Fe,yx n,dn R Fe,false⟩ (Qa n)
theorem Yc (n:Nat):bI E (Qb n):=dN (Yb n) (ajl n)
def ajm:dz:=⟨[],[]⟩
abbrev Ko:List Sk:=[.d (.slice (.st 4)),.d (.st 3),.d (.st 3)]
abbrev Fg:List Sk:=[.d .bool]
@[irreducible] noncomputable def yA (n:Nat) (p:aH R.T Ko):Option (aH R.T Fg):=dK E R n false (Qb n) bG ajm Tryz.f24 Ko Fg p
theorem ajn (n:Nat):dW 24 Ko Fg (yA n):=fun _ _ h=>by unfold yA at h;exact okF (Yc n) h Tryz.func24 (by kernel_rfl)
noncomputable def Qc (n:Nat):Nat→List (FR R):=bW 24 ⟨Ko,Fg,yA n,dn R Fg,false⟩ (Qb n)
theorem Yd (n:Nat):bI E (Qc n):=dN (Yc n) (ajn n)
def ajo:dz:=⟨[],[]⟩
abbrev Kq:List Sk:=[.d (.slice (.st 4)),.d (.st 3),.d (.st 3)]
abbrev Fh:List Sk:=[.d .bool]
@[irreducible] noncomputable def yB (n:Nat) (p:aH R.T Kq):Option (aH R.T Fh):=dK E R n false (Qc n) bG ajo Tryz.f26 Kq Fh p
theorem ajp (n:Nat):dW 26 Kq Fh (yB n):=fun _ _ h=>by unfold yB at h;exact okF (Yd n) h Tryz.func26 (by kernel_rfl)
noncomputable def Fj (n:Nat):Nat→List (FR R):=bW 26 ⟨Kq,Fh,yB n,dn R Fh,false⟩ (Qc n)
theorem ajq (n:Nat):bI E (Fj n):=dN (Yd n) (ajp n)
def sD:dz:=⟨[(7,⟨[0,1,2,7,9,10,11],[7,9],⟨[(12,.d (.int .i64))],[(11,.st 6)]⟩,[(.exit 0,⟨[],[(11,.st 6)]⟩),(.ret,⟨[(8,.d .bool)],[]⟩)]⟩),
 (29,⟨[0,1,2,7,9,10,11],[7,9,11],⟨[(19,.d (.int .i64))],[]⟩,[(.exit 2,⟨[],[]⟩),(.ret,⟨[(8,.d .bool)],[]⟩)]⟩),
 (32,⟨[0,1,2,7,9,10,11,19],[7,9,11],⟨[(20,.d (.int .i64))],[]⟩,[(.exit 4,⟨[],[]⟩),(.ret,⟨[(8,.d .bool)],[]⟩)]⟩)],[]⟩
abbrev Qd:List Sk:=[.d (.int .u8),.d (.slice (.st 3)),.d (.int .u8),.d (.st 3)]
abbrev Qe:List Sk:=[.d .bool]
@[irreducible] noncomputable def Kr (n:Nat) (p:aH R.T Qd):Option (aH R.T Qe):=dK E R n false (Fj n) bG sD Tryz.f4 Qd Qe p
theorem ajr (n:Nat):dW 4 Qd Qe (Kr n):=fun _ _ h=>by unfold Kr at h;exact okF (ajq n) h Tryz.func4 (by kernel_rfl)
end Sh
