import Derived.Test.YthadiihdjhakdaaGreatF2218
set_option linter.all false
noncomputable section
open Go Go.Proofs aR
namespace Sh
variable (n:Nat)
set_option maxRecDepth 100000
def abO:bC:=⟨[(2,⟨[1,2],[2],⟨[(5,.d (.int .i64))],[]⟩,[(.exit 0,⟨[],[]⟩),(.ret,⟨[(4,.d .bool)],[]⟩)]⟩),
 (8,⟨[1,2,5,6],[2,6],⟨[(7,.d (.int .i64))],[]⟩,[(.exit 2,⟨[],[]⟩),(.ret,⟨[(4,.d .bool)],[]⟩)]⟩)],[]⟩
abbrev PS:List aC:=[.d (.st 1),.d (.int .i64)]
abbrev Jv:List aC:=[.d .bool]
@[irreducible] def Jw :cK PS Jv:=bP E R n false (PO n) (dx n) abO Tryz.f32 PS Jv
theorem awD (p:av R.T PS)(x:av R.T Jv)(h:Jw n p=some x):Pure E 32 (aF R PS p) (bq (aF R Jv x)):=by unfold Jw at h;exact bR bD (ajF n) (gy n) h Tryz.func32 rfl rfl rfl rfl aA
def abP:bT:=bK 32 ⟨PS,Jv,Jw n,bn R Jv,false,false⟩ (PO n)
theorem ajK:aZ E (abP n):=bI (ajF n) (awD n)
def awE:bC:=⟨[],[]⟩
abbrev PU:List aC:=[.d (.int .i64)]
abbrev Jy:List aC:=[.d .bool]
@[irreducible] def Wf :cK PU Jy:=bP E R n false (abP n) (dx n) awE Tryz.f96 PU Jy
theorem awF (p:av R.T PU)(x:av R.T Jy)(h:Wf n p=some x):Pure E 96 (aF R PU p) (bq (aF R Jy x)):=by unfold Wf at h;exact bR bD (ajK n) (gy n) h Tryz.func96 rfl rfl rfl rfl aA
def WZ:bT:=bK 96 ⟨PU,Jy,Wf n,bn R Jy,false,false⟩ (abP n)
theorem ajL:aZ E (WZ n):=bI (ajK n) (awF n)
def ajM:bC:=⟨[(2,⟨[0,1],[],⟨[(5,.d (.int .i64))],[]⟩,[(.exit 0,⟨[],[]⟩),(.ret,⟨[(4,.d .bool)],[]⟩)]⟩)],[]⟩
abbrev PV:List aC:=[.d (.slice .str),.d .str]
abbrev Jz:List aC:=[.d .bool]
@[irreducible] def ZD :cK PV Jz:=bP E R n false (WZ n) (dx n) ajM Tryz.f186 PV Jz
theorem awG (p:av R.T PV)(x:av R.T Jz)(h:ZD n p=some x):Pure E 186 (aF R PV p) (bq (aF R Jz x)):=by unfold ZD at h;exact bR bD (ajL n) (gy n) h Tryz.func186 rfl rfl rfl rfl aA
def W9:bT:=bK 186 ⟨PV,Jz,ZD n,bn R Jz,false,false⟩ (WZ n)
theorem ajN:aZ E (W9 n):=bI (ajL n) (awG n)
def ajO:bC:=⟨[(2,⟨[0],[],⟨[(3,.d (.int .i64))],[]⟩,[(.exit 0,⟨[],[]⟩),(.ret,⟨[(2,.d .bool)],[]⟩)]⟩)],[]⟩
abbrev PW:List aC:=[.d .str]
abbrev JA:List aC:=[.d .bool]
@[irreducible] def FT :cK PW JA:=bP E R n false (W9 n) (dx n) ajO Tryz.f151 PW JA
theorem awH (p:av R.T PW)(x:av R.T JA)(h:FT n p=some x):Pure E 151 (aF R PW p) (bq (aF R JA x)):=by unfold FT at h;exact bR bD (ajN n) (gy n) h Tryz.func151 rfl rfl rfl rfl aA
def PX:bT:=bK 151 ⟨PW,JA,FT n,bn R JA,false,false⟩ (W9 n)
theorem ajP:aZ E (PX n):=bI (ajN n) (awH n)
def abQ:bC:=⟨[(4,⟨[0],[],⟨[(3,.d (.int .i64))],[]⟩,[(.exit 0,⟨[],[]⟩),(.ret,⟨[(2,.d (.int .i64))],[]⟩)]⟩),
 (9,⟨[0],[],⟨[(4,.d (.int .i64))],[]⟩,[(.exit 2,⟨[],[]⟩),(.ret,⟨[(2,.d (.int .i64))],[]⟩)]⟩)],[]⟩
abbrev PY:List aC:=[.d (.slice .str)]
abbrev JB:List aC:=[.d (.int .i64)]
@[irreducible] def JC :cK PY JB:=bP E R n false (PX n) (dx n) abQ Tryz.f152 PY JB
theorem awI (p:av R.T PY)(x:av R.T JB)(h:JC n p=some x):Pure E 152 (aF R PY p) (bq (aF R JB x)):=by unfold JC at h;exact bR bD (ajP n) (gy n) h Tryz.func152 rfl rfl rfl rfl aA
def abR:bT:=bK 152 ⟨PY,JB,JC n,bn R JB,false,false⟩ (PX n)
theorem ajQ:aZ E (abR n):=bI (ajP n) (awI n)
def awJ:bC:=⟨[],[]⟩
abbrev PZ:List aC:=[.d (.st 0),.d .str]
abbrev JD:List aC:=[.d (.int .i64)]
@[irreducible] def Vc :cK PZ JD:=bP E R n false (abR n) (dx n) awJ Tryz.f97 PZ JD
theorem awK (p:av R.T PZ)(x:av R.T JD)(h:Vc n p=some x):Pure E 97 (aF R PZ p) (bq (aF R JD x)):=by unfold Vc at h;exact bR bD (ajQ n) (gy n) h Tryz.func97 rfl rfl rfl rfl aA
def Xa:bT:=bK 97 ⟨PZ,JD,Vc n,bn R JD,false,false⟩ (abR n)
theorem ajR:aZ E (Xa n):=bI (ajQ n) (awK n)
def ajS:bC:=⟨[(7,⟨[1],[1],⟨[(3,.d .str),(4,.d (.int .i64))],[]⟩,[(.exit 0,⟨[],[]⟩),(.ret,⟨[(2,.d (.int .i64))],[]⟩)]⟩)],[]⟩
abbrev P5:List aC:=[.d (.st 1)]
abbrev JE:List aC:=[.d (.int .i64)]
@[irreducible] def BQ :cK P5 JE:=bP E R n false (Xa n) (dx n) ajS Tryz.f47 P5 JE
theorem awL (p:av R.T P5)(x:av R.T JE)(h:BQ n p=some x):Pure E 47 (aF R P5 p) (bq (aF R JE x)):=by unfold BQ at h;exact bR bD (ajR n) (gy n) h Tryz.func47 rfl rfl rfl rfl aA
def Xb:bT:=bK 47 ⟨P5,JE,BQ n,bn R JE,false,false⟩ (Xa n)
theorem ajT:aZ E (Xb n):=bI (ajR n) (awL n)
def ajU:bC:=⟨[(2,⟨[1],[1],⟨[(3,.d (.int .i64))],[]⟩,[(.exit 0,⟨[],[]⟩),(.ret,⟨[(2,.d .bool)],[]⟩)]⟩)],[]⟩
abbrev P6:List aC:=[.d (.st 6)]
abbrev JF:List aC:=[.d .bool]
@[irreducible] def FU :cK P6 JF:=bP E R n false (Xb n) (dx n) ajU Tryz.f80 P6 JF
theorem awM (p:av R.T P6)(x:av R.T JF)(h:FU n p=some x):Pure E 80 (aF R P6 p) (bq (aF R JF x)):=by unfold FU at h;exact bR bD (ajT n) (gy n) h Tryz.func80 rfl rfl rfl rfl aA
def Xc:bT:=bK 80 ⟨P6,JF,FU n,bn R JF,false,false⟩ (Xb n)
theorem ajV:aZ E (Xc n):=bI (ajT n) (awM n)
def ajW:bC:=⟨[(2,⟨[0,1],[],⟨[(5,.d (.int .i64))],[]⟩,[(.exit 0,⟨[],[]⟩),(.ret,⟨[(4,.d .bool)],[]⟩)]⟩)],[]⟩
abbrev P7:List aC:=[.d (.slice (.st 13)),.d (.int .i64)]
abbrev JG:List aC:=[.d .bool]
@[irreducible] def FV :cK P7 JG:=bP E R n false (Xc n) (dx n) ajW Tryz.f29 P7 JG
theorem awN (p:av R.T P7)(x:av R.T JG)(h:FV n p=some x):Pure E 29 (aF R P7 p) (bq (aF R JG x)):=by unfold FV at h;exact bR bD (ajV n) (gy n) h Tryz.func29 rfl rfl rfl rfl aA
def abS:bT:=bK 29 ⟨P7,JG,FV n,bn R JG,false,false⟩ (Xc n)
theorem ajX:aZ E (abS n):=bI (ajV n) (awN n)
def awO:bC:=⟨[],[]⟩
abbrev P8:List aC:=[.d (.st 1),.d (.slice (.st 13))]
abbrev JH:List aC:=[.d .bool]
@[irreducible] def WP :cK P8 JH:=bP E R n false (abS n) (dx n) awO Tryz.f11 P8 JH
theorem awP (p:av R.T P8)(x:av R.T JH)(h:WP n p=some x):Pure E 11 (aF R P8 p) (bq (aF R JH x)):=by unfold WP at h;exact bR bD (ajX n) (gy n) h Tryz.func11 rfl rfl rfl rfl aA
def abT:bT:=bK 11 ⟨P8,JH,WP n,bn R JH,false,false⟩ (abS n)
theorem abU:aZ E (abT n):=bI (ajX n) (awP n)
def abV:bC:=⟨[(3,⟨[1],[1],⟨[(3,.l (.own 26) (.st 2)),(4,.d (.int .i64))],[]⟩,[(.exit 0,⟨[(3,.l (.own 26) (.st 2))],[]⟩)]⟩)],[]⟩
abbrev yM:List aC:=[.d (.st 2)]
abbrev Aj:List aC:=[.d (.slice (.st 2))]
def Ak:Nat->List aC
 |_=>yM
def vF:Nat->List aC
 |_=>Aj
def awQ:Nat->bC
 |_=>abV
def awR:Nat->Func
 |_=>Tryz.f93
def P9 (g:(i:Nat)->av R.T (Ak i)->Option (av R.T (vF i))):Nat->List (fC R):=bK 93 ⟨Ak 0,vF 0,g 0,bn R (vF 0),false,false⟩ (abT n)
def vG (n:Nat):Nat->(i:Nat)->av R.T (Ak i)->Option (av R.T (vF i))
 |0,_,_=>none|m+1,i,p=>bP E R n false (P9 n (vG n m)) (dx n) (awQ i) (awR i) (Ak i) (vF i) p
attribute [irreducible] vG
theorem ajY (n m:Nat)(p:av R.T yM):vG n (m+1) 0 p=bP E R n false (P9 n (vG n m)) (dx n) abV Tryz.f93 yM Aj p:=aA
theorem ajZ (p:av R.T yM):vG n 0 0 p=none:=aA
theorem awS (p:av R.T (Ak 0))(x:av R.T (vF 0))(h:vG n 0 0 p=some x):Pure E 93 (aF R (Ak 0) p) (bq (aF R (vF 0) x)):=absurd ((ajZ n p).symm.trans h) nofun
theorem awT (n m:Nat)(hk:aZ E (P9 n (vG n m)))(p:av R.T (Ak 0))(x:av R.T (vF 0))(h:vG n (m+1) 0 p=some x):Pure E 93 (aF R (Ak 0) p) (bq (aF R (vF 0) x)):=
 bR (args:=yM) (res:=Aj) bD hk (gy n) ((ajY n m p).symm.trans h) Tryz.func93 rfl rfl rfl rfl aA
theorem aj0 (n:Nat):∀m,aZ E (P9 n (vG n m))
 |0=>bI (f:=93) (r:=⟨Ak 0,vF 0,vG n 0 0,bn R (vF 0),false,false⟩) (abU n) (awS n)|m+1=>bI (f:=93) (r:=⟨Ak 0,vF 0,vG n (m+1) 0,bn R (vF 0),false,false⟩) (abU n) (awT n m (aj0 n m))
@[irreducible] def JI (n m:Nat)(p:av R.T yM):Option (av R.T Aj):=vG n m 0 p
@[irreducible] def QQ (p:av R.T yM):Option (av R.T Aj):=JI n n p
theorem awU (p:av R.T yM)(x:av R.T Aj)(h:QQ n p=some x):Pure E 93 (aF R yM p) (bq (aF R Aj x)):=by
 unfold QQ JI at h;cases n with
 |zero=>exact absurd ((ajZ 0 p).symm.trans h) nofun|succ n=>exact bR (args:=yM) (res:=Aj) bD (aj0 (n+1) n) (gy (n+1)) ((ajY (n+1) n p).symm.trans h) Tryz.func93 rfl rfl rfl rfl aA
def abW:bT:=bK 93 ⟨yM,Aj,QQ n,bn R Aj,false,false⟩ (abT n)
theorem aj1:aZ E (abW n):=bI (abU n) (awU n)
def awV:bC:=⟨[],[]⟩
abbrev Qa:List aC:=[.d (.st 2)]
abbrev JJ:List aC:=[.d (.int .i64)]
@[irreducible] def UV :cK Qa JJ:=bP E R n false (abW n) (dx n) awV Tryz.f98 Qa JJ
theorem awW (p:av R.T Qa)(x:av R.T JJ)(h:UV n p=some x):Pure E 98 (aF R Qa p) (bq (aF R JJ x)):=by unfold UV at h;exact bR bD (aj1 n) (gy n) h Tryz.func98 rfl rfl rfl rfl aA
def abX:bT:=bK 98 ⟨Qa,JJ,UV n,bn R JJ,false,false⟩ (abW n)
theorem abY:aZ E (abX n):=bI (aj1 n) (awW n)
def abZ:bC:=⟨[(4,⟨[1,2],[2],⟨[(5,.d (.int .i64))],[]⟩,[(.exit 0,⟨[],[]⟩),(.ret,⟨[(4,.d .bool)],[]⟩)]⟩)],[]⟩
abbrev yN:List aC:=[.d (.st 2),.d (.int .i64)]
abbrev Al:List aC:=[.d .bool]
def Am:Nat->List aC
 |_=>yN
def vH:Nat->List aC
 |_=>Al
def awX:Nat->bC
 |_=>abZ
def awY:Nat->Func
 |_=>Tryz.f48
def Qb (g:(i:Nat)->av R.T (Am i)->Option (av R.T (vH i))):Nat->List (fC R):=bK 48 ⟨Am 0,vH 0,g 0,bn R (vH 0),false,false⟩ (abX n)
def vI (n:Nat):Nat->(i:Nat)->av R.T (Am i)->Option (av R.T (vH i))
 |0,_,_=>none|m+1,i,p=>bP E R n false (Qb n (vI n m)) (dx n) (awX i) (awY i) (Am i) (vH i) p
attribute [irreducible] vI
theorem aj2 (n m:Nat)(p:av R.T yN):vI n (m+1) 0 p=bP E R n false (Qb n (vI n m)) (dx n) abZ Tryz.f48 yN Al p:=aA
theorem aj3 (p:av R.T yN):vI n 0 0 p=none:=aA
theorem awZ (p:av R.T (Am 0))(x:av R.T (vH 0))(h:vI n 0 0 p=some x):Pure E 48 (aF R (Am 0) p) (bq (aF R (vH 0) x)):=absurd ((aj3 n p).symm.trans h) nofun
theorem aw0 (n m:Nat)(hk:aZ E (Qb n (vI n m)))(p:av R.T (Am 0))(x:av R.T (vH 0))(h:vI n (m+1) 0 p=some x):Pure E 48 (aF R (Am 0) p) (bq (aF R (vH 0) x)):=
 bR (args:=yN) (res:=Al) bD hk (gy n) ((aj2 n m p).symm.trans h) Tryz.func48 rfl rfl rfl rfl aA
theorem aj4 (n:Nat):∀m,aZ E (Qb n (vI n m))
 |0=>bI (f:=48) (r:=⟨Am 0,vH 0,vI n 0 0,bn R (vH 0),false,false⟩) (abY n) (awZ n)|m+1=>bI (f:=48) (r:=⟨Am 0,vH 0,vI n (m+1) 0,bn R (vH 0),false,false⟩) (abY n) (aw0 n m (aj4 n m))
@[irreducible] def JK (n m:Nat)(p:av R.T yN):Option (av R.T Al):=vI n m 0 p
@[irreducible] def QR (p:av R.T yN):Option (av R.T Al):=JK n n p
theorem aw1 (p:av R.T yN)(x:av R.T Al)(h:QR n p=some x):Pure E 48 (aF R yN p) (bq (aF R Al x)):=by
 unfold QR JK at h;cases n with
 |zero=>exact absurd ((aj3 0 p).symm.trans h) nofun|succ n=>exact bR (args:=yN) (res:=Al) bD (aj4 (n+1) n) (gy (n+1)) ((aj2 (n+1) n p).symm.trans h) Tryz.func48 rfl rfl rfl rfl aA
def ab0:bT:=bK 48 ⟨yN,Al,QR n,bn R Al,false,false⟩ (abX n)
theorem aj5:aZ E (ab0 n):=bI (abY n) (aw1 n)
def aw2:bC:=⟨[],[]⟩
abbrev Qc:List aC:=[.d (.st 4)]
abbrev JL:List aC:=[.d .bool]
@[irreducible] def JM :cK Qc JL:=bP E R n false (ab0 n) (dx n) aw2 Tryz.f12 Qc JL
theorem aw3 (p:av R.T Qc)(x:av R.T JL)(h:JM n p=some x):Pure E 12 (aF R Qc p) (bq (aF R JL x)):=by unfold JM at h;exact bR bD (aj5 n) (gy n) h Tryz.func12 rfl rfl rfl rfl aA
def aj6:bT:=bK 12 ⟨Qc,JL,JM n,bn R JL,false,false⟩ (ab0 n)
theorem aw4:aZ E (aj6 n):=bI (aj5 n) (aw3 n)
abbrev Xd:List aC:=[]
abbrev Qd:List aC:=[.d .bool]
@[irreducible] def FW (n:Nat)(p:av R.T Xd):Option (av R.T Qd):=FP
theorem aw5 (p:av R.T Xd)(x:av R.T Qd)(h:FW n p=some x):Pure E 13 (aF R Xd p) (bq (aF R Qd x)):=by unfold FW at h;exact awh p x h
def ab1:bT:=bK 13 ⟨Xd,Qd,FW n,bn R Qd,false,false⟩ (aj6 n)
theorem aj7:aZ E (ab1 n):=bI (aw4 n) (aw5 n)
def aw6:bC:=⟨[],[]⟩
abbrev Qe:List aC:=[.d (.st 1)]
abbrev JN:List aC:=[.d (.st 14)]
@[irreducible] def US :cK Qe JN:=bP E R n false (ab1 n) (dx n) aw6 Tryz.f33 Qe JN
theorem aw7 (p:av R.T Qe)(x:av R.T JN)(h:US n p=some x):Pure E 33 (aF R Qe p) (bq (aF R JN x)):=by unfold US at h;exact bR bD (aj7 n) (gy n) h Tryz.func33 rfl rfl rfl rfl aA
def Xe:bT:=bK 33 ⟨Qe,JN,US n,bn R JN,false,false⟩ (ab1 n)
theorem aj8:aZ E (Xe n):=bI (aj7 n) (aw7 n)
def aj9:bC:=⟨[(2,⟨[1,2],[2],⟨[(5,.d (.int .i64))],[]⟩,[(.exit 0,⟨[],[]⟩),(.ret,⟨[(4,.d .bool)],[]⟩)]⟩)],[]⟩
abbrev Qf:List aC:=[.d (.st 8),.d (.int .i64)]
abbrev JO:List aC:=[.d .bool]
@[irreducible] def JQ :cK Qf JO:=bP E R n false (Xe n) (dx n) aj9 Tryz.f130 Qf JO
theorem aw8 (p:av R.T Qf)(x:av R.T JO)(h:JQ n p=some x):Pure E 130 (aF R Qf p) (bq (aF R JO x)):=by unfold JQ at h;exact bR bD (aj8 n) (gy n) h Tryz.func130 rfl rfl rfl rfl aA
def Xf:bT:=bK 130 ⟨Qf,JO,JQ n,bn R JO,false,false⟩ (Xe n)
theorem akb:aZ E (Xf n):=bI (aj8 n) (aw8 n)
def akc:bC:=⟨[(2,⟨[0],[],⟨[(3,.d (.int .i64))],[]⟩,[(.exit 0,⟨[],[]⟩),(.ret,⟨[(2,.d .bool)],[]⟩)]⟩)],[]⟩
abbrev Qg:List aC:=[.d (.slice (.int .i64))]
abbrev JR:List aC:=[.d .bool]
@[irreducible] def DN :cK Qg JR:=bP E R n false (Xf n) (dx n) akc Tryz.f58 Qg JR
theorem aw9 (p:av R.T Qg)(x:av R.T JR)(h:DN n p=some x):Pure E 58 (aF R Qg p) (bq (aF R JR x)):=by unfold DN at h;exact bR bD (akb n) (gy n) h Tryz.func58 rfl rfl rfl rfl aA
def Xg:bT:=bK 58 ⟨Qg,JR,DN n,bn R JR,false,false⟩ (Xf n)
theorem akd:aZ E (Xg n):=bI (akb n) (aw9 n)
def ake:bC:=⟨[(2,⟨[1,2],[2],⟨[(5,.d (.int .i64))],[]⟩,[(.exit 0,⟨[],[]⟩),(.ret,⟨[(4,.d (.int .i64))],[]⟩)]⟩)],[]⟩
abbrev Qh:List aC:=[.d (.st 1),.d .str]
abbrev JU:List aC:=[.d (.int .i64)]
@[irreducible] def FX :cK Qh JU:=bP E R n false (Xg n) (dx n) ake Tryz.f95 Qh JU
theorem axa (p:av R.T Qh)(x:av R.T JU)(h:FX n p=some x):Pure E 95 (aF R Qh p) (bq (aF R JU x)):=by unfold FX at h;exact bR bD (akd n) (gy n) h Tryz.func95 rfl rfl rfl rfl aA
def ab2:bT:=bK 95 ⟨Qh,JU,FX n,bn R JU,false,false⟩ (Xg n)
theorem akf:aZ E (ab2 n):=bI (akd n) (axa n)
def axb:bC:=⟨[],[]⟩
abbrev Qi:List aC:=[.d (.st 0),.d (.st 5)]
abbrev JV:List aC:=[.d (.int .i64)]
@[irreducible] def Up :cK Qi JV:=bP E R n false (ab2 n) (dx n) axb Tryz.f193 Qi JV
theorem axc (p:av R.T Qi)(x:av R.T JV)(h:Up n p=some x):Pure E 193 (aF R Qi p) (bq (aF R JV x)):=by unfold Up at h;exact bR bD (akf n) (gy n) h Tryz.func193 rfl rfl rfl rfl aA
def Xh:bT:=bK 193 ⟨Qi,JV,Up n,bn R JV,false,false⟩ (ab2 n)
theorem akg:aZ E (Xh n):=bI (akf n) (axc n)
def akh:bC:=⟨[(2,⟨[1,2],[2],⟨[(5,.d (.int .i64))],[]⟩,[(.exit 0,⟨[],[]⟩),(.ret,⟨[(4,.d (.int .i64))],[]⟩)]⟩)],[]⟩
abbrev Qj:List aC:=[.d (.st 1),.d (.slice (.st 5))]
abbrev JW:List aC:=[.d (.int .i64)]
@[irreducible] def JX :cK Qj JW:=bP E R n false (Xh n) (dx n) akh Tryz.f181 Qj JW
theorem axd (p:av R.T Qj)(x:av R.T JW)(h:JX n p=some x):Pure E 181 (aF R Qj p) (bq (aF R JW x)):=by unfold JX at h;exact bR bD (akg n) (gy n) h Tryz.func181 rfl rfl rfl rfl aA
def ab3:bT:=bK 181 ⟨Qj,JW,JX n,bn R JW,false,false⟩ (Xh n)
theorem aki:aZ E (ab3 n):=bI (akg n) (axd n)
def axe:bC:=⟨[],[]⟩
abbrev Qk:List aC:=[.d (.st 1),.d (.st 6)]
abbrev JY:List aC:=[.d (.int .i64)]
@[irreducible] def JT :cK Qk JY:=bP E R n false (ab3 n) (dx n) axe Tryz.f131 Qk JY
theorem axf (p:av R.T Qk)(x:av R.T JY)(h:JT n p=some x):Pure E 131 (aF R Qk p) (bq (aF R JY x)):=by unfold JT at h;exact bR bD (aki n) (gy n) h Tryz.func131 rfl rfl rfl rfl aA
def Xi:bT:=bK 131 ⟨Qk,JY,JT n,bn R JY,false,false⟩ (ab3 n)
theorem akj:aZ E (Xi n):=bI (aki n) (axf n)
def akk:bC:=⟨[(3,⟨[1,2],[2],⟨[(5,.d (.int .i64)),(6,.d (.int .i64))],[]⟩,[(.exit 0,⟨[(5,.d (.int .i64))],[]⟩)]⟩)],[]⟩
abbrev Ql:List aC:=[.d (.st 8),.d (.int .i64)]
abbrev JZ:List aC:=[.d (.int .i64)]
@[irreducible] def J2 :cK Ql JZ:=bP E R n false (Xi n) (dx n) akk Tryz.f132 Ql JZ
theorem axg (p:av R.T Ql)(x:av R.T JZ)(h:J2 n p=some x):Pure E 132 (aF R Ql p) (bq (aF R JZ x)):=by unfold J2 at h;exact bR bD (akj n) (gy n) h Tryz.func132 rfl rfl rfl rfl aA
def Xj:bT:=bK 132 ⟨Ql,JZ,J2 n,bn R JZ,false,false⟩ (Xi n)
theorem akl:aZ E (Xj n):=bI (akj n) (axg n)
def akm:bC:=⟨[(3,⟨[1,2,3,9],[],⟨[(10,.d (.int .i64))],[(13,.arr (.st 7))]⟩,[(.exit 0,⟨[],[(13,.arr (.st 7))]⟩)]⟩)],[]⟩
abbrev Qm:List aC:=[.d (.slice (.st 7)),.d (.int .i64),.d (.int .i64),.d (.int .i64)]
abbrev J3:List aC:=[.d (.slice (.st 7))]
@[irreducible] def FY (p:av R.T Qm):Option (av R.T J3):=bP E R n true (Xj n) (dx n) akm Tryz.f133 Qm J3 p
theorem axh (p:av R.T Qm)(x:av R.T J3)(h:FY n p=some x):Pure E 133 (aF R Qm p) (bq (aF R J3 x)):=by unfold FY at h;exact bR bD (akl n) (gy n) h Tryz.func133 rfl rfl rfl rfl aA
def Xk:bT:=bK 133 ⟨Qm,J3,FY n,bn R J3,false,false⟩ (Xj n)
theorem akn:aZ E (Xk n):=bI (akl n) (axh n)
def ako:bC:=⟨[(5,⟨[2,3,5,6,9,10],[5,6,9,10],⟨[(11,.d (.int .i64)),(12,.l .any (.st 7)),(13,.l (.own 95) (.st 7)),(14,.d (.int .i64))],[]⟩,[(.exit 0,⟨[(11,.d (.int .i64)),(12,.l .any (.st 7)),(13,.l (.own 95) (.st 7))],[]⟩)]⟩)],[]⟩
abbrev Qn:List aC:=[.d (.st 8),.d (.st 13),.d (.slice (.st 7)),.d (.slice (.st 16)),.d (.st 6)]
abbrev J4:List aC:=[.d (.st 14)]
@[irreducible] def Ao :cK Qn J4:=bP E R n false (Xk n) (dx n) ako Tryz.f83 Qn J4
theorem axi (p:av R.T Qn)(x:av R.T J4)(h:Ao n p=some x):Pure E 83 (aF R Qn p) (bq (aF R J4 x)):=by unfold Ao at h;exact bR bD (akn n) (gy n) h Tryz.func83 rfl rfl rfl rfl aA
def ab4:bT:=bK 83 ⟨Qn,J4,Ao n,bn R J4,false,false⟩ (Xk n)
theorem akp:aZ E (ab4 n):=bI (akn n) (axi n)
def axj:bC:=⟨[],[]⟩
abbrev Qo:List aC:=[.d (.st 8),.d (.st 13)]
abbrev J5:List aC:=[.d (.st 14)]
@[irreducible] def VC :cK Qo J5:=bP E R n false (ab4 n) (dx n) axj Tryz.f82 Qo J5
theorem axk (p:av R.T Qo)(x:av R.T J5)(h:VC n p=some x):Pure E 82 (aF R Qo p) (bq (aF R J5 x)):=by unfold VC at h;exact bR bD (akp n) (gy n) h Tryz.func82 rfl rfl rfl rfl aA
def Qp:bT:=bK 82 ⟨Qo,J5,VC n,bn R J5,false,false⟩ (ab4 n)
theorem akq:aZ E (Qp n):=bI (akp n) (axk n)
def ab5:bC:=⟨[(3,⟨[1,2],[2],⟨[(5,.aM 42 (.st 7)),(6,.d (.int .i64))],[(42,.arr (.st 7))]⟩,[(.exit 0,⟨[(5,.aM 42 (.st 7))],[(42,.arr (.st 7))]⟩)]⟩),
 (8,⟨[1,2,5,6],[2],⟨[(7,.d (.int .i64))],[(42,.arr (.st 7))]⟩,[(.exit 2,⟨[(7,.d (.int .i64))],[(42,.arr (.st 7))]⟩)]⟩)],[]⟩
abbrev Qq:List aC:=[.d (.st 8),.d (.int .i64)]
abbrev J6:List aC:=[.d (.slice (.st 7))]
@[irreducible] def BR (p:av R.T Qq):Option (av R.T J6):=bP E R n true (Qp n) (dx n) ab5 Tryz.f40 Qq J6 p
theorem axl (p:av R.T Qq)(x:av R.T J6)(h:BR n p=some x):Pure E 40 (aF R Qq p) (bq (aF R J6 x)):=by unfold BR at h;exact bR bD (akq n) (gy n) h Tryz.func40 rfl rfl rfl rfl aA
def ab6:bT:=bK 40 ⟨Qq,J6,BR n,bn R J6,false,false⟩ (Qp n)
theorem akr:aZ E (ab6 n):=bI (akq n) (axl n)
def axn:bC:=⟨[],[]⟩
abbrev Qr:List aC:=[.d (.slice (.st 7))]
abbrev J7:List aC:=[.d (.int .i64)]
@[irreducible] def JP :cK Qr J7:=bP E R n false (ab6 n) (dx n) axn Tryz.f134 Qr J7
theorem axo (p:av R.T Qr)(x:av R.T J7)(h:JP n p=some x):Pure E 134 (aF R Qr p) (bq (aF R J7 x)):=by unfold JP at h;exact bR bD (akr n) (gy n) h Tryz.func134 rfl rfl rfl rfl aA
def Xl:bT:=bK 134 ⟨Qr,J7,JP n,bn R J7,false,false⟩ (ab6 n)
theorem aks:aZ E (Xl n):=bI (akr n) (axo n)
def akt:bC:=⟨[(6,⟨[2,3,4,6,7],[3,4,6],⟨[(8,.l (.own 54) (.st 16)),(9,.d (.int .i64))],[]⟩,[(.exit 0,⟨[(8,.l (.own 54) (.st 16))],[]⟩)]⟩)],[]⟩
abbrev Qs:List aC:=[.d (.st 8),.d (.st 13),.d (.slice (.st 7))]
abbrev J8:List aC:=[.d (.st 14)]
@[irreducible] def BS :cK Qs J8:=bP E R n false (Xl n) (dx n) akt Tryz.f84 Qs J8
theorem axp (p:av R.T Qs)(x:av R.T J8)(h:BS n p=some x):Pure E 84 (aF R Qs p) (bq (aF R J8 x)):=by unfold BS at h;exact bR bD (aks n) (gy n) h Tryz.func84 rfl rfl rfl rfl aA
def Xm:bT:=bK 84 ⟨Qs,J8,BS n,bn R J8,false,false⟩ (Xl n)
theorem aku:aZ E (Xm n):=bI (aks n) (axp n)
def akv:bC:=⟨[(5,⟨[2,3,4,6],[3,4,6],⟨[(7,.l (.own 46) (.st 16)),(8,.d (.int .i64))],[]⟩,[(.exit 0,⟨[(7,.l (.own 46) (.st 16))],[]⟩)]⟩)],[]⟩
abbrev Qt:List aC:=[.d (.st 8),.d (.st 13),.d (.slice (.st 7))]
abbrev J9:List aC:=[.d (.st 14)]
@[irreducible] def BU :cK Qt J9:=bP E R n false (Xm n) (dx n) akv Tryz.f85 Qt J9
theorem axq (p:av R.T Qt)(x:av R.T J9)(h:BU n p=some x):Pure E 85 (aF R Qt p) (bq (aF R J9 x)):=by unfold BU at h;exact bR bD (aku n) (gy n) h Tryz.func85 rfl rfl rfl rfl aA
def Xn:bT:=bK 85 ⟨Qt,J9,BU n,bn R J9,false,false⟩ (Xm n)
theorem akw:aZ E (Xn n):=bI (aku n) (axq n)
def akx:bC:=⟨[(8,⟨[2,3,4,6,7],[3,4,6],⟨[(8,.l (.own 78) (.st 16)),(9,.d (.int .i64))],[]⟩,[(.exit 0,⟨[(8,.l (.own 78) (.st 16))],[]⟩)]⟩)],[]⟩
abbrev Qu:List aC:=[.d (.st 8),.d (.st 13),.d (.slice (.st 7))]
abbrev Ka:List aC:=[.d (.st 14)]
@[irreducible] def BX :cK Qu Ka:=bP E R n false (Xn n) (dx n) akx Tryz.f86 Qu Ka
theorem axr (p:av R.T Qu)(x:av R.T Ka)(h:BX n p=some x):Pure E 86 (aF R Qu p) (bq (aF R Ka x)):=by unfold BX at h;exact bR bD (akw n) (gy n) h Tryz.func86 rfl rfl rfl rfl aA
def ab7:bT:=bK 86 ⟨Qu,Ka,BX n,bn R Ka,false,false⟩ (Xn n)
theorem aky:aZ E (ab7 n):=bI (akw n) (axr n)
def axt:bC:=⟨[],[]⟩
abbrev Qv:List aC:=[.d (.st 8),.d (.st 13)]
abbrev Kc:List aC:=[.d (.st 14)]
@[irreducible] def VM :cK Qv Kc:=bP E R n false (ab7 n) (dx n) axt Tryz.f35 Qv Kc
theorem axu (p:av R.T Qv)(x:av R.T Kc)(h:VM n p=some x):Pure E 35 (aF R Qv p) (bq (aF R Kc x)):=by unfold VM at h;exact bR bD (aky n) (gy n) h Tryz.func35 rfl rfl rfl rfl aA
def Xo:bT:=bK 35 ⟨Qv,Kc,VM n,bn R Kc,false,false⟩ (ab7 n)
theorem akz:aZ E (Xo n):=bI (aky n) (axu n)
def akA:bC:=⟨[(3,⟨[1,4,5],[],⟨[(6,.d (.int .i64))],[(4,.st 9),(5,.st 14)]⟩,[(.exit 0,⟨[],[(4,.st 9),(5,.st 14)]⟩),(.ret,⟨[],[(4,.st 9)]⟩)]⟩)],[]⟩
abbrev Qw:List aC:=[.d (.st 1),.d (.slice (.st 13))]
abbrev Ke:List aC:=[.d (.st 9)]
@[irreducible] def Kg :cK Qw Ke:=bP E R n false (Xo n) (dx n) akA Tryz.f14 Qw Ke
theorem axv (p:av R.T Qw)(x:av R.T Ke)(h:Kg n p=some x):Pure E 14 (aF R Qw p) (bq (aF R Ke x)):=by unfold Kg at h;exact bR bD (akz n) (gy n) h Tryz.func14 rfl rfl rfl rfl aA
def ab8:bT:=bK 14 ⟨Qw,Ke,Kg n,bn R Ke,false,false⟩ (Xo n)
theorem akB:aZ E (ab8 n):=bI (akz n) (axv n)
def axw:bC:=⟨[],[]⟩
abbrev Qx:List aC:=[.d .bool,.d (.int .i64)]
abbrev Kh:List aC:=[.d .bool]
@[irreducible] def Qy :cK Qx Kh:=bP E R n false (ab8 n) (dx n) axw Tryz.f104 Qx Kh
theorem axx (p:av R.T Qx)(x:av R.T Kh)(h:Qy n p=some x):Pure E 104 (aF R Qx p) (bq (aF R Kh x)):=by unfold Qy at h;exact bR bD (akB n) (gy n) h Tryz.func104 rfl rfl rfl rfl aA
def Xp:bT:=bK 104 ⟨Qx,Kh,Qy n,bn R Kh,false,false⟩ (ab8 n)
theorem akC:aZ E (Xp n):=bI (akB n) (axx n)
def akD:bC:=⟨[(2,⟨[2,9,10],[],⟨[(1,.d .bool),(11,.d (.int .i64))],[]⟩,[(.exit 0,⟨[(1,.d .bool)],[]⟩)]⟩)],[]⟩
abbrev Qz:List aC:=[.d (.slice (.int .i64)),.d .bool,.fn 104 [] []]
abbrev Ki:List aC:=[.d .bool]
@[irreducible] def QA :cK Qz Ki:=bP E R n false (Xp n) (dx n) akD Tryz.f103 Qz Ki
theorem axy (p:av R.T Qz)(x:av R.T Ki)(h:QA n p=some x):Pure E 103 (aF R Qz p) (bq (aF R Ki x)):=by unfold QA at h;exact bR bD (akC n) (gy n) h Tryz.func103 rfl rfl rfl rfl aA
def ab9:bT:=bK 103 ⟨Qz,Ki,QA n,bn R Ki,false,false⟩ (Xp n)
theorem akE:aZ E (ab9 n):=bI (akC n) (axy n)
def axz:bC:=⟨[],[]⟩
abbrev QB:List aC:=[.d (.slice (.int .i64))]
abbrev Kj:List aC:=[.d .bool]
@[irreducible] def VS :cK QB Kj:=bP E R n false (ab9 n) (dx n) axz Tryz.f56 QB Kj
theorem axA (p:av R.T QB)(x:av R.T Kj)(h:VS n p=some x):Pure E 56 (aF R QB p) (bq (aF R Kj x)):=by unfold VS at h;exact bR bD (akE n) (gy n) h Tryz.func56 rfl rfl rfl rfl aA
def acd:bT:=bK 56 ⟨QB,Kj,VS n,bn R Kj,false,false⟩ (ab9 n)
theorem akF:aZ E (acd n):=bI (akE n) (axA n)
def axB:bC:=⟨[],[]⟩
abbrev QC:List aC:=[.d (.st 2)]
abbrev Kk:List aC:=[.fn 159 [] [.aY [.d (.int .i64),.d .str,.d (.int .i64),.d (.int .i64),.d .str,.d (.slice (.st 2))] 0]]
@[irreducible] def Wg :cK QC Kk:=bP E R n false (acd n) (dx n) axB Tryz.f106 QC Kk
theorem axC (p:av R.T QC)(x:av R.T Kk)(h:Wg n p=some x):Pure E 106 (aF R QC p) (bq (aF R Kk x)):=by unfold Wg at h;exact bR bD (akF n) (gy n) h Tryz.func106 rfl rfl rfl rfl aA
def Xq:bT:=bK 106 ⟨QC,Kk,Wg n,bn R Kk,false,false⟩ (acd n)
theorem akG:aZ E (Xq n):=bI (akF n) (axC n)
def Xr:bC:=⟨[(3,⟨[3],[],⟨[],[(3,.cells [.d (.int .i64)])]⟩,[(.normal,⟨[],[(3,.cells [.d (.int .i64)])]⟩),(.exit 0,⟨[],[(3,.cells [.d (.int .i64)])]⟩)]⟩)],[]⟩
abbrev QD:List aC:=[.d (.st 2)]
abbrev Kl:List aC:=[.d (.int .i64)]
@[irreducible] def Km :cK QD Kl:=bP E R n false (Xq n) (dx n) Xr Tryz.f105 QD Kl
theorem axD (p:av R.T QD)(x:av R.T Kl)(h:Km n p=some x):Pure E 105 (aF R QD p) (bq (aF R Kl x)):=by unfold Km at h;exact bR bD (akG n) (gy n) h Tryz.func105 rfl rfl rfl rfl aA
def ace:bT:=bK 105 ⟨QD,Kl,Km n,bn R Kl,false,false⟩ (Xq n)
theorem akH:aZ E (ace n):=bI (akG n) (axD n)
def axE:bC:=⟨[],[]⟩
abbrev QE:List aC:=[.d (.st 2)]
abbrev Kn:List aC:=[.d .bool]
@[irreducible] def VV :cK QE Kn:=bP E R n false (ace n) (dx n) axE Tryz.f107 QE Kn
theorem axF (p:av R.T QE)(x:av R.T Kn)(h:VV n p=some x):Pure E 107 (aF R QE p) (bq (aF R Kn x)):=by unfold VV at h;exact bR bD (akH n) (gy n) h Tryz.func107 rfl rfl rfl rfl aA
def acf:bT:=bK 107 ⟨QE,Kn,VV n,bn R Kn,false,false⟩ (ace n)
theorem akI:aZ E (acf n):=bI (akH n) (axF n)
def axG:bC:=⟨[],[]⟩
abbrev QF:List aC:=[.d (.st 0),.aY [.d .str] 0]
abbrev Ko:List aC:=[.d .bool]
@[irreducible] def QG :cK QF Ko:=bP E R n false (acf n) (dx n) axG Tryz.f161 QF Ko
theorem axH (p:av R.T QF)(x:av R.T Ko)(h:QG n p=some x):Pure E 161 (aF R QF p) (bq (aF R Ko x)):=by unfold QG at h;exact bR bD (akI n) (gy n) h Tryz.func161 rfl rfl rfl rfl aA
def Xt:bT:=bK 161 ⟨QF,Ko,QG n,bn R Ko,false,false⟩ (acf n)
theorem akJ:aZ E (Xt n):=bI (akI n) (axH n)
def akK:bC:=⟨[(2,⟨[0,1,7],[],⟨[(8,.d (.int .i64))],[]⟩,[(.exit 0,⟨[],[]⟩),(.ret,⟨[(4,.d (.int .i64))],[]⟩)]⟩)],[]⟩
abbrev QH:List aC:=[.d (.slice (.st 0)),.fn 161 [] [.aY [.d .str] 0]]
abbrev Kq:List aC:=[.d (.int .i64)]
@[irreducible] def ZZ :cK QH Kq:=bP E R n false (Xt n) (dx n) akK Tryz.f111 QH Kq
theorem axI (p:av R.T QH)(x:av R.T Kq)(h:ZZ n p=some x):Pure E 111 (aF R QH p) (bq (aF R Kq x)):=by unfold ZZ at h;exact bR bD (akJ n) (gy n) h Tryz.func111 rfl rfl rfl rfl aA
def acg:bT:=bK 111 ⟨QH,Kq,ZZ n,bn R Kq,false,false⟩ (Xt n)
theorem akL:aZ E (acg n):=bI (akJ n) (axI n)
def axJ:bC:=⟨[],[]⟩
abbrev QI:List aC:=[.d (.st 1),.d .str]
abbrev Kr:List aC:=[.d (.st 0),.d .bool]
@[irreducible] def Wa :cK QI Kr:=bP E R n false (acg n) (dx n) axJ Tryz.f108 QI Kr
theorem axK (p:av R.T QI)(x:av R.T Kr)(h:Wa n p=some x):Pure E 108 (aF R QI p) (bq (aF R Kr x)):=by unfold Wa at h;exact bR bD (akL n) (gy n) h Tryz.func108 rfl rfl rfl rfl aA
def Xu:bT:=bK 108 ⟨QI,Kr,Wa n,bn R Kr,false,false⟩ (acg n)
theorem akM:aZ E (Xu n):=bI (akL n) (axK n)
def Xv:bC:=⟨[(5,⟨[2,4],[2],⟨[],[(4,.cells [.d (.int .i64)])]⟩,[(.normal,⟨[],[(4,.cells [.d (.int .i64)])]⟩),(.ret,⟨[],[(4,.cells [.d (.int .i64)])]⟩)]⟩)],[]⟩
abbrev QJ:List aC:=[.d (.st 1),.d (.st 2)]
abbrev Kt:List aC:=[.d (.int .i64)]
@[irreducible] def Zs :cK QJ Kt:=bP E R n false (Xu n) (dx n) Xv Tryz.f57 QJ Kt
theorem axL (p:av R.T QJ)(x:av R.T Kt)(h:Zs n p=some x):Pure E 57 (aF R QJ p) (bq (aF R Kt x)):=by unfold Zs at h;exact bR bD (akM n) (gy n) h Tryz.func57 rfl rfl rfl rfl aA
def ach:bT:=bK 57 ⟨QJ,Kt,Zs n,bn R Kt,false,false⟩ (Xu n)
theorem akN:aZ E (ach n):=bI (akM n) (axL n)
def axM:bC:=⟨[],[]⟩
abbrev QK:List aC:=[.d (.st 1),.d (.st 4)]
abbrev Ku:List aC:=[.d (.int .i64)]
@[irreducible] def Wk :cK QK Ku:=bP E R n false (ach n) (dx n) axM Tryz.f17 QK Ku
theorem axN (p:av R.T QK)(x:av R.T Ku)(h:Wk n p=some x):Pure E 17 (aF R QK p) (bq (aF R Ku x)):=by unfold Wk at h;exact bR bD (akN n) (gy n) h Tryz.func17 rfl rfl rfl rfl aA
def aci:bT:=bK 17 ⟨QK,Ku,Wk n,bn R Ku,false,false⟩ (ach n)
theorem akO:aZ E (aci n):=bI (akN n) (axN n)
def axO:bC:=⟨[],[]⟩
abbrev QL:List aC:=[.d (.st 8),.d (.int .i64)]
abbrev Kv:List aC:=[.d (.int .i64)]
@[irreducible] def Kw :cK QL Kv:=bP E R n false (aci n) (dx n) axO Tryz.f51 QL Kv
theorem axP (p:av R.T QL)(x:av R.T Kv)(h:Kw n p=some x):Pure E 51 (aF R QL p) (bq (aF R Kv x)):=by unfold Kw at h;exact bR bD (akO n) (gy n) h Tryz.func51 rfl rfl rfl rfl aA
def acj:bT:=bK 51 ⟨QL,Kv,Kw n,bn R Kv,false,false⟩ (aci n)
theorem akP:aZ E (acj n):=bI (akO n) (axP n)
def axQ:bC:=⟨[],[]⟩
abbrev QM:List aC:=[.d (.st 6),.d (.st 6)]
abbrev Ky:List aC:=[.d (.int .i64)]
@[irreducible] def UB :cK QM Ky:=bP E R n false (acj n) (dx n) axQ Tryz.f60 QM Ky
theorem axR (p:av R.T QM)(x:av R.T Ky)(h:UB n p=some x):Pure E 60 (aF R QM p) (bq (aF R Ky x)):=by unfold UB at h;exact bR bD (akP n) (gy n) h Tryz.func60 rfl rfl rfl rfl aA
def mM:bT:=bK 60 ⟨QM,Ky,UB n,bn R Ky,false,false⟩ (acj n)
theorem DR:aZ E (mM n):=bI (akP n) (axR n)
def acn:bC:=⟨[(1,⟨[0,1,2,3],[],⟨[(8,.d (.int .i64))],[(1000000,.arr (.st 6))]⟩,[(.exit 0,⟨[],[(1000000,.arr (.st 6))]⟩)]⟩),
 (4,⟨[0,1,2,3,8],[],⟨[(9,.d (.int .i64))],[(1000000,.arr (.st 6))]⟩,[(.exit 2,⟨[],[(1000000,.arr (.st 6))]⟩)]⟩)],[]⟩
abbrev QN:List aC:=[.aM 1000000 (.st 6),.d (.int .i64),.d (.int .i64),.fn 60 [] []]
abbrev QO:List aC:=[]
abbrev Kz:List (Nat×fA):=[(1000000,.arr (.st 6))]
@[irreducible] def Ap (p:av R.T QN)(q:eD R.T Kz):Option (av R.T QO×eD R.T Kz):=Bz E R n false (mM n) (dx n) acn Tryz.f162 QN Kz QO p q
theorem axS:BJ E 162 QN Kz QO (Ap n):=by intro p q y q' h;have h:Ap n p q=some (y,q'):=h;unfold Ap at h;exact Jg bD (DR n) (gy n) h Tryz.func162 rfl aA
def Xw:IR R:=sO 162 (nN QN Kz QO (Ap n)) (dx n)
theorem akQ:mK E (Xw n):=DJ (m:=nN QN Kz QO (Ap n)) (gy n) (uq.M (axS n))
def akR:bC:=⟨[(1,⟨[0,1,2,3],[],⟨[(10,.d (.int .i64))],[(1000000,.arr (.st 6))]⟩,[(.exit 0,⟨[],[(1000000,.arr (.st 6))]⟩)]⟩)],[]⟩
abbrev QS:List aC:=[.aM 1000000 (.st 6),.d (.int .i64),.d (.int .i64),.d (.int .i64),.fn 60 [] []]
abbrev QT:List aC:=[]
abbrev KA:List (Nat×fA):=[(1000000,.arr (.st 6))]
@[irreducible] def yO (p:av R.T QS)(q:eD R.T KA):Option (av R.T QT×eD R.T KA):=Bz E R n false (mM n) (Xw n) akR Tryz.f207 QS KA QT p q
theorem axT:BJ E 207 QS KA QT (yO n):=by intro p q y q' h;have h:yO n p q=some (y,q'):=h;unfold yO at h;exact Jg bD (DR n) (akQ n) h Tryz.func207 rfl aA
def Xx:IR R:=sO 207 (nN QS KA QT (yO n)) (Xw n)
theorem akS:mK E (Xx n):=DJ (m:=nN QS KA QT (yO n)) (akQ n) (uq.M (axT n))
def akT:bC:=⟨[(2,⟨[0,2,4],[],⟨[(10,.d (.int .i64)),(11,.d (.int .i64))],[(1000000,.arr (.st 6))]⟩,[(.exit 0,⟨[(10,.d (.int .i64))],[(1000000,.arr (.st 6))]⟩)]⟩)],[]⟩
abbrev QU:List aC:=[.aM 1000000 (.st 6),.d (.int .i64),.d (.int .i64),.d (.int .i64),.fn 60 [] []]
abbrev QV:List aC:=[]
abbrev KC:List (Nat×fA):=[(1000000,.arr (.st 6))]
@[irreducible] def Aq (p:av R.T QU)(q:eD R.T KC):Option (av R.T QV×eD R.T KC):=Bz E R n false (mM n) (Xx n) akT Tryz.f190 QU KC QV p q
theorem axU:BJ E 190 QU KC QV (Aq n):=by intro p q y q' h;have h:Aq n p q=some (y,q'):=h;unfold Aq at h;exact Jg bD (DR n) (akS n) h Tryz.func190 rfl aA
def BZ:IR R:=sO 190 (nN QU KC QV (Aq n)) (Xx n)
theorem akU:mK E (BZ n):=DJ (m:=nN QU KC QV (Aq n)) (akS n) (uq.M (axU n))
def qI:bC:=⟨[(3,⟨[0,1,4],[1000000],⟨[(10,.d (.int .i64)),(11,.d (.int .i64))],[]⟩,[(.exit 0,⟨[(10,.d (.int .i64))],[]⟩)]⟩),
 (9,⟨[0,10],[],⟨[(13,.d (.int .i64))],[(1000000,.arr (.st 6))]⟩,[(.exit 2,⟨[],[(1000000,.arr (.st 6))]⟩)]⟩),
 (15,⟨[0,2,4],[1000000],⟨[(14,.d (.int .i64)),(15,.d (.int .i64))],[]⟩,[(.exit 4,⟨[(14,.d (.int .i64))],[]⟩)]⟩),
 (21,⟨[0,14],[],⟨[(17,.d (.int .i64))],[(1000000,.arr (.st 6))]⟩,[(.exit 6,⟨[],[(1000000,.arr (.st 6))]⟩)]⟩),
 (33,⟨[0,1,2,3,4,18,19,22],[1000000],⟨[(20,.d (.int .i64)),(21,.d (.int .i64))],[]⟩,[(.exit 8,⟨[(20,.d (.int .i64))],[]⟩)]⟩)],[]⟩
abbrev qg:List aC:=[.aM 1000000 (.st 6),.d (.int .i64),.d (.int .i64),.d (.int .i64),.fn 60 [] []]
abbrev rD:List aC:=[]
abbrev oq:List (Nat×fA):=[(1000000,.arr (.st 6))]
def kW (n:Nat):Nat->av R.T qg->eD R.T oq->Option (av R.T rD×eD R.T oq)
 |0,_,_=>none|m+1,p,q=>Bz E R n false (mM n) (sO 163 (nN qg oq rD (kW n m)) (BZ n)) qI Tryz.f163 qg oq rD p q
attribute [irreducible] kW
theorem axV (n m:Nat)(p:av R.T qg)(q:eD R.T oq):kW n (m+1) p q=Bz E R n false (mM n) (sO 163 (nN qg oq rD (kW n m)) (BZ n)) qI Tryz.f163 qg oq rD p q:=aA
theorem axW (p:av R.T qg)(q:eD R.T oq):kW n 0 p q=none:=aA
theorem akV (n:Nat):∀m,BJ E 163 qg oq rD (kW n m)
 |0=>fun p q y q' h=>absurd (((axW n p q).symm.trans h)) nofun
 |m+1=>fun p q y q' h=>Jg bD (DR n) (DJ (m:=(nN qg oq rD (kW n m))) (akU n) (uq.M (akV n m))) ((axV n m p q).symm.trans h) Tryz.func163 rfl aA
@[irreducible] def QP :av R.T qg->eD R.T oq->Option (av R.T rD×eD R.T oq):=kW n n
theorem axX:BJ E 163 qg oq rD (QP n):=by unfold QP;exact akV n n
def KD:IR R:=sO 163 (nN qg oq rD (QP n)) (BZ n)
theorem akW:mK E (KD n):=DJ (m:=nN qg oq rD (QP n)) (akU n) (uq.M (axX n))
def Xy:bC:=⟨[(2,⟨[0,1,2,6],[],⟨[(7,.d (.int .i64)),(8,.d (.int .i64))],[(1000000,.arr (.st 6))]⟩,[(.exit 0,⟨[(7,.d (.int .i64))],[(1000000,.arr (.st 6))]⟩)]⟩),
 (7,⟨[0,1,2],[],⟨[(6,.d (.int .i64))],[(1000000,.arr (.st 6))]⟩,[(.exit 2,⟨[],[(1000000,.arr (.st 6))]⟩)]⟩),
 (9,⟨[0,1,2,6],[],⟨[(7,.d (.int .i64)),(8,.d (.int .i64))],[(1000000,.arr (.st 6))]⟩,[(.exit 4,⟨[(7,.d (.int .i64))],[(1000000,.arr (.st 6))]⟩)]⟩)],[]⟩
abbrev QW:List aC:=[.aM 1000000 (.st 6),.d (.int .i64),.fn 60 [] []]
abbrev QX:List aC:=[]
abbrev KE:List (Nat×fA):=[(1000000,.arr (.st 6))]
@[irreducible] def DT (p:av R.T QW)(q:eD R.T KE):Option (av R.T QX×eD R.T KE):=Bz E R n false (mM n) (KD n) Xy Tryz.f109 QW KE QX p q
theorem axY:BJ E 109 QW KE QX (DT n):=by intro p q y q' h;have h:DT n p q=some (y,q'):=h;unfold DT at h;exact Jg bD (DR n) (akW n) h Tryz.func109 rfl aA
def aco:IR R:=sO 109 (nN QW KE QX (DT n)) (KD n)
theorem akX:mK E (aco n):=DJ (m:=nN QW KE QX (DT n)) (akW n) (uq.M (axY n))
def axZ:bC:=⟨[],[]⟩
abbrev QY:List aC:=[.aM 1000000 (.st 6),.fn 60 [] []]
abbrev QZ:List aC:=[]
abbrev KF:List (Nat×fA):=[(1000000,.arr (.st 6))]
@[irreducible] def JS (p:av R.T QY)(q:eD R.T KF):Option (av R.T QZ×eD R.T KF):=Bz E R n false (mM n) (aco n) axZ Tryz.f59 QY KF QZ p q
theorem ax0:BJ E 59 QY KF QZ (JS n):=by intro p q y q' h;have h:JS n p q=some (y,q'):=h;unfold JS at h;exact Jg bD (DR n) (akX n) h Tryz.func59 rfl aA
def Q0:IR R:=sO 59 (nN QY KF QZ (JS n)) (aco n)
theorem acp:mK E (Q0 n):=DJ (m:=nN QY KF QZ (JS n)) (akX n) (uq.M (ax0 n))
def akY:bC:=⟨[(3,⟨[3,10,11],[3],⟨[(5,.aM 52 (.st 6)),(12,.d (.int .i64))],[(52,.arr (.st 6))]⟩,[(.exit 0,⟨[(5,.aM 52 (.st 6))],[(52,.arr (.st 6))]⟩)]⟩)],[]⟩
abbrev Q5:List aC:=[.d (.st 8),.d (.st 3)]
abbrev KG:List aC:=[.d (.slice (.st 6))]
@[irreducible] def DU (p:av R.T Q5):Option (av R.T KG):=bP E R n true (mM n) (Q0 n) akY Tryz.f20 Q5 KG p
theorem ax1 (p:av R.T Q5)(x:av R.T KG)(h:DU n p=some x):Pure E 20 (aF R Q5 p) (bq (aF R KG x)):=by unfold DU at h;exact bR bD (DR n) (acp n) h Tryz.func20 rfl rfl rfl rfl aA
def Q6:bT:=bK 20 ⟨Q5,KG,DU n,bn R KG,false,false⟩ (mM n)
theorem acr:aZ E (Q6 n):=bI (DR n) (ax1 n)
def ax2:bC:=⟨[],[]⟩
abbrev Q7:List aC:=[.d (.slice (.int .i64))]
abbrev Q8:List (Nat×fA):=[]
abbrev Q9:List (Nat×fA):=[]
abbrev Ra:sw:=.arr (.int .i64)
@[irreducible] def FZ (p:av R.T Q7)(q:eD R.T Q8):Option (tX R.T Ra×eD R.T Q9):=aae E R n true (Q6 n) (Q0 n) ax2 Tryz.f126 Q7 Q8 Ra Q9 p q
theorem ax3:aaN E 126 Q7 Q8 Ra Q9 (FZ n):=by intro p q y q' h;have h:FZ n p q=some (y,q'):=h;unfold FZ at h;exact au8 bD (acr n) (acp n) h Tryz.func126 rfl aA
def dn:IR R:=sO 126 (ZC Q7 Q8 Ra Q9 (FZ n)) (Q0 n)
theorem eO:mK E (dn n):=DJ (m:=ZC Q7 Q8 Ra Q9 (FZ n)) (acp n) (uq.N (ax3 n))
def akZ:bC:=⟨[(3,⟨[1,5,10],[],⟨[(11,.d (.int .i64))],[(8,.arr (.int .i64))]⟩,[(.exit 0,⟨[],[(8,.arr (.int .i64))]⟩)]⟩)],[]⟩
abbrev Rb:List aC:=[.d (.slice (.int .i64)),.d (.slice (.int .i64))]
abbrev KH:List aC:=[.d (.slice (.int .i64))]
@[irreducible] def ZS :cK Rb KH:=bP E R n false (Q6 n) (dn n) akZ Tryz.f90 Rb KH
theorem ax4 (p:av R.T Rb)(x:av R.T KH)(h:ZS n p=some x):Pure E 90 (aF R Rb p) (bq (aF R KH x)):=by unfold ZS at h;exact bR bD (acr n) (eO n) h Tryz.func90 rfl rfl rfl rfl aA
def acs:bT:=bK 90 ⟨Rb,KH,ZS n,bn R KH,false,false⟩ (Q6 n)
theorem ak0:aZ E (acs n):=bI (acr n) (ax4 n)
def ax5:bC:=⟨[],[]⟩
abbrev Rc:List aC:=[.d (.int .i64),.d (.int .i64)]
abbrev KI:List aC:=[.d (.int .i64)]
@[irreducible] def Rf :cK Rc KI:=bP E R n false (acs n) (dn n) ax5 Tryz.f137 Rc KI
theorem ax6 (p:av R.T Rc)(x:av R.T KI)(h:Rf n p=some x):Pure E 137 (aF R Rc p) (bq (aF R KI x)):=by unfold Rf at h;exact bR bD (ak0 n) (eO n) h Tryz.func137 rfl rfl rfl rfl aA
def Xz:bT:=bK 137 ⟨Rc,KI,Rf n,bn R KI,false,false⟩ (acs n)
theorem ak1:aZ E (Xz n):=bI (ak0 n) (ax6 n)
def ak2:bC:=⟨[(2,⟨[2,9,10],[],⟨[(1,.d (.int .i64)),(11,.d (.int .i64))],[]⟩,[(.exit 0,⟨[(1,.d (.int .i64))],[]⟩)]⟩)],[]⟩
abbrev Rh:List aC:=[.d (.slice (.int .i64)),.d (.int .i64),.fn 137 [] []]
abbrev KJ:List aC:=[.d (.int .i64)]
@[irreducible] def Xs :cK Rh KJ:=bP E R n false (Xz n) (dn n) ak2 Tryz.f140 Rh KJ
theorem ax7 (p:av R.T Rh)(x:av R.T KJ)(h:Xs n p=some x):Pure E 140 (aF R Rh p) (bq (aF R KJ x)):=by unfold Xs at h;exact bR bD (ak1 n) (eO n) h Tryz.func140 rfl rfl rfl rfl aA
def acu:bT:=bK 140 ⟨Rh,KJ,Xs n,bn R KJ,false,false⟩ (Xz n)
theorem ak3:aZ E (acu n):=bI (ak1 n) (ax7 n)
def ax8:bC:=⟨[],[]⟩
abbrev Ri:List aC:=[.d (.int .i64),.d (.int .i64)]
abbrev KL:List aC:=[.d (.int .i64)]
@[irreducible] def Ys :cK Ri KL:=bP E R n false (acu n) (dn n) ax8 Tryz.f138 Ri KL
theorem ax9 (p:av R.T Ri)(x:av R.T KL)(h:Ys n p=some x):Pure E 138 (aF R Ri p) (bq (aF R KL x)):=by unfold Ys at h;exact bR bD (ak3 n) (eO n) h Tryz.func138 rfl rfl rfl rfl aA
def XA:bT:=bK 138 ⟨Ri,KL,Ys n,bn R KL,false,false⟩ (acu n)
theorem ak4:aZ E (XA n):=bI (ak3 n) (ax9 n)
def ak5:bC:=⟨[(2,⟨[2,9,10],[],⟨[(1,.d (.int .i64)),(11,.d (.int .i64))],[]⟩,[(.exit 0,⟨[(1,.d (.int .i64))],[]⟩)]⟩)],[]⟩
abbrev Rj:List aC:=[.d (.slice (.int .i64)),.d (.int .i64),.fn 138 [] []]
abbrev KM:List aC:=[.d (.int .i64)]
@[irreducible] def XN :cK Rj KM:=bP E R n false (XA n) (dn n) ak5 Tryz.f140 Rj KM
theorem aya (p:av R.T Rj)(x:av R.T KM)(h:XN n p=some x):Pure E 140 (aF R Rj p) (bq (aF R KM x)):=by unfold XN at h;exact bR bD (ak4 n) (eO n) h Tryz.func140 rfl rfl rfl rfl aA
def acv:bT:=bK 140 ⟨Rj,KM,XN n,bn R KM,false,false⟩ (XA n)
theorem ak6:aZ E (acv n):=bI (ak4 n) (aya n)
def ayb:bC:=⟨[],[]⟩
abbrev Rk:List aC:=[.d (.int .i64),.d (.int .i64)]
abbrev KN:List aC:=[.d (.int .i64)]
@[irreducible] def Rl :cK Rk KN:=bP E R n false (acv n) (dn n) ayb Tryz.f139 Rk KN
theorem ayc (p:av R.T Rk)(x:av R.T KN)(h:Rl n p=some x):Pure E 139 (aF R Rk p) (bq (aF R KN x)):=by unfold Rl at h;exact bR bD (ak6 n) (eO n) h Tryz.func139 rfl rfl rfl rfl aA
def XB:bT:=bK 139 ⟨Rk,KN,Rl n,bn R KN,false,false⟩ (acv n)
theorem ak7:aZ E (XB n):=bI (ak6 n) (ayc n)
def ak8:bC:=⟨[(2,⟨[2,9,10],[],⟨[(1,.d (.int .i64)),(11,.d (.int .i64))],[]⟩,[(.exit 0,⟨[(1,.d (.int .i64))],[]⟩)]⟩)],[]⟩
abbrev Rm:List aC:=[.d (.slice (.int .i64)),.d (.int .i64),.fn 139 [] []]
abbrev KO:List aC:=[.d (.int .i64)]
@[irreducible] def XS :cK Rm KO:=bP E R n false (XB n) (dn n) ak8 Tryz.f140 Rm KO
theorem ayd (p:av R.T Rm)(x:av R.T KO)(h:XS n p=some x):Pure E 140 (aF R Rm p) (bq (aF R KO x)):=by unfold XS at h;exact bR bD (ak7 n) (eO n) h Tryz.func140 rfl rfl rfl rfl aA
def acw:bT:=bK 140 ⟨Rm,KO,XS n,bn R KO,false,false⟩ (XB n)
theorem ak9:aZ E (acw n):=bI (ak7 n) (ayd n)
def aye:bC:=⟨[],[]⟩
abbrev Rn:List aC:=[.d (.int .i64),.d (.slice (.int .i64))]
abbrev KP:List aC:=[.d (.int .i64)]
@[irreducible] def KQ :cK Rn KP:=bP E R n false (acw n) (dn n) aye Tryz.f89 Rn KP
theorem ayf (p:av R.T Rn)(x:av R.T KP)(h:KQ n p=some x):Pure E 89 (aF R Rn p) (bq (aF R KP x)):=by unfold KQ at h;exact bR bD (ak9 n) (eO n) h Tryz.func89 rfl rfl rfl rfl aA
def acy:bT:=bK 89 ⟨Rn,KP,KQ n,bn R KP,false,false⟩ (acw n)
theorem ala:aZ E (acy n):=bI (ak9 n) (ayf n)
def ayg:bC:=⟨[],[]⟩
abbrev Ro:List aC:=[.d (.int .i64),.d (.slice (.int .i64)),.d (.slice (.int .i64))]
abbrev KR:List aC:=[.d (.int .i64)]
@[irreducible] def Wl :cK Ro KR:=bP E R n false (acy n) (dn n) ayg Tryz.f43 Ro KR
theorem ayh (p:av R.T Ro)(x:av R.T KR)(h:Wl n p=some x):Pure E 43 (aF R Ro p) (bq (aF R KR x)):=by unfold Wl at h;exact bR bD (ala n) (eO n) h Tryz.func43 rfl rfl rfl rfl aA
def acz:bT:=bK 43 ⟨Ro,KR,Wl n,bn R KR,false,false⟩ (acy n)
theorem alb:aZ E (acz n):=bI (ala n) (ayh n)
def ayi:bC:=⟨[],[]⟩
abbrev Rp:List aC:=[.d (.slice (.st 5)),.d (.st 2)]
abbrev KS:List aC:=[.d .bool]
@[irreducible] def KT :cK Rp KS:=bP E R n false (acz n) (dn n) ayi Tryz.f141 Rp KS
theorem ayj (p:av R.T Rp)(x:av R.T KS)(h:KT n p=some x):Pure E 141 (aF R Rp p) (bq (aF R KS x)):=by unfold KT at h;exact bR bD (alb n) (eO n) h Tryz.func141 rfl rfl rfl rfl aA
def acA:bT:=bK 141 ⟨Rp,KS,KT n,bn R KS,false,false⟩ (acz n)
theorem alc:aZ E (acA n):=bI (alb n) (ayj n)
def ayk:bC:=⟨[],[]⟩
abbrev Rq:List aC:=[.d (.st 5),.aY [.d .str] 0]
abbrev KU:List aC:=[.d .bool]
@[irreducible] def Rs :cK Rq KU:=bP E R n false (acA n) (dn n) ayk Tryz.f196 Rq KU
theorem ayl (p:av R.T Rq)(x:av R.T KU)(h:Rs n p=some x):Pure E 196 (aF R Rq p) (bq (aF R KU x)):=by unfold Rs at h;exact bR bD (alc n) (eO n) h Tryz.func196 rfl rfl rfl rfl aA
def XC:bT:=bK 196 ⟨Rq,KU,Rs n,bn R KU,false,false⟩ (acA n)
theorem ald:aZ E (XC n):=bI (alc n) (ayl n)
def ale:bC:=⟨[(2,⟨[0,1,7],[],⟨[(8,.d (.int .i64))],[]⟩,[(.exit 0,⟨[],[]⟩),(.ret,⟨[(4,.d (.int .i64))],[]⟩)]⟩)],[]⟩
abbrev Rt:List aC:=[.d (.slice (.st 5)),.fn 196 [] [.aY [.d .str] 0]]
abbrev KV:List aC:=[.d (.int .i64)]
@[irreducible] def XX :cK Rt KV:=bP E R n false (XC n) (dn n) ale Tryz.f195 Rt KV
theorem aym (p:av R.T Rt)(x:av R.T KV)(h:XX n p=some x):Pure E 195 (aF R Rt p) (bq (aF R KV x)):=by unfold XX at h;exact bR bD (ald n) (eO n) h Tryz.func195 rfl rfl rfl rfl aA
def acB:bT:=bK 195 ⟨Rt,KV,XX n,bn R KV,false,false⟩ (XC n)
theorem alf:aZ E (acB n):=bI (ald n) (aym n)
def ayn:bC:=⟨[],[]⟩
abbrev Ru:List aC:=[.d (.slice (.st 5)),.d .str]
abbrev KW:List aC:=[.d (.st 5),.d .bool]
@[irreducible] def UT :cK Ru KW:=bP E R n false (acB n) (dn n) ayn Tryz.f185 Ru KW
theorem ayo (p:av R.T Ru)(x:av R.T KW)(h:UT n p=some x):Pure E 185 (aF R Ru p) (bq (aF R KW x)):=by unfold UT at h;exact bR bD (alf n) (eO n) h Tryz.func185 rfl rfl rfl rfl aA
def acC:bT:=bK 185 ⟨Ru,KW,UT n,bn R KW,false,false⟩ (acB n)
theorem alg:aZ E (acC n):=bI (alf n) (ayo n)
def ayp:bC:=⟨[],[]⟩
abbrev Rv:List aC:=[.d (.slice (.st 5)),.d (.st 2)]
abbrev KX:List aC:=[.d .bool]
@[irreducible] def KY :cK Rv KX:=bP E R n false (acC n) (dn n) ayp Tryz.f145 Rv KX
theorem ayq (p:av R.T Rv)(x:av R.T KX)(h:KY n p=some x):Pure E 145 (aF R Rv p) (bq (aF R KX x)):=by unfold KY at h;exact bR bD (alg n) (eO n) h Tryz.func145 rfl rfl rfl rfl aA
def acD:bT:=bK 145 ⟨Rv,KX,KY n,bn R KX,false,false⟩ (acC n)
theorem alh:aZ E (acD n):=bI (alg n) (ayq n)
def ayr:bC:=⟨[],[]⟩
abbrev Rw:List aC:=[.d (.slice (.st 5)),.d (.st 2)]
abbrev KZ:List aC:=[.d .bool]
@[irreducible] def K3 :cK Rw KZ:=bP E R n false (acD n) (dn n) ayr Tryz.f146 Rw KZ
theorem ays (p:av R.T Rw)(x:av R.T KZ)(h:K3 n p=some x):Pure E 146 (aF R Rw p) (bq (aF R KZ x)):=by unfold K3 at h;exact bR bD (alh n) (eO n) h Tryz.func146 rfl rfl rfl rfl aA
def acE:bT:=bK 146 ⟨Rw,KZ,K3 n,bn R KZ,false,false⟩ (acD n)
theorem ali:aZ E (acE n):=bI (alh n) (ays n)
def ayt:bC:=⟨[],[]⟩
abbrev Rx:List aC:=[.d (.slice (.st 5)),.d (.st 2)]
abbrev K4:List aC:=[.d .bool]
@[irreducible] def K5 :cK Rx K4:=bP E R n false (acE n) (dn n) ayt Tryz.f147 Rx K4
theorem ayu (p:av R.T Rx)(x:av R.T K4)(h:K5 n p=some x):Pure E 147 (aF R Rx p) (bq (aF R K4 x)):=by unfold K5 at h;exact bR bD (ali n) (eO n) h Tryz.func147 rfl rfl rfl rfl aA
def acF:bT:=bK 147 ⟨Rx,K4,K5 n,bn R K4,false,false⟩ (acE n)
theorem acG:aZ E (acF n):=bI (ali n) (ayu n)
def alj:bC:=⟨[],[]⟩
abbrev yP:List aC:=[.d (.slice (.st 5)),.d (.st 2)]
abbrev Ar:List aC:=[.d .bool]
def acH:bC:=⟨[(2,⟨[0,8,9],[],⟨[(10,.d (.int .i64))],[]⟩,[(.exit 0,⟨[],[]⟩),(.ret,⟨[(4,.d .bool)],[]⟩)]⟩)],[]⟩
abbrev yQ:List aC:=[.d (.slice (.st 5)),.d (.st 2)]
abbrev Au:List aC:=[.d .bool]
def alk:bC:=⟨[],[]⟩
abbrev yR:List aC:=[.d (.slice (.st 5)),.d (.st 2)]
abbrev Av:List aC:=[.d .bool]
def alm:bC:=⟨[],[]⟩
abbrev yS:List aC:=[.d (.slice (.st 2)),.fn 91 [.d (.slice (.st 5))] []]
abbrev Aw:List aC:=[.d .bool]
def acI:bC:=⟨[(2,⟨[0,1,7],[],⟨[(8,.d (.int .i64))],[]⟩,[(.exit 0,⟨[],[]⟩),(.ret,⟨[(4,.d (.int .i64))],[]⟩)]⟩)],[]⟩
abbrev yT:List aC:=[.d (.slice (.st 2)),.fn 91 [.d (.slice (.st 5))] []]
abbrev Ay:List aC:=[.d (.int .i64)]
def aln:bC:=⟨[],[]⟩
abbrev yU:List aC:=[.d (.slice (.st 5)),.d (.st 2)]
abbrev Az:List aC:=[.d .bool]
def gX:Nat->List aC
 |0=>yP|1=>yQ|2=>yR|3=>yS|4=>yT|_=>yU
def dY:Nat->List aC
 |0=>Ar|1=>Au|2=>Av|3=>Aw|4=>Ay|_=>Az
def ayv:Nat->bC
 |0=>alj|1=>acH|2=>alk|3=>alm|4=>acI|_=>aln
def ayw:Nat->Func
 |0=>Tryz.f91|1=>Tryz.f142|2=>Tryz.f143|3=>Tryz.f184|4=>Tryz.f194|_=>Tryz.f144
def rE (g:(i:Nat)->av R.T (gX i)->Option (av R.T (dY i))):Nat->List (fC R):=bK 144 ⟨gX 5,dY 5,g 5,bn R (dY 5),false,false⟩ (bK 194 ⟨gX 4,dY 4,g 4,bn R (dY 4),false,false⟩ (bK 184 ⟨gX 3,dY 3,g 3,bn R (dY 3),false,false⟩ (bK 143 ⟨gX 2,dY 2,g 2,bn R (dY 2),false,false⟩ (bK 142 ⟨gX 1,dY 1,g 1,bn R (dY 1),false,false⟩ (bK 91 ⟨gX 0,dY 0,g 0,bn R (dY 0),false,false⟩ (acF n))))))
def eU (n:Nat):Nat->(i:Nat)->av R.T (gX i)->Option (av R.T (dY i))
 |0,_,_=>none|m+1,i,p=>bP E R n false (rE n (eU n m)) (dn n) (ayv i) (ayw i) (gX i) (dY i) p
attribute [irreducible] eU
theorem alo (n m:Nat)(p:av R.T yP):eU n (m+1) 0 p=bP E R n false (rE n (eU n m)) (dn n) alj Tryz.f91 yP Ar p:=aA
theorem alp (n m:Nat)(p:av R.T yQ):eU n (m+1) 1 p=bP E R n false (rE n (eU n m)) (dn n) acH Tryz.f142 yQ Au p:=aA
theorem alq (n m:Nat)(p:av R.T yR):eU n (m+1) 2 p=bP E R n false (rE n (eU n m)) (dn n) alk Tryz.f143 yR Av p:=aA
theorem alr (n m:Nat)(p:av R.T yS):eU n (m+1) 3 p=bP E R n false (rE n (eU n m)) (dn n) alm Tryz.f184 yS Aw p:=aA
theorem als (n m:Nat)(p:av R.T yT):eU n (m+1) 4 p=bP E R n false (rE n (eU n m)) (dn n) acI Tryz.f194 yT Ay p:=aA
theorem alu (n m:Nat)(p:av R.T yU):eU n (m+1) 5 p=bP E R n false (rE n (eU n m)) (dn n) aln Tryz.f144 yU Az p:=aA
theorem alv (p:av R.T yP):eU n 0 0 p=none:=aA
theorem ayx (p:av R.T (gX 0))(x:av R.T (dY 0))(h:eU n 0 0 p=some x):Pure E 91 (aF R (gX 0) p) (bq (aF R (dY 0) x)):=absurd ((alv n p).symm.trans h) nofun
theorem alx (p:av R.T yQ):eU n 0 1 p=none:=aA
theorem ayy (p:av R.T (gX 1))(x:av R.T (dY 1))(h:eU n 0 1 p=some x):Pure E 142 (aF R (gX 1) p) (bq (aF R (dY 1) x)):=absurd ((alx n p).symm.trans h) nofun
theorem aly (p:av R.T yR):eU n 0 2 p=none:=aA
theorem ayz (p:av R.T (gX 2))(x:av R.T (dY 2))(h:eU n 0 2 p=some x):Pure E 143 (aF R (gX 2) p) (bq (aF R (dY 2) x)):=absurd ((aly n p).symm.trans h) nofun
theorem alz (p:av R.T yS):eU n 0 3 p=none:=aA
theorem ayA (p:av R.T (gX 3))(x:av R.T (dY 3))(h:eU n 0 3 p=some x):Pure E 184 (aF R (gX 3) p) (bq (aF R (dY 3) x)):=absurd ((alz n p).symm.trans h) nofun
theorem alA (p:av R.T yT):eU n 0 4 p=none:=aA
theorem ayB (p:av R.T (gX 4))(x:av R.T (dY 4))(h:eU n 0 4 p=some x):Pure E 194 (aF R (gX 4) p) (bq (aF R (dY 4) x)):=absurd ((alA n p).symm.trans h) nofun
theorem alB (p:av R.T yU):eU n 0 5 p=none:=aA
theorem ayC (p:av R.T (gX 5))(x:av R.T (dY 5))(h:eU n 0 5 p=some x):Pure E 144 (aF R (gX 5) p) (bq (aF R (dY 5) x)):=absurd ((alB n p).symm.trans h) nofun
theorem ayD (n m:Nat)(hk:aZ E (rE n (eU n m)))(p:av R.T (gX 0))(x:av R.T (dY 0))(h:eU n (m+1) 0 p=some x):Pure E 91 (aF R (gX 0) p) (bq (aF R (dY 0) x)):=
 bR (args:=yP) (res:=Ar) bD hk (eO n) ((alo n m p).symm.trans h) Tryz.func91 rfl rfl rfl rfl aA
theorem ayE (n m:Nat)(hk:aZ E (rE n (eU n m)))(p:av R.T (gX 1))(x:av R.T (dY 1))(h:eU n (m+1) 1 p=some x):Pure E 142 (aF R (gX 1) p) (bq (aF R (dY 1) x)):=
 bR (args:=yQ) (res:=Au) bD hk (eO n) ((alp n m p).symm.trans h) Tryz.func142 rfl rfl rfl rfl aA
theorem ayF (n m:Nat)(hk:aZ E (rE n (eU n m)))(p:av R.T (gX 2))(x:av R.T (dY 2))(h:eU n (m+1) 2 p=some x):Pure E 143 (aF R (gX 2) p) (bq (aF R (dY 2) x)):=
 bR (args:=yR) (res:=Av) bD hk (eO n) ((alq n m p).symm.trans h) Tryz.func143 rfl rfl rfl rfl aA
theorem ayG (n m:Nat)(hk:aZ E (rE n (eU n m)))(p:av R.T (gX 3))(x:av R.T (dY 3))(h:eU n (m+1) 3 p=some x):Pure E 184 (aF R (gX 3) p) (bq (aF R (dY 3) x)):=
 bR (args:=yS) (res:=Aw) bD hk (eO n) ((alr n m p).symm.trans h) Tryz.func184 rfl rfl rfl rfl aA
theorem ayH (n m:Nat)(hk:aZ E (rE n (eU n m)))(p:av R.T (gX 4))(x:av R.T (dY 4))(h:eU n (m+1) 4 p=some x):Pure E 194 (aF R (gX 4) p) (bq (aF R (dY 4) x)):=
 bR (args:=yT) (res:=Ay) bD hk (eO n) ((als n m p).symm.trans h) Tryz.func194 rfl rfl rfl rfl aA
theorem ayI (n m:Nat)(hk:aZ E (rE n (eU n m)))(p:av R.T (gX 5))(x:av R.T (dY 5))(h:eU n (m+1) 5 p=some x):Pure E 144 (aF R (gX 5) p) (bq (aF R (dY 5) x)):=
 bR (args:=yU) (res:=Az) bD hk (eO n) ((alu n m p).symm.trans h) Tryz.func144 rfl rfl rfl rfl aA
theorem xw (n:Nat):∀m,aZ E (rE n (eU n m))
 |0=>bI (f:=144) (r:=⟨gX 5,dY 5,eU n 0 5,bn R (dY 5),false,false⟩) (bI (f:=194) (r:=⟨gX 4,dY 4,eU n 0 4,bn R (dY 4),false,false⟩) (bI (f:=184) (r:=⟨gX 3,dY 3,eU n 0 3,bn R (dY 3),false,false⟩) (bI (f:=143) (r:=⟨gX 2,dY 2,eU n 0 2,bn R (dY 2),false,false⟩) (bI (f:=142) (r:=⟨gX 1,dY 1,eU n 0 1,bn R (dY 1),false,false⟩) (bI (f:=91) (r:=⟨gX 0,dY 0,eU n 0 0,bn R (dY 0),false,false⟩) (acG n) (ayx n)) (ayy n)) (ayz n)) (ayA n)) (ayB n)) (ayC n)
 |m+1=>bI (f:=144) (r:=⟨gX 5,dY 5,eU n (m+1) 5,bn R (dY 5),false,false⟩) (bI (f:=194) (r:=⟨gX 4,dY 4,eU n (m+1) 4,bn R (dY 4),false,false⟩) (bI (f:=184) (r:=⟨gX 3,dY 3,eU n (m+1) 3,bn R (dY 3),false,false⟩) (bI (f:=143) (r:=⟨gX 2,dY 2,eU n (m+1) 2,bn R (dY 2),false,false⟩) (bI (f:=142) (r:=⟨gX 1,dY 1,eU n (m+1) 1,bn R (dY 1),false,false⟩) (bI (f:=91) (r:=⟨gX 0,dY 0,eU n (m+1) 0,bn R (dY 0),false,false⟩) (acG n) (ayD n m (xw n m))) (ayE n m (xw n m))) (ayF n m (xw n m))) (ayG n m (xw n m))) (ayH n m (xw n m))) (ayI n m (xw n m))
@[irreducible] def AA (n m:Nat)(p:av R.T yP):Option (av R.T Ar):=eU n m 0 p
@[irreducible] def K6 (p:av R.T yP):Option (av R.T Ar):=AA n n p
theorem ayJ (p:av R.T yP)(x:av R.T Ar)(h:K6 n p=some x):Pure E 91 (aF R yP p) (bq (aF R Ar x)):=by
 unfold K6 AA at h;cases n with
 |zero=>exact absurd ((alv 0 p).symm.trans h) nofun|succ n=>exact bR (args:=yP) (res:=Ar) bD (xw (n+1) n) (eO (n+1)) ((alo (n+1) n p).symm.trans h) Tryz.func91 rfl rfl rfl rfl aA
@[irreducible] def Ry (n m:Nat)(p:av R.T yQ):Option (av R.T Au):=eU n m 1 p
@[irreducible] def acJ (p:av R.T yQ):Option (av R.T Au):=Ry n n p
theorem ayK (p:av R.T yQ)(x:av R.T Au)(h:acJ n p=some x):Pure E 142 (aF R yQ p) (bq (aF R Au x)):=by
 unfold acJ Ry at h;cases n with
 |zero=>exact absurd ((alx 0 p).symm.trans h) nofun|succ n=>exact bR (args:=yQ) (res:=Au) bD (xw (n+1) n) (eO (n+1)) ((alp (n+1) n p).symm.trans h) Tryz.func142 rfl rfl rfl rfl aA
@[irreducible] def K7 (n m:Nat)(p:av R.T yR):Option (av R.T Av):=eU n m 2 p
@[irreducible] def acK (p:av R.T yR):Option (av R.T Av):=K7 n n p
theorem ayL (p:av R.T yR)(x:av R.T Av)(h:acK n p=some x):Pure E 143 (aF R yR p) (bq (aF R Av x)):=by
 unfold acK K7 at h;cases n with
 |zero=>exact absurd ((aly 0 p).symm.trans h) nofun|succ n=>exact bR (args:=yR) (res:=Av) bD (xw (n+1) n) (eO (n+1)) ((alq (n+1) n p).symm.trans h) Tryz.func143 rfl rfl rfl rfl aA
@[irreducible] def Rz (n m:Nat)(p:av R.T yS):Option (av R.T Aw):=eU n m 3 p
@[irreducible] def acL (p:av R.T yS):Option (av R.T Aw):=Rz n n p
theorem ayM (p:av R.T yS)(x:av R.T Aw)(h:acL n p=some x):Pure E 184 (aF R yS p) (bq (aF R Aw x)):=by
 unfold acL Rz at h;cases n with
 |zero=>exact absurd ((alz 0 p).symm.trans h) nofun|succ n=>exact bR (args:=yS) (res:=Aw) bD (xw (n+1) n) (eO (n+1)) ((alr (n+1) n p).symm.trans h) Tryz.func184 rfl rfl rfl rfl aA
@[irreducible] def XD (n m:Nat)(p:av R.T yT):Option (av R.T Ay):=eU n m 4 p
@[irreducible] def acM (p:av R.T yT):Option (av R.T Ay):=XD n n p
theorem ayN (p:av R.T yT)(x:av R.T Ay)(h:acM n p=some x):Pure E 194 (aF R yT p) (bq (aF R Ay x)):=by
 unfold acM XD at h;cases n with
 |zero=>exact absurd ((alA 0 p).symm.trans h) nofun|succ n=>exact bR (args:=yT) (res:=Ay) bD (xw (n+1) n) (eO (n+1)) ((als (n+1) n p).symm.trans h) Tryz.func194 rfl rfl rfl rfl aA
@[irreducible] def RA (n m:Nat)(p:av R.T yU):Option (av R.T Az):=eU n m 5 p
@[irreducible] def acN (p:av R.T yU):Option (av R.T Az):=RA n n p
theorem ayO (p:av R.T yU)(x:av R.T Az)(h:acN n p=some x):Pure E 144 (aF R yU p) (bq (aF R Az x)):=by
 unfold acN RA at h;cases n with
 |zero=>exact absurd ((alB 0 p).symm.trans h) nofun|succ n=>exact bR (args:=yU) (res:=Az) bD (xw (n+1) n) (eO (n+1)) ((alu (n+1) n p).symm.trans h) Tryz.func144 rfl rfl rfl rfl aA
def alC:bT:=bK 91 ⟨yP,Ar,K6 n,bn R Ar,false,false⟩ (acF n)
theorem ayP:aZ E (alC n):=bI (acG n) (ayJ n)
def alD:bT:=bK 142 ⟨yQ,Au,acJ n,bn R Au,false,false⟩ (alC n)
theorem ayQ:aZ E (alD n):=bI (ayP n) (ayK n)
def alE:bT:=bK 143 ⟨yR,Av,acK n,bn R Av,false,false⟩ (alD n)
theorem ayR:aZ E (alE n):=bI (ayQ n) (ayL n)
def alF:bT:=bK 184 ⟨yS,Aw,acL n,bn R Aw,false,false⟩ (alE n)
theorem ayS:aZ E (alF n):=bI (ayR n) (ayM n)
def alG:bT:=bK 194 ⟨yT,Ay,acM n,bn R Ay,false,false⟩ (alF n)
theorem ayT:aZ E (alG n):=bI (ayS n) (ayN n)
def acO:bT:=bK 144 ⟨yU,Az,acN n,bn R Az,false,false⟩ (alG n)
theorem alH:aZ E (acO n):=bI (ayT n) (ayO n)
def ayU:bC:=⟨[],[]⟩
abbrev RB:List aC:=[.d (.st 2),.d (.slice (.st 5))]
abbrev K8:List aC:=[.d .bool]
@[irreducible] def UI :cK RB K8:=bP E R n false (acO n) (dn n) ayU Tryz.f44 RB K8
theorem ayV (p:av R.T RB)(x:av R.T K8)(h:UI n p=some x):Pure E 44 (aF R RB p) (bq (aF R K8 x)):=by unfold UI at h;exact bR bD (alH n) (eO n) h Tryz.func44 rfl rfl rfl rfl aA
def acP:bT:=bK 44 ⟨RB,K8,UI n,bn R K8,false,false⟩ (acO n)
theorem alI:aZ E (acP n):=bI (alH n) (ayV n)
def ayW:bC:=⟨[],[]⟩
abbrev RD:List aC:=[]
abbrev K9:List aC:=[.agg [.fn 148 [] [],.fn 150 [] []]]
@[irreducible] def RF :cK RD K9:=bP E R n false (acP n) (dn n) ayW Tryz.f92 RD K9
theorem ayX (p:av R.T RD)(x:av R.T K9)(h:RF n p=some x):Pure E 92 (aF R RD p) (bq (aF R K9 x)):=by unfold RF at h;exact bR bD (alI n) (eO n) h Tryz.func92 rfl rfl rfl rfl aA
def alJ:bT:=bK 92 ⟨RD,K9,RF n,bn R K9,false,false⟩ (acP n)
theorem ayY:aZ E (alJ n):=bI (alI n) (ayX n)
abbrev XE:List aC:=[.agg [.fn 148 [] [],.fn 150 [] []],.d (.slice (.st 10)),.d (.int .i64)]
abbrev RG:List aC:=[.d (.slice (.st 10))]
@[irreducible] def RH (n:Nat)(p:av R.T XE):Option (av R.T RG):=Ah p.2.1 p.2.2
theorem ayZ (p:av R.T XE)(x:av R.T RG)(h:RH n p=some x):Pure E 99 (aF R XE p) (bq (aF R RG x)):=by unfold RH at h;exact awi p x h
def acQ:bT:=bK 99 ⟨XE,RG,RH n,bn R RG,false,false⟩ (alJ n)
theorem alK:aZ E (acQ n):=bI (ayY n) (ayZ n)
def ay0:bC:=⟨[],[]⟩
abbrev RI:List aC:=[.d (.slice (.st 10)),.d (.int .i64)]
abbrev La:List aC:=[.d (.slice (.st 10))]
@[irreducible] def UX :cK RI La:=bP E R n false (acQ n) (dn n) ay0 Tryz.f52 RI La
theorem ay1 (p:av R.T RI)(x:av R.T La)(h:UX n p=some x):Pure E 52 (aF R RI p) (bq (aF R La x)):=by unfold UX at h;exact bR bD (alK n) (eO n) h Tryz.func52 rfl rfl rfl rfl aA
def XF:bT:=bK 52 ⟨RI,La,UX n,bn R La,false,false⟩ (acQ n)
theorem alL:aZ E (XF n):=bI (alK n) (ay1 n)
def alM:bC:=⟨[(8,⟨[2,3,38,39],[2,3],⟨[(7,.l (.own 71) (.st 10)),(40,.d (.int .i64))],[]⟩,[(.exit 0,⟨[(7,.l (.own 71) (.st 10))],[]⟩)]⟩)],[]⟩
abbrev RJ:List aC:=[.d (.st 8),.d (.st 4)]
abbrev Lb:List aC:=[.d (.slice (.st 10)),.d (.int .i64)]
@[irreducible] def Lc :cK RJ Lb:=bP E R n false (XF n) (dn n) alM Tryz.f15 RJ Lb
theorem ay2 (p:av R.T RJ)(x:av R.T Lb)(h:Lc n p=some x):Pure E 15 (aF R RJ p) (bq (aF R Lb x)):=by unfold Lc at h;exact bR bD (alL n) (eO n) h Tryz.func15 rfl rfl rfl rfl aA
def acR:bT:=bK 15 ⟨RJ,Lb,Lc n,bn R Lb,false,false⟩ (XF n)
theorem alN:aZ E (acR n):=bI (alL n) (ay2 n)
def ay3:bC:=⟨[],[]⟩
abbrev RL:List aC:=[.d (.st 2)]
abbrev Ld:List aC:=[.d .bool]
@[irreducible] def Wc :cK RL Ld:=bP E R n false (acR n) (dn n) ay3 Tryz.f94 RL Ld
theorem ay4 (p:av R.T RL)(x:av R.T Ld)(h:Wc n p=some x):Pure E 94 (aF R RL p) (bq (aF R Ld x)):=by unfold Wc at h;exact bR bD (alN n) (eO n) h Tryz.func94 rfl rfl rfl rfl aA
def XG:bT:=bK 94 ⟨RL,Ld,Wc n,bn R Ld,false,false⟩ (acR n)
theorem alO:aZ E (XG n):=bI (alN n) (ay4 n)
def alP:bC:=⟨[(5,⟨[2,5],[2],⟨[(6,.d (.int .i64))],[]⟩,[(.exit 0,⟨[],[]⟩),(.ret,⟨[(4,.d (.int .i64))],[]⟩)]⟩)],[]⟩
abbrev RN:List aC:=[.d (.st 1),.d (.st 2)]
abbrev Le:List aC:=[.d (.int .i64)]
@[irreducible] def DV :cK RN Le:=bP E R n false (XG n) (dn n) alP Tryz.f46 RN Le
theorem ay5 (p:av R.T RN)(x:av R.T Le)(h:DV n p=some x):Pure E 46 (aF R RN p) (bq (aF R Le x)):=by unfold DV at h;exact bR bD (alO n) (eO n) h Tryz.func46 rfl rfl rfl rfl aA
def acS:bT:=bK 46 ⟨RN,Le,DV n,bn R Le,false,false⟩ (XG n)
theorem alQ:aZ E (acS n):=bI (alO n) (ay5 n)
def ay6:bC:=⟨[],[]⟩
abbrev RO:List aC:=[.d (.st 1),.d (.st 4)]
abbrev Lf:List aC:=[.d (.int .i64)]
@[irreducible] def Wr :cK RO Lf:=bP E R n false (acS n) (dn n) ay6 Tryz.f18 RO Lf
theorem ay7 (p:av R.T RO)(x:av R.T Lf)(h:Wr n p=some x):Pure E 18 (aF R RO p) (bq (aF R Lf x)):=by unfold Wr at h;exact bR bD (alQ n) (eO n) h Tryz.func18 rfl rfl rfl rfl aA
def acT:bT:=bK 18 ⟨RO,Lf,Wr n,bn R Lf,false,false⟩ (acS n)
theorem alR:aZ E (acT n):=bI (alQ n) (ay7 n)
def ay8:bC:=⟨[],[]⟩
abbrev RP:List aC:=[.d (.st 8),.d (.int .i64)]
abbrev Lg:List aC:=[.d (.int .i64)]
@[irreducible] def Lh :cK RP Lg:=bP E R n false (acT n) (dn n) ay8 Tryz.f53 RP Lg
theorem ay9 (p:av R.T RP)(x:av R.T Lg)(h:Lh n p=some x):Pure E 53 (aF R RP p) (bq (aF R Lg x)):=by unfold Lh at h;exact bR bD (alR n) (eO n) h Tryz.func53 rfl rfl rfl rfl aA
def acU:bT:=bK 53 ⟨RP,Lg,Lh n,bn R Lg,false,false⟩ (acT n)
theorem alS:aZ E (acU n):=bI (alR n) (ay9 n)
def aza:bC:=⟨[],[]⟩
abbrev RQ:List aC:=[.d (.st 7),.d (.st 3)]
abbrev Li:List aC:=[.d .bool]
@[irreducible] def Lj :cK RQ Li:=bP E R n false (acU n) (dn n) aza Tryz.f62 RQ Li
theorem azb (p:av R.T RQ)(x:av R.T Li)(h:Lj n p=some x):Pure E 62 (aF R RQ p) (bq (aF R Li x)):=by unfold Lj at h;exact bR bD (alS n) (eO n) h Tryz.func62 rfl rfl rfl rfl aA
def RU:bT:=bK 62 ⟨RQ,Li,Lj n,bn R Li,false,false⟩ (acU n)
theorem alT:aZ E (RU n):=bI (alS n) (azb n)
def acV:bC:=⟨[(3,⟨[2,3],[2,3],⟨[(5,.aM 32 (.st 6)),(6,.d (.int .i64))],[(32,.arr (.st 6))]⟩,[(.exit 0,⟨[(5,.aM 32 (.st 6))],[(32,.arr (.st 6))]⟩)]⟩),
 (8,⟨[2,3,5,6],[2,3],⟨[(7,.d (.int .i64))],[(32,.arr (.st 6))]⟩,[(.exit 2,⟨[(7,.d (.int .i64))],[(32,.arr (.st 6))]⟩)]⟩)],[]⟩
abbrev RV:List aC:=[.d (.st 8),.d (.st 3)]
abbrev Ll:List aC:=[.d (.slice (.st 6))]
@[irreducible] def F3 (p:av R.T RV):Option (av R.T Ll):=bP E R n true (RU n) (dn n) acV Tryz.f21 RV Ll p
theorem azc (p:av R.T RV)(x:av R.T Ll)(h:F3 n p=some x):Pure E 21 (aF R RV p) (bq (aF R Ll x)):=by unfold F3 at h;exact bR bD (alT n) (eO n) h Tryz.func21 rfl rfl rfl rfl aA
def XH:bT:=bK 21 ⟨RV,Ll,F3 n,bn R Ll,false,false⟩ (RU n)
theorem alU:aZ E (XH n):=bI (alT n) (azc n)
def alV:bC:=⟨[(3,⟨[0,1],[],⟨[(5,.l (.own 24) (.int .i64)),(6,.d (.int .i64))],[]⟩,[(.exit 0,⟨[(5,.l (.own 24) (.int .i64))],[]⟩)]⟩)],[]⟩
abbrev RX:List aC:=[.d (.slice (.int .i64)),.d (.slice (.int .i64))]
abbrev Lm:List aC:=[.d (.slice (.int .i64))]
@[irreducible] def Lp :cK RX Lm:=bP E R n false (XH n) (dn n) alV Tryz.f157 RX Lm
theorem azd (p:av R.T RX)(x:av R.T Lm)(h:Lp n p=some x):Pure E 157 (aF R RX p) (bq (aF R Lm x)):=by unfold Lp at h;exact bR bD (alU n) (eO n) h Tryz.func157 rfl rfl rfl rfl aA
def acW:bT:=bK 157 ⟨RX,Lm,Lp n,bn R Lm,false,false⟩ (XH n)
theorem alW:aZ E (acW n):=bI (alU n) (azd n)
def aze:bC:=⟨[],[]⟩
abbrev RY:List aC:=[.d (.int .i64)]
abbrev Lr:List aC:=[.d (.int .i64)]
@[irreducible] def WD :cK RY Lr:=bP E R n false (acW n) (dn n) aze Tryz.f189 RY Lr
theorem azf (p:av R.T RY)(x:av R.T Lr)(h:WD n p=some x):Pure E 189 (aF R RY p) (bq (aF R Lr x)):=by unfold WD at h;exact bR bD (alW n) (eO n) h Tryz.func189 rfl rfl rfl rfl aA
def XI:bT:=bK 189 ⟨RY,Lr,WD n,bn R Lr,false,false⟩ (acW n)
theorem alX:aZ E (XI n):=bI (alW n) (azf n)
def alY:bC:=⟨[(3,⟨[0,1],[],⟨[(5,.d (.int .i64)),(6,.d (.int .i64))],[]⟩,[(.exit 0,⟨[(5,.d (.int .i64))],[]⟩)]⟩)],[]⟩
abbrev RZ:List aC:=[.d (.int .i64),.d (.slice (.int .i64))]
abbrev Ls:List aC:=[.d (.int .i64)]
@[irreducible] def Lu :cK RZ Ls:=bP E R n false (XI n) (dn n) alY Tryz.f156 RZ Ls
theorem azg (p:av R.T RZ)(x:av R.T Ls)(h:Lu n p=some x):Pure E 156 (aF R RZ p) (bq (aF R Ls x)):=by unfold Lu at h;exact bR bD (alX n) (eO n) h Tryz.func156 rfl rfl rfl rfl aA
def acX:bT:=bK 156 ⟨RZ,Ls,Lu n,bn R Ls,false,false⟩ (XI n)
theorem alZ:aZ E (acX n):=bI (alX n) (azg n)
def azh:bC:=⟨[],[]⟩
abbrev R3:List aC:=[.d (.int .i64),.d (.slice (.int .i64)),.d (.slice (.int .i64))]
abbrev Lv:List aC:=[.d (.int .i64)]
@[irreducible] def WF :cK R3 Lv:=bP E R n false (acX n) (dn n) azh Tryz.f101 R3 Lv
theorem azi (p:av R.T R3)(x:av R.T Lv)(h:WF n p=some x):Pure E 101 (aF R R3 p) (bq (aF R Lv x)):=by unfold WF at h;exact bR bD (alZ n) (eO n) h Tryz.func101 rfl rfl rfl rfl aA
def XJ:bT:=bK 101 ⟨R3,Lv,WF n,bn R Lv,false,false⟩ (acX n)
theorem al0:aZ E (XJ n):=bI (alZ n) (azi n)
def al1:bC:=⟨[(2,⟨[0,1,4],[],⟨[(5,.d (.int .i64))],[(4,.st 17)]⟩,[(.exit 0,⟨[],[(4,.st 17)]⟩),(.ret,⟨[],[(4,.st 17)]⟩)]⟩)],[]⟩
abbrev R4:List aC:=[.d (.slice (.st 5)),.d .str]
abbrev Lx:List aC:=[.d (.st 17)]
@[irreducible] def DW :cK R4 Lx:=bP E R n false (XJ n) (dn n) al1 Tryz.f158 R4 Lx
theorem azj (p:av R.T R4)(x:av R.T Lx)(h:DW n p=some x):Pure E 158 (aF R R4 p) (bq (aF R Lx x)):=by unfold DW at h;exact bR bD (al0 n) (eO n) h Tryz.func158 rfl rfl rfl rfl aA
def acY:bT:=bK 158 ⟨R4,Lx,DW n,bn R Lx,false,false⟩ (XJ n)
theorem acZ:aZ E (acY n):=bI (al0 n) (azj n)
def ac0:bC:=⟨[(3,⟨[1,2],[2],⟨[(5,.d (.int .i64)),(6,.d (.int .i64))],[]⟩,[(.exit 0,⟨[(5,.d (.int .i64))],[]⟩)]⟩)],[]⟩
abbrev yV:List aC:=[.d (.st 2),.d (.slice (.st 5))]
abbrev AB:List aC:=[.d .bool]
def AJ:Nat->List aC
 |_=>yV
def vJ:Nat->List aC
 |_=>AB
def azk:Nat->bC
 |_=>ac0
def azl:Nat->Func
 |_=>Tryz.f102
def R5 (g:(i:Nat)->av R.T (AJ i)->Option (av R.T (vJ i))):Nat->List (fC R):=bK 102 ⟨AJ 0,vJ 0,g 0,bn R (vJ 0),false,false⟩ (acY n)
def vK (n:Nat):Nat->(i:Nat)->av R.T (AJ i)->Option (av R.T (vJ i))
 |0,_,_=>none|m+1,i,p=>bP E R n false (R5 n (vK n m)) (dn n) (azk i) (azl i) (AJ i) (vJ i) p
attribute [irreducible] vK
theorem al2 (n m:Nat)(p:av R.T yV):vK n (m+1) 0 p=bP E R n false (R5 n (vK n m)) (dn n) ac0 Tryz.f102 yV AB p:=aA
theorem al3 (p:av R.T yV):vK n 0 0 p=none:=aA
theorem azm (p:av R.T (AJ 0))(x:av R.T (vJ 0))(h:vK n 0 0 p=some x):Pure E 102 (aF R (AJ 0) p) (bq (aF R (vJ 0) x)):=absurd ((al3 n p).symm.trans h) nofun
theorem azn (n m:Nat)(hk:aZ E (R5 n (vK n m)))(p:av R.T (AJ 0))(x:av R.T (vJ 0))(h:vK n (m+1) 0 p=some x):Pure E 102 (aF R (AJ 0) p) (bq (aF R (vJ 0) x)):=
 bR (args:=yV) (res:=AB) bD hk (eO n) ((al2 n m p).symm.trans h) Tryz.func102 rfl rfl rfl rfl aA
theorem al4 (n:Nat):∀m,aZ E (R5 n (vK n m))
 |0=>bI (f:=102) (r:=⟨AJ 0,vJ 0,vK n 0 0,bn R (vJ 0),false,false⟩) (acZ n) (azm n)|m+1=>bI (f:=102) (r:=⟨AJ 0,vJ 0,vK n (m+1) 0,bn R (vJ 0),false,false⟩) (acZ n) (azn n m (al4 n m))
@[irreducible] def LA (n m:Nat)(p:av R.T yV):Option (av R.T AB):=vK n m 0 p
@[irreducible] def DX (p:av R.T yV):Option (av R.T AB):=LA n n p
theorem azo (p:av R.T yV)(x:av R.T AB)(h:DX n p=some x):Pure E 102 (aF R yV p) (bq (aF R AB x)):=by
 unfold DX LA at h;cases n with
 |zero=>exact absurd ((al3 0 p).symm.trans h) nofun|succ n=>exact bR (args:=yV) (res:=AB) bD (al4 (n+1) n) (eO (n+1)) ((al2 (n+1) n p).symm.trans h) Tryz.func102 rfl rfl rfl rfl aA
def XK:bT:=bK 102 ⟨yV,AB,DX n,bn R AB,false,false⟩ (acY n)
theorem al5:aZ E (XK n):=bI (acZ n) (azo n)
def al6:bC:=⟨[(3,⟨[1,3,5],[3,5],⟨[(7,.l (.own 54) (.st 10)),(8,.d (.int .i64))],[]⟩,[(.exit 0,⟨[(7,.l (.own 54) (.st 10))],[]⟩)]⟩)],[]⟩
abbrev R6:List aC:=[.d (.st 1),.d (.slice (.st 6)),.d (.st 4)]
abbrev LB:List aC:=[.d (.slice (.st 10))]
@[irreducible] def R7 :cK R6 LB:=bP E R n false (XK n) (dn n) al6 Tryz.f55 R6 LB
theorem azp (p:av R.T R6)(x:av R.T LB)(h:R7 n p=some x):Pure E 55 (aF R R6 p) (bq (aF R LB x)):=by unfold R7 at h;exact bR bD (al5 n) (eO n) h Tryz.func55 rfl rfl rfl rfl aA
def XL:bT:=bK 55 ⟨R6,LB,R7 n,bn R LB,false,false⟩ (XK n)
theorem al7:aZ E (XL n):=bI (al5 n) (azp n)
def al8:bC:=⟨[(2,⟨[0,1],[],⟨[(5,.d (.int .i64))],[]⟩,[(.exit 0,⟨[],[]⟩),(.ret,⟨[(4,.d .bool)],[]⟩)]⟩)],[]⟩
abbrev R8:List aC:=[.d (.slice (.st 10)),.d (.int .i64)]
abbrev LC:List aC:=[.d .bool]
@[irreducible] def LD :cK R8 LC:=bP E R n false (XL n) (dn n) al8 Tryz.f154 R8 LC
theorem azq (p:av R.T R8)(x:av R.T LC)(h:LD n p=some x):Pure E 154 (aF R R8 p) (bq (aF R LC x)):=by unfold LD at h;exact bR bD (al7 n) (eO n) h Tryz.func154 rfl rfl rfl rfl aA
def ac1:bT:=bK 154 ⟨R8,LC,LD n,bn R LC,false,false⟩ (XL n)
theorem al9:aZ E (ac1 n):=bI (al7 n) (azq n)
def azr:bC:=⟨[],[]⟩
abbrev R9:List aC:=[.d (.st 10),.d (.st 10)]
abbrev LG:List aC:=[.d .bool]
@[irreducible] def LH :cK R9 LG:=bP E R n false (ac1 n) (dn n) azr Tryz.f155 R9 LG
theorem azs (p:av R.T R9)(x:av R.T LG)(h:LH n p=some x):Pure E 155 (aF R R9 p) (bq (aF R LG x)):=by unfold LH at h;exact bR bD (al9 n) (eO n) h Tryz.func155 rfl rfl rfl rfl aA
def XM:bT:=bK 155 ⟨R9,LG,LH n,bn R LG,false,false⟩ (ac1 n)
theorem ama:aZ E (XM n):=bI (al9 n) (azs n)
def amb:bC:=⟨[(3,⟨[0,1],[],⟨[(5,.d (.int .i64)),(6,.d (.int .i64))],[]⟩,[(.exit 0,⟨[(5,.d (.int .i64))],[]⟩)]⟩)],[]⟩
abbrev Sb:List aC:=[.d (.slice (.st 10)),.d (.slice (.st 10))]
abbrev LJ:List aC:=[.d (.int .i64)]
@[irreducible] def F4 :cK Sb LJ:=bP E R n false (XM n) (dn n) amb Tryz.f100 Sb LJ
theorem azt (p:av R.T Sb)(x:av R.T LJ)(h:F4 n p=some x):Pure E 100 (aF R Sb p) (bq (aF R LJ x)):=by unfold F4 at h;exact bR bD (ama n) (eO n) h Tryz.func100 rfl rfl rfl rfl aA
def XO:bT:=bK 100 ⟨Sb,LJ,F4 n,bn R LJ,false,false⟩ (XM n)
theorem amc:aZ E (XO n):=bI (ama n) (azt n)
def amd:bC:=⟨[(2,⟨[0,1],[],⟨[(5,.l (.own 23) (.st 10))],[]⟩,[(.exit 0,⟨[(5,.l (.own 23) (.st 10))],[]⟩),(.ret,⟨[(4,.l (.own 23) (.st 10))],[]⟩)]⟩)],[]⟩
abbrev Sc:List aC:=[.d (.slice (.st 10)),.d (.int .i64)]
abbrev LK:List aC:=[.d (.slice (.st 10))]
@[irreducible] def F5 :cK Sc LK:=bP E R n false (XO n) (dn n) amd Tryz.f54 Sc LK
theorem azu (p:av R.T Sc)(x:av R.T LK)(h:F5 n p=some x):Pure E 54 (aF R Sc p) (bq (aF R LK x)):=by unfold F5 at h;exact bR bD (amc n) (eO n) h Tryz.func54 rfl rfl rfl rfl aA
def ac2:bT:=bK 54 ⟨Sc,LK,F5 n,bn R LK,false,false⟩ (XO n)
theorem ame:aZ E (ac2 n):=bI (amc n) (azu n)
def azv:bC:=⟨[],[]⟩
abbrev Sd:List aC:=[.d (.st 8),.d (.st 4)]
abbrev LM:List aC:=[.d (.st 11)]
@[irreducible] def LP :cK Sd LM:=bP E R n false (ac2 n) (dn n) azv Tryz.f16 Sd LM
theorem azw (p:av R.T Sd)(x:av R.T LM)(h:LP n p=some x):Pure E 16 (aF R Sd p) (bq (aF R LM x)):=by unfold LP at h;exact bR bD (ame n) (eO n) h Tryz.func16 rfl rfl rfl rfl aA
def XP:bT:=bK 16 ⟨Sd,LM,LP n,bn R LM,false,false⟩ (ac2 n)
theorem amf:aZ E (XP n):=bI (ame n) (azw n)
def amg:bC:=⟨[(5,⟨[],[],⟨[(3,.d (.int .u64)),(4,.l (.own 23) (.int .u8))],[]⟩,[(.exit 0,⟨[(3,.d (.int .u64)),(4,.l (.own 23) (.int .u8))],[]⟩)]⟩)],[]⟩
abbrev LQ:List aC:=[.d (.int .i64)]
abbrev ac3:List aC:=[.d (.slice (.int .u8))]
@[irreducible] def AL (p:av R.T LQ):Option (av R.T ac3):=VR E R n false (XP n) (dn n) amg Tryz.f182 LQ (.int .u8) p
theorem azx (p:av R.T LQ)(x:av R.T ac3)(h:AL n p=some x):Pure E 182 (aF R LQ p) (.ay .sh (List.map (aP R (.int .u8)) x))/\wO E 182 (aF R LQ p) (dA R (.int .u8)) (List.map (aP R (.int .u8)) x):=by unfold AL at h;exact aiq bD (amf n) (eO n) h Tryz.func182 rfl rfl rfl rfl aA
def XQ:bT:=bK 182 ⟨LQ,[.d (.slice (.int .u8))],AL n,bn R ac3,true,false⟩ (XP n)
theorem amh:aZ E (XQ n):=aix (G:=AL n) (amf n) (azx n)
def ami:bC:=⟨[(3,⟨[0],[],⟨[(3,.l (.own 7) (.int .u8)),(4,.d (.int .i64))],[]⟩,[(.exit 0,⟨[(3,.l (.own 7) (.int .u8))],[]⟩)]⟩)],[]⟩
abbrev LU:List aC:=[.d (.slice (.int .i64))]
abbrev ac4:List aC:=[.d (.slice (.int .u8))]
@[irreducible] def Jn (p:av R.T LU):Option (av R.T ac4):=VR E R n false (XQ n) (dn n) ami Tryz.f135 LU (.int .u8) p
theorem azy (p:av R.T LU)(x:av R.T ac4)(h:Jn n p=some x):Pure E 135 (aF R LU p) (.ay .sh (List.map (aP R (.int .u8)) x))/\wO E 135 (aF R LU p) (dA R (.int .u8)) (List.map (aP R (.int .u8)) x):=by unfold Jn at h;exact aiq bD (amh n) (eO n) h Tryz.func135 rfl rfl rfl rfl aA
def ac5:bT:=bK 135 ⟨LU,[.d (.slice (.int .u8))],Jn n,bn R ac4,true,false⟩ (XQ n)
theorem amj:aZ E (ac5 n):=aix (G:=Jn n) (amh n) (azy n)
def azz:bC:=⟨[],[]⟩
abbrev Sg:List aC:=[.d .str]
abbrev LV:List aC:=[.d (.slice (.int .u8))]
@[irreducible] def LW :cK Sg LV:=bP E R n false (ac5 n) (dn n) azz Tryz.f183 Sg LV
theorem azA (p:av R.T Sg)(x:av R.T LV)(h:LW n p=some x):Pure E 183 (aF R Sg p) (bq (aF R LV x)):=by unfold LW at h;exact bR bD (amj n) (eO n) h Tryz.func183 rfl rfl rfl rfl aA
def XR:bT:=bK 183 ⟨Sg,LV,LW n,bn R LV,false,false⟩ (ac5 n)
theorem amk:aZ E (XR n):=bI (amj n) (azA n)
def aml:bC:=⟨[(3,⟨[0],[],⟨[(3,.l (.own 7) (.int .u8)),(4,.d (.int .i64))],[]⟩,[(.exit 0,⟨[(3,.l (.own 7) (.int .u8))],[]⟩)]⟩)],[]⟩
abbrev Si:List aC:=[.d (.slice .str)]
abbrev LX:List aC:=[.d (.slice (.int .u8))]
@[irreducible] def LY :cK Si LX:=bP E R n false (XR n) (dn n) aml Tryz.f136 Si LX
theorem azB (p:av R.T Si)(x:av R.T LX)(h:LY n p=some x):Pure E 136 (aF R Si p) (bq (aF R LX x)):=by unfold LY at h;exact bR bD (amk n) (eO n) h Tryz.func136 rfl rfl rfl rfl aA
def XT:bT:=bK 136 ⟨Si,LX,LY n,bn R LX,false,false⟩ (XR n)
theorem amm:aZ E (XT n):=bI (amk n) (azB n)
def amn:bC:=⟨[(6,⟨[1],[1],⟨[(3,.l (.own 28) (.int .i64)),(4,.l (.own 71) .str),(5,.d (.int .i64))],[]⟩,[(.exit 0,⟨[(3,.l (.own 28) (.int .i64)),(4,.l (.own 71) .str)],[]⟩)]⟩)],[]⟩
abbrev Sj:List aC:=[.d (.st 6)]
abbrev LZ:List aC:=[.d (.slice (.int .u8))]
@[irreducible] def F6 :cK Sj LZ:=bP E R n false (XT n) (dn n) amn Tryz.f87 Sj LZ
theorem azC (p:av R.T Sj)(x:av R.T LZ)(h:F6 n p=some x):Pure E 87 (aF R Sj p) (bq (aF R LZ x)):=by unfold F6 at h;exact bR bD (amm n) (eO n) h Tryz.func87 rfl rfl rfl rfl aA
def ac6:bT:=bK 87 ⟨Sj,LZ,F6 n,bn R LZ,false,false⟩ (XT n)
theorem amo:aZ E (ac6 n):=bI (amm n) (azC n)
def azD:bC:=⟨[],[]⟩
abbrev Sk:List aC:=[.d (.st 6),.d (.st 6)]
abbrev L6:List aC:=[.d .bool]
@[irreducible] def L8 :cK Sk L6:=bP E R n false (ac6 n) (dn n) azD Tryz.f41 Sk L6
theorem azE (p:av R.T Sk)(x:av R.T L6)(h:L8 n p=some x):Pure E 41 (aF R Sk p) (bq (aF R L6 x)):=by unfold L8 at h;exact bR bD (amo n) (eO n) h Tryz.func41 rfl rfl rfl rfl aA
def XU:bT:=bK 41 ⟨Sk,L6,L8 n,bn R L6,false,false⟩ (ac6 n)
theorem amq:aZ E (XU n):=bI (amo n) (azE n)
def amr:bC:=⟨[(4,⟨[0,1],[],⟨[(5,.d (.int .i64))],[]⟩,[(.exit 0,⟨[],[]⟩),(.ret,⟨[(4,.d .bool)],[]⟩)]⟩)],[]⟩
abbrev Sl:List aC:=[.d (.slice (.st 6)),.d (.slice (.st 6))]
abbrev L9:List aC:=[.d .bool]
@[irreducible] def Ma :cK Sl L9:=bP E R n false (XU n) (dn n) amr Tryz.f19 Sl L9
theorem azF (p:av R.T Sl)(x:av R.T L9)(h:Ma n p=some x):Pure E 19 (aF R Sl p) (bq (aF R L9 x)):=by unfold Ma at h;exact bR bD (amq n) (eO n) h Tryz.func19 rfl rfl rfl rfl aA
def XV:bT:=bK 19 ⟨Sl,L9,Ma n,bn R L9,false,false⟩ (XU n)
theorem ams:aZ E (XV n):=bI (amq n) (azF n)
def amt:bC:=⟨[(4,⟨[0,1],[],⟨[(5,.d (.int .i64))],[]⟩,[(.exit 0,⟨[],[]⟩),(.ret,⟨[(4,.d .bool)],[]⟩)]⟩)],[]⟩
abbrev Sm:List aC:=[.d (.slice (.st 10)),.d (.slice (.st 10))]
abbrev Mc:List aC:=[.d .bool]
@[irreducible] def Md :cK Sm Mc:=bP E R n false (XV n) (dn n) amt Tryz.f22 Sm Mc
theorem azG (p:av R.T Sm)(x:av R.T Mc)(h:Md n p=some x):Pure E 22 (aF R Sm p) (bq (aF R Mc x)):=by unfold Md at h;exact bR bD (ams n) (eO n) h Tryz.func22 rfl rfl rfl rfl aA
def amu:bT:=bK 22 ⟨Sm,Mc,Md n,bn R Mc,false,false⟩ (XV n)
theorem azH:aZ E (amu n):=bI (ams n) (azG n)
def azI:bC:=⟨[],[]⟩
abbrev XW:List aC:=[.d (.st 1),.d (.slice (.st 13)),.d (.st 4)]
abbrev XY:List aC:=[.d .bool]
@[irreducible] def XZ :cK XW XY:=bP E R n false (amu n) (dn n) azI Tryz.f3 XW XY
theorem azJ (p:av R.T XW)(x:av R.T XY)(h:XZ n p=some x):Pure E 3 (aF R XW p) (bq (aF R XY x)):=by unfold XZ at h;exact bR bD (azH n) (eO n) h Tryz.func3 rfl rfl rfl rfl aA
end Sh
