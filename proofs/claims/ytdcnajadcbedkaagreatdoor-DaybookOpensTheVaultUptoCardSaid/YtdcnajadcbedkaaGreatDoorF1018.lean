import Derived.Test.YtdcnajadcbedkaaGreatDoorF1014
set_option linter.all false
noncomputable section
open Go Go.Proofs aQ
namespace Sh
set_option maxRecDepth 100000
abbrev dn (a r:List bO):=aV R.T a->Option (aV R.T r)
abbrev tK (a:List bO)(o:List (Nat×iC))(r:List bO):=aV R.T a->lX R.T o->Option (aV R.T r×lX R.T o)
abbrev bK:=Nat->List (iy R)
abbrev aH:bO:=.d (.int .i64)
abbrev j5:bO:=.d (.st 0)
abbrev oF:bO:=.d (.slice (.st 0))
abbrev iA:=(1000000,iC.arr (.st 0))
abbrev aF6:=(1000000,iC.arr (.int .i64))
abbrev aI:=List bO
abbrev dA (i:Nat)(a r:List bO)(X:dn a r)(F:bK):bK:=kM i ⟨a,r,X,jY R r,false⟩ F
abbrev vZ (i:Nat)(a:List bO)(o:List (Nat×iC))(r:List bO)(X:tK a o r)(I:IR R):IR R:=FI i ⟨a,o,r,X⟩ I
theorem bX {n:Nat}{aj:Bool}{F:bK}{I:IR R}{A:bB}{i:Nat}{fn:Func}{a r:List bO}{X:dn a r}(hF:bg E F)(hI:ng E I)(hX:X=bP E R n aj F I A fn a r)(hf:E.P.funcs[i]? =some fn)(hok:(match fn.body with|some c=>decide (a.length<=fn.ntmps)&& iI fn.ntmps c&& vT E c|none=>false)=true)(ha:mD a=true:=by rfl)(hl:∀p,(bR R a p).length=a.length:=by intro p;rfl)(ho:E.aj i=aj:=by rfl)(hs:E.mP i=none:=by rfl):bg E (dA i a r X F):=qG hF fun p _ h=>Bc p8 hF hI ((congrFun hX p).symm.trans h) hf ha (hl p) ho hs hok
theorem xC {n:Nat}{aj:Bool}{F:bK}{I:IR R}{A:bB}{i:Nat}{fn:Func}{a r:List bO}{o:List (Nat×iC)}{X:tK a o r}(hF:bg E F)(hI:ng E I)(hX:X=qE E R n aj F I A fn a o r)(hf:E.P.funcs[i]? =some fn)(hok:(match fn.body with|some c=>decide (a.length<=fn.ntmps)&& iI fn.ntmps c&& vT E c&&(uH r&& wZ o&& Jf o)|none=>false)=true)(ho:E.aj i=aj:=by rfl)(hg:E.imp i=true:=by rfl):ng E (vZ i a o r X I):=Tt hI (fun p q _ _ h=>YW p8 hF hI ((congrFun (congrFun hX p) q).symm.trans h) hf ho hok) hg
def Zy (i:Nat)(a r:List bO)(F:aV R.T a->Option (aV R.T r)):Prop:=∀p x,F p=some x->Pure E i (bR R a p) (jW (bR R r x))
theorem okF {n:Nat}{aj:Bool}{F:Nat->List (iy R)}{A:bB}{i:Nat}{fn:Func}{a r:List bO}{p:aV R.T a}{x:aV R.T r}(hF:bg E F)(h:bP E R n aj F bn A fn a r p=some x)(hf:E.P.funcs[i]? =some fn)(hok:(match fn.body with|some c=>decide (a.length<=fn.ntmps)&& iI fn.ntmps c&& vT E c|none=>false)=true)(ha:mD a=true:=by rfl)(hl:(bR R a p).length=a.length:=by rfl)(ho:E.aj i=aj:=by rfl)(hs:E.mP i=none:=by rfl):Pure E i (bR R a p) (jW (bR R r x)):=Bc p8 hF dW h hf ha hl ho hs hok
variable (n:Nat)
def axa:bB:=⟨[],[]⟩
abbrev Zz:aI:=[]
abbrev ZA:aI:=[.sg [.a .u32 8,.a .u8 64,.i .u64]]
@[irreducible] def Ny:dn Zz ZA:=bP E R n false (Zh n) bn axa Tryz.f119 Zz ZA
def g_1:bK:=dA 119 Zz ZA (Ny n) (Zh n)
theorem axb:bg E (g_1 n):=bX (awj n) dW (by unfold Ny;rfl) Tryz.func119 av
def axc:bB:=⟨[],[]⟩
abbrev ZB:aI:=[.d (.int .u32),aH]
abbrev ZC:aI:=[.d (.int .u32)]
@[irreducible] def yN:dn ZB ZC:=bP E R n false (g_1 n) bn axc Tryz.f216 ZB ZC
def g_2:bK:=dA 216 ZB ZC (yN n) (g_1 n)
theorem axd:bg E (g_2 n):=bX (axb n) dW (by unfold yN;rfl) Tryz.func216 av
def ZE:bB:=⟨[(3,⟨[0,2,3],[2],⟨[(11,aH)],[(3,.sg [.a .u32 64])]⟩,[(.exit 0,⟨[],[(3,.sg [.a .u32 64])]⟩)]⟩),
 (7,⟨[0,2,3,4,11,22,23],[2],⟨[(24,aH)],[(3,.sg [.a .u32 64])]⟩,[(.exit 2,⟨[],[(3,.sg [.a .u32 64])]⟩)]⟩)],[]⟩
abbrev ZF:aI:=[.d (.slice (.int .u8))]
abbrev ZG:aI:=[.sg [.a .u32 64]]
@[irreducible] def Nz:dn ZF ZG:=bP E R n false (g_2 n) bn ZE Tryz.f198 ZF ZG
def ZH:bK:=dA 198 ZF ZG (Nz n) (g_2 n)
theorem axe:bg E (ZH n):=bX (axd n) dW (by unfold Nz;rfl) Tryz.func198 av
def axf:bB:=⟨[],[]⟩
abbrev ZI:aI:=[.d (.int .u32),aH,aH,aH]
abbrev ZJ:aI:=[.d (.int .u32)]
@[irreducible] def JA:dn ZI ZJ:=bP E R n false (ZH n) bn axf Tryz.f199 ZI ZJ
def NA:bK:=dA 199 ZI ZJ (JA n) (ZH n)
theorem axg:bg E (NA n):=bX (axe n) dW (by unfold JA;rfl) Tryz.func199 av
def ZK:bB:=⟨[(4,⟨[2,4,5,6,7,21],[2,4,5],⟨[(22,aH)],[(6,.sg [.a .u32 4]),(7,.sg [.a .u32 4])]⟩,[(.exit 0,⟨[],[(6,.sg [.a .u32 4]),(7,.sg [.a .u32 4])]⟩)]⟩),
 (12,⟨[2,4,6,7],[4,6,7],⟨[(94,aH)],[(2,.sg [.a .u32 8])]⟩,[(.exit 2,⟨[],[(2,.sg [.a .u32 8])]⟩)]⟩)],[]⟩
abbrev ZL:aI:=[.sg [.a .u32 8],.d (.slice (.int .u8))]
abbrev ZM:aI:=[.sg [.a .u32 8]]
@[irreducible] def NC:dn ZL ZM:=bP E R n false (NA n) bn ZK Tryz.f169 ZL ZM
def TS:bK:=dA 169 ZL ZM (NC n) (NA n)
theorem axh:bg E (TS n):=bX (axg n) dW (by unfold NC;rfl) Tryz.func169 av
def akZ:bB:=⟨[(1,⟨[2,4],[4],⟨[(1,.d .str)],[(2,.sg [.a .u32 8,.a .u8 64,.i .u64])]⟩,[(.exit 0,⟨[],[(2,.sg [.a .u32 8,.a .u8 64,.i .u64])]⟩)]⟩)],[]⟩
abbrev ZN:aI:=[.sg [.a .u32 8,.a .u8 64,.i .u64],.d .str]
abbrev ZO:aI:=[.sg [.a .u32 8,.a .u8 64,.i .u64]]
@[irreducible] def Dp:dn ZN ZO:=bP E R n false (TS n) bn akZ Tryz.f120 ZN ZO
def TT:bK:=dA 120 ZN ZO (Dp n) (TS n)
theorem ak0:bg E (TT n):=bX (axh n) dW (by unfold Dp;rfl) Tryz.func120 av
def ak1:bB:=⟨[(3,⟨[],[],⟨[(3,.d (.int .u64)),(4,.l (.own 21) (.int .u8))],[]⟩,[(.exit 0,⟨[(3,.d (.int .u64)),(4,.l (.own 21) (.int .u8))],[]⟩)]⟩)],[]⟩
abbrev JB:aI:=[aH]
abbrev ZP:aI:=[.d (.slice (.int .u8))]
@[irreducible] def yO (p:aV R.T JB):Option (aV R.T ZP):=CP E R n false (TT n) bn ak1 Tryz.f90 JB (.int .u8) p
theorem axi (p:aV R.T JB)(x:aV R.T ZP)(h:yO n p=some x):Pure E 90 (bR R JB p) (.ak .sh (List.map (aU R (.int .u8)) x))/\oM E 90 (bR R JB p) (dL R (.int .u8)) (List.map (aU R (.int .u8)) x):=by unfold yO at h;exact Je p8 (ak0 n) dW h Tryz.func90 rfl rfl rfl rfl av
def ZQ:bK:=kM 90 ⟨JB,[.d (.slice (.int .u8))],yO n,jY R ZP,true⟩ (TT n)
theorem axj:bg E (ZQ n):=Jg (G:=yO n) (ak0 n) (axi n)
def axk:bB:=⟨[],[]⟩
abbrev ZR:aI:=[.d .str]
abbrev ZT:aI:=[.d (.slice (.int .u8))]
@[irreducible] def JC:dn ZR ZT:=bP E R n false (ZQ n) bn axk Tryz.f121 ZR ZT
def JD:bK:=dA 121 ZR ZT (JC n) (ZQ n)
theorem axl:bg E (JD n):=bX (axj n) dW (by unfold JC;rfl) Tryz.func121 av
def TU:bB:=⟨[(3,⟨[1,2,3],[1,2],⟨[(4,.l (.own 22) (.int .u8))],[]⟩,[(.exit 0,⟨[(4,.l (.own 22) (.int .u8))],[]⟩)]⟩),
 (6,⟨[1,2,3],[1,2],⟨[(4,.l (.own 22) (.int .u8)),(23,aH)],[]⟩,[(.exit 2,⟨[(4,.l (.own 22) (.int .u8))],[]⟩)]⟩),
 (13,⟨[1,2,6],[1,2],⟨[(40,aH)],[(6,.sg [.a .u8 32])]⟩,[(.exit 4,⟨[],[(6,.sg [.a .u8 32])]⟩)]⟩)],[]⟩
abbrev ZU:aI:=[.sg [.a .u32 8,.a .u8 64,.i .u64]]
abbrev ZV:aI:=[.sg [.a .u8 32]]
@[irreducible] def ND:dn ZU ZV:=bP E R n false (JD n) bn TU Tryz.f122 ZU ZV
def TV:bK:=dA 122 ZU ZV (ND n) (JD n)
theorem ak2:bg E (TV n):=bX (axl n) dW (by unfold ND;rfl) Tryz.func122 av
def ak3:bB:=⟨[(3,⟨[4,5,15,16],[4],⟨[(17,aH)],[(5,.sg [.a .u32 8,.a .u8 64,.i .u64])]⟩,[(.exit 0,⟨[],[(5,.sg [.a .u32 8,.a .u8 64,.i .u64])]⟩)]⟩)],[]⟩
abbrev TW:aI:=[aH,.d (.slice .str)]
abbrev NG:aI:=[j5]
@[irreducible] def Dq:dn TW NG:=bP E R n false (TV n) bn ak3 Tryz.f71 TW NG
theorem ak4:Zy 71 TW NG (Dq n):=fun _ _ h=>by unfold Dq at h;exact okF (ak2 n) h Tryz.func71 av
def TY:bK:=kM 71 ⟨TW,NG,Dq n,jY R NG,false⟩ (TV n)
theorem ak5:bg E (TY n):=qG (ak2 n) (ak4 n)
def ak6:bB:=⟨[(3,⟨[1,11,12],[],⟨[(5,.l (.own 10) (.int .u8)),(13,aH)],[]⟩,[(.exit 0,⟨[(5,.l (.own 10) (.int .u8))],[]⟩)]⟩)],[]⟩
abbrev JE:aI:=[.d (.slice (.int .i64)),.fn 90 [] []]
abbrev ZW:aI:=[.d (.slice (.int .u8))]
@[irreducible] def JF (p:aV R.T JE):Option (aV R.T ZW):=CP E R n false (TY n) bn ak6 Tryz.f117 JE (.int .u8) p
theorem axn (p:aV R.T JE)(x:aV R.T ZW)(h:JF n p=some x):Pure E 117 (bR R JE p) (.ak .sh (List.map (aU R (.int .u8)) x))/\oM E 117 (bR R JE p) (dL R (.int .u8)) (List.map (aU R (.int .u8)) x):=by unfold JF at h;exact Je p8 (ak5 n) dW h Tryz.func117 rfl rfl rfl rfl av
def ZX:bK:=kM 117 ⟨JE,[.d (.slice (.int .u8))],JF n,jY R ZW,true⟩ (TY n)
theorem ak7:bg E (ZX n):=Jg (G:=JF n) (ak5 n) (axn n)
def axo:bB:=⟨[],[]⟩
abbrev JG:aI:=[.d (.slice (.int .i64))]
abbrev ZY:aI:=[.d (.slice (.int .u8))]
@[irreducible] def FU (p:aV R.T JG):Option (aV R.T ZY):=CP E R n false (ZX n) bn axo Tryz.f69 JG (.int .u8) p
theorem axp (p:aV R.T JG)(x:aV R.T ZY)(h:FU n p=some x):Pure E 69 (bR R JG p) (.ak .sh (List.map (aU R (.int .u8)) x))/\oM E 69 (bR R JG p) (dL R (.int .u8)) (List.map (aU R (.int .u8)) x):=by unfold FU at h;exact Je p8 (ak7 n) dW h Tryz.func69 rfl rfl rfl rfl av
def T9:bK:=kM 69 ⟨JG,[.d (.slice (.int .u8))],FU n,jY R ZY,true⟩ (ZX n)
theorem ak8:bg E (T9 n):=Jg (G:=FU n) (ak7 n) (axp n)
def ak9:bB:=⟨[(5,⟨[],[],⟨[(3,.d (.int .u64)),(4,.l (.own 23) (.int .u8))],[]⟩,[(.exit 0,⟨[(3,.d (.int .u64)),(4,.l (.own 23) (.int .u8))],[]⟩)]⟩)],[]⟩
abbrev JH:aI:=[aH]
abbrev Z0:aI:=[.d (.slice (.int .u8))]
@[irreducible] def yP (p:aV R.T JH):Option (aV R.T Z0):=CP E R n false (T9 n) bn ak9 Tryz.f93 JH (.int .u8) p
theorem axq (p:aV R.T JH)(x:aV R.T Z0)(h:yP n p=some x):Pure E 93 (bR R JH p) (.ak .sh (List.map (aU R (.int .u8)) x))/\oM E 93 (bR R JH p) (dL R (.int .u8)) (List.map (aU R (.int .u8)) x):=by unfold yP at h;exact Je p8 (ak8 n) dW h Tryz.func93 rfl rfl rfl rfl av
def Z4:bK:=kM 93 ⟨JH,[.d (.slice (.int .u8))],yP n,jY R Z0,true⟩ (T9 n)
theorem axr:bg E (Z4 n):=Jg (G:=yP n) (ak8 n) (axq n)
def axt:bB:=⟨[],[]⟩
abbrev Z5:aI:=[.d .str]
abbrev Z6:aI:=[.d (.slice (.int .u8))]
@[irreducible] def JI:dn Z5 Z6:=bP E R n false (Z4 n) bn axt Tryz.f171 Z5 Z6
def Ua:bK:=dA 171 Z5 Z6 (JI n) (Z4 n)
theorem axu:bg E (Ua n):=bX (axr n) dW (by unfold JI;rfl) Tryz.func171 av
def ala:bB:=⟨[(3,⟨[1],[],⟨[(5,.l (.own 22) (.int .u8)),(6,aH)],[]⟩,[(.exit 0,⟨[(5,.l (.own 22) (.int .u8))],[]⟩)]⟩)],[]⟩
abbrev Z7:aI:=[aH,.d (.slice .str)]
abbrev Z8:aI:=[.d (.slice (.int .u8))]
@[irreducible] def NH:dn Z7 Z8:=bP E R n false (Ua n) bn ala Tryz.f124 Z7 Z8
def NI:bK:=dA 124 Z7 Z8 (NH n) (Ua n)
theorem axv:bg E (NI n):=bX (axu n) dW (by unfold NH;rfl) Tryz.func124 av
def Z9:bB:=⟨[(3,⟨[0],[],⟨[(3,.l (.own 8) (.int .u8))],[]⟩,[(.exit 0,⟨[(3,.l (.own 8) (.int .u8))],[]⟩)]⟩),
 (7,⟨[4],[],⟨[(3,.l (.own 8) (.int .u8)),(5,aH)],[]⟩,[(.exit 2,⟨[(3,.l (.own 8) (.int .u8))],[]⟩)]⟩)],[]⟩
abbrev aac:aI:=[.d (.slice (.int .u8))]
abbrev aad:aI:=[.d (.slice (.int .u8))]
@[irreducible] def NJ:dn aac aad:=bP E R n false (NI n) bn Z9 Tryz.f200 aac aad
def aae:bK:=dA 200 aac aad (NJ n) (NI n)
theorem axw:bg E (aae n):=bX (axv n) dW (by unfold NJ;rfl) Tryz.func200 av
def axx:bB:=⟨[],[]⟩
abbrev aaf:aI:=[.d (.int .u32),aH]
abbrev aag:aI:=[.d (.int .u32)]
@[irreducible] def uQ:dn aaf aag:=bP E R n false (aae n) bn axx Tryz.f202 aaf aag
def NK:bK:=dA 202 aaf aag (uQ n) (aae n)
theorem axy:bg E (NK n):=bX (axw n) dW (by unfold uQ;rfl) Tryz.func202 av
def aah:bB:=⟨[(3,⟨[0,2,3],[2],⟨[(4,aH)],[(3,.sg [.a .u32 64])]⟩,[(.exit 0,⟨[],[(3,.sg [.a .u32 64])]⟩)]⟩),
 (7,⟨[2,3],[2],⟨[(5,aH)],[(3,.sg [.a .u32 64])]⟩,[(.exit 2,⟨[],[(3,.sg [.a .u32 64])]⟩)]⟩)],[]⟩
abbrev aai:aI:=[.d (.slice (.int .u8))]
abbrev aaj:aI:=[.sg [.a .u32 64]]
@[irreducible] def NM:dn aai aaj:=bP E R n false (NK n) bn aah Tryz.f201 aai aaj
def FV:bK:=dA 201 aai aaj (NM n) (NK n)
theorem axz:bg E (FV n):=bX (axy n) dW (by unfold NM;rfl) Tryz.func201 av
def NP:bB:=⟨[(4,⟨[2,3,4],[2],⟨[(5,aH)],[(3,.sg [.a .u32 8])]⟩,[(.exit 0,⟨[],[(3,.sg [.a .u32 8])]⟩)]⟩),
 (9,⟨[2,3,4,5,6,7],[2,3,6],⟨[(8,aH)],[(7,.sg [.a .u32 8])]⟩,[(.exit 2,⟨[],[(7,.sg [.a .u32 8])]⟩)]⟩),
 (15,⟨[2,3,4,5,7],[2,7],⟨[(11,aH)],[(3,.sg [.a .u32 8])]⟩,[(.exit 4,⟨[],[(3,.sg [.a .u32 8])]⟩)]⟩),
 (20,⟨[2,3,12],[2,3],⟨[(13,aH)],[(12,.sg [.a .u8 32])]⟩,[(.exit 6,⟨[],[(12,.sg [.a .u8 32])]⟩)]⟩)],[]⟩
abbrev aak:aI:=[.d (.slice (.int .u8))]
abbrev aal:aI:=[.sg [.a .u8 32]]
@[irreducible] def NQ:dn aak aal:=bP E R n false (FV n) bn NP Tryz.f170 aak aal
def aam:bK:=dA 170 aak aal (NQ n) (FV n)
theorem axA:bg E (aam n):=bX (axz n) dW (by unfold NQ;rfl) Tryz.func170 av
def axB:bB:=⟨[],[]⟩
abbrev aan:aI:=[.d (.slice (.int .u8))]
abbrev aao:aI:=[j5]
@[irreducible] def NR:dn aan aao:=bP E R n false (aam n) bn axB Tryz.f123 aan aao
def aap:bK:=dA 123 aan aao (NR n) (aam n)
theorem axC:bg E (aap n):=bX (axA n) dW (by unfold NR;rfl) Tryz.func123 av
def axD:bB:=⟨[],[]⟩
abbrev aaq:aI:=[aH,.d (.slice .str)]
abbrev aar:aI:=[j5]
@[irreducible] def FW:dn aaq aar:=bP E R n false (aap n) bn axD Tryz.f72 aaq aar
def Ub:bK:=dA 72 aaq aar (FW n) (aap n)
theorem alb:bg E (Ub n):=bX (axC n) dW (by unfold FW;rfl) Tryz.func72 av
def alc:bB:=⟨[(3,⟨[0],[],⟨[(3,.l (.own 7) (.int .u8)),(4,aH)],[]⟩,[(.exit 0,⟨[(3,.l (.own 7) (.int .u8))],[]⟩)]⟩)],[]⟩
abbrev JJ:aI:=[.d (.slice (.int .i64))]
abbrev aas:aI:=[.d (.slice (.int .u8))]
@[irreducible] def FX (p:aV R.T JJ):Option (aV R.T aas):=CP E R n false (Ub n) bn alc Tryz.f73 JJ (.int .u8) p
theorem axE (p:aV R.T JJ)(x:aV R.T aas)(h:FX n p=some x):Pure E 73 (bR R JJ p) (.ak .sh (List.map (aU R (.int .u8)) x))/\oM E 73 (bR R JJ p) (dL R (.int .u8)) (List.map (aU R (.int .u8)) x):=by unfold FX at h;exact Je p8 (alb n) dW h Tryz.func73 rfl rfl rfl rfl av
def aat:bK:=kM 73 ⟨JJ,[.d (.slice (.int .u8))],FX n,jY R aas,true⟩ (Ub n)
theorem ald:bg E (aat n):=Jg (G:=FX n) (alb n) (axE n)
def axF:bB:=⟨[],[]⟩
abbrev Uc:aI:=[j5,j5]
abbrev NS:aI:=[j5]
@[irreducible] def JK:dn Uc NS:=bP E R n false (aat n) bn axF Tryz.f141 Uc NS
theorem ale:Zy 141 Uc NS (JK n):=fun _ _ h=>by unfold JK at h;exact okF (ald n) h Tryz.func141 av
def aau:bK:=kM 141 ⟨Uc,NS,JK n,jY R NS,false⟩ (aat n)
theorem axG:bg E (aau n):=qG (ald n) (ale n)
def axH:bB:=⟨[],[]⟩
abbrev aav:aI:=[.d (.int .u32)]
abbrev aaw:aI:=[aH]
@[irreducible] def alf:dn aav aaw:=bP E R n false (aau n) bn axH Tryz.f185 aav aaw
def aax:bK:=dA 185 aav aaw (alf n) (aau n)
theorem axI:bg E (aax n):=bX (axG n) dW (by unfold alf;rfl) Tryz.func185 av
def axJ:bB:=⟨[],[]⟩
abbrev aay:aI:=[.d (.int .u64)]
abbrev aaz:aI:=[aH]
@[irreducible] def Dr:dn aay aaz:=bP E R n false (aax n) bn axJ Tryz.f186 aay aaz
def aaA:bK:=dA 186 aay aaz (Dr n) (aax n)
theorem axK:bg E (aaA n):=bX (axI n) dW (by unfold Dr;rfl) Tryz.func186 av
def axL:bB:=⟨[],[]⟩
abbrev aaB:aI:=[.d (.int .u64)]
abbrev aaC:aI:=[aH]
@[irreducible] def Bp:dn aaB aaC:=bP E R n false (aaA n) bn axL Tryz.f139 aaB aaC
def aaD:bK:=dA 139 aaB aaC (Bp n) (aaA n)
theorem alg:bg E (aaD n):=bX (axK n) dW (by unfold Bp;rfl) Tryz.func139 av
def axM:bB:=⟨[],[]⟩
abbrev Ud:aI:=[aH]
abbrev NT:aI:=[aH]
@[irreducible] def zT:dn Ud NT:=bP E R n false (aaD n) bn axM Tryz.f132 Ud NT
theorem aaE:Zy 132 Ud NT (zT n):=fun _ _ h=>by unfold zT at h;exact okF (alg n) h Tryz.func132 av
def aaF:bK:=kM 132 ⟨Ud,NT,zT n,jY R NT,false⟩ (aaD n)
theorem axN:bg E (aaF n):=qG (alg n) (aaE n)
def axO:bB:=⟨[],[]⟩
abbrev aaG:aI:=[j5,j5]
abbrev aaH:aI:=[j5]
@[irreducible] def JL:dn aaG aaH:=bP E R n false (aaF n) bn axO Tryz.f144 aaG aaH
def Ue:bK:=dA 144 aaG aaH (JL n) (aaF n)
theorem axP:bg E (Ue n):=bX (axN n) dW (by unfold JL;rfl) Tryz.func144 av
end Sh
