import Derived.Test.YtdcnajadcbedkaaGreatDoorF914
set_option linter.all false
noncomputable section
open Go Go.Proofs aR
namespace Sh
set_option maxRecDepth 100000
abbrev bZ (a r:List bQ):=aT R.T a->Option (aT R.T r)
abbrev tu (a:List bQ)(o:List (Nat×iD))(r:List bQ):=aT R.T a->lW R.T o->Option (aT R.T r×lW R.T o)
abbrev bF:=Nat->List (ig R)
abbrev aJ:bQ:=.d (.int .i64)
abbrev jl:bQ:=.d (.st 0)
abbrev lF:bQ:=.d (.slice (.st 0))
abbrev iB:=(1000000,iD.arr (.st 0))
abbrev aHm:=(1000000,iD.arr (.int .i64))
abbrev aI:=List bQ
abbrev cZ (i:Nat)(a r:List bQ)(X:bZ a r)(F:bF):bF:=kE i ⟨a,r,X,jC R r,false⟩ F
abbrev vV (i:Nat)(a:List bQ)(o:List (Nat×iD))(r:List bQ)(X:tu a o r)(I:IR R):IR R:=FW i ⟨a,o,r,X⟩ I
theorem bO {n:Nat}{aj:Bool}{F:bF}{I:IR R}{A:bq}{i:Nat}{fn:Func}{a r:List bQ}{X:bZ a r}(hF:bg E F)(hI:mZ E I)(hX:X=bI E R n aj F I A fn a r)(hf:E.P.funcs[i]? =some fn)(hok:(match fn.body with|some c=>decide (a.length<=fn.ntmps)&& iI fn.ntmps c&& vQ E c|none=>false)=true)(ha:mD a=true:=by rfl)(hl:∀p,(bM R a p).length=a.length:=by intro p;rfl)(ho:E.aj i=aj:=by rfl)(hs:E.mO i=none:=by rfl):bg E (cZ i a r X F):=pG hF fun p _ h=>yM oK hF hI ((congrFun hX p).symm.trans h) hf ha (hl p) ho hs hok
theorem xG {n:Nat}{aj:Bool}{F:bF}{I:IR R}{A:bq}{i:Nat}{fn:Func}{a r:List bQ}{o:List (Nat×iD)}{X:tu a o r}(hF:bg E F)(hI:mZ E I)(hX:X=qz E R n aj F I A fn a o r)(hf:E.P.funcs[i]? =some fn)(hok:(match fn.body with|some c=>decide (a.length<=fn.ntmps)&& iI fn.ntmps c&& vQ E c&&(uw r&& xq o&& Jy o)|none=>false)=true)(ho:E.aj i=aj:=by rfl)(hg:E.imp i=true:=by rfl):mZ E (vV i a o r X I):=TL hI (fun p q _ _ h=>Zk oK hF hI ((congrFun (congrFun hX p) q).symm.trans h) hf ho hok) hg
def Z0 (i:Nat)(a r:List bQ)(F:aT R.T a->Option (aT R.T r)):Prop:=∀p x,F p=some x->Pure E i (bM R a p) (jy (bM R r x))
theorem okF {n:Nat}{aj:Bool}{F:Nat->List (ig R)}{A:bq}{i:Nat}{fn:Func}{a r:List bQ}{p:aT R.T a}{x:aT R.T r}(hF:bg E F)(h:bI E R n aj F aX A fn a r p=some x)(hf:E.P.funcs[i]? =some fn)(hok:(match fn.body with|some c=>decide (a.length<=fn.ntmps)&& iI fn.ntmps c&& vQ E c|none=>false)=true)(ha:mD a=true:=by rfl)(hl:(bM R a p).length=a.length:=by rfl)(ho:E.aj i=aj:=by rfl)(hs:E.mO i=none:=by rfl):Pure E i (bM R a p) (jy (bM R r x)):=yM oK hF bY h hf ha hl ho hs hok
variable (n:Nat)
def ax1:bq:=⟨[],[]⟩
abbrev Z4:aI:=[]
abbrev Z5:aI:=[.sg [.a .u32 8,.a .u8 64,.i .u64]]
@[irreducible] def NS:bZ Z4 Z5:=bI E R n false (ZI n) aX ax1 Tryz.f119 Z4 Z5
def g_1:bF:=cZ 119 Z4 Z5 (NS n) (ZI n)
theorem ax2:bg E (g_1 n):=bO (axb n) bY (by unfold NS;rfl) Tryz.func119 av
def ax3:bq:=⟨[],[]⟩
abbrev Z6:aI:=[.d (.int .u32),aJ]
abbrev Z7:aI:=[.d (.int .u32)]
@[irreducible] def yQ:bZ Z6 Z7:=bI E R n false (g_1 n) aX ax3 Tryz.f216 Z6 Z7
def g_2:bF:=cZ 216 Z6 Z7 (yQ n) (g_1 n)
theorem ax4:bg E (g_2 n):=bO (ax2 n) bY (by unfold yQ;rfl) Tryz.func216 av
def Z8:bq:=⟨[(3,⟨[0,2,3],[2],⟨[(11,aJ)],[(3,.sg [.a .u32 64])]⟩,[(.exit 0,⟨[],[(3,.sg [.a .u32 64])]⟩)]⟩),
 (7,⟨[0,2,3,4,11,22,23],[2],⟨[(24,aJ)],[(3,.sg [.a .u32 64])]⟩,[(.exit 2,⟨[],[(3,.sg [.a .u32 64])]⟩)]⟩)],[]⟩
abbrev Z9:aI:=[.d (.slice (.int .u8))]
abbrev aac:aI:=[.sg [.a .u32 64]]
@[irreducible] def NT:bZ Z9 aac:=bI E R n false (g_2 n) aX Z8 Tryz.f198 Z9 aac
def aad:bF:=cZ 198 Z9 aac (NT n) (g_2 n)
theorem ax5:bg E (aad n):=bO (ax4 n) bY (by unfold NT;rfl) Tryz.func198 av
def ax6:bq:=⟨[],[]⟩
abbrev aae:aI:=[.d (.int .u32),aJ,aJ,aJ]
abbrev aaf:aI:=[.d (.int .u32)]
@[irreducible] def JV:bZ aae aaf:=bI E R n false (aad n) aX ax6 Tryz.f199 aae aaf
def NU:bF:=cZ 199 aae aaf (JV n) (aad n)
theorem ax7:bg E (NU n):=bO (ax5 n) bY (by unfold JV;rfl) Tryz.func199 av
def aag:bq:=⟨[(4,⟨[2,4,5,6,7,21],[2,4,5],⟨[(22,aJ)],[(6,.sg [.a .u32 4]),(7,.sg [.a .u32 4])]⟩,[(.exit 0,⟨[],[(6,.sg [.a .u32 4]),(7,.sg [.a .u32 4])]⟩)]⟩),
 (12,⟨[2,4,6,7],[4,6,7],⟨[(94,aJ)],[(2,.sg [.a .u32 8])]⟩,[(.exit 2,⟨[],[(2,.sg [.a .u32 8])]⟩)]⟩)],[]⟩
abbrev aah:aI:=[.sg [.a .u32 8],.d (.slice (.int .u8))]
abbrev aai:aI:=[.sg [.a .u32 8]]
@[irreducible] def NV:bZ aah aai:=bI E R n false (NU n) aX aag Tryz.f169 aah aai
def Uh:bF:=cZ 169 aah aai (NV n) (NU n)
theorem ax8:bg E (Uh n):=bO (ax7 n) bY (by unfold NV;rfl) Tryz.func169 av
def alQ:bq:=⟨[(1,⟨[2,4],[4],⟨[(1,.d .str)],[(2,.sg [.a .u32 8,.a .u8 64,.i .u64])]⟩,[(.exit 0,⟨[],[(2,.sg [.a .u32 8,.a .u8 64,.i .u64])]⟩)]⟩)],[]⟩
abbrev aaj:aI:=[.sg [.a .u32 8,.a .u8 64,.i .u64],.d .str]
abbrev aak:aI:=[.sg [.a .u32 8,.a .u8 64,.i .u64]]
@[irreducible] def Dy:bZ aaj aak:=bI E R n false (Uh n) aX alQ Tryz.f120 aaj aak
def Ui:bF:=cZ 120 aaj aak (Dy n) (Uh n)
theorem alR:bg E (Ui n):=bO (ax8 n) bY (by unfold Dy;rfl) Tryz.func120 av
def alS:bq:=⟨[(3,⟨[],[],⟨[(3,.d (.int .u64)),(4,.l (.own 21) (.int .u8))],[]⟩,[(.exit 0,⟨[(3,.d (.int .u64)),(4,.l (.own 21) (.int .u8))],[]⟩)]⟩)],[]⟩
abbrev JW:aI:=[aJ]
abbrev aal:aI:=[.d (.slice (.int .u8))]
@[irreducible] def yR (p:aT R.T JW):Option (aT R.T aal):=C8 E R n false (Ui n) aX alS Tryz.f90 JW (.int .u8) p
theorem ax9 (p:aT R.T JW)(x:aT R.T aal)(h:yR n p=some x):Pure E 90 (bM R JW p) (.ak .sh (List.map (aV R (.int .u8)) x))/\oH E 90 (bM R JW p) (dN R (.int .u8)) (List.map (aV R (.int .u8)) x):=by unfold yR at h;exact Jw oK (alR n) bY h Tryz.func90 rfl rfl rfl rfl av
def aam:bF:=kE 90 ⟨JW,[.d (.slice (.int .u8))],yR n,jC R aal,true⟩ (Ui n)
theorem aya:bg E (aam n):=Jz (G:=yR n) (alR n) (ax9 n)
def ayb:bq:=⟨[],[]⟩
abbrev aan:aI:=[.d .str]
abbrev aao:aI:=[.d (.slice (.int .u8))]
@[irreducible] def JX:bZ aan aao:=bI E R n false (aam n) aX ayb Tryz.f121 aan aao
def JY:bF:=cZ 121 aan aao (JX n) (aam n)
theorem ayc:bg E (JY n):=bO (aya n) bY (by unfold JX;rfl) Tryz.func121 av
def Uj:bq:=⟨[(3,⟨[1,2,3],[1,2],⟨[(4,.l (.own 22) (.int .u8))],[]⟩,[(.exit 0,⟨[(4,.l (.own 22) (.int .u8))],[]⟩)]⟩),
 (6,⟨[1,2,3],[1,2],⟨[(4,.l (.own 22) (.int .u8)),(23,aJ)],[]⟩,[(.exit 2,⟨[(4,.l (.own 22) (.int .u8))],[]⟩)]⟩),
 (13,⟨[1,2,6],[1,2],⟨[(40,aJ)],[(6,.sg [.a .u8 32])]⟩,[(.exit 4,⟨[],[(6,.sg [.a .u8 32])]⟩)]⟩)],[]⟩
abbrev aap:aI:=[.sg [.a .u32 8,.a .u8 64,.i .u64]]
abbrev aaq:aI:=[.sg [.a .u8 32]]
@[irreducible] def NW:bZ aap aaq:=bI E R n false (JY n) aX Uj Tryz.f122 aap aaq
def Uk:bF:=cZ 122 aap aaq (NW n) (JY n)
theorem alT:bg E (Uk n):=bO (ayc n) bY (by unfold NW;rfl) Tryz.func122 av
def alU:bq:=⟨[(3,⟨[4,5,15,16],[4],⟨[(17,aJ)],[(5,.sg [.a .u32 8,.a .u8 64,.i .u64])]⟩,[(.exit 0,⟨[],[(5,.sg [.a .u32 8,.a .u8 64,.i .u64])]⟩)]⟩)],[]⟩
abbrev Ul:aI:=[aJ,.d (.slice .str)]
abbrev NY:aI:=[jl]
@[irreducible] def Dz:bZ Ul NY:=bI E R n false (Uk n) aX alU Tryz.f71 Ul NY
theorem alV:Z0 71 Ul NY (Dz n):=fun _ _ h=>by unfold Dz at h;exact okF (alT n) h Tryz.func71 av
def Um:bF:=kE 71 ⟨Ul,NY,Dz n,jC R NY,false⟩ (Uk n)
theorem alW:bg E (Um n):=pG (alT n) (alV n)
def alX:bq:=⟨[(3,⟨[1,11,12],[],⟨[(5,.l (.own 10) (.int .u8)),(13,aJ)],[]⟩,[(.exit 0,⟨[(5,.l (.own 10) (.int .u8))],[]⟩)]⟩)],[]⟩
abbrev JZ:aI:=[.d (.slice (.int .i64)),.fn 90 [] []]
abbrev aar:aI:=[.d (.slice (.int .u8))]
@[irreducible] def J2 (p:aT R.T JZ):Option (aT R.T aar):=C8 E R n false (Um n) aX alX Tryz.f117 JZ (.int .u8) p
theorem ayd (p:aT R.T JZ)(x:aT R.T aar)(h:J2 n p=some x):Pure E 117 (bM R JZ p) (.ak .sh (List.map (aV R (.int .u8)) x))/\oH E 117 (bM R JZ p) (dN R (.int .u8)) (List.map (aV R (.int .u8)) x):=by unfold J2 at h;exact Jw oK (alW n) bY h Tryz.func117 rfl rfl rfl rfl av
def aas:bF:=kE 117 ⟨JZ,[.d (.slice (.int .u8))],J2 n,jC R aar,true⟩ (Um n)
theorem alY:bg E (aas n):=Jz (G:=J2 n) (alW n) (ayd n)
def aye:bq:=⟨[],[]⟩
abbrev J3:aI:=[.d (.slice (.int .i64))]
abbrev aat:aI:=[.d (.slice (.int .u8))]
@[irreducible] def Gc (p:aT R.T J3):Option (aT R.T aat):=C8 E R n false (aas n) aX aye Tryz.f69 J3 (.int .u8) p
theorem ayf (p:aT R.T J3)(x:aT R.T aat)(h:Gc n p=some x):Pure E 69 (bM R J3 p) (.ak .sh (List.map (aV R (.int .u8)) x))/\oH E 69 (bM R J3 p) (dN R (.int .u8)) (List.map (aV R (.int .u8)) x):=by unfold Gc at h;exact Jw oK (alY n) bY h Tryz.func69 rfl rfl rfl rfl av
def Un:bF:=kE 69 ⟨J3,[.d (.slice (.int .u8))],Gc n,jC R aat,true⟩ (aas n)
theorem alZ:bg E (Un n):=Jz (G:=Gc n) (alY n) (ayf n)
def al0:bq:=⟨[(5,⟨[],[],⟨[(3,.d (.int .u64)),(4,.l (.own 23) (.int .u8))],[]⟩,[(.exit 0,⟨[(3,.d (.int .u64)),(4,.l (.own 23) (.int .u8))],[]⟩)]⟩)],[]⟩
abbrev J4:aI:=[aJ]
abbrev aau:aI:=[.d (.slice (.int .u8))]
@[irreducible] def QR (p:aT R.T J4):Option (aT R.T aau):=C8 E R n false (Un n) aX al0 Tryz.f93 J4 (.int .u8) p
theorem ayg (p:aT R.T J4)(x:aT R.T aau)(h:QR n p=some x):Pure E 93 (bM R J4 p) (.ak .sh (List.map (aV R (.int .u8)) x))/\oH E 93 (bM R J4 p) (dN R (.int .u8)) (List.map (aV R (.int .u8)) x):=by unfold QR at h;exact Jw oK (alZ n) bY h Tryz.func93 rfl rfl rfl rfl av
def aav:bF:=kE 93 ⟨J4,[.d (.slice (.int .u8))],QR n,jC R aau,true⟩ (Un n)
theorem ayh:bg E (aav n):=Jz (G:=QR n) (alZ n) (ayg n)
def ayi:bq:=⟨[],[]⟩
abbrev aaw:aI:=[.d .str]
abbrev aax:aI:=[.d (.slice (.int .u8))]
@[irreducible] def Gd:bZ aaw aax:=bI E R n false (aav n) aX ayi Tryz.f171 aaw aax
def Uo:bF:=cZ 171 aaw aax (Gd n) (aav n)
theorem ayj:bg E (Uo n):=bO (ayh n) bY (by unfold Gd;rfl) Tryz.func171 av
def al1:bq:=⟨[(3,⟨[1],[],⟨[(5,.l (.own 22) (.int .u8)),(6,aJ)],[]⟩,[(.exit 0,⟨[(5,.l (.own 22) (.int .u8))],[]⟩)]⟩)],[]⟩
abbrev aay:aI:=[aJ,.d (.slice .str)]
abbrev aaz:aI:=[.d (.slice (.int .u8))]
@[irreducible] def NZ:bZ aay aaz:=bI E R n false (Uo n) aX al1 Tryz.f124 aay aaz
def N7:bF:=cZ 124 aay aaz (NZ n) (Uo n)
theorem ayk:bg E (N7 n):=bO (ayj n) bY (by unfold NZ;rfl) Tryz.func124 av
def aaA:bq:=⟨[(3,⟨[0],[],⟨[(3,.l (.own 8) (.int .u8))],[]⟩,[(.exit 0,⟨[(3,.l (.own 8) (.int .u8))],[]⟩)]⟩),
 (7,⟨[4],[],⟨[(3,.l (.own 8) (.int .u8)),(5,aJ)],[]⟩,[(.exit 2,⟨[(3,.l (.own 8) (.int .u8))],[]⟩)]⟩)],[]⟩
abbrev aaB:aI:=[.d (.slice (.int .u8))]
abbrev aaC:aI:=[.d (.slice (.int .u8))]
@[irreducible] def N8:bZ aaB aaC:=bI E R n false (N7 n) aX aaA Tryz.f200 aaB aaC
def aaD:bF:=cZ 200 aaB aaC (N8 n) (N7 n)
theorem ayl:bg E (aaD n):=bO (ayk n) bY (by unfold N8;rfl) Tryz.func200 av
def aym:bq:=⟨[],[]⟩
abbrev aaE:aI:=[.d (.int .u32),aJ]
abbrev aaF:aI:=[.d (.int .u32)]
@[irreducible] def uJ:bZ aaE aaF:=bI E R n false (aaD n) aX aym Tryz.f202 aaE aaF
def N9:bF:=cZ 202 aaE aaF (uJ n) (aaD n)
theorem ayn:bg E (N9 n):=bO (ayl n) bY (by unfold uJ;rfl) Tryz.func202 av
def aaG:bq:=⟨[(3,⟨[0,2,3],[2],⟨[(4,aJ)],[(3,.sg [.a .u32 64])]⟩,[(.exit 0,⟨[],[(3,.sg [.a .u32 64])]⟩)]⟩),
 (7,⟨[2,3],[2],⟨[(5,aJ)],[(3,.sg [.a .u32 64])]⟩,[(.exit 2,⟨[],[(3,.sg [.a .u32 64])]⟩)]⟩)],[]⟩
abbrev aaH:aI:=[.d (.slice (.int .u8))]
abbrev aaI:aI:=[.sg [.a .u32 64]]
@[irreducible] def Oa:bZ aaH aaI:=bI E R n false (N9 n) aX aaG Tryz.f201 aaH aaI
def Gf:bF:=cZ 201 aaH aaI (Oa n) (N9 n)
theorem ayo:bg E (Gf n):=bO (ayn n) bY (by unfold Oa;rfl) Tryz.func201 av
def Ob:bq:=⟨[(4,⟨[2,3,4],[2],⟨[(5,aJ)],[(3,.sg [.a .u32 8])]⟩,[(.exit 0,⟨[],[(3,.sg [.a .u32 8])]⟩)]⟩),
 (9,⟨[2,3,4,5,6,7],[2,3,6],⟨[(8,aJ)],[(7,.sg [.a .u32 8])]⟩,[(.exit 2,⟨[],[(7,.sg [.a .u32 8])]⟩)]⟩),
 (15,⟨[2,3,4,5,7],[2,7],⟨[(11,aJ)],[(3,.sg [.a .u32 8])]⟩,[(.exit 4,⟨[],[(3,.sg [.a .u32 8])]⟩)]⟩),
 (20,⟨[2,3,12],[2,3],⟨[(13,aJ)],[(12,.sg [.a .u8 32])]⟩,[(.exit 6,⟨[],[(12,.sg [.a .u8 32])]⟩)]⟩)],[]⟩
abbrev aaJ:aI:=[.d (.slice (.int .u8))]
abbrev aaK:aI:=[.sg [.a .u8 32]]
@[irreducible] def Oc:bZ aaJ aaK:=bI E R n false (Gf n) aX Ob Tryz.f170 aaJ aaK
def aaL:bF:=cZ 170 aaJ aaK (Oc n) (Gf n)
theorem ayp:bg E (aaL n):=bO (ayo n) bY (by unfold Oc;rfl) Tryz.func170 av
def ayq:bq:=⟨[],[]⟩
abbrev aaM:aI:=[.d (.slice (.int .u8))]
abbrev aaN:aI:=[jl]
@[irreducible] def Od:bZ aaM aaN:=bI E R n false (aaL n) aX ayq Tryz.f123 aaM aaN
def aaO:bF:=cZ 123 aaM aaN (Od n) (aaL n)
theorem ayr:bg E (aaO n):=bO (ayp n) bY (by unfold Od;rfl) Tryz.func123 av
def ays:bq:=⟨[],[]⟩
abbrev aaP:aI:=[aJ,.d (.slice .str)]
abbrev aaQ:aI:=[jl]
@[irreducible] def Gg:bZ aaP aaQ:=bI E R n false (aaO n) aX ays Tryz.f72 aaP aaQ
def Uq:bF:=cZ 72 aaP aaQ (Gg n) (aaO n)
theorem al2:bg E (Uq n):=bO (ayr n) bY (by unfold Gg;rfl) Tryz.func72 av
def al3:bq:=⟨[(3,⟨[0],[],⟨[(3,.l (.own 7) (.int .u8)),(4,aJ)],[]⟩,[(.exit 0,⟨[(3,.l (.own 7) (.int .u8))],[]⟩)]⟩)],[]⟩
abbrev J5:aI:=[.d (.slice (.int .i64))]
abbrev aaR:aI:=[.d (.slice (.int .u8))]
@[irreducible] def DC (p:aT R.T J5):Option (aT R.T aaR):=C8 E R n false (Uq n) aX al3 Tryz.f73 J5 (.int .u8) p
theorem ayt (p:aT R.T J5)(x:aT R.T aaR)(h:DC n p=some x):Pure E 73 (bM R J5 p) (.ak .sh (List.map (aV R (.int .u8)) x))/\oH E 73 (bM R J5 p) (dN R (.int .u8)) (List.map (aV R (.int .u8)) x):=by unfold DC at h;exact Jw oK (al2 n) bY h Tryz.func73 rfl rfl rfl rfl av
def aaS:bF:=kE 73 ⟨J5,[.d (.slice (.int .u8))],DC n,jC R aaR,true⟩ (Uq n)
theorem al4:bg E (aaS n):=Jz (G:=DC n) (al2 n) (ayt n)
def ayu:bq:=⟨[],[]⟩
abbrev Ur:aI:=[jl,jl]
abbrev Oe:aI:=[jl]
@[irreducible] def ZZ:bZ Ur Oe:=bI E R n false (aaS n) aX ayu Tryz.f141 Ur Oe
theorem al5:Z0 141 Ur Oe (ZZ n):=fun _ _ h=>by unfold ZZ at h;exact okF (al4 n) h Tryz.func141 av
def aaT:bF:=kE 141 ⟨Ur,Oe,ZZ n,jC R Oe,false⟩ (aaS n)
theorem ayv:bg E (aaT n):=pG (al4 n) (al5 n)
def ayw:bq:=⟨[],[]⟩
abbrev aaU:aI:=[.d (.int .u32)]
abbrev aaV:aI:=[aJ]
@[irreducible] def al6:bZ aaU aaV:=bI E R n false (aaT n) aX ayw Tryz.f185 aaU aaV
def aaW:bF:=cZ 185 aaU aaV (al6 n) (aaT n)
theorem ayx:bg E (aaW n):=bO (ayv n) bY (by unfold al6;rfl) Tryz.func185 av
def ayy:bq:=⟨[],[]⟩
abbrev aaX:aI:=[.d (.int .u64)]
abbrev aaY:aI:=[aJ]
@[irreducible] def DF:bZ aaX aaY:=bI E R n false (aaW n) aX ayy Tryz.f186 aaX aaY
def aaZ:bF:=cZ 186 aaX aaY (DF n) (aaW n)
theorem ayz:bg E (aaZ n):=bO (ayx n) bY (by unfold DF;rfl) Tryz.func186 av
def ayA:bq:=⟨[],[]⟩
abbrev aa0:aI:=[.d (.int .u64)]
abbrev aa1:aI:=[aJ]
@[irreducible] def Bw:bZ aa0 aa1:=bI E R n false (aaZ n) aX ayA Tryz.f139 aa0 aa1
def aa2:bF:=cZ 139 aa0 aa1 (Bw n) (aaZ n)
theorem al7:bg E (aa2 n):=bO (ayz n) bY (by unfold Bw;rfl) Tryz.func139 av
def ayB:bq:=⟨[],[]⟩
abbrev Us:aI:=[aJ]
abbrev Og:aI:=[aJ]
@[irreducible] def Bz:bZ Us Og:=bI E R n false (aa2 n) aX ayB Tryz.f132 Us Og
theorem aa3:Z0 132 Us Og (Bz n):=fun _ _ h=>by unfold Bz at h;exact okF (al7 n) h Tryz.func132 av
def aa4:bF:=kE 132 ⟨Us,Og,Bz n,jC R Og,false⟩ (aa2 n)
theorem ayC:bg E (aa4 n):=pG (al7 n) (aa3 n)
def ayD:bq:=⟨[],[]⟩
abbrev aa5:aI:=[jl,jl]
abbrev aa6:aI:=[jl]
@[irreducible] def DI:bZ aa5 aa6:=bI E R n false (aa4 n) aX ayD Tryz.f144 aa5 aa6
def Ut:bF:=cZ 144 aa5 aa6 (DI n) (aa4 n)
theorem ayE:bg E (Ut n):=bO (ayC n) bY (by unfold DI;rfl) Tryz.func144 av
end Sh
