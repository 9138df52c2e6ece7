/- Part of the proof of a law. -/
import Derived.KernelRfl
import Derived.Test.YtdcnajadcbedkaaGreatDoorS1214
set_option linter.all false
open Go Go.Proofs Aq
namespace Sh
set_option maxRecDepth 100000
def dQ (i:Nat) (a r:List Sk) (F:aA R.T a->Option (aA R.T r)):Prop:=∀p x,F p=some x->Pure E i (bG R a p) (lJ (bG R r x))
theorem okF {n:Nat} {om:Bool} {F:Nat->List (FR R)} {A:bR} {i:Nat} {fn:Func} {a r:List Sk} {p:aA R.T a} {x:aA R.T r} (hF:bH E F) (h:dH E R n om F aZ A fn a r p=some x) (hf:E.P.funcs[i]? =some fn) (hok:(match fn.body with|some c=>decide (a.length<=fn.ntmps)&& iM fn.ntmps c&& qU c|none=>false)=true)
 (ha:iO a=true:=by rfl) (hl:(bG R a p).length=a.length:=by rfl) (ho:E.om i=om:=by rfl) (hs:E.jO i=none:=by rfl):Pure E i (bG R a p) (lJ (bG R r x)):=ME nU hF yB h hf ha hl ho hs hok
def akQ:bR:=⟨[],[]⟩
abbrev ML:List Sk:=[]
abbrev G9:List Sk:=[.sg [.a .u32 8,.a .u8 64,.i .u64]]
@[irreducible] noncomputable def Dz (n:Nat) (p:aA R.T ML):Option (aA R.T G9):=dH E R n false (TW n) aZ akQ Tryz.f119 ML G9 p
theorem akR (n:Nat):dQ 119 ML G9 (Dz n):=fun _ _ h=>by unfold Dz at h;exact okF (aaL n) h Tryz.func119 (by kernel_rfl)
noncomputable def Ua (n:Nat):Nat->List (FR R):=cZ 119 ⟨ML,G9,Dz n,cK R G9,false⟩ (TW n)
theorem aaP (n:Nat):bH E (Ua n):=dM (aaL n) (akR n)
def akS:bR:=⟨[],[]⟩
abbrev MN:List Sk:=[.d (.int .u32),.d (.int .i64)]
abbrev He:List Sk:=[.d (.int .u32)]
@[irreducible] noncomputable def sj (n:Nat) (p:aA R.T MN):Option (aA R.T He):=dH E R n false (Ua n) aZ akS Tryz.f216 MN He p
theorem akT (n:Nat):dQ 216 MN He (sj n):=fun _ _ h=>by unfold sj at h;exact okF (aaP n) h Tryz.func216 (by kernel_rfl)
noncomputable def Hf (n:Nat):Nat->List (FR R):=cZ 216 ⟨MN,He,sj n,cK R He,false⟩ (Ua n)
theorem aaQ (n:Nat):bH E (Hf n):=dM (aaP n) (akT n)
def zV:bR:=⟨[(3,⟨[0,2,3],[2],⟨[(11,.d (.int .i64))],[(3,.sg [.a .u32 64])]⟩,[(.exit 0,⟨[],[(3,.sg [.a .u32 64])]⟩)]⟩),
 (7,⟨[0,2,3,4,11,22,23],[2],⟨[(24,.d (.int .i64))],[(3,.sg [.a .u32 64])]⟩,[(.exit 2,⟨[],[(3,.sg [.a .u32 64])]⟩)]⟩)],[]⟩
abbrev MO:List Sk:=[.d (.slice (.int .u8))]
abbrev Hg:List Sk:=[.sg [.a .u32 64]]
@[irreducible] noncomputable def DC (n:Nat) (p:aA R.T MO):Option (aA R.T Hg):=dH E R n false (Hf n) aZ zV Tryz.f198 MO Hg p
theorem akU (n:Nat):dQ 198 MO Hg (DC n):=fun _ _ h=>by unfold DC at h;exact okF (aaQ n) h Tryz.func198 (by kernel_rfl)
noncomputable def Ub (n:Nat):Nat->List (FR R):=cZ 198 ⟨MO,Hg,DC n,cK R Hg,false⟩ (Hf n)
theorem aaR (n:Nat):bH E (Ub n):=dM (aaQ n) (akU n)
def akV:bR:=⟨[],[]⟩
abbrev MP:List Sk:=[.d (.int .u32),.d (.int .i64),.d (.int .i64),.d (.int .i64)]
abbrev Hl:List Sk:=[.d (.int .u32)]
@[irreducible] noncomputable def zW (n:Nat) (p:aA R.T MP):Option (aA R.T Hl):=dH E R n false (Ub n) aZ akV Tryz.f199 MP Hl p
theorem akW (n:Nat):dQ 199 MP Hl (zW n):=fun _ _ h=>by unfold zW at h;exact okF (aaR n) h Tryz.func199 (by kernel_rfl)
noncomputable def Ho (n:Nat):Nat->List (FR R):=cZ 199 ⟨MP,Hl,zW n,cK R Hl,false⟩ (Ub n)
theorem aaS (n:Nat):bH E (Ho n):=dM (aaR n) (akW n)
def zX:bR:=⟨[(4,⟨[2,4,5,6,7,21],[2,4,5],⟨[(22,.d (.int .i64))],[(6,.sg [.a .u32 4]),(7,.sg [.a .u32 4])]⟩,[(.exit 0,⟨[],[(6,.sg [.a .u32 4]),(7,.sg [.a .u32 4])]⟩)]⟩),
 (12,⟨[2,4,6,7],[4,6,7],⟨[(94,.d (.int .i64))],[(2,.sg [.a .u32 8])]⟩,[(.exit 2,⟨[],[(2,.sg [.a .u32 8])]⟩)]⟩)],[]⟩
abbrev MQ:List Sk:=[.sg [.a .u32 8],.d (.slice (.int .u8))]
abbrev Hq:List Sk:=[.sg [.a .u32 8]]
@[irreducible] noncomputable def DF (n:Nat) (p:aA R.T MQ):Option (aA R.T Hq):=dH E R n false (Ho n) aZ zX Tryz.f169 MQ Hq p
theorem akX (n:Nat):dQ 169 MQ Hq (DF n):=fun _ _ h=>by unfold DF at h;exact okF (aaS n) h Tryz.func169 (by kernel_rfl)
noncomputable def MR (n:Nat):Nat->List (FR R):=cZ 169 ⟨MQ,Hq,DF n,cK R Hq,false⟩ (Ho n)
theorem aaT (n:Nat):bH E (MR n):=dM (aaS n) (akX n)
def MU:bR:=⟨[(1,⟨[2,4],[4],⟨[(1,.d .str)],[(2,.sg [.a .u32 8,.a .u8 64,.i .u64])]⟩,[(.exit 0,⟨[],[(2,.sg [.a .u32 8,.a .u8 64,.i .u64])]⟩)]⟩)],[]⟩
abbrev MV:List Sk:=[.sg [.a .u32 8,.a .u8 64,.i .u64],.d .str]
abbrev Hr:List Sk:=[.sg [.a .u32 8,.a .u8 64,.i .u64]]
@[irreducible] noncomputable def wz (n:Nat) (p:aA R.T MV):Option (aA R.T Hr):=dH E R n false (MR n) aZ MU Tryz.f120 MV Hr p
theorem akY (n:Nat):dQ 120 MV Hr (wz n):=fun _ _ h=>by unfold wz at h;exact okF (aaT n) h Tryz.func120 (by kernel_rfl)
noncomputable def MW (n:Nat):Nat->List (FR R):=cZ 120 ⟨MV,Hr,wz n,cK R Hr,false⟩ (MR n)
theorem aaU (n:Nat):bH E (MW n):=dM (aaT n) (akY n)
def MX:bR:=⟨[(3,⟨[],[],⟨[(3,.d (.int .u64)),(4,.l (.own 21) (.int .u8))],[]⟩,[(.exit 0,⟨[(3,.d (.int .u64)),(4,.l (.own 21) (.int .u8))],[]⟩)]⟩)],[]⟩
abbrev DI:List Sk:=[.d (.int .i64)]
abbrev Uc:List Sk:=[.d (.slice (.int .u8))]
@[irreducible] noncomputable def zY (n:Nat) (p:aA R.T DI):Option (aA R.T Uc):=zK E R n false (MW n) aZ MX Tryz.f90 DI (.int .u8) p
theorem akZ (n:Nat) (p:aA R.T DI) (x:aA R.T Uc) (h:zY n p=some x):Pure E 90 (bG R DI p) (.aj .sh (List.map (aG R (.int .u8)) x))/\oC E 90 (bG R DI p) (dx R (.int .u8)) (List.map (aG R (.int .u8)) x):=by
 unfold zY at h
 exact GY nU (aaU n) yB h Tryz.func90 rfl rfl rfl rfl (by kernel_rfl)
noncomputable def Ud (n:Nat):Nat->List (FR R):=cZ 90 ⟨DI,[.d (.slice (.int .u8))],zY n,cK R Uc,true⟩ (MW n)
theorem aaV (n:Nat):bH E (Ud n):=G5 (G:=zY n) (aaU n) (akZ n)
def ak0:bR:=⟨[],[]⟩
abbrev MZ:List Sk:=[.d .str]
abbrev Ht:List Sk:=[.d (.slice (.int .u8))]
@[irreducible] noncomputable def DJ (n:Nat) (p:aA R.T MZ):Option (aA R.T Ht):=dH E R n false (Ud n) aZ ak0 Tryz.f121 MZ Ht p
theorem ak1 (n:Nat):dQ 121 MZ Ht (DJ n):=fun _ _ h=>by unfold DJ at h;exact okF (aaV n) h Tryz.func121 (by kernel_rfl)
noncomputable def DK (n:Nat):Nat->List (FR R):=cZ 121 ⟨MZ,Ht,DJ n,cK R Ht,false⟩ (Ud n)
theorem aaW (n:Nat):bH E (DK n):=dM (aaV n) (ak1 n)
def uN:bR:=⟨[(3,⟨[1,2,3],[1,2],⟨[(4,.l (.own 22) (.int .u8))],[]⟩,[(.exit 0,⟨[(4,.l (.own 22) (.int .u8))],[]⟩)]⟩),
 (6,⟨[1,2,3],[1,2],⟨[(4,.l (.own 22) (.int .u8)),(23,.d (.int .i64))],[]⟩,[(.exit 2,⟨[(4,.l (.own 22) (.int .u8))],[]⟩)]⟩),
 (13,⟨[1,2,6],[1,2],⟨[(40,.d (.int .i64))],[(6,.sg [.a .u8 32])]⟩,[(.exit 4,⟨[],[(6,.sg [.a .u8 32])]⟩)]⟩)],[]⟩
abbrev M0:List Sk:=[.sg [.a .u32 8,.a .u8 64,.i .u64]]
abbrev Hu:List Sk:=[.sg [.a .u8 32]]
@[irreducible] noncomputable def DL (n:Nat) (p:aA R.T M0):Option (aA R.T Hu):=dH E R n false (DK n) aZ uN Tryz.f122 M0 Hu p
theorem ak2 (n:Nat):dQ 122 M0 Hu (DL n):=fun _ _ h=>by unfold DL at h;exact okF (aaW n) h Tryz.func122 (by kernel_rfl)
noncomputable def M4 (n:Nat):Nat->List (FR R):=cZ 122 ⟨M0,Hu,DL n,cK R Hu,false⟩ (DK n)
theorem aaX (n:Nat):bH E (M4 n):=dM (aaW n) (ak2 n)
def M5:bR:=⟨[(3,⟨[4,5,15,16],[4],⟨[(17,.d (.int .i64))],[(5,.sg [.a .u32 8,.a .u8 64,.i .u64])]⟩,[(.exit 0,⟨[],[(5,.sg [.a .u32 8,.a .u8 64,.i .u64])]⟩)]⟩)],[]⟩
abbrev M6:List Sk:=[.d (.int .i64),.d (.slice .str)]
abbrev Hw:List Sk:=[.d (.st 0)]
@[irreducible] noncomputable def Hy (n:Nat) (p:aA R.T M6):Option (aA R.T Hw):=dH E R n false (M4 n) aZ M5 Tryz.f71 M6 Hw p
theorem aaY (n:Nat):dQ 71 M6 Hw (Hy n):=fun _ _ h=>by unfold Hy at h;exact okF (aaX n) h Tryz.func71 (by kernel_rfl)
noncomputable def Ue (n:Nat):Nat->List (FR R):=cZ 71 ⟨M6,Hw,Hy n,cK R Hw,false⟩ (M4 n)
theorem aaZ (n:Nat):bH E (Ue n):=dM (aaX n) (aaY n)
def ak3:bR:=⟨[(3,⟨[1,11,12],[],⟨[(5,.l (.own 10) (.int .u8)),(13,.d (.int .i64))],[]⟩,[(.exit 0,⟨[(5,.l (.own 10) (.int .u8))],[]⟩)]⟩)],[]⟩
abbrev DN:List Sk:=[.d (.slice (.int .i64)),.fn 90 [] []]
abbrev Uf:List Sk:=[.d (.slice (.int .u8))]
@[irreducible] noncomputable def M7 (n:Nat) (p:aA R.T DN):Option (aA R.T Uf):=zK E R n false (Ue n) aZ ak3 Tryz.f117 DN (.int .u8) p
theorem ak4 (n:Nat) (p:aA R.T DN) (x:aA R.T Uf) (h:M7 n p=some x):Pure E 117 (bG R DN p) (.aj .sh (List.map (aG R (.int .u8)) x))/\oC E 117 (bG R DN p) (dx R (.int .u8)) (List.map (aG R (.int .u8)) x):=by
 unfold M7 at h
 exact GY nU (aaZ n) yB h Tryz.func117 rfl rfl rfl rfl (by kernel_rfl)
noncomputable def Ug (n:Nat):Nat->List (FR R):=cZ 117 ⟨DN,[.d (.slice (.int .u8))],M7 n,cK R Uf,true⟩ (Ue n)
theorem aa0 (n:Nat):bH E (Ug n):=G5 (G:=M7 n) (aaZ n) (ak4 n)
def ak5:bR:=⟨[],[]⟩
abbrev DR:List Sk:=[.d (.slice (.int .i64))]
abbrev Uh:List Sk:=[.d (.slice (.int .u8))]
@[irreducible] noncomputable def M8 (n:Nat) (p:aA R.T DR):Option (aA R.T Uh):=zK E R n false (Ug n) aZ ak5 Tryz.f69 DR (.int .u8) p
theorem ak6 (n:Nat) (p:aA R.T DR) (x:aA R.T Uh) (h:M8 n p=some x):Pure E 69 (bG R DR p) (.aj .sh (List.map (aG R (.int .u8)) x))/\oC E 69 (bG R DR p) (dx R (.int .u8)) (List.map (aG R (.int .u8)) x):=by
 unfold M8 at h
 exact GY nU (aa0 n) yB h Tryz.func69 rfl rfl rfl rfl (by kernel_rfl)
noncomputable def M9 (n:Nat):Nat->List (FR R):=cZ 69 ⟨DR,[.d (.slice (.int .u8))],M8 n,cK R Uh,true⟩ (Ug n)
theorem aa1 (n:Nat):bH E (M9 n):=G5 (G:=M8 n) (aa0 n) (ak6 n)
end Sh
