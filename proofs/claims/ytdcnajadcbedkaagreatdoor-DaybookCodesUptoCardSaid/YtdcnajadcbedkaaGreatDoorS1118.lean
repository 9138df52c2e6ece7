/- Part of the proof of a law. -/
import Derived.KernelRfl
import Derived.Test.YtdcnajadcbedkaaGreatDoorS1115
set_option linter.all false
set_option linter.unusedSimpArgs false
set_option linter.unusedSectionVars false
open Go Go.Proofs Aq
namespace Sh
set_option maxRecDepth 100000
def gU (i:Nat) (a r:List Sk) (F:aJ R.T a→Option (aJ R.T r)):Prop:=∀p x,F p=some x→Pure E i (aY R a p) (mO (aY R r x))
theorem okF {n:Nat} {om:Bool} {F:Nat→List (FR R)} {A:dP} {i:Nat} {fn:Func} {a r:List Sk} {p:aJ R.T a} {x:aJ R.T r} (hF:bS E F) (h:fO E R n om F bL A fn a r p=some x) (hf:E.P.funcs[i]? =some fn) (hok:(match fn.body with|some c=>decide (a.length≤fn.ntmps)&& iA fn.ntmps c&& pU c|none=>false)=true)
 (ha:gZ a=true:=by rfl) (hl:(aY R a p).length=a.length:=by rfl) (ho:E.om i=om:=by rfl) (hs:E.je i=none:=by rfl):Pure E i (aY R a p) (mO (aY R r x)):=afZ vH hF xk h hf ha hl ho hs hok
def ahp:dP:=⟨[],[]⟩
abbrev JW:List Sk:=[]
abbrev ET:List Sk:=[.sg [.a .u32 8,.a .u8 64,.i .u64]]
@[irreducible] noncomputable def BS (n:Nat) (p:aJ R.T JW):Option (aJ R.T ET):=fO E R n false (Qc n) bL ahp Tryz.f119 JW ET p
theorem ahq (n:Nat):gU 119 JW ET (BS n):=fun _ _ h=>by unfold BS at h;exact okF (Xm n) h Tryz.func119 (by kernel_rfl)
noncomputable def Qf (n:Nat):Nat→List (FR R):=dK 119 ⟨JW,ET,BS n,dW R ET,false⟩ (Qc n)
theorem Xq (n:Nat):bS E (Qf n):=gF (Xm n) (ahq n)
def ahr:dP:=⟨[],[]⟩
abbrev JX:List Sk:=[.d (.int .u32),.d (.int .i64)]
abbrev EU:List Sk:=[.d (.int .u32)]
@[irreducible] noncomputable def rZ (n:Nat) (p:aJ R.T JX):Option (aJ R.T EU):=fO E R n false (Qf n) bL ahr Tryz.f216 JX EU p
theorem ahs (n:Nat):gU 216 JX EU (rZ n):=fun _ _ h=>by unfold rZ at h;exact okF (Xq n) h Tryz.func216 (by kernel_rfl)
noncomputable def EW (n:Nat):Nat→List (FR R):=dK 216 ⟨JX,EU,rZ n,dW R EU,false⟩ (Qf n)
theorem Xr (n:Nat):bS E (EW n):=gF (Xq n) (ahs n)
def yK:dP:=⟨[(3,⟨[0,2,3],[2],⟨[(11,.d (.int .i64))],[(3,.sg [.a .u32 64])]⟩,[(.exit 0,⟨[],[(3,.sg [.a .u32 64])]⟩)]⟩),
 (7,⟨[0,2,3,4,11,22,23],[2],⟨[(24,.d (.int .i64))],[(3,.sg [.a .u32 64])]⟩,[(.exit 2,⟨[],[(3,.sg [.a .u32 64])]⟩)]⟩)],[]⟩
abbrev JY:List Sk:=[.d (.slice (.int .u8))]
abbrev EX:List Sk:=[.sg [.a .u32 64]]
@[irreducible] noncomputable def BU (n:Nat) (p:aJ R.T JY):Option (aJ R.T EX):=fO E R n false (EW n) bL yK Tryz.f198 JY EX p
theorem aht (n:Nat):gU 198 JY EX (BU n):=fun _ _ h=>by unfold BU at h;exact okF (Xr n) h Tryz.func198 (by kernel_rfl)
noncomputable def Qg (n:Nat):Nat→List (FR R):=dK 198 ⟨JY,EX,BU n,dW R EX,false⟩ (EW n)
theorem Xt (n:Nat):bS E (Qg n):=gF (Xr n) (aht n)
def ahu:dP:=⟨[],[]⟩
abbrev JZ:List Sk:=[.d (.int .u32),.d (.int .i64),.d (.int .i64),.d (.int .i64)]
abbrev EY:List Sk:=[.d (.int .u32)]
@[irreducible] noncomputable def yL (n:Nat) (p:aJ R.T JZ):Option (aJ R.T EY):=fO E R n false (Qg n) bL ahu Tryz.f199 JZ EY p
theorem ahv (n:Nat):gU 199 JZ EY (yL n):=fun _ _ h=>by unfold yL at h;exact okF (Xt n) h Tryz.func199 (by kernel_rfl)
noncomputable def EZ (n:Nat):Nat→List (FR R):=dK 199 ⟨JZ,EY,yL n,dW R EY,false⟩ (Qg n)
theorem Xu (n:Nat):bS E (EZ n):=gF (Xt n) (ahv n)
def yM:dP:=⟨[(4,⟨[2,4,5,6,7,21],[2,4,5],⟨[(22,.d (.int .i64))],[(6,.sg [.a .u32 4]),(7,.sg [.a .u32 4])]⟩,[(.exit 0,⟨[],[(6,.sg [.a .u32 4]),(7,.sg [.a .u32 4])]⟩)]⟩),
 (12,⟨[2,4,6,7],[4,6,7],⟨[(94,.d (.int .i64))],[(2,.sg [.a .u32 8])]⟩,[(.exit 2,⟨[],[(2,.sg [.a .u32 8])]⟩)]⟩)],[]⟩
abbrev J2:List Sk:=[.sg [.a .u32 8],.d (.slice (.int .u8))]
abbrev E5:List Sk:=[.sg [.a .u32 8]]
@[irreducible] noncomputable def BX (n:Nat) (p:aJ R.T J2):Option (aJ R.T E5):=fO E R n false (EZ n) bL yM Tryz.f169 J2 E5 p
theorem ahw (n:Nat):gU 169 J2 E5 (BX n):=fun _ _ h=>by unfold BX at h;exact okF (Xu n) h Tryz.func169 (by kernel_rfl)
noncomputable def J3 (n:Nat):Nat→List (FR R):=dK 169 ⟨J2,E5,BX n,dW R E5,false⟩ (EZ n)
theorem Xv (n:Nat):bS E (J3 n):=gF (Xu n) (ahw n)
def J4:dP:=⟨[(1,⟨[2,4],[4],⟨[(1,.d .str)],[(2,.sg [.a .u32 8,.a .u8 64,.i .u64])]⟩,[(.exit 0,⟨[],[(2,.sg [.a .u32 8,.a .u8 64,.i .u64])]⟩)]⟩)],[]⟩
abbrev J5:List Sk:=[.sg [.a .u32 8,.a .u8 64,.i .u64],.d .str]
abbrev E8:List Sk:=[.sg [.a .u32 8,.a .u8 64,.i .u64]]
@[irreducible] noncomputable def vK (n:Nat) (p:aJ R.T J5):Option (aJ R.T E8):=fO E R n false (J3 n) bL J4 Tryz.f120 J5 E8 p
theorem ahx (n:Nat):gU 120 J5 E8 (vK n):=fun _ _ h=>by unfold vK at h;exact okF (Xv n) h Tryz.func120 (by kernel_rfl)
noncomputable def J6 (n:Nat):Nat→List (FR R):=dK 120 ⟨J5,E8,vK n,dW R E8,false⟩ (J3 n)
theorem Xw (n:Nat):bS E (J6 n):=gF (Xv n) (ahx n)
def J7:dP:=⟨[(3,⟨[],[],⟨[(3,.d (.int .u64)),(4,.l (.own 21) (.int .u8))],[]⟩,[(.exit 0,⟨[(3,.d (.int .u64)),(4,.l (.own 21) (.int .u8))],[]⟩)]⟩)],[]⟩
abbrev BZ:List Sk:=[.d (.int .i64)]
abbrev Qh:List Sk:=[.d (.slice (.int .u8))]
@[irreducible] noncomputable def uE (n:Nat) (p:aJ R.T BZ):Option (aJ R.T Qh):=sU E R n false (J6 n) bL J7 Tryz.f90 BZ (.int .u8) p
theorem ahy (n:Nat) (p:aJ R.T BZ) (x:aJ R.T Qh) (h:uE n p=some x):Pure E 90 (aY R BZ p) (.aj .sh (List.map (aG R (.int .u8)) x))∧jJ E 90 (aY R BZ p) (bI R (.int .u8)) (List.map (aG R (.int .u8)) x):=by
 unfold uE at h
 exact BJ vH (Xw n) xk h Tryz.func90 rfl rfl rfl rfl (by kernel_rfl)
noncomputable def Qi (n:Nat):Nat→List (FR R):=dK 90 ⟨BZ,[.d (.slice (.int .u8))],uE n,dW R Qh,true⟩ (J6 n)
theorem Xx (n:Nat):bS E (Qi n):=BK (G:=uE n) (Xw n) (ahy n)
def ahz:dP:=⟨[],[]⟩
abbrev J8:List Sk:=[.d .str]
abbrev E9:List Sk:=[.d (.slice (.int .u8))]
@[irreducible] noncomputable def Ca (n:Nat) (p:aJ R.T J8):Option (aJ R.T E9):=fO E R n false (Qi n) bL ahz Tryz.f121 J8 E9 p
theorem ahA (n:Nat):gU 121 J8 E9 (Ca n):=fun _ _ h=>by unfold Ca at h;exact okF (Xx n) h Tryz.func121 (by kernel_rfl)
noncomputable def Cb (n:Nat):Nat→List (FR R):=dK 121 ⟨J8,E9,Ca n,dW R E9,false⟩ (Qi n)
theorem Xy (n:Nat):bS E (Cb n):=gF (Xx n) (ahA n)
def uG:dP:=⟨[(3,⟨[1,2,3],[1,2],⟨[(4,.l (.own 22) (.int .u8))],[]⟩,[(.exit 0,⟨[(4,.l (.own 22) (.int .u8))],[]⟩)]⟩),
 (6,⟨[1,2,3],[1,2],⟨[(4,.l (.own 22) (.int .u8)),(23,.d (.int .i64))],[]⟩,[(.exit 2,⟨[(4,.l (.own 22) (.int .u8))],[]⟩)]⟩),
 (13,⟨[1,2,6],[1,2],⟨[(40,.d (.int .i64))],[(6,.sg [.a .u8 32])]⟩,[(.exit 4,⟨[],[(6,.sg [.a .u8 32])]⟩)]⟩)],[]⟩
abbrev J9:List Sk:=[.sg [.a .u32 8,.a .u8 64,.i .u64]]
abbrev Fa:List Sk:=[.sg [.a .u8 32]]
@[irreducible] noncomputable def Cc (n:Nat) (p:aJ R.T J9):Option (aJ R.T Fa):=fO E R n false (Cb n) bL uG Tryz.f122 J9 Fa p
theorem ahB (n:Nat):gU 122 J9 Fa (Cc n):=fun _ _ h=>by unfold Cc at h;exact okF (Xy n) h Tryz.func122 (by kernel_rfl)
noncomputable def Ka (n:Nat):Nat→List (FR R):=dK 122 ⟨J9,Fa,Cc n,dW R Fa,false⟩ (Cb n)
theorem Xz (n:Nat):bS E (Ka n):=gF (Xy n) (ahB n)
def Kc:dP:=⟨[(3,⟨[4,5,15,16],[4],⟨[(17,.d (.int .i64))],[(5,.sg [.a .u32 8,.a .u8 64,.i .u64])]⟩,[(.exit 0,⟨[],[(5,.sg [.a .u32 8,.a .u8 64,.i .u64])]⟩)]⟩)],[]⟩
abbrev Ke:List Sk:=[.d (.int .i64),.d (.slice .str)]
abbrev Fb:List Sk:=[.d (.st 0)]
@[irreducible] noncomputable def Fe (n:Nat) (p:aJ R.T Ke):Option (aJ R.T Fb):=fO E R n false (Ka n) bL Kc Tryz.f71 Ke Fb p
theorem XA (n:Nat):gU 71 Ke Fb (Fe n):=fun _ _ h=>by unfold Fe at h;exact okF (Xz n) h Tryz.func71 (by kernel_rfl)
noncomputable def Kg (n:Nat):Nat→List (FR R):=dK 71 ⟨Ke,Fb,Fe n,dW R Fb,false⟩ (Ka n)
theorem XB (n:Nat):bS E (Kg n):=gF (Xz n) (XA n)
def Kh:dP:=⟨[(3,⟨[1,11,12],[],⟨[(5,.l (.own 10) (.int .u8)),(13,.d (.int .i64))],[]⟩,[(.exit 0,⟨[(5,.l (.own 10) (.int .u8))],[]⟩)]⟩)],[]⟩
abbrev Ce:List Sk:=[.d (.slice (.int .i64)),.fn 90 [] []]
abbrev Qj:List Sk:=[.d (.slice (.int .u8))]
@[irreducible] noncomputable def Cg (n:Nat) (p:aJ R.T Ce):Option (aJ R.T Qj):=sU E R n false (Kg n) bL Kh Tryz.f117 Ce (.int .u8) p
theorem ahC (n:Nat) (p:aJ R.T Ce) (x:aJ R.T Qj) (h:Cg n p=some x):Pure E 117 (aY R Ce p) (.aj .sh (List.map (aG R (.int .u8)) x))∧jJ E 117 (aY R Ce p) (bI R (.int .u8)) (List.map (aG R (.int .u8)) x):=by
 unfold Cg at h
 exact BJ vH (XB n) xk h Tryz.func117 rfl rfl rfl rfl (by kernel_rfl)
noncomputable def Qk (n:Nat):Nat→List (FR R):=dK 117 ⟨Ce,[.d (.slice (.int .u8))],Cg n,dW R Qj,true⟩ (Kg n)
theorem XC (n:Nat):bS E (Qk n):=BK (G:=Cg n) (XB n) (ahC n)
def ahD:dP:=⟨[],[]⟩
abbrev Ch:List Sk:=[.d (.slice (.int .i64))]
abbrev Ql:List Sk:=[.d (.slice (.int .u8))]
@[irreducible] noncomputable def yN (n:Nat) (p:aJ R.T Ch):Option (aJ R.T Ql):=sU E R n false (Qk n) bL ahD Tryz.f69 Ch (.int .u8) p
theorem ahE (n:Nat) (p:aJ R.T Ch) (x:aJ R.T Ql) (h:yN n p=some x):Pure E 69 (aY R Ch p) (.aj .sh (List.map (aG R (.int .u8)) x))∧jJ E 69 (aY R Ch p) (bI R (.int .u8)) (List.map (aG R (.int .u8)) x):=by
 unfold yN at h
 exact BJ vH (XC n) xk h Tryz.func69 rfl rfl rfl rfl (by kernel_rfl)
noncomputable def Qm (n:Nat):Nat→List (FR R):=dK 69 ⟨Ch,[.d (.slice (.int .u8))],yN n,dW R Ql,true⟩ (Qk n)
theorem XD (n:Nat):bS E (Qm n):=BK (G:=yN n) (XC n) (ahE n)
end Sh
