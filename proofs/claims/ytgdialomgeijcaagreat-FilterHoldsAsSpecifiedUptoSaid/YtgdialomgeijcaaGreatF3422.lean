/- Part of the proof of a law. -/
import Derived.KernelRfl
import Derived.Test.YtgdialomgeijcaaGreatF3419
set_option linter.all false
set_option linter.unusedSimpArgs false
set_option linter.unusedSectionVars false
open Go Go.Proofs Aq
namespace Sh
set_option maxRecDepth 100000
def j5 (i:Nat) (a r:List Sk) (F:ak R.T a→Option (ak R.T r)):Prop:=∀p x,F p=some x→Pure E i (aI R a p) (bT (aI R r x))
theorem okF {n:Nat} {om:Bool} {F:Nat→List (FR R)} {A:dM} {i:Nat} {fn:Func} {a r:List Sk} {p:ak R.T a} {x:ak R.T r} (hF:bG E F) (h:dS E R n om F cB A fn a r p=some x) (hf:E.P.funcs[i]? =some fn) (hok:(match fn.body with|some c=>decide (a.length≤fn.ntmps)&& bO fn.ntmps c&& qo c|none=>false)=true)
 (ha:gH a=true:=by rfl) (hl:(aI R a p).length=a.length:=by rfl) (ho:E.om i=om:=by rfl) (hs:E.mY i=none:=by rfl):Pure E i (aI R a p) (bT (aI R r x)):=gX gQ hF gY h hf ha hl ho hs hok
def DU:dM:=⟨[(3,⟨[1],[1],⟨[(3,.l (.own 26) (.st 0)),(4,.d (.int .i64))],[]⟩,[(.exit 0,⟨[(3,.l (.own 26) (.st 0))],[]⟩)]⟩)],[]⟩
abbrev qw:List Sk:=[.d (.st 0)]
abbrev rQ:List Sk:=[.d (.slice (.st 0))]
def rR:Nat→List Sk
 |_=>qw
def nW:Nat→List Sk
 |_=>rQ
def aeM:Nat→dM
 |_=>DU
noncomputable def aeN:Nat→Func
 |_=>Tryz.f39
noncomputable def DV (n:Nat) (g:(i:Nat)→ak R.T (rR i)→Option (ak R.T (nW i))):Nat→List (FR R):=dB 39 ⟨rR 0,nW 0,g 0,bC R (nW 0),false⟩ (Nj n)
noncomputable def nX (n:Nat):Nat→(i:Nat)→ak R.T (rR i)→Option (ak R.T (nW i))
 |0,_,_=>none
 |m+1,i,p=>dS E R n false (DV n (nX n m)) cB (aeM i) (aeN i) (rR i) (nW i) p
attribute [irreducible] nX
theorem UY (n m:Nat) (p:ak R.T qw):nX n (m+1) 0 p=dS E R n false (DV n (nX n m)) cB DU Tryz.f39 qw rQ p:=by kernel_rfl
theorem UZ (n:Nat) (p:ak R.T qw):nX n 0 0 p=none:=by kernel_rfl
theorem aeO (n:Nat) (p:ak R.T (rR 0)) (x:ak R.T (nW 0)) (h:nX n 0 0 p=some x):Pure E 39 (aI R (rR 0) p) (bT (aI R (nW 0) x)):=absurd ((UZ n p).symm.trans h) nofun
theorem aeP (n m:Nat) (hk:bG E (DV n (nX n m))) (p:ak R.T (rR 0)) (x:ak R.T (nW 0)) (h:nX n (m+1) 0 p=some x):Pure E 39 (aI R (rR 0) p) (bT (aI R (nW 0) x)):=
 gX (args:=qw) (res:=rQ) gQ hk gY ((UY n m p).symm.trans h) Tryz.func39 rfl rfl rfl rfl (by kernel_rfl)
theorem U0 (n:Nat):∀m,bG E (DV n (nX n m))
 |0=>bQ (f:=39) (r:=⟨rR 0,nW 0,nX n 0 0,bC R (nW 0),false⟩) (Nk n) (aeO n)
 |m+1=>bQ (f:=39) (r:=⟨rR 0,nW 0,nX n (m+1) 0,bC R (nW 0),false⟩) (Nk n) (aeP n m (U0 n m))
@[irreducible] noncomputable def AY (n m:Nat) (p:ak R.T qw):Option (ak R.T rQ):=nX n m 0 p
@[irreducible] noncomputable def xZ (n:Nat) (p:ak R.T qw):Option (ak R.T rQ):=AY n n p
theorem aeQ (n:Nat) (p:ak R.T qw) (x:ak R.T rQ) (h:xZ n p=some x):Pure E 39 (aI R qw p) (bT (aI R rQ x)):=by
 unfold xZ AY at h
 cases n with
 |zero=>exact absurd ((UZ 0 p).symm.trans h) nofun
 |succ n=>exact gX (args:=qw) (res:=rQ) gQ (U0 (n+1) n) gY ((UY (n+1) n p).symm.trans h) Tryz.func39 rfl rfl rfl rfl (by kernel_rfl)
noncomputable def Nl (n:Nat):Nat→List (FR R):=dB 39 ⟨qw,rQ,xZ n,bC R rQ,false⟩ (Nj n)
theorem U1 (n:Nat):bG E (Nl n):=bQ (Nk n) (aeQ n)
def aeR:dM:=⟨[],[]⟩
abbrev Ht:List Sk:=[.d (.st 0)]
abbrev DW:List Sk:=[.d (.int .i64)]
@[irreducible] noncomputable def vV (n:Nat) (p:ak R.T Ht):Option (ak R.T DW):=dS E R n false (Nl n) cB aeR Tryz.f15 Ht DW p
theorem aeS (n:Nat):j5 15 Ht DW (vV n):=fun _ _ h=>by unfold vV at h;exact okF (U1 n) h Tryz.func15 (by kernel_rfl)
noncomputable def Nn (n:Nat):Nat→List (FR R):=dB 15 ⟨Ht,DW,vV n,bC R DW,false⟩ (Nl n)
theorem Np (n:Nat):bG E (Nn n):=bQ (U1 n) (aeS n)
def DX:dM:=⟨[(4,⟨[1,2],[2],⟨[(5,.d (.int .i64))],[]⟩,[(.exit 0,⟨[],[]⟩),(.ret,⟨[(4,.d .bool)],[]⟩)]⟩)],[]⟩
abbrev qx:List Sk:=[.d (.st 0),.d (.int .i64)]
abbrev rU:List Sk:=[.d .bool]
def rV:Nat→List Sk
 |_=>qx
def nY:Nat→List Sk
 |_=>rU
def aeT:Nat→dM
 |_=>DX
noncomputable def aeU:Nat→Func
 |_=>Tryz.f10
noncomputable def DY (n:Nat) (g:(i:Nat)→ak R.T (rV i)→Option (ak R.T (nY i))):Nat→List (FR R):=dB 10 ⟨rV 0,nY 0,g 0,bC R (nY 0),false⟩ (Nn n)
noncomputable def nZ (n:Nat):Nat→(i:Nat)→ak R.T (rV i)→Option (ak R.T (nY i))
 |0,_,_=>none
 |m+1,i,p=>dS E R n false (DY n (nZ n m)) cB (aeT i) (aeU i) (rV i) (nY i) p
attribute [irreducible] nZ
theorem U2 (n m:Nat) (p:ak R.T qx):nZ n (m+1) 0 p=dS E R n false (DY n (nZ n m)) cB DX Tryz.f10 qx rU p:=by kernel_rfl
theorem U3 (n:Nat) (p:ak R.T qx):nZ n 0 0 p=none:=by kernel_rfl
theorem aeV (n:Nat) (p:ak R.T (rV 0)) (x:ak R.T (nY 0)) (h:nZ n 0 0 p=some x):Pure E 10 (aI R (rV 0) p) (bT (aI R (nY 0) x)):=absurd ((U3 n p).symm.trans h) nofun
theorem aeW (n m:Nat) (hk:bG E (DY n (nZ n m))) (p:ak R.T (rV 0)) (x:ak R.T (nY 0)) (h:nZ n (m+1) 0 p=some x):Pure E 10 (aI R (rV 0) p) (bT (aI R (nY 0) x)):=
 gX (args:=qx) (res:=rU) gQ hk gY ((U2 n m p).symm.trans h) Tryz.func10 rfl rfl rfl rfl (by kernel_rfl)
theorem U4 (n:Nat):∀m,bG E (DY n (nZ n m))
 |0=>bQ (f:=10) (r:=⟨rV 0,nY 0,nZ n 0 0,bC R (nY 0),false⟩) (Np n) (aeV n)
 |m+1=>bQ (f:=10) (r:=⟨rV 0,nY 0,nZ n (m+1) 0,bC R (nY 0),false⟩) (Np n) (aeW n m (U4 n m))
@[irreducible] noncomputable def AZ (n m:Nat) (p:ak R.T qx):Option (ak R.T rU):=nZ n m 0 p
@[irreducible] noncomputable def vW (n:Nat) (p:ak R.T qx):Option (ak R.T rU):=AZ n n p
theorem aeX (n:Nat) (p:ak R.T qx) (x:ak R.T rU) (h:vW n p=some x):Pure E 10 (aI R qx p) (bT (aI R rU x)):=by
 unfold vW AZ at h
 cases n with
 |zero=>exact absurd ((U3 0 p).symm.trans h) nofun
 |succ n=>exact gX (args:=qx) (res:=rU) gQ (U4 (n+1) n) gY ((U2 (n+1) n p).symm.trans h) Tryz.func10 rfl rfl rfl rfl (by kernel_rfl)
noncomputable def U5 (n:Nat):Nat→List (FR R):=dB 10 ⟨qx,rU,vW n,bC R rU,false⟩ (Nn n)
theorem aeY (n:Nat):bG E (U5 n):=bQ (Np n) (aeX n)
abbrev DZ:List Sk:=[]
abbrev D5:List Sk:=[.d .bool]
@[irreducible] def vX (n:Nat) (p:ak R.T DZ):Option (ak R.T D5):=some true
theorem aeZ (n:Nat) (p:ak R.T DZ):vX n p=some true:=by unfold vX;rfl
theorem ae0 (n:Nat) (p:ak R.T DZ) (x:ak R.T D5) (h:vX n p=some x):Pure E 11 (aI R DZ p) (bT (aI R D5 x)):=by
 unfold vX at h
 exact aeF p x h
noncomputable def Nq (n:Nat):Nat→List (FR R):=dB 11 ⟨DZ,D5,vX n,bC R D5,false⟩ (U5 n)
theorem U6 (n:Nat):bG E (Nq n):=bQ (aeY n) (ae0 n)
def ae1:dM:=⟨[],[]⟩
abbrev Hu:List Sk:=[.d (.slice (.st 3)),.d (.st 0)]
abbrev D6:List Sk:=[.d .bool]
@[irreducible] noncomputable def A8 (n:Nat) (p:ak R.T Hu):Option (ak R.T D6):=dS E R n false (Nq n) cB ae1 Tryz.f62 Hu D6 p
theorem ae2 (n:Nat):j5 62 Hu D6 (A8 n):=fun _ _ h=>by unfold A8 at h;exact okF (U6 n) h Tryz.func62 (by kernel_rfl)
noncomputable def Nr (n:Nat):Nat→List (FR R):=dB 62 ⟨Hu,D6,A8 n,bC R D6,false⟩ (Nq n)
theorem U7 (n:Nat):bG E (Nr n):=bQ (U6 n) (ae2 n)
def ae3:dM:=⟨[],[]⟩
abbrev Hw:List Sk:=[.d (.st 3),.aH [.d .str] 0]
abbrev D7:List Sk:=[.d .bool]
@[irreducible] noncomputable def D8 (n:Nat) (p:ak R.T Hw):Option (ak R.T D7):=dS E R n false (Nr n) cB ae3 Tryz.f100 Hw D7 p
theorem ae4 (n:Nat):j5 100 Hw D7 (D8 n):=fun _ _ h=>by unfold D8 at h;exact okF (U7 n) h Tryz.func100 (by kernel_rfl)
noncomputable def Hy (n:Nat):Nat→List (FR R):=dB 100 ⟨Hw,D7,D8 n,bC R D7,false⟩ (Nr n)
theorem U8 (n:Nat):bG E (Hy n):=bQ (U7 n) (ae4 n)
def Hz:dM:=⟨[(2,⟨[0,1,7],[],⟨[(8,.d (.int .i64))],[]⟩,[(.exit 0,⟨[],[]⟩),(.ret,⟨[(4,.d (.int .i64))],[]⟩)]⟩)],[]⟩
abbrev HV:List Sk:=[.d (.slice (.st 3)),.fn 100 [] [.aH [.d .str] 0]]
abbrev D9:List Sk:=[.d (.int .i64)]
@[irreducible] noncomputable def Ea (n:Nat) (p:ak R.T HV):Option (ak R.T D9):=dS E R n false (Hy n) cB Hz Tryz.f99 HV D9 p
theorem ae5 (n:Nat):j5 99 HV D9 (Ea n):=fun _ _ h=>by unfold Ea at h;exact okF (U8 n) h Tryz.func99 (by kernel_rfl)
noncomputable def Ns (n:Nat):Nat→List (FR R):=dB 99 ⟨HV,D9,Ea n,bC R D9,false⟩ (Hy n)
theorem U9 (n:Nat):bG E (Ns n):=bQ (U8 n) (ae5 n)
def ae6:dM:=⟨[],[]⟩
abbrev HY:List Sk:=[.d (.slice (.st 3)),.d .str]
abbrev Eb:List Sk:=[.d (.st 3),.d .bool]
@[irreducible] noncomputable def vY (n:Nat) (p:ak R.T HY):Option (ak R.T Eb):=dS E R n false (Ns n) cB ae6 Tryz.f85 HY Eb p
theorem ae7 (n:Nat):j5 85 HY Eb (vY n):=fun _ _ h=>by unfold vY at h;exact okF (U9 n) h Tryz.func85 (by kernel_rfl)
noncomputable def Nt (n:Nat):Nat→List (FR R):=dB 85 ⟨HY,Eb,vY n,bC R Eb,false⟩ (Ns n)
theorem Va (n:Nat):bG E (Nt n):=bQ (U9 n) (ae7 n)
def ae8:dM:=⟨[],[]⟩
abbrev HZ:List Sk:=[.d (.slice (.st 3)),.d (.st 0)]
abbrev Ec:List Sk:=[.d .bool]
@[irreducible] noncomputable def A9 (n:Nat) (p:ak R.T HZ):Option (ak R.T Ec):=dS E R n false (Nt n) cB ae8 Tryz.f66 HZ Ec p
theorem ae9 (n:Nat):j5 66 HZ Ec (A9 n):=fun _ _ h=>by unfold A9 at h;exact okF (Va n) h Tryz.func66 (by kernel_rfl)
noncomputable def Nu (n:Nat):Nat→List (FR R):=dB 66 ⟨HZ,Ec,A9 n,bC R Ec,false⟩ (Nt n)
theorem Vb (n:Nat):bG E (Nu n):=bQ (Va n) (ae9 n)
def afa:dM:=⟨[],[]⟩
abbrev H6:List Sk:=[.d (.slice (.st 3)),.d (.st 0)]
abbrev Ed:List Sk:=[.d .bool]
@[irreducible] noncomputable def Ba (n:Nat) (p:ak R.T H6):Option (ak R.T Ed):=dS E R n false (Nu n) cB afa Tryz.f67 H6 Ed p
theorem afb (n:Nat):j5 67 H6 Ed (Ba n):=fun _ _ h=>by unfold Ba at h;exact okF (Vb n) h Tryz.func67 (by kernel_rfl)
noncomputable def Nv (n:Nat):Nat→List (FR R):=dB 67 ⟨H6,Ed,Ba n,bC R Ed,false⟩ (Nu n)
theorem Vd (n:Nat):bG E (Nv n):=bQ (Vb n) (afb n)
def afc:dM:=⟨[],[]⟩
abbrev H7:List Sk:=[.d (.slice (.st 3)),.d (.st 0)]
abbrev Ee:List Sk:=[.d .bool]
@[irreducible] noncomputable def Bb (n:Nat) (p:ak R.T H7):Option (ak R.T Ee):=dS E R n false (Nv n) cB afc Tryz.f68 H7 Ee p
theorem afd (n:Nat):j5 68 H7 Ee (Bb n):=fun _ _ h=>by unfold Bb at h;exact okF (Vd n) h Tryz.func68 (by kernel_rfl)
noncomputable def Nw (n:Nat):Nat→List (FR R):=dB 68 ⟨H7,Ee,Bb n,bC R Ee,false⟩ (Nv n)
theorem Ny (n:Nat):bG E (Nw n):=bQ (Vd n) (afd n)
def Ve:dM:=⟨[],[]⟩
abbrev qy:List Sk:=[.d (.slice (.st 3)),.d (.st 0)]
abbrev rW:List Sk:=[.d .bool]
def Ef:dM:=⟨[(2,⟨[0,8,9],[],⟨[(10,.d (.int .i64))],[]⟩,[(.exit 0,⟨[],[]⟩),(.ret,⟨[(4,.d .bool)],[]⟩)]⟩)],[]⟩
abbrev qz:List Sk:=[.d (.slice (.st 3)),.d (.st 0)]
abbrev rX:List Sk:=[.d .bool]
def Vf:dM:=⟨[],[]⟩
abbrev qA:List Sk:=[.d (.slice (.st 3)),.d (.st 0)]
abbrev rY:List Sk:=[.d .bool]
def Vg:dM:=⟨[],[]⟩
abbrev qB:List Sk:=[.d (.slice (.st 0)),.fn 36 [.d (.slice (.st 3))] []]
abbrev rZ:List Sk:=[.d .bool]
def Eh:dM:=⟨[(2,⟨[0,1,7],[],⟨[(8,.d (.int .i64))],[]⟩,[(.exit 0,⟨[],[]⟩),(.ret,⟨[(4,.d (.int .i64))],[]⟩)]⟩)],[]⟩
abbrev qC:List Sk:=[.d (.slice (.st 0)),.fn 36 [.d (.slice (.st 3))] []]
abbrev sj:List Sk:=[.d (.int .i64)]
def Vh:dM:=⟨[],[]⟩
abbrev qD:List Sk:=[.d (.slice (.st 3)),.d (.st 0)]
abbrev su:List Sk:=[.d .bool]
def dD:Nat→List Sk
 |0=>qy
 |1=>qz
 |2=>qA
 |3=>qB
 |4=>qC
 |_=>qD
def bH:Nat→List Sk
 |0=>rW
 |1=>rX
 |2=>rY
 |3=>rZ
 |4=>sj
 |_=>su
def afe:Nat→dM
 |0=>Ve
 |1=>Ef
 |2=>Vf
 |3=>Vg
 |4=>Eh
 |_=>Vh
noncomputable def aff:Nat→Func
 |0=>Tryz.f36
 |1=>Tryz.f63
 |2=>Tryz.f64
 |3=>Tryz.f84
 |4=>Tryz.f98
 |_=>Tryz.f65
noncomputable def kZ (n:Nat) (g:(i:Nat)→ak R.T (dD i)→Option (ak R.T (bH i))):Nat→List (FR R):=dB 65 ⟨dD 5,bH 5,g 5,bC R (bH 5),false⟩ (dB 98 ⟨dD 4,bH 4,g 4,bC R (bH 4),false⟩ (dB 84 ⟨dD 3,bH 3,g 3,bC R (bH 3),false⟩ (dB 64 ⟨dD 2,bH 2,g 2,bC R (bH 2),false⟩ (dB 63 ⟨dD 1,bH 1,g 1,bC R (bH 1),false⟩ (dB 36 ⟨dD 0,bH 0,g 0,bC R (bH 0),false⟩ (Nw n))))))
noncomputable def bK (n:Nat):Nat→(i:Nat)→ak R.T (dD i)→Option (ak R.T (bH i))
 |0,_,_=>none
 |m+1,i,p=>dS E R n false (kZ n (bK n m)) cB (afe i) (aff i) (dD i) (bH i) p
attribute [irreducible] bK
theorem Vi (n m:Nat) (p:ak R.T qy):bK n (m+1) 0 p=dS E R n false (kZ n (bK n m)) cB Ve Tryz.f36 qy rW p:=by kernel_rfl
theorem Vj (n m:Nat) (p:ak R.T qz):bK n (m+1) 1 p=dS E R n false (kZ n (bK n m)) cB Ef Tryz.f63 qz rX p:=by kernel_rfl
theorem Vk (n m:Nat) (p:ak R.T qA):bK n (m+1) 2 p=dS E R n false (kZ n (bK n m)) cB Vf Tryz.f64 qA rY p:=by kernel_rfl
theorem Vl (n m:Nat) (p:ak R.T qB):bK n (m+1) 3 p=dS E R n false (kZ n (bK n m)) cB Vg Tryz.f84 qB rZ p:=by kernel_rfl
theorem Vm (n m:Nat) (p:ak R.T qC):bK n (m+1) 4 p=dS E R n false (kZ n (bK n m)) cB Eh Tryz.f98 qC sj p:=by kernel_rfl
theorem Vn (n m:Nat) (p:ak R.T qD):bK n (m+1) 5 p=dS E R n false (kZ n (bK n m)) cB Vh Tryz.f65 qD su p:=by kernel_rfl
theorem Vo (n:Nat) (p:ak R.T qy):bK n 0 0 p=none:=by kernel_rfl
theorem afg (n:Nat) (p:ak R.T (dD 0)) (x:ak R.T (bH 0)) (h:bK n 0 0 p=some x):Pure E 36 (aI R (dD 0) p) (bT (aI R (bH 0) x)):=absurd ((Vo n p).symm.trans h) nofun
theorem Vp (n:Nat) (p:ak R.T qz):bK n 0 1 p=none:=by kernel_rfl
theorem afh (n:Nat) (p:ak R.T (dD 1)) (x:ak R.T (bH 1)) (h:bK n 0 1 p=some x):Pure E 63 (aI R (dD 1) p) (bT (aI R (bH 1) x)):=absurd ((Vp n p).symm.trans h) nofun
theorem Vq (n:Nat) (p:ak R.T qA):bK n 0 2 p=none:=by kernel_rfl
theorem afi (n:Nat) (p:ak R.T (dD 2)) (x:ak R.T (bH 2)) (h:bK n 0 2 p=some x):Pure E 64 (aI R (dD 2) p) (bT (aI R (bH 2) x)):=absurd ((Vq n p).symm.trans h) nofun
theorem Vr (n:Nat) (p:ak R.T qB):bK n 0 3 p=none:=by kernel_rfl
theorem afj (n:Nat) (p:ak R.T (dD 3)) (x:ak R.T (bH 3)) (h:bK n 0 3 p=some x):Pure E 84 (aI R (dD 3) p) (bT (aI R (bH 3) x)):=absurd ((Vr n p).symm.trans h) nofun
theorem Vs (n:Nat) (p:ak R.T qC):bK n 0 4 p=none:=by kernel_rfl
theorem afk (n:Nat) (p:ak R.T (dD 4)) (x:ak R.T (bH 4)) (h:bK n 0 4 p=some x):Pure E 98 (aI R (dD 4) p) (bT (aI R (bH 4) x)):=absurd ((Vs n p).symm.trans h) nofun
theorem Vt (n:Nat) (p:ak R.T qD):bK n 0 5 p=none:=by kernel_rfl
theorem afl (n:Nat) (p:ak R.T (dD 5)) (x:ak R.T (bH 5)) (h:bK n 0 5 p=some x):Pure E 65 (aI R (dD 5) p) (bT (aI R (bH 5) x)):=absurd ((Vt n p).symm.trans h) nofun
theorem afm (n m:Nat) (hk:bG E (kZ n (bK n m))) (p:ak R.T (dD 0)) (x:ak R.T (bH 0)) (h:bK n (m+1) 0 p=some x):Pure E 36 (aI R (dD 0) p) (bT (aI R (bH 0) x)):=
 gX (args:=qy) (res:=rW) gQ hk gY ((Vi n m p).symm.trans h) Tryz.func36 rfl rfl rfl rfl (by kernel_rfl)
theorem afn (n m:Nat) (hk:bG E (kZ n (bK n m))) (p:ak R.T (dD 1)) (x:ak R.T (bH 1)) (h:bK n (m+1) 1 p=some x):Pure E 63 (aI R (dD 1) p) (bT (aI R (bH 1) x)):=
 gX (args:=qz) (res:=rX) gQ hk gY ((Vj n m p).symm.trans h) Tryz.func63 rfl rfl rfl rfl (by kernel_rfl)
theorem afo (n m:Nat) (hk:bG E (kZ n (bK n m))) (p:ak R.T (dD 2)) (x:ak R.T (bH 2)) (h:bK n (m+1) 2 p=some x):Pure E 64 (aI R (dD 2) p) (bT (aI R (bH 2) x)):=
 gX (args:=qA) (res:=rY) gQ hk gY ((Vk n m p).symm.trans h) Tryz.func64 rfl rfl rfl rfl (by kernel_rfl)
theorem afp (n m:Nat) (hk:bG E (kZ n (bK n m))) (p:ak R.T (dD 3)) (x:ak R.T (bH 3)) (h:bK n (m+1) 3 p=some x):Pure E 84 (aI R (dD 3) p) (bT (aI R (bH 3) x)):=
 gX (args:=qB) (res:=rZ) gQ hk gY ((Vl n m p).symm.trans h) Tryz.func84 rfl rfl rfl rfl (by kernel_rfl)
theorem afq (n m:Nat) (hk:bG E (kZ n (bK n m))) (p:ak R.T (dD 4)) (x:ak R.T (bH 4)) (h:bK n (m+1) 4 p=some x):Pure E 98 (aI R (dD 4) p) (bT (aI R (bH 4) x)):=
 gX (args:=qC) (res:=sj) gQ hk gY ((Vm n m p).symm.trans h) Tryz.func98 rfl rfl rfl rfl (by kernel_rfl)
theorem afr (n m:Nat) (hk:bG E (kZ n (bK n m))) (p:ak R.T (dD 5)) (x:ak R.T (bH 5)) (h:bK n (m+1) 5 p=some x):Pure E 65 (aI R (dD 5) p) (bT (aI R (bH 5) x)):=
 gX (args:=qD) (res:=su) gQ hk gY ((Vn n m p).symm.trans h) Tryz.func65 rfl rfl rfl rfl (by kernel_rfl)
theorem o8 (n:Nat):∀m,bG E (kZ n (bK n m))
 |0=>bQ (f:=65) (r:=⟨dD 5,bH 5,bK n 0 5,bC R (bH 5),false⟩) (bQ (f:=98) (r:=⟨dD 4,bH 4,bK n 0 4,bC R (bH 4),false⟩) (bQ (f:=84) (r:=⟨dD 3,bH 3,bK n 0 3,bC R (bH 3),false⟩) (bQ (f:=64) (r:=⟨dD 2,bH 2,bK n 0 2,bC R (bH 2),false⟩) (bQ (f:=63) (r:=⟨dD 1,bH 1,bK n 0 1,bC R (bH 1),false⟩) (bQ (f:=36) (r:=⟨dD 0,bH 0,bK n 0 0,bC R (bH 0),false⟩) (Ny n) (afg n)) (afh n)) (afi n)) (afj n)) (afk n)) (afl n)
 |m+1=>bQ (f:=65) (r:=⟨dD 5,bH 5,bK n (m+1) 5,bC R (bH 5),false⟩) (bQ (f:=98) (r:=⟨dD 4,bH 4,bK n (m+1) 4,bC R (bH 4),false⟩) (bQ (f:=84) (r:=⟨dD 3,bH 3,bK n (m+1) 3,bC R (bH 3),false⟩) (bQ (f:=64) (r:=⟨dD 2,bH 2,bK n (m+1) 2,bC R (bH 2),false⟩) (bQ (f:=63) (r:=⟨dD 1,bH 1,bK n (m+1) 1,bC R (bH 1),false⟩) (bQ (f:=36) (r:=⟨dD 0,bH 0,bK n (m+1) 0,bC R (bH 0),false⟩) (Ny n) (afm n m (o8 n m))) (afn n m (o8 n m))) (afo n m (o8 n m))) (afp n m (o8 n m))) (afq n m (o8 n m))) (afr n m (o8 n m))
@[irreducible] noncomputable def sw (n m:Nat) (p:ak R.T qy):Option (ak R.T rW):=bK n m 0 p
@[irreducible] noncomputable def Bc (n:Nat) (p:ak R.T qy):Option (ak R.T rW):=sw n n p
theorem afs (n:Nat) (p:ak R.T qy) (x:ak R.T rW) (h:Bc n p=some x):Pure E 36 (aI R qy p) (bT (aI R rW x)):=by
 unfold Bc sw at h
 cases n with
 |zero=>exact absurd ((Vo 0 p).symm.trans h) nofun
 |succ n=>exact gX (args:=qy) (res:=rW) gQ (o8 (n+1) n) gY ((Vi (n+1) n p).symm.trans h) Tryz.func36 rfl rfl rfl rfl (by kernel_rfl)
@[irreducible] noncomputable def Ei (n m:Nat) (p:ak R.T qz):Option (ak R.T rX):=bK n m 1 p
@[irreducible] noncomputable def Nz (n:Nat) (p:ak R.T qz):Option (ak R.T rX):=Ei n n p
theorem afu (n:Nat) (p:ak R.T qz) (x:ak R.T rX) (h:Nz n p=some x):Pure E 63 (aI R qz p) (bT (aI R rX x)):=by
 unfold Nz Ei at h
 cases n with
 |zero=>exact absurd ((Vp 0 p).symm.trans h) nofun
 |succ n=>exact gX (args:=qz) (res:=rX) gQ (o8 (n+1) n) gY ((Vj (n+1) n p).symm.trans h) Tryz.func63 rfl rfl rfl rfl (by kernel_rfl)
@[irreducible] noncomputable def Bd (n m:Nat) (p:ak R.T qA):Option (ak R.T rY):=bK n m 2 p
@[irreducible] noncomputable def NA (n:Nat) (p:ak R.T qA):Option (ak R.T rY):=Bd n n p
theorem afv (n:Nat) (p:ak R.T qA) (x:ak R.T rY) (h:NA n p=some x):Pure E 64 (aI R qA p) (bT (aI R rY x)):=by
 unfold NA Bd at h
 cases n with
 |zero=>exact absurd ((Vq 0 p).symm.trans h) nofun
 |succ n=>exact gX (args:=qA) (res:=rY) gQ (o8 (n+1) n) gY ((Vk (n+1) n p).symm.trans h) Tryz.func64 rfl rfl rfl rfl (by kernel_rfl)
@[irreducible] noncomputable def Ej (n m:Nat) (p:ak R.T qB):Option (ak R.T rZ):=bK n m 3 p
@[irreducible] noncomputable def NC (n:Nat) (p:ak R.T qB):Option (ak R.T rZ):=Ej n n p
theorem afw (n:Nat) (p:ak R.T qB) (x:ak R.T rZ) (h:NC n p=some x):Pure E 84 (aI R qB p) (bT (aI R rZ x)):=by
 unfold NC Ej at h
 cases n with
 |zero=>exact absurd ((Vr 0 p).symm.trans h) nofun
 |succ n=>exact gX (args:=qB) (res:=rZ) gQ (o8 (n+1) n) gY ((Vl (n+1) n p).symm.trans h) Tryz.func84 rfl rfl rfl rfl (by kernel_rfl)
@[irreducible] noncomputable def H8 (n m:Nat) (p:ak R.T qC):Option (ak R.T sj):=bK n m 4 p
@[irreducible] noncomputable def ND (n:Nat) (p:ak R.T qC):Option (ak R.T sj):=H8 n n p
theorem afx (n:Nat) (p:ak R.T qC) (x:ak R.T sj) (h:ND n p=some x):Pure E 98 (aI R qC p) (bT (aI R sj x)):=by
 unfold ND H8 at h
 cases n with
 |zero=>exact absurd ((Vs 0 p).symm.trans h) nofun
 |succ n=>exact gX (args:=qC) (res:=sj) gQ (o8 (n+1) n) gY ((Vm (n+1) n p).symm.trans h) Tryz.func98 rfl rfl rfl rfl (by kernel_rfl)
@[irreducible] noncomputable def El (n m:Nat) (p:ak R.T qD):Option (ak R.T su):=bK n m 5 p
@[irreducible] noncomputable def NG (n:Nat) (p:ak R.T qD):Option (ak R.T su):=El n n p
theorem afy (n:Nat) (p:ak R.T qD) (x:ak R.T su) (h:NG n p=some x):Pure E 65 (aI R qD p) (bT (aI R su x)):=by
 unfold NG El at h
 cases n with
 |zero=>exact absurd ((Vt 0 p).symm.trans h) nofun
 |succ n=>exact gX (args:=qD) (res:=su) gQ (o8 (n+1) n) gY ((Vn (n+1) n p).symm.trans h) Tryz.func65 rfl rfl rfl rfl (by kernel_rfl)
noncomputable def Vu (n:Nat):Nat→List (FR R):=dB 36 ⟨qy,rW,Bc n,bC R rW,false⟩ (Nw n)
theorem afz (n:Nat):bG E (Vu n):=bQ (Ny n) (afs n)
noncomputable def Vv (n:Nat):Nat→List (FR R):=dB 63 ⟨qz,rX,Nz n,bC R rX,false⟩ (Vu n)
theorem afA (n:Nat):bG E (Vv n):=bQ (afz n) (afu n)
noncomputable def Vw (n:Nat):Nat→List (FR R):=dB 64 ⟨qA,rY,NA n,bC R rY,false⟩ (Vv n)
theorem afB (n:Nat):bG E (Vw n):=bQ (afA n) (afv n)
noncomputable def Vx (n:Nat):Nat→List (FR R):=dB 84 ⟨qB,rZ,NC n,bC R rZ,false⟩ (Vw n)
theorem afC (n:Nat):bG E (Vx n):=bQ (afB n) (afw n)
noncomputable def Vy (n:Nat):Nat→List (FR R):=dB 98 ⟨qC,sj,ND n,bC R sj,false⟩ (Vx n)
theorem afD (n:Nat):bG E (Vy n):=bQ (afC n) (afx n)
noncomputable def NH (n:Nat):Nat→List (FR R):=dB 65 ⟨qD,su,NG n,bC R su,false⟩ (Vy n)
theorem Vz (n:Nat):bG E (NH n):=bQ (afD n) (afy n)
def afE:dM:=⟨[],[]⟩
abbrev H9:List Sk:=[.d (.st 0),.d (.slice (.st 3))]
abbrev Em:List Sk:=[.d .bool]
@[irreducible] noncomputable def Bf (n:Nat) (p:ak R.T H9):Option (ak R.T Em):=dS E R n false (NH n) cB afE Tryz.f12 H9 Em p
theorem afF (n:Nat):j5 12 H9 Em (Bf n):=fun _ _ h=>by unfold Bf at h;exact okF (Vz n) h Tryz.func12 (by kernel_rfl)
noncomputable def Ia (n:Nat):Nat→List (FR R):=dB 12 ⟨H9,Em,Bf n,bC R Em,false⟩ (NH n)
theorem VA (n:Nat):bG E (Ia n):=bQ (Vz n) (afF n)
def Ib:dM:=⟨[(2,⟨[0,1,4],[],⟨[(5,.d (.int .i64))],[(4,.st 5)]⟩,[(.exit 0,⟨[],[(4,.st 5)]⟩),(.ret,⟨[],[(4,.st 5)]⟩)]⟩)],[]⟩
abbrev Ic:List Sk:=[.d (.slice (.st 3)),.d .str]
abbrev En:List Sk:=[.d (.st 5)]
@[irreducible] noncomputable def vZ (n:Nat) (p:ak R.T Ic):Option (ak R.T En):=dS E R n false (Ia n) cB Ib Tryz.f37 Ic En p
theorem afG (n:Nat):j5 37 Ic En (vZ n):=fun _ _ h=>by unfold vZ at h;exact okF (VA n) h Tryz.func37 (by kernel_rfl)
noncomputable def NI (n:Nat):Nat→List (FR R):=dB 37 ⟨Ic,En,vZ n,bC R En,false⟩ (Ia n)
theorem NJ (n:Nat):bG E (NI n):=bQ (VA n) (afG n)
def Eo:dM:=⟨[(3,⟨[1,2],[2],⟨[(5,.d (.int .i64)),(6,.d (.int .i64))],[]⟩,[(.exit 0,⟨[(5,.d (.int .i64))],[]⟩)]⟩)],[]⟩
abbrev qE:List Sk:=[.d (.st 0),.d (.slice (.st 3))]
abbrev sD:List Sk:=[.d .bool]
def sF:Nat→List Sk
 |_=>qE
def og:Nat→List Sk
 |_=>sD
def afH:Nat→dM
 |_=>Eo
noncomputable def afI:Nat→Func
 |_=>Tryz.f13
noncomputable def Ep (n:Nat) (g:(i:Nat)→ak R.T (sF i)→Option (ak R.T (og i))):Nat→List (FR R):=dB 13 ⟨sF 0,og 0,g 0,bC R (og 0),false⟩ (NI n)
noncomputable def oh (n:Nat):Nat→(i:Nat)→ak R.T (sF i)→Option (ak R.T (og i))
 |0,_,_=>none
 |m+1,i,p=>dS E R n false (Ep n (oh n m)) cB (afH i) (afI i) (sF i) (og i) p
attribute [irreducible] oh
theorem VB (n m:Nat) (p:ak R.T qE):oh n (m+1) 0 p=dS E R n false (Ep n (oh n m)) cB Eo Tryz.f13 qE sD p:=by kernel_rfl
theorem VD (n:Nat) (p:ak R.T qE):oh n 0 0 p=none:=by kernel_rfl
theorem afJ (n:Nat) (p:ak R.T (sF 0)) (x:ak R.T (og 0)) (h:oh n 0 0 p=some x):Pure E 13 (aI R (sF 0) p) (bT (aI R (og 0) x)):=absurd ((VD n p).symm.trans h) nofun
theorem afK (n m:Nat) (hk:bG E (Ep n (oh n m))) (p:ak R.T (sF 0)) (x:ak R.T (og 0)) (h:oh n (m+1) 0 p=some x):Pure E 13 (aI R (sF 0) p) (bT (aI R (og 0) x)):=
 gX (args:=qE) (res:=sD) gQ hk gY ((VB n m p).symm.trans h) Tryz.func13 rfl rfl rfl rfl (by kernel_rfl)
theorem VE (n:Nat):∀m,bG E (Ep n (oh n m))
 |0=>bQ (f:=13) (r:=⟨sF 0,og 0,oh n 0 0,bC R (og 0),false⟩) (NJ n) (afJ n)
 |m+1=>bQ (f:=13) (r:=⟨sF 0,og 0,oh n (m+1) 0,bC R (og 0),false⟩) (NJ n) (afK n m (VE n m))
@[irreducible] noncomputable def Bg (n m:Nat) (p:ak R.T qE):Option (ak R.T sD):=oh n m 0 p
@[irreducible] noncomputable def x9 (n:Nat) (p:ak R.T qE):Option (ak R.T sD):=Bg n n p
theorem afL (n:Nat) (p:ak R.T qE) (x:ak R.T sD) (h:x9 n p=some x):Pure E 13 (aI R qE p) (bT (aI R sD x)):=by
 unfold x9 Bg at h
 cases n with
 |zero=>exact absurd ((VD 0 p).symm.trans h) nofun
 |succ n=>exact gX (args:=qE) (res:=sD) gQ (VE (n+1) n) gY ((VB (n+1) n p).symm.trans h) Tryz.func13 rfl rfl rfl rfl (by kernel_rfl)
noncomputable def NK (n:Nat):Nat→List (FR R):=dB 13 ⟨qE,sD,x9 n,bC R sD,false⟩ (NI n)
theorem VF (n:Nat):bG E (NK n):=bQ (NJ n) (afL n)
def afM:dM:=⟨[],[]⟩
abbrev Ie:List Sk:=[.d (.st 0)]
abbrev Er:List Sk:=[.fn 69 [] [.aH [.d (.int .i64),.d .str,.d (.int .i64),.d (.int .i64),.d .str,.d (.slice (.st 0))] 0]]
@[irreducible] noncomputable def Es (n:Nat) (p:ak R.T Ie):Option (ak R.T Er):=dS E R n false (NK n) cB afM Tryz.f38 Ie Er p
theorem afN (n:Nat):j5 38 Ie Er (Es n):=fun _ _ h=>by unfold Es at h;exact okF (VF n) h Tryz.func38 (by kernel_rfl)
noncomputable def Ig (n:Nat):Nat→List (FR R):=dB 38 ⟨Ie,Er,Es n,bC R Er,false⟩ (NK n)
theorem VG (n:Nat):bG E (Ig n):=bQ (VF n) (afN n)
def Ih:dM:=⟨[(3,⟨[3],[],⟨[],[(3,.cells [.d (.int .i64)])]⟩,[(.normal,⟨[],[(3,.cells [.d (.int .i64)])]⟩),(.exit 0,⟨[],[(3,.cells [.d (.int .i64)])]⟩)]⟩)],[]⟩
abbrev Ii:List Sk:=[.d (.st 0)]
abbrev Et:List Sk:=[.d (.int .i64)]
@[irreducible] noncomputable def Bh (n:Nat) (p:ak R.T Ii):Option (ak R.T Et):=dS E R n false (Ig n) cB Ih Tryz.f14 Ii Et p
theorem afO (n:Nat):j5 14 Ii Et (Bh n):=fun _ _ h=>by unfold Bh at h;exact okF (VG n) h Tryz.func14 (by kernel_rfl)
noncomputable def NM (n:Nat):Nat→List (FR R):=dB 14 ⟨Ii,Et,Bh n,bC R Et,false⟩ (Ig n)
theorem VH (n:Nat):bG E (NM n):=bQ (VG n) (afO n)
def afP:dM:=⟨[],[]⟩
abbrev Ij:List Sk:=[.d (.int .i64)]
abbrev Eu:List Sk:=[.d .bool]
@[irreducible] noncomputable def cmp_isNaN_int (n:Nat) (p:ak R.T Ij):Option (ak R.T Eu):=dS E R n false (NM n) cB afP Tryz.f71 Ij Eu p
theorem afQ (n:Nat):j5 71 Ij Eu (cmp_isNaN_int n):=fun _ _ h=>by unfold cmp_isNaN_int at h;exact okF (VH n) h Tryz.func71 (by kernel_rfl)
noncomputable def NP (n:Nat):Nat→List (FR R):=dB 71 ⟨Ij,Eu,cmp_isNaN_int n,bC R Eu,false⟩ (NM n)
theorem VI (n:Nat):bG E (NP n):=bQ (VH n) (afQ n)
def afR:dM:=⟨[],[]⟩
abbrev Ik:List Sk:=[.d (.int .i64),.d (.int .i64)]
abbrev Ev:List Sk:=[.d (.int .i64)]
@[irreducible] noncomputable def cmp_Compare_int (n:Nat) (p:ak R.T Ik):Option (ak R.T Ev):=dS E R n false (NP n) cB afR Tryz.f41 Ik Ev p
theorem afS (n:Nat):j5 41 Ik Ev (cmp_Compare_int n):=fun _ _ h=>by unfold cmp_Compare_int at h;exact okF (VI n) h Tryz.func41 (by kernel_rfl)
noncomputable def VJ (n:Nat):Nat→List (FR R):=dB 41 ⟨Ik,Ev,cmp_Compare_int n,bC R Ev,false⟩ (NP n)
theorem afT (n:Nat):bG E (VJ n):=bQ (VI n) (afS n)
abbrev Il:List Sk:=[.d .str,.d .str]
abbrev Ew:List Sk:=[.d (.int .i64)]
@[irreducible] def strings_Compare (n:Nat) (p:ak R.T Il):Option (ak R.T Ew):=some (qp p.1 p.2)
theorem afU (n:Nat) (p:ak R.T Il) (x:ak R.T Ew) (h:strings_Compare n p=some x):Pure E 42 (aI R Il p) (bT (aI R Ew x)):=by
 unfold strings_Compare at h
 exact aeG p x h
noncomputable def Im (n:Nat):Nat→List (FR R):=dB 42 ⟨Il,Ew,strings_Compare n,bC R Ew,false⟩ (VJ n)
theorem VK (n:Nat):bG E (Im n):=bQ (afT n) (afU n)
def Io:dM:=⟨[(3,⟨[3,6,7],[],⟨[(8,.d (.int .i64))],[]⟩,[(.exit 0,⟨[],[]⟩),(.ret,⟨[(2,.d (.int .i64))],[]⟩)]⟩)],[]⟩
abbrev Ip:List Sk:=[.d (.slice (.int .i64))]
abbrev Ey:List Sk:=[.d (.int .i64)]
@[irreducible] noncomputable def Bj (n:Nat) (p:ak R.T Ip):Option (ak R.T Ey):=dS E R n false (Im n) cB Io Tryz.f40 Ip Ey p
theorem afV (n:Nat):j5 40 Ip Ey (Bj n):=fun _ _ h=>by unfold Bj at h;exact okF (VK n) h Tryz.func40 (by kernel_rfl)
noncomputable def NR (n:Nat):Nat→List (FR R):=dB 40 ⟨Ip,Ey,Bj n,bC R Ey,false⟩ (Im n)
theorem NS (n:Nat):bG E (NR n):=bQ (VK n) (afV n)
def VL:dM:=⟨[],[]⟩
abbrev qF:List Sk:=[.d (.st 0),.d (.st 0)]
abbrev sG:List Sk:=[.d (.int .i64)]
def Ez:dM:=⟨[(2,⟨[0,1,2,11,12],[],⟨[(13,.d (.int .i64))],[]⟩,[(.exit 0,⟨[],[]⟩),(.ret,⟨[(6,.d (.int .i64))],[]⟩)]⟩)],[]⟩
abbrev qG:List Sk:=[.d (.slice (.st 0)),.d (.slice (.st 0)),.fn 16 [] []]
abbrev sH:List Sk:=[.d (.int .i64)]
def kJ:Nat→List Sk
 |0=>qF
 |_=>qG
def iL:Nat→List Sk
 |0=>sG
 |_=>sH
def afW:Nat→dM
 |0=>VL
 |_=>Ez
noncomputable def afX:Nat→Func
 |0=>Tryz.f16
 |_=>Tryz.f43
noncomputable def yg (n:Nat) (g:(i:Nat)→ak R.T (kJ i)→Option (ak R.T (iL i))):Nat→List (FR R):=dB 43 ⟨kJ 1,iL 1,g 1,bC R (iL 1),false⟩ (dB 16 ⟨kJ 0,iL 0,g 0,bC R (iL 0),false⟩ (NR n))
noncomputable def iW (n:Nat):Nat→(i:Nat)→ak R.T (kJ i)→Option (ak R.T (iL i))
 |0,_,_=>none
 |m+1,i,p=>dS E R n false (yg n (iW n m)) cB (afW i) (afX i) (kJ i) (iL i) p
attribute [irreducible] iW
theorem VN (n m:Nat) (p:ak R.T qF):iW n (m+1) 0 p=dS E R n false (yg n (iW n m)) cB VL Tryz.f16 qF sG p:=by kernel_rfl
theorem VO (n m:Nat) (p:ak R.T qG):iW n (m+1) 1 p=dS E R n false (yg n (iW n m)) cB Ez Tryz.f43 qG sH p:=by kernel_rfl
theorem VP (n:Nat) (p:ak R.T qF):iW n 0 0 p=none:=by kernel_rfl
theorem afY (n:Nat) (p:ak R.T (kJ 0)) (x:ak R.T (iL 0)) (h:iW n 0 0 p=some x):Pure E 16 (aI R (kJ 0) p) (bT (aI R (iL 0) x)):=absurd ((VP n p).symm.trans h) nofun
theorem VQ (n:Nat) (p:ak R.T qG):iW n 0 1 p=none:=by kernel_rfl
theorem afZ (n:Nat) (p:ak R.T (kJ 1)) (x:ak R.T (iL 1)) (h:iW n 0 1 p=some x):Pure E 43 (aI R (kJ 1) p) (bT (aI R (iL 1) x)):=absurd ((VQ n p).symm.trans h) nofun
theorem af0 (n m:Nat) (hk:bG E (yg n (iW n m))) (p:ak R.T (kJ 0)) (x:ak R.T (iL 0)) (h:iW n (m+1) 0 p=some x):Pure E 16 (aI R (kJ 0) p) (bT (aI R (iL 0) x)):=
 gX (args:=qF) (res:=sG) gQ hk gY ((VN n m p).symm.trans h) Tryz.func16 rfl rfl rfl rfl (by kernel_rfl)
theorem af2 (n m:Nat) (hk:bG E (yg n (iW n m))) (p:ak R.T (kJ 1)) (x:ak R.T (iL 1)) (h:iW n (m+1) 1 p=some x):Pure E 43 (aI R (kJ 1) p) (bT (aI R (iL 1) x)):=
 gX (args:=qG) (res:=sH) gQ hk gY ((VO n m p).symm.trans h) Tryz.func43 rfl rfl rfl rfl (by kernel_rfl)
theorem Iq (n:Nat):∀m,bG E (yg n (iW n m))
 |0=>bQ (f:=43) (r:=⟨kJ 1,iL 1,iW n 0 1,bC R (iL 1),false⟩) (bQ (f:=16) (r:=⟨kJ 0,iL 0,iW n 0 0,bC R (iL 0),false⟩) (NS n) (afY n)) (afZ n)
 |m+1=>bQ (f:=43) (r:=⟨kJ 1,iL 1,iW n (m+1) 1,bC R (iL 1),false⟩) (bQ (f:=16) (r:=⟨kJ 0,iL 0,iW n (m+1) 0,bC R (iL 0),false⟩) (NS n) (af0 n m (Iq n m))) (af2 n m (Iq n m))
@[irreducible] noncomputable def yh (n m:Nat) (p:ak R.T qF):Option (ak R.T sG):=iW n m 0 p
@[irreducible] noncomputable def yj (n:Nat) (p:ak R.T qF):Option (ak R.T sG):=yh n n p
theorem af3 (n:Nat) (p:ak R.T qF) (x:ak R.T sG) (h:yj n p=some x):Pure E 16 (aI R qF p) (bT (aI R sG x)):=by
 unfold yj yh at h
 cases n with
 |zero=>exact absurd ((VP 0 p).symm.trans h) nofun
 |succ n=>exact gX (args:=qF) (res:=sG) gQ (Iq (n+1) n) gY ((VN (n+1) n p).symm.trans h) Tryz.func16 rfl rfl rfl rfl (by kernel_rfl)
@[irreducible] noncomputable def EA (n m:Nat) (p:ak R.T qG):Option (ak R.T sH):=iW n m 1 p
@[irreducible] noncomputable def NT (n:Nat) (p:ak R.T qG):Option (ak R.T sH):=EA n n p
theorem af4 (n:Nat) (p:ak R.T qG) (x:ak R.T sH) (h:NT n p=some x):Pure E 43 (aI R qG p) (bT (aI R sH x)):=by
 unfold NT EA at h
 cases n with
 |zero=>exact absurd ((VQ 0 p).symm.trans h) nofun
 |succ n=>exact gX (args:=qG) (res:=sH) gQ (Iq (n+1) n) gY ((VO (n+1) n p).symm.trans h) Tryz.func43 rfl rfl rfl rfl (by kernel_rfl)
noncomputable def VR (n:Nat):Nat→List (FR R):=dB 16 ⟨qF,sG,yj n,bC R sG,false⟩ (NR n)
theorem af5 (n:Nat):bG E (VR n):=bQ (NS n) (af3 n)
noncomputable def NU (n:Nat):Nat→List (FR R):=dB 43 ⟨qG,sH,NT n,bC R sH,false⟩ (VR n)
theorem VT (n:Nat):bG E (NU n):=bQ (af5 n) (af4 n)
def af6:dM:=⟨[],[]⟩
abbrev Ir:List Sk:=[.d (.int .i64),.d (.int .i64)]
abbrev EB:List Sk:=[.d (.int .i64)]
@[irreducible] noncomputable def uF (n:Nat) (p:ak R.T Ir):Option (ak R.T EB):=dS E R n false (NU n) cB af6 Tryz.f44 Ir EB p
theorem af7 (n:Nat):j5 44 Ir EB (uF n):=fun _ _ h=>by unfold uF at h;exact okF (VT n) h Tryz.func44 (by kernel_rfl)
noncomputable def NV (n:Nat):Nat→List (FR R):=dB 44 ⟨Ir,EB,uF n,bC R EB,false⟩ (NU n)
theorem VU (n:Nat):bG E (NV n):=bQ (VT n) (af7 n)
def af8:dM:=⟨[],[]⟩
abbrev Iu:List Sk:=[.d .str,.d .str]
abbrev EC:List Sk:=[.d (.int .i64)]
@[irreducible] noncomputable def yt (n:Nat) (p:ak R.T Iu):Option (ak R.T EC):=dS E R n false (NV n) cB af8 Tryz.f45 Iu EC p
theorem af9 (n:Nat):j5 45 Iu EC (yt n):=fun _ _ h=>by unfold yt at h;exact okF (VU n) h Tryz.func45 (by kernel_rfl)
noncomputable def NW (n:Nat):Nat→List (FR R):=dB 45 ⟨Iu,EC,yt n,bC R EC,false⟩ (NV n)
theorem NY (n:Nat):bG E (NW n):=bQ (VU n) (af9 n)
def wh:dM:=⟨[(3,⟨[2,3,5],[2,3],⟨[(6,.d (.int .i64))],[]⟩,[(.exit 0,⟨[],[]⟩),(.ret,⟨[(4,.d (.int .i64))],[]⟩)]⟩),
 (8,⟨[2,3],[2,3],⟨[(7,.d (.int .i64))],[]⟩,[(.exit 2,⟨[],[]⟩),(.ret,⟨[(4,.d (.int .i64))],[]⟩)]⟩)],[]⟩
abbrev qH:List Sk:=[.d (.st 0),.d (.st 0)]
abbrev sI:List Sk:=[.d (.int .i64)]
def sJ:Nat→List Sk
 |_=>qH
def oo:Nat→List Sk
 |_=>sI
def aga:Nat→dM
 |_=>wh
noncomputable def agb:Nat→Func
 |_=>Tryz.f17
noncomputable def Bl (n:Nat) (g:(i:Nat)→ak R.T (sJ i)→Option (ak R.T (oo i))):Nat→List (FR R):=dB 17 ⟨sJ 0,oo 0,g 0,bC R (oo 0),false⟩ (NW n)
noncomputable def mV (n:Nat):Nat→(i:Nat)→ak R.T (sJ i)→Option (ak R.T (oo i))
 |0,_,_=>none
 |m+1,i,p=>dS E R n false (Bl n (mV n m)) cB (aga i) (agb i) (sJ i) (oo i) p
attribute [irreducible] mV
theorem VW (n m:Nat) (p:ak R.T qH):mV n (m+1) 0 p=dS E R n false (Bl n (mV n m)) cB wh Tryz.f17 qH sI p:=by kernel_rfl
theorem VX (n:Nat) (p:ak R.T qH):mV n 0 0 p=none:=by kernel_rfl
theorem agc (n:Nat) (p:ak R.T (sJ 0)) (x:ak R.T (oo 0)) (h:mV n 0 0 p=some x):Pure E 17 (aI R (sJ 0) p) (bT (aI R (oo 0) x)):=absurd ((VX n p).symm.trans h) nofun
theorem agd (n m:Nat) (hk:bG E (Bl n (mV n m))) (p:ak R.T (sJ 0)) (x:ak R.T (oo 0)) (h:mV n (m+1) 0 p=some x):Pure E 17 (aI R (sJ 0) p) (bT (aI R (oo 0) x)):=
 gX (args:=qH) (res:=sI) gQ hk gY ((VW n m p).symm.trans h) Tryz.func17 rfl rfl rfl rfl (by kernel_rfl)
theorem VY (n:Nat):∀m,bG E (Bl n (mV n m))
 |0=>bQ (f:=17) (r:=⟨sJ 0,oo 0,mV n 0 0,bC R (oo 0),false⟩) (NY n) (agc n)
 |m+1=>bQ (f:=17) (r:=⟨sJ 0,oo 0,mV n (m+1) 0,bC R (oo 0),false⟩) (NY n) (agd n m (VY n m))
@[irreducible] noncomputable def yu (n m:Nat) (p:ak R.T qH):Option (ak R.T sI):=mV n m 0 p
@[irreducible] noncomputable def yw (n:Nat) (p:ak R.T qH):Option (ak R.T sI):=yu n n p
theorem agf (n:Nat) (p:ak R.T qH) (x:ak R.T sI) (h:yw n p=some x):Pure E 17 (aI R qH p) (bT (aI R sI x)):=by
 unfold yw yu at h
 cases n with
 |zero=>exact absurd ((VX 0 p).symm.trans h) nofun
 |succ n=>exact gX (args:=qH) (res:=sI) gQ (VY (n+1) n) gY ((VW (n+1) n p).symm.trans h) Tryz.func17 rfl rfl rfl rfl (by kernel_rfl)
noncomputable def VZ (n:Nat):Nat→List (FR R):=dB 17 ⟨qH,sI,yw n,bC R sI,false⟩ (NW n)
theorem agh (n:Nat):bG E (VZ n):=bQ (NY n) (agf n)
def agi:dM:=⟨[],[]⟩
abbrev NZ:List Sk:=[.d (.st 0),.d (.st 0),.d (.slice (.st 3))]
abbrev N7:List Sk:=[.d .bool]
@[irreducible] noncomputable def Iw (n:Nat) (p:ak R.T NZ):Option (ak R.T N7):=dS E R n false (VZ n) cB agi Tryz.f3 NZ N7 p
theorem agj (n:Nat):j5 3 NZ N7 (Iw n):=fun _ _ h=>by unfold Iw at h;exact okF (agh n) h Tryz.func3 (by kernel_rfl)
end Sh
