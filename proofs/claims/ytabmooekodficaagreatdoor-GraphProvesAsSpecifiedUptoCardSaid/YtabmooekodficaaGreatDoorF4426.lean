import Derived.Test.YtabmooekodficaaGreatDoorF4425
set_option linter.all false
open Go Go.Proofs Aq
namespace Sh
set_option maxRecDepth 100000
def QP_a:Ann:=⟨[(4,⟨[1],[1],⟨[(3,.d (.int .i64))],[]⟩,[(.exit 0,⟨[],[]⟩),(.ret,⟨[(2,.d .bool)],[]⟩)]⟩)],[]⟩
abbrev QP_p:List Sk:=[.d (.st 1)]
abbrev QP_r:List Sk:=[.d .bool]
@[irreducible] noncomputable def QP (n:Nat) (p:PayL R.T QP_p):Option (PayL R.T QP_r):=funM E R n false (regs27 n) iters QP_a Tryz.f4 QP_p QP_r p
theorem QP_ok (n:Nat):bn 4 QP_p QP_r (QP n):=fun _ _ h=>by unfold QP at h;exact okF (regs27_ok n) h Tryz.func4 (by kernel_rfl)
noncomputable def regs28 (n:Nat):Nat->List (FR R):=addF 4 ⟨QP_p,QP_r,QP n,dflL R QP_r,false⟩ (regs27 n)
theorem regs28_ok (n:Nat):RegsOK E (regs28 n):=addF_ok (regs27_ok n) (QP_ok n)
abbrev QR_p:List Sk:=[]
abbrev QR_r:List Sk:=[.d .bool]
@[irreducible] def QR (n:Nat) (p:PayL R.T QR_p):Option (PayL R.T QR_r):=some true
theorem QR_eq (n:Nat) (p:PayL R.T QR_p):QR n p=some true:=by unfold QR;rfl
theorem QR_ok (n:Nat) (p:PayL R.T QR_p) (x:PayL R.T QR_r) (h:QR n p=some x):Pure E 5 (encSL R QR_p p) (retV (encSL R QR_r x)):=by
 unfold QR at h
 exact sanP p x h
noncomputable def regs29 (n:Nat):Nat->List (FR R):=addF 5 ⟨QR_p,QR_r,QR n,dflL R QR_r,false⟩ (regs28 n)
theorem regs29_ok (n:Nat):RegsOK E (regs29 n):=addF_ok (regs28_ok n) (QR_ok n)
def acT:Ann:=⟨[],[]⟩
abbrev Dx:List Sk:=[.d (.int .i64),.d (.st 0)]
abbrev zw:List Sk:=[.d (.st 2)]
@[irreducible] noncomputable def oV (n:Nat) (p:PayL R.T Dx):Option (PayL R.T zw):=funM E R n false (regs29 n) iters acT Tryz.f10 Dx zw p
theorem acU (n:Nat):bn 10 Dx zw (oV n):=fun _ _ h=>by unfold oV at h;exact okF (regs29_ok n) h Tryz.func10 (by kernel_rfl)
noncomputable def regs30 (n:Nat):Nat->List (FR R):=addF 10 ⟨Dx,zw,oV n,dflL R zw,false⟩ (regs29 n)
theorem regs30_ok (n:Nat):RegsOK E (regs30 n):=addF_ok (regs29_ok n) (acU n)
def Dy:Ann:=⟨[(3,⟨[7,8],[],⟨[(3,.l (.own 19) (.st 2)),(9,.d (.int .i64))],[]⟩,[(.exit 0,⟨[(3,.l (.own 19) (.st 2))],[]⟩)]⟩)],[]⟩
abbrev Dz:List Sk:=[.d (.st 1)]
abbrev zx:List Sk:=[.d (.slice (.st 2))]
@[irreducible] noncomputable def qQ (n:Nat) (p:PayL R.T Dz):Option (PayL R.T zx):=funM E R n false (regs30 n) iters Dy Tryz.f23 Dz zx p
theorem acV (n:Nat):bn 23 Dz zx (qQ n):=fun _ _ h=>by unfold qQ at h;exact okF (regs30_ok n) h Tryz.func23 (by kernel_rfl)
noncomputable def regs31 (n:Nat):Nat->List (FR R):=addF 23 ⟨Dz,zx,qQ n,dflL R zx,false⟩ (regs30 n)
theorem regs31_ok (n:Nat):RegsOK E (regs31 n):=addF_ok (regs30_ok n) (acV n)
def acW:Ann:=⟨[],[]⟩
abbrev DC:List Sk:=[]
abbrev zy:List Sk:=[.d (.st 2)]
@[irreducible] noncomputable def vL (n:Nat) (p:PayL R.T DC):Option (PayL R.T zy):=funM E R n false (regs31 n) iters acW Tryz.f52 DC zy p
theorem acX (n:Nat):bn 52 DC zy (vL n):=fun _ _ h=>by unfold vL at h;exact okF (regs31_ok n) h Tryz.func52 (by kernel_rfl)
noncomputable def regs32 (n:Nat):Nat->List (FR R):=addF 52 ⟨DC,zy,vL n,dflL R zy,false⟩ (regs31 n)
theorem regs32_ok (n:Nat):RegsOK E (regs32 n):=addF_ok (regs31_ok n) (acX n)
def Q9:Ann:=⟨[],[]⟩
abbrev kJ:List Sk:=[.d (.slice (.st 2))]
abbrev lW:List Sk:=[.d (.st 2)]
def lX:Nat->List Sk
 |_=>kJ
def jA:Nat->List Sk
 |_=>lW
def acY:Nat->Ann
 |_=>Q9
noncomputable def acZ:Nat->Func
 |_=>Tryz.f26
noncomputable def DF (n:Nat) (g:(i:Nat)->PayL R.T (lX i)->Option (PayL R.T (jA i))):Nat->List (FR R):=addF 26 ⟨lX 0,jA 0,g 0,dflL R (jA 0),false⟩ (regs32 n)
noncomputable def jR (n:Nat):Nat->(i:Nat)->PayL R.T (lX i)->Option (PayL R.T (jA i))
 |0,_,_=>none
 |m+1,i,p=>funM E R n false (DF n (jR n m)) iters (acY i) (acZ i) (lX i) (jA i) p
attribute [irreducible] jR
theorem Ra (n m:Nat) (p:PayL R.T kJ):jR n (m+1) 0 p=funM E R n false (DF n (jR n m)) iters Q9 Tryz.f26 kJ lW p:=by kernel_rfl
theorem Rb (n:Nat) (p:PayL R.T kJ):jR n 0 0 p=none:=by kernel_rfl
theorem ac0 (n:Nat) (p:PayL R.T (lX 0)) (x:PayL R.T (jA 0)) (h:jR n 0 0 p=some x):Pure E 26 (encSL R (lX 0) p) (retV (encSL R (jA 0) x)):=absurd ((Rb n p).symm.trans h) nofun
theorem ac1 (n m:Nat) (hk:RegsOK E (DF n (jR n m))) (p:PayL R.T (lX 0)) (x:PayL R.T (jA 0)) (h:jR n (m+1) 0 p=some x):Pure E 26 (encSL R (lX 0) p) (retV (encSL R (jA 0) x)):=
 funM_ok (args:=kJ) (res:=lW) rOK hk iters_ok ((Ra n m p).symm.trans h) Tryz.func26 rfl rfl rfl rfl (by kernel_rfl)
theorem Rc (n:Nat):∀m,RegsOK E (DF n (jR n m))
 |0=>addF_ok (f:=26) (r:=⟨lX 0,jA 0,jR n 0 0,dflL R (jA 0),false⟩) (regs32_ok n) (ac0 n)
 |m+1=>addF_ok (f:=26) (r:=⟨lX 0,jA 0,jR n (m+1) 0,dflL R (jA 0),false⟩) (regs32_ok n) (ac1 n m (Rc n m))
@[irreducible] noncomputable def oW (n m:Nat) (p:PayL R.T kJ):Option (PayL R.T lW):=jR n m 0 p
@[irreducible] noncomputable def lY (n:Nat) (p:PayL R.T kJ):Option (PayL R.T lW):=oW n n p
theorem Rf (n:Nat) (p:PayL R.T kJ) (x:PayL R.T lW) (h:lY n p=some x):Pure E 26 (encSL R kJ p) (retV (encSL R lW x)):=by
 unfold lY oW at h
 cases n with
 |zero=>exact absurd ((Rb 0 p).symm.trans h) nofun
 |succ n=>exact funM_ok (args:=kJ) (res:=lW) rOK (Rc (n+1) n) iters_ok ((Ra (n+1) n p).symm.trans h) Tryz.func26 rfl rfl rfl rfl (by kernel_rfl)
noncomputable def regs33 (n:Nat):Nat->List (FR R):=addF 26 ⟨kJ,lW,lY n,dflL R lW,false⟩ (regs32 n)
theorem regs33_ok (n:Nat):RegsOK E (regs33 n):=addF_ok (regs32_ok n) (Rf n)
abbrev DI:List Sk:=[.d (.slice (.st 2)),.d (.int .i64)]
abbrev zA:List Sk:=[.d (.slice (.st 2)),.d (.int .i64)]
@[irreducible] noncomputable def nC (n:Nat) (p:PayL R.T DI):Option (PayL R.T zA):=vK (lY n) (lN n) p.1 p.2
theorem Rh (n:Nat) (l:List ah) (i:Int):nC n (l,i)=vK (lY n) (lN n) l i:=by unfold nC;rfl
theorem ac2 (n:Nat) (p:PayL R.T DI) (x:PayL R.T zA) (h:nC n p=some x):Pure E 22 (encSL R DI p) (retV (encSL R zA x)):=by
 unfold nC at h
 exact acQ (Rf n) (Jd n) h
noncomputable def regs34 (n:Nat):Nat->List (FR R):=addF 22 ⟨DI,zA,nC n,dflL R zA,false⟩ (regs33 n)
theorem regs34_ok (n:Nat):RegsOK E (regs34 n):=addF_ok (regs33_ok n) (ac2 n)
def ac3:Ann:=⟨[],[]⟩
abbrev DJ:List Sk:=[.d (.st 1),.d (.int .i64)]
abbrev zB:List Sk:=[.d (.slice (.st 2)),.d (.int .i64)]
@[irreducible] noncomputable def vM (n:Nat) (p:PayL R.T DJ):Option (PayL R.T zB):=funM E R n false (regs34 n) iters ac3 Tryz.f6 DJ zB p
theorem ac4 (n:Nat):bn 6 DJ zB (vM n):=fun _ _ h=>by unfold vM at h;exact okF (regs34_ok n) h Tryz.func6 (by kernel_rfl)
noncomputable def regs35 (n:Nat):Nat->List (FR R):=addF 6 ⟨DJ,zB,vM n,dflL R zB,false⟩ (regs34 n)
theorem regs35_ok (n:Nat):RegsOK E (regs35 n):=addF_ok (regs34_ok n) (ac4 n)
def ac5:Ann:=⟨[],[]⟩
abbrev DK:List Sk:=[.d (.int .i64),.d (.st 0)]
abbrev zC:List Sk:=[.d (.st 2)]
@[irreducible] noncomputable def oZ (n:Nat) (p:PayL R.T DK):Option (PayL R.T zC):=funM E R n false (regs35 n) iters ac5 Tryz.f11 DK zC p
theorem ac6 (n:Nat):bn 11 DK zC (oZ n):=fun _ _ h=>by unfold oZ at h;exact okF (regs35_ok n) h Tryz.func11 (by kernel_rfl)
noncomputable def regs36 (n:Nat):Nat->List (FR R):=addF 11 ⟨DK,zC,oZ n,dflL R zC,false⟩ (regs35 n)
theorem regs36_ok (n:Nat):RegsOK E (regs36 n):=addF_ok (regs35_ok n) (ac6 n)
def DL:Ann:=⟨[(3,⟨[1],[1],⟨[(3,.l (.own 21) (.st 2)),(4,.d (.int .i64))],[]⟩,[(.exit 0,⟨[(3,.l (.own 21) (.st 2))],[]⟩)]⟩)],[]⟩
abbrev DN:List Sk:=[.d (.st 1)]
abbrev zF:List Sk:=[.d (.slice (.st 2))]
@[irreducible] noncomputable def qR (n:Nat) (p:PayL R.T DN):Option (PayL R.T zF):=funM E R n false (regs36 n) iters DL Tryz.f25 DN zF p
theorem ac7 (n:Nat):bn 25 DN zF (qR n):=fun _ _ h=>by unfold qR at h;exact okF (regs36_ok n) h Tryz.func25 (by kernel_rfl)
noncomputable def regs37 (n:Nat):Nat->List (FR R):=addF 25 ⟨DN,zF,qR n,dflL R zF,false⟩ (regs36 n)
theorem regs37_ok (n:Nat):RegsOK E (regs37 n):=addF_ok (regs36_ok n) (ac7 n)
def DR:Ann:=⟨[(2,⟨[0],[],⟨[(3,.d (.int .i64))],[]⟩,[(.exit 0,⟨[(3,.d (.int .i64))],[]⟩)]⟩)],[]⟩
abbrev DT:List Sk:=[.d (.int .i64)]
abbrev zG:List Sk:=[.d (.int .i64)]
@[irreducible] noncomputable def o7 (n:Nat) (p:PayL R.T DT):Option (PayL R.T zG):=funM E R n false (regs37 n) iters DR Tryz.f55 DT zG p
theorem ac8 (n:Nat):bn 55 DT zG (o7 n):=fun _ _ h=>by unfold o7 at h;exact okF (regs37_ok n) h Tryz.func55 (by kernel_rfl)
noncomputable def regs38 (n:Nat):Nat->List (FR R):=addF 55 ⟨DT,zG,o7 n,dflL R zG,false⟩ (regs37 n)
theorem regs38_ok (n:Nat):RegsOK E (regs38 n):=addF_ok (regs37_ok n) (ac8 n)
def ac9:Ann:=⟨[],[]⟩
abbrev DU:List Sk:=[]
abbrev zH:List Sk:=[.d (.st 2)]
@[irreducible] noncomputable def vN (n:Nat) (p:PayL R.T DU):Option (PayL R.T zH):=funM E R n false (regs38 n) iters ac9 Tryz.f54 DU zH p
theorem ada (n:Nat):bn 54 DU zH (vN n):=fun _ _ h=>by unfold vN at h;exact okF (regs38_ok n) h Tryz.func54 (by kernel_rfl)
noncomputable def regs39 (n:Nat):Nat->List (FR R):=addF 54 ⟨DU,zH,vN n,dflL R zH,false⟩ (regs38 n)
theorem regs39_ok (n:Nat):RegsOK E (regs39 n):=addF_ok (regs38_ok n) (ada n)
def adb:Ann:=⟨[],[]⟩
abbrev DV:List Sk:=[.d (.st 2),.d (.st 2)]
abbrev zI:List Sk:=[.d (.st 2)]
@[irreducible] noncomputable def nD (n:Nat) (p:PayL R.T DV):Option (PayL R.T zI):=funM E R n false (regs39 n) iters adb Tryz.f56 DV zI p
theorem ade (n:Nat):bn 56 DV zI (nD n):=fun _ _ h=>by unfold nD at h;exact okF (regs39_ok n) h Tryz.func56 (by kernel_rfl)
noncomputable def regs40 (n:Nat):Nat->List (FR R):=addF 56 ⟨DV,zI,nD n,dflL R zI,false⟩ (regs39 n)
theorem regs40_ok (n:Nat):RegsOK E (regs40 n):=addF_ok (regs39_ok n) (ade n)
def Ri:Ann:=⟨[],[]⟩
abbrev kK:List Sk:=[.d (.slice (.st 2))]
abbrev lZ:List Sk:=[.d (.st 2)]
def l5:Nat->List Sk
 |_=>kK
def jB:Nat->List Sk
 |_=>lZ
def adf:Nat->Ann
 |_=>Ri
noncomputable def adg:Nat->Func
 |_=>Tryz.f27
noncomputable def DX (n:Nat) (g:(i:Nat)->PayL R.T (l5 i)->Option (PayL R.T (jB i))):Nat->List (FR R):=addF 27 ⟨l5 0,jB 0,g 0,dflL R (jB 0),false⟩ (regs40 n)
noncomputable def jS (n:Nat):Nat->(i:Nat)->PayL R.T (l5 i)->Option (PayL R.T (jB i))
 |0,_,_=>none
 |m+1,i,p=>funM E R n false (DX n (jS n m)) iters (adf i) (adg i) (l5 i) (jB i) p
attribute [irreducible] jS
theorem Rj (n m:Nat) (p:PayL R.T kK):jS n (m+1) 0 p=funM E R n false (DX n (jS n m)) iters Ri Tryz.f27 kK lZ p:=by kernel_rfl
theorem Rk (n:Nat) (p:PayL R.T kK):jS n 0 0 p=none:=by kernel_rfl
theorem adh (n:Nat) (p:PayL R.T (l5 0)) (x:PayL R.T (jB 0)) (h:jS n 0 0 p=some x):Pure E 27 (encSL R (l5 0) p) (retV (encSL R (jB 0) x)):=absurd ((Rk n p).symm.trans h) nofun
theorem adi (n m:Nat) (hk:RegsOK E (DX n (jS n m))) (p:PayL R.T (l5 0)) (x:PayL R.T (jB 0)) (h:jS n (m+1) 0 p=some x):Pure E 27 (encSL R (l5 0) p) (retV (encSL R (jB 0) x)):=
 funM_ok (args:=kK) (res:=lZ) rOK hk iters_ok ((Rj n m p).symm.trans h) Tryz.func27 rfl rfl rfl rfl (by kernel_rfl)
theorem Rm (n:Nat):∀m,RegsOK E (DX n (jS n m))
 |0=>addF_ok (f:=27) (r:=⟨l5 0,jB 0,jS n 0 0,dflL R (jB 0),false⟩) (regs40_ok n) (adh n)
 |m+1=>addF_ok (f:=27) (r:=⟨l5 0,jB 0,jS n (m+1) 0,dflL R (jB 0),false⟩) (regs40_ok n) (adi n m (Rm n m))
@[irreducible] noncomputable def vO (n m:Nat) (p:PayL R.T kK):Option (PayL R.T lZ):=jS n m 0 p
@[irreducible] noncomputable def o8 (n:Nat) (p:PayL R.T kK):Option (PayL R.T lZ):=vO n n p
theorem adk (n:Nat) (p:PayL R.T kK) (x:PayL R.T lZ) (h:o8 n p=some x):Pure E 27 (encSL R kK p) (retV (encSL R lZ x)):=by
 unfold o8 vO at h
 cases n with
 |zero=>exact absurd ((Rk 0 p).symm.trans h) nofun
 |succ n=>exact funM_ok (args:=kK) (res:=lZ) rOK (Rm (n+1) n) iters_ok ((Rj (n+1) n p).symm.trans h) Tryz.func27 rfl rfl rfl rfl (by kernel_rfl)
noncomputable def regs41 (n:Nat):Nat->List (FR R):=addF 27 ⟨kK,lZ,o8 n,dflL R lZ,false⟩ (regs40 n)
theorem regs41_ok (n:Nat):RegsOK E (regs41 n):=addF_ok (regs40_ok n) (adk n)
def adl:Ann:=⟨[],[]⟩
abbrev DY:List Sk:=[.d (.slice (.st 2)),.d (.st 2)]
abbrev zJ:List Sk:=[.d (.slice (.st 2))]
@[irreducible] noncomputable def qU (n:Nat) (p:PayL R.T DY):Option (PayL R.T zJ):=funM E R n false (regs41 n) iters adl Tryz.f87 DY zJ p
theorem adn (n:Nat):bn 87 DY zJ (qU n):=fun _ _ h=>by unfold qU at h;exact okF (regs41_ok n) h Tryz.func87 (by kernel_rfl)
noncomputable def regs42 (n:Nat):Nat->List (FR R):=addF 87 ⟨DY,zJ,qU n,dflL R zJ,false⟩ (regs41 n)
theorem regs42_ok (n:Nat):RegsOK E (regs42 n):=addF_ok (regs41_ok n) (adn n)
def Rn:Ann:=⟨[],[]⟩
abbrev kL:List Sk:=[.d (.slice (.st 2)),.d (.int .i64)]
abbrev l6:List Sk:=[.d (.slice (.st 2))]
def l7:Nat->List Sk
 |_=>kL
def jC:Nat->List Sk
 |_=>l6
def ado:Nat->Ann
 |_=>Rn
noncomputable def adp:Nat->Func
 |_=>Tryz.f51
noncomputable def DZ (n:Nat) (g:(i:Nat)->PayL R.T (l7 i)->Option (PayL R.T (jC i))):Nat->List (FR R):=addF 51 ⟨l7 0,jC 0,g 0,dflL R (jC 0),false⟩ (regs42 n)
noncomputable def jT (n:Nat):Nat->(i:Nat)->PayL R.T (l7 i)->Option (PayL R.T (jC i))
 |0,_,_=>none
 |m+1,i,p=>funM E R n false (DZ n (jT n m)) iters (ado i) (adp i) (l7 i) (jC i) p
attribute [irreducible] jT
theorem Ro (n m:Nat) (p:PayL R.T kL):jT n (m+1) 0 p=funM E R n false (DZ n (jT n m)) iters Rn Tryz.f51 kL l6 p:=by kernel_rfl
theorem Rq (n:Nat) (p:PayL R.T kL):jT n 0 0 p=none:=by kernel_rfl
theorem adq (n:Nat) (p:PayL R.T (l7 0)) (x:PayL R.T (jC 0)) (h:jT n 0 0 p=some x):Pure E 51 (encSL R (l7 0) p) (retV (encSL R (jC 0) x)):=absurd ((Rq n p).symm.trans h) nofun
theorem adr (n m:Nat) (hk:RegsOK E (DZ n (jT n m))) (p:PayL R.T (l7 0)) (x:PayL R.T (jC 0)) (h:jT n (m+1) 0 p=some x):Pure E 51 (encSL R (l7 0) p) (retV (encSL R (jC 0) x)):=
 funM_ok (args:=kL) (res:=l6) rOK hk iters_ok ((Ro n m p).symm.trans h) Tryz.func51 rfl rfl rfl rfl (by kernel_rfl)
theorem Rs (n:Nat):∀m,RegsOK E (DZ n (jT n m))
 |0=>addF_ok (f:=51) (r:=⟨l7 0,jC 0,jT n 0 0,dflL R (jC 0),false⟩) (regs42_ok n) (adq n)
 |m+1=>addF_ok (f:=51) (r:=⟨l7 0,jC 0,jT n (m+1) 0,dflL R (jC 0),false⟩) (regs42_ok n) (adr n m (Rs n m))
@[irreducible] noncomputable def vP (n m:Nat) (p:PayL R.T kL):Option (PayL R.T l6):=jT n m 0 p
@[irreducible] noncomputable def vQ (n:Nat) (p:PayL R.T kL):Option (PayL R.T l6):=vP n n p
theorem ads (n:Nat) (p:PayL R.T kL) (x:PayL R.T l6) (h:vQ n p=some x):Pure E 51 (encSL R kL p) (retV (encSL R l6 x)):=by
 unfold vQ vP at h
 cases n with
 |zero=>exact absurd ((Rq 0 p).symm.trans h) nofun
 |succ n=>exact funM_ok (args:=kL) (res:=l6) rOK (Rs (n+1) n) iters_ok ((Ro (n+1) n p).symm.trans h) Tryz.func51 rfl rfl rfl rfl (by kernel_rfl)
noncomputable def regs43 (n:Nat):Nat->List (FR R):=addF 51 ⟨kL,l6,vQ n,dflL R l6,false⟩ (regs42 n)
theorem regs43_ok (n:Nat):RegsOK E (regs43 n):=addF_ok (regs42_ok n) (ads n)
def adt:Ann:=⟨[],[]⟩
abbrev D5:List Sk:=[.d (.slice (.st 2)),.d (.int .i64)]
abbrev zK:List Sk:=[.d (.st 4)]
@[irreducible] noncomputable def vR (n:Nat) (p:PayL R.T D5):Option (PayL R.T zK):=funM E R n false (regs43 n) iters adt Tryz.f24 D5 zK p
theorem adu (n:Nat):bn 24 D5 zK (vR n):=fun _ _ h=>by unfold vR at h;exact okF (regs43_ok n) h Tryz.func24 (by kernel_rfl)
noncomputable def regs44 (n:Nat):Nat->List (FR R):=addF 24 ⟨D5,zK,vR n,dflL R zK,false⟩ (regs43 n)
theorem regs44_ok (n:Nat):RegsOK E (regs44 n):=addF_ok (regs43_ok n) (adu n)
def adv:Ann:=⟨[],[]⟩
abbrev D6:List Sk:=[.d (.st 1),.d (.int .i64)]
abbrev zL:List Sk:=[.d (.st 3)]
@[irreducible] noncomputable def vS (n:Nat) (p:PayL R.T D6):Option (PayL R.T zL):=funM E R n false (regs44 n) iters adv Tryz.f7 D6 zL p
theorem adw (n:Nat):bn 7 D6 zL (vS n):=fun _ _ h=>by unfold vS at h;exact okF (regs44_ok n) h Tryz.func7 (by kernel_rfl)
noncomputable def regs45 (n:Nat):Nat->List (FR R):=addF 7 ⟨D6,zL,vS n,dflL R zL,false⟩ (regs44 n)
theorem regs45_ok (n:Nat):RegsOK E (regs45 n):=addF_ok (regs44_ok n) (adw n)
def adx:Ann:=⟨[],[]⟩
abbrev D7:List Sk:=[.d (.st 1)]
abbrev zM:List Sk:=[.d (.st 2)]
@[irreducible] noncomputable def qV (n:Nat) (p:PayL R.T D7):Option (PayL R.T zM):=funM E R n false (regs45 n) iters adx Tryz.f8 D7 zM p
theorem ady (n:Nat):bn 8 D7 zM (qV n):=fun _ _ h=>by unfold qV at h;exact okF (regs45_ok n) h Tryz.func8 (by kernel_rfl)
noncomputable def regs46 (n:Nat):Nat->List (FR R):=addF 8 ⟨D7,zM,qV n,dflL R zM,false⟩ (regs45 n)
theorem regs46_ok (n:Nat):RegsOK E (regs46 n):=addF_ok (regs45_ok n) (ady n)
def adz:Ann:=⟨[],[]⟩
abbrev D8:List Sk:=[.d (.st 1)]
abbrev zN:List Sk:=[.d (.st 2)]
@[irreducible] noncomputable def vT (n:Nat) (p:PayL R.T D8):Option (PayL R.T zN):=funM E R n false (regs46 n) iters adz Tryz.f9 D8 zN p
theorem adA (n:Nat):bn 9 D8 zN (vT n):=fun _ _ h=>by unfold vT at h;exact okF (regs46_ok n) h Tryz.func9 (by kernel_rfl)
noncomputable def regs47 (n:Nat):Nat->List (FR R):=addF 9 ⟨D8,zN,vT n,dflL R zN,false⟩ (regs46 n)
theorem regs47_ok (n:Nat):RegsOK E (regs47 n):=addF_ok (regs46_ok n) (adA n)
abbrev zO:List Sk:=[.d (.st 2),.d (.int .i64),.d (.int .i64),.d (.slice (.st 2)),.d (.st 2)]
abbrev zP:List Sk:=[.d .bool]
@[irreducible] noncomputable def l8 (n:Nat) (p:PayL R.T zO):Option (PayL R.T zP):=chkF p.1 p.2.1 p.2.2.1 p.2.2.2.1 p.2.2.2.2
theorem Rt (n:Nat) (p:PayL R.T zO):l8 n p=chkF p.1 p.2.1 p.2.2.1 p.2.2.2.1 p.2.2.2.2:=by unfold l8;rfl
theorem adB (n:Nat) (p:PayL R.T zO) (x:PayL R.T zP) (h:l8 n p=some x):Pure E 32 (encSL R zO p) (retV (encSL R zP x)):=by
 unfold l8 at h
 exact acS p x h
noncomputable def regs48 (n:Nat):Nat->List (FR R):=addF 32 ⟨zO,zP,l8 n,dflL R zP,false⟩ (regs47 n)
theorem regs48_ok (n:Nat):RegsOK E (regs48 n):=addF_ok (regs47_ok n) (adB n)
def adC:Ann:=⟨[],[]⟩
abbrev D9:List Sk:=[.d (.st 2),.d (.int .i64),.d (.int .i64),.d (.st 0),.d (.slice (.st 2))]
abbrev zQ:List Sk:=[.d .bool]
@[irreducible] noncomputable def o9 (n:Nat) (p:PayL R.T D9):Option (PayL R.T zQ):=funM E R n false (regs48 n) iters adC Tryz.f12 D9 zQ p
theorem adD (n:Nat):bn 12 D9 zQ (o9 n):=fun _ _ h=>by unfold o9 at h;exact okF (regs48_ok n) h Tryz.func12 (by kernel_rfl)
noncomputable def regs49 (n:Nat):Nat->List (FR R):=addF 12 ⟨D9,zQ,o9 n,dflL R zQ,false⟩ (regs48 n)
theorem regs49_ok (n:Nat):RegsOK E (regs49 n):=addF_ok (regs48_ok n) (adD n)
def Ru:Ann:=⟨[],[]⟩
abbrev kM:List Sk:=[.d (.st 2),.d (.int .i64),.d (.int .i64),.d (.slice (.st 2))]
abbrev l9:List Sk:=[.d (.st 8)]
def mg:Nat->List Sk
 |_=>kM
def jD:Nat->List Sk
 |_=>l9
def adE:Nat->Ann
 |_=>Ru
noncomputable def adF:Nat->Func
 |_=>Tryz.f69
noncomputable def Ea (n:Nat) (g:(i:Nat)->PayL R.T (mg i)->Option (PayL R.T (jD i))):Nat->List (FR R):=addF 69 ⟨mg 0,jD 0,g 0,dflL R (jD 0),false⟩ (regs49 n)
noncomputable def jU (n:Nat):Nat->(i:Nat)->PayL R.T (mg i)->Option (PayL R.T (jD i))
 |0,_,_=>none
 |m+1,i,p=>funM E R n false (Ea n (jU n m)) iters (adE i) (adF i) (mg i) (jD i) p
attribute [irreducible] jU
theorem Rv (n m:Nat) (p:PayL R.T kM):jU n (m+1) 0 p=funM E R n false (Ea n (jU n m)) iters Ru Tryz.f69 kM l9 p:=by kernel_rfl
theorem Rw (n:Nat) (p:PayL R.T kM):jU n 0 0 p=none:=by kernel_rfl
theorem adG (n:Nat) (p:PayL R.T (mg 0)) (x:PayL R.T (jD 0)) (h:jU n 0 0 p=some x):Pure E 69 (encSL R (mg 0) p) (retV (encSL R (jD 0) x)):=absurd ((Rw n p).symm.trans h) nofun
theorem adH (n m:Nat) (hk:RegsOK E (Ea n (jU n m))) (p:PayL R.T (mg 0)) (x:PayL R.T (jD 0)) (h:jU n (m+1) 0 p=some x):Pure E 69 (encSL R (mg 0) p) (retV (encSL R (jD 0) x)):=
 funM_ok (args:=kM) (res:=l9) rOK hk iters_ok ((Rv n m p).symm.trans h) Tryz.func69 rfl rfl rfl rfl (by kernel_rfl)
theorem Rx (n:Nat):∀m,RegsOK E (Ea n (jU n m))
 |0=>addF_ok (f:=69) (r:=⟨mg 0,jD 0,jU n 0 0,dflL R (jD 0),false⟩) (regs49_ok n) (adG n)
 |m+1=>addF_ok (f:=69) (r:=⟨mg 0,jD 0,jU n (m+1) 0,dflL R (jD 0),false⟩) (regs49_ok n) (adH n m (Rx n m))
@[irreducible] noncomputable def vU (n m:Nat) (p:PayL R.T kM):Option (PayL R.T l9):=jU n m 0 p
@[irreducible] noncomputable def vV (n:Nat) (p:PayL R.T kM):Option (PayL R.T l9):=vU n n p
theorem adI (n:Nat) (p:PayL R.T kM) (x:PayL R.T l9) (h:vV n p=some x):Pure E 69 (encSL R kM p) (retV (encSL R l9 x)):=by
 unfold vV vU at h
 cases n with
 |zero=>exact absurd ((Rw 0 p).symm.trans h) nofun
 |succ n=>exact funM_ok (args:=kM) (res:=l9) rOK (Rx (n+1) n) iters_ok ((Rv (n+1) n p).symm.trans h) Tryz.func69 rfl rfl rfl rfl (by kernel_rfl)
noncomputable def regs50 (n:Nat):Nat->List (FR R):=addF 69 ⟨kM,l9,vV n,dflL R l9,false⟩ (regs49 n)
theorem regs50_ok (n:Nat):RegsOK E (regs50 n):=addF_ok (regs49_ok n) (adI n)
def adJ:Ann:=⟨[],[]⟩
abbrev Eb:List Sk:=[.d (.st 2),.d (.int .i64),.d (.int .i64),.d (.slice (.st 2)),.d (.st 2)]
abbrev zR:List Sk:=[.d .bool]
@[irreducible] noncomputable def qW (n:Nat) (p:PayL R.T Eb):Option (PayL R.T zR):=funM E R n false (regs50 n) iters adJ Tryz.f33 Eb zR p
theorem adK (n:Nat):bn 33 Eb zR (qW n):=fun _ _ h=>by unfold qW at h;exact okF (regs50_ok n) h Tryz.func33 (by kernel_rfl)
noncomputable def regs51 (n:Nat):Nat->List (FR R):=addF 33 ⟨Eb,zR,qW n,dflL R zR,false⟩ (regs50 n)
theorem regs51_ok (n:Nat):RegsOK E (regs51 n):=addF_ok (regs50_ok n) (adK n)
def adL:Ann:=⟨[],[]⟩
abbrev Ec:List Sk:=[.d (.st 2),.d (.int .i64),.d (.int .i64),.d (.st 0),.d (.slice (.st 2))]
abbrev zS:List Sk:=[.d .bool]
@[irreducible] noncomputable def vW (n:Nat) (p:PayL R.T Ec):Option (PayL R.T zS):=funM E R n false (regs51 n) iters adL Tryz.f13 Ec zS p
theorem adM (n:Nat):bn 13 Ec zS (vW n):=fun _ _ h=>by unfold vW at h;exact okF (regs51_ok n) h Tryz.func13 (by kernel_rfl)
noncomputable def regs52 (n:Nat):Nat->List (FR R):=addF 13 ⟨Ec,zS,vW n,dflL R zS,false⟩ (regs51 n)
theorem regs52_ok (n:Nat):RegsOK E (regs52 n):=addF_ok (regs51_ok n) (adM n)
def Ed:Ann:=⟨[(9,⟨[1,5,11,12,13,14],[5,14],⟨[(15,.d (.int .i64))],[]⟩,[(.exit 0,⟨[],[]⟩),(.ret,⟨[(10,.d .bool)],[]⟩)]⟩)],[]⟩
abbrev Jw:List Sk:=[.d (.st 1),.d (.int .i64),.d (.st 0),.d (.st 2),.d (.slice (.st 2))]
abbrev Jy:List Sk:=[.d .bool]
@[irreducible] noncomputable def Ee (n:Nat) (p:PayL R.T Jw):Option (PayL R.T Jy):=funM E R n false (regs52 n) iters Ed Tryz.f3 Jw Jy p
theorem adN (n:Nat):bn 3 Jw Jy (Ee n):=fun _ _ h=>by unfold Ee at h;exact okF (regs52_ok n) h Tryz.func3 (by kernel_rfl)
end Sh
