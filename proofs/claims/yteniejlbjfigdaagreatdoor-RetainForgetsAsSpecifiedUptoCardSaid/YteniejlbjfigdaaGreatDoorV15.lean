/- Part of the proof of a law. -/
import Derived.KernelRfl
import Derived.Test.YteniejlbjfigdaaGreatDoorV14
set_option linter.all false
set_option linter.unusedSimpArgs false
set_option linter.unusedSectionVars false
open Go Go.Proofs Aq
namespace Sh
set_option maxRecDepth 100000
def bB (i:Nat) (a r:List Sk) (F:ak R.T a→Option (ak R.T r)):Prop:=∀p x,F p=some x→Pure E i (bG R a p) (ku (bG R r x))
theorem okF {n:Nat} {om:Bool} {F:Nat→List (FR R)} {A:aW} {i:Nat} {fn:Func} {a r:List Sk} {p:ak R.T a} {x:ak R.T r} (hF:aO E F) (h:aZ E R n om F aG A fn a r p=some x) (hf:E.P.funcs[i]? =some fn) (hok:(match fn.body with|some c=>decide (a.length≤fn.ntmps)&& fE fn.ntmps c|none=>false)=true)
 (ha:jg a=true:=by rfl) (hl:(bG R a p).length=a.length:=by rfl) (ho:E.om i=om:=by rfl) (hs:E.kX i=none:=by rfl):Pure E i (bG R a p) (ku (bG R r x)):=Ai sV hF uL h hf ha hl ho hs hok
def NK:aW:=⟨[(2,⟨[1],[1],⟨[(3,.d (.int .i64))],[]⟩,[(.exit 0,⟨[],[]⟩),(.ret,⟨[(2,.d .bool)],[]⟩)]⟩)],[]⟩
abbrev NM:List Sk:=[.d (.st 3)]
abbrev H9:List Sk:=[.d .bool]
@[irreducible] noncomputable def Ak (n:Nat) (p:ak R.T NM):Option (ak R.T H9):=aZ E R n false (NJ n) aG NK Tryz.f75 NM H9 p
theorem aoW (n:Nat):bB 75 NM H9 (Ak n):=fun _ _ h=>by unfold Ak at h;exact okF (adW n) h Tryz.func75 (by kernel_rfl)
noncomputable def NP (n:Nat):Nat→List (FR R):=aV 75 ⟨NM,H9,Ak n,aT R H9,false⟩ (NJ n)
theorem ad8 (n:Nat):aO E (NP n):=aX (adW n) (aoW n)
def NR:aW:=⟨[(2,⟨[0,1],[],⟨[(5,.d (.int .i64))],[]⟩,[(.exit 0,⟨[],[]⟩),(.ret,⟨[(4,.d .bool)],[]⟩)]⟩)],[]⟩
abbrev NS:List Sk:=[.d (.slice (.st 13)),.d (.int .i64)]
abbrev Ia:List Sk:=[.d .bool]
@[irreducible] noncomputable def yx (n:Nat) (p:ak R.T NS):Option (ak R.T Ia):=aZ E R n false (NP n) aG NR Tryz.f38 NS Ia p
theorem aoX (n:Nat):bB 38 NS Ia (yx n):=fun _ _ h=>by unfold yx at h;exact okF (ad8 n) h Tryz.func38 (by kernel_rfl)
noncomputable def Ib (n:Nat):Nat→List (FR R):=aV 38 ⟨NS,Ia,yx n,aT R Ia,false⟩ (NP n)
theorem ad9 (n:Nat):aO E (Ib n):=aX (ad8 n) (aoX n)
def Al:aW:=⟨[(2,⟨[1,2],[2],⟨[(5,.d (.int .i64))],[]⟩,[(.exit 0,⟨[],[]⟩),(.ret,⟨[(4,.d .bool)],[]⟩)]⟩),
 (8,⟨[1,2,5,6],[2,6],⟨[(7,.d (.int .i64))],[]⟩,[(.exit 2,⟨[],[]⟩),(.ret,⟨[(4,.d .bool)],[]⟩)]⟩)],[]⟩
abbrev NT:List Sk:=[.d (.st 1),.d (.int .i64)]
abbrev Ic:List Sk:=[.d .bool]
@[irreducible] noncomputable def D6 (n:Nat) (p:ak R.T NT):Option (ak R.T Ic):=aZ E R n false (Ib n) aG Al Tryz.f43 NT Ic p
theorem aoY (n:Nat):bB 43 NT Ic (D6 n):=fun _ _ h=>by unfold D6 at h;exact okF (ad9 n) h Tryz.func43 (by kernel_rfl)
noncomputable def WG (n:Nat):Nat→List (FR R):=aV 43 ⟨NT,Ic,D6 n,aT R Ic,false⟩ (Ib n)
theorem aea (n:Nat):aO E (WG n):=aX (ad9 n) (aoY n)
def aoZ:aW:=⟨[],[]⟩
abbrev NU:List Sk:=[.d (.int .i64)]
abbrev Ie:List Sk:=[.d .bool]
@[irreducible] noncomputable def D7 (n:Nat) (p:ak R.T NU):Option (ak R.T Ie):=aZ E R n false (WG n) aG aoZ Tryz.f90 NU Ie p
theorem ao0 (n:Nat):bB 90 NU Ie (D7 n):=fun _ _ h=>by unfold D7 at h;exact okF (aea n) h Tryz.func90 (by kernel_rfl)
noncomputable def NV (n:Nat):Nat→List (FR R):=aV 90 ⟨NU,Ie,D7 n,aT R Ie,false⟩ (WG n)
theorem aeb (n:Nat):aO E (NV n):=aX (aea n) (ao0 n)
def NW:aW:=⟨[(2,⟨[0,1],[],⟨[(5,.d (.int .i64))],[]⟩,[(.exit 0,⟨[],[]⟩),(.ret,⟨[(4,.d .bool)],[]⟩)]⟩)],[]⟩
abbrev NY:List Sk:=[.d (.slice .str),.d .str]
abbrev Ig:List Sk:=[.d .bool]
@[irreducible] noncomputable def yA (n:Nat) (p:ak R.T NY):Option (ak R.T Ig):=aZ E R n false (NV n) aG NW Tryz.f197 NY Ig p
theorem ao1 (n:Nat):bB 197 NY Ig (yA n):=fun _ _ h=>by unfold yA at h;exact okF (aeb n) h Tryz.func197 (by kernel_rfl)
noncomputable def NZ (n:Nat):Nat→List (FR R):=aV 197 ⟨NY,Ig,yA n,aT R Ig,false⟩ (NV n)
theorem aec (n:Nat):aO E (NZ n):=aX (aeb n) (ao1 n)
def N7:aW:=⟨[(2,⟨[0],[],⟨[(3,.d (.int .i64))],[]⟩,[(.exit 0,⟨[],[]⟩),(.ret,⟨[(2,.d .bool)],[]⟩)]⟩)],[]⟩
abbrev N8:List Sk:=[.d .str]
abbrev Ih:List Sk:=[.d .bool]
@[irreducible] noncomputable def Am (n:Nat) (p:ak R.T N8):Option (ak R.T Ih):=aZ E R n false (NZ n) aG N7 Tryz.f150 N8 Ih p
theorem ao2 (n:Nat):bB 150 N8 Ih (Am n):=fun _ _ h=>by unfold Am at h;exact okF (aec n) h Tryz.func150 (by kernel_rfl)
noncomputable def Ii (n:Nat):Nat→List (FR R):=aV 150 ⟨N8,Ih,Am n,aT R Ih,false⟩ (NZ n)
theorem aed (n:Nat):aO E (Ii n):=aX (aec n) (ao2 n)
def Ao:aW:=⟨[(4,⟨[0],[],⟨[(3,.d (.int .i64))],[]⟩,[(.exit 0,⟨[],[]⟩),(.ret,⟨[(2,.d (.int .i64))],[]⟩)]⟩),
 (9,⟨[0],[],⟨[(4,.d (.int .i64))],[]⟩,[(.exit 2,⟨[],[]⟩),(.ret,⟨[(2,.d (.int .i64))],[]⟩)]⟩)],[]⟩
abbrev N9:List Sk:=[.d (.slice .str)]
abbrev Ij:List Sk:=[.d (.int .i64)]
@[irreducible] noncomputable def D8 (n:Nat) (p:ak R.T N9):Option (ak R.T Ij):=aZ E R n false (Ii n) aG Ao Tryz.f151 N9 Ij p
theorem ao3 (n:Nat):bB 151 N9 Ij (D8 n):=fun _ _ h=>by unfold D8 at h;exact okF (aed n) h Tryz.func151 (by kernel_rfl)
noncomputable def WH (n:Nat):Nat→List (FR R):=aV 151 ⟨N9,Ij,D8 n,aT R Ij,false⟩ (Ii n)
theorem aee (n:Nat):aO E (WH n):=aX (aed n) (ao3 n)
def ao4:aW:=⟨[],[]⟩
abbrev Oa:List Sk:=[.d (.st 0),.d .str]
abbrev Ik:List Sk:=[.d (.int .i64)]
@[irreducible] noncomputable def D9 (n:Nat) (p:ak R.T Oa):Option (ak R.T Ik):=aZ E R n false (WH n) aG ao4 Tryz.f91 Oa Ik p
theorem ao5 (n:Nat):bB 91 Oa Ik (D9 n):=fun _ _ h=>by unfold D9 at h;exact okF (aee n) h Tryz.func91 (by kernel_rfl)
noncomputable def Oc (n:Nat):Nat→List (FR R):=aV 91 ⟨Oa,Ik,D9 n,aT R Ik,false⟩ (WH n)
theorem aef (n:Nat):aO E (Oc n):=aX (aee n) (ao5 n)
def Od:aW:=⟨[(7,⟨[1],[1],⟨[(3,.d .str),(4,.d (.int .i64))],[]⟩,[(.exit 0,⟨[],[]⟩),(.ret,⟨[(2,.d (.int .i64))],[]⟩)]⟩)],[]⟩
abbrev Oe:List Sk:=[.d (.st 1)]
abbrev Il:List Sk:=[.d (.int .i64)]
@[irreducible] noncomputable def Ap (n:Nat) (p:ak R.T Oe):Option (ak R.T Il):=aZ E R n false (Oc n) aG Od Tryz.f45 Oe Il p
theorem ao6 (n:Nat):bB 45 Oe Il (Ap n):=fun _ _ h=>by unfold Ap at h;exact okF (aef n) h Tryz.func45 (by kernel_rfl)
noncomputable def WI (n:Nat):Nat→List (FR R):=aV 45 ⟨Oe,Il,Ap n,aT R Il,false⟩ (Oc n)
theorem aeg (n:Nat):aO E (WI n):=aX (aef n) (ao6 n)
def ao7:aW:=⟨[],[]⟩
abbrev Og:List Sk:=[.d (.st 1)]
abbrev Im:List Sk:=[.d (.st 18)]
@[irreducible] noncomputable def Ar (n:Nat) (p:ak R.T Og):Option (ak R.T Im):=aZ E R n false (WI n) aG ao7 Tryz.f88 Og Im p
theorem ao8 (n:Nat):bB 88 Og Im (Ar n):=fun _ _ h=>by unfold Ar at h;exact okF (aeg n) h Tryz.func88 (by kernel_rfl)
noncomputable def Oh (n:Nat):Nat→List (FR R):=aV 88 ⟨Og,Im,Ar n,aT R Im,false⟩ (WI n)
theorem aeh (n:Nat):aO E (Oh n):=aX (aeg n) (ao8 n)
def Oi:aW:=⟨[(2,⟨[1,2],[2],⟨[(5,.d (.int .i64))],[]⟩,[(.exit 0,⟨[],[]⟩),(.ret,⟨[(4,.d .bool)],[]⟩)]⟩)],[]⟩
abbrev Oj:List Sk:=[.d (.st 5),.d (.int .i64)]
abbrev Io:List Sk:=[.d .bool]
@[irreducible] noncomputable def Ea (n:Nat) (p:ak R.T Oj):Option (ak R.T Io):=aZ E R n false (Oh n) aG Oi Tryz.f192 Oj Io p
theorem ao9 (n:Nat):bB 192 Oj Io (Ea n):=fun _ _ h=>by unfold Ea at h;exact okF (aeh n) h Tryz.func192 (by kernel_rfl)
noncomputable def Ol (n:Nat):Nat→List (FR R):=aV 192 ⟨Oj,Io,Ea n,aT R Io,false⟩ (Oh n)
theorem aei (n:Nat):aO E (Ol n):=aX (aeh n) (ao9 n)
def Om:aW:=⟨[(2,⟨[0],[],⟨[(3,.d (.int .i64))],[]⟩,[(.exit 0,⟨[],[]⟩),(.ret,⟨[(2,.d .bool)],[]⟩)]⟩)],[]⟩
abbrev Oo:List Sk:=[.d (.slice (.int .i64))]
abbrev Ip:List Sk:=[.d .bool]
@[irreducible] noncomputable def Eb (n:Nat) (p:ak R.T Oo):Option (ak R.T Ip):=aZ E R n false (Ol n) aG Om Tryz.f221 Oo Ip p
theorem apa (n:Nat):bB 221 Oo Ip (Eb n):=fun _ _ h=>by unfold Eb at h;exact okF (aei n) h Tryz.func221 (by kernel_rfl)
noncomputable def Oq (n:Nat):Nat→List (FR R):=aV 221 ⟨Oo,Ip,Eb n,aT R Ip,false⟩ (Ol n)
theorem aej (n:Nat):aO E (Oq n):=aX (aei n) (apa n)
def Ot:aW:=⟨[(2,⟨[1,2],[2],⟨[(5,.d (.int .i64))],[]⟩,[(.exit 0,⟨[],[]⟩),(.ret,⟨[(4,.d (.int .i64))],[]⟩)]⟩)],[]⟩
abbrev Ou:List Sk:=[.d (.st 1),.d .str]
abbrev Iq:List Sk:=[.d (.int .i64)]
@[irreducible] noncomputable def Ec (n:Nat) (p:ak R.T Ou):Option (ak R.T Iq):=aZ E R n false (Oq n) aG Ot Tryz.f56 Ou Iq p
theorem apb (n:Nat):bB 56 Ou Iq (Ec n):=fun _ _ h=>by unfold Ec at h;exact okF (aej n) h Tryz.func56 (by kernel_rfl)
noncomputable def WJ (n:Nat):Nat→List (FR R):=aV 56 ⟨Ou,Iq,Ec n,aT R Iq,false⟩ (Oq n)
theorem aek (n:Nat):aO E (WJ n):=aX (aej n) (apb n)
def apc:aW:=⟨[],[]⟩
abbrev Ov:List Sk:=[.d (.st 0),.d (.st 2)]
abbrev Ir:List Sk:=[.d (.int .i64)]
@[irreducible] noncomputable def wz (n:Nat) (p:ak R.T Ov):Option (ak R.T Ir):=aZ E R n false (WJ n) aG apc Tryz.f236 Ov Ir p
theorem apd (n:Nat):bB 236 Ov Ir (wz n):=fun _ _ h=>by unfold wz at h;exact okF (aek n) h Tryz.func236 (by kernel_rfl)
noncomputable def Ow (n:Nat):Nat→List (FR R):=aV 236 ⟨Ov,Ir,wz n,aT R Ir,false⟩ (WJ n)
theorem ael (n:Nat):aO E (Ow n):=aX (aek n) (apd n)
def Ox:aW:=⟨[(2,⟨[1,2],[2],⟨[(5,.d (.int .i64))],[]⟩,[(.exit 0,⟨[],[]⟩),(.ret,⟨[(4,.d (.int .i64))],[]⟩)]⟩)],[]⟩
abbrev Oy:List Sk:=[.d (.st 1),.d (.slice (.st 2))]
abbrev Iu:List Sk:=[.d (.int .i64)]
@[irreducible] noncomputable def Ed (n:Nat) (p:ak R.T Oy):Option (ak R.T Iu):=aZ E R n false (Ow n) aG Ox Tryz.f222 Oy Iu p
theorem ape (n:Nat):bB 222 Oy Iu (Ed n):=fun _ _ h=>by unfold Ed at h;exact okF (ael n) h Tryz.func222 (by kernel_rfl)
noncomputable def WK (n:Nat):Nat→List (FR R):=aV 222 ⟨Oy,Iu,Ed n,aT R Iu,false⟩ (Ow n)
theorem aem (n:Nat):aO E (WK n):=aX (ael n) (ape n)
def apf:aW:=⟨[],[]⟩
abbrev Oz:List Sk:=[.d (.st 1),.d (.st 3)]
abbrev Iw:List Sk:=[.d (.int .i64)]
@[irreducible] noncomputable def Au (n:Nat) (p:ak R.T Oz):Option (ak R.T Iw):=aZ E R n false (WK n) aG apf Tryz.f193 Oz Iw p
theorem apg (n:Nat):bB 193 Oz Iw (Au n):=fun _ _ h=>by unfold Au at h;exact okF (aem n) h Tryz.func193 (by kernel_rfl)
noncomputable def OA (n:Nat):Nat→List (FR R):=aV 193 ⟨Oz,Iw,Au n,aT R Iw,false⟩ (WK n)
theorem aen (n:Nat):aO E (OA n):=aX (aem n) (apg n)
def OB:aW:=⟨[(3,⟨[1,2],[2],⟨[(5,.d (.int .i64)),(6,.d (.int .i64))],[]⟩,[(.exit 0,⟨[(5,.d (.int .i64))],[]⟩)]⟩)],[]⟩
abbrev OC:List Sk:=[.d (.st 5),.d (.int .i64)]
abbrev Iy:List Sk:=[.d (.int .i64)]
@[irreducible] noncomputable def Av (n:Nat) (p:ak R.T OC):Option (ak R.T Iy):=aZ E R n false (OA n) aG OB Tryz.f194 OC Iy p
theorem aph (n:Nat):bB 194 OC Iy (Av n):=fun _ _ h=>by unfold Av at h;exact okF (aen n) h Tryz.func194 (by kernel_rfl)
noncomputable def OD (n:Nat):Nat→List (FR R):=aV 194 ⟨OC,Iy,Av n,aT R Iy,false⟩ (OA n)
theorem aeo (n:Nat):aO E (OD n):=aX (aen n) (aph n)
def OE:aW:=⟨[(3,⟨[1,2,3,9],[],⟨[(10,.d (.int .i64))],[(13,.arr (.st 4))]⟩,[(.exit 0,⟨[],[(13,.arr (.st 4))]⟩)]⟩)],[]⟩
abbrev OG:List Sk:=[.d (.slice (.st 4)),.d (.int .i64),.d (.int .i64),.d (.int .i64)]
abbrev Iz:List Sk:=[.d (.slice (.st 4))]
@[irreducible] noncomputable def yB (n:Nat) (p:ak R.T OG):Option (ak R.T Iz):=aZ E R n true (OD n) aG OE Tryz.f195 OG Iz p
theorem apj (n:Nat):bB 195 OG Iz (yB n):=fun _ _ h=>by unfold yB at h;exact okF (aeo n) h Tryz.func195 (by kernel_rfl)
noncomputable def OH (n:Nat):Nat→List (FR R):=aV 195 ⟨OG,Iz,yB n,aT R Iz,false⟩ (OD n)
theorem aep (n:Nat):aO E (OH n):=aX (aeo n) (apj n)
def OI:aW:=⟨[(5,⟨[2,3,5,6,9,10],[5,6,9,10],⟨[(11,.d (.int .i64)),(12,.l .any (.st 4)),(13,.l (.own 95) (.st 4)),(14,.d (.int .i64))],[]⟩,[(.exit 0,⟨[(11,.d (.int .i64)),(12,.l .any (.st 4)),(13,.l (.own 95) (.st 4))],[]⟩)]⟩)],[]⟩
abbrev OJ:List Sk:=[.d (.st 5),.d (.st 13),.d (.slice (.st 4)),.d (.slice (.st 21)),.d (.st 3)]
abbrev IB:List Sk:=[.d (.st 18)]
@[irreducible] noncomputable def rH (n:Nat) (p:ak R.T OJ):Option (ak R.T IB):=aZ E R n false (OH n) aG OI Tryz.f145 OJ IB p
theorem apk (n:Nat):bB 145 OJ IB (rH n):=fun _ _ h=>by unfold rH at h;exact okF (aep n) h Tryz.func145 (by kernel_rfl)
noncomputable def WL (n:Nat):Nat→List (FR R):=aV 145 ⟨OJ,IB,rH n,aT R IB,false⟩ (OH n)
theorem aer (n:Nat):aO E (WL n):=aX (aep n) (apk n)
def apl:aW:=⟨[],[]⟩
abbrev OL:List Sk:=[.d (.st 5),.d (.st 13)]
abbrev IC:List Sk:=[.d (.st 18)]
@[irreducible] noncomputable def Aw (n:Nat) (p:ak R.T OL):Option (ak R.T IC):=aZ E R n false (WL n) aG apl Tryz.f144 OL IC p
theorem apm (n:Nat):bB 144 OL IC (Aw n):=fun _ _ h=>by unfold Aw at h;exact okF (aer n) h Tryz.func144 (by kernel_rfl)
noncomputable def IE (n:Nat):Nat→List (FR R):=aV 144 ⟨OL,IC,Aw n,aT R IC,false⟩ (WL n)
theorem aes (n:Nat):aO E (IE n):=aX (aer n) (apm n)
def Ay:aW:=⟨[(3,⟨[1,2],[2],⟨[(5,.vw 42 (.st 4)),(6,.d (.int .i64))],[(42,.arr (.st 4))]⟩,[(.exit 0,⟨[(5,.vw 42 (.st 4))],[(42,.arr (.st 4))]⟩)]⟩),
 (8,⟨[1,2,5,6],[2],⟨[(7,.d (.int .i64))],[(42,.arr (.st 4))]⟩,[(.exit 2,⟨[(7,.d (.int .i64))],[(42,.arr (.st 4))]⟩)]⟩)],[]⟩
abbrev OM:List Sk:=[.d (.st 5),.d (.int .i64)]
abbrev IG:List Sk:=[.d (.slice (.st 4))]
@[irreducible] noncomputable def rJ (n:Nat) (p:ak R.T OM):Option (ak R.T IG):=aZ E R n true (IE n) aG Ay Tryz.f146 OM IG p
theorem apn (n:Nat):bB 146 OM IG (rJ n):=fun _ _ h=>by unfold rJ at h;exact okF (aes n) h Tryz.func146 (by kernel_rfl)
noncomputable def WM (n:Nat):Nat→List (FR R):=aV 146 ⟨OM,IG,rJ n,aT R IG,false⟩ (IE n)
theorem aeu (n:Nat):aO E (WM n):=aX (aes n) (apn n)
def apo:aW:=⟨[],[]⟩
abbrev OO:List Sk:=[.d (.slice (.st 4))]
abbrev II:List Sk:=[.d (.int .i64)]
@[irreducible] noncomputable def sZ (n:Nat) (p:ak R.T OO):Option (ak R.T II):=aZ E R n false (WM n) aG apo Tryz.f196 OO II p
theorem apq (n:Nat):bB 196 OO II (sZ n):=fun _ _ h=>by unfold sZ at h;exact okF (aeu n) h Tryz.func196 (by kernel_rfl)
noncomputable def OP (n:Nat):Nat→List (FR R):=aV 196 ⟨OO,II,sZ n,aT R II,false⟩ (WM n)
theorem aev (n:Nat):aO E (OP n):=aX (aeu n) (apq n)
def OQ:aW:=⟨[(6,⟨[2,3,4,6,7],[3,4,6],⟨[(8,.l (.own 54) (.st 21)),(9,.d (.int .i64))],[]⟩,[(.exit 0,⟨[(8,.l (.own 54) (.st 21))],[]⟩)]⟩)],[]⟩
abbrev OT:List Sk:=[.d (.st 5),.d (.st 13),.d (.slice (.st 4))]
abbrev IJ:List Sk:=[.d (.st 18)]
@[irreducible] noncomputable def qx (n:Nat) (p:ak R.T OT):Option (ak R.T IJ):=aZ E R n false (OP n) aG OQ Tryz.f147 OT IJ p
theorem apr (n:Nat):bB 147 OT IJ (qx n):=fun _ _ h=>by unfold qx at h;exact okF (aev n) h Tryz.func147 (by kernel_rfl)
noncomputable def OU (n:Nat):Nat→List (FR R):=aV 147 ⟨OT,IJ,qx n,aT R IJ,false⟩ (OP n)
theorem aew (n:Nat):aO E (OU n):=aX (aev n) (apr n)
def OV:aW:=⟨[(5,⟨[2,3,4,6],[3,4,6],⟨[(7,.l (.own 46) (.st 21)),(8,.d (.int .i64))],[]⟩,[(.exit 0,⟨[(7,.l (.own 46) (.st 21))],[]⟩)]⟩)],[]⟩
abbrev OX:List Sk:=[.d (.st 5),.d (.st 13),.d (.slice (.st 4))]
abbrev IK:List Sk:=[.d (.st 18)]
@[irreducible] noncomputable def qy (n:Nat) (p:ak R.T OX):Option (ak R.T IK):=aZ E R n false (OU n) aG OV Tryz.f148 OX IK p
theorem aps (n:Nat):bB 148 OX IK (qy n):=fun _ _ h=>by unfold qy at h;exact okF (aew n) h Tryz.func148 (by kernel_rfl)
noncomputable def OY (n:Nat):Nat→List (FR R):=aV 148 ⟨OX,IK,qy n,aT R IK,false⟩ (OU n)
theorem aex (n:Nat):aO E (OY n):=aX (aew n) (aps n)
def OZ:aW:=⟨[(8,⟨[2,3,4,6,7],[3,4,6],⟨[(8,.l (.own 78) (.st 21)),(9,.d (.int .i64))],[]⟩,[(.exit 0,⟨[(8,.l (.own 78) (.st 21))],[]⟩)]⟩)],[]⟩
abbrev O1:List Sk:=[.d (.st 5),.d (.st 13),.d (.slice (.st 4))]
abbrev IL:List Sk:=[.d (.st 18)]
@[irreducible] noncomputable def qz (n:Nat) (p:ak R.T O1):Option (ak R.T IL):=aZ E R n false (OY n) aG OZ Tryz.f149 O1 IL p
theorem apt (n:Nat):bB 149 O1 IL (qz n):=fun _ _ h=>by unfold qz at h;exact okF (aex n) h Tryz.func149 (by kernel_rfl)
noncomputable def WO (n:Nat):Nat→List (FR R):=aV 149 ⟨O1,IL,qz n,aT R IL,false⟩ (OY n)
theorem aey (n:Nat):aO E (WO n):=aX (aex n) (apt n)
def apu:aW:=⟨[],[]⟩
abbrev O4:List Sk:=[.d (.st 5),.d (.st 13)]
abbrev IQ:List Sk:=[.d (.st 18)]
@[irreducible] noncomputable def yC (n:Nat) (p:ak R.T O4):Option (ak R.T IQ):=aZ E R n false (WO n) aG apu Tryz.f89 O4 IQ p
theorem apv (n:Nat):bB 89 O4 IQ (yC n):=fun _ _ h=>by unfold yC at h;exact okF (aey n) h Tryz.func89 (by kernel_rfl)
noncomputable def O5 (n:Nat):Nat→List (FR R):=aV 89 ⟨O4,IQ,yC n,aT R IQ,false⟩ (WO n)
theorem aez (n:Nat):aO E (O5 n):=aX (aey n) (apv n)
def O6:aW:=⟨[(3,⟨[1,4,5],[],⟨[(6,.d (.int .i64))],[(4,.st 16),(5,.st 18)]⟩,[(.exit 0,⟨[],[(4,.st 16),(5,.st 18)]⟩),(.ret,⟨[],[(4,.st 16)]⟩)]⟩)],[]⟩
abbrev O7:List Sk:=[.d (.st 1),.d (.slice (.st 13))]
abbrev IU:List Sk:=[.d (.st 16)]
@[irreducible] noncomputable def yD (n:Nat) (p:ak R.T O7):Option (ak R.T IU):=aZ E R n false (O5 n) aG O6 Tryz.f44 O7 IU p
theorem apw (n:Nat):bB 44 O7 IU (yD n):=fun _ _ h=>by unfold yD at h;exact okF (aez n) h Tryz.func44 (by kernel_rfl)
noncomputable def WQ (n:Nat):Nat→List (FR R):=aV 44 ⟨O7,IU,yD n,aT R IU,false⟩ (O5 n)
theorem aeA (n:Nat):aO E (WQ n):=aX (aez n) (apw n)
def apx:aW:=⟨[],[]⟩
abbrev O8:List Sk:=[.d (.st 1),.d (.slice (.st 13))]
abbrev IW:List Sk:=[.d (.st 5),.d .bool]
@[irreducible] noncomputable def Az (n:Nat) (p:ak R.T O8):Option (ak R.T IW):=aZ E R n false (WQ n) aG apx Tryz.f9 O8 IW p
theorem apy (n:Nat):bB 9 O8 IW (Az n):=fun _ _ h=>by unfold Az at h;exact okF (aeA n) h Tryz.func9 (by kernel_rfl)
noncomputable def aeB (n:Nat):Nat→List (FR R):=aV 9 ⟨O8,IW,Az n,aT R IW,false⟩ (WQ n)
theorem apz (n:Nat):aO E (aeB n):=aX (aeA n) (apy n)
abbrev O9:List Sk:=[]
abbrev IX:List Sk:=[.d .bool]
@[irreducible] def yE (n:Nat) (p:ak R.T O9):Option (ak R.T IX):=some true
theorem apA (n:Nat) (p:ak R.T O9) (x:ak R.T IX) (h:yE n p=some x):Pure E 11 (bG R O9 p) (ku (bG R IX x)):=by
 unfold yE at h
 cases h
 exact aoV
noncomputable def Pb (n:Nat):Nat→List (FR R):=aV 11 ⟨O9,IX,yE n,aT R IX,false⟩ (aeB n)
theorem aeC (n:Nat):aO E (Pb n):=aX (apz n) (apA n)
def Pd:aW:=⟨[(3,⟨[3,7,8],[],⟨[(9,.d (.int .i64))],[(6,.map (.int .i64) (.int .i64))]⟩,[(.exit 0,⟨[],[(6,.map (.int .i64) (.int .i64))]⟩)]⟩)],[]⟩
abbrev Pe:List Sk:=[.d (.slice (.st 4))]
abbrev IY:List Sk:=[.dD (.int .i64) (.int .i64)]
@[irreducible] noncomputable def Ee (n:Nat) (p:ak R.T Pe):Option (ak R.T IY):=aZ E R n false (Pb n) aG Pd Tryz.f99 Pe IY p
theorem apB (n:Nat):bB 99 Pe IY (Ee n):=fun _ _ h=>by unfold Ee at h;exact okF (aeC n) h Tryz.func99 (by kernel_rfl)
noncomputable def WR (n:Nat):Nat→List (FR R):=aV 99 ⟨Pe,IY,Ee n,aT R IY,false⟩ (Pb n)
theorem aeD (n:Nat):aO E (WR n):=aX (aeC n) (apB n)
def apC:aW:=⟨[],[]⟩
abbrev Pf:List Sk:=[.d (.st 5),.d (.int .i64)]
abbrev IZ:List Sk:=[.fn 100 [] [.aM [.d (.int .i64)] 0,.aM [.dD (.int .i64) (.int .i64)] 0]]
@[irreducible] noncomputable def yF (n:Nat) (p:ak R.T Pf):Option (ak R.T IZ):=aZ E R n false (WR n) aG apC Tryz.f51 Pf IZ p
theorem apD (n:Nat):bB 51 Pf IZ (yF n):=fun _ _ h=>by unfold yF at h;exact okF (aeD n) h Tryz.func51 (by kernel_rfl)
noncomputable def WS (n:Nat):Nat→List (FR R):=aV 51 ⟨Pf,IZ,yF n,aT R IZ,false⟩ (WR n)
theorem aeE (n:Nat):aO E (WS n):=aX (aeD n) (apD n)
def apE:aW:=⟨[],[]⟩
abbrev Ph:List Sk:=[.d (.st 4),.aM [.d (.int .i64)] 0,.aM [.dD (.int .i64) (.int .i64)] 0]
abbrev I4:List Sk:=[.d .bool]
@[irreducible] noncomputable def AA (n:Nat) (p:ak R.T Ph):Option (ak R.T I4):=aZ E R n false (WS n) aG apE Tryz.f100 Ph I4 p
theorem apF (n:Nat):bB 100 Ph I4 (AA n):=fun _ _ h=>by unfold AA at h;exact okF (aeE n) h Tryz.func100 (by kernel_rfl)
noncomputable def Pj (n:Nat):Nat→List (FR R):=aV 100 ⟨Ph,I4,AA n,aT R I4,false⟩ (WS n)
theorem aeF (n:Nat):aO E (Pj n):=aX (aeE n) (apF n)
def Pk:aW:=⟨[(2,⟨[1,8,9],[],⟨[(4,.l (.own 20) (.st 4)),(5,.l (.own 24) (.st 4)),(10,.d (.int .i64))],[]⟩,[(.exit 0,⟨[(4,.l (.own 20) (.st 4)),(5,.l (.own 24) (.st 4))],[]⟩)]⟩)],[]⟩
abbrev Pm:List Sk:=[.d (.slice (.st 4)),.fn 100 [] [.aM [.d (.int .i64)] 0,.aM [.dD (.int .i64) (.int .i64)] 0]]
abbrev I5:List Sk:=[.d (.slice (.st 4)),.d (.slice (.st 4))]
@[irreducible] noncomputable def Ef (n:Nat) (p:ak R.T Pm):Option (ak R.T I5):=aZ E R n false (Pj n) aG Pk Tryz.f50 Pm I5 p
theorem apG (n:Nat):bB 50 Pm I5 (Ef n):=fun _ _ h=>by unfold Ef at h;exact okF (aeF n) h Tryz.func50 (by kernel_rfl)
noncomputable def I6 (n:Nat):Nat→List (FR R):=aV 50 ⟨Pm,I5,Ef n,aT R I5,false⟩ (Pj n)
theorem aeG (n:Nat):aO E (I6 n):=aX (aeF n) (apG n)
def AB:aW:=⟨[(3,⟨[0,9,10],[],⟨[(3,.d (.int .i64)),(11,.d (.int .i64))],[]⟩,[(.exit 0,⟨[(3,.d (.int .i64))],[]⟩)]⟩),
 (11,⟨[25,26],[],⟨[(6,.l (.own 24) (.int .i64)),(27,.d (.int .i64))],[]⟩,[(.exit 2,⟨[(6,.l (.own 24) (.int .i64))],[]⟩)]⟩)],[]⟩
abbrev Eh:List Sk:=[.d (.slice (.slice (.int .i64)))]
abbrev WT:List Sk:=[.d (.slice (.int .i64))]
@[irreducible] noncomputable def yG (n:Nat) (p:ak R.T Eh):Option (ak R.T WT):=G6 E R n false (I6 n) aG AB Tryz.f161 Eh (.int .i64) p
theorem apH (n:Nat) (p:ak R.T Eh) (x:ak R.T WT) (h:yG n p=some x):Pure E 161 (bG R Eh p) (.aj .sh (List.map (aD R (.int .i64)) x))∧nC E 161 (bG R Eh p) (dB R (.int .i64)) (List.map (aD R (.int .i64)) x):=by
 unfold yG at h
 exact Wq sV (aeG n) uL h Tryz.func161 rfl rfl rfl rfl (by kernel_rfl)
noncomputable def Pn (n:Nat):Nat→List (FR R):=aV 161 ⟨Eh,[.d (.slice (.int .i64))],yG n,aT R WT,true⟩ (I6 n)
theorem aeH (n:Nat):aO E (Pn n):=Wt (G:=yG n) (aeG n) (apH n)
def Po:aW:=⟨[(3,⟨[],[],⟨[(3,.d (.int .u64)),(4,.l (.own 21) (.int .u8))],[]⟩,[(.exit 0,⟨[(3,.d (.int .u64)),(4,.l (.own 21) (.int .u8))],[]⟩)]⟩)],[]⟩
abbrev Ei:List Sk:=[.d (.int .i64)]
abbrev WU:List Sk:=[.d (.slice (.int .u8))]
@[irreducible] noncomputable def tq (n:Nat) (p:ak R.T Ei):Option (ak R.T WU):=G6 E R n false (Pn n) aG Po Tryz.f105 Ei (.int .u8) p
theorem apI (n:Nat) (p:ak R.T Ei) (x:ak R.T WU) (h:tq n p=some x):Pure E 105 (bG R Ei p) (.aj .sh (List.map (aD R (.int .u8)) x))∧nC E 105 (bG R Ei p) (dB R (.int .u8)) (List.map (aD R (.int .u8)) x):=by
 unfold tq at h
 exact Wq sV (aeH n) uL h Tryz.func105 rfl rfl rfl rfl (by kernel_rfl)
noncomputable def Pp (n:Nat):Nat→List (FR R):=aV 105 ⟨Ei,[.d (.slice (.int .u8))],tq n,aT R WU,true⟩ (Pn n)
theorem aeI (n:Nat):aO E (Pp n):=Wt (G:=tq n) (aeH n) (apI n)
def Pq:aW:=⟨[(3,⟨[1,11,12],[],⟨[(5,.l (.own 10) (.int .u8)),(13,.d (.int .i64))],[]⟩,[(.exit 0,⟨[(5,.l (.own 10) (.int .u8))],[]⟩)]⟩)],[]⟩
abbrev Pt:List Sk:=[.d (.slice (.int .i64)),.fn 105 [] []]
abbrev I7:List Sk:=[.d (.slice (.int .u8))]
@[irreducible] noncomputable def I8 (n:Nat) (p:ak R.T Pt):Option (ak R.T I7):=aZ E R n false (Pp n) aG Pq Tryz.f104 Pt I7 p
theorem apJ (n:Nat):bB 104 Pt I7 (I8 n):=fun _ _ h=>by unfold I8 at h;exact okF (aeI n) h Tryz.func104 (by kernel_rfl)
noncomputable def WV (n:Nat):Nat→List (FR R):=aV 104 ⟨Pt,I7,I8 n,aT R I7,false⟩ (Pp n)
theorem aeJ (n:Nat):aO E (WV n):=aX (aeI n) (apJ n)
def apK:aW:=⟨[],[]⟩
abbrev Pv:List Sk:=[.d (.slice (.int .i64))]
abbrev I9:List Sk:=[.d (.slice (.int .u8))]
@[irreducible] noncomputable def yH (n:Nat) (p:ak R.T Pv):Option (ak R.T I9):=aZ E R n false (WV n) aG apK Tryz.f60 Pv I9 p
theorem apL (n:Nat):bB 60 Pv I9 (yH n):=fun _ _ h=>by unfold yH at h;exact okF (aeJ n) h Tryz.func60 (by kernel_rfl)
noncomputable def WW (n:Nat):Nat→List (FR R):=aV 60 ⟨Pv,I9,yH n,aT R I9,false⟩ (WV n)
theorem aeK (n:Nat):aO E (WW n):=aX (aeJ n) (apL n)
def apM:aW:=⟨[],[]⟩
abbrev Pw:List Sk:=[.d .str]
abbrev Ja:List Sk:=[.d (.slice (.int .u8))]
@[irreducible] noncomputable def yI (n:Nat) (p:ak R.T Pw):Option (ak R.T Ja):=aZ E R n false (WW n) aG apM Tryz.f159 Pw Ja p
theorem apN (n:Nat):bB 159 Pw Ja (yI n):=fun _ _ h=>by unfold yI at h;exact okF (aeK n) h Tryz.func159 (by kernel_rfl)
noncomputable def Px (n:Nat):Nat→List (FR R):=aV 159 ⟨Pw,Ja,yI n,aT R Ja,false⟩ (WW n)
theorem aeL (n:Nat):aO E (Px n):=aX (aeK n) (apN n)
def Py:aW:=⟨[(3,⟨[1,11,12],[],⟨[(5,.l (.own 10) (.int .u8)),(13,.d (.int .i64))],[]⟩,[(.exit 0,⟨[(5,.l (.own 10) (.int .u8))],[]⟩)]⟩)],[]⟩
abbrev Pz:List Sk:=[.d (.slice .str),.fn 159 [] []]
abbrev Jb:List Sk:=[.d (.slice (.int .u8))]
@[irreducible] noncomputable def Jc (n:Nat) (p:ak R.T Pz):Option (ak R.T Jb):=aZ E R n false (Px n) aG Py Tryz.f201 Pz Jb p
theorem apO (n:Nat):bB 201 Pz Jb (Jc n):=fun _ _ h=>by unfold Jc at h;exact okF (aeL n) h Tryz.func201 (by kernel_rfl)
noncomputable def WX (n:Nat):Nat→List (FR R):=aV 201 ⟨Pz,Jb,Jc n,aT R Jb,false⟩ (Px n)
theorem aeM (n:Nat):aO E (WX n):=aX (aeL n) (apO n)
def apP:aW:=⟨[],[]⟩
abbrev PD:List Sk:=[.d (.slice .str)]
abbrev Jd:List Sk:=[.d (.slice (.int .u8))]
@[irreducible] noncomputable def AJ (n:Nat) (p:ak R.T PD):Option (ak R.T Jd):=aZ E R n false (WX n) aG apP Tryz.f163 PD Jd p
theorem apQ (n:Nat):bB 163 PD Jd (AJ n):=fun _ _ h=>by unfold AJ at h;exact okF (aeM n) h Tryz.func163 (by kernel_rfl)
noncomputable def Je (n:Nat):Nat→List (FR R):=aV 163 ⟨PD,Jd,AJ n,aT R Jd,false⟩ (WX n)
theorem aeN (n:Nat):aO E (Je n):=aX (aeM n) (apQ n)
def AL:aW:=⟨[(3,⟨[0,9,10],[],⟨[(3,.d (.int .i64)),(11,.d (.int .i64))],[]⟩,[(.exit 0,⟨[(3,.d (.int .i64))],[]⟩)]⟩),
 (11,⟨[25,26],[],⟨[(6,.l (.own 24) (.int .u8)),(27,.d (.int .i64))],[]⟩,[(.exit 2,⟨[(6,.l (.own 24) (.int .u8))],[]⟩)]⟩)],[]⟩
abbrev PE:List Sk:=[.d (.slice (.slice (.int .u8)))]
abbrev Jf:List Sk:=[.d (.slice (.int .u8))]
@[irreducible] noncomputable def AO (n:Nat) (p:ak R.T PE):Option (ak R.T Jf):=aZ E R n false (Je n) aG AL Tryz.f162 PE Jf p
theorem apR (n:Nat):bB 162 PE Jf (AO n):=fun _ _ h=>by unfold AO at h;exact okF (aeN n) h Tryz.func162 (by kernel_rfl)
noncomputable def PG (n:Nat):Nat→List (FR R):=aV 162 ⟨PE,Jf,AO n,aT R Jf,false⟩ (Je n)
theorem aeO (n:Nat):aO E (PG n):=aX (aeN n) (apR n)
def PI:aW:=⟨[(4,⟨[34,35],[],⟨[(3,.l (.own 32) (.int .i64)),(4,.l (.own 53) .str),(36,.d (.int .i64))],[]⟩,[(.exit 0,⟨[(3,.l (.own 32) (.int .i64)),(4,.l (.own 53) .str)],[]⟩)]⟩)],[]⟩
abbrev PK:List Sk:=[.d (.st 3)]
abbrev Jg:List Sk:=[.d (.slice (.int .u8))]
@[irreducible] noncomputable def AP (n:Nat) (p:ak R.T PK):Option (ak R.T Jg):=aZ E R n false (PG n) aG PI Tryz.f103 PK Jg p
theorem apS (n:Nat):bB 103 PK Jg (AP n):=fun _ _ h=>by unfold AP at h;exact okF (aeO n) h Tryz.func103 (by kernel_rfl)
noncomputable def WY (n:Nat):Nat→List (FR R):=aV 103 ⟨PK,Jg,AP n,aT R Jg,false⟩ (PG n)
theorem aeP (n:Nat):aO E (WY n):=aX (aeO n) (apS n)
def apT:aW:=⟨[],[]⟩
abbrev PL:List Sk:=[]
abbrev Jh:List Sk:=[.sg [.a .u32 8,.a .u8 64,.i .u64]]
@[irreducible] noncomputable def Ej (n:Nat) (p:ak R.T PL):Option (ak R.T Jh):=aZ E R n false (WY n) aG apT Tryz.f157 PL Jh p
theorem apU (n:Nat):bB 157 PL Jh (Ej n):=fun _ _ h=>by unfold Ej at h;exact okF (aeP n) h Tryz.func157 (by kernel_rfl)
noncomputable def WZ (n:Nat):Nat→List (FR R):=aV 157 ⟨PL,Jh,Ej n,aT R Jh,false⟩ (WY n)
theorem aeQ (n:Nat):aO E (WZ n):=aX (aeP n) (apU n)
def apV:aW:=⟨[],[]⟩
abbrev PN:List Sk:=[.d (.int .u32),.d (.int .i64)]
abbrev Ji:List Sk:=[.d (.int .u32)]
@[irreducible] noncomputable def rM (n:Nat) (p:ak R.T PN):Option (ak R.T Ji):=aZ E R n false (WZ n) aG apV Tryz.f237 PN Ji p
theorem apW (n:Nat):bB 237 PN Ji (rM n):=fun _ _ h=>by unfold rM at h;exact okF (aeQ n) h Tryz.func237 (by kernel_rfl)
noncomputable def Jj (n:Nat):Nat→List (FR R):=aV 237 ⟨PN,Ji,rM n,aT R Ji,false⟩ (WZ n)
theorem aeR (n:Nat):aO E (Jj n):=aX (aeQ n) (apW n)
def AQ:aW:=⟨[(3,⟨[0,2,3],[2],⟨[(11,.d (.int .i64))],[(3,.sg [.a .u32 64])]⟩,[(.exit 0,⟨[],[(3,.sg [.a .u32 64])]⟩)]⟩),
 (7,⟨[0,2,3,4,11,22,23],[2],⟨[(24,.d (.int .i64))],[(3,.sg [.a .u32 64])]⟩,[(.exit 2,⟨[],[(3,.sg [.a .u32 64])]⟩)]⟩)],[]⟩
abbrev PO:List Sk:=[.d (.slice (.int .u8))]
abbrev Jk:List Sk:=[.sg [.a .u32 64]]
@[irreducible] noncomputable def AU (n:Nat) (p:ak R.T PO):Option (ak R.T Jk):=aZ E R n false (Jj n) aG AQ Tryz.f223 PO Jk p
theorem apX (n:Nat):bB 223 PO Jk (AU n):=fun _ _ h=>by unfold AU at h;exact okF (aeR n) h Tryz.func223 (by kernel_rfl)
noncomputable def W9 (n:Nat):Nat→List (FR R):=aV 223 ⟨PO,Jk,AU n,aT R Jk,false⟩ (Jj n)
theorem aeS (n:Nat):aO E (W9 n):=aX (aeR n) (apX n)
def apY:aW:=⟨[],[]⟩
abbrev PU:List Sk:=[.d (.int .u32),.d (.int .i64),.d (.int .i64),.d (.int .i64)]
abbrev Jl:List Sk:=[.d (.int .u32)]
@[irreducible] noncomputable def AV (n:Nat) (p:ak R.T PU):Option (ak R.T Jl):=aZ E R n false (W9 n) aG apY Tryz.f224 PU Jl p
theorem apZ (n:Nat):bB 224 PU Jl (AV n):=fun _ _ h=>by unfold AV at h;exact okF (aeS n) h Tryz.func224 (by kernel_rfl)
noncomputable def Jm (n:Nat):Nat→List (FR R):=aV 224 ⟨PU,Jl,AV n,aT R Jl,false⟩ (W9 n)
theorem aeT (n:Nat):aO E (Jm n):=aX (aeS n) (apZ n)
def AX:aW:=⟨[(4,⟨[2,4,5,6,7,21],[2,4,5],⟨[(22,.d (.int .i64))],[(6,.sg [.a .u32 4]),(7,.sg [.a .u32 4])]⟩,[(.exit 0,⟨[],[(6,.sg [.a .u32 4]),(7,.sg [.a .u32 4])]⟩)]⟩),
 (12,⟨[2,4,6,7],[4,6,7],⟨[(94,.d (.int .i64))],[(2,.sg [.a .u32 8])]⟩,[(.exit 2,⟨[],[(2,.sg [.a .u32 8])]⟩)]⟩)],[]⟩
abbrev PV:List Sk:=[.sg [.a .u32 8],.d (.slice (.int .u8))]
abbrev Jo:List Sk:=[.sg [.a .u32 8]]
@[irreducible] noncomputable def AY (n:Nat) (p:ak R.T PV):Option (ak R.T Jo):=aZ E R n false (Jm n) aG AX Tryz.f198 PV Jo p
theorem ap0 (n:Nat):bB 198 PV Jo (AY n):=fun _ _ h=>by unfold AY at h;exact okF (aeT n) h Tryz.func198 (by kernel_rfl)
noncomputable def PW (n:Nat):Nat→List (FR R):=aV 198 ⟨PV,Jo,AY n,aT R Jo,false⟩ (Jm n)
theorem aeU (n:Nat):aO E (PW n):=aX (aeT n) (ap0 n)
def PX:aW:=⟨[(1,⟨[2,4],[4],⟨[(1,.d .str)],[(2,.sg [.a .u32 8,.a .u8 64,.i .u64])]⟩,[(.exit 0,⟨[],[(2,.sg [.a .u32 8,.a .u8 64,.i .u64])]⟩)]⟩)],[]⟩
abbrev PY:List Sk:=[.sg [.a .u32 8,.a .u8 64,.i .u64],.d .str]
abbrev Jp:List Sk:=[.sg [.a .u32 8,.a .u8 64,.i .u64]]
@[irreducible] noncomputable def uM (n:Nat) (p:ak R.T PY):Option (ak R.T Jp):=aZ E R n false (PW n) aG PX Tryz.f158 PY Jp p
theorem ap1 (n:Nat):bB 158 PY Jp (uM n):=fun _ _ h=>by unfold uM at h;exact okF (aeU n) h Tryz.func158 (by kernel_rfl)
noncomputable def El (n:Nat):Nat→List (FR R):=aV 158 ⟨PY,Jp,uM n,aT R Jp,false⟩ (PW n)
theorem aeV (n:Nat):aO E (El n):=aX (aeU n) (ap1 n)
def uN:aW:=⟨[(3,⟨[1,2,3],[1,2],⟨[(4,.l (.own 22) (.int .u8))],[]⟩,[(.exit 0,⟨[(4,.l (.own 22) (.int .u8))],[]⟩)]⟩),
 (6,⟨[1,2,3],[1,2],⟨[(4,.l (.own 22) (.int .u8)),(23,.d (.int .i64))],[]⟩,[(.exit 2,⟨[(4,.l (.own 22) (.int .u8))],[]⟩)]⟩),
 (13,⟨[1,2,6],[1,2],⟨[(40,.d (.int .i64))],[(6,.sg [.a .u8 32])]⟩,[(.exit 4,⟨[],[(6,.sg [.a .u8 32])]⟩)]⟩)],[]⟩
abbrev PZ:List Sk:=[.sg [.a .u32 8,.a .u8 64,.i .u64]]
abbrev Jq:List Sk:=[.sg [.a .u8 32]]
@[irreducible] noncomputable def AZ (n:Nat) (p:ak R.T PZ):Option (ak R.T Jq):=aZ E R n false (El n) aG uN Tryz.f160 PZ Jq p
theorem ap2 (n:Nat):bB 160 PZ Jq (AZ n):=fun _ _ h=>by unfold AZ at h;exact okF (aeV n) h Tryz.func160 (by kernel_rfl)
noncomputable def P5 (n:Nat):Nat→List (FR R):=aV 160 ⟨PZ,Jq,AZ n,aT R Jq,false⟩ (El n)
theorem aeW (n:Nat):aO E (P5 n):=aX (aeV n) (ap2 n)
def P6:aW:=⟨[(3,⟨[4,5,15,16],[4],⟨[(17,.d (.int .i64))],[(5,.sg [.a .u32 8,.a .u8 64,.i .u64])]⟩,[(.exit 0,⟨[],[(5,.sg [.a .u32 8,.a .u8 64,.i .u64])]⟩)]⟩)],[]⟩
abbrev P7:List Sk:=[.d (.int .i64),.d (.slice .str)]
abbrev Jr:List Sk:=[.d (.st 6)]
@[irreducible] noncomputable def uO (n:Nat) (p:ak R.T P7):Option (ak R.T Jr):=aZ E R n false (P5 n) aG P6 Tryz.f102 P7 Jr p
theorem ap3 (n:Nat):bB 102 P7 Jr (uO n):=fun _ _ h=>by unfold uO at h;exact okF (aeW n) h Tryz.func102 (by kernel_rfl)
noncomputable def Xa (n:Nat):Nat→List (FR R):=aV 102 ⟨P7,Jr,uO n,aT R Jr,false⟩ (P5 n)
theorem aeX (n:Nat):aO E (Xa n):=aX (aeW n) (ap3 n)
def ap4:aW:=⟨[],[]⟩
abbrev P8:List Sk:=[.d (.st 3)]
abbrev Js:List Sk:=[.d (.st 6)]
@[irreducible] noncomputable def A8 (n:Nat) (p:ak R.T P8):Option (ak R.T Js):=aZ E R n false (Xa n) aG ap4 Tryz.f58 P8 Js p
theorem ap5 (n:Nat):bB 58 P8 Js (A8 n):=fun _ _ h=>by unfold A8 at h;exact okF (aeX n) h Tryz.func58 (by kernel_rfl)
noncomputable def Xb (n:Nat):Nat→List (FR R):=aV 58 ⟨P8,Js,A8 n,aT R Js,false⟩ (Xa n)
theorem aeY (n:Nat):aO E (Xb n):=aX (aeX n) (ap5 n)
def ap6:aW:=⟨[],[]⟩
abbrev P9:List Sk:=[.d (.st 4)]
abbrev Jt:List Sk:=[.d (.st 7)]
@[irreducible] noncomputable def uP (n:Nat) (p:ak R.T P9):Option (ak R.T Jt):=aZ E R n false (Xb n) aG ap6 Tryz.f25 P9 Jt p
theorem ap7 (n:Nat):bB 25 P9 Jt (uP n):=fun _ _ h=>by unfold uP at h;exact okF (aeY n) h Tryz.func25 (by kernel_rfl)
noncomputable def Qa (n:Nat):Nat→List (FR R):=aV 25 ⟨P9,Jt,uP n,aT R Jt,false⟩ (Xb n)
theorem aeZ (n:Nat):aO E (Qa n):=aX (aeY n) (ap7 n)
def Qb:aW:=⟨[(6,⟨[2,4,8,30,31],[2,4],⟨[(9,.l (.own 40) (.st 7)),(32,.d (.int .i64))],[]⟩,[(.exit 0,⟨[(9,.l (.own 40) (.st 7))],[]⟩)]⟩)],[]⟩
abbrev Qc:List Sk:=[.d (.st 5),.d (.int .i64)]
abbrev Ju:List Sk:=[.d (.st 5),.d (.slice (.st 7)),.d (.int .i64)]
@[irreducible] noncomputable def uQ (n:Nat) (p:ak R.T Qc):Option (ak R.T Ju):=aZ E R n false (Qa n) aG Qb Tryz.f16 Qc Ju p
theorem ap8 (n:Nat):bB 16 Qc Ju (uQ n):=fun _ _ h=>by unfold uQ at h;exact okF (aeZ n) h Tryz.func16 (by kernel_rfl)
noncomputable def Qd (n:Nat):Nat→List (FR R):=aV 16 ⟨Qc,Ju,uQ n,aT R Ju,false⟩ (Qa n)
theorem ae0 (n:Nat):aO E (Qd n):=aX (aeZ n) (ap8 n)
def Qe:aW:=⟨[(2,⟨[1,2],[2],⟨[(5,.d (.int .i64))],[]⟩,[(.exit 0,⟨[],[]⟩),(.ret,⟨[(4,.d .bool)],[]⟩)]⟩)],[]⟩
abbrev Qf:List Sk:=[.d (.st 5),.d (.int .i64)]
abbrev Jv:List Sk:=[.d .bool]
@[irreducible] noncomputable def Em (n:Nat) (p:ak R.T Qf):Option (ak R.T Jv):=aZ E R n false (Qd n) aG Qe Tryz.f57 Qf Jv p
theorem ap9 (n:Nat):bB 57 Qf Jv (Em n):=fun _ _ h=>by unfold Em at h;exact okF (ae0 n) h Tryz.func57 (by kernel_rfl)
noncomputable def Xc (n:Nat):Nat→List (FR R):=aV 57 ⟨Qf,Jv,Em n,aT R Jv,false⟩ (Qd n)
theorem ae1 (n:Nat):aO E (Xc n):=aX (ae0 n) (ap9 n)
def aqa:aW:=⟨[],[]⟩
abbrev Qg:List Sk:=[.d (.st 5),.d (.int .i64),.d (.int .i64)]
abbrev Jw:List Sk:=[.d .bool]
@[irreducible] noncomputable def wB (n:Nat) (p:ak R.T Qg):Option (ak R.T Jw):=aZ E R n false (Xc n) aG aqa Tryz.f22 Qg Jw p
theorem aqb (n:Nat):bB 22 Qg Jw (wB n):=fun _ _ h=>by unfold wB at h;exact okF (ae1 n) h Tryz.func22 (by kernel_rfl)
noncomputable def Qh (n:Nat):Nat→List (FR R):=aV 22 ⟨Qg,Jw,wB n,aT R Jw,false⟩ (Xc n)
theorem ae2 (n:Nat):aO E (Qh n):=aX (ae1 n) (aqb n)
def Qi:aW:=⟨[(5,⟨[],[],⟨[(3,.d (.int .u64)),(4,.l (.own 23) (.int .u8))],[]⟩,[(.exit 0,⟨[(3,.d (.int .u64)),(4,.l (.own 23) (.int .u8))],[]⟩)]⟩)],[]⟩
abbrev En:List Sk:=[.d (.int .i64)]
abbrev Xd:List Sk:=[.d (.slice (.int .u8))]
@[irreducible] noncomputable def tu (n:Nat) (p:ak R.T En):Option (ak R.T Xd):=G6 E R n false (Qh n) aG Qi Tryz.f106 En (.int .u8) p
theorem aqc (n:Nat) (p:ak R.T En) (x:ak R.T Xd) (h:tu n p=some x):Pure E 106 (bG R En p) (.aj .sh (List.map (aD R (.int .u8)) x))∧nC E 106 (bG R En p) (dB R (.int .u8)) (List.map (aD R (.int .u8)) x):=by
 unfold tu at h
 exact Wq sV (ae2 n) uL h Tryz.func106 rfl rfl rfl rfl (by kernel_rfl)
noncomputable def Qj (n:Nat):Nat→List (FR R):=aV 106 ⟨En,[.d (.slice (.int .u8))],tu n,aT R Xd,true⟩ (Qh n)
theorem ae3 (n:Nat):aO E (Qj n):=Wt (G:=tu n) (ae2 n) (aqc n)
def Qk:aW:=⟨[(3,⟨[0],[],⟨[(3,.l (.own 7) (.int .u8)),(4,.d (.int .i64))],[]⟩,[(.exit 0,⟨[(3,.l (.own 7) (.int .u8))],[]⟩)]⟩)],[]⟩
abbrev Ql:List Sk:=[.d (.slice (.int .i64))]
abbrev Jy:List Sk:=[.d (.slice (.int .u8))]
@[irreducible] noncomputable def yJ (n:Nat) (p:ak R.T Ql):Option (ak R.T Jy):=aZ E R n false (Qj n) aG Qk Tryz.f61 Ql Jy p
theorem aqd (n:Nat):bB 61 Ql Jy (yJ n):=fun _ _ h=>by unfold yJ at h;exact okF (ae3 n) h Tryz.func61 (by kernel_rfl)
noncomputable def Xe (n:Nat):Nat→List (FR R):=aV 61 ⟨Ql,Jy,yJ n,aT R Jy,false⟩ (Qj n)
theorem ae4 (n:Nat):aO E (Xe n):=aX (ae3 n) (aqd n)
def aqe:aW:=⟨[],[]⟩
abbrev Qm:List Sk:=[.d .str]
abbrev Jz:List Sk:=[.d (.slice (.int .u8))]
@[irreducible] noncomputable def yK (n:Nat) (p:ak R.T Qm):Option (ak R.T Jz):=aZ E R n false (Xe n) aG aqe Tryz.f165 Qm Jz p
theorem aqf (n:Nat):bB 165 Qm Jz (yK n):=fun _ _ h=>by unfold yK at h;exact okF (ae4 n) h Tryz.func165 (by kernel_rfl)
noncomputable def Qn (n:Nat):Nat→List (FR R):=aV 165 ⟨Qm,Jz,yK n,aT R Jz,false⟩ (Xe n)
theorem ae5 (n:Nat):aO E (Qn n):=aX (ae4 n) (aqf n)
def Qo:aW:=⟨[(3,⟨[0],[],⟨[(3,.l (.own 7) (.int .u8)),(4,.d (.int .i64))],[]⟩,[(.exit 0,⟨[(3,.l (.own 7) (.int .u8))],[]⟩)]⟩)],[]⟩
abbrev Qp:List Sk:=[.d (.slice .str)]
abbrev JA:List Sk:=[.d (.slice (.int .u8))]
@[irreducible] noncomputable def A9 (n:Nat) (p:ak R.T Qp):Option (ak R.T JA):=aZ E R n false (Qn n) aG Qo Tryz.f129 Qp JA p
theorem aqg (n:Nat):bB 129 Qp JA (A9 n):=fun _ _ h=>by unfold A9 at h;exact okF (ae5 n) h Tryz.func129 (by kernel_rfl)
noncomputable def Qq (n:Nat):Nat→List (FR R):=aV 129 ⟨Qp,JA,A9 n,aT R JA,false⟩ (Qn n)
theorem ae6 (n:Nat):aO E (Qq n):=aX (ae5 n) (aqg n)
def Qr:aW:=⟨[(6,⟨[1],[1],⟨[(3,.l (.own 28) (.int .i64)),(4,.l (.own 71) .str),(5,.d (.int .i64))],[]⟩,[(.exit 0,⟨[(3,.l (.own 28) (.int .i64)),(4,.l (.own 71) .str)],[]⟩)]⟩)],[]⟩
abbrev Qs:List Sk:=[.d (.st 3)]
abbrev JB:List Sk:=[.d (.slice (.int .u8))]
@[irreducible] noncomputable def wC (n:Nat) (p:ak R.T Qs):Option (ak R.T JB):=aZ E R n false (Qq n) aG Qr Tryz.f74 Qs JB p
theorem aqh (n:Nat):bB 74 Qs JB (wC n):=fun _ _ h=>by unfold wC at h;exact okF (ae6 n) h Tryz.func74 (by kernel_rfl)
noncomputable def Qt (n:Nat):Nat→List (FR R):=aV 74 ⟨Qs,JB,wC n,aT R JB,false⟩ (Qq n)
theorem ae7 (n:Nat):aO E (Qt n):=aX (ae6 n) (aqh n)
def Qu:aW:=⟨[(3,⟨[1],[],⟨[(5,.l (.own 22) (.int .u8)),(6,.d (.int .i64))],[]⟩,[(.exit 0,⟨[(5,.l (.own 22) (.int .u8))],[]⟩)]⟩)],[]⟩
abbrev Qv:List Sk:=[.d (.int .i64),.d (.slice .str)]
abbrev JC:List Sk:=[.d (.slice (.int .u8))]
@[irreducible] noncomputable def Eo (n:Nat) (p:ak R.T Qv):Option (ak R.T JC):=aZ E R n false (Qt n) aG Qu Tryz.f108 Qv JC p
theorem aqi (n:Nat):bB 108 Qv JC (Eo n):=fun _ _ h=>by unfold Eo at h;exact okF (ae7 n) h Tryz.func108 (by kernel_rfl)
noncomputable def JD (n:Nat):Nat→List (FR R):=aV 108 ⟨Qv,JC,Eo n,aT R JC,false⟩ (Qt n)
theorem ae8 (n:Nat):aO E (JD n):=aX (ae7 n) (aqi n)
def Ba:aW:=⟨[(3,⟨[0],[],⟨[(3,.l (.own 8) (.int .u8))],[]⟩,[(.exit 0,⟨[(3,.l (.own 8) (.int .u8))],[]⟩)]⟩),
 (7,⟨[4],[],⟨[(3,.l (.own 8) (.int .u8)),(5,.d (.int .i64))],[]⟩,[(.exit 2,⟨[(3,.l (.own 8) (.int .u8))],[]⟩)]⟩)],[]⟩
abbrev Qw:List Sk:=[.d (.slice (.int .u8))]
abbrev JE:List Sk:=[.d (.slice (.int .u8))]
@[irreducible] noncomputable def Ep (n:Nat) (p:ak R.T Qw):Option (ak R.T JE):=aZ E R n false (JD n) aG Ba Tryz.f202 Qw JE p
theorem aqj (n:Nat):bB 202 Qw JE (Ep n):=fun _ _ h=>by unfold Ep at h;exact okF (ae8 n) h Tryz.func202 (by kernel_rfl)
noncomputable def Xf (n:Nat):Nat→List (FR R):=aV 202 ⟨Qw,JE,Ep n,aT R JE,false⟩ (JD n)
theorem ae9 (n:Nat):aO E (Xf n):=aX (ae8 n) (aqj n)
def aqk:aW:=⟨[],[]⟩
abbrev Qx:List Sk:=[.d (.int .u32),.d (.int .i64)]
abbrev JF:List Sk:=[.d (.int .u32)]
@[irreducible] noncomputable def oD (n:Nat) (p:ak R.T Qx):Option (ak R.T JF):=aZ E R n false (Xf n) aG aqk Tryz.f204 Qx JF p
theorem aql (n:Nat):bB 204 Qx JF (oD n):=fun _ _ h=>by unfold oD at h;exact okF (ae9 n) h Tryz.func204 (by kernel_rfl)
noncomputable def JG (n:Nat):Nat→List (FR R):=aV 204 ⟨Qx,JF,oD n,aT R JF,false⟩ (Xf n)
theorem afa (n:Nat):aO E (JG n):=aX (ae9 n) (aql n)
def Bb:aW:=⟨[(3,⟨[0,2,3],[2],⟨[(4,.d (.int .i64))],[(3,.sg [.a .u32 64])]⟩,[(.exit 0,⟨[],[(3,.sg [.a .u32 64])]⟩)]⟩),
 (7,⟨[2,3],[2],⟨[(5,.d (.int .i64))],[(3,.sg [.a .u32 64])]⟩,[(.exit 2,⟨[],[(3,.sg [.a .u32 64])]⟩)]⟩)],[]⟩
abbrev Qy:List Sk:=[.d (.slice (.int .u8))]
abbrev JH:List Sk:=[.sg [.a .u32 64]]
@[irreducible] noncomputable def Er (n:Nat) (p:ak R.T Qy):Option (ak R.T JH):=aZ E R n false (JG n) aG Bb Tryz.f203 Qy JH p
theorem aqm (n:Nat):bB 203 Qy JH (Er n):=fun _ _ h=>by unfold Er at h;exact okF (afa n) h Tryz.func203 (by kernel_rfl)
noncomputable def Bc (n:Nat):Nat→List (FR R):=aV 203 ⟨Qy,JH,Er n,aT R JH,false⟩ (JG n)
theorem afb (n:Nat):aO E (Bc n):=aX (afa n) (aqm n)
def qA:aW:=⟨[(4,⟨[2,3,4],[2],⟨[(5,.d (.int .i64))],[(3,.sg [.a .u32 8])]⟩,[(.exit 0,⟨[],[(3,.sg [.a .u32 8])]⟩)]⟩),
 (9,⟨[2,3,4,5,6,7],[2,3,6],⟨[(8,.d (.int .i64))],[(7,.sg [.a .u32 8])]⟩,[(.exit 2,⟨[],[(7,.sg [.a .u32 8])]⟩)]⟩),
 (15,⟨[2,3,4,5,7],[2,7],⟨[(11,.d (.int .i64))],[(3,.sg [.a .u32 8])]⟩,[(.exit 4,⟨[],[(3,.sg [.a .u32 8])]⟩)]⟩),
 (20,⟨[2,3,12],[2,3],⟨[(13,.d (.int .i64))],[(12,.sg [.a .u8 32])]⟩,[(.exit 6,⟨[],[(12,.sg [.a .u8 32])]⟩)]⟩)],[]⟩
abbrev Qz:List Sk:=[.d (.slice (.int .u8))]
abbrev JI:List Sk:=[.sg [.a .u8 32]]
@[irreducible] noncomputable def Es (n:Nat) (p:ak R.T Qz):Option (ak R.T JI):=aZ E R n false (Bc n) aG qA Tryz.f164 Qz JI p
theorem aqn (n:Nat):bB 164 Qz JI (Es n):=fun _ _ h=>by unfold Es at h;exact okF (afb n) h Tryz.func164 (by kernel_rfl)
noncomputable def Xg (n:Nat):Nat→List (FR R):=aV 164 ⟨Qz,JI,Es n,aT R JI,false⟩ (Bc n)
theorem afc (n:Nat):aO E (Xg n):=aX (afb n) (aqn n)
def aqo:aW:=⟨[],[]⟩
abbrev QA:List Sk:=[.d (.slice (.int .u8))]
abbrev JJ:List Sk:=[.d (.st 6)]
@[irreducible] noncomputable def Et (n:Nat) (p:ak R.T QA):Option (ak R.T JJ):=aZ E R n false (Xg n) aG aqo Tryz.f107 QA JJ p
theorem aqp (n:Nat):bB 107 QA JJ (Et n):=fun _ _ h=>by unfold Et at h;exact okF (afc n) h Tryz.func107 (by kernel_rfl)
noncomputable def Xh (n:Nat):Nat→List (FR R):=aV 107 ⟨QA,JJ,Et n,aT R JJ,false⟩ (Xg n)
theorem afd (n:Nat):aO E (Xh n):=aX (afc n) (aqp n)
def aqr:aW:=⟨[],[]⟩
abbrev QB:List Sk:=[.d (.int .i64),.d (.slice .str)]
abbrev JK:List Sk:=[.d (.st 6)]
@[irreducible] noncomputable def wD (n:Nat) (p:ak R.T QB):Option (ak R.T JK):=aZ E R n false (Xh n) aG aqr Tryz.f62 QB JK p
theorem aqs (n:Nat):bB 62 QB JK (wD n):=fun _ _ h=>by unfold wD at h;exact okF (afd n) h Tryz.func62 (by kernel_rfl)
noncomputable def Xi (n:Nat):Nat→List (FR R):=aV 62 ⟨QB,JK,wD n,aT R JK,false⟩ (Xh n)
theorem afe (n:Nat):aO E (Xi n):=aX (afd n) (aqs n)
def aqt:aW:=⟨[],[]⟩
abbrev QC:List Sk:=[.d (.st 3)]
abbrev JL:List Sk:=[.d (.st 6)]
@[irreducible] noncomputable def Eu (n:Nat) (p:ak R.T QC):Option (ak R.T JL):=aZ E R n false (Xi n) aG aqt Tryz.f37 QC JL p
theorem aqu (n:Nat):bB 37 QC JL (Eu n):=fun _ _ h=>by unfold Eu at h;exact okF (afe n) h Tryz.func37 (by kernel_rfl)
noncomputable def Xj (n:Nat):Nat→List (FR R):=aV 37 ⟨QC,JL,Eu n,aT R JL,false⟩ (Xi n)
theorem aff (n:Nat):aO E (Xj n):=aX (afe n) (aqu n)
def aqv:aW:=⟨[],[]⟩
abbrev QD:List Sk:=[.d (.st 4)]
abbrev JM:List Sk:=[.d (.st 7)]
@[irreducible] noncomputable def Bd (n:Nat) (p:ak R.T QD):Option (ak R.T JM):=aZ E R n false (Xj n) aG aqv Tryz.f24 QD JM p
theorem aqw (n:Nat):bB 24 QD JM (Bd n):=fun _ _ h=>by unfold Bd at h;exact okF (aff n) h Tryz.func24 (by kernel_rfl)
noncomputable def QE (n:Nat):Nat→List (FR R):=aV 24 ⟨QD,JM,Bd n,aT R JM,false⟩ (Xj n)
theorem afg (n:Nat):aO E (QE n):=aX (aff n) (aqw n)
def QF:aW:=⟨[(5,⟨[1,2,4,5],[2,4],⟨[(6,.d (.int .i64))],[(5,.cells [.d (.int .i64),.d (.int .i64),.l .any (.st 0),.d (.int .i64),.d (.int .i64),.l .any (.int .i64),.l (.own 58) (.st 4),.l (.own 47) (.st 7),.d (.int .i64)])]⟩,[(.exit 0,⟨[],[(5,.cells [.d (.int .i64),.d (.int .i64),.l .any (.st 0),.d (.int .i64),.d (.int .i64),.l .any (.int .i64),.l (.own 58) (.st 4),.l (.own 47) (.st 7),.d (.int .i64)])]⟩)]⟩)],[]⟩
abbrev QG:List Sk:=[.d (.st 5),.d (.int .i64)]
abbrev JN:List Sk:=[.d (.st 10)]
@[irreducible] noncomputable def wE (n:Nat) (p:ak R.T QG):Option (ak R.T JN):=aZ E R n false (QE n) aG QF Tryz.f19 QG JN p
theorem aqx (n:Nat):bB 19 QG JN (wE n):=fun _ _ h=>by unfold wE at h;exact okF (afg n) h Tryz.func19 (by kernel_rfl)
noncomputable def QH (n:Nat):Nat→List (FR R):=aV 19 ⟨QG,JN,wE n,aT R JN,false⟩ (QE n)
theorem afh (n:Nat):aO E (QH n):=aX (afg n) (aqx n)
def QI:aW:=⟨[(6,⟨[0,1],[],⟨[(5,.d (.int .i64))],[]⟩,[(.exit 0,⟨[],[]⟩),(.ret,⟨[(4,.d (.int .i64))],[]⟩)]⟩)],[]⟩
abbrev QJ:List Sk:=[.d (.slice (.int .i64)),.d (.slice (.int .i64))]
abbrev JO:List Sk:=[.d (.int .i64)]
@[irreducible] noncomputable def Ev (n:Nat) (p:ak R.T QJ):Option (ak R.T JO):=aZ E R n false (QH n) aG QI Tryz.f101 QJ JO p
theorem aqy (n:Nat):bB 101 QJ JO (Ev n):=fun _ _ h=>by unfold Ev at h;exact okF (afh n) h Tryz.func101 (by kernel_rfl)
noncomputable def Xk (n:Nat):Nat→List (FR R):=aV 101 ⟨QJ,JO,Ev n,aT R JO,false⟩ (QH n)
theorem afi (n:Nat):aO E (Xk n):=aX (afh n) (aqy n)
def aqz:aW:=⟨[],[]⟩
abbrev QK:List Sk:=[.d (.slice (.int .i64)),.d (.slice (.int .i64))]
abbrev JQ:List Sk:=[.d .bool]
@[irreducible] noncomputable def Bf (n:Nat) (p:ak R.T QK):Option (ak R.T JQ):=aZ E R n false (Xk n) aG aqz Tryz.f52 QK JQ p
theorem aqA (n:Nat):bB 52 QK JQ (Bf n):=fun _ _ h=>by unfold Bf at h;exact okF (afi n) h Tryz.func52 (by kernel_rfl)
noncomputable def Xl (n:Nat):Nat→List (FR R):=aV 52 ⟨QK,JQ,Bf n,aT R JQ,false⟩ (Xk n)
theorem afj (n:Nat):aO E (Xl n):=aX (afi n) (aqA n)
def aqB:aW:=⟨[],[]⟩
abbrev QL:List Sk:=[.d (.st 3),.d (.st 3)]
abbrev JR:List Sk:=[.d .bool]
@[irreducible] noncomputable def Ew (n:Nat) (p:ak R.T QL):Option (ak R.T JR):=aZ E R n false (Xl n) aG aqB Tryz.f76 QL JR p
theorem aqC (n:Nat):bB 76 QL JR (Ew n):=fun _ _ h=>by unfold Ew at h;exact okF (afj n) h Tryz.func76 (by kernel_rfl)
noncomputable def QM (n:Nat):Nat→List (FR R):=aV 76 ⟨QL,JR,Ew n,aT R JR,false⟩ (Xl n)
theorem afk (n:Nat):aO E (QM n):=aX (afj n) (aqC n)
def QN:aW:=⟨[(4,⟨[0,1],[],⟨[(5,.d (.int .i64))],[]⟩,[(.exit 0,⟨[],[]⟩),(.ret,⟨[(4,.d .bool)],[]⟩)]⟩)],[]⟩
abbrev QO:List Sk:=[.d (.slice (.st 4)),.d (.slice (.st 4))]
abbrev JU:List Sk:=[.d .bool]
@[irreducible] noncomputable def Bg (n:Nat) (p:ak R.T QO):Option (ak R.T JU):=aZ E R n false (QM n) aG QN Tryz.f53 QO JU p
theorem aqD (n:Nat):bB 53 QO JU (Bg n):=fun _ _ h=>by unfold Bg at h;exact okF (afk n) h Tryz.func53 (by kernel_rfl)
noncomputable def Xm (n:Nat):Nat→List (FR R):=aV 53 ⟨QO,JU,Bg n,aT R JU,false⟩ (QM n)
theorem afl (n:Nat):aO E (Xm n):=aX (afk n) (aqD n)
def aqE:aW:=⟨[],[]⟩
abbrev QS:List Sk:=[.d (.st 5),.d (.st 5)]
abbrev JV:List Sk:=[.d .bool]
@[irreducible] noncomputable def yL (n:Nat) (p:ak R.T QS):Option (ak R.T JV):=aZ E R n false (Xm n) aG aqE Tryz.f17 QS JV p
theorem aqF (n:Nat):bB 17 QS JV (yL n):=fun _ _ h=>by unfold yL at h;exact okF (afl n) h Tryz.func17 (by kernel_rfl)
noncomputable def QT (n:Nat):Nat→List (FR R):=aV 17 ⟨QS,JV,yL n,aT R JV,false⟩ (Xm n)
theorem afm (n:Nat):aO E (QT n):=aX (afl n) (aqF n)
def QU:aW:=⟨[(4,⟨[0,1],[],⟨[(5,.d (.int .i64))],[]⟩,[(.exit 0,⟨[],[]⟩),(.ret,⟨[(4,.d .bool)],[]⟩)]⟩)],[]⟩
abbrev QV:List Sk:=[.d (.slice (.st 7)),.d (.slice (.st 7))]
abbrev JW:List Sk:=[.d .bool]
@[irreducible] noncomputable def yM (n:Nat) (p:ak R.T QV):Option (ak R.T JW):=aZ E R n false (QT n) aG QU Tryz.f20 QV JW p
theorem aqG (n:Nat):bB 20 QV JW (yM n):=fun _ _ h=>by unfold yM at h;exact okF (afm n) h Tryz.func20 (by kernel_rfl)
noncomputable def Xn (n:Nat):Nat→List (FR R):=aV 20 ⟨QV,JW,yM n,aT R JW,false⟩ (QT n)
theorem afn (n:Nat):aO E (Xn n):=aX (afm n) (aqG n)
def aqH:aW:=⟨[],[]⟩
abbrev QW:List Sk:=[.d (.st 5),.d (.int .i64),.d (.int .i64)]
abbrev JX:List Sk:=[.d .bool]
@[irreducible] noncomputable def yN (n:Nat) (p:ak R.T QW):Option (ak R.T JX):=aZ E R n false (Xn n) aG aqH Tryz.f21 QW JX p
theorem aqI (n:Nat):bB 21 QW JX (yN n):=fun _ _ h=>by unfold yN at h;exact okF (afn n) h Tryz.func21 (by kernel_rfl)
noncomputable def Xo (n:Nat):Nat→List (FR R):=aV 21 ⟨QW,JX,yN n,aT R JX,false⟩ (Xn n)
theorem afo (n:Nat):aO E (Xo n):=aX (afn n) (aqI n)
def aqJ:aW:=⟨[],[]⟩
abbrev QX:List Sk:=[.d (.int .i64),.d (.st 11)]
abbrev JY:List Sk:=[.d .bool]
@[irreducible] noncomputable def Ey (n:Nat) (p:ak R.T QX):Option (ak R.T JY):=aZ E R n false (Xo n) aG aqJ Tryz.f23 QX JY p
theorem aqK (n:Nat):bB 23 QX JY (Ey n):=fun _ _ h=>by unfold Ey at h;exact okF (afo n) h Tryz.func23 (by kernel_rfl)
noncomputable def Xp (n:Nat):Nat→List (FR R):=aV 23 ⟨QX,JY,Ey n,aT R JY,false⟩ (Xo n)
theorem afp (n:Nat):aO E (Xp n):=aX (afo n) (aqK n)
def aqL:aW:=⟨[],[]⟩
abbrev QY:List Sk:=[.d (.slice .str)]
abbrev JZ:List Sk:=[.d (.st 6)]
@[irreducible] noncomputable def Ez (n:Nat) (p:ak R.T QY):Option (ak R.T JZ):=aZ E R n false (Xp n) aG aqL Tryz.f59 QY JZ p
theorem aqM (n:Nat):bB 59 QY JZ (Ez n):=fun _ _ h=>by unfold Ez at h;exact okF (afp n) h Tryz.func59 (by kernel_rfl)
noncomputable def Xq (n:Nat):Nat→List (FR R):=aV 59 ⟨QY,JZ,Ez n,aT R JZ,false⟩ (Xp n)
theorem afq (n:Nat):aO E (Xq n):=aX (afp n) (aqM n)
def aqN:aW:=⟨[],[]⟩
abbrev QZ:List Sk:=[.d (.st 7)]
abbrev J2:List Sk:=[.d (.st 6)]
@[irreducible] noncomputable def Bh (n:Nat) (p:ak R.T QZ):Option (ak R.T J2):=aZ E R n false (Xq n) aG aqN Tryz.f26 QZ J2 p
theorem aqO (n:Nat):bB 26 QZ J2 (Bh n):=fun _ _ h=>by unfold Bh at h;exact okF (afq n) h Tryz.func26 (by kernel_rfl)
noncomputable def Xr (n:Nat):Nat→List (FR R):=aV 26 ⟨QZ,J2,Bh n,aT R J2,false⟩ (Xq n)
theorem afr (n:Nat):aO E (Xr n):=aX (afq n) (aqO n)
def aqP:aW:=⟨[],[]⟩
abbrev Q0:List Sk:=[.d (.st 7)]
abbrev J3:List Sk:=[.d (.st 6)]
@[irreducible] noncomputable def Bj (n:Nat) (p:ak R.T Q0):Option (ak R.T J3):=aZ E R n false (Xr n) aG aqP Tryz.f27 Q0 J3 p
theorem aqQ (n:Nat):bB 27 Q0 J3 (Bj n):=fun _ _ h=>by unfold Bj at h;exact okF (afr n) h Tryz.func27 (by kernel_rfl)
noncomputable def Xt (n:Nat):Nat→List (FR R):=aV 27 ⟨Q0,J3,Bj n,aT R J3,false⟩ (Xr n)
theorem afs (n:Nat):aO E (Xt n):=aX (afr n) (aqQ n)
def aqR:aW:=⟨[],[]⟩
abbrev Q5:List Sk:=[.d (.st 7),.d (.int .i64)]
abbrev J4:List Sk:=[.d .bool]
@[irreducible] noncomputable def J5 (n:Nat) (p:ak R.T Q5):Option (ak R.T J4):=aZ E R n false (Xt n) aG aqR Tryz.f28 Q5 J4 p
theorem aqS (n:Nat):bB 28 Q5 J4 (J5 n):=fun _ _ h=>by unfold J5 at h;exact okF (afs n) h Tryz.func28 (by kernel_rfl)
noncomputable def Xu (n:Nat):Nat→List (FR R):=aV 28 ⟨Q5,J4,J5 n,aT R J4,false⟩ (Xt n)
theorem afu (n:Nat):aO E (Xu n):=aX (afs n) (aqS n)
def aqT:aW:=⟨[],[]⟩
abbrev Q6:List Sk:=[.d (.st 7),.d (.int .i64)]
abbrev J6:List Sk:=[.d .bool]
@[irreducible] noncomputable def J7 (n:Nat) (p:ak R.T Q6):Option (ak R.T J6):=aZ E R n false (Xu n) aG aqT Tryz.f29 Q6 J6 p
theorem aqU (n:Nat):bB 29 Q6 J6 (J7 n):=fun _ _ h=>by unfold J7 at h;exact okF (afu n) h Tryz.func29 (by kernel_rfl)
noncomputable def Q7 (n:Nat):Nat→List (FR R):=aV 29 ⟨Q6,J6,J7 n,aT R J6,false⟩ (Xu n)
theorem afv (n:Nat):aO E (Q7 n):=aX (afu n) (aqU n)
def Q8:aW:=⟨[(3,⟨[6,7],[],⟨[(3,.l (.own 16) (.st 6)),(8,.d (.int .i64))],[]⟩,[(.exit 0,⟨[(3,.l (.own 16) (.st 6))],[]⟩)]⟩)],[]⟩
abbrev Q9:List Sk:=[.d (.slice (.st 7))]
abbrev J8:List Sk:=[.d (.slice (.st 6))]
@[irreducible] noncomputable def Bl (n:Nat) (p:ak R.T Q9):Option (ak R.T J8):=aZ E R n false (Q7 n) aG Q8 Tryz.f64 Q9 J8 p
theorem aqV (n:Nat):bB 64 Q9 J8 (Bl n):=fun _ _ h=>by unfold Bl at h;exact okF (afv n) h Tryz.func64 (by kernel_rfl)
noncomputable def Xv (n:Nat):Nat→List (FR R):=aV 64 ⟨Q9,J8,Bl n,aT R J8,false⟩ (Q7 n)
theorem afw (n:Nat):aO E (Xv n):=aX (afv n) (aqV n)
def aqW:aW:=⟨[],[]⟩
abbrev Ra:List Sk:=[]
abbrev J9:List Sk:=[.d (.st 6)]
@[irreducible] noncomputable def EA (n:Nat) (p:ak R.T Ra):Option (ak R.T J9):=aZ E R n false (Xv n) aG aqW Tryz.f112 Ra J9 p
theorem aqX (n:Nat):bB 112 Ra J9 (EA n):=fun _ _ h=>by unfold EA at h;exact okF (afw n) h Tryz.func112 (by kernel_rfl)
noncomputable def Xw (n:Nat):Nat→List (FR R):=aV 112 ⟨Ra,J9,EA n,aT R J9,false⟩ (Xv n)
theorem afx (n:Nat):aO E (Xw n):=aX (afw n) (aqX n)
def aqY:aW:=⟨[],[]⟩
abbrev Rb:List Sk:=[.d (.int .u32)]
abbrev Ka:List Sk:=[.d (.int .i64)]
@[irreducible] noncomputable def Xx (n:Nat) (p:ak R.T Rb):Option (ak R.T Ka):=aZ E R n false (Xw n) aG aqY Tryz.f205 Rb Ka p
theorem aqZ (n:Nat):bB 205 Rb Ka (Xx n):=fun _ _ h=>by unfold Xx at h;exact okF (afx n) h Tryz.func205 (by kernel_rfl)
noncomputable def Xy (n:Nat):Nat→List (FR R):=aV 205 ⟨Rb,Ka,Xx n,aT R Ka,false⟩ (Xw n)
theorem afy (n:Nat):aO E (Xy n):=aX (afx n) (aqZ n)
def aq0:aW:=⟨[],[]⟩
abbrev Rc:List Sk:=[.d (.int .u64)]
abbrev Kc:List Sk:=[.d (.int .i64)]
@[irreducible] noncomputable def EB (n:Nat) (p:ak R.T Rc):Option (ak R.T Kc):=aZ E R n false (Xy n) aG aq0 Tryz.f206 Rc Kc p
theorem aq1 (n:Nat):bB 206 Rc Kc (EB n):=fun _ _ h=>by unfold EB at h;exact okF (afy n) h Tryz.func206 (by kernel_rfl)
noncomputable def Xz (n:Nat):Nat→List (FR R):=aV 206 ⟨Rc,Kc,EB n,aT R Kc,false⟩ (Xy n)
theorem afz (n:Nat):aO E (Xz n):=aX (afy n) (aq1 n)
def aq2:aW:=⟨[],[]⟩
abbrev Rf:List Sk:=[.d (.int .u64)]
abbrev Ke:List Sk:=[.d (.int .i64)]
@[irreducible] noncomputable def EC (n:Nat) (p:ak R.T Rf):Option (ak R.T Ke):=aZ E R n false (Xz n) aG aq2 Tryz.f166 Rf Ke p
theorem aq3 (n:Nat):bB 166 Rf Ke (EC n):=fun _ _ h=>by unfold EC at h;exact okF (afz n) h Tryz.func166 (by kernel_rfl)
noncomputable def XA (n:Nat):Nat→List (FR R):=aV 166 ⟨Rf,Ke,EC n,aT R Ke,false⟩ (Xz n)
theorem afA (n:Nat):aO E (XA n):=aX (afz n) (aq3 n)
def aq4:aW:=⟨[],[]⟩
abbrev Rh:List Sk:=[.d (.int .i64)]
abbrev Kg:List Sk:=[.d (.int .i64)]
@[irreducible] noncomputable def wF (n:Nat) (p:ak R.T Rh):Option (ak R.T Kg):=aZ E R n false (XA n) aG aq4 Tryz.f110 Rh Kg p
theorem afB (n:Nat):bB 110 Rh Kg (wF n):=fun _ _ h=>by unfold wF at h;exact okF (afA n) h Tryz.func110 (by kernel_rfl)
noncomputable def XC (n:Nat):Nat→List (FR R):=aV 110 ⟨Rh,Kg,wF n,aT R Kg,false⟩ (XA n)
theorem afC (n:Nat):aO E (XC n):=aX (afA n) (afB n)
def aq5:aW:=⟨[],[]⟩
abbrev Ri:List Sk:=[.d (.st 6),.d (.st 6)]
abbrev Kh:List Sk:=[.d (.st 6)]
@[irreducible] noncomputable def ED (n:Nat) (p:ak R.T Ri):Option (ak R.T Kh):=aZ E R n false (XC n) aG aq5 Tryz.f113 Ri Kh p
theorem aq6 (n:Nat):bB 113 Ri Kh (ED n):=fun _ _ h=>by unfold ED at h;exact okF (afC n) h Tryz.func113 (by kernel_rfl)
noncomputable def XD (n:Nat):Nat→List (FR R):=aV 113 ⟨Ri,Kh,ED n,aT R Kh,false⟩ (XC n)
theorem XF (n:Nat):aO E (XD n):=aX (afC n) (aq6 n)
def afD:aW:=⟨[],[]⟩
abbrev tC:List Sk:=[.d (.slice (.st 6))]
abbrev uR:List Sk:=[.d (.st 6)]
def uS:Nat→List Sk
 |_=>tC
def qB:Nat→List Sk
 |_=>uR
def aq7:Nat→aW
 |_=>afD
noncomputable def aq8:Nat→Func
 |_=>Tryz.f67
noncomputable def Rj (n:Nat) (g:(i:Nat)→ak R.T (uS i)→Option (ak R.T (qB i))):Nat→List (FR R):=aV 67 ⟨uS 0,qB 0,g 0,aT R (qB 0),false⟩ (XD n)
noncomputable def rO (n:Nat):Nat→(i:Nat)→ak R.T (uS i)→Option (ak R.T (qB i))
 |0,_,_=>none
 |m+1,i,p=>aZ E R n false (Rj n (rO n m)) aG (aq7 i) (aq8 i) (uS i) (qB i) p
attribute [irreducible] rO
theorem afE (n m:Nat) (p:ak R.T tC):rO n (m+1) 0 p=aZ E R n false (Rj n (rO n m)) aG afD Tryz.f67 tC uR p:=by kernel_rfl
theorem afF (n:Nat) (p:ak R.T tC):rO n 0 0 p=none:=by kernel_rfl
theorem aq9 (n:Nat) (p:ak R.T (uS 0)) (x:ak R.T (qB 0)) (h:rO n 0 0 p=some x):Pure E 67 (bG R (uS 0) p) (ku (bG R (qB 0) x)):=absurd ((afF n p).symm.trans h) nofun
theorem ara (n m:Nat) (hk:aO E (Rj n (rO n m))) (p:ak R.T (uS 0)) (x:ak R.T (qB 0)) (h:rO n (m+1) 0 p=some x):Pure E 67 (bG R (uS 0) p) (ku (bG R (qB 0) x)):=
 Ai (args:=tC) (res:=uR) sV hk uL ((afE n m p).symm.trans h) Tryz.func67 rfl rfl rfl rfl (by kernel_rfl)
theorem afG (n:Nat):∀m,aO E (Rj n (rO n m))
 |0=>aX (f:=67) (r:=⟨uS 0,qB 0,rO n 0 0,aT R (qB 0),false⟩) (XF n) (aq9 n)
 |m+1=>aX (f:=67) (r:=⟨uS 0,qB 0,rO n (m+1) 0,aT R (qB 0),false⟩) (XF n) (ara n m (afG n m))
@[irreducible] noncomputable def yO (n m:Nat) (p:ak R.T tC):Option (ak R.T uR):=rO n m 0 p
@[irreducible] noncomputable def wG (n:Nat) (p:ak R.T tC):Option (ak R.T uR):=yO n n p
theorem afH (n:Nat) (p:ak R.T tC) (x:ak R.T uR) (h:wG n p=some x):Pure E 67 (bG R tC p) (ku (bG R uR x)):=by
 unfold wG yO at h
 cases n with
 |zero=>exact absurd ((afF 0 p).symm.trans h) nofun
 |succ n=>exact Ai (args:=tC) (res:=uR) sV (afG (n+1) n) uL ((afE (n+1) n p).symm.trans h) Tryz.func67 rfl rfl rfl rfl (by kernel_rfl)
noncomputable def afI (n:Nat):Nat→List (FR R):=aV 67 ⟨tC,uR,wG n,aT R uR,false⟩ (XD n)
theorem arb (n:Nat):aO E (afI n):=aX (XF n) (afH n)
abbrev Rk:List Sk:=[.d (.slice (.st 6)),.d (.int .i64)]
abbrev Ki:List Sk:=[.d (.slice (.st 6)),.d (.int .i64)]
@[irreducible] noncomputable def Bn (n:Nat) (p:ak R.T Rk):Option (ak R.T Ki):=H8 (wG n) (wF n) p.1 p.2
theorem ard (n:Nat) (l:List au) (i:Int):Bn n (l,i)=H8 (wG n) (wF n) l i:=by unfold Bn;rfl
theorem arf (n:Nat) (p:ak R.T Rk) (x:ak R.T Ki) (h:Bn n p=some x):Pure E 63 (bG R Rk p) (ku (bG R Ki x)):=by
 unfold Bn at h
 exact aoU (afH n) (afB n) h
noncomputable def XG (n:Nat):Nat→List (FR R):=aV 63 ⟨Rk,Ki,Bn n,aT R Ki,false⟩ (afI n)
theorem afJ (n:Nat):aO E (XG n):=aX (arb n) (arf n)
def arh:aW:=⟨[],[]⟩
abbrev Rm:List Sk:=[.d (.slice (.st 7)),.d (.int .i64)]
abbrev Kj:List Sk:=[.d (.slice (.st 6)),.d (.int .i64)]
@[irreducible] noncomputable def Bo (n:Nat) (p:ak R.T Rm):Option (ak R.T Kj):=aZ E R n false (XG n) aG arh Tryz.f30 Rm Kj p
theorem ari (n:Nat):bB 30 Rm Kj (Bo n):=fun _ _ h=>by unfold Bo at h;exact okF (afJ n) h Tryz.func30 (by kernel_rfl)
noncomputable def Rn (n:Nat):Nat→List (FR R):=aV 30 ⟨Rm,Kj,Bo n,aT R Kj,false⟩ (XG n)
theorem afK (n:Nat):aO E (Rn n):=aX (afJ n) (ari n)
def Ro:aW:=⟨[(3,⟨[0],[],⟨[(3,.l (.own 18) (.st 6)),(4,.d (.int .i64))],[]⟩,[(.exit 0,⟨[(3,.l (.own 18) (.st 6))],[]⟩)]⟩)],[]⟩
abbrev Rp:List Sk:=[.d (.slice (.st 7))]
abbrev Kk:List Sk:=[.d (.slice (.st 6))]
@[irreducible] noncomputable def Bp (n:Nat) (p:ak R.T Rp):Option (ak R.T Kk):=aZ E R n false (Rn n) aG Ro Tryz.f66 Rp Kk p
theorem arj (n:Nat):bB 66 Rp Kk (Bp n):=fun _ _ h=>by unfold Bp at h;exact okF (afK n) h Tryz.func66 (by kernel_rfl)
noncomputable def Rq (n:Nat):Nat→List (FR R):=aV 66 ⟨Rp,Kk,Bp n,aT R Kk,false⟩ (Rn n)
theorem afL (n:Nat):aO E (Rq n):=aX (afK n) (arj n)
def Rs:aW:=⟨[(2,⟨[0],[],⟨[(3,.d (.int .i64))],[]⟩,[(.exit 0,⟨[(3,.d (.int .i64))],[]⟩)]⟩)],[]⟩
abbrev Rt:List Sk:=[.d (.int .i64)]
abbrev Kl:List Sk:=[.d (.int .i64)]
@[irreducible] noncomputable def Bq (n:Nat) (p:ak R.T Rt):Option (ak R.T Kl):=aZ E R n false (Rq n) aG Rs Tryz.f115 Rt Kl p
theorem ark (n:Nat):bB 115 Rt Kl (Bq n):=fun _ _ h=>by unfold Bq at h;exact okF (afL n) h Tryz.func115 (by kernel_rfl)
noncomputable def XH (n:Nat):Nat→List (FR R):=aV 115 ⟨Rt,Kl,Bq n,aT R Kl,false⟩ (Rq n)
theorem afM (n:Nat):aO E (XH n):=aX (afL n) (ark n)
def arl:aW:=⟨[],[]⟩
abbrev Ru:List Sk:=[]
abbrev Km:List Sk:=[.d (.st 6)]
@[irreducible] noncomputable def EF (n:Nat) (p:ak R.T Ru):Option (ak R.T Km):=aZ E R n false (XH n) aG arl Tryz.f114 Ru Km p
theorem arn (n:Nat):bB 114 Ru Km (EF n):=fun _ _ h=>by unfold EF at h;exact okF (afM n) h Tryz.func114 (by kernel_rfl)
noncomputable def XI (n:Nat):Nat→List (FR R):=aV 114 ⟨Ru,Km,EF n,aT R Km,false⟩ (XH n)
theorem afN (n:Nat):aO E (XI n):=aX (afM n) (arn n)
def aro:aW:=⟨[],[]⟩
abbrev Rv:List Sk:=[.d (.st 6),.d (.st 6)]
abbrev Kn:List Sk:=[.d (.st 6)]
@[irreducible] noncomputable def EG (n:Nat) (p:ak R.T Rv):Option (ak R.T Kn):=aZ E R n false (XI n) aG aro Tryz.f116 Rv Kn p
theorem arp (n:Nat):bB 116 Rv Kn (EG n):=fun _ _ h=>by unfold EG at h;exact okF (afN n) h Tryz.func116 (by kernel_rfl)
noncomputable def XJ (n:Nat):Nat→List (FR R):=aV 116 ⟨Rv,Kn,EG n,aT R Kn,false⟩ (XI n)
theorem XK (n:Nat):aO E (XJ n):=aX (afN n) (arp n)
def afO:aW:=⟨[],[]⟩
abbrev tH:List Sk:=[.d (.slice (.st 6))]
abbrev uT:List Sk:=[.d (.st 6)]
def uU:Nat→List Sk
 |_=>tH
def qC:Nat→List Sk
 |_=>uT
def arq:Nat→aW
 |_=>afO
noncomputable def ars:Nat→Func
 |_=>Tryz.f68
noncomputable def Rw (n:Nat) (g:(i:Nat)→ak R.T (uU i)→Option (ak R.T (qC i))):Nat→List (FR R):=aV 68 ⟨uU 0,qC 0,g 0,aT R (qC 0),false⟩ (XJ n)
noncomputable def rP (n:Nat):Nat→(i:Nat)→ak R.T (uU i)→Option (ak R.T (qC i))
 |0,_,_=>none
 |m+1,i,p=>aZ E R n false (Rw n (rP n m)) aG (arq i) (ars i) (uU i) (qC i) p
attribute [irreducible] rP
theorem afP (n m:Nat) (p:ak R.T tH):rP n (m+1) 0 p=aZ E R n false (Rw n (rP n m)) aG afO Tryz.f68 tH uT p:=by kernel_rfl
theorem afQ (n:Nat) (p:ak R.T tH):rP n 0 0 p=none:=by kernel_rfl
theorem aru (n:Nat) (p:ak R.T (uU 0)) (x:ak R.T (qC 0)) (h:rP n 0 0 p=some x):Pure E 68 (bG R (uU 0) p) (ku (bG R (qC 0) x)):=absurd ((afQ n p).symm.trans h) nofun
theorem arv (n m:Nat) (hk:aO E (Rw n (rP n m))) (p:ak R.T (uU 0)) (x:ak R.T (qC 0)) (h:rP n (m+1) 0 p=some x):Pure E 68 (bG R (uU 0) p) (ku (bG R (qC 0) x)):=
 Ai (args:=tH) (res:=uT) sV hk uL ((afP n m p).symm.trans h) Tryz.func68 rfl rfl rfl rfl (by kernel_rfl)
theorem afR (n:Nat):∀m,aO E (Rw n (rP n m))
 |0=>aX (f:=68) (r:=⟨uU 0,qC 0,rP n 0 0,aT R (qC 0),false⟩) (XK n) (aru n)
 |m+1=>aX (f:=68) (r:=⟨uU 0,qC 0,rP n (m+1) 0,aT R (qC 0),false⟩) (XK n) (arv n m (afR n m))
@[irreducible] noncomputable def EH (n m:Nat) (p:ak R.T tH):Option (ak R.T uT):=rP n m 0 p
@[irreducible] noncomputable def yP (n:Nat) (p:ak R.T tH):Option (ak R.T uT):=EH n n p
theorem arw (n:Nat) (p:ak R.T tH) (x:ak R.T uT) (h:yP n p=some x):Pure E 68 (bG R tH p) (ku (bG R uT x)):=by
 unfold yP EH at h
 cases n with
 |zero=>exact absurd ((afQ 0 p).symm.trans h) nofun
 |succ n=>exact Ai (args:=tH) (res:=uT) sV (afR (n+1) n) uL ((afP (n+1) n p).symm.trans h) Tryz.func68 rfl rfl rfl rfl (by kernel_rfl)
noncomputable def XL (n:Nat):Nat→List (FR R):=aV 68 ⟨tH,uT,yP n,aT R uT,false⟩ (XJ n)
theorem afS (n:Nat):aO E (XL n):=aX (XK n) (arw n)
def arx:aW:=⟨[],[]⟩
abbrev Rx:List Sk:=[.d (.slice (.st 6)),.d (.st 6)]
abbrev Ko:List Sk:=[.d (.slice (.st 6))]
@[irreducible] noncomputable def Br (n:Nat) (p:ak R.T Rx):Option (ak R.T Ko):=aZ E R n false (XL n) aG arx Tryz.f167 Rx Ko p
theorem arz (n:Nat):bB 167 Rx Ko (Br n):=fun _ _ h=>by unfold Br at h;exact okF (afS n) h Tryz.func167 (by kernel_rfl)
noncomputable def XM (n:Nat):Nat→List (FR R):=aV 167 ⟨Rx,Ko,Br n,aT R Ko,false⟩ (XL n)
theorem XO (n:Nat):aO E (XM n):=aX (afS n) (arz n)
def afT:aW:=⟨[],[]⟩
abbrev tJ:List Sk:=[.d (.slice (.st 6)),.d (.int .i64)]
abbrev uV:List Sk:=[.d (.slice (.st 6))]
def uW:Nat→List Sk
 |_=>tJ
def qD:Nat→List Sk
 |_=>uV
def arA:Nat→aW
 |_=>afT
noncomputable def arB:Nat→Func
 |_=>Tryz.f111
noncomputable def Ry (n:Nat) (g:(i:Nat)→ak R.T (uW i)→Option (ak R.T (qD i))):Nat→List (FR R):=aV 111 ⟨uW 0,qD 0,g 0,aT R (qD 0),false⟩ (XM n)
noncomputable def rQ (n:Nat):Nat→(i:Nat)→ak R.T (uW i)→Option (ak R.T (qD i))
 |0,_,_=>none
 |m+1,i,p=>aZ E R n false (Ry n (rQ n m)) aG (arA i) (arB i) (uW i) (qD i) p
attribute [irreducible] rQ
theorem afU (n m:Nat) (p:ak R.T tJ):rQ n (m+1) 0 p=aZ E R n false (Ry n (rQ n m)) aG afT Tryz.f111 tJ uV p:=by kernel_rfl
theorem afV (n:Nat) (p:ak R.T tJ):rQ n 0 0 p=none:=by kernel_rfl
theorem arC (n:Nat) (p:ak R.T (uW 0)) (x:ak R.T (qD 0)) (h:rQ n 0 0 p=some x):Pure E 111 (bG R (uW 0) p) (ku (bG R (qD 0) x)):=absurd ((afV n p).symm.trans h) nofun
theorem arD (n m:Nat) (hk:aO E (Ry n (rQ n m))) (p:ak R.T (uW 0)) (x:ak R.T (qD 0)) (h:rQ n (m+1) 0 p=some x):Pure E 111 (bG R (uW 0) p) (ku (bG R (qD 0) x)):=
 Ai (args:=tJ) (res:=uV) sV hk uL ((afU n m p).symm.trans h) Tryz.func111 rfl rfl rfl rfl (by kernel_rfl)
theorem afW (n:Nat):∀m,aO E (Ry n (rQ n m))
 |0=>aX (f:=111) (r:=⟨uW 0,qD 0,rQ n 0 0,aT R (qD 0),false⟩) (XO n) (arC n)
 |m+1=>aX (f:=111) (r:=⟨uW 0,qD 0,rQ n (m+1) 0,aT R (qD 0),false⟩) (XO n) (arD n m (afW n m))
@[irreducible] noncomputable def EI (n m:Nat) (p:ak R.T tJ):Option (ak R.T uV):=rQ n m 0 p
@[irreducible] noncomputable def EJ (n:Nat) (p:ak R.T tJ):Option (ak R.T uV):=EI n n p
theorem arE (n:Nat) (p:ak R.T tJ) (x:ak R.T uV) (h:EJ n p=some x):Pure E 111 (bG R tJ p) (ku (bG R uV x)):=by
 unfold EJ EI at h
 cases n with
 |zero=>exact absurd ((afV 0 p).symm.trans h) nofun
 |succ n=>exact Ai (args:=tJ) (res:=uV) sV (afW (n+1) n) uL ((afU (n+1) n p).symm.trans h) Tryz.func111 rfl rfl rfl rfl (by kernel_rfl)
noncomputable def XP (n:Nat):Nat→List (FR R):=aV 111 ⟨tJ,uV,EJ n,aT R uV,false⟩ (XM n)
theorem afX (n:Nat):aO E (XP n):=aX (XO n) (arE n)
def arF:aW:=⟨[],[]⟩
abbrev Rz:List Sk:=[.d (.slice (.st 6)),.d (.int .i64)]
abbrev Kq:List Sk:=[.d (.st 17)]
@[irreducible] noncomputable def EK (n:Nat) (p:ak R.T Rz):Option (ak R.T Kq):=aZ E R n false (XP n) aG arF Tryz.f65 Rz Kq p
theorem arG (n:Nat):bB 65 Rz Kq (EK n):=fun _ _ h=>by unfold EK at h;exact okF (afX n) h Tryz.func65 (by kernel_rfl)
noncomputable def XQ (n:Nat):Nat→List (FR R):=aV 65 ⟨Rz,Kq,EK n,aT R Kq,false⟩ (XP n)
theorem afY (n:Nat):aO E (XQ n):=aX (afX n) (arG n)
def arH:aW:=⟨[],[]⟩
abbrev RA:List Sk:=[.d (.slice (.st 7)),.d (.int .i64)]
abbrev Kr:List Sk:=[.d (.st 12)]
@[irreducible] noncomputable def Bt (n:Nat) (p:ak R.T RA):Option (ak R.T Kr):=aZ E R n false (XQ n) aG arH Tryz.f31 RA Kr p
theorem arI (n:Nat):bB 31 RA Kr (Bt n):=fun _ _ h=>by unfold Bt at h;exact okF (afY n) h Tryz.func31 (by kernel_rfl)
noncomputable def XT (n:Nat):Nat→List (FR R):=aV 31 ⟨RA,Kr,Bt n,aT R Kr,false⟩ (XQ n)
theorem afZ (n:Nat):aO E (XT n):=aX (afY n) (arI n)
def arJ:aW:=⟨[],[]⟩
abbrev RB:List Sk:=[.d (.slice (.st 7))]
abbrev Kt:List Sk:=[.d (.st 6)]
@[irreducible] noncomputable def Bu (n:Nat) (p:ak R.T RB):Option (ak R.T Kt):=aZ E R n false (XT n) aG arJ Tryz.f32 RB Kt p
theorem arK (n:Nat):bB 32 RB Kt (Bu n):=fun _ _ h=>by unfold Bu at h;exact okF (afZ n) h Tryz.func32 (by kernel_rfl)
noncomputable def XU (n:Nat):Nat→List (FR R):=aV 32 ⟨RB,Kt,Bu n,aT R Kt,false⟩ (XT n)
theorem af0 (n:Nat):aO E (XU n):=aX (afZ n) (arK n)
def arL:aW:=⟨[],[]⟩
abbrev RD:List Sk:=[.d (.slice (.st 7))]
abbrev Ku:List Sk:=[.d (.st 6)]
@[irreducible] noncomputable def Bv (n:Nat) (p:ak R.T RD):Option (ak R.T Ku):=aZ E R n false (XU n) aG arL Tryz.f33 RD Ku p
theorem arM (n:Nat):bB 33 RD Ku (Bv n):=fun _ _ h=>by unfold Bv at h;exact okF (af0 n) h Tryz.func33 (by kernel_rfl)
noncomputable def RF (n:Nat):Nat→List (FR R):=aV 33 ⟨RD,Ku,Bv n,aT R Ku,false⟩ (XU n)
theorem arN (n:Nat):aO E (RF n):=aX (af0 n) (arM n)
def Bw:aW:=⟨[(12,⟨[3,4,11],[11],⟨[(17,.l (.own 120) (.st 7)),(18,.d (.int .i64))],[]⟩,[(.exit 0,⟨[(17,.l (.own 120) (.st 7))],[]⟩),(.ret,⟨[(10,.d .bool)],[]⟩)]⟩),
 (23,⟨[17,20,22],[22],⟨[(23,.d (.int .i64))],[]⟩,[(.exit 2,⟨[],[]⟩),(.ret,⟨[(10,.d .bool)],[]⟩)]⟩)],[]⟩
abbrev XV:List Sk:=[.d (.st 1),.d (.slice (.st 13)),.d (.int .i64),.d (.int .i64),.d (.int .i64)]
abbrev XW:List Sk:=[.d .bool]
@[irreducible] noncomputable def RG (n:Nat) (p:ak R.T XV):Option (ak R.T XW):=aZ E R n false (RF n) aG Bw Tryz.f5 XV XW p
theorem arO (n:Nat):bB 5 XV XW (RG n):=fun _ _ h=>by unfold RG at h;exact okF (arN n) h Tryz.func5 (by kernel_rfl)
end Sh
