import Derived.Test.YtgdialomgeijcaaGreatF4018
set_option linter.all false
noncomputable section
open Go Go.Proofs Aq
namespace Sh
set_option maxRecDepth 100000
abbrev R4 (a r:List Sk):=FN R.T a->Option (FN R.T r)
abbrev Uh (a:List Sk)(o:List (Nat×R8))(r:List Sk):=FN R.T a->TP R.T o->Option (FN R.T r×TP R.T o)
abbrev RH:=Nat->List (FR R)
abbrev Fb:Sk:=.d (.int .i64)
abbrev SE:Sk:=.d (.st 0)
abbrev Vo:Sk:=.d (.slice (.st 0))
abbrev SK:=(1000000,R8.arr (.st 0))
abbrev Sz:=(1000000,R8.arr (.int .i64))
abbrev Q7:=List Sk
abbrev Sj (i:Nat)(a r:List Sk)(X:R4 a r)(F:RH):RH:=TR i ⟨a,r,X,R3 R r,false⟩ F
abbrev Ux (i:Nat)(a:List Sk)(o:List (Nat×R8))(r:List Sk)(X:Uh a o r)(I:IR R):IR R:=aai i ⟨a,o,r,X⟩ I
theorem RX {n:Nat}{om:Bool}{F:RH}{I:IR R}{A:Rs}{i:Nat}{fn:Func}{a r:List Sk}{X:R4 a r}(hF:Rt E F)(hI:Tf E I)(hX:X=RD E R n om F I A fn a r)(hf:E.P.funcs[i]? =some fn)(hok:(match fn.body with|some c=>decide (a.length<=fn.ntmps)&& aK fn.ntmps c&& gX E c|none=>false)=true)(ha:UM a=true:=by rfl)(hl:∀p,(Rj R a p).length=a.length:=by intro p;rfl)(ho:E.om i=om:=by rfl)(hs:E.W9 i=none:=by rfl):Rt E (Sj i a r X F):=Tc hF fun p _ h=>Uv TA hF hI ((congrFun hX p).symm.trans h) hf ha (hl p) ho hs hok
theorem Uz {n:Nat}{om:Bool}{F:RH}{I:IR R}{A:Rs}{i:Nat}{fn:Func}{a r:List Sk}{o:List (Nat×R8)}{X:Uh a o r}(hF:Rt E F)(hI:Tf E I)(hX:X=TI E R n om F I A fn a o r)(hf:E.P.funcs[i]? =some fn)(hok:(match fn.body with|some c=>decide (a.length<=fn.ntmps)&& aK fn.ntmps c&& gX E c&&(X4 r&& YX o&& qc o)|none=>false)=true)(ho:E.om i=om:=by rfl)(hg:E.imp i=true:=by rfl):Tf E (Ux i a o r X I):=ad7 hI (fun p q _ _ h=>ag4 TA hF hI ((congrFun (congrFun hX p) q).symm.trans h) hf ho hok) hg
def aV (i:Nat)(a r:List Sk)(F:FN R.T a->Option (FN R.T r)):Prop:=∀p x,F p=some x->Pure E i (Rj R a p) (R9 (Rj R r x))
theorem okF {n:Nat}{om:Bool}{F:Nat->List (FR R)}{A:Rs}{i:Nat}{fn:Func}{a r:List Sk}{p:FN R.T a}{x:FN R.T r}(hF:Rt E F)(h:RD E R n om F RF A fn a r p=some x)(hf:E.P.funcs[i]? =some fn)(hok:(match fn.body with|some c=>decide (a.length<=fn.ntmps)&& aK fn.ntmps c&& gX E c|none=>false)=true)(ha:UM a=true:=by rfl)(hl:(Rj R a p).length=a.length:=by rfl)(ho:E.om i=om:=by rfl)(hs:E.W9 i=none:=by rfl):Pure E i (Rj R a p) (R9 (Rj R r x)):=Uv TA hF Sw h hf ha hl ho hs hok
variable (n:Nat)
def av5:Rs:=⟨[],[]⟩
abbrev ajm:Q7:=[.d (.slice (.st 3)),SE]
abbrev ajn:Q7:=[.d .bool]
@[irreducible] def XN:R4 ajm ajn:=RD E R n false (g_0 n) RF av5 Tryz.f62 ajm ajn
def g_1:RH:=Sj 62 ajm ajn (XN n) (g_0 n)
theorem av6:Rt E (g_1 n):=RX (avu n) Sw (by unfold XN;rfl) Tryz.func62 (by kernel_rfl)
def av7:Rs:=⟨[],[]⟩
abbrev ajo:Q7:=[.d (.st 3),.Q9 [.d .str] 0]
abbrev ajp:Q7:=[.d .bool]
@[irreducible] def XX:R4 ajo ajp:=RD E R n false (g_1 n) RF av7 Tryz.f100 ajo ajp
def g_2:RH:=Sj 100 ajo ajp (XX n) (g_1 n)
theorem av8:Rt E (g_2 n):=RX (av6 n) Sw (by unfold XX;rfl) Tryz.func100 (by kernel_rfl)
def apN:Rs:=⟨[(2,⟨[0,1,7],[],⟨[(8,Fb)],[]⟩,[(.exit 0,⟨[],[]⟩),(.ret,⟨[(4,Fb)],[]⟩)]⟩)],[]⟩
abbrev ajq:Q7:=[.d (.slice (.st 3)),.fn 100 [] [.Q9 [.d .str] 0]]
abbrev ajr:Q7:=[Fb]
@[irreducible] def Xb:R4 ajq ajr:=RD E R n false (g_2 n) RF apN Tryz.f99 ajq ajr
def g_3:RH:=Sj 99 ajq ajr (Xb n) (g_2 n)
theorem av9:Rt E (g_3 n):=RX (av8 n) Sw (by unfold Xb;rfl) Tryz.func99 (by kernel_rfl)
def awc:Rs:=⟨[],[]⟩
abbrev ajt:Q7:=[.d (.slice (.st 3)),.d .str]
abbrev aju:Q7:=[.d (.st 3),.d .bool]
@[irreducible] def Xv:R4 ajt aju:=RD E R n false (g_3 n) RF awc Tryz.f85 ajt aju
def g_4:RH:=Sj 85 ajt aju (Xv n) (g_3 n)
theorem awd:Rt E (g_4 n):=RX (av9 n) Sw (by unfold Xv;rfl) Tryz.func85 (by kernel_rfl)
def awe:Rs:=⟨[],[]⟩
abbrev ajw:Q7:=[.d (.slice (.st 3)),SE]
abbrev ajx:Q7:=[.d .bool]
@[irreducible] def XO:R4 ajw ajx:=RD E R n false (g_4 n) RF awe Tryz.f66 ajw ajx
def g_5:RH:=Sj 66 ajw ajx (XO n) (g_4 n)
theorem awf:Rt E (g_5 n):=RX (awd n) Sw (by unfold XO;rfl) Tryz.func66 (by kernel_rfl)
def awg:Rs:=⟨[],[]⟩
abbrev ajz:Q7:=[.d (.slice (.st 3)),SE]
abbrev ajA:Q7:=[.d .bool]
@[irreducible] def XP:R4 ajz ajA:=RD E R n false (g_5 n) RF awg Tryz.f67 ajz ajA
def g_6:RH:=Sj 67 ajz ajA (XP n) (g_5 n)
theorem awh:Rt E (g_6 n):=RX (awf n) Sw (by unfold XP;rfl) Tryz.func67 (by kernel_rfl)
def awi:Rs:=⟨[],[]⟩
abbrev ajC:Q7:=[.d (.slice (.st 3)),SE]
abbrev ajD:Q7:=[.d .bool]
@[irreducible] def XQ:R4 ajC ajD:=RD E R n false (g_6 n) RF awi Tryz.f68 ajC ajD
def g_7:RH:=Sj 68 ajC ajD (XQ n) (g_6 n)
theorem ajF:Rt E (g_7 n):=RX (awh n) Sw (by unfold XQ;rfl) Tryz.func68 (by kernel_rfl)
def apO:Rs:=⟨[],[]⟩
abbrev aaj:Q7:=[.d (.slice (.st 3)),SE]
abbrev aaY:Q7:=[.d .bool]
def ajG:Rs:=⟨[(2,⟨[0,8,9],[],⟨[(10,Fb)],[]⟩,[(.exit 0,⟨[],[]⟩),(.ret,⟨[(4,.d .bool)],[]⟩)]⟩)],[]⟩
abbrev aak:Q7:=[.d (.slice (.st 3)),SE]
abbrev aaZ:Q7:=[.d .bool]
def apP:Rs:=⟨[],[]⟩
abbrev aal:Q7:=[.d (.slice (.st 3)),SE]
abbrev aa0:Q7:=[.d .bool]
def apQ:Rs:=⟨[],[]⟩
abbrev aam:Q7:=[Vo,.fn 36 [.d (.slice (.st 3))] []]
abbrev aa1:Q7:=[.d .bool]
def ajH:Rs:=⟨[(2,⟨[0,1,7],[],⟨[(8,Fb)],[]⟩,[(.exit 0,⟨[],[]⟩),(.ret,⟨[(4,Fb)],[]⟩)]⟩)],[]⟩
abbrev aan:Q7:=[Vo,.fn 36 [.d (.slice (.st 3))] []]
abbrev aa2:Q7:=[Fb]
def apR:Rs:=⟨[],[]⟩
abbrev aao:Q7:=[.d (.slice (.st 3)),SE]
abbrev aa3:Q7:=[.d .bool]
def Td:Nat->List Sk
 |0=>aaj|1=>aak|2=>aal|3=>aam|4=>aan|_=>aao
def R5:Nat->List Sk
 |0=>aaY|1=>aaZ|2=>aa0|3=>aa1|4=>aa2|_=>aa3
def awj:Nat->Rs
 |0=>apO|1=>ajG|2=>apP|3=>apQ|4=>ajH|_=>apR
def awk:Nat->Func
 |0=>Tryz.f36|1=>Tryz.f63|2=>Tryz.f64|3=>Tryz.f84|4=>Tryz.f98|_=>Tryz.f65
def Ww (g:(i:Nat)->FN R.T (Td i)->Option (FN R.T (R5 i))):Nat->List (FR R):=TR 65 ⟨Td 5,R5 5,g 5,R3 R (R5 5),false⟩ (TR 98 ⟨Td 4,R5 4,g 4,R3 R (R5 4),false⟩ (TR 84 ⟨Td 3,R5 3,g 3,R3 R (R5 3),false⟩ (TR 64 ⟨Td 2,R5 2,g 2,R3 R (R5 2),false⟩ (TR 63 ⟨Td 1,R5 1,g 1,R3 R (R5 1),false⟩ (TR 36 ⟨Td 0,R5 0,g 0,R3 R (R5 0),false⟩ (g_7 n))))))
def Sq (n:Nat):Nat->(i:Nat)->FN R.T (Td i)->Option (FN R.T (R5 i))
 |0,_,_=>none|m+1,i,p=>RD E R n false (Ww n (Sq n m)) RF (awj i) (awk i) (Td i) (R5 i) p
attribute [irreducible] Sq
theorem apS (n m:Nat)(p:FN R.T aaj):Sq n (m+1) 0 p=RD E R n false (Ww n (Sq n m)) RF apO Tryz.f36 aaj aaY p:=by kernel_rfl
theorem apT (n m:Nat)(p:FN R.T aak):Sq n (m+1) 1 p=RD E R n false (Ww n (Sq n m)) RF ajG Tryz.f63 aak aaZ p:=by kernel_rfl
theorem apU (n m:Nat)(p:FN R.T aal):Sq n (m+1) 2 p=RD E R n false (Ww n (Sq n m)) RF apP Tryz.f64 aal aa0 p:=by kernel_rfl
theorem apV (n m:Nat)(p:FN R.T aam):Sq n (m+1) 3 p=RD E R n false (Ww n (Sq n m)) RF apQ Tryz.f84 aam aa1 p:=by kernel_rfl
theorem apW (n m:Nat)(p:FN R.T aan):Sq n (m+1) 4 p=RD E R n false (Ww n (Sq n m)) RF ajH Tryz.f98 aan aa2 p:=by kernel_rfl
theorem apX (n m:Nat)(p:FN R.T aao):Sq n (m+1) 5 p=RD E R n false (Ww n (Sq n m)) RF apR Tryz.f65 aao aa3 p:=by kernel_rfl
theorem apY (p:FN R.T aaj):Sq n 0 0 p=none:=by kernel_rfl
theorem awl (p:FN R.T (Td 0))(x:FN R.T (R5 0))(h:Sq n 0 0 p=some x):Pure E 36 (Rj R (Td 0) p) (R9 (Rj R (R5 0) x)):=absurd ((apY n p).symm.trans h) nofun
theorem apZ (p:FN R.T aak):Sq n 0 1 p=none:=by kernel_rfl
theorem awm (p:FN R.T (Td 1))(x:FN R.T (R5 1))(h:Sq n 0 1 p=some x):Pure E 63 (Rj R (Td 1) p) (R9 (Rj R (R5 1) x)):=absurd ((apZ n p).symm.trans h) nofun
theorem ap0 (p:FN R.T aal):Sq n 0 2 p=none:=by kernel_rfl
theorem awn (p:FN R.T (Td 2))(x:FN R.T (R5 2))(h:Sq n 0 2 p=some x):Pure E 64 (Rj R (Td 2) p) (R9 (Rj R (R5 2) x)):=absurd ((ap0 n p).symm.trans h) nofun
theorem ap1 (p:FN R.T aam):Sq n 0 3 p=none:=by kernel_rfl
theorem awo (p:FN R.T (Td 3))(x:FN R.T (R5 3))(h:Sq n 0 3 p=some x):Pure E 84 (Rj R (Td 3) p) (R9 (Rj R (R5 3) x)):=absurd ((ap1 n p).symm.trans h) nofun
theorem ap2 (p:FN R.T aan):Sq n 0 4 p=none:=by kernel_rfl
theorem awp (p:FN R.T (Td 4))(x:FN R.T (R5 4))(h:Sq n 0 4 p=some x):Pure E 98 (Rj R (Td 4) p) (R9 (Rj R (R5 4) x)):=absurd ((ap2 n p).symm.trans h) nofun
theorem ap3 (p:FN R.T aao):Sq n 0 5 p=none:=by kernel_rfl
theorem awq (p:FN R.T (Td 5))(x:FN R.T (R5 5))(h:Sq n 0 5 p=some x):Pure E 65 (Rj R (Td 5) p) (R9 (Rj R (R5 5) x)):=absurd ((ap3 n p).symm.trans h) nofun
theorem awr (n m:Nat)(hk:Rt E (Ww n (Sq n m)))(p:FN R.T (Td 0))(x:FN R.T (R5 0))(h:Sq n (m+1) 0 p=some x):Pure E 36 (Rj R (Td 0) p) (R9 (Rj R (R5 0) x)):=
 Uv (args:=aaj) (res:=aaY) TA hk Sw ((apS n m p).symm.trans h) Tryz.func36 rfl rfl rfl rfl (by kernel_rfl)
theorem awt (n m:Nat)(hk:Rt E (Ww n (Sq n m)))(p:FN R.T (Td 1))(x:FN R.T (R5 1))(h:Sq n (m+1) 1 p=some x):Pure E 63 (Rj R (Td 1) p) (R9 (Rj R (R5 1) x)):=
 Uv (args:=aak) (res:=aaZ) TA hk Sw ((apT n m p).symm.trans h) Tryz.func63 rfl rfl rfl rfl (by kernel_rfl)
theorem awu (n m:Nat)(hk:Rt E (Ww n (Sq n m)))(p:FN R.T (Td 2))(x:FN R.T (R5 2))(h:Sq n (m+1) 2 p=some x):Pure E 64 (Rj R (Td 2) p) (R9 (Rj R (R5 2) x)):=
 Uv (args:=aal) (res:=aa0) TA hk Sw ((apU n m p).symm.trans h) Tryz.func64 rfl rfl rfl rfl (by kernel_rfl)
theorem awv (n m:Nat)(hk:Rt E (Ww n (Sq n m)))(p:FN R.T (Td 3))(x:FN R.T (R5 3))(h:Sq n (m+1) 3 p=some x):Pure E 84 (Rj R (Td 3) p) (R9 (Rj R (R5 3) x)):=
 Uv (args:=aam) (res:=aa1) TA hk Sw ((apV n m p).symm.trans h) Tryz.func84 rfl rfl rfl rfl (by kernel_rfl)
theorem aww (n m:Nat)(hk:Rt E (Ww n (Sq n m)))(p:FN R.T (Td 4))(x:FN R.T (R5 4))(h:Sq n (m+1) 4 p=some x):Pure E 98 (Rj R (Td 4) p) (R9 (Rj R (R5 4) x)):=
 Uv (args:=aan) (res:=aa2) TA hk Sw ((apW n m p).symm.trans h) Tryz.func98 rfl rfl rfl rfl (by kernel_rfl)
theorem awx (n m:Nat)(hk:Rt E (Ww n (Sq n m)))(p:FN R.T (Td 5))(x:FN R.T (R5 5))(h:Sq n (m+1) 5 p=some x):Pure E 65 (Rj R (Td 5) p) (R9 (Rj R (R5 5) x)):=
 Uv (args:=aao) (res:=aa3) TA hk Sw ((apX n m p).symm.trans h) Tryz.func65 rfl rfl rfl rfl (by kernel_rfl)
theorem Y8 (n:Nat):∀m,Rt E (Ww n (Sq n m))
 |0=>Tc (f:=65) (r:=⟨Td 5,R5 5,Sq n 0 5,R3 R (R5 5),false⟩) (Tc (f:=98) (r:=⟨Td 4,R5 4,Sq n 0 4,R3 R (R5 4),false⟩) (Tc (f:=84) (r:=⟨Td 3,R5 3,Sq n 0 3,R3 R (R5 3),false⟩) (Tc (f:=64) (r:=⟨Td 2,R5 2,Sq n 0 2,R3 R (R5 2),false⟩) (Tc (f:=63) (r:=⟨Td 1,R5 1,Sq n 0 1,R3 R (R5 1),false⟩) (Tc (f:=36) (r:=⟨Td 0,R5 0,Sq n 0 0,R3 R (R5 0),false⟩) (ajF n) (awl n)) (awm n)) (awn n)) (awo n)) (awp n)) (awq n)|m+1=>Tc (f:=65) (r:=⟨Td 5,R5 5,Sq n (m+1) 5,R3 R (R5 5),false⟩) (Tc (f:=98) (r:=⟨Td 4,R5 4,Sq n (m+1) 4,R3 R (R5 4),false⟩) (Tc (f:=84) (r:=⟨Td 3,R5 3,Sq n (m+1) 3,R3 R (R5 3),false⟩) (Tc (f:=64) (r:=⟨Td 2,R5 2,Sq n (m+1) 2,R3 R (R5 2),false⟩) (Tc (f:=63) (r:=⟨Td 1,R5 1,Sq n (m+1) 1,R3 R (R5 1),false⟩) (Tc (f:=36) (r:=⟨Td 0,R5 0,Sq n (m+1) 0,R3 R (R5 0),false⟩) (ajF n) (awr n m (Y8 n m))) (awt n m (Y8 n m))) (awu n m (Y8 n m))) (awv n m (Y8 n m))) (aww n m (Y8 n m))) (awx n m (Y8 n m))
@[irreducible] def aa4 (n m:Nat)(p:FN R.T aaj):Option (FN R.T aaY):=Sq n m 0 p
@[irreducible] def Zf (p:FN R.T aaj):Option (FN R.T aaY):=aa4 n n p
theorem awy (p:FN R.T aaj)(x:FN R.T aaY)(h:Zf n p=some x):Pure E 36 (Rj R aaj p) (R9 (Rj R aaY x)):=by
 unfold Zf aa4 at h;cases n with
 |zero=>exact absurd ((apY 0 p).symm.trans h) nofun|succ n=>exact Uv (args:=aaj) (res:=aaY) TA (Y8 (n+1) n) Sw ((apS (n+1) n p).symm.trans h) Tryz.func36 rfl rfl rfl rfl (by kernel_rfl)
@[irreducible] def afd (n m:Nat)(p:FN R.T aak):Option (FN R.T aaZ):=Sq n m 1 p
@[irreducible] def Ze (p:FN R.T aak):Option (FN R.T aaZ):=afd n n p
theorem awz (p:FN R.T aak)(x:FN R.T aaZ)(h:Ze n p=some x):Pure E 63 (Rj R aak p) (R9 (Rj R aaZ x)):=by
 unfold Ze afd at h;cases n with
 |zero=>exact absurd ((apZ 0 p).symm.trans h) nofun|succ n=>exact Uv (args:=aak) (res:=aaZ) TA (Y8 (n+1) n) Sw ((apT (n+1) n p).symm.trans h) Tryz.func63 rfl rfl rfl rfl (by kernel_rfl)
@[irreducible] def aef (n m:Nat)(p:FN R.T aal):Option (FN R.T aa0):=Sq n m 2 p
@[irreducible] def Zv (p:FN R.T aal):Option (FN R.T aa0):=aef n n p
theorem awC (p:FN R.T aal)(x:FN R.T aa0)(h:Zv n p=some x):Pure E 64 (Rj R aal p) (R9 (Rj R aa0 x)):=by
 unfold Zv aef at h;cases n with
 |zero=>exact absurd ((ap0 0 p).symm.trans h) nofun|succ n=>exact Uv (args:=aal) (res:=aa0) TA (Y8 (n+1) n) Sw ((apU (n+1) n p).symm.trans h) Tryz.func64 rfl rfl rfl rfl (by kernel_rfl)
@[irreducible] def afe (n m:Nat)(p:FN R.T aam):Option (FN R.T aa1):=Sq n m 3 p
@[irreducible] def Zy (p:FN R.T aam):Option (FN R.T aa1):=afe n n p
theorem awD (p:FN R.T aam)(x:FN R.T aa1)(h:Zy n p=some x):Pure E 84 (Rj R aam p) (R9 (Rj R aa1 x)):=by
 unfold Zy afe at h;cases n with
 |zero=>exact absurd ((ap1 0 p).symm.trans h) nofun|succ n=>exact Uv (args:=aam) (res:=aa1) TA (Y8 (n+1) n) Sw ((apV (n+1) n p).symm.trans h) Tryz.func84 rfl rfl rfl rfl (by kernel_rfl)
@[irreducible] def ahe (n m:Nat)(p:FN R.T aan):Option (FN R.T aa2):=Sq n m 4 p
@[irreducible] def Zg (p:FN R.T aan):Option (FN R.T aa2):=ahe n n p
theorem awE (p:FN R.T aan)(x:FN R.T aa2)(h:Zg n p=some x):Pure E 98 (Rj R aan p) (R9 (Rj R aa2 x)):=by
 unfold Zg ahe at h;cases n with
 |zero=>exact absurd ((ap2 0 p).symm.trans h) nofun|succ n=>exact Uv (args:=aan) (res:=aa2) TA (Y8 (n+1) n) Sw ((apW (n+1) n p).symm.trans h) Tryz.func98 rfl rfl rfl rfl (by kernel_rfl)
@[irreducible] def aff (n m:Nat)(p:FN R.T aao):Option (FN R.T aa3):=Sq n m 5 p
@[irreducible] def Zz (p:FN R.T aao):Option (FN R.T aa3):=aff n n p
theorem awF (p:FN R.T aao)(x:FN R.T aa3)(h:Zz n p=some x):Pure E 65 (Rj R aao p) (R9 (Rj R aa3 x)):=by
 unfold Zz aff at h;cases n with
 |zero=>exact absurd ((ap3 0 p).symm.trans h) nofun|succ n=>exact Uv (args:=aao) (res:=aa3) TA (Y8 (n+1) n) Sw ((apX (n+1) n p).symm.trans h) Tryz.func65 rfl rfl rfl rfl (by kernel_rfl)
def g_8:RH:=TR 36 ⟨aaj,aaY,Zf n,R3 R aaY,false⟩ (g_7 n)
theorem awG:Rt E (g_8 n):=Tc (ajF n) (awy n)
def g_9:RH:=TR 63 ⟨aak,aaZ,Ze n,R3 R aaZ,false⟩ (g_8 n)
theorem awH:Rt E (g_9 n):=Tc (awG n) (awz n)
def ap6:RH:=TR 64 ⟨aal,aa0,Zv n,R3 R aa0,false⟩ (g_9 n)
theorem awI:Rt E (ap6 n):=Tc (awH n) (awC n)
def ap7:RH:=TR 84 ⟨aam,aa1,Zy n,R3 R aa1,false⟩ (ap6 n)
theorem awJ:Rt E (ap7 n):=Tc (awI n) (awD n)
def ap8:RH:=TR 98 ⟨aan,aa2,Zg n,R3 R aa2,false⟩ (ap7 n)
theorem awK:Rt E (ap8 n):=Tc (awJ n) (awE n)
def ajI:RH:=TR 65 ⟨aao,aa3,Zz n,R3 R aa3,false⟩ (ap8 n)
theorem ap9:Rt E (ajI n):=Tc (awK n) (awF n)
def awL:Rs:=⟨[],[]⟩
abbrev ahf:Q7:=[SE,.d (.slice (.st 3))]
abbrev afg:Q7:=[.d .bool]
@[irreducible] def XD:R4 ahf afg:=RD E R n false (ajI n) RF awL Tryz.f12 ahf afg
theorem aqa:aV 12 ahf afg (XD n):=fun _ _ h=>by unfold XD at h;exact okF (ap9 n) h Tryz.func12 (by kernel_rfl)
def ajJ:RH:=TR 12 ⟨ahf,afg,XD n,R3 R afg,false⟩ (ajI n)
theorem awM:Rt E (ajJ n):=Tc (ap9 n) (aqa n)
def awN:Rs:=⟨[(2,⟨[0,1,4],[],⟨[(5,Fb)],[(4,.st 5)]⟩,[(.exit 0,⟨[],[(4,.st 5)]⟩),(.ret,⟨[],[(4,.st 5)]⟩)]⟩)],[]⟩
abbrev ajK:Q7:=[.d (.slice (.st 3)),.d .str]
abbrev ajL:Q7:=[.d (.st 5)]
@[irreducible] def Jx:R4 ajK ajL:=RD E R n false (ajJ n) RF awN Tryz.f37 ajK ajL
def ajM:RH:=Sj 37 ajK ajL (Jx n) (ajJ n)
theorem ajN:Rt E (ajM n):=RX (awM n) Sw (by unfold Jx;rfl) Tryz.func37 (by kernel_rfl)
def aqb:Rs:=⟨[(3,⟨[1,2],[2],⟨[(5,Fb),(6,Fb)],[]⟩,[(.exit 0,⟨[(5,Fb)],[]⟩)]⟩)],[]⟩
abbrev aap:Q7:=[SE,.d (.slice (.st 3))]
abbrev aa5:Q7:=[.d .bool]
def aa6:Nat->List Sk
 |_=>aap
def Yt:Nat->List Sk
 |_=>aa5
def awO:Nat->Rs
 |_=>aqb
def awP:Nat->Func
 |_=>Tryz.f13
def ahg (g:(i:Nat)->FN R.T (aa6 i)->Option (FN R.T (Yt i))):Nat->List (FR R):=TR 13 ⟨aa6 0,Yt 0,g 0,R3 R (Yt 0),false⟩ (ajM n)
def Y9 (n:Nat):Nat->(i:Nat)->FN R.T (aa6 i)->Option (FN R.T (Yt i))
 |0,_,_=>none|m+1,i,p=>RD E R n false (ahg n (Y9 n m)) RF (awO i) (awP i) (aa6 i) (Yt i) p
attribute [irreducible] Y9
theorem aqc (n m:Nat)(p:FN R.T aap):Y9 n (m+1) 0 p=RD E R n false (ahg n (Y9 n m)) RF aqb Tryz.f13 aap aa5 p:=by kernel_rfl
theorem aqd (p:FN R.T aap):Y9 n 0 0 p=none:=by kernel_rfl
theorem awQ (p:FN R.T (aa6 0))(x:FN R.T (Yt 0))(h:Y9 n 0 0 p=some x):Pure E 13 (Rj R (aa6 0) p) (R9 (Rj R (Yt 0) x)):=absurd ((aqd n p).symm.trans h) nofun
theorem awR (n m:Nat)(hk:Rt E (ahg n (Y9 n m)))(p:FN R.T (aa6 0))(x:FN R.T (Yt 0))(h:Y9 n (m+1) 0 p=some x):Pure E 13 (Rj R (aa6 0) p) (R9 (Rj R (Yt 0) x)):=
 Uv (args:=aap) (res:=aa5) TA hk Sw ((aqc n m p).symm.trans h) Tryz.func13 rfl rfl rfl rfl (by kernel_rfl)
theorem aqe (n:Nat):∀m,Rt E (ahg n (Y9 n m))
 |0=>Tc (f:=13) (r:=⟨aa6 0,Yt 0,Y9 n 0 0,R3 R (Yt 0),false⟩) (ajN n) (awQ n)|m+1=>Tc (f:=13) (r:=⟨aa6 0,Yt 0,Y9 n (m+1) 0,R3 R (Yt 0),false⟩) (ajN n) (awR n m (aqe n m))
@[irreducible] def aqf (n m:Nat)(p:FN R.T aap):Option (FN R.T aa5):=Y9 n m 0 p
@[irreducible] def ZG (p:FN R.T aap):Option (FN R.T aa5):=aqf n n p
theorem awS (p:FN R.T aap)(x:FN R.T aa5)(h:ZG n p=some x):Pure E 13 (Rj R aap p) (R9 (Rj R aa5 x)):=by
 unfold ZG aqf at h;cases n with
 |zero=>exact absurd ((aqd 0 p).symm.trans h) nofun|succ n=>exact Uv (args:=aap) (res:=aa5) TA (aqe (n+1) n) Sw ((aqc (n+1) n p).symm.trans h) Tryz.func13 rfl rfl rfl rfl (by kernel_rfl)
def ahh:RH:=TR 13 ⟨aap,aa5,ZG n,R3 R aa5,false⟩ (ajM n)
theorem aqg:Rt E (ahh n):=Tc (ajN n) (awS n)
def aqh:Rs:=⟨[(3,⟨[6,7],[],⟨[(3,Fb),(8,Fb)],[]⟩,[(.exit 0,⟨[(3,Fb)],[]⟩),(.ret,⟨[(2,Fb)],[]⟩)]⟩)],[]⟩
abbrev ahi:Q7:=[.d (.slice (.slice (.st 7)))]
abbrev afh:Q7:=[Fb]
@[irreducible] def ZS:R4 ahi afh:=RD E R n false (ahh n) RF aqh Tryz.f55 ahi afh
theorem aqi:aV 55 ahi afh (ZS n):=fun _ _ h=>by unfold ZS at h;exact okF (aqg n) h Tryz.func55 (by kernel_rfl)
def afi:RH:=TR 55 ⟨ahi,afh,ZS n,R3 R afh,false⟩ (ahh n)
theorem awT:Rt E (afi n):=Tc (aqg n) (aqi n)
end Sh
