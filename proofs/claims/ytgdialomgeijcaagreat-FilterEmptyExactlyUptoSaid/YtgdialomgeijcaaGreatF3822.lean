import Derived.Test.YtgdialomgeijcaaGreatF3818
set_option linter.all false
noncomputable section
open Go Go.Proofs Aq
namespace Sh
set_option maxRecDepth 100000
abbrev Sc (a r:List Sk):=Lv R.T a->Option (Lv R.T r)
abbrev Vr (a:List Sk)(o:List (Nat×Sy))(r:List Sk):=Lv R.T a->Uc R.T o->Option (Lv R.T r×Uc R.T o)
abbrev RJ:=Nat->List (FR R)
abbrev Q0:Sk:=.d (.int .i64)
abbrev TH:Sk:=.d (.st 0)
abbrev YB:Sk:=.d (.slice (.st 0))
abbrev oPz:=(1000000,Sy.arr (.st 0))
abbrev R8:=(1000000,Sy.arr (.int .i64))
abbrev Q7:=List Sk
abbrev Sr (i:Nat)(a r:List Sk)(X:Sc a r)(F:RJ):RJ:=Ut i ⟨a,r,X,SE R r,false⟩ F
abbrev VN (i:Nat)(a:List Sk)(o:List (Nat×Sy))(r:List Sk)(X:Vr a o r)(I:IR R):IR R:=abB i ⟨a,o,r,X⟩ I
theorem RZ {n:Nat}{om:Bool}{F:RJ}{I:IR R}{A:Ru}{i:Nat}{fn:Func}{a r:List Sk}{X:Sc a r}(hF:Ro E F)(hI:TU E I)(hX:X=RH E R n om F I A fn a r)(hf:E.P.funcs[i]? =some fn)(hok:(match fn.body with|some c=>decide (a.length<=fn.ntmps)&& aK fn.ntmps c&& gX E c|none=>false)=true)(ha:Ur a=true:=by rfl)(hl:∀p,(Ri R a p).length=a.length:=by intro p;rfl)(ho:E.om i=om:=by rfl)(hs:E.Wn i=none:=by rfl):Ro E (Sr i a r X F):=TF hF fun p _ h=>UQ Ua hF hI ((congrFun hX p).symm.trans h) hf ha (hl p) ho hs hok
theorem Wj {n:Nat}{om:Bool}{F:RJ}{I:IR R}{A:Ru}{i:Nat}{fn:Func}{a r:List Sk}{o:List (Nat×Sy)}{X:Vr a o r}(hF:Ro E F)(hI:TU E I)(hX:X=UO E R n om F I A fn a o r)(hf:E.P.funcs[i]? =some fn)(hok:(match fn.body with|some c=>decide (a.length<=fn.ntmps)&& aK fn.ntmps c&& gX E c&&(Wq r&& XJ o&& qc o)|none=>false)=true)(ho:E.om i=om:=by rfl)(hg:E.imp i=true:=by rfl):TU E (VN i a o r X I):=ae6 hI (fun p q _ _ h=>ags Ua hF hI ((congrFun (congrFun hX p) q).symm.trans h) hf ho hok) hg
def aT (i:Nat)(a r:List Sk)(F:Lv R.T a->Option (Lv R.T r)):Prop:=∀p x,F p=some x->Pure E i (Ri R a p) (SA (Ri R r x))
theorem okF {n:Nat}{om:Bool}{F:Nat->List (FR R)}{A:Ru}{i:Nat}{fn:Func}{a r:List Sk}{p:Lv R.T a}{x:Lv R.T r}(hF:Ro E F)(h:RH E R n om F Rw A fn a r p=some x)(hf:E.P.funcs[i]? =some fn)(hok:(match fn.body with|some c=>decide (a.length<=fn.ntmps)&& aK fn.ntmps c&& gX E c|none=>false)=true)(ha:Ur a=true:=by rfl)(hl:(Ri R a p).length=a.length:=by rfl)(ho:E.om i=om:=by rfl)(hs:E.Wn i=none:=by rfl):Pure E i (Ri R a p) (SA (Ri R r x)):=UQ Ua hF RY h hf ha hl ho hs hok
variable (n:Nat)
def aqw:Ru:=⟨[],[]⟩
abbrev ag2:Q7:=[.d (.slice (.st 3)),TH]
abbrev ag3:Q7:=[.d .bool]
@[irreducible] def Xl:Sc ag2 ag3:=RH E R n false (g_0 n) Rw aqw Tryz.f62 ag2 ag3
def g_1:RJ:=Sr 62 ag2 ag3 (Xl n) (g_0 n)
theorem aqx:Ro E (g_1 n):=RZ (apV n) RY (by unfold Xl;rfl) Tryz.func62 (by kernel_rfl)
def aqy:Ru:=⟨[],[]⟩
abbrev ag4:Q7:=[.d (.st 3),.Q5 [.d .str] 0]
abbrev ag5:Q7:=[.d .bool]
@[irreducible] def Xs:Sc ag4 ag5:=RH E R n false (g_1 n) Rw aqy Tryz.f100 ag4 ag5
def g_2:RJ:=Sr 100 ag4 ag5 (Xs n) (g_1 n)
theorem aqz:Ro E (g_2 n):=RZ (aqx n) RY (by unfold Xs;rfl) Tryz.func100 (by kernel_rfl)
def alP:Ru:=⟨[(2,⟨[0,1,7],[],⟨[(8,Q0)],[]⟩,[(.exit 0,⟨[],[]⟩),(.ret,⟨[(4,Q0)],[]⟩)]⟩)],[]⟩
abbrev ag6:Q7:=[.d (.slice (.st 3)),.fn 100 [] [.Q5 [.d .str] 0]]
abbrev ag7:Q7:=[Q0]
@[irreducible] def ZM:Sc ag6 ag7:=RH E R n false (g_2 n) Rw alP Tryz.f99 ag6 ag7
def g_3:RJ:=Sr 99 ag6 ag7 (ZM n) (g_2 n)
theorem aqA:Ro E (g_3 n):=RZ (aqz n) RY (by unfold ZM;rfl) Tryz.func99 (by kernel_rfl)
def aqB:Ru:=⟨[],[]⟩
abbrev ag9:Q7:=[.d (.slice (.st 3)),.d .str]
abbrev aha:Q7:=[.d (.st 3),.d .bool]
@[irreducible] def ZY:Sc ag9 aha:=RH E R n false (g_3 n) Rw aqB Tryz.f85 ag9 aha
def g_4:RJ:=Sr 85 ag9 aha (ZY n) (g_3 n)
theorem aqC:Ro E (g_4 n):=RZ (aqA n) RY (by unfold ZY;rfl) Tryz.func85 (by kernel_rfl)
def aqD:Ru:=⟨[],[]⟩
abbrev ahc:Q7:=[.d (.slice (.st 3)),TH]
abbrev ahd:Q7:=[.d .bool]
@[irreducible] def Xm:Sc ahc ahd:=RH E R n false (g_4 n) Rw aqD Tryz.f66 ahc ahd
def g_5:RJ:=Sr 66 ahc ahd (Xm n) (g_4 n)
theorem aqE:Ro E (g_5 n):=RZ (aqC n) RY (by unfold Xm;rfl) Tryz.func66 (by kernel_rfl)
def aqF:Ru:=⟨[],[]⟩
abbrev ahf:Q7:=[.d (.slice (.st 3)),TH]
abbrev ahg:Q7:=[.d .bool]
@[irreducible] def Xn:Sc ahf ahg:=RH E R n false (g_5 n) Rw aqF Tryz.f67 ahf ahg
def g_6:RJ:=Sr 67 ahf ahg (Xn n) (g_5 n)
theorem aqG:Ro E (g_6 n):=RZ (aqE n) RY (by unfold Xn;rfl) Tryz.func67 (by kernel_rfl)
def aqH:Ru:=⟨[],[]⟩
abbrev ahi:Q7:=[.d (.slice (.st 3)),TH]
abbrev ahj:Q7:=[.d .bool]
@[irreducible] def Xo:Sc ahi ahj:=RH E R n false (g_6 n) Rw aqH Tryz.f68 ahi ahj
def g_7:RJ:=Sr 68 ahi ahj (Xo n) (g_6 n)
theorem ahl:Ro E (g_7 n):=RZ (aqG n) RY (by unfold Xo;rfl) Tryz.func68 (by kernel_rfl)
def alQ:Ru:=⟨[],[]⟩
abbrev X5:Q7:=[.d (.slice (.st 3)),TH]
abbrev YC:Q7:=[.d .bool]
def ahm:Ru:=⟨[(2,⟨[0,8,9],[],⟨[(10,Q0)],[]⟩,[(.exit 0,⟨[],[]⟩),(.ret,⟨[(4,.d .bool)],[]⟩)]⟩)],[]⟩
abbrev X6:Q7:=[.d (.slice (.st 3)),TH]
abbrev YD:Q7:=[.d .bool]
def alR:Ru:=⟨[],[]⟩
abbrev X7:Q7:=[.d (.slice (.st 3)),TH]
abbrev YE:Q7:=[.d .bool]
def alS:Ru:=⟨[],[]⟩
abbrev X8:Q7:=[YB,.fn 36 [.d (.slice (.st 3))] []]
abbrev YF:Q7:=[.d .bool]
def ahn:Ru:=⟨[(2,⟨[0,1,7],[],⟨[(8,Q0)],[]⟩,[(.exit 0,⟨[],[]⟩),(.ret,⟨[(4,Q0)],[]⟩)]⟩)],[]⟩
abbrev X9:Q7:=[YB,.fn 36 [.d (.slice (.st 3))] []]
abbrev YG:Q7:=[Q0]
def alT:Ru:=⟨[],[]⟩
abbrev Yc:Q7:=[.d (.slice (.st 3)),TH]
abbrev YH:Q7:=[.d .bool]
def SH:Nat->List Sk
 |0=>X5|1=>X6|2=>X7|3=>X8|4=>X9|_=>Yc
def RQ:Nat->List Sk
 |0=>YC|1=>YD|2=>YE|3=>YF|4=>YG|_=>YH
def aqI:Nat->Ru
 |0=>alQ|1=>ahm|2=>alR|3=>alS|4=>ahn|_=>alT
def aqJ:Nat->Func
 |0=>Tryz.f36|1=>Tryz.f63|2=>Tryz.f64|3=>Tryz.f84|4=>Tryz.f98|_=>Tryz.f65
def VO (g:(i:Nat)->Lv R.T (SH i)->Option (Lv R.T (RQ i))):Nat->List (FR R):=Ut 65 ⟨SH 5,RQ 5,g 5,SE R (RQ 5),false⟩ (Ut 98 ⟨SH 4,RQ 4,g 4,SE R (RQ 4),false⟩ (Ut 84 ⟨SH 3,RQ 3,g 3,SE R (RQ 3),false⟩ (Ut 64 ⟨SH 2,RQ 2,g 2,SE R (RQ 2),false⟩ (Ut 63 ⟨SH 1,RQ 1,g 1,SE R (RQ 1),false⟩ (Ut 36 ⟨SH 0,RQ 0,g 0,SE R (RQ 0),false⟩ (g_7 n))))))
def R5 (n:Nat):Nat->(i:Nat)->Lv R.T (SH i)->Option (Lv R.T (RQ i))
 |0,_,_=>none|m+1,i,p=>RH E R n false (VO n (R5 n m)) Rw (aqI i) (aqJ i) (SH i) (RQ i) p
attribute [irreducible] R5
theorem alU (n m:Nat)(p:Lv R.T X5):R5 n (m+1) 0 p=RH E R n false (VO n (R5 n m)) Rw alQ Tryz.f36 X5 YC p:=by kernel_rfl
theorem alV (n m:Nat)(p:Lv R.T X6):R5 n (m+1) 1 p=RH E R n false (VO n (R5 n m)) Rw ahm Tryz.f63 X6 YD p:=by kernel_rfl
theorem alW (n m:Nat)(p:Lv R.T X7):R5 n (m+1) 2 p=RH E R n false (VO n (R5 n m)) Rw alR Tryz.f64 X7 YE p:=by kernel_rfl
theorem alX (n m:Nat)(p:Lv R.T X8):R5 n (m+1) 3 p=RH E R n false (VO n (R5 n m)) Rw alS Tryz.f84 X8 YF p:=by kernel_rfl
theorem alY (n m:Nat)(p:Lv R.T X9):R5 n (m+1) 4 p=RH E R n false (VO n (R5 n m)) Rw ahn Tryz.f98 X9 YG p:=by kernel_rfl
theorem alZ (n m:Nat)(p:Lv R.T Yc):R5 n (m+1) 5 p=RH E R n false (VO n (R5 n m)) Rw alT Tryz.f65 Yc YH p:=by kernel_rfl
theorem al0 (p:Lv R.T X5):R5 n 0 0 p=none:=by kernel_rfl
theorem aqK (p:Lv R.T (SH 0))(x:Lv R.T (RQ 0))(h:R5 n 0 0 p=some x):Pure E 36 (Ri R (SH 0) p) (SA (Ri R (RQ 0) x)):=absurd ((al0 n p).symm.trans h) nofun
theorem al1 (p:Lv R.T X6):R5 n 0 1 p=none:=by kernel_rfl
theorem aqL (p:Lv R.T (SH 1))(x:Lv R.T (RQ 1))(h:R5 n 0 1 p=some x):Pure E 63 (Ri R (SH 1) p) (SA (Ri R (RQ 1) x)):=absurd ((al1 n p).symm.trans h) nofun
theorem al2 (p:Lv R.T X7):R5 n 0 2 p=none:=by kernel_rfl
theorem aqM (p:Lv R.T (SH 2))(x:Lv R.T (RQ 2))(h:R5 n 0 2 p=some x):Pure E 64 (Ri R (SH 2) p) (SA (Ri R (RQ 2) x)):=absurd ((al2 n p).symm.trans h) nofun
theorem al3 (p:Lv R.T X8):R5 n 0 3 p=none:=by kernel_rfl
theorem aqN (p:Lv R.T (SH 3))(x:Lv R.T (RQ 3))(h:R5 n 0 3 p=some x):Pure E 84 (Ri R (SH 3) p) (SA (Ri R (RQ 3) x)):=absurd ((al3 n p).symm.trans h) nofun
theorem al4 (p:Lv R.T X9):R5 n 0 4 p=none:=by kernel_rfl
theorem aqO (p:Lv R.T (SH 4))(x:Lv R.T (RQ 4))(h:R5 n 0 4 p=some x):Pure E 98 (Ri R (SH 4) p) (SA (Ri R (RQ 4) x)):=absurd ((al4 n p).symm.trans h) nofun
theorem al5 (p:Lv R.T Yc):R5 n 0 5 p=none:=by kernel_rfl
theorem aqP (p:Lv R.T (SH 5))(x:Lv R.T (RQ 5))(h:R5 n 0 5 p=some x):Pure E 65 (Ri R (SH 5) p) (SA (Ri R (RQ 5) x)):=absurd ((al5 n p).symm.trans h) nofun
theorem aqQ (n m:Nat)(hk:Ro E (VO n (R5 n m)))(p:Lv R.T (SH 0))(x:Lv R.T (RQ 0))(h:R5 n (m+1) 0 p=some x):Pure E 36 (Ri R (SH 0) p) (SA (Ri R (RQ 0) x)):=
 UQ (args:=X5) (res:=YC) Ua hk RY ((alU n m p).symm.trans h) Tryz.func36 rfl rfl rfl rfl (by kernel_rfl)
theorem aqR (n m:Nat)(hk:Ro E (VO n (R5 n m)))(p:Lv R.T (SH 1))(x:Lv R.T (RQ 1))(h:R5 n (m+1) 1 p=some x):Pure E 63 (Ri R (SH 1) p) (SA (Ri R (RQ 1) x)):=
 UQ (args:=X6) (res:=YD) Ua hk RY ((alV n m p).symm.trans h) Tryz.func63 rfl rfl rfl rfl (by kernel_rfl)
theorem aqS (n m:Nat)(hk:Ro E (VO n (R5 n m)))(p:Lv R.T (SH 2))(x:Lv R.T (RQ 2))(h:R5 n (m+1) 2 p=some x):Pure E 64 (Ri R (SH 2) p) (SA (Ri R (RQ 2) x)):=
 UQ (args:=X7) (res:=YE) Ua hk RY ((alW n m p).symm.trans h) Tryz.func64 rfl rfl rfl rfl (by kernel_rfl)
theorem aqT (n m:Nat)(hk:Ro E (VO n (R5 n m)))(p:Lv R.T (SH 3))(x:Lv R.T (RQ 3))(h:R5 n (m+1) 3 p=some x):Pure E 84 (Ri R (SH 3) p) (SA (Ri R (RQ 3) x)):=
 UQ (args:=X8) (res:=YF) Ua hk RY ((alX n m p).symm.trans h) Tryz.func84 rfl rfl rfl rfl (by kernel_rfl)
theorem aqU (n m:Nat)(hk:Ro E (VO n (R5 n m)))(p:Lv R.T (SH 4))(x:Lv R.T (RQ 4))(h:R5 n (m+1) 4 p=some x):Pure E 98 (Ri R (SH 4) p) (SA (Ri R (RQ 4) x)):=
 UQ (args:=X9) (res:=YG) Ua hk RY ((alY n m p).symm.trans h) Tryz.func98 rfl rfl rfl rfl (by kernel_rfl)
theorem aqV (n m:Nat)(hk:Ro E (VO n (R5 n m)))(p:Lv R.T (SH 5))(x:Lv R.T (RQ 5))(h:R5 n (m+1) 5 p=some x):Pure E 65 (Ri R (SH 5) p) (SA (Ri R (RQ 5) x)):=
 UQ (args:=Yc) (res:=YH) Ua hk RY ((alZ n m p).symm.trans h) Tryz.func65 rfl rfl rfl rfl (by kernel_rfl)
theorem XO (n:Nat):∀m,Ro E (VO n (R5 n m))
 |0=>TF (f:=65) (r:=⟨SH 5,RQ 5,R5 n 0 5,SE R (RQ 5),false⟩) (TF (f:=98) (r:=⟨SH 4,RQ 4,R5 n 0 4,SE R (RQ 4),false⟩) (TF (f:=84) (r:=⟨SH 3,RQ 3,R5 n 0 3,SE R (RQ 3),false⟩) (TF (f:=64) (r:=⟨SH 2,RQ 2,R5 n 0 2,SE R (RQ 2),false⟩) (TF (f:=63) (r:=⟨SH 1,RQ 1,R5 n 0 1,SE R (RQ 1),false⟩) (TF (f:=36) (r:=⟨SH 0,RQ 0,R5 n 0 0,SE R (RQ 0),false⟩) (ahl n) (aqK n)) (aqL n)) (aqM n)) (aqN n)) (aqO n)) (aqP n)|m+1=>TF (f:=65) (r:=⟨SH 5,RQ 5,R5 n (m+1) 5,SE R (RQ 5),false⟩) (TF (f:=98) (r:=⟨SH 4,RQ 4,R5 n (m+1) 4,SE R (RQ 4),false⟩) (TF (f:=84) (r:=⟨SH 3,RQ 3,R5 n (m+1) 3,SE R (RQ 3),false⟩) (TF (f:=64) (r:=⟨SH 2,RQ 2,R5 n (m+1) 2,SE R (RQ 2),false⟩) (TF (f:=63) (r:=⟨SH 1,RQ 1,R5 n (m+1) 1,SE R (RQ 1),false⟩) (TF (f:=36) (r:=⟨SH 0,RQ 0,R5 n (m+1) 0,SE R (RQ 0),false⟩) (ahl n) (aqQ n m (XO n m))) (aqR n m (XO n m))) (aqS n m (XO n m))) (aqT n m (XO n m))) (aqU n m (XO n m))) (aqV n m (XO n m))
@[irreducible] def YJ (n m:Nat)(p:Lv R.T X5):Option (Lv R.T YC):=R5 n m 0 p
@[irreducible] def Zc (p:Lv R.T X5):Option (Lv R.T YC):=YJ n n p
theorem aqW (p:Lv R.T X5)(x:Lv R.T YC)(h:Zc n p=some x):Pure E 36 (Ri R X5 p) (SA (Ri R YC x)):=by
 unfold Zc YJ at h;cases n with
 |zero=>exact absurd ((al0 0 p).symm.trans h) nofun|succ n=>exact UQ (args:=X5) (res:=YC) Ua (XO (n+1) n) RY ((alU (n+1) n p).symm.trans h) Tryz.func36 rfl rfl rfl rfl (by kernel_rfl)
@[irreducible] def adt (n m:Nat)(p:Lv R.T X6):Option (Lv R.T YD):=R5 n m 1 p
@[irreducible] def Zb (p:Lv R.T X6):Option (Lv R.T YD):=adt n n p
theorem aqX (p:Lv R.T X6)(x:Lv R.T YD)(h:Zb n p=some x):Pure E 63 (Ri R X6 p) (SA (Ri R YD x)):=by
 unfold Zb adt at h;cases n with
 |zero=>exact absurd ((al1 0 p).symm.trans h) nofun|succ n=>exact UQ (args:=X6) (res:=YD) Ua (XO (n+1) n) RY ((alV (n+1) n p).symm.trans h) Tryz.func63 rfl rfl rfl rfl (by kernel_rfl)
@[irreducible] def acw (n m:Nat)(p:Lv R.T X7):Option (Lv R.T YE):=R5 n m 2 p
@[irreducible] def Zm (p:Lv R.T X7):Option (Lv R.T YE):=acw n n p
theorem aqY (p:Lv R.T X7)(x:Lv R.T YE)(h:Zm n p=some x):Pure E 64 (Ri R X7 p) (SA (Ri R YE x)):=by
 unfold Zm acw at h;cases n with
 |zero=>exact absurd ((al2 0 p).symm.trans h) nofun|succ n=>exact UQ (args:=X7) (res:=YE) Ua (XO (n+1) n) RY ((alW (n+1) n p).symm.trans h) Tryz.func64 rfl rfl rfl rfl (by kernel_rfl)
@[irreducible] def adu (n m:Nat)(p:Lv R.T X8):Option (Lv R.T YF):=R5 n m 3 p
@[irreducible] def Zp (p:Lv R.T X8):Option (Lv R.T YF):=adu n n p
theorem aqZ (p:Lv R.T X8)(x:Lv R.T YF)(h:Zp n p=some x):Pure E 84 (Ri R X8 p) (SA (Ri R YF x)):=by
 unfold Zp adu at h;cases n with
 |zero=>exact absurd ((al3 0 p).symm.trans h) nofun|succ n=>exact UQ (args:=X8) (res:=YF) Ua (XO (n+1) n) RY ((alX (n+1) n p).symm.trans h) Tryz.func84 rfl rfl rfl rfl (by kernel_rfl)
@[irreducible] def afh (n m:Nat)(p:Lv R.T X9):Option (Lv R.T YG):=R5 n m 4 p
@[irreducible] def Zd (p:Lv R.T X9):Option (Lv R.T YG):=afh n n p
theorem aq0 (p:Lv R.T X9)(x:Lv R.T YG)(h:Zd n p=some x):Pure E 98 (Ri R X9 p) (SA (Ri R YG x)):=by
 unfold Zd afh at h;cases n with
 |zero=>exact absurd ((al4 0 p).symm.trans h) nofun|succ n=>exact UQ (args:=X9) (res:=YG) Ua (XO (n+1) n) RY ((alY (n+1) n p).symm.trans h) Tryz.func98 rfl rfl rfl rfl (by kernel_rfl)
@[irreducible] def adv (n m:Nat)(p:Lv R.T Yc):Option (Lv R.T YH):=R5 n m 5 p
@[irreducible] def Zq (p:Lv R.T Yc):Option (Lv R.T YH):=adv n n p
theorem aq1 (p:Lv R.T Yc)(x:Lv R.T YH)(h:Zq n p=some x):Pure E 65 (Ri R Yc p) (SA (Ri R YH x)):=by
 unfold Zq adv at h;cases n with
 |zero=>exact absurd ((al5 0 p).symm.trans h) nofun|succ n=>exact UQ (args:=Yc) (res:=YH) Ua (XO (n+1) n) RY ((alZ (n+1) n p).symm.trans h) Tryz.func65 rfl rfl rfl rfl (by kernel_rfl)
def g_8:RJ:=Ut 36 ⟨X5,YC,Zc n,SE R YC,false⟩ (g_7 n)
theorem aq2:Ro E (g_8 n):=TF (ahl n) (aqW n)
def g_9:RJ:=Ut 63 ⟨X6,YD,Zb n,SE R YD,false⟩ (g_8 n)
theorem aq3:Ro E (g_9 n):=TF (aq2 n) (aqX n)
def al8:RJ:=Ut 64 ⟨X7,YE,Zm n,SE R YE,false⟩ (g_9 n)
theorem aq4:Ro E (al8 n):=TF (aq3 n) (aqY n)
def al9:RJ:=Ut 84 ⟨X8,YF,Zp n,SE R YF,false⟩ (al8 n)
theorem aq5:Ro E (al9 n):=TF (aq4 n) (aqZ n)
def ama:RJ:=Ut 98 ⟨X9,YG,Zd n,SE R YG,false⟩ (al9 n)
theorem aq6:Ro E (ama n):=TF (aq5 n) (aq0 n)
def aho:RJ:=Ut 65 ⟨Yc,YH,Zq n,SE R YH,false⟩ (ama n)
theorem amb:Ro E (aho n):=TF (aq6 n) (aq1 n)
def aq7:Ru:=⟨[],[]⟩
abbrev afi:Q7:=[TH,.d (.slice (.st 3))]
abbrev adw:Q7:=[.d .bool]
@[irreducible] def ZR:Sc afi adw:=RH E R n false (aho n) Rw aq7 Tryz.f12 afi adw
theorem amc:aT 12 afi adw (ZR n):=fun _ _ h=>by unfold ZR at h;exact okF (amb n) h Tryz.func12 (by kernel_rfl)
def ahp:RJ:=Ut 12 ⟨afi,adw,ZR n,SE R adw,false⟩ (aho n)
theorem aq8:Ro E (ahp n):=TF (amb n) (amc n)
def aq9:Ru:=⟨[(2,⟨[0,1,4],[],⟨[(5,Q0)],[(4,.st 5)]⟩,[(.exit 0,⟨[],[(4,.st 5)]⟩),(.ret,⟨[],[(4,.st 5)]⟩)]⟩)],[]⟩
abbrev ahq:Q7:=[.d (.slice (.st 3)),.d .str]
abbrev ahr:Q7:=[.d (.st 5)]
@[irreducible] def Xx:Sc ahq ahr:=RH E R n false (ahp n) Rw aq9 Tryz.f37 ahq ahr
def ahs:RJ:=Sr 37 ahq ahr (Xx n) (ahp n)
theorem aht:Ro E (ahs n):=RZ (aq8 n) RY (by unfold Xx;rfl) Tryz.func37 (by kernel_rfl)
def amd:Ru:=⟨[(3,⟨[1,2],[2],⟨[(5,Q0),(6,Q0)],[]⟩,[(.exit 0,⟨[(5,Q0)],[]⟩)]⟩)],[]⟩
abbrev Yd:Q7:=[TH,.d (.slice (.st 3))]
abbrev YK:Q7:=[.d .bool]
def YL:Nat->List Sk
 |_=>Yd
def WO:Nat->List Sk
 |_=>YK
def ara:Nat->Ru
 |_=>amd
def arb:Nat->Func
 |_=>Tryz.f13
def afj (g:(i:Nat)->Lv R.T (YL i)->Option (Lv R.T (WO i))):Nat->List (FR R):=Ut 13 ⟨YL 0,WO 0,g 0,SE R (WO 0),false⟩ (ahs n)
def XP (n:Nat):Nat->(i:Nat)->Lv R.T (YL i)->Option (Lv R.T (WO i))
 |0,_,_=>none|m+1,i,p=>RH E R n false (afj n (XP n m)) Rw (ara i) (arb i) (YL i) (WO i) p
attribute [irreducible] XP
theorem ame (n m:Nat)(p:Lv R.T Yd):XP n (m+1) 0 p=RH E R n false (afj n (XP n m)) Rw amd Tryz.f13 Yd YK p:=by kernel_rfl
theorem amf (p:Lv R.T Yd):XP n 0 0 p=none:=by kernel_rfl
theorem ard (p:Lv R.T (YL 0))(x:Lv R.T (WO 0))(h:XP n 0 0 p=some x):Pure E 13 (Ri R (YL 0) p) (SA (Ri R (WO 0) x)):=absurd ((amf n p).symm.trans h) nofun
theorem arf (n m:Nat)(hk:Ro E (afj n (XP n m)))(p:Lv R.T (YL 0))(x:Lv R.T (WO 0))(h:XP n (m+1) 0 p=some x):Pure E 13 (Ri R (YL 0) p) (SA (Ri R (WO 0) x)):=
 UQ (args:=Yd) (res:=YK) Ua hk RY ((ame n m p).symm.trans h) Tryz.func13 rfl rfl rfl rfl (by kernel_rfl)
theorem amg (n:Nat):∀m,Ro E (afj n (XP n m))
 |0=>TF (f:=13) (r:=⟨YL 0,WO 0,XP n 0 0,SE R (WO 0),false⟩) (aht n) (ard n)|m+1=>TF (f:=13) (r:=⟨YL 0,WO 0,XP n (m+1) 0,SE R (WO 0),false⟩) (aht n) (arf n m (amg n m))
@[irreducible] def amh (n m:Nat)(p:Lv R.T Yd):Option (Lv R.T YK):=XP n m 0 p
@[irreducible] def Zv (p:Lv R.T Yd):Option (Lv R.T YK):=amh n n p
theorem arh (p:Lv R.T Yd)(x:Lv R.T YK)(h:Zv n p=some x):Pure E 13 (Ri R Yd p) (SA (Ri R YK x)):=by
 unfold Zv amh at h;cases n with
 |zero=>exact absurd ((amf 0 p).symm.trans h) nofun|succ n=>exact UQ (args:=Yd) (res:=YK) Ua (amg (n+1) n) RY ((ame (n+1) n p).symm.trans h) Tryz.func13 rfl rfl rfl rfl (by kernel_rfl)
def afk:RJ:=Ut 13 ⟨Yd,YK,Zv n,SE R YK,false⟩ (ahs n)
theorem ami:Ro E (afk n):=TF (aht n) (arh n)
def amj:Ru:=⟨[(3,⟨[6,7],[],⟨[(3,Q0),(8,Q0)],[]⟩,[(.exit 0,⟨[(3,Q0)],[]⟩),(.ret,⟨[(2,Q0)],[]⟩)]⟩)],[]⟩
abbrev afl:Q7:=[.d (.slice (.slice (.st 7)))]
abbrev adx:Q7:=[Q0]
@[irreducible] def ZG:Sc afl adx:=RH E R n false (afk n) Rw amj Tryz.f55 afl adx
theorem amk:aT 55 afl adx (ZG n):=fun _ _ h=>by unfold ZG at h;exact okF (ami n) h Tryz.func55 (by kernel_rfl)
def ady:RJ:=Ut 55 ⟨afl,adx,ZG n,SE R adx,false⟩ (afk n)
theorem ari:Ro E (ady n):=TF (ami n) (amk n)
end Sh
