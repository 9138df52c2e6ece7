import Derived.Test.YtgdialomgeijcaaGreatF3918
set_option linter.all false
noncomputable section
open Go Go.Proofs Aq
namespace Sh
set_option maxRecDepth 100000
abbrev Si (a r:List Sk):=Lv R.T a->Option (Lv R.T r)
abbrev Vs (a:List Sk)(o:List (Nat×Sz))(r:List Sk):=Lv R.T a->Ue R.T o->Option (Lv R.T r×Ue R.T o)
abbrev RL:=Nat->List (FR R)
abbrev Q0:Sk:=.d (.int .i64)
abbrev Tj:Sk:=.d (.st 0)
abbrev YE:Sk:=.d (.slice (.st 0))
abbrev oPz:=(1000000,Sz.arr (.st 0))
abbrev R8:=(1000000,Sz.arr (.int .i64))
abbrev Q7:=List Sk
abbrev Sm (i:Nat)(a r:List Sk)(X:Si a r)(F:RL):RL:=Uu i ⟨a,r,X,SF R r,false⟩ F
abbrev VP (i:Nat)(a:List Sk)(o:List (Nat×Sz))(r:List Sk)(X:Vs a o r)(I:IR R):IR R:=abE i ⟨a,o,r,X⟩ I
theorem RY {n:Nat}{om:Bool}{F:RL}{I:IR R}{A:Rt}{i:Nat}{fn:Func}{a r:List Sk}{X:Si a r}(hF:Ro E F)(hI:TW E I)(hX:X=RI E R n om F I A fn a r)(hf:E.P.funcs[i]? =some fn)(hok:(match fn.body with|some c=>decide (a.length<=fn.ntmps)&& aK fn.ntmps c&& gX E c|none=>false)=true)(ha:Us a=true:=by rfl)(hl:∀p,(Rj R a p).length=a.length:=by intro p;rfl)(ho:E.om i=om:=by rfl)(hs:E.Wp i=none:=by rfl):Ro E (Sm i a r X F):=TH hF fun p _ h=>UW Ub hF hI ((congrFun hX p).symm.trans h) hf ha (hl p) ho hs hok
theorem Wn {n:Nat}{om:Bool}{F:RL}{I:IR R}{A:Rt}{i:Nat}{fn:Func}{a r:List Sk}{o:List (Nat×Sz)}{X:Vs a o r}(hF:Ro E F)(hI:TW E I)(hX:X=UR E R n om F I A fn a o r)(hf:E.P.funcs[i]? =some fn)(hok:(match fn.body with|some c=>decide (a.length<=fn.ntmps)&& aK fn.ntmps c&& gX E c&&(Wt r&& XM o&& qc o)|none=>false)=true)(ho:E.om i=om:=by rfl)(hg:E.imp i=true:=by rfl):TW E (VP i a o r X I):=afa hI (fun p q _ _ h=>agx Ub hF hI ((congrFun (congrFun hX p) q).symm.trans h) hf ho hok) hg
def aT (i:Nat)(a r:List Sk)(F:Lv R.T a->Option (Lv R.T r)):Prop:=∀p x,F p=some x->Pure E i (Rj R a p) (SB (Rj R r x))
theorem okF {n:Nat}{om:Bool}{F:Nat->List (FR R)}{A:Rt}{i:Nat}{fn:Func}{a r:List Sk}{p:Lv R.T a}{x:Lv R.T r}(hF:Ro E F)(h:RI E R n om F Rw A fn a r p=some x)(hf:E.P.funcs[i]? =some fn)(hok:(match fn.body with|some c=>decide (a.length<=fn.ntmps)&& aK fn.ntmps c&& gX E c|none=>false)=true)(ha:Us a=true:=by rfl)(hl:(Rj R a p).length=a.length:=by rfl)(ho:E.om i=om:=by rfl)(hs:E.Wp i=none:=by rfl):Pure E i (Rj R a p) (SB (Rj R r x)):=UW Ub hF RZ h hf ha hl ho hs hok
variable (n:Nat)
def aqM:Rt:=⟨[],[]⟩
abbrev ag7:Q7:=[.d (.slice (.st 3)),Tj]
abbrev ag8:Q7:=[.d .bool]
@[irreducible] def Xm:Si ag7 ag8:=RI E R n false (g_0 n) Rw aqM Tryz.f62 ag7 ag8
def g_1:RL:=Sm 62 ag7 ag8 (Xm n) (g_0 n)
theorem aqN:Ro E (g_1 n):=RY (aqb n) RZ (by unfold Xm;rfl) Tryz.func62 (by kernel_rfl)
def aqO:Rt:=⟨[],[]⟩
abbrev ag9:Q7:=[.d (.st 3),.Q5 [.d .str] 0]
abbrev aha:Q7:=[.d .bool]
@[irreducible] def Xu:Si ag9 aha:=RI E R n false (g_1 n) Rw aqO Tryz.f100 ag9 aha
def g_2:RL:=Sm 100 ag9 aha (Xu n) (g_1 n)
theorem aqP:Ro E (g_2 n):=RY (aqN n) RZ (by unfold Xu;rfl) Tryz.func100 (by kernel_rfl)
def al2:Rt:=⟨[(2,⟨[0,1,7],[],⟨[(8,Q0)],[]⟩,[(.exit 0,⟨[],[]⟩),(.ret,⟨[(4,Q0)],[]⟩)]⟩)],[]⟩
abbrev ahb:Q7:=[.d (.slice (.st 3)),.fn 100 [] [.Q5 [.d .str] 0]]
abbrev ahc:Q7:=[Q0]
@[irreducible] def ZO:Si ahb ahc:=RI E R n false (g_2 n) Rw al2 Tryz.f99 ahb ahc
def g_3:RL:=Sm 99 ahb ahc (ZO n) (g_2 n)
theorem aqQ:Ro E (g_3 n):=RY (aqP n) RZ (by unfold ZO;rfl) Tryz.func99 (by kernel_rfl)
def aqR:Rt:=⟨[],[]⟩
abbrev ahe:Q7:=[.d (.slice (.st 3)),.d .str]
abbrev ahf:Q7:=[.d (.st 3),.d .bool]
@[irreducible] def ZZ:Si ahe ahf:=RI E R n false (g_3 n) Rw aqR Tryz.f85 ahe ahf
def g_4:RL:=Sm 85 ahe ahf (ZZ n) (g_3 n)
theorem aqS:Ro E (g_4 n):=RY (aqQ n) RZ (by unfold ZZ;rfl) Tryz.func85 (by kernel_rfl)
def aqT:Rt:=⟨[],[]⟩
abbrev ahh:Q7:=[.d (.slice (.st 3)),Tj]
abbrev ahi:Q7:=[.d .bool]
@[irreducible] def Xn:Si ahh ahi:=RI E R n false (g_4 n) Rw aqT Tryz.f66 ahh ahi
def g_5:RL:=Sm 66 ahh ahi (Xn n) (g_4 n)
theorem aqU:Ro E (g_5 n):=RY (aqS n) RZ (by unfold Xn;rfl) Tryz.func66 (by kernel_rfl)
def aqV:Rt:=⟨[],[]⟩
abbrev ahk:Q7:=[.d (.slice (.st 3)),Tj]
abbrev ahl:Q7:=[.d .bool]
@[irreducible] def Xo:Si ahk ahl:=RI E R n false (g_5 n) Rw aqV Tryz.f67 ahk ahl
def g_6:RL:=Sm 67 ahk ahl (Xo n) (g_5 n)
theorem aqW:Ro E (g_6 n):=RY (aqU n) RZ (by unfold Xo;rfl) Tryz.func67 (by kernel_rfl)
def aqX:Rt:=⟨[],[]⟩
abbrev ahn:Q7:=[.d (.slice (.st 3)),Tj]
abbrev aho:Q7:=[.d .bool]
@[irreducible] def Xp:Si ahn aho:=RI E R n false (g_6 n) Rw aqX Tryz.f68 ahn aho
def g_7:RL:=Sm 68 ahn aho (Xp n) (g_6 n)
theorem ahq:Ro E (g_7 n):=RY (aqW n) RZ (by unfold Xp;rfl) Tryz.func68 (by kernel_rfl)
def al3:Rt:=⟨[],[]⟩
abbrev X9:Q7:=[.d (.slice (.st 3)),Tj]
abbrev YF:Q7:=[.d .bool]
def ahr:Rt:=⟨[(2,⟨[0,8,9],[],⟨[(10,Q0)],[]⟩,[(.exit 0,⟨[],[]⟩),(.ret,⟨[(4,.d .bool)],[]⟩)]⟩)],[]⟩
abbrev Yc:Q7:=[.d (.slice (.st 3)),Tj]
abbrev YG:Q7:=[.d .bool]
def al4:Rt:=⟨[],[]⟩
abbrev Yd:Q7:=[.d (.slice (.st 3)),Tj]
abbrev YH:Q7:=[.d .bool]
def al5:Rt:=⟨[],[]⟩
abbrev Ye:Q7:=[YE,.fn 36 [.d (.slice (.st 3))] []]
abbrev YJ:Q7:=[.d .bool]
def ahs:Rt:=⟨[(2,⟨[0,1,7],[],⟨[(8,Q0)],[]⟩,[(.exit 0,⟨[],[]⟩),(.ret,⟨[(4,Q0)],[]⟩)]⟩)],[]⟩
abbrev Yf:Q7:=[YE,.fn 36 [.d (.slice (.st 3))] []]
abbrev YK:Q7:=[Q0]
def al6:Rt:=⟨[],[]⟩
abbrev Yg:Q7:=[.d (.slice (.st 3)),Tj]
abbrev YL:Q7:=[.d .bool]
def SI:Nat->List Sk
 |0=>X9|1=>Yc|2=>Yd|3=>Ye|4=>Yf|_=>Yg
def RQ:Nat->List Sk
 |0=>YF|1=>YG|2=>YH|3=>YJ|4=>YK|_=>YL
def aqY:Nat->Rt
 |0=>al3|1=>ahr|2=>al4|3=>al5|4=>ahs|_=>al6
def aqZ:Nat->Func
 |0=>Tryz.f36|1=>Tryz.f63|2=>Tryz.f64|3=>Tryz.f84|4=>Tryz.f98|_=>Tryz.f65
def VQ (g:(i:Nat)->Lv R.T (SI i)->Option (Lv R.T (RQ i))):Nat->List (FR R):=Uu 65 ⟨SI 5,RQ 5,g 5,SF R (RQ 5),false⟩ (Uu 98 ⟨SI 4,RQ 4,g 4,SF R (RQ 4),false⟩ (Uu 84 ⟨SI 3,RQ 3,g 3,SF R (RQ 3),false⟩ (Uu 64 ⟨SI 2,RQ 2,g 2,SF R (RQ 2),false⟩ (Uu 63 ⟨SI 1,RQ 1,g 1,SF R (RQ 1),false⟩ (Uu 36 ⟨SI 0,RQ 0,g 0,SF R (RQ 0),false⟩ (g_7 n))))))
def R6 (n:Nat):Nat->(i:Nat)->Lv R.T (SI i)->Option (Lv R.T (RQ i))
 |0,_,_=>none|m+1,i,p=>RI E R n false (VQ n (R6 n m)) Rw (aqY i) (aqZ i) (SI i) (RQ i) p
attribute [irreducible] R6
theorem al7 (n m:Nat)(p:Lv R.T X9):R6 n (m+1) 0 p=RI E R n false (VQ n (R6 n m)) Rw al3 Tryz.f36 X9 YF p:=by kernel_rfl
theorem al8 (n m:Nat)(p:Lv R.T Yc):R6 n (m+1) 1 p=RI E R n false (VQ n (R6 n m)) Rw ahr Tryz.f63 Yc YG p:=by kernel_rfl
theorem al9 (n m:Nat)(p:Lv R.T Yd):R6 n (m+1) 2 p=RI E R n false (VQ n (R6 n m)) Rw al4 Tryz.f64 Yd YH p:=by kernel_rfl
theorem ama (n m:Nat)(p:Lv R.T Ye):R6 n (m+1) 3 p=RI E R n false (VQ n (R6 n m)) Rw al5 Tryz.f84 Ye YJ p:=by kernel_rfl
theorem amb (n m:Nat)(p:Lv R.T Yf):R6 n (m+1) 4 p=RI E R n false (VQ n (R6 n m)) Rw ahs Tryz.f98 Yf YK p:=by kernel_rfl
theorem amc (n m:Nat)(p:Lv R.T Yg):R6 n (m+1) 5 p=RI E R n false (VQ n (R6 n m)) Rw al6 Tryz.f65 Yg YL p:=by kernel_rfl
theorem amd (p:Lv R.T X9):R6 n 0 0 p=none:=by kernel_rfl
theorem aq0 (p:Lv R.T (SI 0))(x:Lv R.T (RQ 0))(h:R6 n 0 0 p=some x):Pure E 36 (Rj R (SI 0) p) (SB (Rj R (RQ 0) x)):=absurd ((amd n p).symm.trans h) nofun
theorem ame (p:Lv R.T Yc):R6 n 0 1 p=none:=by kernel_rfl
theorem aq1 (p:Lv R.T (SI 1))(x:Lv R.T (RQ 1))(h:R6 n 0 1 p=some x):Pure E 63 (Rj R (SI 1) p) (SB (Rj R (RQ 1) x)):=absurd ((ame n p).symm.trans h) nofun
theorem amf (p:Lv R.T Yd):R6 n 0 2 p=none:=by kernel_rfl
theorem aq2 (p:Lv R.T (SI 2))(x:Lv R.T (RQ 2))(h:R6 n 0 2 p=some x):Pure E 64 (Rj R (SI 2) p) (SB (Rj R (RQ 2) x)):=absurd ((amf n p).symm.trans h) nofun
theorem amg (p:Lv R.T Ye):R6 n 0 3 p=none:=by kernel_rfl
theorem aq3 (p:Lv R.T (SI 3))(x:Lv R.T (RQ 3))(h:R6 n 0 3 p=some x):Pure E 84 (Rj R (SI 3) p) (SB (Rj R (RQ 3) x)):=absurd ((amg n p).symm.trans h) nofun
theorem amh (p:Lv R.T Yf):R6 n 0 4 p=none:=by kernel_rfl
theorem aq4 (p:Lv R.T (SI 4))(x:Lv R.T (RQ 4))(h:R6 n 0 4 p=some x):Pure E 98 (Rj R (SI 4) p) (SB (Rj R (RQ 4) x)):=absurd ((amh n p).symm.trans h) nofun
theorem ami (p:Lv R.T Yg):R6 n 0 5 p=none:=by kernel_rfl
theorem aq5 (p:Lv R.T (SI 5))(x:Lv R.T (RQ 5))(h:R6 n 0 5 p=some x):Pure E 65 (Rj R (SI 5) p) (SB (Rj R (RQ 5) x)):=absurd ((ami n p).symm.trans h) nofun
theorem aq6 (n m:Nat)(hk:Ro E (VQ n (R6 n m)))(p:Lv R.T (SI 0))(x:Lv R.T (RQ 0))(h:R6 n (m+1) 0 p=some x):Pure E 36 (Rj R (SI 0) p) (SB (Rj R (RQ 0) x)):=
 UW (args:=X9) (res:=YF) Ub hk RZ ((al7 n m p).symm.trans h) Tryz.func36 rfl rfl rfl rfl (by kernel_rfl)
theorem aq7 (n m:Nat)(hk:Ro E (VQ n (R6 n m)))(p:Lv R.T (SI 1))(x:Lv R.T (RQ 1))(h:R6 n (m+1) 1 p=some x):Pure E 63 (Rj R (SI 1) p) (SB (Rj R (RQ 1) x)):=
 UW (args:=Yc) (res:=YG) Ub hk RZ ((al8 n m p).symm.trans h) Tryz.func63 rfl rfl rfl rfl (by kernel_rfl)
theorem aq8 (n m:Nat)(hk:Ro E (VQ n (R6 n m)))(p:Lv R.T (SI 2))(x:Lv R.T (RQ 2))(h:R6 n (m+1) 2 p=some x):Pure E 64 (Rj R (SI 2) p) (SB (Rj R (RQ 2) x)):=
 UW (args:=Yd) (res:=YH) Ub hk RZ ((al9 n m p).symm.trans h) Tryz.func64 rfl rfl rfl rfl (by kernel_rfl)
theorem aq9 (n m:Nat)(hk:Ro E (VQ n (R6 n m)))(p:Lv R.T (SI 3))(x:Lv R.T (RQ 3))(h:R6 n (m+1) 3 p=some x):Pure E 84 (Rj R (SI 3) p) (SB (Rj R (RQ 3) x)):=
 UW (args:=Ye) (res:=YJ) Ub hk RZ ((ama n m p).symm.trans h) Tryz.func84 rfl rfl rfl rfl (by kernel_rfl)
theorem ara (n m:Nat)(hk:Ro E (VQ n (R6 n m)))(p:Lv R.T (SI 4))(x:Lv R.T (RQ 4))(h:R6 n (m+1) 4 p=some x):Pure E 98 (Rj R (SI 4) p) (SB (Rj R (RQ 4) x)):=
 UW (args:=Yf) (res:=YK) Ub hk RZ ((amb n m p).symm.trans h) Tryz.func98 rfl rfl rfl rfl (by kernel_rfl)
theorem arb (n m:Nat)(hk:Ro E (VQ n (R6 n m)))(p:Lv R.T (SI 5))(x:Lv R.T (RQ 5))(h:R6 n (m+1) 5 p=some x):Pure E 65 (Rj R (SI 5) p) (SB (Rj R (RQ 5) x)):=
 UW (args:=Yg) (res:=YL) Ub hk RZ ((amc n m p).symm.trans h) Tryz.func65 rfl rfl rfl rfl (by kernel_rfl)
theorem XT (n:Nat):∀m,Ro E (VQ n (R6 n m))
 |0=>TH (f:=65) (r:=⟨SI 5,RQ 5,R6 n 0 5,SF R (RQ 5),false⟩) (TH (f:=98) (r:=⟨SI 4,RQ 4,R6 n 0 4,SF R (RQ 4),false⟩) (TH (f:=84) (r:=⟨SI 3,RQ 3,R6 n 0 3,SF R (RQ 3),false⟩) (TH (f:=64) (r:=⟨SI 2,RQ 2,R6 n 0 2,SF R (RQ 2),false⟩) (TH (f:=63) (r:=⟨SI 1,RQ 1,R6 n 0 1,SF R (RQ 1),false⟩) (TH (f:=36) (r:=⟨SI 0,RQ 0,R6 n 0 0,SF R (RQ 0),false⟩) (ahq n) (aq0 n)) (aq1 n)) (aq2 n)) (aq3 n)) (aq4 n)) (aq5 n)|m+1=>TH (f:=65) (r:=⟨SI 5,RQ 5,R6 n (m+1) 5,SF R (RQ 5),false⟩) (TH (f:=98) (r:=⟨SI 4,RQ 4,R6 n (m+1) 4,SF R (RQ 4),false⟩) (TH (f:=84) (r:=⟨SI 3,RQ 3,R6 n (m+1) 3,SF R (RQ 3),false⟩) (TH (f:=64) (r:=⟨SI 2,RQ 2,R6 n (m+1) 2,SF R (RQ 2),false⟩) (TH (f:=63) (r:=⟨SI 1,RQ 1,R6 n (m+1) 1,SF R (RQ 1),false⟩) (TH (f:=36) (r:=⟨SI 0,RQ 0,R6 n (m+1) 0,SF R (RQ 0),false⟩) (ahq n) (aq6 n m (XT n m))) (aq7 n m (XT n m))) (aq8 n m (XT n m))) (aq9 n m (XT n m))) (ara n m (XT n m))) (arb n m (XT n m))
@[irreducible] def YM (n m:Nat)(p:Lv R.T X9):Option (Lv R.T YF):=R6 n m 0 p
@[irreducible] def Zc (p:Lv R.T X9):Option (Lv R.T YF):=YM n n p
theorem ard (p:Lv R.T X9)(x:Lv R.T YF)(h:Zc n p=some x):Pure E 36 (Rj R X9 p) (SB (Rj R YF x)):=by
 unfold Zc YM at h;cases n with
 |zero=>exact absurd ((amd 0 p).symm.trans h) nofun|succ n=>exact UW (args:=X9) (res:=YF) Ub (XT (n+1) n) RZ ((al7 (n+1) n p).symm.trans h) Tryz.func36 rfl rfl rfl rfl (by kernel_rfl)
@[irreducible] def adw (n m:Nat)(p:Lv R.T Yc):Option (Lv R.T YG):=R6 n m 1 p
@[irreducible] def Zb (p:Lv R.T Yc):Option (Lv R.T YG):=adw n n p
theorem arf (p:Lv R.T Yc)(x:Lv R.T YG)(h:Zb n p=some x):Pure E 63 (Rj R Yc p) (SB (Rj R YG x)):=by
 unfold Zb adw at h;cases n with
 |zero=>exact absurd ((ame 0 p).symm.trans h) nofun|succ n=>exact UW (args:=Yc) (res:=YG) Ub (XT (n+1) n) RZ ((al8 (n+1) n p).symm.trans h) Tryz.func63 rfl rfl rfl rfl (by kernel_rfl)
@[irreducible] def acB (n m:Nat)(p:Lv R.T Yd):Option (Lv R.T YH):=R6 n m 2 p
@[irreducible] def Zn (p:Lv R.T Yd):Option (Lv R.T YH):=acB n n p
theorem arh (p:Lv R.T Yd)(x:Lv R.T YH)(h:Zn n p=some x):Pure E 64 (Rj R Yd p) (SB (Rj R YH x)):=by
 unfold Zn acB at h;cases n with
 |zero=>exact absurd ((amf 0 p).symm.trans h) nofun|succ n=>exact UW (args:=Yd) (res:=YH) Ub (XT (n+1) n) RZ ((al9 (n+1) n p).symm.trans h) Tryz.func64 rfl rfl rfl rfl (by kernel_rfl)
@[irreducible] def adx (n m:Nat)(p:Lv R.T Ye):Option (Lv R.T YJ):=R6 n m 3 p
@[irreducible] def Zq (p:Lv R.T Ye):Option (Lv R.T YJ):=adx n n p
theorem ari (p:Lv R.T Ye)(x:Lv R.T YJ)(h:Zq n p=some x):Pure E 84 (Rj R Ye p) (SB (Rj R YJ x)):=by
 unfold Zq adx at h;cases n with
 |zero=>exact absurd ((amg 0 p).symm.trans h) nofun|succ n=>exact UW (args:=Ye) (res:=YJ) Ub (XT (n+1) n) RZ ((ama (n+1) n p).symm.trans h) Tryz.func84 rfl rfl rfl rfl (by kernel_rfl)
@[irreducible] def afl (n m:Nat)(p:Lv R.T Yf):Option (Lv R.T YK):=R6 n m 4 p
@[irreducible] def Zd (p:Lv R.T Yf):Option (Lv R.T YK):=afl n n p
theorem arj (p:Lv R.T Yf)(x:Lv R.T YK)(h:Zd n p=some x):Pure E 98 (Rj R Yf p) (SB (Rj R YK x)):=by
 unfold Zd afl at h;cases n with
 |zero=>exact absurd ((amh 0 p).symm.trans h) nofun|succ n=>exact UW (args:=Yf) (res:=YK) Ub (XT (n+1) n) RZ ((amb (n+1) n p).symm.trans h) Tryz.func98 rfl rfl rfl rfl (by kernel_rfl)
@[irreducible] def ady (n m:Nat)(p:Lv R.T Yg):Option (Lv R.T YL):=R6 n m 5 p
@[irreducible] def Zr (p:Lv R.T Yg):Option (Lv R.T YL):=ady n n p
theorem ark (p:Lv R.T Yg)(x:Lv R.T YL)(h:Zr n p=some x):Pure E 65 (Rj R Yg p) (SB (Rj R YL x)):=by
 unfold Zr ady at h;cases n with
 |zero=>exact absurd ((ami 0 p).symm.trans h) nofun|succ n=>exact UW (args:=Yg) (res:=YL) Ub (XT (n+1) n) RZ ((amc (n+1) n p).symm.trans h) Tryz.func65 rfl rfl rfl rfl (by kernel_rfl)
def g_8:RL:=Uu 36 ⟨X9,YF,Zc n,SF R YF,false⟩ (g_7 n)
theorem arl:Ro E (g_8 n):=TH (ahq n) (ard n)
def g_9:RL:=Uu 63 ⟨Yc,YG,Zb n,SF R YG,false⟩ (g_8 n)
theorem arn:Ro E (g_9 n):=TH (arl n) (arf n)
def aml:RL:=Uu 64 ⟨Yd,YH,Zn n,SF R YH,false⟩ (g_9 n)
theorem aro:Ro E (aml n):=TH (arn n) (arh n)
def amm:RL:=Uu 84 ⟨Ye,YJ,Zq n,SF R YJ,false⟩ (aml n)
theorem arp:Ro E (amm n):=TH (aro n) (ari n)
def amn:RL:=Uu 98 ⟨Yf,YK,Zd n,SF R YK,false⟩ (amm n)
theorem arq:Ro E (amn n):=TH (arp n) (arj n)
def aht:RL:=Uu 65 ⟨Yg,YL,Zr n,SF R YL,false⟩ (amn n)
theorem amo:Ro E (aht n):=TH (arq n) (ark n)
def ars:Rt:=⟨[],[]⟩
abbrev afm:Q7:=[Tj,.d (.slice (.st 3))]
abbrev adz:Q7:=[.d .bool]
@[irreducible] def ZD:Si afm adz:=RI E R n false (aht n) Rw ars Tryz.f12 afm adz
theorem amq:aT 12 afm adz (ZD n):=fun _ _ h=>by unfold ZD at h;exact okF (amo n) h Tryz.func12 (by kernel_rfl)
def ahu:RL:=Uu 12 ⟨afm,adz,ZD n,SF R adz,false⟩ (aht n)
theorem aru:Ro E (ahu n):=TH (amo n) (amq n)
def arv:Rt:=⟨[(2,⟨[0,1,4],[],⟨[(5,Q0)],[(4,.st 5)]⟩,[(.exit 0,⟨[],[(4,.st 5)]⟩),(.ret,⟨[],[(4,.st 5)]⟩)]⟩)],[]⟩
abbrev ahv:Q7:=[.d (.slice (.st 3)),.d .str]
abbrev ahw:Q7:=[.d (.st 5)]
@[irreducible] def Xz:Si ahv ahw:=RI E R n false (ahu n) Rw arv Tryz.f37 ahv ahw
def ahx:RL:=Sm 37 ahv ahw (Xz n) (ahu n)
theorem ahy:Ro E (ahx n):=RY (aru n) RZ (by unfold Xz;rfl) Tryz.func37 (by kernel_rfl)
def amr:Rt:=⟨[(3,⟨[1,2],[2],⟨[(5,Q0),(6,Q0)],[]⟩,[(.exit 0,⟨[(5,Q0)],[]⟩)]⟩)],[]⟩
abbrev Yh:Q7:=[Tj,.d (.slice (.st 3))]
abbrev YP:Q7:=[.d .bool]
def YQ:Nat->List Sk
 |_=>Yh
def WQ:Nat->List Sk
 |_=>YP
def arw:Nat->Rt
 |_=>amr
def arx:Nat->Func
 |_=>Tryz.f13
def afn (g:(i:Nat)->Lv R.T (YQ i)->Option (Lv R.T (WQ i))):Nat->List (FR R):=Uu 13 ⟨YQ 0,WQ 0,g 0,SF R (WQ 0),false⟩ (ahx n)
def XU (n:Nat):Nat->(i:Nat)->Lv R.T (YQ i)->Option (Lv R.T (WQ i))
 |0,_,_=>none|m+1,i,p=>RI E R n false (afn n (XU n m)) Rw (arw i) (arx i) (YQ i) (WQ i) p
attribute [irreducible] XU
theorem ams (n m:Nat)(p:Lv R.T Yh):XU n (m+1) 0 p=RI E R n false (afn n (XU n m)) Rw amr Tryz.f13 Yh YP p:=by kernel_rfl
theorem amt (p:Lv R.T Yh):XU n 0 0 p=none:=by kernel_rfl
theorem arz (p:Lv R.T (YQ 0))(x:Lv R.T (WQ 0))(h:XU n 0 0 p=some x):Pure E 13 (Rj R (YQ 0) p) (SB (Rj R (WQ 0) x)):=absurd ((amt n p).symm.trans h) nofun
theorem arA (n m:Nat)(hk:Ro E (afn n (XU n m)))(p:Lv R.T (YQ 0))(x:Lv R.T (WQ 0))(h:XU n (m+1) 0 p=some x):Pure E 13 (Rj R (YQ 0) p) (SB (Rj R (WQ 0) x)):=
 UW (args:=Yh) (res:=YP) Ub hk RZ ((ams n m p).symm.trans h) Tryz.func13 rfl rfl rfl rfl (by kernel_rfl)
theorem amu (n:Nat):∀m,Ro E (afn n (XU n m))
 |0=>TH (f:=13) (r:=⟨YQ 0,WQ 0,XU n 0 0,SF R (WQ 0),false⟩) (ahy n) (arz n)|m+1=>TH (f:=13) (r:=⟨YQ 0,WQ 0,XU n (m+1) 0,SF R (WQ 0),false⟩) (ahy n) (arA n m (amu n m))
@[irreducible] def amv (n m:Nat)(p:Lv R.T Yh):Option (Lv R.T YP):=XU n m 0 p
@[irreducible] def Zv (p:Lv R.T Yh):Option (Lv R.T YP):=amv n n p
theorem arB (p:Lv R.T Yh)(x:Lv R.T YP)(h:Zv n p=some x):Pure E 13 (Rj R Yh p) (SB (Rj R YP x)):=by
 unfold Zv amv at h;cases n with
 |zero=>exact absurd ((amt 0 p).symm.trans h) nofun|succ n=>exact UW (args:=Yh) (res:=YP) Ub (amu (n+1) n) RZ ((ams (n+1) n p).symm.trans h) Tryz.func13 rfl rfl rfl rfl (by kernel_rfl)
def afo:RL:=Uu 13 ⟨Yh,YP,Zv n,SF R YP,false⟩ (ahx n)
theorem amw:Ro E (afo n):=TH (ahy n) (arB n)
def amx:Rt:=⟨[(3,⟨[6,7],[],⟨[(3,Q0),(8,Q0)],[]⟩,[(.exit 0,⟨[(3,Q0)],[]⟩),(.ret,⟨[(2,Q0)],[]⟩)]⟩)],[]⟩
abbrev afp:Q7:=[.d (.slice (.slice (.st 7)))]
abbrev adA:Q7:=[Q0]
@[irreducible] def ZI:Si afp adA:=RI E R n false (afo n) Rw amx Tryz.f55 afp adA
theorem amy:aT 55 afp adA (ZI n):=fun _ _ h=>by unfold ZI at h;exact okF (amw n) h Tryz.func55 (by kernel_rfl)
def adB:RL:=Uu 55 ⟨afp,adA,ZI n,SF R adA,false⟩ (afo n)
theorem arC:Ro E (adB n):=TH (amw n) (amy n)
end Sh
