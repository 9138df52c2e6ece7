import Derived.Test.YtgdialomgeijcaaGreatF3618
set_option linter.all false
noncomputable section
open Go Go.Proofs Aq
namespace Sh
set_option maxRecDepth 100000
abbrev R5 (a r:List Sk):=FN R.T a->Option (FN R.T r)
abbrev Vq (a:List Sk)(o:List (Nat×SC))(r:List Sk):=FN R.T a->Ud R.T o->Option (FN R.T r×Ud R.T o)
abbrev RG:=Nat->List (FR R)
abbrev Q0:Sk:=.d (.int .i64)
abbrev SL:Sk:=.d (.st 0)
abbrev YF:Sk:=.d (.slice (.st 0))
abbrev oPz:=(1000000,SC.arr (.st 0))
abbrev Si:=(1000000,SC.arr (.int .i64))
abbrev Q6:=List Sk
abbrev Sj (i:Nat)(a r:List Sk)(X:R5 a r)(F:RG):RG:=Uh i ⟨a,r,X,Sz R r,false⟩ F
abbrev VO (i:Nat)(a:List Sk)(o:List (Nat×SC))(r:List Sk)(X:Vq a o r)(I:IR R):IR R:=abK i ⟨a,o,r,X⟩ I
theorem RN {n:Nat}{om:Bool}{F:RG}{I:IR R}{A:Rs}{i:Nat}{fn:Func}{a r:List Sk}{X:R5 a r}(hF:Rq E F)(hI:Ua E I)(hX:X=Rz E R n om F I A fn a r)(hf:E.P.funcs[i]? =some fn)(hok:(match fn.body with|some c=>decide (a.length<=fn.ntmps)&& aK fn.ntmps c&& gX E c|none=>false)=true)(ha:Uq a=true:=by rfl)(hl:∀p,(Ri R a p).length=a.length:=by intro p;rfl)(ho:E.om i=om:=by rfl)(hs:E.Wi i=none:=by rfl):Rq E (Sj i a r X F):=Tv hF fun p _ h=>Uz TR hF hI ((congrFun hX p).symm.trans h) hf ha (hl p) ho hs hok
theorem Wd {n:Nat}{om:Bool}{F:RG}{I:IR R}{A:Rs}{i:Nat}{fn:Func}{a r:List Sk}{o:List (Nat×SC)}{X:Vq a o r}(hF:Rq E F)(hI:Ua E I)(hX:X=UQ E R n om F I A fn a o r)(hf:E.P.funcs[i]? =some fn)(hok:(match fn.body with|some c=>decide (a.length<=fn.ntmps)&& aK fn.ntmps c&& gX E c&&(Wn r&& XO o&& qc o)|none=>false)=true)(ho:E.om i=om:=by rfl)(hg:E.imp i=true:=by rfl):Ua E (VO i a o r X I):=afk hI (fun p q _ _ h=>agF TR hF hI ((congrFun (congrFun hX p) q).symm.trans h) hf ho hok) hg
def bf (i:Nat)(a r:List Sk)(F:FN R.T a->Option (FN R.T r)):Prop:=∀p x,F p=some x->Pure E i (Ri R a p) (Sy (Ri R r x))
theorem okF {n:Nat}{om:Bool}{F:Nat->List (FR R)}{A:Rs}{i:Nat}{fn:Func}{a r:List Sk}{p:FN R.T a}{x:FN R.T r}(hF:Rq E F)(h:Rz E R n om F Rx A fn a r p=some x)(hf:E.P.funcs[i]? =some fn)(hok:(match fn.body with|some c=>decide (a.length<=fn.ntmps)&& aK fn.ntmps c&& gX E c|none=>false)=true)(ha:Uq a=true:=by rfl)(hl:(Ri R a p).length=a.length:=by rfl)(ho:E.om i=om:=by rfl)(hs:E.Wi i=none:=by rfl):Pure E i (Ri R a p) (Sy (Ri R r x)):=Uz TR hF Sb h hf ha hl ho hs hok
variable (n:Nat)
def aq5:Rs:=⟨[],[]⟩
abbrev ahf:Q6:=[.d (.slice (.st 3)),SL]
abbrev ahg:Q6:=[.d .bool]
@[irreducible] def Xq:R5 ahf ahg:=Rz E R n false (g_0 n) Rx aq5 Tryz.f62 ahf ahg
def g_1:RG:=Sj 62 ahf ahg (Xq n) (g_0 n)
theorem aq6:Rq E (g_1 n):=RN (aqv n) Sb (by unfold Xq;rfl) Tryz.func62 (by kernel_rfl)
def aq7:Rs:=⟨[],[]⟩
abbrev ahh:Q6:=[.d (.st 3),.Q5 [.d .str] 0]
abbrev ahi:Q6:=[.d .bool]
@[irreducible] def Xx:R5 ahh ahi:=Rz E R n false (g_1 n) Rx aq7 Tryz.f100 ahh ahi
def g_2:RG:=Sj 100 ahh ahi (Xx n) (g_1 n)
theorem aq8:Rq E (g_2 n):=RN (aq6 n) Sb (by unfold Xx;rfl) Tryz.func100 (by kernel_rfl)
def aml:Rs:=⟨[(2,⟨[0,1,7],[],⟨[(8,Q0)],[]⟩,[(.exit 0,⟨[],[]⟩),(.ret,⟨[(4,Q0)],[]⟩)]⟩)],[]⟩
abbrev ahj:Q6:=[.d (.slice (.st 3)),.fn 100 [] [.Q5 [.d .str] 0]]
abbrev ahk:Q6:=[Q0]
@[irreducible] def ZO:R5 ahj ahk:=Rz E R n false (g_2 n) Rx aml Tryz.f99 ahj ahk
def g_3:RG:=Sj 99 ahj ahk (ZO n) (g_2 n)
theorem aq9:Rq E (g_3 n):=RN (aq8 n) Sb (by unfold ZO;rfl) Tryz.func99 (by kernel_rfl)
def ara:Rs:=⟨[],[]⟩
abbrev ahm:Q6:=[.d (.slice (.st 3)),.d .str]
abbrev ahn:Q6:=[.d (.st 3),.d .bool]
@[irreducible] def ZZ:R5 ahm ahn:=Rz E R n false (g_3 n) Rx ara Tryz.f85 ahm ahn
def g_4:RG:=Sj 85 ahm ahn (ZZ n) (g_3 n)
theorem arb:Rq E (g_4 n):=RN (aq9 n) Sb (by unfold ZZ;rfl) Tryz.func85 (by kernel_rfl)
def ard:Rs:=⟨[],[]⟩
abbrev ahp:Q6:=[.d (.slice (.st 3)),SL]
abbrev ahq:Q6:=[.d .bool]
@[irreducible] def Xr:R5 ahp ahq:=Rz E R n false (g_4 n) Rx ard Tryz.f66 ahp ahq
def g_5:RG:=Sj 66 ahp ahq (Xr n) (g_4 n)
theorem arf:Rq E (g_5 n):=RN (arb n) Sb (by unfold Xr;rfl) Tryz.func66 (by kernel_rfl)
def arh:Rs:=⟨[],[]⟩
abbrev ahs:Q6:=[.d (.slice (.st 3)),SL]
abbrev aht:Q6:=[.d .bool]
@[irreducible] def Xs:R5 ahs aht:=Rz E R n false (g_5 n) Rx arh Tryz.f67 ahs aht
def g_6:RG:=Sj 67 ahs aht (Xs n) (g_5 n)
theorem ari:Rq E (g_6 n):=RN (arf n) Sb (by unfold Xs;rfl) Tryz.func67 (by kernel_rfl)
def arj:Rs:=⟨[],[]⟩
abbrev ahv:Q6:=[.d (.slice (.st 3)),SL]
abbrev ahw:Q6:=[.d .bool]
@[irreducible] def Xt:R5 ahv ahw:=Rz E R n false (g_6 n) Rx arj Tryz.f68 ahv ahw
def g_7:RG:=Sj 68 ahv ahw (Xt n) (g_6 n)
theorem ahy:Rq E (g_7 n):=RN (ari n) Sb (by unfold Xt;rfl) Tryz.func68 (by kernel_rfl)
def amm:Rs:=⟨[],[]⟩
abbrev X9:Q6:=[.d (.slice (.st 3)),SL]
abbrev YG:Q6:=[.d .bool]
def ahz:Rs:=⟨[(2,⟨[0,8,9],[],⟨[(10,Q0)],[]⟩,[(.exit 0,⟨[],[]⟩),(.ret,⟨[(4,.d .bool)],[]⟩)]⟩)],[]⟩
abbrev Yc:Q6:=[.d (.slice (.st 3)),SL]
abbrev YH:Q6:=[.d .bool]
def amn:Rs:=⟨[],[]⟩
abbrev Yd:Q6:=[.d (.slice (.st 3)),SL]
abbrev YJ:Q6:=[.d .bool]
def amo:Rs:=⟨[],[]⟩
abbrev Ye:Q6:=[YF,.fn 36 [.d (.slice (.st 3))] []]
abbrev YK:Q6:=[.d .bool]
def ahA:Rs:=⟨[(2,⟨[0,1,7],[],⟨[(8,Q0)],[]⟩,[(.exit 0,⟨[],[]⟩),(.ret,⟨[(4,Q0)],[]⟩)]⟩)],[]⟩
abbrev Yf:Q6:=[YF,.fn 36 [.d (.slice (.st 3))] []]
abbrev YL:Q6:=[Q0]
def amq:Rs:=⟨[],[]⟩
abbrev Yg:Q6:=[.d (.slice (.st 3)),SL]
abbrev YM:Q6:=[.d .bool]
def SN:Nat->List Sk
 |0=>X9|1=>Yc|2=>Yd|3=>Ye|4=>Yf|_=>Yg
def RU:Nat->List Sk
 |0=>YG|1=>YH|2=>YJ|3=>YK|4=>YL|_=>YM
def ark:Nat->Rs
 |0=>amm|1=>ahz|2=>amn|3=>amo|4=>ahA|_=>amq
def arl:Nat->Func
 |0=>Tryz.f36|1=>Tryz.f63|2=>Tryz.f64|3=>Tryz.f84|4=>Tryz.f98|_=>Tryz.f65
def VP (g:(i:Nat)->FN R.T (SN i)->Option (FN R.T (RU i))):Nat->List (FR R):=Uh 65 ⟨SN 5,RU 5,g 5,Sz R (RU 5),false⟩ (Uh 98 ⟨SN 4,RU 4,g 4,Sz R (RU 4),false⟩ (Uh 84 ⟨SN 3,RU 3,g 3,Sz R (RU 3),false⟩ (Uh 64 ⟨SN 2,RU 2,g 2,Sz R (RU 2),false⟩ (Uh 63 ⟨SN 1,RU 1,g 1,Sz R (RU 1),false⟩ (Uh 36 ⟨SN 0,RU 0,g 0,Sz R (RU 0),false⟩ (g_7 n))))))
def R6 (n:Nat):Nat->(i:Nat)->FN R.T (SN i)->Option (FN R.T (RU i))
 |0,_,_=>none|m+1,i,p=>Rz E R n false (VP n (R6 n m)) Rx (ark i) (arl i) (SN i) (RU i) p
attribute [irreducible] R6
theorem amr (n m:Nat)(p:FN R.T X9):R6 n (m+1) 0 p=Rz E R n false (VP n (R6 n m)) Rx amm Tryz.f36 X9 YG p:=by kernel_rfl
theorem ams (n m:Nat)(p:FN R.T Yc):R6 n (m+1) 1 p=Rz E R n false (VP n (R6 n m)) Rx ahz Tryz.f63 Yc YH p:=by kernel_rfl
theorem amt (n m:Nat)(p:FN R.T Yd):R6 n (m+1) 2 p=Rz E R n false (VP n (R6 n m)) Rx amn Tryz.f64 Yd YJ p:=by kernel_rfl
theorem amu (n m:Nat)(p:FN R.T Ye):R6 n (m+1) 3 p=Rz E R n false (VP n (R6 n m)) Rx amo Tryz.f84 Ye YK p:=by kernel_rfl
theorem amv (n m:Nat)(p:FN R.T Yf):R6 n (m+1) 4 p=Rz E R n false (VP n (R6 n m)) Rx ahA Tryz.f98 Yf YL p:=by kernel_rfl
theorem amw (n m:Nat)(p:FN R.T Yg):R6 n (m+1) 5 p=Rz E R n false (VP n (R6 n m)) Rx amq Tryz.f65 Yg YM p:=by kernel_rfl
theorem amx (p:FN R.T X9):R6 n 0 0 p=none:=by kernel_rfl
theorem arn (p:FN R.T (SN 0))(x:FN R.T (RU 0))(h:R6 n 0 0 p=some x):Pure E 36 (Ri R (SN 0) p) (Sy (Ri R (RU 0) x)):=absurd ((amx n p).symm.trans h) nofun
theorem amy (p:FN R.T Yc):R6 n 0 1 p=none:=by kernel_rfl
theorem aro (p:FN R.T (SN 1))(x:FN R.T (RU 1))(h:R6 n 0 1 p=some x):Pure E 63 (Ri R (SN 1) p) (Sy (Ri R (RU 1) x)):=absurd ((amy n p).symm.trans h) nofun
theorem amA (p:FN R.T Yd):R6 n 0 2 p=none:=by kernel_rfl
theorem arp (p:FN R.T (SN 2))(x:FN R.T (RU 2))(h:R6 n 0 2 p=some x):Pure E 64 (Ri R (SN 2) p) (Sy (Ri R (RU 2) x)):=absurd ((amA n p).symm.trans h) nofun
theorem amB (p:FN R.T Ye):R6 n 0 3 p=none:=by kernel_rfl
theorem arq (p:FN R.T (SN 3))(x:FN R.T (RU 3))(h:R6 n 0 3 p=some x):Pure E 84 (Ri R (SN 3) p) (Sy (Ri R (RU 3) x)):=absurd ((amB n p).symm.trans h) nofun
theorem amC (p:FN R.T Yf):R6 n 0 4 p=none:=by kernel_rfl
theorem ars (p:FN R.T (SN 4))(x:FN R.T (RU 4))(h:R6 n 0 4 p=some x):Pure E 98 (Ri R (SN 4) p) (Sy (Ri R (RU 4) x)):=absurd ((amC n p).symm.trans h) nofun
theorem amD (p:FN R.T Yg):R6 n 0 5 p=none:=by kernel_rfl
theorem aru (p:FN R.T (SN 5))(x:FN R.T (RU 5))(h:R6 n 0 5 p=some x):Pure E 65 (Ri R (SN 5) p) (Sy (Ri R (RU 5) x)):=absurd ((amD n p).symm.trans h) nofun
theorem arv (n m:Nat)(hk:Rq E (VP n (R6 n m)))(p:FN R.T (SN 0))(x:FN R.T (RU 0))(h:R6 n (m+1) 0 p=some x):Pure E 36 (Ri R (SN 0) p) (Sy (Ri R (RU 0) x)):=
 Uz (args:=X9) (res:=YG) TR hk Sb ((amr n m p).symm.trans h) Tryz.func36 rfl rfl rfl rfl (by kernel_rfl)
theorem arw (n m:Nat)(hk:Rq E (VP n (R6 n m)))(p:FN R.T (SN 1))(x:FN R.T (RU 1))(h:R6 n (m+1) 1 p=some x):Pure E 63 (Ri R (SN 1) p) (Sy (Ri R (RU 1) x)):=
 Uz (args:=Yc) (res:=YH) TR hk Sb ((ams n m p).symm.trans h) Tryz.func63 rfl rfl rfl rfl (by kernel_rfl)
theorem arx (n m:Nat)(hk:Rq E (VP n (R6 n m)))(p:FN R.T (SN 2))(x:FN R.T (RU 2))(h:R6 n (m+1) 2 p=some x):Pure E 64 (Ri R (SN 2) p) (Sy (Ri R (RU 2) x)):=
 Uz (args:=Yd) (res:=YJ) TR hk Sb ((amt n m p).symm.trans h) Tryz.func64 rfl rfl rfl rfl (by kernel_rfl)
theorem arz (n m:Nat)(hk:Rq E (VP n (R6 n m)))(p:FN R.T (SN 3))(x:FN R.T (RU 3))(h:R6 n (m+1) 3 p=some x):Pure E 84 (Ri R (SN 3) p) (Sy (Ri R (RU 3) x)):=
 Uz (args:=Ye) (res:=YK) TR hk Sb ((amu n m p).symm.trans h) Tryz.func84 rfl rfl rfl rfl (by kernel_rfl)
theorem arA (n m:Nat)(hk:Rq E (VP n (R6 n m)))(p:FN R.T (SN 4))(x:FN R.T (RU 4))(h:R6 n (m+1) 4 p=some x):Pure E 98 (Ri R (SN 4) p) (Sy (Ri R (RU 4) x)):=
 Uz (args:=Yf) (res:=YL) TR hk Sb ((amv n m p).symm.trans h) Tryz.func98 rfl rfl rfl rfl (by kernel_rfl)
theorem arB (n m:Nat)(hk:Rq E (VP n (R6 n m)))(p:FN R.T (SN 5))(x:FN R.T (RU 5))(h:R6 n (m+1) 5 p=some x):Pure E 65 (Ri R (SN 5) p) (Sy (Ri R (RU 5) x)):=
 Uz (args:=Yg) (res:=YM) TR hk Sb ((amw n m p).symm.trans h) Tryz.func65 rfl rfl rfl rfl (by kernel_rfl)
theorem XU (n:Nat):∀m,Rq E (VP n (R6 n m))
 |0=>Tv (f:=65) (r:=⟨SN 5,RU 5,R6 n 0 5,Sz R (RU 5),false⟩) (Tv (f:=98) (r:=⟨SN 4,RU 4,R6 n 0 4,Sz R (RU 4),false⟩) (Tv (f:=84) (r:=⟨SN 3,RU 3,R6 n 0 3,Sz R (RU 3),false⟩) (Tv (f:=64) (r:=⟨SN 2,RU 2,R6 n 0 2,Sz R (RU 2),false⟩) (Tv (f:=63) (r:=⟨SN 1,RU 1,R6 n 0 1,Sz R (RU 1),false⟩) (Tv (f:=36) (r:=⟨SN 0,RU 0,R6 n 0 0,Sz R (RU 0),false⟩) (ahy n) (arn n)) (aro n)) (arp n)) (arq n)) (ars n)) (aru n)|m+1=>Tv (f:=65) (r:=⟨SN 5,RU 5,R6 n (m+1) 5,Sz R (RU 5),false⟩) (Tv (f:=98) (r:=⟨SN 4,RU 4,R6 n (m+1) 4,Sz R (RU 4),false⟩) (Tv (f:=84) (r:=⟨SN 3,RU 3,R6 n (m+1) 3,Sz R (RU 3),false⟩) (Tv (f:=64) (r:=⟨SN 2,RU 2,R6 n (m+1) 2,Sz R (RU 2),false⟩) (Tv (f:=63) (r:=⟨SN 1,RU 1,R6 n (m+1) 1,Sz R (RU 1),false⟩) (Tv (f:=36) (r:=⟨SN 0,RU 0,R6 n (m+1) 0,Sz R (RU 0),false⟩) (ahy n) (arv n m (XU n m))) (arw n m (XU n m))) (arx n m (XU n m))) (arz n m (XU n m))) (arA n m (XU n m))) (arB n m (XU n m))
@[irreducible] def YP (n m:Nat)(p:FN R.T X9):Option (FN R.T YG):=R6 n m 0 p
@[irreducible] def Zc (p:FN R.T X9):Option (FN R.T YG):=YP n n p
theorem arC (p:FN R.T X9)(x:FN R.T YG)(h:Zc n p=some x):Pure E 36 (Ri R X9 p) (Sy (Ri R YG x)):=by
 unfold Zc YP at h;cases n with
 |zero=>exact absurd ((amx 0 p).symm.trans h) nofun|succ n=>exact Uz (args:=X9) (res:=YG) TR (XU (n+1) n) Sb ((amr (n+1) n p).symm.trans h) Tryz.func36 rfl rfl rfl rfl (by kernel_rfl)
@[irreducible] def adA (n m:Nat)(p:FN R.T Yc):Option (FN R.T YH):=R6 n m 1 p
@[irreducible] def Zb (p:FN R.T Yc):Option (FN R.T YH):=adA n n p
theorem arD (p:FN R.T Yc)(x:FN R.T YH)(h:Zb n p=some x):Pure E 63 (Ri R Yc p) (Sy (Ri R YH x)):=by
 unfold Zb adA at h;cases n with
 |zero=>exact absurd ((amy 0 p).symm.trans h) nofun|succ n=>exact Uz (args:=Yc) (res:=YH) TR (XU (n+1) n) Sb ((ams (n+1) n p).symm.trans h) Tryz.func63 rfl rfl rfl rfl (by kernel_rfl)
@[irreducible] def acH (n m:Nat)(p:FN R.T Yd):Option (FN R.T YJ):=R6 n m 2 p
@[irreducible] def Zo (p:FN R.T Yd):Option (FN R.T YJ):=acH n n p
theorem arE (p:FN R.T Yd)(x:FN R.T YJ)(h:Zo n p=some x):Pure E 64 (Ri R Yd p) (Sy (Ri R YJ x)):=by
 unfold Zo acH at h;cases n with
 |zero=>exact absurd ((amA 0 p).symm.trans h) nofun|succ n=>exact Uz (args:=Yd) (res:=YJ) TR (XU (n+1) n) Sb ((amt (n+1) n p).symm.trans h) Tryz.func64 rfl rfl rfl rfl (by kernel_rfl)
@[irreducible] def adB (n m:Nat)(p:FN R.T Ye):Option (FN R.T YK):=R6 n m 3 p
@[irreducible] def Zr (p:FN R.T Ye):Option (FN R.T YK):=adB n n p
theorem arF (p:FN R.T Ye)(x:FN R.T YK)(h:Zr n p=some x):Pure E 84 (Ri R Ye p) (Sy (Ri R YK x)):=by
 unfold Zr adB at h;cases n with
 |zero=>exact absurd ((amB 0 p).symm.trans h) nofun|succ n=>exact Uz (args:=Ye) (res:=YK) TR (XU (n+1) n) Sb ((amu (n+1) n p).symm.trans h) Tryz.func84 rfl rfl rfl rfl (by kernel_rfl)
@[irreducible] def afv (n m:Nat)(p:FN R.T Yf):Option (FN R.T YL):=R6 n m 4 p
@[irreducible] def Zd (p:FN R.T Yf):Option (FN R.T YL):=afv n n p
theorem arG (p:FN R.T Yf)(x:FN R.T YL)(h:Zd n p=some x):Pure E 98 (Ri R Yf p) (Sy (Ri R YL x)):=by
 unfold Zd afv at h;cases n with
 |zero=>exact absurd ((amC 0 p).symm.trans h) nofun|succ n=>exact Uz (args:=Yf) (res:=YL) TR (XU (n+1) n) Sb ((amv (n+1) n p).symm.trans h) Tryz.func98 rfl rfl rfl rfl (by kernel_rfl)
@[irreducible] def adC (n m:Nat)(p:FN R.T Yg):Option (FN R.T YM):=R6 n m 5 p
@[irreducible] def Zs (p:FN R.T Yg):Option (FN R.T YM):=adC n n p
theorem arH (p:FN R.T Yg)(x:FN R.T YM)(h:Zs n p=some x):Pure E 65 (Ri R Yg p) (Sy (Ri R YM x)):=by
 unfold Zs adC at h;cases n with
 |zero=>exact absurd ((amD 0 p).symm.trans h) nofun|succ n=>exact Uz (args:=Yg) (res:=YM) TR (XU (n+1) n) Sb ((amw (n+1) n p).symm.trans h) Tryz.func65 rfl rfl rfl rfl (by kernel_rfl)
def g_8:RG:=Uh 36 ⟨X9,YG,Zc n,Sz R YG,false⟩ (g_7 n)
theorem arI:Rq E (g_8 n):=Tv (ahy n) (arC n)
def g_9:RG:=Uh 63 ⟨Yc,YH,Zb n,Sz R YH,false⟩ (g_8 n)
theorem arJ:Rq E (g_9 n):=Tv (arI n) (arD n)
def amG:RG:=Uh 64 ⟨Yd,YJ,Zo n,Sz R YJ,false⟩ (g_9 n)
theorem arK:Rq E (amG n):=Tv (arJ n) (arE n)
def amH:RG:=Uh 84 ⟨Ye,YK,Zr n,Sz R YK,false⟩ (amG n)
theorem arL:Rq E (amH n):=Tv (arK n) (arF n)
def amI:RG:=Uh 98 ⟨Yf,YL,Zd n,Sz R YL,false⟩ (amH n)
theorem arM:Rq E (amI n):=Tv (arL n) (arG n)
def ahB:RG:=Uh 65 ⟨Yg,YM,Zs n,Sz R YM,false⟩ (amI n)
theorem amJ:Rq E (ahB n):=Tv (arM n) (arH n)
def arN:Rs:=⟨[],[]⟩
abbrev afw:Q6:=[SL,.d (.slice (.st 3))]
abbrev adD:Q6:=[.d .bool]
@[irreducible] def Xg:R5 afw adD:=Rz E R n false (ahB n) Rx arN Tryz.f12 afw adD
theorem amK:bf 12 afw adD (Xg n):=fun _ _ h=>by unfold Xg at h;exact okF (amJ n) h Tryz.func12 (by kernel_rfl)
def afx:RG:=Uh 12 ⟨afw,adD,Xg n,Sz R adD,false⟩ (ahB n)
theorem arO:Rq E (afx n):=Tv (amJ n) (amK n)
def amL:Rs:=⟨[(2,⟨[0,1,4],[],⟨[(5,Q0)],[(4,.st 5)]⟩,[(.exit 0,⟨[],[(4,.st 5)]⟩),(.ret,⟨[],[(4,.st 5)]⟩)]⟩)],[]⟩
abbrev ahC:Q6:=[.d (.slice (.st 3)),.d .str]
abbrev ahD:Q6:=[.d (.st 5)]
@[irreducible] def ZB:R5 ahC ahD:=Rz E R n false (afx n) Rx amL Tryz.f37 ahC ahD
def ahE:RG:=Sj 37 ahC ahD (ZB n) (afx n)
theorem ahF:Rq E (ahE n):=RN (arO n) Sb (by unfold ZB;rfl) Tryz.func37 (by kernel_rfl)
def ahG:Rs:=⟨[(3,⟨[1,2],[2],⟨[(5,Q0),(6,Q0)],[]⟩,[(.exit 0,⟨[(5,Q0)],[]⟩)]⟩)],[]⟩
abbrev Yh:Q6:=[SL,.d (.slice (.st 3))]
abbrev YQ:Q6:=[.d .bool]
def YS:Nat->List Sk
 |_=>Yh
def WJ:Nat->List Sk
 |_=>YQ
def arP:Nat->Rs
 |_=>ahG
def arQ:Nat->Func
 |_=>Tryz.f13
def adE (g:(i:Nat)->FN R.T (YS i)->Option (FN R.T (WJ i))):Nat->List (FR R):=Uh 13 ⟨YS 0,WJ 0,g 0,Sz R (WJ 0),false⟩ (ahE n)
def WK (n:Nat):Nat->(i:Nat)->FN R.T (YS i)->Option (FN R.T (WJ i))
 |0,_,_=>none|m+1,i,p=>Rz E R n false (adE n (WK n m)) Rx (arP i) (arQ i) (YS i) (WJ i) p
attribute [irreducible] WK
theorem amM (n m:Nat)(p:FN R.T Yh):WK n (m+1) 0 p=Rz E R n false (adE n (WK n m)) Rx ahG Tryz.f13 Yh YQ p:=by kernel_rfl
theorem amN (p:FN R.T Yh):WK n 0 0 p=none:=by kernel_rfl
theorem arR (p:FN R.T (YS 0))(x:FN R.T (WJ 0))(h:WK n 0 0 p=some x):Pure E 13 (Ri R (YS 0) p) (Sy (Ri R (WJ 0) x)):=absurd ((amN n p).symm.trans h) nofun
theorem arS (n m:Nat)(hk:Rq E (adE n (WK n m)))(p:FN R.T (YS 0))(x:FN R.T (WJ 0))(h:WK n (m+1) 0 p=some x):Pure E 13 (Ri R (YS 0) p) (Sy (Ri R (WJ 0) x)):=
 Uz (args:=Yh) (res:=YQ) TR hk Sb ((amM n m p).symm.trans h) Tryz.func13 rfl rfl rfl rfl (by kernel_rfl)
theorem amO (n:Nat):∀m,Rq E (adE n (WK n m))
 |0=>Tv (f:=13) (r:=⟨YS 0,WJ 0,WK n 0 0,Sz R (WJ 0),false⟩) (ahF n) (arR n)|m+1=>Tv (f:=13) (r:=⟨YS 0,WJ 0,WK n (m+1) 0,Sz R (WJ 0),false⟩) (ahF n) (arS n m (amO n m))
@[irreducible] def acI (n m:Nat)(p:FN R.T Yh):Option (FN R.T YQ):=WK n m 0 p
@[irreducible] def QZ (p:FN R.T Yh):Option (FN R.T YQ):=acI n n p
theorem arT (p:FN R.T Yh)(x:FN R.T YQ)(h:QZ n p=some x):Pure E 13 (Ri R Yh p) (Sy (Ri R YQ x)):=by
 unfold QZ acI at h;cases n with
 |zero=>exact absurd ((amN 0 p).symm.trans h) nofun|succ n=>exact Uz (args:=Yh) (res:=YQ) TR (amO (n+1) n) Sb ((amM (n+1) n p).symm.trans h) Tryz.func13 rfl rfl rfl rfl (by kernel_rfl)
def afy:RG:=Uh 13 ⟨Yh,YQ,QZ n,Sz R YQ,false⟩ (ahE n)
theorem amP:Rq E (afy n):=Tv (ahF n) (arT n)
def amQ:Rs:=⟨[(3,⟨[6,7],[],⟨[(3,Q0),(8,Q0)],[]⟩,[(.exit 0,⟨[(3,Q0)],[]⟩),(.ret,⟨[(2,Q0)],[]⟩)]⟩)],[]⟩
abbrev afz:Q6:=[.d (.slice (.slice (.st 7)))]
abbrev adF:Q6:=[Q0]
@[irreducible] def ZI:R5 afz adF:=Rz E R n false (afy n) Rx amQ Tryz.f55 afz adF
theorem amR:bf 55 afz adF (ZI n):=fun _ _ h=>by unfold ZI at h;exact okF (amP n) h Tryz.func55 (by kernel_rfl)
def adG:RG:=Uh 55 ⟨afz,adF,ZI n,Sz R adF,false⟩ (afy n)
theorem arU:Rq E (adG n):=Tv (amP n) (amR n)
end Sh
