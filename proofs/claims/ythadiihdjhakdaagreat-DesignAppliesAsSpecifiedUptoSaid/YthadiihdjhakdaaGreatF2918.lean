import Derived.Test.YthadiihdjhakdaaGreatF2916
set_option linter.all false
noncomputable section
open Go Go.Proofs aY
namespace Sh
variable (n:Nat)
set_option maxRecDepth 100000
abbrev dU:aM:=.d .bool
abbrev AY:aM:=.d (.st 13)
abbrev sP:aM:=.d (.st 8)
abbrev aS:aM:=.d (.int .i64)
abbrev zJ:aM:=.d (.slice (.st 7))
abbrev Ci:aM:=.d (.slice .str)
abbrev yD:aM:=.d (.slice (.int .i64))
abbrev aaX:List aM:=[aS,aS,aS,aS,aS,aS,aS,yD,.d (.slice (.st 5)),.d (.int .u8),.d (.int .u8),.d (.int .u8),.d (.int .u8),.d (.int .u8),.d (.int .u8),.d (.int .u8),.d (.int .u8),.d (.int .u8),.d (.int .u8),.d (.int .u8),.d (.int .u8),.d (.int .u8),.d (.int .u8),.d (.int .u8),.d (.int .u8)]
abbrev vJ:List aM:=[aS,aS,aS,aS,aS,aS,aS,yD,.d (.slice (.st 5))]
abbrev mQ:List aM:=[.d .str,aS,aS,aS,Ci]
abbrev JK:List aM:=[aS,aS,.d (.slice (.st 0))]
abbrev yE:List aM:=[.d .str,aS,aS,.d .str]
abbrev yF:List aM:=[sP,AY,zJ]
abbrev sQ:List aM:=[sP,aS]
abbrev gI:List aM:=[aS]
abbrev bG (a r:List aM):=aW R.T a->Option (aW R.T r)
abbrev bF:=Nat->List (fM R)
abbrev fx {a r:List aM}(n:Nat)(F:bF)(I:IR R)(A:fU)(fn:Func):bG a r:=Jb E R n false F I A fn a r
abbrev fo {a r:List aM}(n:Nat)(F:bF)(I:IR R)(A:fU)(fn:Func):bG a r:=Jb E R n true F I A fn a r
abbrev gx {a r:List aM}(i:Nat)(G:bG a r)(F:bF):bF:=zD i ⟨a,r,G,wP R r,false,false⟩ F
abbrev DX {a r:List aM}(i:Nat)(G:bG a r)(F:bF):bF:=zD i ⟨a,r,G,wP R r,false,true⟩ F
theorem aiZ {n:Nat}{F:bF}{I:IR R}{A:fU}{i:Nat}{fn:Func}{a r:List aM}{G:bG a r}{aj:Bool}(hG:G=Jb E R n aj F I A fn a r)(hF:bg E F)(hI:kg E I)(hf:E.P.funcs[i]? =some fn)(hok:(match fn.body with|some c=>decide (a.length<=fn.ntmps)&& jg fn.ntmps c&& qG E c|none=>false)=true:=by kernel_rfl)(ha:gu a=true:=by rfl)(hl:∀p,(bX R a p).length=a.length:=by exact fun _=>rfl)(ho:E.aj i=aj:=by rfl)(hs:E.qV i=none:=by rfl)(hcl:E.cl i=none:=by rfl)(p:aW R.T a)(x:aW R.T r)(h:G p=some x):Pure E i (bX R a p) (nZ (bX R r x)):=asc nL hF hI (by rw[hG] at h;exact h) hf ha (hl p) ho hs hok hcl
theorem bI {n:Nat}{F:bF}{I:IR R}{A:fU}{i:Nat}{fn:Func}{a r:List aM}{G:bG a r}{aj:Bool}(hG:G=Jb E R n aj F I A fn a r)(hF:bg E F)(hI:kg E I)(hf:E.P.funcs[i]? =some fn)(hok:(match fn.body with|some c=>decide (a.length<=fn.ntmps)&& jg fn.ntmps c&& qG E c|none=>false)=true:=by kernel_rfl)(ha:gu a=true:=by rfl)(hl:∀p,(bX R a p).length=a.length:=by exact fun _=>rfl)(ho:E.aj i=aj:=by rfl)(hs:E.qV i=none:=by rfl)(hcl:E.cl i=none:=by rfl){w:Bool}:bg E (zD i ⟨a,r,G,wP R r,false,w⟩ F):=aax hF (aiZ hG hF hI hf hok ha hl ho hs hcl)
def dP:fU:=⟨[],[]⟩
def aaY:fU:=⟨[(2,⟨[1,2],[2],⟨[(5,aS)],[]⟩,[(.exit 0,⟨[],[]⟩),(.ret,⟨[(4,dU)],[]⟩)]⟩),
 (8,⟨[1,2,5,6],[2,6],⟨[(7,aS)],[]⟩,[(.exit 2,⟨[],[]⟩),(.ret,⟨[(4,dU)],[]⟩)]⟩)],[]⟩
@[irreducible] def Oe :bG [.d (.st 1),aS] [dU]:=fx n (Od n) dR aaY Tryz.f32
def g_1:bF:=gx 32 (Oe n) (Od n)
theorem atl:bg E (g_1 n):=bI (by unfold Oe;rfl) (ate n) gB Tryz.func32
def ai0:fU:=⟨[(2,⟨[1],[1],⟨[(3,aS)],[]⟩,[(.exit 0,⟨[],[]⟩),(.ret,⟨[(2,dU)],[]⟩)]⟩)],[]⟩
@[irreducible] def JL :bG [.d (.st 6)] [dU]:=fx n (g_1 n) dR ai0 Tryz.f80
def g_2:bF:=gx 80 (JL n) (g_1 n)
theorem atm:bg E (g_2 n):=bI (by unfold JL;rfl) (atl n) gB Tryz.func80
def UR:fU:=⟨[(2,⟨[0,1],[],⟨[(5,aS)],[]⟩,[(.exit 0,⟨[],[]⟩),(.ret,⟨[(4,dU)],[]⟩)]⟩)],[]⟩
@[irreducible] def JM :bG [.d (.slice (.st 13)),aS] [dU]:=fx n (g_2 n) dR UR Tryz.f29
def ai1:bF:=gx 29 (JM n) (g_2 n)
theorem atn:bg E (ai1 n):=bI (by unfold JM;rfl) (atm n) gB Tryz.func29
def UU:fU:=⟨[],[]⟩
abbrev UW:List aM:=[]
abbrev Og:List aM:=[dU]
@[irreducible] def Cj (n:Nat)(p:aW R.T UW):Option (aW R.T Og):=F4
theorem ato (p:aW R.T UW)(x:aW R.T Og)(h:Cj n p=some x):Pure E 13 (bX R UW p) (nZ (bX R Og x)):=by unfold Cj at h;exact atf p x h
def aaZ:Nat->List (fM R):=zD 13 ⟨UW,Og,Cj n,wP R Og,false,false⟩ (ai1 n)
theorem atp:bg E (aaZ n):=aax (atn n) (ato n)
@[irreducible] def UY :bG [.aI JK 0] [dU]:=fx n (aaZ n) dR dP Tryz.f121
def aa0:bF:=gx 121 (UY n) (aaZ n)
theorem atq:bg E (aa0 n):=bI (by unfold UY;rfl) (atp n) gB Tryz.func121
@[irreducible] def UZ :bG [.aI JK 0] [dU]:=fx n (aa0 n) dR dP Tryz.f122
def aa1:bF:=gx 122 (UZ n) (aa0 n)
theorem atr:bg E (aa1 n):=bI (by unfold UZ;rfl) (atq n) gB Tryz.func122
@[irreducible] def Oh :bG [.kl [.agg [.fn 121 [] [.aI JK 0],aS],.agg [.fn 122 [] [.aI JK 0],aS]]] gI:=fx n (aa1 n) dR dP Tryz.f63
def ai2:bF:=gx 63 (Oh n) (aa1 n)
theorem att:bg E (ai2 n):=bI (by unfold Oh;rfl) (atr n) gB Tryz.func63
abbrev Oi:List aM:=[.d .str]
abbrev Oj:List aM:=[dU]
@[irreducible] def DY (n:Nat)(p:aW R.T Oi):Option (aW R.T Oj):=F5 p
theorem atu (p:aW R.T Oi):DY n p=F5 p:=by unfold DY;rfl
theorem atv (p:aW R.T Oi)(x:aW R.T Oj)(h:DY n p=some x):Pure E 168 (bX R Oi p) (nZ (bX R Oj x)):=by unfold DY at h;exact nameP p x h
def aa2:Nat->List (fM R):=zD 168 ⟨Oi,Oj,DY n,wP R Oj,false,false⟩ (ai2 n)
theorem atw:bg E (aa2 n):=aax (att n) (atv n)
@[irreducible] def U0 :bG [.aI mQ 0] [dU]:=fx n (aa2 n) dR dP Tryz.f167
def aa3:bF:=gx 167 (U0 n) (aa2 n)
theorem atx:bg E (aa3 n):=bI (by unfold U0;rfl) (atw n) gB Tryz.func167
@[irreducible] def U1 :bG [.aI mQ 0,.aI [.d .str] 0] [dU]:=fx n (aa3 n) dR dP Tryz.f169
def aa4:bF:=gx 169 (U1 n) (aa3 n)
theorem aty:bg E (aa4 n):=bI (by unfold U1;rfl) (atx n) gB Tryz.func169
@[irreducible] def U2 :bG [.aI mQ 0] [dU]:=fx n (aa4 n) dR dP Tryz.f170
def aa5:bF:=gx 170 (U2 n) (aa4 n)
theorem atz:bg E (aa5 n):=bI (by unfold U2;rfl) (aty n) gB Tryz.func170
@[irreducible] def U3 :bG [.kl [.agg [.fn 167 [] [.aI mQ 0],aS],.agg [.fn 169 [] [.aI mQ 0,.aI [.d .str] 0],aS],.agg [.fn 170 [] [.aI mQ 0],aS]]] gI:=fx n (aa5 n) dR dP Tryz.f63
def aa6:bF:=gx 63 (U3 n) (aa5 n)
theorem atA:bg E (aa6 n):=bI (by unfold U3;rfl) (atz n) gB Tryz.func63
@[irreducible] def U4 :bG [.aI mQ 0] [dU]:=fx n (aa6 n) dR dP Tryz.f171
def aa7:bF:=gx 171 (U4 n) (aa6 n)
theorem atB:bg E (aa7 n):=bI (by unfold U4;rfl) (atA n) gB Tryz.func171
@[irreducible] def U5 :bG [.aI mQ 0] [dU]:=fx n (aa7 n) dR dP Tryz.f172
def aa8:bF:=gx 172 (U5 n) (aa7 n)
theorem atC:bg E (aa8 n):=bI (by unfold U5;rfl) (atB n) gB Tryz.func172
@[irreducible] def U6 :bG [.kl [.agg [.fn 171 [] [.aI mQ 0],aS],.agg [.fn 172 [] [.aI mQ 0],aS]]] gI:=fx n (aa8 n) dR dP Tryz.f63
def aa9:bF:=gx 63 (U6 n) (aa8 n)
theorem atD:bg E (aa9 n):=bI (by unfold U6;rfl) (atC n) gB Tryz.func63
@[irreducible] def U7 :bG [.aI mQ 0] [dU]:=fx n (aa9 n) dR dP Tryz.f173
def abb:bF:=gx 173 (U7 n) (aa9 n)
theorem atE:bg E (abb n):=bI (by unfold U7;rfl) (atD n) gB Tryz.func173
@[irreducible] def U8 :bG [.aI mQ 0] [dU]:=fx n (abb n) dR dP Tryz.f174
def abd:bF:=gx 174 (U8 n) (abb n)
theorem atF:bg E (abd n):=bI (by unfold U8;rfl) (atE n) gB Tryz.func174
@[irreducible] def JN :bG [.d .str] [dU]:=fx n (abd n) dR dP Tryz.f177
def U9:bF:=gx 177 (JN n) (abd n)
theorem atG:bg E (U9 n):=bI (by unfold JN;rfl) (atF n) gB Tryz.func177
def JO:fU:=⟨[(2,⟨[0,1,7],[],⟨[(8,aS)],[]⟩,[(.exit 0,⟨[],[]⟩),(.ret,⟨[(4,aS)],[]⟩)]⟩)],[]⟩
@[irreducible] def Zs :bG [Ci,.fn 177 [] []] gI:=fx n (U9 n) dR JO Tryz.f192
def abe:bF:=gx 192 (Zs n) (U9 n)
theorem atH:bg E (abe n):=bI (by unfold Zs;rfl) (atG n) gB Tryz.func192
@[irreducible] def Ol :bG [Ci,.fn 177 [] []] [dU]:=fx n (abe n) dR dP Tryz.f176
def abf:bF:=gx 176 (Ol n) (abe n)
theorem atI:bg E (abf n):=bI (by unfold Ol;rfl) (atH n) gB Tryz.func176
@[irreducible] def Va :bG [.aI mQ 0] [dU]:=fx n (abf n) dR dP Tryz.f175
def Vb:bF:=gx 175 (Va n) (abf n)
theorem atJ:bg E (Vb n):=bI (by unfold Va;rfl) (atI n) gB Tryz.func175
def JQ:fU:=⟨[(2,⟨[0],[],⟨[(3,aS)],[]⟩,[(.exit 0,⟨[],[]⟩),(.ret,⟨[(2,dU)],[]⟩)]⟩)],[]⟩
@[irreducible] def Om :bG [Ci] [dU]:=fx n (Vb n) dR JQ Tryz.f179
def abg:bF:=gx 179 (Om n) (Vb n)
theorem atK:bg E (abg n):=bI (by unfold Om;rfl) (atJ n) gB Tryz.func179
@[irreducible] def Vd :bG [.aI mQ 0] [dU]:=fx n (abg n) dR dP Tryz.f178
def abh:bF:=gx 178 (Vd n) (abg n)
theorem atL:bg E (abh n):=bI (by unfold Vd;rfl) (atK n) gB Tryz.func178
@[irreducible] def Ve :bG [.kl [.agg [.fn 173 [] [.aI mQ 0],aS],.agg [.fn 174 [] [.aI mQ 0],aS],.agg [.fn 175 [] [.aI mQ 0],aS],.agg [.fn 178 [] [.aI mQ 0],aS]]] gI:=fx n (abh n) dR dP Tryz.f63
def abj:bF:=gx 63 (Ve n) (abh n)
theorem atM:bg E (abj n):=bI (by unfold Ve;rfl) (atL n) gB Tryz.func63
@[irreducible] def Oo :bG [.d (.st 0),.d .str] gI:=fx n (abj n) dR dP Tryz.f123
def Vf:bF:=gx 123 (Oo n) (abj n)
theorem atN:bg E (Vf n):=bI (by unfold Oo;rfl) (atM n) gB Tryz.func123
def ai3:fU:=⟨[(4,⟨[1],[1],⟨[(3,aS),(4,.d .str),(5,aS)],[]⟩,[(.exit 0,⟨[(3,aS)],[]⟩)]⟩)],[]⟩
@[irreducible] def DZ :bG [.d (.st 1)] gI:=fx n (Vf n) dR ai3 Tryz.f73
def abk:bF:=gx 73 (DZ n) (Vf n)
theorem atO:bg E (abk n):=bI (by unfold DZ;rfl) (atN n) gB Tryz.func73
@[irreducible] def D5 :bG [.d (.st 1)] sQ:=fx n (abk n) dR dP Tryz.f26
def abl:bF:=gx 26 (D5 n) (abk n)
theorem atP:bg E (abl n):=bI (by unfold D5;rfl) (atO n) gB Tryz.func26
@[irreducible] def Oq :bG gI [dU]:=fx n (abl n) dR dP Tryz.f96
def Vg:bF:=gx 96 (Oq n) (abl n)
theorem atQ:bg E (Vg n):=bI (by unfold Oq;rfl) (atP n) gB Tryz.func96
@[irreducible] def JR :bG [Ci,.d .str] [dU]:=fx n (Vg n) dR UR Tryz.f186
def Vh:bF:=gx 186 (JR n) (Vg n)
theorem atS:bg E (Vh n):=bI (by unfold JR;rfl) (atQ n) gB Tryz.func186
@[irreducible] def JU :bG [.d .str] [dU]:=fx n (Vh n) dR JQ Tryz.f151
def Ot:bF:=gx 151 (JU n) (Vh n)
theorem atT:bg E (Ot n):=bI (by unfold JU;rfl) (atS n) gB Tryz.func151
def abm:fU:=⟨[(4,⟨[0],[],⟨[(3,aS)],[]⟩,[(.exit 0,⟨[],[]⟩),(.ret,⟨[(2,aS)],[]⟩)]⟩),
 (9,⟨[0],[],⟨[(4,aS)],[]⟩,[(.exit 2,⟨[],[]⟩),(.ret,⟨[(2,aS)],[]⟩)]⟩)],[]⟩
@[irreducible] def Vi :bG [Ci] gI:=fx n (Ot n) dR abm Tryz.f152
def abn:bF:=gx 152 (Vi n) (Ot n)
theorem atU:bg E (abn n):=bI (by unfold Vi;rfl) (atT n) gB Tryz.func152
@[irreducible] def Ou :bG [.d (.st 0),.d .str] gI:=fx n (abn n) dR dP Tryz.f97
def Vj:bF:=gx 97 (Ou n) (abn n)
theorem atV:bg E (Vj n):=bI (by unfold Ou;rfl) (atU n) gB Tryz.func97
def ai4:fU:=⟨[(7,⟨[1],[1],⟨[(3,.d .str),(4,aS)],[]⟩,[(.exit 0,⟨[],[]⟩),(.ret,⟨[(2,aS)],[]⟩)]⟩)],[]⟩
@[irreducible] def Ov :bG [.d (.st 1)] gI:=fx n (Vj n) dR ai4 Tryz.f47
def abo:bF:=gx 47 (Ov n) (Vj n)
theorem atW:bg E (abo n):=bI (by unfold Ov;rfl) (atV n) gB Tryz.func47
@[irreducible] def F6 :bG [.d (.st 1)] [.d (.st 14)]:=fx n (abo n) dR dP Tryz.f33
def Vk:bF:=gx 33 (F6 n) (abo n)
theorem atX:bg E (Vk n):=bI (by unfold F6;rfl) (atW n) gB Tryz.func33
def ai5:fU:=⟨[(6,⟨[0,1],[],⟨[(5,aS)],[]⟩,[(.exit 0,⟨[],[]⟩),(.ret,⟨[(4,aS)],[]⟩)]⟩)],[]⟩
@[irreducible] def Vl :bG [yD,yD] gI:=fx n (Vk n) dR ai5 Tryz.f129
def abp:bF:=gx 129 (Vl n) (Vk n)
theorem atY:bg E (abp n):=bI (by unfold Vl;rfl) (atX n) gB Tryz.func129
@[irreducible] def Ow :bG [yD,yD] [dU]:=fx n (abp n) dR dP Tryz.f81
def Vm:bF:=gx 81 (Ow n) (abp n)
theorem ai6:bg E (Vm n):=bI (by unfold Ow;rfl) (atY n) gB Tryz.func81
def ai7:fU:=⟨[(5,⟨[],[],⟨[(3,.d (.int .u64)),(4,.l (.own 23) (.int .u8))],[]⟩,[(.exit 0,⟨[(3,.d (.int .u64)),(4,.l (.own 23) (.int .u8))],[]⟩)]⟩)],[]⟩
abbrev JV:List aM:=gI
abbrev abq:List aM:=[.d (.slice (.int .u8))]
@[irreducible] def AZ (p:aW R.T JV):Option (aW R.T abq):=TL E R n false (Vm n) dR ai7 Tryz.f182 JV (.int .u8) p
theorem atZ (p:aW R.T JV)(x:aW R.T abq)(h:AZ n p=some x):Pure E 182 (bX R JV p) (.ay .sh (List.map (aX R (.int .u8)) x))/\xY E 182 (bX R JV p) (cK R (.int .u8)) (List.map (aX R (.int .u8)) x):=by unfold AZ at h;exact ah2 nL (ai6 n) gB h Tryz.func182 rfl rfl rfl rfl aA
def Vn:Nat->List (fM R):=zD 182 ⟨JV,[.d (.slice (.int .u8))],AZ n,wP R abq,true,false⟩ (Vm n)
theorem ai8:bg E (Vn n):=aia (G:=AZ n) (ai6 n) (atZ n)
def Vo:fU:=⟨[(3,⟨[0],[],⟨[(3,.l (.own 7) (.int .u8)),(4,aS)],[]⟩,[(.exit 0,⟨[(3,.l (.own 7) (.int .u8))],[]⟩)]⟩)],[]⟩
abbrev JW:List aM:=[yD]
abbrev abr:List aM:=[.d (.slice (.int .u8))]
@[irreducible] def F7 (p:aW R.T JW):Option (aW R.T abr):=TL E R n false (Vn n) dR Vo Tryz.f135 JW (.int .u8) p
theorem at0 (p:aW R.T JW)(x:aW R.T abr)(h:F7 n p=some x):Pure E 135 (bX R JW p) (.ay .sh (List.map (aX R (.int .u8)) x))/\xY E 135 (bX R JW p) (cK R (.int .u8)) (List.map (aX R (.int .u8)) x):=by unfold F7 at h;exact ah2 nL (ai8 n) gB h Tryz.func135 rfl rfl rfl rfl aA
def abt:Nat->List (fM R):=zD 135 ⟨JW,[.d (.slice (.int .u8))],F7 n,wP R abr,true,false⟩ (Vn n)
theorem at1:bg E (abt n):=aia (G:=F7 n) (ai8 n) (at0 n)
@[irreducible] def Ox :bG [.d .str] [.d (.slice (.int .u8))]:=fx n (abt n) dR dP Tryz.f183
def Vp:bF:=gx 183 (Ox n) (abt n)
theorem at5:bg E (Vp n):=bI (by unfold Ox;rfl) (at1 n) gB Tryz.func183
@[irreducible] def Oy :bG [Ci] [.d (.slice (.int .u8))]:=fx n (Vp n) dR Vo Tryz.f136
def Vq:bF:=gx 136 (Oy n) (Vp n)
theorem at6:bg E (Vq n):=bI (by unfold Oy;rfl) (at5 n) gB Tryz.func136
def ai9:fU:=⟨[(6,⟨[1],[1],⟨[(3,.l (.own 28) (.int .i64)),(4,.l (.own 71) .str),(5,aS)],[]⟩,[(.exit 0,⟨[(3,.l (.own 28) (.int .i64)),(4,.l (.own 71) .str)],[]⟩)]⟩)],[]⟩
@[irreducible] def JX :bG [.d (.st 6)] [.d (.slice (.int .u8))]:=fx n (Vq n) dR ai9 Tryz.f87
def abu:bF:=gx 87 (JX n) (Vq n)
theorem at7:bg E (abu n):=bI (by unfold JX;rfl) (at6 n) gB Tryz.func87
@[irreducible] def Oz :bG [.d (.st 6),.d (.st 6)] [dU]:=fx n (abu n) dR dP Tryz.f41
def Vr:bF:=gx 41 (Oz n) (abu n)
theorem aua:bg E (Vr n):=bI (by unfold Oz;rfl) (at7 n) gB Tryz.func41
def aja:fU:=⟨[(4,⟨[0,1],[],⟨[(5,aS)],[]⟩,[(.exit 0,⟨[],[]⟩),(.ret,⟨[(4,dU)],[]⟩)]⟩)],[]⟩
@[irreducible] def ZD :bG [zJ,zJ] [dU]:=fx n (Vr n) dR aja Tryz.f39
def abv:bF:=gx 39 (ZD n) (Vr n)
theorem aub:bg E (abv n):=bI (by unfold ZD;rfl) (aua n) gB Tryz.func39
@[irreducible] def zK :bG [sP,sP] [dU]:=fx n (abv n) dR dP Tryz.f34
def abw:bF:=gx 34 (zK n) (abv n)
theorem auc:bg E (abw n):=bI (by unfold zK;rfl) (aub n) gB Tryz.func34
@[irreducible] def D6 :bG sQ [.fn 119 [] [.aI [aS,aS,.d (.slice (.st 0)),aS,aS,yD,zJ] 0,.aI gI 0]]:=fx n (abw n) dR dP Tryz.f70
def abx:bF:=gx 70 (D6 n) (abw n)
theorem aud:bg E (abx n):=bI (by unfold D6;rfl) (auc n) gB Tryz.func70
@[irreducible] def cmp_isNaN_int :bG gI [dU]:=fx n (abx n) dR dP Tryz.f110
def aby:bF:=gx 110 (cmp_isNaN_int n) (abx n)
theorem aue:bg E (aby n):=bI (by unfold cmp_isNaN_int;rfl) (aud n) gB Tryz.func110
@[irreducible] def cmp_Compare_int :bG [aS,aS] gI:=fx n (aby n) dR dP Tryz.f61
def abz:bF:=gx 61 (cmp_Compare_int n) (aby n)
theorem auf:bg E (abz n):=bI (by unfold cmp_Compare_int;rfl) (aue n) gB Tryz.func61
@[irreducible] def A8 :bG [.d (.st 7),.d (.st 7)] gI:=fx n (abz n) dR dP Tryz.f72
def ng:bF:=gx 72 (A8 n) (abz n)
theorem F8:bg E (ng n):=bI (by unfold A8;rfl) (auf n) gB Tryz.func72
def JY:fU:=⟨[(1,⟨[0,1,2,3],[],⟨[(8,aS)],[(1000000,.arr (.st 7))]⟩,[(.exit 0,⟨[],[(1000000,.arr (.st 7))]⟩)]⟩),
 (4,⟨[0,1,2,3,8],[],⟨[(9,aS)],[(1000000,.arr (.st 7))]⟩,[(.exit 2,⟨[],[(1000000,.arr (.st 7))]⟩)]⟩)],[]⟩
abbrev OA:List aM:=[.aJ 1000000 (.st 7),aS,aS,.fn 72 [] []]
abbrev OB:List aM:=[]
abbrev JZ:List (Nat×d9):=[(1000000,.arr (.st 7))]
@[irreducible] def A9 (p:aW R.T OA)(q:cZ R.T JZ):Option (aW R.T OB×cZ R.T JZ):=sD E R n false (ng n) dR JY Tryz.f165 OA JZ OB p q
theorem aug:sI E 165 OA JZ OB (A9 n):=by intro p q y q' h;have h:A9 n p q=some (y,q'):=h;unfold A9 at h;exact yC nL (F8 n) gB h Tryz.func165 rfl aA
def Vs:IR R:=mO 165 (jA OA JZ OB (A9 n)) dR
theorem ajb:kg E (Vs n):=sK (m:=jA OA JZ OB (A9 n)) gB (nK.M (aug n))
def abA:fU:=⟨[(1,⟨[0,1,2,3],[],⟨[(10,aS)],[(1000000,.arr (.st 7))]⟩,[(.exit 0,⟨[],[(1000000,.arr (.st 7))]⟩)]⟩)],[]⟩
abbrev OC:List aM:=[.aJ 1000000 (.st 7),aS,aS,aS,.fn 72 [] []]
abbrev OD:List aM:=[]
abbrev J2:List (Nat×d9):=[(1000000,.arr (.st 7))]
@[irreducible] def Ba (p:aW R.T OC)(q:cZ R.T J2):Option (aW R.T OD×cZ R.T J2):=sD E R n false (ng n) (Vs n) abA Tryz.f208 OC J2 OD p q
theorem auh:sI E 208 OC J2 OD (Ba n):=by intro p q y q' h;have h:Ba n p q=some (y,q'):=h;unfold Ba at h;exact yC nL (F8 n) (ajb n) h Tryz.func208 rfl aA
def Vt:IR R:=mO 208 (jA OC J2 OD (Ba n)) (Vs n)
theorem ajc:kg E (Vt n):=sK (m:=jA OC J2 OD (Ba n)) (ajb n) (nK.M (auh n))
def abB:fU:=⟨[(2,⟨[0,2,4],[],⟨[(10,aS),(11,aS)],[(1000000,.arr (.st 7))]⟩,[(.exit 0,⟨[(10,aS)],[(1000000,.arr (.st 7))]⟩)]⟩)],[]⟩
abbrev OE:List aM:=[.aJ 1000000 (.st 7),aS,aS,aS,.fn 72 [] []]
abbrev OG:List aM:=[]
abbrev J3:List (Nat×d9):=[(1000000,.arr (.st 7))]
@[irreducible] def Ck (p:aW R.T OE)(q:cZ R.T J3):Option (aW R.T OG×cZ R.T J3):=sD E R n false (ng n) (Vt n) abB Tryz.f191 OE J3 OG p q
theorem aui:sI E 191 OE J3 OG (Ck n):=by intro p q y q' h;have h:Ck n p q=some (y,q'):=h;unfold Ck at h;exact yC nL (F8 n) (ajc n) h Tryz.func191 rfl aA
def Cm:IR R:=mO 191 (jA OE J3 OG (Ck n)) (Vt n)
theorem ajd:kg E (Cm n):=sK (m:=jA OE J3 OG (Ck n)) (ajc n) (nK.M (aui n))
def pU:fU:=⟨[(3,⟨[0,1,4],[1000000],⟨[(10,aS),(11,aS)],[]⟩,[(.exit 0,⟨[(10,aS)],[]⟩)]⟩),
 (9,⟨[0,10],[],⟨[(13,aS)],[(1000000,.arr (.st 7))]⟩,[(.exit 2,⟨[],[(1000000,.arr (.st 7))]⟩)]⟩),
 (15,⟨[0,2,4],[1000000],⟨[(14,aS),(15,aS)],[]⟩,[(.exit 4,⟨[(14,aS)],[]⟩)]⟩),
 (21,⟨[0,14],[],⟨[(17,aS)],[(1000000,.arr (.st 7))]⟩,[(.exit 6,⟨[],[(1000000,.arr (.st 7))]⟩)]⟩),
 (33,⟨[0,1,2,3,4,18,19,22],[1000000],⟨[(20,aS),(21,aS)],[]⟩,[(.exit 8,⟨[(20,aS)],[]⟩)]⟩)],[]⟩
abbrev qI:List aM:=[.aJ 1000000 (.st 7),aS,aS,aS,.fn 72 [] []]
abbrev sS:List aM:=[]
abbrev oP:List (Nat×d9):=[(1000000,.arr (.st 7))]
def uz (n:Nat):Nat->aW R.T qI->cZ R.T oP->Option (aW R.T sS×cZ R.T oP)
 |0,_,_=>none|m+1,p,q=>sD E R n false (ng n) (mO 166 (jA qI oP sS (uz n m)) (Cm n)) pU Tryz.f166 qI oP sS p q
attribute [irreducible] uz
theorem auj (n m:Nat)(p:aW R.T qI)(q:cZ R.T oP):uz n (m+1) p q=sD E R n false (ng n) (mO 166 (jA qI oP sS (uz n m)) (Cm n)) pU Tryz.f166 qI oP sS p q:=aA
theorem auk (p:aW R.T qI)(q:cZ R.T oP):uz n 0 p q=none:=aA
theorem aje (n:Nat):∀m,sI E 166 qI oP sS (uz n m)
 |0=>fun p q y q' h=>absurd (((auk n p q).symm.trans h)) nofun
 |m+1=>fun p q y q' h=>yC nL (F8 n) (sK (m:=(jA qI oP sS (uz n m))) (ajd n) (nK.M (aje n m))) ((auj n m p q).symm.trans h) Tryz.func166 rfl aA
@[irreducible] def QP :aW R.T qI->cZ R.T oP->Option (aW R.T sS×cZ R.T oP):=uz n n
theorem aul:sI E 166 qI oP sS (QP n):=by unfold QP;exact aje n n
def J4:IR R:=mO 166 (jA qI oP sS (QP n)) (Cm n)
theorem ajf:kg E (J4 n):=sK (m:=jA qI oP sS (QP n)) (ajd n) (nK.M (aul n))
def D7:fU:=⟨[(2,⟨[0,1,2,6],[],⟨[(7,aS),(8,aS)],[(1000000,.arr (.st 7))]⟩,[(.exit 0,⟨[(7,aS)],[(1000000,.arr (.st 7))]⟩)]⟩),
 (7,⟨[0,1,2],[],⟨[(6,aS)],[(1000000,.arr (.st 7))]⟩,[(.exit 2,⟨[],[(1000000,.arr (.st 7))]⟩)]⟩),
 (9,⟨[0,1,2,6],[],⟨[(7,aS),(8,aS)],[(1000000,.arr (.st 7))]⟩,[(.exit 4,⟨[(7,aS)],[(1000000,.arr (.st 7))]⟩)]⟩)],[]⟩
abbrev OH:List aM:=[.aJ 1000000 (.st 7),aS,.fn 72 [] []]
abbrev OI:List aM:=[]
abbrev J5:List (Nat×d9):=[(1000000,.arr (.st 7))]
@[irreducible] def QR (p:aW R.T OH)(q:cZ R.T J5):Option (aW R.T OI×cZ R.T J5):=sD E R n false (ng n) (J4 n) D7 Tryz.f120 OH J5 OI p q
theorem aum:sI E 120 OH J5 OI (QR n):=by intro p q y q' h;have h:QR n p q=some (y,q'):=h;unfold QR at h;exact yC nL (F8 n) (ajf n) h Tryz.func120 rfl aA
def abC:IR R:=mO 120 (jA OH J5 OI (QR n)) (J4 n)
theorem ajg:kg E (abC n):=sK (m:=jA OH J5 OI (QR n)) (ajf n) (nK.M (aum n))
abbrev OJ:List aM:=[.aJ 1000000 (.st 7),.fn 72 [] []]
abbrev OL:List aM:=[]
abbrev J6:List (Nat×d9):=[(1000000,.arr (.st 7))]
@[irreducible] def D8 (p:aW R.T OJ)(q:cZ R.T J6):Option (aW R.T OL×cZ R.T J6):=sD E R n false (ng n) (abC n) UU Tryz.f71 OJ J6 OL p q
theorem aun:sI E 71 OJ J6 OL (D8 n):=by intro p q y q' h;have h:D8 n p q=some (y,q'):=h;unfold D8 at h;exact yC nL (F8 n) (ajg n) h Tryz.func71 rfl aA
def rJ:IR R:=mO 71 (jA OJ J6 OL (D8 n)) (abC n)
theorem wU:kg E (rJ n):=sK (m:=jA OJ J6 OL (D8 n)) (ajg n) (nK.M (aun n))
def Vu:fU:=⟨[(4,⟨[5],[],⟨[],[(5,.cells [.aJ 19 (.st 7)]),(19,.arr (.st 7))]⟩,[(.normal,⟨[],[(5,.cells [.aJ 19 (.st 7)]),(19,.arr (.st 7))]⟩)]⟩)],[]⟩
@[irreducible] def D9 :bG sQ [zJ]:=fo n (ng n) (rJ n) Vu Tryz.f25
def Vv:bF:=gx 25 (D9 n) (ng n)
theorem auo:bg E (Vv n):=bI (by unfold D9;rfl) (F8 n) (wU n) Tryz.func25
def Ea:fU:=⟨[(2,⟨[4,6,7],[4],⟨[],[(6,.cells [.dF,.cB]),(7,.cells gI)]⟩,[(.normal,⟨[],[(6,.cells [.dF,.cB]),(7,.cells gI)]⟩),(.ret,⟨[],[(6,.cells [.dF,.cB]),(7,.cells gI)]⟩)]⟩)],[]⟩
@[irreducible] def OM :bG yF [.agg [.dF,.aI vJ 0],aS]:=fx n (Vv n) (rJ n) Ea Tryz.f74
def Vw:bF:=DX 74 (OM n) (Vv n)
theorem aup:bg E (Vw n):=bI (by unfold OM;rfl) (auo n) (wU n) Tryz.func74
@[irreducible] def J7 :bG yF [.agg [.dF,.cB],aS]:=fx n (Vw n) (rJ n) Ea Tryz.f74
def abD:bF:=DX 74 (J7 n) (Vw n)
theorem auq:bg E (abD n):=bI (by unfold J7;rfl) (aup n) (wU n) Tryz.func74
@[irreducible] def F9 :bG gI [.fn 180 [] [.aI gI 0]]:=fx n (abD n) (rJ n) dP Tryz.f124
def abE:bF:=gx 124 (F9 n) (abD n)
theorem aur:bg E (abE n):=bI (by unfold F9;rfl) (auq n) (wU n) Tryz.func124
@[irreducible] def OO :bG yF [.agg [.fn 180 [] [.aI gI 0],.aI vJ 0],aS]:=fx n (abE n) (rJ n) dP Tryz.f75
def abF:bF:=DX 75 (OO n) (abE n)
theorem aus:bg E (abF n):=bI (by unfold OO;rfl) (aur n) (wU n) Tryz.func75
@[irreducible] def J8 :bG yF [.agg [.dF,.cB],aS]:=fx n (abF n) (rJ n) dP Tryz.f75
def abG:bF:=DX 75 (J8 n) (abF n)
theorem aut:bg E (abG n):=bI (by unfold J8;rfl) (aus n) (wU n) Tryz.func75
@[irreducible] def OP :bG yF [.agg [.fn 180 [] [.aI gI 0],.cB],aS]:=fx n (abG n) (rJ n) dP Tryz.f76
def abH:bF:=DX 76 (OP n) (abG n)
theorem auu:bg E (abH n):=bI (by unfold OP;rfl) (aut n) (wU n) Tryz.func76
@[irreducible] def Ga :bG yF [.agg [.dF,.cB],aS]:=fx n (abH n) (rJ n) dP Tryz.f76
def abI:bF:=DX 76 (Ga n) (abH n)
theorem auv:bg E (abI n):=bI (by unfold Ga;rfl) (auu n) (wU n) Tryz.func76
@[irreducible] def Vx :bG yF [.agg [.fn 125 [] [.aI gI 0,.aI aaX 0],.cB],aS]:=fx n (abI n) (rJ n) dP Tryz.f77
def abJ:bF:=DX 77 (Vx n) (abI n)
theorem auw:bg E (abJ n):=bI (by unfold Vx;rfl) (auv n) (wU n) Tryz.func77
@[irreducible] def Eb :bG yF [.agg [.dF,.cB],aS]:=fx n (abJ n) (rJ n) dP Tryz.f77
def abK:bF:=DX 77 (Eb n) (abJ n)
theorem auy:bg E (abK n):=bI (by unfold Eb;rfl) (auw n) (wU n) Tryz.func77
@[irreducible] def Vy :bG yF [.agg [.dF,.cB],aS]:=fx n (abK n) (rJ n) dP Tryz.f78
def OQ:bF:=gx 78 (Vy n) (abK n)
theorem abL:bg E (OQ n):=bI (by unfold Vy;rfl) (auy n) (wU n) Tryz.func78
abbrev OT:List aM:=[yD]
abbrev OU:List (Nat×d9):=[]
abbrev OV:List (Nat×d9):=[]
abbrev OW:r9:=.arr (.int .i64)
@[irreducible] def Ec (p:aW R.T OT)(q:cZ R.T OU):Option (sj R.T OW×cZ R.T OV):=UO (α:=Den R.T (.int .i64)) p (TK E R n true (OQ n) (rJ n) UU Tryz.f126 OT OU OW OV p q)
theorem auz:Uk E 126 OT OU OW OV (Ec n):=by intro p q y q' h;have h:Ec n p q=some (y,q'):=h;unfold Ec at h;exact aiX as6 h fun h hn=>ah9 nL (abL n) (wU n) h Tryz.func126 rfl aA hn
def abM:IR R:=mO 126 (ML OT OU OW OV (Ec n)) (rJ n)
theorem ajh:kg E (abM n):=sK (m:=ML OT OU OW OV (Ec n)) (wU n) (nK.N (auz n))
abbrev OX:List aM:=[zJ]
abbrev OY:List (Nat×d9):=[]
abbrev OZ:List (Nat×d9):=[]
abbrev O1:r9:=.arr (.st 7)
@[irreducible] def Ed (p:aW R.T OX)(q:cZ R.T OY):Option (sj R.T O1×cZ R.T OZ):=UO (α:=Den R.T (.st 7)) p (TK E R n true (OQ n) (abM n) UU Tryz.f127 OX OY O1 OZ p q)
theorem auA:Uk E 127 OX OY O1 OZ (Ed n):=by intro p q y q' h;have h:Ed n p q=some (y,q'):=h;unfold Ed at h;exact aiX as7 h fun h hn=>ah9 nL (abL n) (ajh n) h Tryz.func127 rfl aA hn
def J9:IR R:=mO 127 (ML OX OY O1 OZ (Ed n)) (abM n)
theorem abN:kg E (J9 n):=sK (m:=ML OX OY O1 OZ (Ed n)) (ajh n) (nK.N (auA n))
@[irreducible] def aji :bG [.d (.st 7),.d (.st 7)] gI:=fx n (OQ n) (J9 n) dP Tryz.f128
def uD:bF:=gx 128 (aji n) (OQ n)
theorem Gb:bg E (uD n):=bI (by unfold aji;rfl) (abL n) (abN n) Tryz.func128
abbrev O4:List aM:=[.aJ 1000000 (.st 7),aS,aS,.fn 128 [] []]
abbrev O5:List aM:=[]
abbrev Ka:List (Nat×d9):=[(1000000,.arr (.st 7))]
@[irreducible] def Ee (p:aW R.T O4)(q:cZ R.T Ka):Option (aW R.T O5×cZ R.T Ka):=sD E R n false (uD n) (J9 n) JY Tryz.f165 O4 Ka O5 p q
theorem auB:sI E 165 O4 Ka O5 (Ee n):=by intro p q y q' h;have h:Ee n p q=some (y,q'):=h;unfold Ee at h;exact yC nL (Gb n) (abN n) h Tryz.func165 rfl aA
def abO:IR R:=mO 165 (jA O4 Ka O5 (Ee n)) (J9 n)
theorem ajj:kg E (abO n):=sK (m:=jA O4 Ka O5 (Ee n)) (abN n) (nK.M (auB n))
abbrev O6:List aM:=[.aJ 1000000 (.st 7),aS,aS,aS,.fn 128 [] []]
abbrev O7:List aM:=[]
abbrev Kc:List (Nat×d9):=[(1000000,.arr (.st 7))]
@[irreducible] def O8 (p:aW R.T O6)(q:cZ R.T Kc):Option (aW R.T O7×cZ R.T Kc):=sD E R n false (uD n) (abO n) abA Tryz.f208 O6 Kc O7 p q
theorem auC:sI E 208 O6 Kc O7 (O8 n):=by intro p q y q' h;have h:O8 n p q=some (y,q'):=h;unfold O8 at h;exact yC nL (Gb n) (ajj n) h Tryz.func208 rfl aA
def abP:IR R:=mO 208 (jA O6 Kc O7 (O8 n)) (abO n)
theorem ajk:kg E (abP n):=sK (m:=jA O6 Kc O7 (O8 n)) (ajj n) (nK.M (auC n))
abbrev O9:List aM:=[.aJ 1000000 (.st 7),aS,aS,aS,.fn 128 [] []]
abbrev Pb:List aM:=[]
abbrev Ke:List (Nat×d9):=[(1000000,.arr (.st 7))]
@[irreducible] def Pd (p:aW R.T O9)(q:cZ R.T Ke):Option (aW R.T Pb×cZ R.T Ke):=sD E R n false (uD n) (abP n) abB Tryz.f191 O9 Ke Pb p q
theorem auD:sI E 191 O9 Ke Pb (Pd n):=by intro p q y q' h;have h:Pd n p q=some (y,q'):=h;unfold Pd at h;exact yC nL (Gb n) (ajk n) h Tryz.func191 rfl aA
def Vz:IR R:=mO 191 (jA O9 Ke Pb (Pd n)) (abP n)
theorem ajl:kg E (Vz n):=sK (m:=jA O9 Ke Pb (Pd n)) (ajk n) (nK.M (auD n))
abbrev wV:List aM:=[.aJ 1000000 (.st 7),aS,aS,aS,.fn 128 [] []]
abbrev zL:List aM:=[]
abbrev uE:List (Nat×d9):=[(1000000,.arr (.st 7))]
def Ef (n:Nat):Nat->aW R.T wV->cZ R.T uE->Option (aW R.T zL×cZ R.T uE)
 |0,_,_=>none|m+1,p,q=>sD E R n false (uD n) (mO 166 (jA wV uE zL (Ef n m)) (Vz n)) pU Tryz.f166 wV uE zL p q
attribute [irreducible] Ef
theorem auE (n m:Nat)(p:aW R.T wV)(q:cZ R.T uE):Ef n (m+1) p q=sD E R n false (uD n) (mO 166 (jA wV uE zL (Ef n m)) (Vz n)) pU Tryz.f166 wV uE zL p q:=aA
theorem auF (p:aW R.T wV)(q:cZ R.T uE):Ef n 0 p q=none:=aA
theorem ajm (n:Nat):∀m,sI E 166 wV uE zL (Ef n m)
 |0=>fun p q y q' h=>absurd (((auF n p q).symm.trans h)) nofun
 |m+1=>fun p q y q' h=>yC nL (Gb n) (sK (m:=(jA wV uE zL (Ef n m))) (ajl n) (nK.M (ajm n m))) ((auE n m p q).symm.trans h) Tryz.func166 rfl aA
@[irreducible] def Pe :aW R.T wV->cZ R.T uE->Option (aW R.T zL×cZ R.T uE):=Ef n n
theorem auG:sI E 166 wV uE zL (Pe n):=by unfold Pe;exact ajm n n
def Kg:IR R:=mO 166 (jA wV uE zL (Pe n)) (Vz n)
theorem ajn:kg E (Kg n):=sK (m:=jA wV uE zL (Pe n)) (ajl n) (nK.M (auG n))
abbrev Pf:List aM:=[.aJ 1000000 (.st 7),aS,.fn 128 [] []]
abbrev Pg:List aM:=[]
abbrev Kh:List (Nat×d9):=[(1000000,.arr (.st 7))]
@[irreducible] def Gc (p:aW R.T Pf)(q:cZ R.T Kh):Option (aW R.T Pg×cZ R.T Kh):=sD E R n false (uD n) (Kg n) D7 Tryz.f120 Pf Kh Pg p q
theorem auH:sI E 120 Pf Kh Pg (Gc n):=by intro p q y q' h;have h:Gc n p q=some (y,q'):=h;unfold Gc at h;exact yC nL (Gb n) (ajn n) h Tryz.func120 rfl aA
def abQ:IR R:=mO 120 (jA Pf Kh Pg (Gc n)) (Kg n)
theorem ajo:kg E (abQ n):=sK (m:=jA Pf Kh Pg (Gc n)) (ajn n) (nK.M (auH n))
abbrev Ph:List aM:=[.aJ 1000000 (.st 7),.fn 128 [] []]
abbrev Pj:List aM:=[]
abbrev Ki:List (Nat×d9):=[(1000000,.arr (.st 7))]
@[irreducible] def Cn (p:aW R.T Ph)(q:cZ R.T Ki):Option (aW R.T Pj×cZ R.T Ki):=sD E R n false (uD n) (abQ n) UU Tryz.f71 Ph Ki Pj p q
theorem auI:sI E 71 Ph Ki Pj (Cn n):=by intro p q y q' h;have h:Cn n p q=some (y,q'):=h;unfold Cn at h;exact yC nL (Gb n) (ajo n) h Tryz.func71 rfl aA
def bY:IR R:=mO 71 (jA Ph Ki Pj (Cn n)) (abQ n)
theorem fJ:kg E (bY n):=sK (m:=jA Ph Ki Pj (Cn n)) (ajo n) (nK.M (auI n))
@[irreducible] def VA :bG [.aI vJ 0] [dU]:=fx n (uD n) (bY n) dP Tryz.f64
def abR:bF:=gx 64 (VA n) (uD n)
theorem auJ:bg E (abR n):=bI (by unfold VA;rfl) (Gb n) (fJ n) Tryz.func64
@[irreducible] def VB :bG [.aI vJ 0] [dU]:=fx n (abR n) (bY n) dP Tryz.f65
def abS:bF:=gx 65 (VB n) (abR n)
theorem auK:bg E (abS n):=bI (by unfold VB;rfl) (auJ n) (fJ n) Tryz.func65
@[irreducible] def VD :bG [.aI vJ 0] [dU]:=fx n (abS n) (bY n) dP Tryz.f66
def abT:bF:=gx 66 (VD n) (abS n)
theorem auL:bg E (abT n):=bI (by unfold VD;rfl) (auK n) (fJ n) Tryz.func66
@[irreducible] def VE :bG [.aI vJ 0] [dU]:=fx n (abT n) (bY n) dP Tryz.f67
def abU:bF:=gx 67 (VE n) (abT n)
theorem auM:bg E (abU n):=bI (by unfold VE;rfl) (auL n) (fJ n) Tryz.func67
@[irreducible] def VF :bG [dU,aS] [dU]:=fx n (abU n) (bY n) dP Tryz.f104
def VG:bF:=gx 104 (VF n) (abU n)
theorem auN:bg E (VG n):=bI (by unfold VF;rfl) (auM n) (fJ n) Tryz.func104
def ajp:fU:=⟨[(2,⟨[2,9,10],[],⟨[(1,dU),(11,aS)],[]⟩,[(.exit 0,⟨[(1,dU)],[]⟩)]⟩)],[]⟩
@[irreducible] def VH :bG [yD,dU,.fn 104 [] []] [dU]:=fx n (VG n) (bY n) ajp Tryz.f103
def abV:bF:=gx 103 (VH n) (VG n)
theorem auO:bg E (abV n):=bI (by unfold VH;rfl) (auN n) (fJ n) Tryz.func103
@[irreducible] def Kj :bG [yD] [dU]:=fx n (abV n) (bY n) dP Tryz.f56
def abW:bF:=gx 56 (Kj n) (abV n)
theorem auP:bg E (abW n):=bI (by unfold Kj;rfl) (auO n) (fJ n) Tryz.func56
@[irreducible] def VI :bG [.aI vJ 0,.aI JK 0] [dU]:=fx n (abW n) (bY n) dP Tryz.f68
def abX:bF:=gx 68 (VI n) (abW n)
theorem auQ:bg E (abX n):=bI (by unfold VI;rfl) (auP n) (fJ n) Tryz.func68
@[irreducible] def VJ :bG [.kl [.agg [.fn 64 [] [.aI vJ 0],aS],.agg [.fn 65 [] [.aI vJ 0],aS],.agg [.fn 66 [] [.aI vJ 0],aS],.agg [.fn 67 [] [.aI vJ 0],aS],.agg [.fn 68 [] [.aI vJ 0,.aI JK 0],aS]]] gI:=fx n (abX n) (bY n) dP Tryz.f63
def abY:bF:=gx 63 (VJ n) (abX n)
theorem auR:bg E (abY n):=bI (by unfold VJ;rfl) (auQ n) (fJ n) Tryz.func63
@[irreducible] def Pk :bG [.d (.st 0),.aI yE 0] [dU]:=fx n (abY n) (bY n) dP Tryz.f112
def VK:bF:=gx 112 (Pk n) (abY n)
theorem auS:bg E (VK n):=bI (by unfold Pk;rfl) (auR n) (fJ n) Tryz.func112
@[irreducible] def Pm :bG [.d (.slice (.st 0)),.fn 112 [] [.aI yE 0]] gI:=fx n (VK n) (bY n) JO Tryz.f111
def abZ:bF:=gx 111 (Pm n) (VK n)
theorem auT:bg E (abZ n):=bI (by unfold Pm;rfl) (auS n) (fJ n) Tryz.func111
@[irreducible] def VL :bG [.aI yE 0,.aI [.d .str] 0] [dU]:=fx n (abZ n) (bY n) dP Tryz.f113
def ab0:bF:=gx 113 (VL n) (abZ n)
theorem auU:bg E (ab0 n):=bI (by unfold VL;rfl) (auT n) (fJ n) Tryz.func113
@[irreducible] def VN :bG [.aI yE 0,.aI mQ 0] [dU]:=fx n (ab0 n) (bY n) dP Tryz.f114
def ab1:bF:=gx 114 (VN n) (ab0 n)
theorem auV:bg E (ab1 n):=bI (by unfold VN;rfl) (auU n) (fJ n) Tryz.func114
@[irreducible] def VO :bG [.aI [dU] 0,.aI yE 0] [dU]:=fx n (ab1 n) (bY n) dP Tryz.f115
def ab2:bF:=gx 115 (VO n) (ab1 n)
theorem auW:bg E (ab2 n):=bI (by unfold VO;rfl) (auV n) (fJ n) Tryz.func115
@[irreducible] def VP :bG [.aI [dU] 0,.aI yE 0,.aI mQ 0] [dU]:=fx n (ab2 n) (bY n) dP Tryz.f116
def VQ:bF:=gx 116 (VP n) (ab2 n)
theorem auX:bg E (VQ n):=bI (by unfold VP;rfl) (auW n) (fJ n) Tryz.func116
@[irreducible] def Pn :bG [Ci,.d .str] gI:=fx n (VQ n) (bY n) JO Tryz.f164
def ab3:bF:=gx 164 (Pn n) (VQ n)
theorem auY:bg E (ab3 n):=bI (by unfold Pn;rfl) (auX n) (fJ n) Tryz.func164
@[irreducible] def Bb :bG [Ci,.d .str] [dU]:=fx n (ab3 n) (bY n) dP Tryz.f118
def Po:bF:=gx 118 (Bb n) (ab3 n)
theorem ajq:bg E (Po n):=bI (by unfold Bb;rfl) (auY n) (fJ n) Tryz.func118
@[irreducible] def VR :bG [.aI [dU] 0,.aI mQ 0,.aI yE 0] [dU]:=fx n (Po n) (bY n) dP Tryz.f117
def ab4:bF:=gx 117 (VR n) (Po n)
theorem auZ:bg E (ab4 n):=bI (by unfold VR;rfl) (ajq n) (fJ n) Tryz.func117
@[irreducible] def Pp :bG [.kl [.agg [.fn 113 [] [.aI yE 0,.aI [.d .str] 0],aS],.agg [.fn 114 [] [.aI yE 0,.aI mQ 0],aS],.agg [.fn 115 [] [.aI [dU] 0,.aI yE 0],aS],.agg [.fn 116 [] [.aI [dU] 0,.aI yE 0,.aI mQ 0],aS],.agg [.fn 117 [] [.aI [dU] 0,.aI mQ 0,.aI yE 0],aS]]] gI:=fx n (ab4 n) (bY n) dP Tryz.f63
def VT:bF:=gx 63 (Pp n) (ab4 n)
theorem au0:bg E (VT n):=bI (by unfold Pp;rfl) (auZ n) (fJ n) Tryz.func63
def ajr:fU:=⟨[(3,⟨[2,5,12,13],[2],⟨[(14,aS)],[(5,.cells [.d .str])]⟩,[(.exit 0,⟨[],[]⟩),(.ret,⟨[(4,aS)],[]⟩)]⟩)],[]⟩
@[irreducible] def Pq :bG [.d (.st 1),.d (.slice (.st 5))] gI:=fx n (VT n) (bY n) ajr Tryz.f69
def ab5:bF:=gx 69 (Pq n) (VT n)
theorem au1:bg E (ab5 n):=bI (by unfold Pq;rfl) (au0 n) (fJ n) Tryz.func69
@[irreducible] def yG :bG [.d (.st 1),.d (.st 6)] gI:=fx n (ab5 n) (bY n) dP Tryz.f24
def Kk:bF:=gx 24 (yG n) (ab5 n)
theorem au2:bg E (Kk n):=bI (by unfold yG;rfl) (au1 n) (fJ n) Tryz.func24
def iV:fU:=⟨[(5,⟨[3,4,5,6,8,9],[3,4,5,6,8,32,35],⟨[],[(9,.cells gI)]⟩,[(.normal,⟨[],[(9,.cells gI)]⟩)]⟩),
 (10,⟨[3,4,5,6,8,9,12],[3,4,5,6,8,9,32],⟨[],[(12,.cells [.aJ 102 (.st 7)]),(35,.arr (.st 7)),(102,.arr (.st 7))]⟩,[(.normal,⟨[],[(12,.cells [.aJ 102 (.st 7)]),(35,.arr (.st 7)),(102,.arr (.st 7))]⟩)]⟩),
 (22,⟨[3,4,6,8,9,12,117],[3,4,6,8,9,12,32,35],⟨[(118,aS)],[(102,.arr (.st 7))]⟩,[(.exit 4,⟨[],[(102,.arr (.st 7))]⟩)]⟩)],[]⟩
@[irreducible] def QQ :bG [.agg [.dF,.cB],sP,AY] sQ:=fo n (Kk n) (bY n) iV Tryz.f79
def Kl:bF:=gx 79 (QQ n) (Kk n)
theorem au3:bg E (Kl n):=bI (by unfold QQ;rfl) (au2 n) (fJ n) Tryz.func79
@[irreducible] def Pt :bG [.agg [.dF,.aI vJ 0],sP,AY] sQ:=fo n (Kl n) (bY n) iV Tryz.f79
def ab6:bF:=gx 79 (Pt n) (Kl n)
theorem au4:bg E (ab6 n):=bI (by unfold Pt;rfl) (au3 n) (fJ n) Tryz.func79
@[irreducible] def Pv :bG [.d (.st 6),.aI gI 0] [aS,aS]:=fx n (ab6 n) (bY n) dP Tryz.f180
def Km:bF:=gx 180 (Pv n) (ab6 n)
theorem au5:bg E (Km n):=bI (by unfold Pv;rfl) (au4 n) (fJ n) Tryz.func180
@[irreducible] def Pw :bG [.agg [.fn 180 [] [.aI gI 0],.aI vJ 0],sP,AY] sQ:=fo n (Km n) (bY n) iV Tryz.f79
def Kn:bF:=gx 79 (Pw n) (Km n)
theorem au6:bg E (Kn n):=bI (by unfold Pw;rfl) (au5 n) (fJ n) Tryz.func79
@[irreducible] def Px :bG [.agg [.fn 180 [] [.aI gI 0],.cB],sP,AY] sQ:=fo n (Kn n) (bY n) iV Tryz.f79
def ab7:bF:=gx 79 (Px n) (Kn n)
theorem au7:bg E (ab7 n):=bI (by unfold Px;rfl) (au6 n) (fJ n) Tryz.func79
@[irreducible] def Py :bG [.d (.st 6),.aI gI 0,.aI aaX 0] [aS,aS]:=fx n (ab7 n) (bY n) dP Tryz.f125
def Ko:bF:=gx 125 (Py n) (ab7 n)
theorem au8:bg E (Ko n):=bI (by unfold Py;rfl) (au7 n) (fJ n) Tryz.func125
@[irreducible] def Pz :bG [.agg [.fn 125 [] [.aI gI 0,.aI aaX 0],.cB],sP,AY] sQ:=fo n (Ko n) (bY n) iV Tryz.f79
def ab8:bF:=gx 79 (Pz n) (Ko n)
theorem au9:bg E (ab8 n):=bI (by unfold Pz;rfl) (au8 n) (fJ n) Tryz.func79
@[irreducible] def Gd :bG [sP,AY] sQ:=fx n (ab8 n) (bY n) dP Tryz.f28
def VU:bF:=gx 28 (Gd n) (ab8 n)
theorem ava:bg E (VU n):=bI (by unfold Gd;rfl) (au9 n) (fJ n) Tryz.func28
def ajs:fU:=⟨[(5,⟨[1,4,7,22,23],[],⟨[(24,aS)],[(4,.st 8),(7,.st 8)]⟩,[(.exit 0,⟨[],[(4,.st 8),(7,.st 8)]⟩),(.ret,⟨[(5,aS),(6,aS)],[(4,.st 8)]⟩)]⟩)],[]⟩
@[irreducible] def Kq :bG [.d (.st 1),.d (.slice (.st 13))] [sP,aS,aS]:=fx n (VU n) (bY n) ajs Tryz.f23
def VW:bF:=gx 23 (Kq n) (VU n)
theorem avb:bg E (VW n):=bI (by unfold Kq;rfl) (ava n) (fJ n) Tryz.func23
def ajt:fU:=⟨[(2,⟨[1,2],[2],⟨[(5,aS)],[]⟩,[(.exit 0,⟨[],[]⟩),(.ret,⟨[(4,dU)],[]⟩)]⟩)],[]⟩
@[irreducible] def PD :bG sQ [dU]:=fx n (VW n) (bY n) ajt Tryz.f130
def VX:bF:=gx 130 (PD n) (VW n)
theorem avc:bg E (VX n):=bI (by unfold PD;rfl) (avb n) (fJ n) Tryz.func130
@[irreducible] def PE :bG [yD] [dU]:=fx n (VX n) (bY n) JQ Tryz.f58
def VY:bF:=gx 58 (PE n) (VX n)
theorem avd:bg E (VY n):=bI (by unfold PE;rfl) (avc n) (fJ n) Tryz.func58
def VZ:fU:=⟨[(2,⟨[1,2],[2],⟨[(5,aS)],[]⟩,[(.exit 0,⟨[],[]⟩),(.ret,⟨[(4,aS)],[]⟩)]⟩)],[]⟩
@[irreducible] def PG :bG [.d (.st 1),.d .str] gI:=fx n (VY n) (bY n) VZ Tryz.f95
def ab9:bF:=gx 95 (PG n) (VY n)
theorem ave:bg E (ab9 n):=bI (by unfold PG;rfl) (avd n) (fJ n) Tryz.func95
@[irreducible] def Kr :bG [.d (.st 0),.d (.st 5)] gI:=fx n (ab9 n) (bY n) dP Tryz.f193
def V3:bF:=gx 193 (Kr n) (ab9 n)
theorem avf:bg E (V3 n):=bI (by unfold Kr;rfl) (ave n) (fJ n) Tryz.func193
@[irreducible] def Gf :bG [.d (.st 1),.d (.slice (.st 5))] gI:=fx n (V3 n) (bY n) VZ Tryz.f181
def acd:bF:=gx 181 (Gf n) (V3 n)
theorem avg:bg E (acd n):=bI (by unfold Gf;rfl) (avf n) (fJ n) Tryz.func181
@[irreducible] def Bc :bG [.d (.st 1),.d (.st 6)] gI:=fx n (acd n) (bY n) dP Tryz.f131
def V4:bF:=gx 131 (Bc n) (acd n)
theorem avh:bg E (V4 n):=bI (by unfold Bc;rfl) (avg n) (fJ n) Tryz.func131
def aju:fU:=⟨[(3,⟨[1,2],[2],⟨[(5,aS),(6,aS)],[]⟩,[(.exit 0,⟨[(5,aS)],[]⟩)]⟩)],[]⟩
@[irreducible] def PI :bG sQ gI:=fx n (V4 n) (bY n) aju Tryz.f132
def V5:bF:=gx 132 (PI n) (V4 n)
theorem avi:bg E (V5 n):=bI (by unfold PI;rfl) (avh n) (fJ n) Tryz.func132
def ajv:fU:=⟨[(3,⟨[1,2,3,9],[],⟨[(10,aS)],[(13,.arr (.st 7))]⟩,[(.exit 0,⟨[],[(13,.arr (.st 7))]⟩)]⟩)],[]⟩
@[irreducible] def Kt :bG [zJ,aS,aS,aS] [zJ]:=fo n (V5 n) (bY n) ajv Tryz.f133
def V6:bF:=gx 133 (Kt n) (V5 n)
theorem avj:bg E (V6 n):=bI (by unfold Kt;rfl) (avi n) (fJ n) Tryz.func133
def ajw:fU:=⟨[(5,⟨[2,3,5,6,9,10],[5,6,9,10],⟨[(11,aS),(12,.l .any (.st 7)),(13,.l (.own 95) (.st 7)),(14,aS)],[]⟩,[(.exit 0,⟨[(11,aS),(12,.l .any (.st 7)),(13,.l (.own 95) (.st 7))],[]⟩)]⟩)],[]⟩
@[irreducible] def Bd :bG [sP,AY,zJ,.d (.slice (.st 16)),.d (.st 6)] [.d (.st 14)]:=fx n (V6 n) (bY n) ajw Tryz.f83
def ace:bF:=gx 83 (Bd n) (V6 n)
theorem avk:bg E (ace n):=bI (by unfold Bd;rfl) (avj n) (fJ n) Tryz.func83
@[irreducible] def PK :bG [sP,AY] [.d (.st 14)]:=fx n (ace n) (bY n) dP Tryz.f82
def PL:bF:=gx 82 (PK n) (ace n)
theorem avl:bg E (PL n):=bI (by unfold PK;rfl) (avk n) (fJ n) Tryz.func82
def acf:fU:=⟨[(3,⟨[1,2],[2],⟨[(5,.aJ 42 (.st 7)),(6,aS)],[(42,.arr (.st 7))]⟩,[(.exit 0,⟨[(5,.aJ 42 (.st 7))],[(42,.arr (.st 7))]⟩)]⟩),
 (8,⟨[1,2,5,6],[2],⟨[(7,aS)],[(42,.arr (.st 7))]⟩,[(.exit 2,⟨[(7,aS)],[(42,.arr (.st 7))]⟩)]⟩)],[]⟩
@[irreducible] def Bf :bG sQ [zJ]:=fo n (PL n) (bY n) acf Tryz.f40
def acg:bF:=gx 40 (Bf n) (PL n)
theorem avm:bg E (acg n):=bI (by unfold Bf;rfl) (avl n) (fJ n) Tryz.func40
@[irreducible] def Eh :bG [zJ] gI:=fx n (acg n) (bY n) dP Tryz.f134
def V7:bF:=gx 134 (Eh n) (acg n)
theorem avn:bg E (V7 n):=bI (by unfold Eh;rfl) (avm n) (fJ n) Tryz.func134
def ajx:fU:=⟨[(6,⟨[2,3,4,6,7],[3,4,6],⟨[(8,.l (.own 54) (.st 16)),(9,aS)],[]⟩,[(.exit 0,⟨[(8,.l (.own 54) (.st 16))],[]⟩)]⟩)],[]⟩
@[irreducible] def Gg :bG yF [.d (.st 14)]:=fx n (V7 n) (bY n) ajx Tryz.f84
def V8:bF:=gx 84 (Gg n) (V7 n)
theorem avo:bg E (V8 n):=bI (by unfold Gg;rfl) (avn n) (fJ n) Tryz.func84
def ajy:fU:=⟨[(5,⟨[2,3,4,6],[3,4,6],⟨[(7,.l (.own 46) (.st 16)),(8,aS)],[]⟩,[(.exit 0,⟨[(7,.l (.own 46) (.st 16))],[]⟩)]⟩)],[]⟩
@[irreducible] def Gh :bG yF [.d (.st 14)]:=fx n (V8 n) (bY n) ajy Tryz.f85
def V9:bF:=gx 85 (Gh n) (V8 n)
theorem avp:bg E (V9 n):=bI (by unfold Gh;rfl) (avo n) (fJ n) Tryz.func85
def ajz:fU:=⟨[(8,⟨[2,3,4,6,7],[3,4,6],⟨[(8,.l (.own 78) (.st 16)),(9,aS)],[]⟩,[(.exit 0,⟨[(8,.l (.own 78) (.st 16))],[]⟩)]⟩)],[]⟩
@[irreducible] def Gi :bG yF [.d (.st 14)]:=fx n (V9 n) (bY n) ajz Tryz.f86
def ach:bF:=gx 86 (Gi n) (V9 n)
theorem avq:bg E (ach n):=bI (by unfold Gi;rfl) (avp n) (fJ n) Tryz.func86
@[irreducible] def Gj :bG [sP,AY] [.d (.st 14)]:=fx n (ach n) (bY n) dP Tryz.f35
def Wd:bF:=gx 35 (Gj n) (ach n)
theorem avr:bg E (Wd n):=bI (by unfold Gj;rfl) (avq n) (fJ n) Tryz.func35
def ajA:fU:=⟨[(3,⟨[1,4,5],[],⟨[(6,aS)],[(4,.st 9),(5,.st 14)]⟩,[(.exit 0,⟨[],[(4,.st 9),(5,.st 14)]⟩),(.ret,⟨[],[(4,.st 9)]⟩)]⟩)],[]⟩
@[irreducible] def PN :bG [.d (.st 1),.d (.slice (.st 13))] [.d (.st 9)]:=fx n (Wd n) (bY n) ajA Tryz.f14
def aci:bF:=gx 14 (PN n) (Wd n)
theorem avs:bg E (aci n):=bI (by unfold PN;rfl) (avr n) (fJ n) Tryz.func14
@[irreducible] def Ku :bG sQ gI:=fx n (aci n) (bY n) dP Tryz.f51
def acj:bF:=gx 51 (Ku n) (aci n)
theorem avt:bg E (acj n):=bI (by unfold Ku;rfl) (avs n) (fJ n) Tryz.func51
@[irreducible] def PO :bG [sP,.d (.st 7)] [dU]:=fx n (acj n) (bY n) dP Tryz.f36
def acn:bF:=gx 36 (PO n) (acj n)
theorem avu:bg E (acn n):=bI (by unfold PO;rfl) (avt n) (fJ n) Tryz.func36
@[irreducible] def Kv :bG sQ gI:=fx n (acn n) (bY n) dP Tryz.f53
def aco:bF:=gx 53 (Kv n) (acn n)
theorem avv:bg E (aco n):=bI (by unfold Kv;rfl) (avu n) (fJ n) Tryz.func53
@[irreducible] def PS :bG [sP,.d (.st 7)] [dU]:=fx n (aco n) (bY n) dP Tryz.f37
def acp:bF:=gx 37 (PS n) (aco n)
theorem avw:bg E (acp n):=bI (by unfold PS;rfl) (avv n) (fJ n) Tryz.func37
@[irreducible] def Kw :bG sQ [aS,dU]:=fx n (acp n) (bY n) dP Tryz.f27
def acr:bF:=gx 27 (Kw n) (acp n)
theorem avx:bg E (acr n):=bI (by unfold Kw;rfl) (avw n) (fJ n) Tryz.func27
@[irreducible] def Ky :bG sQ [.d (.st 15)]:=fx n (acr n) (bY n) dP Tryz.f38
def Wh:bF:=gx 38 (Ky n) (acr n)
theorem avy:bg E (Wh n):=bI (by unfold Ky;rfl) (avx n) (fJ n) Tryz.func38
def acs:fU:=⟨[(14,⟨[2,10,13,84,85],[10,13],⟨[(86,aS)],[]⟩,[(.exit 0,⟨[],[]⟩),(.ret,⟨[(6,dU)],[]⟩)]⟩),
 (22,⟨[2,10,13,114],[10,13],⟨[(115,aS)],[]⟩,[(.exit 2,⟨[],[]⟩),(.ret,⟨[(6,dU)],[]⟩)]⟩)],[]⟩
@[irreducible] def Wi :bG [.d (.st 1),.d (.slice (.st 13)),aS] [dU]:=fx n (Wh n) (bY n) acs Tryz.f8
theorem avz (p x)(h:Wi n p=some x):Pure E 8 (bX R [.d (.st 1),.d (.slice (.st 13)),aS] p) (nZ (bX R [dU] x)):=aiZ (by unfold Wi;rfl) (avy n) (fJ n) Tryz.func8 (p:=p) (h:=h)
end Sh
