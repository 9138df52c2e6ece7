import Derived.Test.YthadiihdjhakdaaGreatF2216
set_option linter.all false
noncomputable section
open Go Go.Proofs aR
namespace Sh
set_option maxRecDepth 100000
abbrev cK (a r:List aC):=av R.T a->Option (av R.T r)
abbrev bT:=Nat->List (fC R)
def Py (i:Nat)(a r:List aC)(F:av R.T a->Option (av R.T r)):Prop:=∀p x,F p=some x->Pure E i (aF R a p) (bq (aF R r x))
theorem okF {n:Nat}{aj:Bool}{F:Nat->List (fC R)}{A:bC}{i:Nat}{fn:Func}{a r:List aC}{p:av R.T a}{x:av R.T r}(hF:aZ E F)(h:bP E R n aj F uE A fn a r p=some x)(hf:E.P.funcs[i]? =some fn)(hok:(match fn.body with|some c=>decide (a.length<=fn.ntmps)&& jy fn.ntmps c&& sN E c|none=>false)=true)(ha:gP a=true:=by rfl)(hl:(aF R a p).length=a.length:=by rfl)(ho:E.aj i=aj:=by rfl)(hs:E.rU i=none:=by rfl):Pure E i (aF R a p) (bq (aF R r x)):=bR bD hF Jr h hf ha hl ho hs hok
def awn:bC:=⟨[],[]⟩
abbrev WQ:List aC:=[.d (.st 10)]
abbrev Pz:List aC:=[.d (.int .i64)]
@[irreducible] def WN (n:Nat):cK WQ Pz:=bP E R n false (abL n) uE awn Tryz.f150 WQ Pz
theorem awo (n:Nat):Py 150 WQ Pz (WN n):=fun _ _ h=>by unfold WN at h;exact okF (ajs n) h Tryz.func150 aA
def g_1 (n:Nat):bT:=bK 150 ⟨WQ,Pz,WN n,bn R Pz,false,false⟩ (abL n)
theorem aju (n:Nat):aZ E (g_1 n):=bI (ajs n) (awo n)
def awp:bC:=⟨[],[]⟩
abbrev WR:List aC:=[.d (.int .i64)]
abbrev PD:List aC:=[.d .bool]
@[irreducible] def We (n:Nat):cK WR PD:=bP E R n false (g_1 n) uE awp Tryz.f110 WR PD
theorem awq (n:Nat):Py 110 WR PD (We n):=fun _ _ h=>by unfold We at h;exact okF (aju n) h Tryz.func110 aA
def g_2 (n:Nat):bT:=bK 110 ⟨WR,PD,We n,bn R PD,false,false⟩ (g_1 n)
theorem ajv (n:Nat):aZ E (g_2 n):=bI (aju n) (awq n)
def awr:bC:=⟨[],[]⟩
abbrev WS:List aC:=[.d (.int .i64),.d (.int .i64)]
abbrev PE:List aC:=[.d (.int .i64)]
@[irreducible] def UP (n:Nat):cK WS PE:=bP E R n false (g_2 n) uE awr Tryz.f61 WS PE
theorem awt (n:Nat):Py 61 WS PE (UP n):=fun _ _ h=>by unfold UP at h;exact okF (ajv n) h Tryz.func61 aA
def WT (n:Nat):bT:=bK 61 ⟨WS,PE,UP n,bn R PE,false,false⟩ (g_2 n)
theorem ajw (n:Nat):aZ E (WT n):=bI (ajv n) (awt n)
def ajx:bC:=⟨[(3,⟨[3,6,7],[],⟨[(8,.d (.int .i64))],[]⟩,[(.exit 0,⟨[],[]⟩),(.ret,⟨[(2,.d (.int .i64))],[]⟩)]⟩)],[]⟩
abbrev WU:List aC:=[.d (.slice (.int .i64))]
abbrev PG:List aC:=[.d (.int .i64)]
@[irreducible] def Js (n:Nat):cK WU PG:=bP E R n false (WT n) uE ajx Tryz.f149 WU PG
theorem awu (n:Nat):Py 149 WU PG (Js n):=fun _ _ h=>by unfold Js at h;exact okF (ajw n) h Tryz.func149 aA
def abM (n:Nat):bT:=bK 149 ⟨WU,PG,Js n,bn R PG,false,false⟩ (WT n)
theorem ajy (n:Nat):aZ E (abM n):=bI (ajw n) (awu n)
def awv:bC:=⟨[],[]⟩
abbrev WV:List aC:=[.d (.st 10),.d (.st 10)]
abbrev PI:List aC:=[.d (.int .i64)]
@[irreducible] def Jt (n:Nat):cK WV PI:=bP E R n false (abM n) uE awv Tryz.f148 WV PI
theorem ajz (n:Nat):Py 148 WV PI (Jt n):=fun _ _ h=>by unfold Jt at h;exact okF (ajy n) h Tryz.func148 aA
def FQ (n:Nat):bT:=bK 148 ⟨WV,PI,Jt n,bn R PI,false,false⟩ (abM n)
theorem PK (n:Nat):aZ E (FQ n):=bI (ajy n) (ajz n)
def WW:bC:=⟨[(3,⟨[3,7,16,17],[3],⟨[(18,.d (.int .i64))],[(15,.map (.int .i64) (.st 10))]⟩,[(.exit 0,⟨[],[(15,.map (.int .i64) (.st 10))]⟩)]⟩)],[]⟩
abbrev Ju:List aC:=[.agg [.fn 148 [] [],.fn 150 [] []],.d (.slice (.st 10)),.d (.int .i64)]
abbrev ajA:List aC:=[.dV (.int .i64) (.st 10)]
def kV (l:List Nat):Code:=(oQ Tryz.f99.body l).getD .skip
def ajB:Code:=.seq (kV [0]) (.seq (kV [1,0]) (kV [1,1,0]))
def WX (st:aH R.T):Bool:=match look st.fr 7,look st.fr 3,look st.ob 3 with
 |some (.cu 15),some (.ref 3 0),some (.cells [.fn 148 [] [],.fn 150 [] []])=>true|_,_,_=>false
def PL (e:Ex)(st:aH R.T):Option (av R.T ajA):=match e with
 |.normal=>bif WX st then (match look st.ob 15 with
  |some (.map (.int .i64) (.st 10) m)=>some m|_=>none) else none
 |_=>none
@[irreducible] def Jx (n:Nat)(p:av R.T Ju):Option (av R.T ajA):=fK E R n true (FQ n) uE WW ajB ⟨vk 0 (eF R .sh Ju p),[]⟩ PL
def aww:bC:=⟨[],[]⟩
abbrev ajC:List aC:=[.d (.slice (.st 10)),.d (.int .i64)]
abbrev FR:List aC:=[.d (.slice (.st 10))]
def WY:Code:=.seq (kV [1,1,1,1,1,1,0]) .ret
def ajD (e:Ex)(st:aH R.T):Option (av R.T FR):=match e with
 |.exit _=>none|_=>match sG E R st [.tmp 6] with
  |some vs=>dQ R FR (ng st vs)|none=>none
def ajE (p:av R.T ajC):aH R.T:=⟨[(2,.int .i64 p.2),(3,.ref 3 0),(12,.aM 50 (.st 10))],[(3,.cells [.fn 148 [] [],.fn 150 [] []]),(50,.arr (.st 10) p.1)]⟩
@[irreducible] def PN (n:Nat)(p:av R.T ajC):Option (av R.T FR):=fK E R n true (FQ n) uE aww WY (ajE p) ajD
abbrev PO (n:Nat):Nat->List (fC R):=FQ n
theorem ajF (n:Nat):aZ E (PO n):=PK n
abbrev dx (_:Nat):IR R:=uE
theorem gy (n:Nat):mK E (dx n):=Jr
end Sh
