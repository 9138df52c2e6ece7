import Derived.Test.YteniejlbjfigdaaGreatDoorF515
set_option linter.all false
noncomputable section
open Go Go.Proofs aR
namespace Sh
set_option maxRecDepth 100000
abbrev dM (a r:List bR):=bB R.T a->Option (bB R.T r)
abbrev Fv (a:List bR)(o:List (Nat×jA))(r:List bR):=bB R.T a->kZ R.T o->Option (bB R.T r×kZ R.T o)
abbrev bX:=Nat->List (iF R)
abbrev aV:bR:=.d (.int .i64)
abbrev aiq:bR:=.d (.st 0)
abbrev aBf:bR:=.d (.slice (.st 0))
abbrev aBg:=(1000000,jA.arr (.st 0))
abbrev aBh:=(1000000,jA.arr (.int .i64))
abbrev aP:=List bR
abbrev dR (i:Nat)(a r:List bR)(X:dM a r)(F:bX):bX:=ny i ⟨a,r,X,nR R r,false⟩ F
abbrev M0 (i:Nat)(a:List bR)(o:List (Nat×jA))(r:List bR)(X:Fv a o r)(I:IR R):IR R:=yC i ⟨a,o,r,X⟩ I
theorem dx {n:Nat}{aj:Bool}{F:bX}{I:IR R}{A:bP}{i:Nat}{fn:Func}{a r:List bR}{X:dM a r}(hF:bF E F)(hI:qO E I)(hX:X=dz E R n aj F I A fn a r)(hf:E.P.funcs[i]? =some fn)(hok:(match fn.body with|some c=>decide (a.length<=fn.ntmps)&& iD fn.ntmps c&& vN E c|none=>false)=true)(ha:lK a=true:=by rfl)(hl:∀p,(dw R a p).length=a.length:=by intro p;rfl)(ho:E.aj i=aj:=by rfl)(hs:E.mV i=none:=by rfl):bF E (dR i a r X F):=zG hF fun p _ h=>MP sQ hF hI ((congrFun hX p).symm.trans h) hf ha (hl p) ho hs hok
theorem SH {n:Nat}{aj:Bool}{F:bX}{I:IR R}{A:bP}{i:Nat}{fn:Func}{a r:List bR}{o:List (Nat×jA)}{X:Fv a o r}(hF:bF E F)(hI:qO E I)(hX:X=zw E R n aj F I A fn a o r)(hf:E.P.funcs[i]? =some fn)(hok:(match fn.body with|some c=>decide (a.length<=fn.ntmps)&& iD fn.ntmps c&& vN E c&&(uo r&& wU o&& IY o)|none=>false)=true)(ho:E.aj i=aj:=by rfl)(hg:E.imp i=true:=by rfl):qO E (M0 i a o r X I):=SA hI (fun p q _ _ h=>Yh sQ hF hI ((congrFun (congrFun hX p) q).symm.trans h) hf ho hok) hg
def YB (i:Nat)(a r:List bR)(F:bB R.T a->Option (bB R.T r)):Prop:=∀p x,F p=some x->Pure E i (dw R a p) (mJ (dw R r x))
theorem okF {n:Nat}{aj:Bool}{F:Nat->List (iF R)}{A:bP}{i:Nat}{fn:Func}{a r:List bR}{p:bB R.T a}{x:bB R.T r}(hF:bF E F)(h:dz E R n aj F bf A fn a r p=some x)(hf:E.P.funcs[i]? =some fn)(hok:(match fn.body with|some c=>decide (a.length<=fn.ntmps)&& iD fn.ntmps c&& vN E c|none=>false)=true)(ha:lK a=true:=by rfl)(hl:(dw R a p).length=a.length:=by rfl)(ho:E.aj i=aj:=by rfl)(hs:E.mV i=none:=by rfl):Pure E i (dw R a p) (mJ (dw R r x)):=MP sQ hF dH h hf ha hl ho hs hok
variable (n:Nat)
def atg:bP:=⟨[],[]⟩
abbrev YC:aP:=[]
abbrev YD:aP:=[.sg [.a .u32 8,.a .u8 64,.i .u64]]
@[irreducible] def M4:dM YC YD:=dz E R n false (Yx n) bf atg Tryz.f157 YC YD
def g_1:bX:=dR 157 YC YD (M4 n) (Yx n)
theorem ath:bF E (g_1 n):=dx (asV n) dH (by unfold M4;rfl) Tryz.func157 ay
def ati:bP:=⟨[],[]⟩
abbrev YE:aP:=[.d (.int .u32),aV]
abbrev YF:aP:=[.d (.int .u32)]
@[irreducible] def yE:dM YE YF:=dz E R n false (g_1 n) bf ati Tryz.f237 YE YF
def g_2:bX:=dR 237 YE YF (yE n) (g_1 n)
theorem atj:bF E (g_2 n):=dx (ath n) dH (by unfold yE;rfl) Tryz.func237 ay
def YG:bP:=⟨[(3,⟨[0,2,3],[2],⟨[(11,aV)],[(3,.sg [.a .u32 64])]⟩,[(.exit 0,⟨[],[(3,.sg [.a .u32 64])]⟩)]⟩),
 (7,⟨[0,2,3,4,11,22,23],[2],⟨[(24,aV)],[(3,.sg [.a .u32 64])]⟩,[(.exit 2,⟨[],[(3,.sg [.a .u32 64])]⟩)]⟩)],[]⟩
abbrev YH:aP:=[.d (.slice (.int .u8))]
abbrev YI:aP:=[.sg [.a .u32 64]]
@[irreducible] def M5:dM YH YI:=dz E R n false (g_2 n) bf YG Tryz.f223 YH YI
def YJ:bX:=dR 223 YH YI (M5 n) (g_2 n)
theorem atl:bF E (YJ n):=dx (atj n) dH (by unfold M5;rfl) Tryz.func223 ay
def atm:bP:=⟨[],[]⟩
abbrev YK:aP:=[.d (.int .u32),aV,aV,aV]
abbrev YL:aP:=[.d (.int .u32)]
@[irreducible] def Jf:dM YK YL:=dz E R n false (YJ n) bf atm Tryz.f224 YK YL
def M6:bX:=dR 224 YK YL (Jf n) (YJ n)
theorem atn:bF E (M6 n):=dx (atl n) dH (by unfold Jf;rfl) Tryz.func224 ay
def YM:bP:=⟨[(4,⟨[2,4,5,6,7,21],[2,4,5],⟨[(22,aV)],[(6,.sg [.a .u32 4]),(7,.sg [.a .u32 4])]⟩,[(.exit 0,⟨[],[(6,.sg [.a .u32 4]),(7,.sg [.a .u32 4])]⟩)]⟩),
 (12,⟨[2,4,6,7],[4,6,7],⟨[(94,aV)],[(2,.sg [.a .u32 8])]⟩,[(.exit 2,⟨[],[(2,.sg [.a .u32 8])]⟩)]⟩)],[]⟩
abbrev YN:aP:=[.sg [.a .u32 8],.d (.slice (.int .u8))]
abbrev YO:aP:=[.sg [.a .u32 8]]
@[irreducible] def M7:dM YN YO:=dz E R n false (M6 n) bf YM Tryz.f198 YN YO
def SI:bX:=dR 198 YN YO (M7 n) (M6 n)
theorem ato:bF E (SI n):=dx (atn n) dH (by unfold M7;rfl) Tryz.func198 ay
def air:bP:=⟨[(1,⟨[2,4],[4],⟨[(1,.d .str)],[(2,.sg [.a .u32 8,.a .u8 64,.i .u64])]⟩,[(.exit 0,⟨[],[(2,.sg [.a .u32 8,.a .u8 64,.i .u64])]⟩)]⟩)],[]⟩
abbrev YP:aP:=[.sg [.a .u32 8,.a .u8 64,.i .u64],.d .str]
abbrev YQ:aP:=[.sg [.a .u32 8,.a .u8 64,.i .u64]]
@[irreducible] def Dc:dM YP YQ:=dz E R n false (SI n) bf air Tryz.f158 YP YQ
def SK:bX:=dR 158 YP YQ (Dc n) (SI n)
theorem ais:bF E (SK n):=dx (ato n) dH (by unfold Dc;rfl) Tryz.func158 ay
def ait:bP:=⟨[(3,⟨[],[],⟨[(3,.d (.int .u64)),(4,.l (.own 21) (.int .u8))],[]⟩,[(.exit 0,⟨[(3,.d (.int .u64)),(4,.l (.own 21) (.int .u8))],[]⟩)]⟩)],[]⟩
abbrev Jg:aP:=[aV]
abbrev YR:aP:=[.d (.slice (.int .u8))]
@[irreducible] def zM (p:bB R.T Jg):Option (bB R.T YR):=Cz E R n false (SK n) bf ait Tryz.f105 Jg (.int .u8) p
theorem atp (p:bB R.T Jg)(x:bB R.T YR)(h:zM n p=some x):Pure E 105 (dw R Jg p) (.ak .sh (List.map (aO R (.int .u8)) x))/\oI E 105 (dw R Jg p) (dB R (.int .u8)) (List.map (aO R (.int .u8)) x):=by unfold zM at h;exact IX sQ (ais n) dH h Tryz.func105 rfl rfl rfl rfl ay
def YS:bX:=ny 105 ⟨Jg,[.d (.slice (.int .u8))],zM n,nR R YR,true⟩ (SK n)
theorem atq:bF E (YS n):=IZ (G:=zM n) (ais n) (atp n)
def atr:bP:=⟨[],[]⟩
abbrev YT:aP:=[.d .str]
abbrev YU:aP:=[.d (.slice (.int .u8))]
@[irreducible] def Jh:dM YT YU:=dz E R n false (YS n) bf atr Tryz.f159 YT YU
def Ji:bX:=dR 159 YT YU (Jh n) (YS n)
theorem att:bF E (Ji n):=dx (atq n) dH (by unfold Jh;rfl) Tryz.func159 ay
def SL:bP:=⟨[(3,⟨[1,2,3],[1,2],⟨[(4,.l (.own 22) (.int .u8))],[]⟩,[(.exit 0,⟨[(4,.l (.own 22) (.int .u8))],[]⟩)]⟩),
 (6,⟨[1,2,3],[1,2],⟨[(4,.l (.own 22) (.int .u8)),(23,aV)],[]⟩,[(.exit 2,⟨[(4,.l (.own 22) (.int .u8))],[]⟩)]⟩),
 (13,⟨[1,2,6],[1,2],⟨[(40,aV)],[(6,.sg [.a .u8 32])]⟩,[(.exit 4,⟨[],[(6,.sg [.a .u8 32])]⟩)]⟩)],[]⟩
abbrev YV:aP:=[.sg [.a .u32 8,.a .u8 64,.i .u64]]
abbrev YW:aP:=[.sg [.a .u8 32]]
@[irreducible] def M8:dM YV YW:=dz E R n false (Ji n) bf SL Tryz.f160 YV YW
def SN:bX:=dR 160 YV YW (M8 n) (Ji n)
theorem aiu:bF E (SN n):=dx (att n) dH (by unfold M8;rfl) Tryz.func160 ay
def aiv:bP:=⟨[(3,⟨[4,5,15,16],[4],⟨[(17,aV)],[(5,.sg [.a .u32 8,.a .u8 64,.i .u64])]⟩,[(.exit 0,⟨[],[(5,.sg [.a .u32 8,.a .u8 64,.i .u64])]⟩)]⟩)],[]⟩
abbrev SQ:aP:=[aV,.d (.slice .str)]
abbrev M9:aP:=[.d (.st 6)]
@[irreducible] def A8:dM SQ M9:=dz E R n false (SN n) bf aiv Tryz.f102 SQ M9
theorem aiw:YB 102 SQ M9 (A8 n):=fun _ _ h=>by unfold A8 at h;exact okF (aiu n) h Tryz.func102 ay
def SS:bX:=ny 102 ⟨SQ,M9,A8 n,nR R M9,false⟩ (SN n)
theorem aix:bF E (SS n):=zG (aiu n) (aiw n)
def aiy:bP:=⟨[(3,⟨[1,11,12],[],⟨[(5,.l (.own 10) (.int .u8)),(13,aV)],[]⟩,[(.exit 0,⟨[(5,.l (.own 10) (.int .u8))],[]⟩)]⟩)],[]⟩
abbrev Jj:aP:=[.d (.slice (.int .i64)),.fn 105 [] []]
abbrev YX:aP:=[.d (.slice (.int .u8))]
@[irreducible] def Jk (p:bB R.T Jj):Option (bB R.T YX):=Cz E R n false (SS n) bf aiy Tryz.f104 Jj (.int .u8) p
theorem atu (p:bB R.T Jj)(x:bB R.T YX)(h:Jk n p=some x):Pure E 104 (dw R Jj p) (.ak .sh (List.map (aO R (.int .u8)) x))/\oI E 104 (dw R Jj p) (dB R (.int .u8)) (List.map (aO R (.int .u8)) x):=by unfold Jk at h;exact IX sQ (aix n) dH h Tryz.func104 rfl rfl rfl rfl ay
def YZ:bX:=ny 104 ⟨Jj,[.d (.slice (.int .u8))],Jk n,nR R YX,true⟩ (SS n)
theorem aiz:bF E (YZ n):=IZ (G:=Jk n) (aix n) (atu n)
def atv:bP:=⟨[],[]⟩
abbrev Jl:aP:=[.d (.slice (.int .i64))]
abbrev Y0:aP:=[.d (.slice (.int .u8))]
@[irreducible] def Df (p:bB R.T Jl):Option (bB R.T Y0):=Cz E R n false (YZ n) bf atv Tryz.f60 Jl (.int .u8) p
theorem atw (p:bB R.T Jl)(x:bB R.T Y0)(h:Df n p=some x):Pure E 60 (dw R Jl p) (.ak .sh (List.map (aO R (.int .u8)) x))/\oI E 60 (dw R Jl p) (dB R (.int .u8)) (List.map (aO R (.int .u8)) x):=by unfold Df at h;exact IX sQ (aiz n) dH h Tryz.func60 rfl rfl rfl rfl ay
def SV:bX:=ny 60 ⟨Jl,[.d (.slice (.int .u8))],Df n,nR R Y0,true⟩ (YZ n)
theorem aiA:bF E (SV n):=IZ (G:=Df n) (aiz n) (atw n)
def aiB:bP:=⟨[(5,⟨[],[],⟨[(3,.d (.int .u64)),(4,.l (.own 23) (.int .u8))],[]⟩,[(.exit 0,⟨[(3,.d (.int .u64)),(4,.l (.own 23) (.int .u8))],[]⟩)]⟩)],[]⟩
abbrev Jm:aP:=[aV]
abbrev Y1:aP:=[.d (.slice (.int .u8))]
@[irreducible] def zN (p:bB R.T Jm):Option (bB R.T Y1):=Cz E R n false (SV n) bf aiB Tryz.f106 Jm (.int .u8) p
theorem atx (p:bB R.T Jm)(x:bB R.T Y1)(h:zN n p=some x):Pure E 106 (dw R Jm p) (.ak .sh (List.map (aO R (.int .u8)) x))/\oI E 106 (dw R Jm p) (dB R (.int .u8)) (List.map (aO R (.int .u8)) x):=by unfold zN at h;exact IX sQ (aiA n) dH h Tryz.func106 rfl rfl rfl rfl ay
def Y2:bX:=ny 106 ⟨Jm,[.d (.slice (.int .u8))],zN n,nR R Y1,true⟩ (SV n)
theorem aty:bF E (Y2 n):=IZ (G:=zN n) (aiA n) (atx n)
def atz:bP:=⟨[],[]⟩
abbrev Y3:aP:=[.d .str]
abbrev Y4:aP:=[.d (.slice (.int .u8))]
@[irreducible] def ZS:dM Y3 Y4:=dz E R n false (Y2 n) bf atz Tryz.f165 Y3 Y4
def SX:bX:=dR 165 Y3 Y4 (ZS n) (Y2 n)
theorem atA:bF E (SX n):=dx (aty n) dH (by unfold ZS;rfl) Tryz.func165 ay
def aiC:bP:=⟨[(3,⟨[1],[],⟨[(5,.l (.own 22) (.int .u8)),(6,aV)],[]⟩,[(.exit 0,⟨[(5,.l (.own 22) (.int .u8))],[]⟩)]⟩)],[]⟩
abbrev Y5:aP:=[aV,.d (.slice .str)]
abbrev Y6:aP:=[.d (.slice (.int .u8))]
@[irreducible] def Na:dM Y5 Y6:=dz E R n false (SX n) bf aiC Tryz.f108 Y5 Y6
def Nb:bX:=dR 108 Y5 Y6 (Na n) (SX n)
theorem atB:bF E (Nb n):=dx (atA n) dH (by unfold Na;rfl) Tryz.func108 ay
def Y7:bP:=⟨[(3,⟨[0],[],⟨[(3,.l (.own 8) (.int .u8))],[]⟩,[(.exit 0,⟨[(3,.l (.own 8) (.int .u8))],[]⟩)]⟩),
 (7,⟨[4],[],⟨[(3,.l (.own 8) (.int .u8)),(5,aV)],[]⟩,[(.exit 2,⟨[(3,.l (.own 8) (.int .u8))],[]⟩)]⟩)],[]⟩
abbrev Y8:aP:=[.d (.slice (.int .u8))]
abbrev Y9:aP:=[.d (.slice (.int .u8))]
@[irreducible] def QP:dM Y8 Y9:=dz E R n false (Nb n) bf Y7 Tryz.f202 Y8 Y9
def Za:bX:=dR 202 Y8 Y9 (QP n) (Nb n)
theorem atC:bF E (Za n):=dx (atB n) dH (by unfold QP;rfl) Tryz.func202 ay
def atD:bP:=⟨[],[]⟩
abbrev Zb:aP:=[.d (.int .u32),aV]
abbrev Zc:aP:=[.d (.int .u32)]
@[irreducible] def uH:dM Zb Zc:=dz E R n false (Za n) bf atD Tryz.f204 Zb Zc
def Nc:bX:=dR 204 Zb Zc (uH n) (Za n)
theorem atE:bF E (Nc n):=dx (atC n) dH (by unfold uH;rfl) Tryz.func204 ay
def Zd:bP:=⟨[(3,⟨[0,2,3],[2],⟨[(4,aV)],[(3,.sg [.a .u32 64])]⟩,[(.exit 0,⟨[],[(3,.sg [.a .u32 64])]⟩)]⟩),
 (7,⟨[2,3],[2],⟨[(5,aV)],[(3,.sg [.a .u32 64])]⟩,[(.exit 2,⟨[],[(3,.sg [.a .u32 64])]⟩)]⟩)],[]⟩
abbrev Ze:aP:=[.d (.slice (.int .u8))]
abbrev Zf:aP:=[.sg [.a .u32 64]]
@[irreducible] def QQ:dM Ze Zf:=dz E R n false (Nc n) bf Zd Tryz.f203 Ze Zf
def Fw:bX:=dR 203 Ze Zf (QQ n) (Nc n)
theorem atF:bF E (Fw n):=dx (atE n) dH (by unfold QQ;rfl) Tryz.func203 ay
def Nf:bP:=⟨[(4,⟨[2,3,4],[2],⟨[(5,aV)],[(3,.sg [.a .u32 8])]⟩,[(.exit 0,⟨[],[(3,.sg [.a .u32 8])]⟩)]⟩),
 (9,⟨[2,3,4,5,6,7],[2,3,6],⟨[(8,aV)],[(7,.sg [.a .u32 8])]⟩,[(.exit 2,⟨[],[(7,.sg [.a .u32 8])]⟩)]⟩),
 (15,⟨[2,3,4,5,7],[2,7],⟨[(11,aV)],[(3,.sg [.a .u32 8])]⟩,[(.exit 4,⟨[],[(3,.sg [.a .u32 8])]⟩)]⟩),
 (20,⟨[2,3,12],[2,3],⟨[(13,aV)],[(12,.sg [.a .u8 32])]⟩,[(.exit 6,⟨[],[(12,.sg [.a .u8 32])]⟩)]⟩)],[]⟩
abbrev Zg:aP:=[.d (.slice (.int .u8))]
abbrev Zh:aP:=[.sg [.a .u8 32]]
@[irreducible] def Ng:dM Zg Zh:=dz E R n false (Fw n) bf Nf Tryz.f164 Zg Zh
def Zi:bX:=dR 164 Zg Zh (Ng n) (Fw n)
theorem atG:bF E (Zi n):=dx (atF n) dH (by unfold Ng;rfl) Tryz.func164 ay
def atH:bP:=⟨[],[]⟩
abbrev Zj:aP:=[.d (.slice (.int .u8))]
abbrev Zk:aP:=[.d (.st 6)]
@[irreducible] def Nh:dM Zj Zk:=dz E R n false (Zi n) bf atH Tryz.f107 Zj Zk
def Zl:bX:=dR 107 Zj Zk (Nh n) (Zi n)
theorem atI:bF E (Zl n):=dx (atG n) dH (by unfold Nh;rfl) Tryz.func107 ay
def atJ:bP:=⟨[],[]⟩
abbrev Zm:aP:=[aV,.d (.slice .str)]
abbrev Zn:aP:=[.d (.st 6)]
@[irreducible] def Ni:dM Zm Zn:=dz E R n false (Zl n) bf atJ Tryz.f62 Zm Zn
def SY:bX:=dR 62 Zm Zn (Ni n) (Zl n)
theorem aiD:bF E (SY n):=dx (atI n) dH (by unfold Ni;rfl) Tryz.func62 ay
def aiE:bP:=⟨[(3,⟨[0],[],⟨[(3,.l (.own 7) (.int .u8)),(4,aV)],[]⟩,[(.exit 0,⟨[(3,.l (.own 7) (.int .u8))],[]⟩)]⟩)],[]⟩
abbrev Jo:aP:=[.d (.slice (.int .i64))]
abbrev Zo:aP:=[.d (.slice (.int .u8))]
@[irreducible] def Fx (p:bB R.T Jo):Option (bB R.T Zo):=Cz E R n false (SY n) bf aiE Tryz.f61 Jo (.int .u8) p
theorem atK (p:bB R.T Jo)(x:bB R.T Zo)(h:Fx n p=some x):Pure E 61 (dw R Jo p) (.ak .sh (List.map (aO R (.int .u8)) x))/\oI E 61 (dw R Jo p) (dB R (.int .u8)) (List.map (aO R (.int .u8)) x):=by unfold Fx at h;exact IX sQ (aiD n) dH h Tryz.func61 rfl rfl rfl rfl ay
def Zp:bX:=ny 61 ⟨Jo,[.d (.slice (.int .u8))],Fx n,nR R Zo,true⟩ (SY n)
theorem aiF:bF E (Zp n):=IZ (G:=Fx n) (aiD n) (atK n)
def atL:bP:=⟨[],[]⟩
abbrev S9:aP:=[.d (.st 6),.d (.st 6)]
abbrev Nj:aP:=[.d (.st 6)]
@[irreducible] def Jp:dM S9 Nj:=dz E R n false (Zp n) bf atL Tryz.f113 S9 Nj
theorem aiG:YB 113 S9 Nj (Jp n):=fun _ _ h=>by unfold Jp at h;exact okF (aiF n) h Tryz.func113 ay
def Zq:bX:=ny 113 ⟨S9,Nj,Jp n,nR R Nj,false⟩ (Zp n)
theorem atM:bF E (Zq n):=zG (aiF n) (aiG n)
def atN:bP:=⟨[],[]⟩
abbrev Zr:aP:=[.d (.int .u32)]
abbrev Zt:aP:=[aV]
@[irreducible] def aiH:dM Zr Zt:=dz E R n false (Zq n) bf atN Tryz.f205 Zr Zt
def Zu:bX:=dR 205 Zr Zt (aiH n) (Zq n)
theorem atO:bF E (Zu n):=dx (atM n) dH (by unfold aiH;rfl) Tryz.func205 ay
def atP:bP:=⟨[],[]⟩
abbrev Zv:aP:=[.d (.int .u64)]
abbrev Zw:aP:=[aV]
@[irreducible] def Dh:dM Zv Zw:=dz E R n false (Zu n) bf atP Tryz.f206 Zv Zw
def Zx:bX:=dR 206 Zv Zw (Dh n) (Zu n)
theorem atQ:bF E (Zx n):=dx (atO n) dH (by unfold Dh;rfl) Tryz.func206 ay
def atS:bP:=⟨[],[]⟩
abbrev Zy:aP:=[.d (.int .u64)]
abbrev Zz:aP:=[aV]
@[irreducible] def Nk:dM Zy Zz:=dz E R n false (Zx n) bf atS Tryz.f166 Zy Zz
def ZA:bX:=dR 166 Zy Zz (Nk n) (Zx n)
theorem aiI:bF E (ZA n):=dx (atQ n) dH (by unfold Nk;rfl) Tryz.func166 ay
def atT:bP:=⟨[],[]⟩
abbrev Ta:aP:=[aV]
abbrev Nl:aP:=[aV]
@[irreducible] def ZD:dM Ta Nl:=dz E R n false (ZA n) bf atT Tryz.f110 Ta Nl
theorem ZB:YB 110 Ta Nl (ZD n):=fun _ _ h=>by unfold ZD at h;exact okF (aiI n) h Tryz.func110 ay
def Tc:bX:=ny 110 ⟨Ta,Nl,ZD n,nR R Nl,false⟩ (ZA n)
theorem atU:bF E (Tc n):=zG (aiI n) (ZB n)
end Sh
