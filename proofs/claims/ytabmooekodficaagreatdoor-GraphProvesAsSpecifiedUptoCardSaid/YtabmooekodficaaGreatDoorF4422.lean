import Derived.Test.YtabmooekodficaaGreatDoorF4418
set_option linter.all false
open Go Go.Proofs Aq
namespace Sh
set_option maxRecDepth 100000
def bn (i:Nat) (a r:List Sk) (F:PayL R.T a->Option (PayL R.T r)):Prop:=∀p x,F p=some x->Pure E i (encSL R a p) (retV (encSL R r x))
theorem okF {n:Nat} {om:Bool} {F:Nat->List (FR R)} {A:Ann} {i:Nat} {fn:Func} {a r:List Sk} {p:PayL R.T a} {x:PayL R.T r} (hF:RegsOK E F) (h:funM E R n om F iters A fn a r p=some x) (hf:E.P.funcs[i]? =some fn) (hok:(match fn.body with|some c=>decide (a.length<=fn.ntmps)&& bE fn.ntmps c&& jN E c|none=>false)=true)
 (ha:cSkL a=true:=by rfl) (hl:(encSL R a p).length=a.length:=by rfl) (ho:E.om i=om:=by rfl) (hs:E.summ i=none:=by rfl):Pure E i (encSL R a p) (retV (encSL R r x)):=funM_ok rOK hF iters_ok h hf ha hl ho hs hok
def aaO:Ann:=⟨[],[]⟩
abbrev Cu:List Sk:=[]
abbrev yL:List Sk:=[.sg [.a .u32 8,.a .u8 64,.i .u64]]
@[irreducible] noncomputable def uJ (n:Nat) (p:PayL R.T Cu):Option (PayL R.T yL):=funM E R n false (regs0 n) iters aaO Tryz.f57 Cu yL p
theorem aaP (n:Nat):bn 57 Cu yL (uJ n):=fun _ _ h=>by unfold uJ at h;exact okF (regs0_ok n) h Tryz.func57 (by kernel_rfl)
noncomputable def regs1 (n:Nat):Nat->List (FR R):=addF 57 ⟨Cu,yL,uJ n,dflL R yL,false⟩ (regs0 n)
theorem regs1_ok (n:Nat):RegsOK E (regs1 n):=addF_ok (regs0_ok n) (aaP n)
def aaQ:Ann:=⟨[],[]⟩
abbrev Cv:List Sk:=[.d (.int .u32),.d (.int .i64)]
abbrev yM:List Sk:=[.d (.int .u32)]
@[irreducible] noncomputable def jP (n:Nat) (p:PayL R.T Cv):Option (PayL R.T yM):=funM E R n false (regs1 n) iters aaQ Tryz.f136 Cv yM p
theorem aaR (n:Nat):bn 136 Cv yM (jP n):=fun _ _ h=>by unfold jP at h;exact okF (regs1_ok n) h Tryz.func136 (by kernel_rfl)
noncomputable def regs2 (n:Nat):Nat->List (FR R):=addF 136 ⟨Cv,yM,jP n,dflL R yM,false⟩ (regs1 n)
theorem regs2_ok (n:Nat):RegsOK E (regs2 n):=addF_ok (regs1_ok n) (aaR n)
def qE:Ann:=⟨[(3,⟨[0,2,3],[2],⟨[(11,.d (.int .i64))],[(3,.sg [.a .u32 64])]⟩,[(.exit 0,⟨[],[(3,.sg [.a .u32 64])]⟩)]⟩),
 (7,⟨[0,2,3,4,11,22,23],[2],⟨[(24,.d (.int .i64))],[(3,.sg [.a .u32 64])]⟩,[(.exit 2,⟨[],[(3,.sg [.a .u32 64])]⟩)]⟩)],[]⟩
abbrev Cw:List Sk:=[.d (.slice (.int .u8))]
abbrev yN:List Sk:=[.sg [.a .u32 64]]
@[irreducible] noncomputable def uK (n:Nat) (p:PayL R.T Cw):Option (PayL R.T yN):=funM E R n false (regs2 n) iters qE Tryz.f103 Cw yN p
theorem aaS (n:Nat):bn 103 Cw yN (uK n):=fun _ _ h=>by unfold uK at h;exact okF (regs2_ok n) h Tryz.func103 (by kernel_rfl)
noncomputable def regs3 (n:Nat):Nat->List (FR R):=addF 103 ⟨Cw,yN,uK n,dflL R yN,false⟩ (regs2 n)
theorem regs3_ok (n:Nat):RegsOK E (regs3 n):=addF_ok (regs2_ok n) (aaS n)
def aaT:Ann:=⟨[],[]⟩
abbrev Cy:List Sk:=[.d (.int .u32),.d (.int .i64),.d (.int .i64),.d (.int .i64)]
abbrev yO:List Sk:=[.d (.int .u32)]
@[irreducible] noncomputable def qF (n:Nat) (p:PayL R.T Cy):Option (PayL R.T yO):=funM E R n false (regs3 n) iters aaT Tryz.f104 Cy yO p
theorem aaU (n:Nat):bn 104 Cy yO (qF n):=fun _ _ h=>by unfold qF at h;exact okF (regs3_ok n) h Tryz.func104 (by kernel_rfl)
noncomputable def regs4 (n:Nat):Nat->List (FR R):=addF 104 ⟨Cy,yO,qF n,dflL R yO,false⟩ (regs3 n)
theorem regs4_ok (n:Nat):RegsOK E (regs4 n):=addF_ok (regs3_ok n) (aaU n)
def qG:Ann:=⟨[(4,⟨[2,4,5,6,7,21],[2,4,5],⟨[(22,.d (.int .i64))],[(6,.sg [.a .u32 4]),(7,.sg [.a .u32 4])]⟩,[(.exit 0,⟨[],[(6,.sg [.a .u32 4]),(7,.sg [.a .u32 4])]⟩)]⟩),
 (12,⟨[2,4,6,7],[4,6,7],⟨[(94,.d (.int .i64))],[(2,.sg [.a .u32 8])]⟩,[(.exit 2,⟨[],[(2,.sg [.a .u32 8])]⟩)]⟩)],[]⟩
abbrev Cz:List Sk:=[.sg [.a .u32 8],.d (.slice (.int .u8))]
abbrev yP:List Sk:=[.sg [.a .u32 8]]
@[irreducible] noncomputable def uL (n:Nat) (p:PayL R.T Cz):Option (PayL R.T yP):=funM E R n false (regs4 n) iters qG Tryz.f88 Cz yP p
theorem aaV (n:Nat):bn 88 Cz yP (uL n):=fun _ _ h=>by unfold uL at h;exact okF (regs4_ok n) h Tryz.func88 (by kernel_rfl)
noncomputable def regs5 (n:Nat):Nat->List (FR R):=addF 88 ⟨Cz,yP,uL n,dflL R yP,false⟩ (regs4 n)
theorem regs5_ok (n:Nat):RegsOK E (regs5 n):=addF_ok (regs4_ok n) (aaV n)
def CB:Ann:=⟨[(1,⟨[2,4],[4],⟨[(1,.d .str)],[(2,.sg [.a .u32 8,.a .u8 64,.i .u64])]⟩,[(.exit 0,⟨[],[(2,.sg [.a .u32 8,.a .u8 64,.i .u64])]⟩)]⟩)],[]⟩
abbrev CF:List Sk:=[.sg [.a .u32 8,.a .u8 64,.i .u64],.d .str]
abbrev yQ:List Sk:=[.sg [.a .u32 8,.a .u8 64,.i .u64]]
@[irreducible] noncomputable def ng (n:Nat) (p:PayL R.T CF):Option (PayL R.T yQ):=funM E R n false (regs5 n) iters CB Tryz.f58 CF yQ p
theorem aaW (n:Nat):bn 58 CF yQ (ng n):=fun _ _ h=>by unfold ng at h;exact okF (regs5_ok n) h Tryz.func58 (by kernel_rfl)
noncomputable def regs6 (n:Nat):Nat->List (FR R):=addF 58 ⟨CF,yQ,ng n,dflL R yQ,false⟩ (regs5 n)
theorem regs6_ok (n:Nat):RegsOK E (regs6 n):=addF_ok (regs5_ok n) (aaW n)
def CG:Ann:=⟨[(3,⟨[],[],⟨[(3,.d (.int .u64)),(4,.l (.own 21) (.int .u8))],[]⟩,[(.exit 0,⟨[(3,.d (.int .u64)),(4,.l (.own 21) (.int .u8))],[]⟩)]⟩)],[]⟩
abbrev uM:List Sk:=[.d (.int .i64)]
abbrev I8:List Sk:=[.d (.slice (.int .u8))]
@[irreducible] noncomputable def ni (n:Nat) (p:PayL R.T uM):Option (PayL R.T I8):=funO E R n false (regs6 n) iters CG Tryz.f62 uM (.int .u8) p
theorem aaX (n:Nat) (p:PayL R.T uM) (x:PayL R.T I8) (h:ni n p=some x):Pure E 62 (encSL R uM p) (.lst .sh (List.map (encD R (.int .u8)) x))/\gY E 62 (encSL R uM p) (szD R (.int .u8)) (List.map (encD R (.int .u8)) x):=by
 unfold ni at h
 exact yD rOK (regs6_ok n) iters_ok h Tryz.func62 rfl rfl rfl rfl (by kernel_rfl)
noncomputable def regs7 (n:Nat):Nat->List (FR R):=addF 62 ⟨uM,[.d (.slice (.int .u8))],ni n,dflL R I8,true⟩ (regs6 n)
theorem regs7_ok (n:Nat):RegsOK E (regs7 n):=yE (G:=ni n) (regs6_ok n) (aaX n)
def aaY:Ann:=⟨[],[]⟩
abbrev CJ:List Sk:=[.d .str]
abbrev yR:List Sk:=[.d (.slice (.int .u8))]
@[irreducible] noncomputable def uN (n:Nat) (p:PayL R.T CJ):Option (PayL R.T yR):=funM E R n false (regs7 n) iters aaY Tryz.f59 CJ yR p
theorem aaZ (n:Nat):bn 59 CJ yR (uN n):=fun _ _ h=>by unfold uN at h;exact okF (regs7_ok n) h Tryz.func59 (by kernel_rfl)
noncomputable def regs8 (n:Nat):Nat->List (FR R):=addF 59 ⟨CJ,yR,uN n,dflL R yR,false⟩ (regs7 n)
theorem regs8_ok (n:Nat):RegsOK E (regs8 n):=addF_ok (regs7_ok n) (aaZ n)
def lM:Ann:=⟨[(3,⟨[1,2,3],[1,2],⟨[(4,.l (.own 22) (.int .u8))],[]⟩,[(.exit 0,⟨[(4,.l (.own 22) (.int .u8))],[]⟩)]⟩),
 (6,⟨[1,2,3],[1,2],⟨[(4,.l (.own 22) (.int .u8)),(23,.d (.int .i64))],[]⟩,[(.exit 2,⟨[(4,.l (.own 22) (.int .u8))],[]⟩)]⟩),
 (13,⟨[1,2,6],[1,2],⟨[(40,.d (.int .i64))],[(6,.sg [.a .u8 32])]⟩,[(.exit 4,⟨[],[(6,.sg [.a .u8 32])]⟩)]⟩)],[]⟩
abbrev CK:List Sk:=[.sg [.a .u32 8,.a .u8 64,.i .u64]]
abbrev yS:List Sk:=[.sg [.a .u8 32]]
@[irreducible] noncomputable def uO (n:Nat) (p:PayL R.T CK):Option (PayL R.T yS):=funM E R n false (regs8 n) iters lM Tryz.f60 CK yS p
theorem aa0 (n:Nat):bn 60 CK yS (uO n):=fun _ _ h=>by unfold uO at h;exact okF (regs8_ok n) h Tryz.func60 (by kernel_rfl)
noncomputable def regs9 (n:Nat):Nat->List (FR R):=addF 60 ⟨CK,yS,uO n,dflL R yS,false⟩ (regs8 n)
theorem regs9_ok (n:Nat):RegsOK E (regs9 n):=addF_ok (regs8_ok n) (aa0 n)
def CO:Ann:=⟨[(3,⟨[4,5,15,16],[4],⟨[(17,.d (.int .i64))],[(5,.sg [.a .u32 8,.a .u8 64,.i .u64])]⟩,[(.exit 0,⟨[],[(5,.sg [.a .u32 8,.a .u8 64,.i .u64])]⟩)]⟩)],[]⟩
abbrev CP:List Sk:=[.d (.int .i64),.d (.slice .str)]
abbrev yT:List Sk:=[.d (.st 2)]
@[irreducible] noncomputable def oL (n:Nat) (p:PayL R.T CP):Option (PayL R.T yT):=funM E R n false (regs9 n) iters CO Tryz.f28 CP yT p
theorem aa1 (n:Nat):bn 28 CP yT (oL n):=fun _ _ h=>by unfold oL at h;exact okF (regs9_ok n) h Tryz.func28 (by kernel_rfl)
noncomputable def regs10 (n:Nat):Nat->List (FR R):=addF 28 ⟨CP,yT,oL n,dflL R yT,false⟩ (regs9 n)
theorem regs10_ok (n:Nat):RegsOK E (regs10 n):=addF_ok (regs9_ok n) (aa1 n)
def CQ:Ann:=⟨[(3,⟨[1,11,12],[],⟨[(5,.l (.own 10) (.int .u8)),(13,.d (.int .i64))],[]⟩,[(.exit 0,⟨[(5,.l (.own 10) (.int .u8))],[]⟩)]⟩)],[]⟩
abbrev uP:List Sk:=[.d (.slice (.int .i64)),.fn 62 [] []]
abbrev I9:List Sk:=[.d (.slice (.int .u8))]
@[irreducible] noncomputable def uQ (n:Nat) (p:PayL R.T uP):Option (PayL R.T I9):=funO E R n false (regs10 n) iters CQ Tryz.f61 uP (.int .u8) p
theorem aa2 (n:Nat) (p:PayL R.T uP) (x:PayL R.T I9) (h:uQ n p=some x):Pure E 61 (encSL R uP p) (.lst .sh (List.map (encD R (.int .u8)) x))/\gY E 61 (encSL R uP p) (szD R (.int .u8)) (List.map (encD R (.int .u8)) x):=by
 unfold uQ at h
 exact yD rOK (regs10_ok n) iters_ok h Tryz.func61 rfl rfl rfl rfl (by kernel_rfl)
noncomputable def regs11 (n:Nat):Nat->List (FR R):=addF 61 ⟨uP,[.d (.slice (.int .u8))],uQ n,dflL R I9,true⟩ (regs10 n)
theorem regs11_ok (n:Nat):RegsOK E (regs11 n):=yE (G:=uQ n) (regs10_ok n) (aa2 n)
def aa3:Ann:=⟨[],[]⟩
abbrev uR:List Sk:=[.d (.slice (.int .i64))]
abbrev Ja:List Sk:=[.d (.slice (.int .u8))]
@[irreducible] noncomputable def qH (n:Nat) (p:PayL R.T uR):Option (PayL R.T Ja):=funO E R n false (regs11 n) iters aa3 Tryz.f29 uR (.int .u8) p
theorem aa4 (n:Nat) (p:PayL R.T uR) (x:PayL R.T Ja) (h:qH n p=some x):Pure E 29 (encSL R uR p) (.lst .sh (List.map (encD R (.int .u8)) x))/\gY E 29 (encSL R uR p) (szD R (.int .u8)) (List.map (encD R (.int .u8)) x):=by
 unfold qH at h
 exact yD rOK (regs11_ok n) iters_ok h Tryz.func29 rfl rfl rfl rfl (by kernel_rfl)
noncomputable def regs12 (n:Nat):Nat->List (FR R):=addF 29 ⟨uR,[.d (.slice (.int .u8))],qH n,dflL R Ja,true⟩ (regs11 n)
theorem regs12_ok (n:Nat):RegsOK E (regs12 n):=yE (G:=qH n) (regs11_ok n) (aa4 n)
def CU:Ann:=⟨[(5,⟨[],[],⟨[(3,.d (.int .u64)),(4,.l (.own 23) (.int .u8))],[]⟩,[(.exit 0,⟨[(3,.d (.int .u64)),(4,.l (.own 23) (.int .u8))],[]⟩)]⟩)],[]⟩
abbrev uS:List Sk:=[.d (.int .i64)]
abbrev Jb:List Sk:=[.d (.slice (.int .u8))]
@[irreducible] noncomputable def nu (n:Nat) (p:PayL R.T uS):Option (PayL R.T Jb):=funO E R n false (regs12 n) iters CU Tryz.f65 uS (.int .u8) p
theorem aa5 (n:Nat) (p:PayL R.T uS) (x:PayL R.T Jb) (h:nu n p=some x):Pure E 65 (encSL R uS p) (.lst .sh (List.map (encD R (.int .u8)) x))/\gY E 65 (encSL R uS p) (szD R (.int .u8)) (List.map (encD R (.int .u8)) x):=by
 unfold nu at h
 exact yD rOK (regs12_ok n) iters_ok h Tryz.func65 rfl rfl rfl rfl (by kernel_rfl)
noncomputable def regs13 (n:Nat):Nat->List (FR R):=addF 65 ⟨uS,[.d (.slice (.int .u8))],nu n,dflL R Jb,true⟩ (regs12 n)
theorem regs13_ok (n:Nat):RegsOK E (regs13 n):=yE (G:=nu n) (regs12_ok n) (aa5 n)
def aa6:Ann:=⟨[],[]⟩
abbrev CV:List Sk:=[.d .str]
abbrev yU:List Sk:=[.d (.slice (.int .u8))]
@[irreducible] noncomputable def uT (n:Nat) (p:PayL R.T CV):Option (PayL R.T yU):=funM E R n false (regs13 n) iters aa6 Tryz.f90 CV yU p
theorem aa7 (n:Nat):bn 90 CV yU (uT n):=fun _ _ h=>by unfold uT at h;exact okF (regs13_ok n) h Tryz.func90 (by kernel_rfl)
noncomputable def regs14 (n:Nat):Nat->List (FR R):=addF 90 ⟨CV,yU,uT n,dflL R yU,false⟩ (regs13 n)
theorem regs14_ok (n:Nat):RegsOK E (regs14 n):=addF_ok (regs13_ok n) (aa7 n)
def CX:Ann:=⟨[(3,⟨[1],[],⟨[(5,.l (.own 22) (.int .u8)),(6,.d (.int .i64))],[]⟩,[(.exit 0,⟨[(5,.l (.own 22) (.int .u8))],[]⟩)]⟩)],[]⟩
abbrev CY:List Sk:=[.d (.int .i64),.d (.slice .str)]
abbrev yV:List Sk:=[.d (.slice (.int .u8))]
@[irreducible] noncomputable def uU (n:Nat) (p:PayL R.T CY):Option (PayL R.T yV):=funM E R n false (regs14 n) iters CX Tryz.f64 CY yV p
theorem aa8 (n:Nat):bn 64 CY yV (uU n):=fun _ _ h=>by unfold uU at h;exact okF (regs14_ok n) h Tryz.func64 (by kernel_rfl)
noncomputable def regs15 (n:Nat):Nat->List (FR R):=addF 64 ⟨CY,yV,uU n,dflL R yV,false⟩ (regs14 n)
theorem regs15_ok (n:Nat):RegsOK E (regs15 n):=addF_ok (regs14_ok n) (aa8 n)
def qI:Ann:=⟨[(3,⟨[0],[],⟨[(3,.l (.own 8) (.int .u8))],[]⟩,[(.exit 0,⟨[(3,.l (.own 8) (.int .u8))],[]⟩)]⟩),
 (7,⟨[4],[],⟨[(3,.l (.own 8) (.int .u8)),(5,.d (.int .i64))],[]⟩,[(.exit 2,⟨[(3,.l (.own 8) (.int .u8))],[]⟩)]⟩)],[]⟩
abbrev CZ:List Sk:=[.d (.slice (.int .u8))]
abbrev yX:List Sk:=[.d (.slice (.int .u8))]
@[irreducible] noncomputable def uV (n:Nat) (p:PayL R.T CZ):Option (PayL R.T yX):=funM E R n false (regs15 n) iters qI Tryz.f105 CZ yX p
theorem aa9 (n:Nat):bn 105 CZ yX (uV n):=fun _ _ h=>by unfold uV at h;exact okF (regs15_ok n) h Tryz.func105 (by kernel_rfl)
noncomputable def regs16 (n:Nat):Nat->List (FR R):=addF 105 ⟨CZ,yX,uV n,dflL R yX,false⟩ (regs15 n)
theorem regs16_ok (n:Nat):RegsOK E (regs16 n):=addF_ok (regs15_ok n) (aa9 n)
def abb:Ann:=⟨[],[]⟩
abbrev C8:List Sk:=[.d (.int .u32),.d (.int .i64)]
abbrev yY:List Sk:=[.d (.int .u32)]
@[irreducible] noncomputable def iy (n:Nat) (p:PayL R.T C8):Option (PayL R.T yY):=funM E R n false (regs16 n) iters abb Tryz.f107 C8 yY p
theorem abd (n:Nat):bn 107 C8 yY (iy n):=fun _ _ h=>by unfold iy at h;exact okF (regs16_ok n) h Tryz.func107 (by kernel_rfl)
noncomputable def regs17 (n:Nat):Nat->List (FR R):=addF 107 ⟨C8,yY,iy n,dflL R yY,false⟩ (regs16 n)
theorem regs17_ok (n:Nat):RegsOK E (regs17 n):=addF_ok (regs16_ok n) (abd n)
def qJ:Ann:=⟨[(3,⟨[0,2,3],[2],⟨[(4,.d (.int .i64))],[(3,.sg [.a .u32 64])]⟩,[(.exit 0,⟨[],[(3,.sg [.a .u32 64])]⟩)]⟩),
 (7,⟨[2,3],[2],⟨[(5,.d (.int .i64))],[(3,.sg [.a .u32 64])]⟩,[(.exit 2,⟨[],[(3,.sg [.a .u32 64])]⟩)]⟩)],[]⟩
abbrev C9:List Sk:=[.d (.slice (.int .u8))]
abbrev yZ:List Sk:=[.sg [.a .u32 64]]
@[irreducible] noncomputable def uW (n:Nat) (p:PayL R.T C9):Option (PayL R.T yZ):=funM E R n false (regs17 n) iters qJ Tryz.f106 C9 yZ p
theorem abe (n:Nat):bn 106 C9 yZ (uW n):=fun _ _ h=>by unfold uW at h;exact okF (regs17_ok n) h Tryz.func106 (by kernel_rfl)
noncomputable def regs18 (n:Nat):Nat->List (FR R):=addF 106 ⟨C9,yZ,uW n,dflL R yZ,false⟩ (regs17 n)
theorem regs18_ok (n:Nat):RegsOK E (regs18 n):=addF_ok (regs17_ok n) (abe n)
def jv:Ann:=⟨[(4,⟨[2,3,4],[2],⟨[(5,.d (.int .i64))],[(3,.sg [.a .u32 8])]⟩,[(.exit 0,⟨[],[(3,.sg [.a .u32 8])]⟩)]⟩),
 (9,⟨[2,3,4,5,6,7],[2,3,6],⟨[(8,.d (.int .i64))],[(7,.sg [.a .u32 8])]⟩,[(.exit 2,⟨[],[(7,.sg [.a .u32 8])]⟩)]⟩),
 (15,⟨[2,3,4,5,7],[2,7],⟨[(11,.d (.int .i64))],[(3,.sg [.a .u32 8])]⟩,[(.exit 4,⟨[],[(3,.sg [.a .u32 8])]⟩)]⟩),
 (20,⟨[2,3,12],[2,3],⟨[(13,.d (.int .i64))],[(12,.sg [.a .u8 32])]⟩,[(.exit 6,⟨[],[(12,.sg [.a .u8 32])]⟩)]⟩)],[]⟩
abbrev Da:List Sk:=[.d (.slice (.int .u8))]
abbrev y5:List Sk:=[.sg [.a .u8 32]]
@[irreducible] noncomputable def uX (n:Nat) (p:PayL R.T Da):Option (PayL R.T y5):=funM E R n false (regs18 n) iters jv Tryz.f89 Da y5 p
theorem abf (n:Nat):bn 89 Da y5 (uX n):=fun _ _ h=>by unfold uX at h;exact okF (regs18_ok n) h Tryz.func89 (by kernel_rfl)
noncomputable def regs19 (n:Nat):Nat->List (FR R):=addF 89 ⟨Da,y5,uX n,dflL R y5,false⟩ (regs18 n)
theorem regs19_ok (n:Nat):RegsOK E (regs19 n):=addF_ok (regs18_ok n) (abf n)
def abg:Ann:=⟨[],[]⟩
abbrev Db:List Sk:=[.d (.slice (.int .u8))]
abbrev y7:List Sk:=[.d (.st 2)]
@[irreducible] noncomputable def uY (n:Nat) (p:PayL R.T Db):Option (PayL R.T y7):=funM E R n false (regs19 n) iters abg Tryz.f63 Db y7 p
theorem abh (n:Nat):bn 63 Db y7 (uY n):=fun _ _ h=>by unfold uY at h;exact okF (regs19_ok n) h Tryz.func63 (by kernel_rfl)
noncomputable def regs20 (n:Nat):Nat->List (FR R):=addF 63 ⟨Db,y7,uY n,dflL R y7,false⟩ (regs19 n)
theorem regs20_ok (n:Nat):RegsOK E (regs20 n):=addF_ok (regs19_ok n) (abh n)
def abj:Ann:=⟨[],[]⟩
abbrev Dc:List Sk:=[.d (.int .i64),.d (.slice .str)]
abbrev y8:List Sk:=[.d (.st 2)]
@[irreducible] noncomputable def oM (n:Nat) (p:PayL R.T Dc):Option (PayL R.T y8):=funM E R n false (regs20 n) iters abj Tryz.f30 Dc y8 p
theorem abk (n:Nat):bn 30 Dc y8 (oM n):=fun _ _ h=>by unfold oM at h;exact okF (regs20_ok n) h Tryz.func30 (by kernel_rfl)
noncomputable def regs21 (n:Nat):Nat->List (FR R):=addF 30 ⟨Dc,y8,oM n,dflL R y8,false⟩ (regs20 n)
theorem regs21_ok (n:Nat):RegsOK E (regs21 n):=addF_ok (regs20_ok n) (abk n)
def Df:Ann:=⟨[(3,⟨[0],[],⟨[(3,.l (.own 7) (.int .u8)),(4,.d (.int .i64))],[]⟩,[(.exit 0,⟨[(3,.l (.own 7) (.int .u8))],[]⟩)]⟩)],[]⟩
abbrev uZ:List Sk:=[.d (.slice (.int .i64))]
abbrev Jc:List Sk:=[.d (.slice (.int .u8))]
@[irreducible] noncomputable def qK (n:Nat) (p:PayL R.T uZ):Option (PayL R.T Jc):=funO E R n false (regs21 n) iters Df Tryz.f31 uZ (.int .u8) p
theorem abl (n:Nat) (p:PayL R.T uZ) (x:PayL R.T Jc) (h:qK n p=some x):Pure E 31 (encSL R uZ p) (.lst .sh (List.map (encD R (.int .u8)) x))/\gY E 31 (encSL R uZ p) (szD R (.int .u8)) (List.map (encD R (.int .u8)) x):=by
 unfold qK at h
 exact yD rOK (regs21_ok n) iters_ok h Tryz.func31 rfl rfl rfl rfl (by kernel_rfl)
noncomputable def regs22 (n:Nat):Nat->List (FR R):=addF 31 ⟨uZ,[.d (.slice (.int .u8))],qK n,dflL R Jc,true⟩ (regs21 n)
theorem regs22_ok (n:Nat):RegsOK E (regs22 n):=yE (G:=qK n) (regs21_ok n) (abl n)
def abm:Ann:=⟨[],[]⟩
abbrev Dh:List Sk:=[.d (.st 2),.d (.st 2)]
abbrev y9:List Sk:=[.d (.st 2)]
@[irreducible] noncomputable def u6 (n:Nat) (p:PayL R.T Dh):Option (PayL R.T y9):=funM E R n false (regs22 n) iters abm Tryz.f53 Dh y9 p
theorem Qg (n:Nat):bn 53 Dh y9 (u6 n):=fun _ _ h=>by unfold u6 at h;exact okF (regs22_ok n) h Tryz.func53 (by kernel_rfl)
noncomputable def regs23 (n:Nat):Nat->List (FR R):=addF 53 ⟨Dh,y9,u6 n,dflL R y9,false⟩ (regs22 n)
theorem regs23_ok (n:Nat):RegsOK E (regs23 n):=addF_ok (regs22_ok n) (Qg n)
def ZD_a:Ann:=⟨[],[]⟩
abbrev ZD_p:List Sk:=[.d (.int .u32)]
abbrev ZD_r:List Sk:=[.d (.int .i64)]
@[irreducible] noncomputable def ZD (n:Nat) (p:PayL R.T ZD_p):Option (PayL R.T ZD_r):=funM E R n false (regs23 n) iters ZD_a Tryz.f101 ZD_p ZD_r p
theorem ZD_ok (n:Nat):bn 101 ZD_p ZD_r (ZD n):=fun _ _ h=>by unfold ZD at h;exact okF (regs23_ok n) h Tryz.func101 (by kernel_rfl)
noncomputable def regs24 (n:Nat):Nat->List (FR R):=addF 101 ⟨ZD_p,ZD_r,ZD n,dflL R ZD_r,false⟩ (regs23 n)
theorem regs24_ok (n:Nat):RegsOK E (regs24 n):=addF_ok (regs23_ok n) (ZD_ok n)
def QQ_a:Ann:=⟨[],[]⟩
abbrev QQ_p:List Sk:=[.d (.int .u64)]
abbrev QQ_r:List Sk:=[.d (.int .i64)]
@[irreducible] noncomputable def QQ (n:Nat) (p:PayL R.T QQ_p):Option (PayL R.T QQ_r):=funM E R n false (regs24 n) iters QQ_a Tryz.f102 QQ_p QQ_r p
theorem QQ_ok (n:Nat):bn 102 QQ_p QQ_r (QQ n):=fun _ _ h=>by unfold QQ at h;exact okF (regs24_ok n) h Tryz.func102 (by kernel_rfl)
noncomputable def regs25 (n:Nat):Nat->List (FR R):=addF 102 ⟨QQ_p,QQ_r,QQ n,dflL R QQ_r,false⟩ (regs24 n)
theorem regs25_ok (n:Nat):RegsOK E (regs25 n):=addF_ok (regs24_ok n) (QQ_ok n)
def Zs_a:Ann:=⟨[],[]⟩
abbrev Zs_p:List Sk:=[.d (.int .u64)]
abbrev Zs_r:List Sk:=[.d (.int .i64)]
@[irreducible] noncomputable def Zs (n:Nat) (p:PayL R.T Zs_p):Option (PayL R.T Zs_r):=funM E R n false (regs25 n) iters Zs_a Tryz.f86 Zs_p Zs_r p
theorem Zs_ok (n:Nat):bn 86 Zs_p Zs_r (Zs n):=fun _ _ h=>by unfold Zs at h;exact okF (regs25_ok n) h Tryz.func86 (by kernel_rfl)
noncomputable def regs26 (n:Nat):Nat->List (FR R):=addF 86 ⟨Zs_p,Zs_r,Zs n,dflL R Zs_r,false⟩ (regs25 n)
theorem regs26_ok (n:Nat):RegsOK E (regs26 n):=addF_ok (regs25_ok n) (Zs_ok n)
def abn:Ann:=⟨[],[]⟩
abbrev Di:List Sk:=[.d (.int .i64)]
abbrev za:List Sk:=[.d (.int .i64)]
@[irreducible] noncomputable def lN (n:Nat) (p:PayL R.T Di):Option (PayL R.T za):=funM E R n false (regs26 n) iters abn Tryz.f50 Di za p
theorem Jd (n:Nat):bn 50 Di za (lN n):=fun _ _ h=>by unfold lN at h;exact okF (regs26_ok n) h Tryz.func50 (by kernel_rfl)
noncomputable def regs27 (n:Nat):Nat->List (FR R):=addF 50 ⟨Di,za,lN n,dflL R za,false⟩ (regs26 n)
theorem regs27_ok (n:Nat):RegsOK E (regs27 n):=addF_ok (regs26_ok n) (Jd n)
end Sh
