/- Part of the proof of a law. -/
import Derived.KernelRfl
import Derived.Test.YtdcnajadcbedkaaGreatDoorS715
set_option linter.all false
set_option linter.unusedSimpArgs false
set_option linter.unusedSectionVars false
open Go Go.Proofs Aq
namespace Sh
set_option maxRecDepth 100000
def dW (i:Nat) (a r:List Sk) (F:aH R.T a→Option (aH R.T r)):Prop:=∀p x,F p=some x→Pure E i (bf R a p) (kZ (bf R r x))
theorem okF {n:Nat} {om:Bool} {F:Nat→List (FR R)} {A:dz} {i:Nat} {fn:Func} {a r:List Sk} {p:aH R.T a} {x:aH R.T r} (hF:bI E F) (h:dK E R n om F bG A fn a r p=some x) (hf:E.P.funcs[i]? =some fn) (hok:(match fn.body with|some c=>decide (a.length≤fn.ntmps)&& iH fn.ntmps c&& qh c|none=>false)=true)
 (ha:gT a=true:=by rfl) (hl:(bf R a p).length=a.length:=by rfl) (ho:E.om i=om:=by rfl) (hs:E.iZ i=none:=by rfl):Pure E i (bf R a p) (kZ (bf R r x)):=aff OI hF WA h hf ha hl ho hs hok
def agH:dz:=⟨[],[]⟩
abbrev Ja:List Sk:=[]
abbrev DW:List Sk:=[.sg [.a .u32 8,.a .u8 64,.i .u64]]
@[irreducible] noncomputable def AA (n:Nat) (p:aH R.T Ja):Option (aH R.T DW):=dK E R n false (OY n) bG agH Tryz.f119 Ja DW p
theorem agI (n:Nat):dW 119 Ja DW (AA n):=fun _ _ h=>by unfold AA at h;exact okF (WC n) h Tryz.func119 (by kernel_rfl)
noncomputable def O4 (n:Nat):Nat→List (FR R):=bW 119 ⟨Ja,DW,AA n,dn R DW,false⟩ (OY n)
theorem WI (n:Nat):bI E (O4 n):=dN (WC n) (agI n)
def agJ:dz:=⟨[],[]⟩
abbrev Jb:List Sk:=[.d (.int .u32),.d (.int .i64)]
abbrev DX:List Sk:=[.d (.int .u32)]
@[irreducible] noncomputable def ql (n:Nat) (p:aH R.T Jb):Option (aH R.T DX):=dK E R n false (O4 n) bG agJ Tryz.f216 Jb DX p
theorem agK (n:Nat):dW 216 Jb DX (ql n):=fun _ _ h=>by unfold ql at h;exact okF (WI n) h Tryz.func216 (by kernel_rfl)
noncomputable def DY (n:Nat):Nat→List (FR R):=bW 216 ⟨Jb,DX,ql n,dn R DX,false⟩ (O4 n)
theorem WJ (n:Nat):bI E (DY n):=dN (WI n) (agK n)
def xO:dz:=⟨[(3,⟨[0,2,3],[2],⟨[(11,.d (.int .i64))],[(3,.sg [.a .u32 64])]⟩,[(.exit 0,⟨[],[(3,.sg [.a .u32 64])]⟩)]⟩),
 (7,⟨[0,2,3,4,11,22,23],[2],⟨[(24,.d (.int .i64))],[(3,.sg [.a .u32 64])]⟩,[(.exit 2,⟨[],[(3,.sg [.a .u32 64])]⟩)]⟩)],[]⟩
abbrev Jc:List Sk:=[.d (.slice (.int .u8))]
abbrev DZ:List Sk:=[.sg [.a .u32 64]]
@[irreducible] noncomputable def AB (n:Nat) (p:aH R.T Jc):Option (aH R.T DZ):=dK E R n false (DY n) bG xO Tryz.f198 Jc DZ p
theorem agL (n:Nat):dW 198 Jc DZ (AB n):=fun _ _ h=>by unfold AB at h;exact okF (WJ n) h Tryz.func198 (by kernel_rfl)
noncomputable def O5 (n:Nat):Nat→List (FR R):=bW 198 ⟨Jc,DZ,AB n,dn R DZ,false⟩ (DY n)
theorem WK (n:Nat):bI E (O5 n):=dN (WJ n) (agL n)
def agM:dz:=⟨[],[]⟩
abbrev Jd:List Sk:=[.d (.int .u32),.d (.int .i64),.d (.int .i64),.d (.int .i64)]
abbrev D5:List Sk:=[.d (.int .u32)]
@[irreducible] noncomputable def xP (n:Nat) (p:aH R.T Jd):Option (aH R.T D5):=dK E R n false (O5 n) bG agM Tryz.f199 Jd D5 p
theorem agN (n:Nat):dW 199 Jd D5 (xP n):=fun _ _ h=>by unfold xP at h;exact okF (WK n) h Tryz.func199 (by kernel_rfl)
noncomputable def D6 (n:Nat):Nat→List (FR R):=bW 199 ⟨Jd,D5,xP n,dn R D5,false⟩ (O5 n)
theorem WL (n:Nat):bI E (D6 n):=dN (WK n) (agN n)
def xQ:dz:=⟨[(4,⟨[2,4,5,6,7,21],[2,4,5],⟨[(22,.d (.int .i64))],[(6,.sg [.a .u32 4]),(7,.sg [.a .u32 4])]⟩,[(.exit 0,⟨[],[(6,.sg [.a .u32 4]),(7,.sg [.a .u32 4])]⟩)]⟩),
 (12,⟨[2,4,6,7],[4,6,7],⟨[(94,.d (.int .i64))],[(2,.sg [.a .u32 8])]⟩,[(.exit 2,⟨[],[(2,.sg [.a .u32 8])]⟩)]⟩)],[]⟩
abbrev Je:List Sk:=[.sg [.a .u32 8],.d (.slice (.int .u8))]
abbrev D7:List Sk:=[.sg [.a .u32 8]]
@[irreducible] noncomputable def AJ (n:Nat) (p:aH R.T Je):Option (aH R.T D7):=dK E R n false (D6 n) bG xQ Tryz.f169 Je D7 p
theorem agO (n:Nat):dW 169 Je D7 (AJ n):=fun _ _ h=>by unfold AJ at h;exact okF (WL n) h Tryz.func169 (by kernel_rfl)
noncomputable def Jf (n:Nat):Nat→List (FR R):=bW 169 ⟨Je,D7,AJ n,dn R D7,false⟩ (D6 n)
theorem WM (n:Nat):bI E (Jf n):=dN (WL n) (agO n)
def Jg:dz:=⟨[(1,⟨[2,4],[4],⟨[(1,.d .str)],[(2,.sg [.a .u32 8,.a .u8 64,.i .u64])]⟩,[(.exit 0,⟨[],[(2,.sg [.a .u32 8,.a .u8 64,.i .u64])]⟩)]⟩)],[]⟩
abbrev Jh:List Sk:=[.sg [.a .u32 8,.a .u8 64,.i .u64],.d .str]
abbrev D8:List Sk:=[.sg [.a .u32 8,.a .u8 64,.i .u64]]
@[irreducible] noncomputable def uf (n:Nat) (p:aH R.T Jh):Option (aH R.T D8):=dK E R n false (Jf n) bG Jg Tryz.f120 Jh D8 p
theorem agP (n:Nat):dW 120 Jh D8 (uf n):=fun _ _ h=>by unfold uf at h;exact okF (WM n) h Tryz.func120 (by kernel_rfl)
noncomputable def Ji (n:Nat):Nat→List (FR R):=bW 120 ⟨Jh,D8,uf n,dn R D8,false⟩ (Jf n)
theorem WO (n:Nat):bI E (Ji n):=dN (WM n) (agP n)
def Jj:dz:=⟨[(3,⟨[],[],⟨[(3,.d (.int .u64)),(4,.l (.own 21) (.int .u8))],[]⟩,[(.exit 0,⟨[(3,.d (.int .u64)),(4,.l (.own 21) (.int .u8))],[]⟩)]⟩)],[]⟩
abbrev AL:List Sk:=[.d (.int .i64)]
abbrev O6:List Sk:=[.d (.slice (.int .u8))]
@[irreducible] noncomputable def ug (n:Nat) (p:aH R.T AL):Option (aH R.T O6):=M6 E R n false (Ji n) bG Jj Tryz.f90 AL (.int .u8) p
theorem agQ (n:Nat) (p:aH R.T AL) (x:aH R.T O6) (h:ug n p=some x):Pure E 90 (bf R AL p) (.aj .sh (List.map (aF R (.int .u8)) x))∧mR E 90 (bf R AL p) (bL R (.int .u8)) (List.map (aF R (.int .u8)) x):=by
 unfold ug at h
 exact afg OI (WO n) WA h Tryz.func90 rfl rfl rfl rfl (by kernel_rfl)
noncomputable def O7 (n:Nat):Nat→List (FR R):=bW 90 ⟨AL,[.d (.slice (.int .u8))],ug n,dn R O6,true⟩ (Ji n)
theorem WQ (n:Nat):bI E (O7 n):=afk (G:=ug n) (WO n) (agQ n)
def agR:dz:=⟨[],[]⟩
abbrev Jk:List Sk:=[.d .str]
abbrev D9:List Sk:=[.d (.slice (.int .u8))]
@[irreducible] noncomputable def AO (n:Nat) (p:aH R.T Jk):Option (aH R.T D9):=dK E R n false (O7 n) bG agR Tryz.f121 Jk D9 p
theorem agS (n:Nat):dW 121 Jk D9 (AO n):=fun _ _ h=>by unfold AO at h;exact okF (WQ n) h Tryz.func121 (by kernel_rfl)
noncomputable def AP (n:Nat):Nat→List (FR R):=bW 121 ⟨Jk,D9,AO n,dn R D9,false⟩ (O7 n)
theorem WR (n:Nat):bI E (AP n):=dN (WQ n) (agS n)
def rU:dz:=⟨[(3,⟨[1,2,3],[1,2],⟨[(4,.l (.own 22) (.int .u8))],[]⟩,[(.exit 0,⟨[(4,.l (.own 22) (.int .u8))],[]⟩)]⟩),
 (6,⟨[1,2,3],[1,2],⟨[(4,.l (.own 22) (.int .u8)),(23,.d (.int .i64))],[]⟩,[(.exit 2,⟨[(4,.l (.own 22) (.int .u8))],[]⟩)]⟩),
 (13,⟨[1,2,6],[1,2],⟨[(40,.d (.int .i64))],[(6,.sg [.a .u8 32])]⟩,[(.exit 4,⟨[],[(6,.sg [.a .u8 32])]⟩)]⟩)],[]⟩
abbrev Jl:List Sk:=[.sg [.a .u32 8,.a .u8 64,.i .u64]]
abbrev Ea:List Sk:=[.sg [.a .u8 32]]
@[irreducible] noncomputable def AQ (n:Nat) (p:aH R.T Jl):Option (aH R.T Ea):=dK E R n false (AP n) bG rU Tryz.f122 Jl Ea p
theorem agT (n:Nat):dW 122 Jl Ea (AQ n):=fun _ _ h=>by unfold AQ at h;exact okF (WR n) h Tryz.func122 (by kernel_rfl)
noncomputable def Jm (n:Nat):Nat→List (FR R):=bW 122 ⟨Jl,Ea,AQ n,dn R Ea,false⟩ (AP n)
theorem WS (n:Nat):bI E (Jm n):=dN (WR n) (agT n)
def Jo:dz:=⟨[(3,⟨[4,5,15,16],[4],⟨[(17,.d (.int .i64))],[(5,.sg [.a .u32 8,.a .u8 64,.i .u64])]⟩,[(.exit 0,⟨[],[(5,.sg [.a .u32 8,.a .u8 64,.i .u64])]⟩)]⟩)],[]⟩
abbrev Jp:List Sk:=[.d (.int .i64),.d (.slice .str)]
abbrev Eb:List Sk:=[.d (.st 0)]
@[irreducible] noncomputable def xR (n:Nat) (p:aH R.T Jp):Option (aH R.T Eb):=dK E R n false (Jm n) bG Jo Tryz.f71 Jp Eb p
theorem WT (n:Nat):dW 71 Jp Eb (xR n):=fun _ _ h=>by unfold xR at h;exact okF (WS n) h Tryz.func71 (by kernel_rfl)
noncomputable def Jq (n:Nat):Nat→List (FR R):=bW 71 ⟨Jp,Eb,xR n,dn R Eb,false⟩ (Jm n)
theorem WU (n:Nat):bI E (Jq n):=dN (WS n) (WT n)
def Jr:dz:=⟨[(3,⟨[1,11,12],[],⟨[(5,.l (.own 10) (.int .u8)),(13,.d (.int .i64))],[]⟩,[(.exit 0,⟨[(5,.l (.own 10) (.int .u8))],[]⟩)]⟩)],[]⟩
abbrev Js:List Sk:=[.d (.slice (.int .i64)),.fn 90 [] []]
abbrev Ec:List Sk:=[.d (.slice (.int .u8))]
@[irreducible] noncomputable def Ed (n:Nat) (p:aH R.T Js):Option (aH R.T Ec):=dK E R n false (Jq n) bG Jr Tryz.f117 Js Ec p
theorem agU (n:Nat):dW 117 Js Ec (Ed n):=fun _ _ h=>by unfold Ed at h;exact okF (WU n) h Tryz.func117 (by kernel_rfl)
noncomputable def O8 (n:Nat):Nat→List (FR R):=bW 117 ⟨Js,Ec,Ed n,dn R Ec,false⟩ (Jq n)
theorem WV (n:Nat):bI E (O8 n):=dN (WU n) (agU n)
def agV:dz:=⟨[],[]⟩
abbrev Jt:List Sk:=[.d (.slice (.int .i64))]
abbrev Ee:List Sk:=[.d (.slice (.int .u8))]
@[irreducible] noncomputable def AU (n:Nat) (p:aH R.T Jt):Option (aH R.T Ee):=dK E R n false (O8 n) bG agV Tryz.f69 Jt Ee p
theorem agW (n:Nat):dW 69 Jt Ee (AU n):=fun _ _ h=>by unfold AU at h;exact okF (WV n) h Tryz.func69 (by kernel_rfl)
noncomputable def WW (n:Nat):Nat→List (FR R):=bW 69 ⟨Jt,Ee,AU n,dn R Ee,false⟩ (O8 n)
theorem agX (n:Nat):bI E (WW n):=dN (WV n) (agW n)
end Sh
