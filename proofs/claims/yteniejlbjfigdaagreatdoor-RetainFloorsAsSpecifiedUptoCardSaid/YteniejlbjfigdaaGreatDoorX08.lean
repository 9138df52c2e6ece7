/- Part of the proof of a law: ShT. -/
import Derived.KernelRfl
import Derived.Test.YteniejlbjfigdaaGreatDoorProg
import Derived.Test.YteniejlbjfigdaaGreatDoorX07
set_option linter.all false
set_option linter.unusedSimpArgs false
set_option linter.unusedSectionVars false
open Go Go.Proofs Aq
namespace Sh
set_option maxRecDepth 100000
structure Def where
  Name : List UInt8
  Kind : Int
  Lo : Int
  Hi : Int
  Words : List (List UInt8)
  deriving DecidableEq
def Def.c (x : Def) : List V := [.str x.Name, .int .i64 x.Kind, .int .i64 x.Lo, .int .i64 x.Hi, lv V.str x.Words]
def Def.v (x : Def) : V := .agg x.c
theorem Def.pc (x : Def) : pclean x.v = true := by simp [Def.v, Def.c, pclean, pcleanL, pclean_lv, pclean_lstr, pclean_liv, pclean_lint, pclean_lbool, iv]
attribute [go_sem] Def.pc
structure Schema where
  Dims : Int
  Metric : Int
  Defs : List Def
  deriving DecidableEq
def Schema.c (x : Schema) : List V := [.int .i64 x.Dims, .int .i64 x.Metric, lv Def.v x.Defs]
def Schema.v (x : Schema) : V := .agg x.c
theorem Schema.pc (x : Schema) : pclean x.v = true := by simp [Schema.v, Schema.c, pclean, pcleanL, pclean_lv, pclean_lstr, pclean_liv, pclean_lint, pclean_lbool, iv, Def.pc]
attribute [go_sem] Schema.pc
structure Attr where
  Name : List UInt8
  Kind : Int
  N : Int
  S : List UInt8
  deriving DecidableEq
def Attr.c (x : Attr) : List V := [.str x.Name, .int .i64 x.Kind, .int .i64 x.N, .str x.S]
def Attr.v (x : Attr) : V := .agg x.c
theorem Attr.pc (x : Attr) : pclean x.v = true := by simp [Attr.v, Attr.c, pclean, pcleanL, pclean_lv, pclean_lstr, pclean_liv, pclean_lint, pclean_lbool, iv]
attribute [go_sem] Attr.pc
structure Entry where
  ID : Int
  Ver : Int
  Owner : Int
  Filed : Int
  From : Int
  To : Int
  Born : Int
  Vec : List Int
  Attrs : List Attr
  deriving DecidableEq
def Entry.c (x : Entry) : List V := [.int .i64 x.ID, .int .i64 x.Ver, .int .i64 x.Owner, .int .i64 x.Filed, .int .i64 x.From, .int .i64 x.To, .int .i64 x.Born, lv iv x.Vec, lv Attr.v x.Attrs]
def Entry.v (x : Entry) : V := .agg x.c
theorem Entry.pc (x : Entry) : pclean x.v = true := by simp [Entry.v, Entry.c, pclean, pcleanL, pclean_lv, pclean_lstr, pclean_liv, pclean_lint, pclean_lbool, iv, Attr.pc]
attribute [go_sem] Entry.pc
structure Row where
  Entry : Entry
  Died : Int
  deriving DecidableEq
def Row.c (x : Row) : List V := [.int .i64 x.Entry.ID, .int .i64 x.Entry.Ver, .int .i64 x.Entry.Owner, .int .i64 x.Entry.Filed, .int .i64 x.Entry.From, .int .i64 x.Entry.To, .int .i64 x.Entry.Born, lv iv x.Entry.Vec, lv Attr.v x.Entry.Attrs, .int .i64 x.Died]
def Row.v (x : Row) : V := .agg x.c
theorem Row.pc (x : Row) : pclean x.v = true := by simp [Row.v, Row.c, pclean, pcleanL, pclean_lv, pclean_lstr, pclean_liv, pclean_lint, pclean_lbool, iv, Attr.pc, Entry.pc]
attribute [go_sem] Row.pc
structure Book where
  Schema : Schema
  Commit : Int
  Day : Int
  Days : List Int
  Rows : List Row
  deriving DecidableEq
def Book.c (x : Book) : List V := [.int .i64 x.Schema.Dims, .int .i64 x.Schema.Metric, lv Def.v x.Schema.Defs, .int .i64 x.Commit, .int .i64 x.Day, lv iv x.Days, lv Row.v x.Rows]
def Book.v (x : Book) : V := .agg x.c
theorem Book.pc (x : Book) : pclean x.v = true := by simp [Book.v, Book.c, pclean, pcleanL, pclean_lv, pclean_lstr, pclean_liv, pclean_lint, pclean_lbool, iv, Attr.pc, Def.pc, Entry.pc, Row.pc, Schema.pc]
attribute [go_sem] Book.pc
structure Digest where
  b0 : Int
  b1 : Int
  b2 : Int
  b3 : Int
  b4 : Int
  b5 : Int
  b6 : Int
  b7 : Int
  b8 : Int
  b9 : Int
  b10 : Int
  b11 : Int
  b12 : Int
  b13 : Int
  b14 : Int
  b15 : Int
  deriving DecidableEq
def Digest.c (x : Digest) : List V := [.int .u8 x.b0, .int .u8 x.b1, .int .u8 x.b2, .int .u8 x.b3, .int .u8 x.b4, .int .u8 x.b5, .int .u8 x.b6, .int .u8 x.b7, .int .u8 x.b8, .int .u8 x.b9, .int .u8 x.b10, .int .u8 x.b11, .int .u8 x.b12, .int .u8 x.b13, .int .u8 x.b14, .int .u8 x.b15]
def Digest.v (x : Digest) : V := .agg x.c
theorem Digest.pc (x : Digest) : pclean x.v = true := by simp [Digest.v, Digest.c, pclean, pcleanL, pclean_lv, pclean_lstr, pclean_liv, pclean_lint, pclean_lbool, iv]
attribute [go_sem] Digest.pc
structure Gone where
  ID : Int
  Ver : Int
  Born : Int
  Died : Int
  Leaf : Digest
  deriving DecidableEq
def Gone.c (x : Gone) : List V := [.int .i64 x.ID, .int .i64 x.Ver, .int .i64 x.Born, .int .i64 x.Died, .int .u8 x.Leaf.b0, .int .u8 x.Leaf.b1, .int .u8 x.Leaf.b2, .int .u8 x.Leaf.b3, .int .u8 x.Leaf.b4, .int .u8 x.Leaf.b5, .int .u8 x.Leaf.b6, .int .u8 x.Leaf.b7, .int .u8 x.Leaf.b8, .int .u8 x.Leaf.b9, .int .u8 x.Leaf.b10, .int .u8 x.Leaf.b11, .int .u8 x.Leaf.b12, .int .u8 x.Leaf.b13, .int .u8 x.Leaf.b14, .int .u8 x.Leaf.b15]
def Gone.v (x : Gone) : V := .agg x.c
theorem Gone.pc (x : Gone) : pclean x.v = true := by simp [Gone.v, Gone.c, pclean, pcleanL, pclean_lv, pclean_lstr, pclean_liv, pclean_lint, pclean_lbool, iv, Digest.pc]
attribute [go_sem] Gone.pc
structure Pred where
  Op : Int
  Name : List UInt8
  N : Int
  M : Int
  S : List UInt8
  Subs : List Pred
mutual
def Pred.vr : Pred → V
  | ⟨a0, a1, a2, a3, a4, a5⟩ => .agg [.int .i64 a0, .str a1, .int .i64 a2, .int .i64 a3, .str a4, .lst .sh (Pred.vl a5)]
def Pred.vl : List Pred → List V
  | [] => []
  | p :: l => Pred.vr p :: Pred.vl l
end
theorem Pred.vl_map : ∀ l, Pred.vl l = l.map Pred.vr
  | [] => by simp [Pred.vl]
  | p :: l => by rw [Pred.vl, List.map_cons, ← Pred.vl_map l]
def Pred.c (x : Pred) : List V := [.int .i64 x.Op, .str x.Name, .int .i64 x.N, .int .i64 x.M, .str x.S, .lst .sh (x.Subs.map Pred.vr)]
def Pred.v (x : Pred) : V := .agg x.c
theorem Pred.vr_eq : Pred.vr = Pred.v := by funext x; cases x; simp [Pred.vr, Pred.v, Pred.c, Pred.vl_map]
theorem Pred.vr_map (l : List Pred) : V.lst .sh (l.map Pred.vr) = lv Pred.v l := by rw [Pred.vr_eq]; rfl
theorem Pred.cells (x : Pred) : ((Pred.v x).cells) = x.c := rfl
theorem Pred.nr (x : Pred) : notRaw x.v = true := rfl
theorem Pred.er_ (x : Pred) : er x.v = x.v := rfl
theorem Pred.len (x : Pred) : x.c.length = 6 := rfl
theorem Pred.one (x : Pred) : oneCells x.c = true := rfl
theorem Pred.pcr : ∀ x : Pred, pclean x.vr = true := by
  intro x
  refine Pred.rec (motive_1 := fun x => pclean x.vr = true) (motive_2 := fun l => pcleanL (Pred.vl l) = true) ?_ ?_ ?_ x
  · intros; simp_all [Pred.vr, pclean, pcleanL, pclean_lstr, pclean_liv]
  · simp [Pred.vl, pcleanL]
  · intro p l h1 h2; simp [Pred.vl, pcleanL, h1, h2]
theorem Pred.pc (x : Pred) : pclean x.v = true := by rw [← Pred.vr_eq]; exact Pred.pcr x
attribute [go_sem] Pred.nr Pred.er_ Pred.cells Pred.len Pred.one Pred.pc Pred.vr_map
structure Law where
  Name : List UInt8
  Where : Pred
  Days : Int
def Law.c (x : Law) : List V := [.str x.Name, .int .i64 x.Where.Op, .str x.Where.Name, .int .i64 x.Where.N, .int .i64 x.Where.M, .str x.Where.S, .lst .sh (x.Where.Subs.map Pred.vr), .int .i64 x.Days]
def Law.v (x : Law) : V := .agg x.c
theorem Law.pc (x : Law) : pclean x.v = true := by simp [Law.v, Law.c, pclean, pcleanL, pclean_lv, pclean_lstr, pclean_liv, pclean_lint, pclean_lbool, iv, Pred.pc, Pred.vr_map]
attribute [go_sem] Law.pc
structure ref21_Kept where
  B : Book
  L : List Gone
  E : Int
  deriving DecidableEq
def ref21_Kept.c (x : ref21_Kept) : List V := [.int .i64 x.B.Schema.Dims, .int .i64 x.B.Schema.Metric, lv Def.v x.B.Schema.Defs, .int .i64 x.B.Commit, .int .i64 x.B.Day, lv iv x.B.Days, lv Row.v x.B.Rows, lv Gone.v x.L, .int .i64 x.E]
def ref21_Kept.v (x : ref21_Kept) : V := .agg x.c
theorem ref21_Kept.pc (x : ref21_Kept) : pclean x.v = true := by simp [ref21_Kept.v, ref21_Kept.c, pclean, pcleanL, pclean_lv, pclean_lstr, pclean_liv, pclean_lint, pclean_lbool, iv, Attr.pc, Book.pc, Def.pc, Digest.pc, Entry.pc, Gone.pc, Row.pc, Schema.pc]
attribute [go_sem] ref21_Kept.pc
structure Snapshot where
  Day : Int
  Commit : Int
  deriving DecidableEq
def Snapshot.c (x : Snapshot) : List V := [.int .i64 x.Day, .int .i64 x.Commit]
def Snapshot.v (x : Snapshot) : V := .agg x.c
theorem Snapshot.pc (x : Snapshot) : pclean x.v = true := by simp [Snapshot.v, Snapshot.c, pclean, pcleanL, pclean_lv, pclean_lstr, pclean_liv, pclean_lint, pclean_lbool, iv]
attribute [go_sem] Snapshot.pc
structure ref21_Path where
  L : List Digest
  E : Int
  deriving DecidableEq
def ref21_Path.c (x : ref21_Path) : List V := [lv Digest.v x.L, .int .i64 x.E]
def ref21_Path.v (x : ref21_Path) : V := .agg x.c
theorem ref21_Path.pc (x : ref21_Path) : pclean x.v = true := by simp [ref21_Path.v, ref21_Path.c, pclean, pcleanL, pclean_lv, pclean_lstr, pclean_liv, pclean_lint, pclean_lbool, iv, Digest.pc]
attribute [go_sem] ref21_Path.pc
structure Event where
  Kind : Int
  Commit : Int
  Day : Int
  ID : Int
  Owner : Int
  Until : Int
  From : Int
  Vec : List Int
  Attrs : List Attr
  Nonce : Digest
  deriving DecidableEq
def Event.c (x : Event) : List V := [.int .i64 x.Kind, .int .i64 x.Commit, .int .i64 x.Day, .int .i64 x.ID, .int .i64 x.Owner, .int .i64 x.Until, .int .i64 x.From, lv iv x.Vec, lv Attr.v x.Attrs, .int .u8 x.Nonce.b0, .int .u8 x.Nonce.b1, .int .u8 x.Nonce.b2, .int .u8 x.Nonce.b3, .int .u8 x.Nonce.b4, .int .u8 x.Nonce.b5, .int .u8 x.Nonce.b6, .int .u8 x.Nonce.b7, .int .u8 x.Nonce.b8, .int .u8 x.Nonce.b9, .int .u8 x.Nonce.b10, .int .u8 x.Nonce.b11, .int .u8 x.Nonce.b12, .int .u8 x.Nonce.b13, .int .u8 x.Nonce.b14, .int .u8 x.Nonce.b15]
def Event.v (x : Event) : V := .agg x.c
theorem Event.pc (x : Event) : pclean x.v = true := by simp [Event.v, Event.c, pclean, pcleanL, pclean_lv, pclean_lstr, pclean_liv, pclean_lint, pclean_lbool, iv, Attr.pc, Digest.pc]
attribute [go_sem] Event.pc
structure Query where
  Vec : List Int
  K : Int
  Within : Int
  Where : Pred
  At : Snapshot
  Budget : Int
def Query.c (x : Query) : List V := [lv iv x.Vec, .int .i64 x.K, .int .i64 x.Within, .int .i64 x.Where.Op, .str x.Where.Name, .int .i64 x.Where.N, .int .i64 x.Where.M, .str x.Where.S, .lst .sh (x.Where.Subs.map Pred.vr), .int .i64 x.At.Day, .int .i64 x.At.Commit, .int .i64 x.Budget]
def Query.v (x : Query) : V := .agg x.c
theorem Query.pc (x : Query) : pclean x.v = true := by simp [Query.v, Query.c, pclean, pcleanL, pclean_lv, pclean_lstr, pclean_liv, pclean_lint, pclean_lbool, iv, Pred.pc, Snapshot.pc, Pred.vr_map]
attribute [go_sem] Query.pc
structure Hit where
  ID : Int
  Ver : Int
  Key : Int
  deriving DecidableEq
def Hit.c (x : Hit) : List V := [.int .i64 x.ID, .int .i64 x.Ver, .int .i64 x.Key]
def Hit.v (x : Hit) : V := .agg x.c
theorem Hit.pc (x : Hit) : pclean x.v = true := by simp [Hit.v, Hit.c, pclean, pcleanL, pclean_lv, pclean_lstr, pclean_liv, pclean_lint, pclean_lbool, iv]
attribute [go_sem] Hit.pc
structure ref19_Folded where
  B : Book
  N : Int
  E : Int
  deriving DecidableEq
def ref19_Folded.c (x : ref19_Folded) : List V := [.int .i64 x.B.Schema.Dims, .int .i64 x.B.Schema.Metric, lv Def.v x.B.Schema.Defs, .int .i64 x.B.Commit, .int .i64 x.B.Day, lv iv x.B.Days, lv Row.v x.B.Rows, .int .i64 x.N, .int .i64 x.E]
def ref19_Folded.v (x : ref19_Folded) : V := .agg x.c
theorem ref19_Folded.pc (x : ref19_Folded) : pclean x.v = true := by simp [ref19_Folded.v, ref19_Folded.c, pclean, pcleanL, pclean_lv, pclean_lstr, pclean_liv, pclean_lint, pclean_lbool, iv, Attr.pc, Book.pc, Def.pc, Entry.pc, Row.pc, Schema.pc]
attribute [go_sem] ref19_Folded.pc
structure ref03_Path where
  L : List Digest
  E : Int
  deriving DecidableEq
def ref03_Path.c (x : ref03_Path) : List V := [lv Digest.v x.L, .int .i64 x.E]
def ref03_Path.v (x : ref03_Path) : V := .agg x.c
theorem ref03_Path.pc (x : ref03_Path) : pclean x.v = true := by simp [ref03_Path.v, ref03_Path.c, pclean, pcleanL, pclean_lv, pclean_lstr, pclean_liv, pclean_lint, pclean_lbool, iv, Digest.pc]
attribute [go_sem] ref03_Path.pc
structure ref19_Booked where
  B : Book
  E : Int
  deriving DecidableEq
def ref19_Booked.c (x : ref19_Booked) : List V := [.int .i64 x.B.Schema.Dims, .int .i64 x.B.Schema.Metric, lv Def.v x.B.Schema.Defs, .int .i64 x.B.Commit, .int .i64 x.B.Day, lv iv x.B.Days, lv Row.v x.B.Rows, .int .i64 x.E]
def ref19_Booked.v (x : ref19_Booked) : V := .agg x.c
theorem ref19_Booked.pc (x : ref19_Booked) : pclean x.v = true := by simp [ref19_Booked.v, ref19_Booked.c, pclean, pcleanL, pclean_lv, pclean_lstr, pclean_liv, pclean_lint, pclean_lbool, iv, Attr.pc, Book.pc, Def.pc, Entry.pc, Row.pc, Schema.pc]
attribute [go_sem] ref19_Booked.pc
structure merkle_path where
  l : List Digest
  short : Bool
  deriving DecidableEq
def merkle_path.c (x : merkle_path) : List V := [lv Digest.v x.l, .bool x.short]
def merkle_path.v (x : merkle_path) : V := .agg x.c
theorem merkle_path.pc (x : merkle_path) : pclean x.v = true := by simp [merkle_path.v, merkle_path.c, pclean, pcleanL, pclean_lv, pclean_lstr, pclean_liv, pclean_lint, pclean_lbool, iv, Digest.pc]
attribute [go_sem] merkle_path.pc
structure ref13_Got where
  A : Attr
  Is : Bool
  deriving DecidableEq
def ref13_Got.c (x : ref13_Got) : List V := [.str x.A.Name, .int .i64 x.A.Kind, .int .i64 x.A.N, .str x.A.S, .bool x.Is]
def ref13_Got.v (x : ref13_Got) : V := .agg x.c
theorem ref13_Got.pc (x : ref13_Got) : pclean x.v = true := by simp [ref13_Got.v, ref13_Got.c, pclean, pcleanL, pclean_lv, pclean_lstr, pclean_liv, pclean_lint, pclean_lbool, iv, Attr.pc]
attribute [go_sem] ref13_Got.pc
structure ref19_days where
  from_ : Int
  to : Int
  deriving DecidableEq
def ref19_days.c (x : ref19_days) : List V := [.int .i64 x.from_, .int .i64 x.to]
def ref19_days.v (x : ref19_days) : V := .agg x.c
theorem ref19_days.pc (x : ref19_days) : pclean x.v = true := by simp [ref19_days.v, ref19_days.c, pclean, pcleanL, pclean_lv, pclean_lstr, pclean_liv, pclean_lint, pclean_lbool, iv]
attribute [go_sem] ref19_days.pc
@[go_sem] theorem sz2 : szT Tryz.prog 2 = some 1 := by kernel_rfl
@[go_sem] theorem ag2 : isAggT Tryz.prog 2 = some false := by kernel_rfl
@[go_sem] theorem by2 : bytesT Tryz.prog 2 = some 8 := by kernel_rfl
@[go_sem] theorem un2 : Tryz.prog.underlying 2 = some (.int .i64) := by kernel_rfl
@[go_sem] theorem sz3 : szT Tryz.prog 3 = some 1 := by kernel_rfl
@[go_sem] theorem ag3 : isAggT Tryz.prog 3 = some false := by kernel_rfl
@[go_sem] theorem by3 : bytesT Tryz.prog 3 = some 8 := by kernel_rfl
@[go_sem] theorem un3 : Tryz.prog.underlying 3 = some (.int .i64) := by kernel_rfl
@[go_sem] theorem sz4 : szT Tryz.prog 4 = some 1 := by kernel_rfl
@[go_sem] theorem ag4 : isAggT Tryz.prog 4 = some false := by kernel_rfl
@[go_sem] theorem by4 : bytesT Tryz.prog 4 = some 1 := by kernel_rfl
@[go_sem] theorem un4 : Tryz.prog.underlying 4 = some .bool := by kernel_rfl
@[go_sem] theorem sz5 : szT Tryz.prog 5 = some 1 := by kernel_rfl
@[go_sem] theorem ag5 : isAggT Tryz.prog 5 = some false := by kernel_rfl
@[go_sem] theorem by5 : bytesT Tryz.prog 5 = some 1 := by kernel_rfl
@[go_sem] theorem un5 : Tryz.prog.underlying 5 = some (.int .u8) := by kernel_rfl
@[go_sem] theorem sz6 : szT Tryz.prog 6 = some 1 := by kernel_rfl
@[go_sem] theorem ag6 : isAggT Tryz.prog 6 = some false := by kernel_rfl
@[go_sem] theorem by6 : bytesT Tryz.prog 6 = some 1 := by kernel_rfl
@[go_sem] theorem un6 : Tryz.prog.underlying 6 = some (.int .u8) := by kernel_rfl
@[go_sem] theorem sz7 : szT Tryz.prog 7 = some 4 := by kernel_rfl
@[go_sem] theorem ag7 : isAggT Tryz.prog 7 = some true := by kernel_rfl
@[go_sem] theorem by7 : bytesT Tryz.prog 7 = some 24 := by kernel_rfl
@[go_sem] theorem fa7_0 : fieldT Tryz.prog 7 0 = some (0, 2) := by kernel_rfl
@[go_sem] theorem fa7_1 : fieldT Tryz.prog 7 1 = some (1, 3) := by kernel_rfl
@[go_sem] theorem fa7_2 : fieldT Tryz.prog 7 2 = some (2, 4) := by kernel_rfl
@[go_sem] theorem fa7_3 : fieldT Tryz.prog 7 3 = some (3, 6) := by kernel_rfl
@[go_sem] theorem sz8 : szT Tryz.prog 8 = some 4 := by kernel_rfl
@[go_sem] theorem ag8 : isAggT Tryz.prog 8 = some true := by kernel_rfl
@[go_sem] theorem by8 : bytesT Tryz.prog 8 = some 24 := by kernel_rfl
@[go_sem] theorem fa8_0 : fieldT Tryz.prog 8 0 = some (0, 2) := by kernel_rfl
@[go_sem] theorem fa8_1 : fieldT Tryz.prog 8 1 = some (1, 3) := by kernel_rfl
@[go_sem] theorem fa8_2 : fieldT Tryz.prog 8 2 = some (2, 4) := by kernel_rfl
@[go_sem] theorem fa8_3 : fieldT Tryz.prog 8 3 = some (3, 6) := by kernel_rfl
@[go_sem] theorem sz9 : szT Tryz.prog 9 = some 1 := by kernel_rfl
@[go_sem] theorem ag9 : isAggT Tryz.prog 9 = some false := by kernel_rfl
@[go_sem] theorem by9 : bytesT Tryz.prog 9 = some 16 := by kernel_rfl
@[go_sem] theorem is9 : isStrT Tryz.prog 9 = true := by kernel_rfl
@[go_sem] theorem un9 : Tryz.prog.underlying 9 = some .string := by kernel_rfl
@[go_sem] theorem sz10 : szT Tryz.prog 10 = some 1 := by kernel_rfl
@[go_sem] theorem ag10 : isAggT Tryz.prog 10 = some false := by kernel_rfl
@[go_sem] theorem by10 : bytesT Tryz.prog 10 = some 16 := by kernel_rfl
@[go_sem] theorem is10 : isStrT Tryz.prog 10 = true := by kernel_rfl
@[go_sem] theorem un10 : Tryz.prog.underlying 10 = some .string := by kernel_rfl
@[go_sem] theorem sz11 : szT Tryz.prog 11 = some 1 := by kernel_rfl
@[go_sem] theorem ag11 : isAggT Tryz.prog 11 = some false := by kernel_rfl
@[go_sem] theorem by11 : bytesT Tryz.prog 11 = some 16 := by kernel_rfl
@[go_sem] theorem is11 : isStrT Tryz.prog 11 = true := by kernel_rfl
@[go_sem] theorem un11 : Tryz.prog.underlying 11 = some .string := by kernel_rfl
@[go_sem] theorem sz12 : szT Tryz.prog 12 = some 1 := by kernel_rfl
@[go_sem] theorem ag12 : isAggT Tryz.prog 12 = some false := by kernel_rfl
@[go_sem] theorem by12 : bytesT Tryz.prog 12 = some 8 := by kernel_rfl
@[go_sem] theorem un12 : Tryz.prog.underlying 12 = some (.int .u64) := by kernel_rfl
@[go_sem] theorem sz13 : szT Tryz.prog 13 = some 2 := by kernel_rfl
@[go_sem] theorem ag13 : isAggT Tryz.prog 13 = some true := by kernel_rfl
@[go_sem] theorem by13 : bytesT Tryz.prog 13 = some 24 := by kernel_rfl
@[go_sem] theorem fa13_0 : fieldT Tryz.prog 13 0 = some (0, 9) := by kernel_rfl
@[go_sem] theorem fa13_1 : fieldT Tryz.prog 13 1 = some (1, 12) := by kernel_rfl
@[go_sem] theorem sz14 : szT Tryz.prog 14 = some 2 := by kernel_rfl
@[go_sem] theorem ag14 : isAggT Tryz.prog 14 = some true := by kernel_rfl
@[go_sem] theorem by14 : bytesT Tryz.prog 14 = some 24 := by kernel_rfl
@[go_sem] theorem fa14_0 : fieldT Tryz.prog 14 0 = some (0, 9) := by kernel_rfl
@[go_sem] theorem fa14_1 : fieldT Tryz.prog 14 1 = some (1, 12) := by kernel_rfl
@[go_sem] theorem sz21 : szT Tryz.prog 21 = some 1 := by kernel_rfl
@[go_sem] theorem ag21 : isAggT Tryz.prog 21 = some false := by kernel_rfl
@[go_sem] theorem by21 : bytesT Tryz.prog 21 = some 4 := by kernel_rfl
@[go_sem] theorem un21 : Tryz.prog.underlying 21 = some (.int .i32) := by kernel_rfl
@[go_sem] theorem sz22 : szT Tryz.prog 22 = some 1 := by kernel_rfl
@[go_sem] theorem ag22 : isAggT Tryz.prog 22 = some false := by kernel_rfl
@[go_sem] theorem by22 : bytesT Tryz.prog 22 = some 24 := by kernel_rfl
@[go_sem] theorem is22 : isSliceT Tryz.prog 22 = true := by kernel_rfl
@[go_sem] theorem el22 : elemT Tryz.prog 22 = some 121 := by kernel_rfl
@[go_sem] theorem un22 : Tryz.prog.underlying 22 = some (.slice 121) := by kernel_rfl
@[go_sem] theorem sz23 : szT Tryz.prog 23 = some 3 := by kernel_rfl
@[go_sem] theorem ag23 : isAggT Tryz.prog 23 = some true := by kernel_rfl
@[go_sem] theorem by23 : bytesT Tryz.prog 23 = some 40 := by kernel_rfl
@[go_sem] theorem fa23_0 : fieldT Tryz.prog 23 0 = some (0, 3) := by kernel_rfl
@[go_sem] theorem fa23_1 : fieldT Tryz.prog 23 1 = some (1, 3) := by kernel_rfl
@[go_sem] theorem fa23_2 : fieldT Tryz.prog 23 2 = some (2, 22) := by kernel_rfl
@[go_sem] theorem sz24 : szT Tryz.prog 24 = some 3 := by kernel_rfl
@[go_sem] theorem ag24 : isAggT Tryz.prog 24 = some true := by kernel_rfl
@[go_sem] theorem by24 : bytesT Tryz.prog 24 = some 40 := by kernel_rfl
@[go_sem] theorem fa24_0 : fieldT Tryz.prog 24 0 = some (0, 3) := by kernel_rfl
@[go_sem] theorem fa24_1 : fieldT Tryz.prog 24 1 = some (1, 3) := by kernel_rfl
@[go_sem] theorem fa24_2 : fieldT Tryz.prog 24 2 = some (2, 22) := by kernel_rfl
@[go_sem] theorem sz25 : szT Tryz.prog 25 = some 1 := by kernel_rfl
@[go_sem] theorem ag25 : isAggT Tryz.prog 25 = some false := by kernel_rfl
@[go_sem] theorem by25 : bytesT Tryz.prog 25 = some 24 := by kernel_rfl
@[go_sem] theorem is25 : isSliceT Tryz.prog 25 = true := by kernel_rfl
@[go_sem] theorem el25 : elemT Tryz.prog 25 = some 51 := by kernel_rfl
@[go_sem] theorem un25 : Tryz.prog.underlying 25 = some (.slice 51) := by kernel_rfl
@[go_sem] theorem sz26 : szT Tryz.prog 26 = some 1 := by kernel_rfl
@[go_sem] theorem ag26 : isAggT Tryz.prog 26 = some false := by kernel_rfl
@[go_sem] theorem by26 : bytesT Tryz.prog 26 = some 24 := by kernel_rfl
@[go_sem] theorem is26 : isSliceT Tryz.prog 26 = true := by kernel_rfl
@[go_sem] theorem el26 : elemT Tryz.prog 26 = some 80 := by kernel_rfl
@[go_sem] theorem un26 : Tryz.prog.underlying 26 = some (.slice 80) := by kernel_rfl
@[go_sem] theorem sz27 : szT Tryz.prog 27 = some 1 := by kernel_rfl
@[go_sem] theorem ag27 : isAggT Tryz.prog 27 = some false := by kernel_rfl
@[go_sem] theorem by27 : bytesT Tryz.prog 27 = some 24 := by kernel_rfl
@[go_sem] theorem is27 : isSliceT Tryz.prog 27 = true := by kernel_rfl
@[go_sem] theorem el27 : elemT Tryz.prog 27 = some 3 := by kernel_rfl
@[go_sem] theorem un27 : Tryz.prog.underlying 27 = some (.slice 3) := by kernel_rfl
@[go_sem] theorem sz28 : szT Tryz.prog 28 = some 1 := by kernel_rfl
@[go_sem] theorem ag28 : isAggT Tryz.prog 28 = some false := by kernel_rfl
@[go_sem] theorem by28 : bytesT Tryz.prog 28 = some 24 := by kernel_rfl
@[go_sem] theorem is28 : isSliceT Tryz.prog 28 = true := by kernel_rfl
@[go_sem] theorem el28 : elemT Tryz.prog 28 = some 67 := by kernel_rfl
@[go_sem] theorem un28 : Tryz.prog.underlying 28 = some (.slice 67) := by kernel_rfl
@[go_sem] theorem sz29 : szT Tryz.prog 29 = some 7 := by kernel_rfl
@[go_sem] theorem ag29 : isAggT Tryz.prog 29 = some true := by kernel_rfl
@[go_sem] theorem by29 : bytesT Tryz.prog 29 = some 104 := by kernel_rfl
@[go_sem] theorem fa29_0 : fieldT Tryz.prog 29 0 = some (0, 24) := by kernel_rfl
@[go_sem] theorem fa29_1 : fieldT Tryz.prog 29 1 = some (3, 3) := by kernel_rfl
@[go_sem] theorem fa29_2 : fieldT Tryz.prog 29 2 = some (4, 3) := by kernel_rfl
@[go_sem] theorem fa29_3 : fieldT Tryz.prog 29 3 = some (5, 27) := by kernel_rfl
@[go_sem] theorem fa29_4 : fieldT Tryz.prog 29 4 = some (6, 28) := by kernel_rfl
@[go_sem] theorem sz30 : szT Tryz.prog 30 = some 7 := by kernel_rfl
@[go_sem] theorem ag30 : isAggT Tryz.prog 30 = some true := by kernel_rfl
@[go_sem] theorem by30 : bytesT Tryz.prog 30 = some 104 := by kernel_rfl
@[go_sem] theorem fa30_0 : fieldT Tryz.prog 30 0 = some (0, 24) := by kernel_rfl
@[go_sem] theorem fa30_1 : fieldT Tryz.prog 30 1 = some (3, 3) := by kernel_rfl
@[go_sem] theorem fa30_2 : fieldT Tryz.prog 30 2 = some (4, 3) := by kernel_rfl
@[go_sem] theorem fa30_3 : fieldT Tryz.prog 30 3 = some (5, 27) := by kernel_rfl
@[go_sem] theorem fa30_4 : fieldT Tryz.prog 30 4 = some (6, 28) := by kernel_rfl
@[go_sem] theorem sz35 : szT Tryz.prog 35 = some 1 := by kernel_rfl
@[go_sem] theorem ag35 : isAggT Tryz.prog 35 = some false := by kernel_rfl
@[go_sem] theorem by35 : bytesT Tryz.prog 35 = some 8 := by kernel_rfl
@[go_sem] theorem un35 : Tryz.prog.underlying 35 = some (.int .i64) := by kernel_rfl
@[go_sem] theorem sz39 : szT Tryz.prog 39 = some 1 := by kernel_rfl
@[go_sem] theorem ag39 : isAggT Tryz.prog 39 = some false := by kernel_rfl
@[go_sem] theorem by39 : bytesT Tryz.prog 39 = some 24 := by kernel_rfl
@[go_sem] theorem is39 : isSliceT Tryz.prog 39 = true := by kernel_rfl
@[go_sem] theorem el39 : elemT Tryz.prog 39 = some 46 := by kernel_rfl
@[go_sem] theorem un39 : Tryz.prog.underlying 39 = some (.slice 46) := by kernel_rfl
@[go_sem] theorem sz43 : szT Tryz.prog 43 = some 16 := by kernel_rfl
@[go_sem] theorem ag43 : isAggT Tryz.prog 43 = some true := by kernel_rfl
@[go_sem] theorem by43 : bytesT Tryz.prog 43 = some 16 := by kernel_rfl
@[go_sem] theorem ar43 : arrT Tryz.prog 43 = some (16, 5) := by kernel_rfl
@[go_sem] theorem un43 : Tryz.prog.underlying 43 = some (.array 16 5) := by kernel_rfl
@[go_sem] theorem sz44 : szT Tryz.prog 44 = some 16 := by kernel_rfl
@[go_sem] theorem ag44 : isAggT Tryz.prog 44 = some true := by kernel_rfl
@[go_sem] theorem by44 : bytesT Tryz.prog 44 = some 16 := by kernel_rfl
@[go_sem] theorem ar44 : arrT Tryz.prog 44 = some (16, 5) := by kernel_rfl
@[go_sem] theorem un44 : Tryz.prog.underlying 44 = some (.array 16 5) := by kernel_rfl
@[go_sem] theorem sz45 : szT Tryz.prog 45 = some 20 := by kernel_rfl
@[go_sem] theorem ag45 : isAggT Tryz.prog 45 = some true := by kernel_rfl
@[go_sem] theorem by45 : bytesT Tryz.prog 45 = some 48 := by kernel_rfl
@[go_sem] theorem fa45_0 : fieldT Tryz.prog 45 0 = some (0, 3) := by kernel_rfl
@[go_sem] theorem fa45_1 : fieldT Tryz.prog 45 1 = some (1, 3) := by kernel_rfl
@[go_sem] theorem fa45_2 : fieldT Tryz.prog 45 2 = some (2, 3) := by kernel_rfl
@[go_sem] theorem fa45_3 : fieldT Tryz.prog 45 3 = some (3, 3) := by kernel_rfl
@[go_sem] theorem fa45_4 : fieldT Tryz.prog 45 4 = some (4, 44) := by kernel_rfl
@[go_sem] theorem sz46 : szT Tryz.prog 46 = some 20 := by kernel_rfl
@[go_sem] theorem ag46 : isAggT Tryz.prog 46 = some true := by kernel_rfl
@[go_sem] theorem by46 : bytesT Tryz.prog 46 = some 48 := by kernel_rfl
@[go_sem] theorem fa46_0 : fieldT Tryz.prog 46 0 = some (0, 3) := by kernel_rfl
@[go_sem] theorem fa46_1 : fieldT Tryz.prog 46 1 = some (1, 3) := by kernel_rfl
@[go_sem] theorem fa46_2 : fieldT Tryz.prog 46 2 = some (2, 3) := by kernel_rfl
@[go_sem] theorem fa46_3 : fieldT Tryz.prog 46 3 = some (3, 3) := by kernel_rfl
@[go_sem] theorem fa46_4 : fieldT Tryz.prog 46 4 = some (4, 44) := by kernel_rfl
@[go_sem] theorem sz47 : szT Tryz.prog 47 = some 1 := by kernel_rfl
@[go_sem] theorem ag47 : isAggT Tryz.prog 47 = some false := by kernel_rfl
@[go_sem] theorem by47 : bytesT Tryz.prog 47 = some 24 := by kernel_rfl
@[go_sem] theorem is47 : isSliceT Tryz.prog 47 = true := by kernel_rfl
@[go_sem] theorem el47 : elemT Tryz.prog 47 = some 49 := by kernel_rfl
@[go_sem] theorem un47 : Tryz.prog.underlying 47 = some (.slice 49) := by kernel_rfl
@[go_sem] theorem sz48 : szT Tryz.prog 48 = some 6 := by kernel_rfl
@[go_sem] theorem ag48 : isAggT Tryz.prog 48 = some true := by kernel_rfl
@[go_sem] theorem by48 : bytesT Tryz.prog 48 = some 80 := by kernel_rfl
@[go_sem] theorem fa48_0 : fieldT Tryz.prog 48 0 = some (0, 3) := by kernel_rfl
@[go_sem] theorem fa48_1 : fieldT Tryz.prog 48 1 = some (1, 9) := by kernel_rfl
@[go_sem] theorem fa48_2 : fieldT Tryz.prog 48 2 = some (2, 3) := by kernel_rfl
@[go_sem] theorem fa48_3 : fieldT Tryz.prog 48 3 = some (3, 3) := by kernel_rfl
@[go_sem] theorem fa48_4 : fieldT Tryz.prog 48 4 = some (4, 9) := by kernel_rfl
@[go_sem] theorem fa48_5 : fieldT Tryz.prog 48 5 = some (5, 47) := by kernel_rfl
@[go_sem] theorem sz49 : szT Tryz.prog 49 = some 6 := by kernel_rfl
@[go_sem] theorem ag49 : isAggT Tryz.prog 49 = some true := by kernel_rfl
@[go_sem] theorem by49 : bytesT Tryz.prog 49 = some 80 := by kernel_rfl
@[go_sem] theorem fa49_0 : fieldT Tryz.prog 49 0 = some (0, 3) := by kernel_rfl
@[go_sem] theorem fa49_1 : fieldT Tryz.prog 49 1 = some (1, 9) := by kernel_rfl
@[go_sem] theorem fa49_2 : fieldT Tryz.prog 49 2 = some (2, 3) := by kernel_rfl
@[go_sem] theorem fa49_3 : fieldT Tryz.prog 49 3 = some (3, 3) := by kernel_rfl
@[go_sem] theorem fa49_4 : fieldT Tryz.prog 49 4 = some (4, 9) := by kernel_rfl
@[go_sem] theorem fa49_5 : fieldT Tryz.prog 49 5 = some (5, 47) := by kernel_rfl
@[go_sem] theorem sz50 : szT Tryz.prog 50 = some 8 := by kernel_rfl
@[go_sem] theorem ag50 : isAggT Tryz.prog 50 = some true := by kernel_rfl
@[go_sem] theorem by50 : bytesT Tryz.prog 50 = some 104 := by kernel_rfl
@[go_sem] theorem fa50_0 : fieldT Tryz.prog 50 0 = some (0, 9) := by kernel_rfl
@[go_sem] theorem fa50_1 : fieldT Tryz.prog 50 1 = some (1, 49) := by kernel_rfl
@[go_sem] theorem fa50_2 : fieldT Tryz.prog 50 2 = some (7, 3) := by kernel_rfl
@[go_sem] theorem sz51 : szT Tryz.prog 51 = some 8 := by kernel_rfl
@[go_sem] theorem ag51 : isAggT Tryz.prog 51 = some true := by kernel_rfl
@[go_sem] theorem by51 : bytesT Tryz.prog 51 = some 104 := by kernel_rfl
@[go_sem] theorem fa51_0 : fieldT Tryz.prog 51 0 = some (0, 9) := by kernel_rfl
@[go_sem] theorem fa51_1 : fieldT Tryz.prog 51 1 = some (1, 49) := by kernel_rfl
@[go_sem] theorem fa51_2 : fieldT Tryz.prog 51 2 = some (7, 3) := by kernel_rfl
@[go_sem] theorem sz54 : szT Tryz.prog 54 = some 9 := by kernel_rfl
@[go_sem] theorem ag54 : isAggT Tryz.prog 54 = some true := by kernel_rfl
@[go_sem] theorem by54 : bytesT Tryz.prog 54 = some 136 := by kernel_rfl
@[go_sem] theorem fa54_0 : fieldT Tryz.prog 54 0 = some (0, 30) := by kernel_rfl
@[go_sem] theorem fa54_1 : fieldT Tryz.prog 54 1 = some (7, 39) := by kernel_rfl
@[go_sem] theorem fa54_2 : fieldT Tryz.prog 54 2 = some (8, 35) := by kernel_rfl
@[go_sem] theorem sz55 : szT Tryz.prog 55 = some 9 := by kernel_rfl
@[go_sem] theorem ag55 : isAggT Tryz.prog 55 = some true := by kernel_rfl
@[go_sem] theorem by55 : bytesT Tryz.prog 55 = some 136 := by kernel_rfl
@[go_sem] theorem fa55_0 : fieldT Tryz.prog 55 0 = some (0, 30) := by kernel_rfl
@[go_sem] theorem fa55_1 : fieldT Tryz.prog 55 1 = some (7, 39) := by kernel_rfl
@[go_sem] theorem fa55_2 : fieldT Tryz.prog 55 2 = some (8, 35) := by kernel_rfl
@[go_sem] theorem sz60 : szT Tryz.prog 60 = some 2 := by kernel_rfl
@[go_sem] theorem ag60 : isAggT Tryz.prog 60 = some true := by kernel_rfl
@[go_sem] theorem by60 : bytesT Tryz.prog 60 = some 16 := by kernel_rfl
@[go_sem] theorem fa60_0 : fieldT Tryz.prog 60 0 = some (0, 3) := by kernel_rfl
@[go_sem] theorem fa60_1 : fieldT Tryz.prog 60 1 = some (1, 3) := by kernel_rfl
@[go_sem] theorem sz61 : szT Tryz.prog 61 = some 2 := by kernel_rfl
@[go_sem] theorem ag61 : isAggT Tryz.prog 61 = some true := by kernel_rfl
@[go_sem] theorem by61 : bytesT Tryz.prog 61 = some 16 := by kernel_rfl
@[go_sem] theorem fa61_0 : fieldT Tryz.prog 61 0 = some (0, 3) := by kernel_rfl
@[go_sem] theorem fa61_1 : fieldT Tryz.prog 61 1 = some (1, 3) := by kernel_rfl
@[go_sem] theorem sz63 : szT Tryz.prog 63 = some 1 := by kernel_rfl
@[go_sem] theorem ag63 : isAggT Tryz.prog 63 = some false := by kernel_rfl
@[go_sem] theorem by63 : bytesT Tryz.prog 63 = some 24 := by kernel_rfl
@[go_sem] theorem is63 : isSliceT Tryz.prog 63 = true := by kernel_rfl
@[go_sem] theorem el63 : elemT Tryz.prog 63 = some 187 := by kernel_rfl
@[go_sem] theorem un63 : Tryz.prog.underlying 63 = some (.slice 187) := by kernel_rfl
@[go_sem] theorem sz64 : szT Tryz.prog 64 = some 9 := by kernel_rfl
@[go_sem] theorem ag64 : isAggT Tryz.prog 64 = some true := by kernel_rfl
@[go_sem] theorem by64 : bytesT Tryz.prog 64 = some 104 := by kernel_rfl
@[go_sem] theorem fa64_0 : fieldT Tryz.prog 64 0 = some (0, 3) := by kernel_rfl
@[go_sem] theorem fa64_1 : fieldT Tryz.prog 64 1 = some (1, 3) := by kernel_rfl
@[go_sem] theorem fa64_2 : fieldT Tryz.prog 64 2 = some (2, 3) := by kernel_rfl
@[go_sem] theorem fa64_3 : fieldT Tryz.prog 64 3 = some (3, 3) := by kernel_rfl
@[go_sem] theorem fa64_4 : fieldT Tryz.prog 64 4 = some (4, 3) := by kernel_rfl
@[go_sem] theorem fa64_5 : fieldT Tryz.prog 64 5 = some (5, 3) := by kernel_rfl
@[go_sem] theorem fa64_6 : fieldT Tryz.prog 64 6 = some (6, 3) := by kernel_rfl
@[go_sem] theorem fa64_7 : fieldT Tryz.prog 64 7 = some (7, 27) := by kernel_rfl
@[go_sem] theorem fa64_8 : fieldT Tryz.prog 64 8 = some (8, 63) := by kernel_rfl
@[go_sem] theorem sz65 : szT Tryz.prog 65 = some 9 := by kernel_rfl
@[go_sem] theorem ag65 : isAggT Tryz.prog 65 = some true := by kernel_rfl
@[go_sem] theorem by65 : bytesT Tryz.prog 65 = some 104 := by kernel_rfl
@[go_sem] theorem fa65_0 : fieldT Tryz.prog 65 0 = some (0, 3) := by kernel_rfl
@[go_sem] theorem fa65_1 : fieldT Tryz.prog 65 1 = some (1, 3) := by kernel_rfl
@[go_sem] theorem fa65_2 : fieldT Tryz.prog 65 2 = some (2, 3) := by kernel_rfl
@[go_sem] theorem fa65_3 : fieldT Tryz.prog 65 3 = some (3, 3) := by kernel_rfl
@[go_sem] theorem fa65_4 : fieldT Tryz.prog 65 4 = some (4, 3) := by kernel_rfl
@[go_sem] theorem fa65_5 : fieldT Tryz.prog 65 5 = some (5, 3) := by kernel_rfl
@[go_sem] theorem fa65_6 : fieldT Tryz.prog 65 6 = some (6, 3) := by kernel_rfl
@[go_sem] theorem fa65_7 : fieldT Tryz.prog 65 7 = some (7, 27) := by kernel_rfl
@[go_sem] theorem fa65_8 : fieldT Tryz.prog 65 8 = some (8, 63) := by kernel_rfl
@[go_sem] theorem sz66 : szT Tryz.prog 66 = some 10 := by kernel_rfl
@[go_sem] theorem ag66 : isAggT Tryz.prog 66 = some true := by kernel_rfl
@[go_sem] theorem by66 : bytesT Tryz.prog 66 = some 112 := by kernel_rfl
@[go_sem] theorem fa66_0 : fieldT Tryz.prog 66 0 = some (0, 65) := by kernel_rfl
@[go_sem] theorem fa66_1 : fieldT Tryz.prog 66 1 = some (9, 3) := by kernel_rfl
@[go_sem] theorem sz67 : szT Tryz.prog 67 = some 10 := by kernel_rfl
@[go_sem] theorem ag67 : isAggT Tryz.prog 67 = some true := by kernel_rfl
@[go_sem] theorem by67 : bytesT Tryz.prog 67 = some 112 := by kernel_rfl
@[go_sem] theorem fa67_0 : fieldT Tryz.prog 67 0 = some (0, 65) := by kernel_rfl
@[go_sem] theorem fa67_1 : fieldT Tryz.prog 67 1 = some (9, 3) := by kernel_rfl
@[go_sem] theorem sz70 : szT Tryz.prog 70 = some 1 := by kernel_rfl
@[go_sem] theorem ag70 : isAggT Tryz.prog 70 = some false := by kernel_rfl
@[go_sem] theorem by70 : bytesT Tryz.prog 70 = some 24 := by kernel_rfl
@[go_sem] theorem is70 : isSliceT Tryz.prog 70 = true := by kernel_rfl
@[go_sem] theorem el70 : elemT Tryz.prog 70 = some 44 := by kernel_rfl
@[go_sem] theorem un70 : Tryz.prog.underlying 70 = some (.slice 44) := by kernel_rfl
@[go_sem] theorem sz73 : szT Tryz.prog 73 = some 2 := by kernel_rfl
@[go_sem] theorem ag73 : isAggT Tryz.prog 73 = some true := by kernel_rfl
@[go_sem] theorem by73 : bytesT Tryz.prog 73 = some 32 := by kernel_rfl
@[go_sem] theorem fa73_0 : fieldT Tryz.prog 73 0 = some (0, 70) := by kernel_rfl
@[go_sem] theorem fa73_1 : fieldT Tryz.prog 73 1 = some (1, 35) := by kernel_rfl
@[go_sem] theorem sz74 : szT Tryz.prog 74 = some 2 := by kernel_rfl
@[go_sem] theorem ag74 : isAggT Tryz.prog 74 = some true := by kernel_rfl
@[go_sem] theorem by74 : bytesT Tryz.prog 74 = some 32 := by kernel_rfl
@[go_sem] theorem fa74_0 : fieldT Tryz.prog 74 0 = some (0, 70) := by kernel_rfl
@[go_sem] theorem fa74_1 : fieldT Tryz.prog 74 1 = some (1, 35) := by kernel_rfl
@[go_sem] theorem sz79 : szT Tryz.prog 79 = some 25 := by kernel_rfl
@[go_sem] theorem ag79 : isAggT Tryz.prog 79 = some true := by kernel_rfl
@[go_sem] theorem by79 : bytesT Tryz.prog 79 = some 120 := by kernel_rfl
@[go_sem] theorem fa79_0 : fieldT Tryz.prog 79 0 = some (0, 3) := by kernel_rfl
@[go_sem] theorem fa79_1 : fieldT Tryz.prog 79 1 = some (1, 3) := by kernel_rfl
@[go_sem] theorem fa79_2 : fieldT Tryz.prog 79 2 = some (2, 3) := by kernel_rfl
@[go_sem] theorem fa79_3 : fieldT Tryz.prog 79 3 = some (3, 3) := by kernel_rfl
@[go_sem] theorem fa79_4 : fieldT Tryz.prog 79 4 = some (4, 3) := by kernel_rfl
@[go_sem] theorem fa79_5 : fieldT Tryz.prog 79 5 = some (5, 3) := by kernel_rfl
@[go_sem] theorem fa79_6 : fieldT Tryz.prog 79 6 = some (6, 3) := by kernel_rfl
@[go_sem] theorem fa79_7 : fieldT Tryz.prog 79 7 = some (7, 27) := by kernel_rfl
@[go_sem] theorem fa79_8 : fieldT Tryz.prog 79 8 = some (8, 63) := by kernel_rfl
@[go_sem] theorem fa79_9 : fieldT Tryz.prog 79 9 = some (9, 44) := by kernel_rfl
@[go_sem] theorem sz80 : szT Tryz.prog 80 = some 25 := by kernel_rfl
@[go_sem] theorem ag80 : isAggT Tryz.prog 80 = some true := by kernel_rfl
@[go_sem] theorem by80 : bytesT Tryz.prog 80 = some 120 := by kernel_rfl
@[go_sem] theorem fa80_0 : fieldT Tryz.prog 80 0 = some (0, 3) := by kernel_rfl
@[go_sem] theorem fa80_1 : fieldT Tryz.prog 80 1 = some (1, 3) := by kernel_rfl
@[go_sem] theorem fa80_2 : fieldT Tryz.prog 80 2 = some (2, 3) := by kernel_rfl
@[go_sem] theorem fa80_3 : fieldT Tryz.prog 80 3 = some (3, 3) := by kernel_rfl
@[go_sem] theorem fa80_4 : fieldT Tryz.prog 80 4 = some (4, 3) := by kernel_rfl
@[go_sem] theorem fa80_5 : fieldT Tryz.prog 80 5 = some (5, 3) := by kernel_rfl
@[go_sem] theorem fa80_6 : fieldT Tryz.prog 80 6 = some (6, 3) := by kernel_rfl
@[go_sem] theorem fa80_7 : fieldT Tryz.prog 80 7 = some (7, 27) := by kernel_rfl
@[go_sem] theorem fa80_8 : fieldT Tryz.prog 80 8 = some (8, 63) := by kernel_rfl
@[go_sem] theorem fa80_9 : fieldT Tryz.prog 80 9 = some (9, 44) := by kernel_rfl
@[go_sem] theorem sz83 : szT Tryz.prog 83 = some 1 := by kernel_rfl
@[go_sem] theorem ag83 : isAggT Tryz.prog 83 = some false := by kernel_rfl
@[go_sem] theorem by83 : bytesT Tryz.prog 83 = some 24 := by kernel_rfl
@[go_sem] theorem is83 : isSliceT Tryz.prog 83 = true := by kernel_rfl
@[go_sem] theorem el83 : elemT Tryz.prog 83 = some 65 := by kernel_rfl
@[go_sem] theorem un83 : Tryz.prog.underlying 83 = some (.slice 65) := by kernel_rfl
@[go_sem] theorem sz87 : szT Tryz.prog 87 = some 12 := by kernel_rfl
@[go_sem] theorem ag87 : isAggT Tryz.prog 87 = some true := by kernel_rfl
@[go_sem] theorem by87 : bytesT Tryz.prog 87 = some 144 := by kernel_rfl
@[go_sem] theorem fa87_0 : fieldT Tryz.prog 87 0 = some (0, 27) := by kernel_rfl
@[go_sem] theorem fa87_1 : fieldT Tryz.prog 87 1 = some (1, 3) := by kernel_rfl
@[go_sem] theorem fa87_2 : fieldT Tryz.prog 87 2 = some (2, 3) := by kernel_rfl
@[go_sem] theorem fa87_3 : fieldT Tryz.prog 87 3 = some (3, 49) := by kernel_rfl
@[go_sem] theorem fa87_4 : fieldT Tryz.prog 87 4 = some (9, 61) := by kernel_rfl
@[go_sem] theorem fa87_5 : fieldT Tryz.prog 87 5 = some (11, 3) := by kernel_rfl
@[go_sem] theorem sz88 : szT Tryz.prog 88 = some 12 := by kernel_rfl
@[go_sem] theorem ag88 : isAggT Tryz.prog 88 = some true := by kernel_rfl
@[go_sem] theorem by88 : bytesT Tryz.prog 88 = some 144 := by kernel_rfl
@[go_sem] theorem fa88_0 : fieldT Tryz.prog 88 0 = some (0, 27) := by kernel_rfl
@[go_sem] theorem fa88_1 : fieldT Tryz.prog 88 1 = some (1, 3) := by kernel_rfl
@[go_sem] theorem fa88_2 : fieldT Tryz.prog 88 2 = some (2, 3) := by kernel_rfl
@[go_sem] theorem fa88_3 : fieldT Tryz.prog 88 3 = some (3, 49) := by kernel_rfl
@[go_sem] theorem fa88_4 : fieldT Tryz.prog 88 4 = some (9, 61) := by kernel_rfl
@[go_sem] theorem fa88_5 : fieldT Tryz.prog 88 5 = some (11, 3) := by kernel_rfl
@[go_sem] theorem sz92 : szT Tryz.prog 92 = some 1 := by kernel_rfl
@[go_sem] theorem ag92 : isAggT Tryz.prog 92 = some false := by kernel_rfl
@[go_sem] theorem by92 : bytesT Tryz.prog 92 = some 24 := by kernel_rfl
@[go_sem] theorem is92 : isSliceT Tryz.prog 92 = true := by kernel_rfl
@[go_sem] theorem el92 : elemT Tryz.prog 92 = some 96 := by kernel_rfl
@[go_sem] theorem un92 : Tryz.prog.underlying 92 = some (.slice 96) := by kernel_rfl
@[go_sem] theorem sz95 : szT Tryz.prog 95 = some 3 := by kernel_rfl
@[go_sem] theorem ag95 : isAggT Tryz.prog 95 = some true := by kernel_rfl
@[go_sem] theorem by95 : bytesT Tryz.prog 95 = some 24 := by kernel_rfl
@[go_sem] theorem fa95_0 : fieldT Tryz.prog 95 0 = some (0, 3) := by kernel_rfl
@[go_sem] theorem fa95_1 : fieldT Tryz.prog 95 1 = some (1, 3) := by kernel_rfl
@[go_sem] theorem fa95_2 : fieldT Tryz.prog 95 2 = some (2, 3) := by kernel_rfl
@[go_sem] theorem sz96 : szT Tryz.prog 96 = some 3 := by kernel_rfl
@[go_sem] theorem ag96 : isAggT Tryz.prog 96 = some true := by kernel_rfl
@[go_sem] theorem by96 : bytesT Tryz.prog 96 = some 24 := by kernel_rfl
@[go_sem] theorem fa96_0 : fieldT Tryz.prog 96 0 = some (0, 3) := by kernel_rfl
@[go_sem] theorem fa96_1 : fieldT Tryz.prog 96 1 = some (1, 3) := by kernel_rfl
@[go_sem] theorem fa96_2 : fieldT Tryz.prog 96 2 = some (2, 3) := by kernel_rfl
@[go_sem] theorem sz101 : szT Tryz.prog 101 = some 9 := by kernel_rfl
@[go_sem] theorem ag101 : isAggT Tryz.prog 101 = some true := by kernel_rfl
@[go_sem] theorem by101 : bytesT Tryz.prog 101 = some 120 := by kernel_rfl
@[go_sem] theorem fa101_0 : fieldT Tryz.prog 101 0 = some (0, 30) := by kernel_rfl
@[go_sem] theorem fa101_1 : fieldT Tryz.prog 101 1 = some (7, 3) := by kernel_rfl
@[go_sem] theorem fa101_2 : fieldT Tryz.prog 101 2 = some (8, 35) := by kernel_rfl
@[go_sem] theorem sz102 : szT Tryz.prog 102 = some 9 := by kernel_rfl
@[go_sem] theorem ag102 : isAggT Tryz.prog 102 = some true := by kernel_rfl
@[go_sem] theorem by102 : bytesT Tryz.prog 102 = some 120 := by kernel_rfl
@[go_sem] theorem fa102_0 : fieldT Tryz.prog 102 0 = some (0, 30) := by kernel_rfl
@[go_sem] theorem fa102_1 : fieldT Tryz.prog 102 1 = some (7, 3) := by kernel_rfl
@[go_sem] theorem fa102_2 : fieldT Tryz.prog 102 2 = some (8, 35) := by kernel_rfl
@[go_sem] theorem sz119 : szT Tryz.prog 119 = some 1 := by kernel_rfl
@[go_sem] theorem ag119 : isAggT Tryz.prog 119 = some false := by kernel_rfl
@[go_sem] theorem by119 : bytesT Tryz.prog 119 = some 24 := by kernel_rfl
@[go_sem] theorem is119 : isSliceT Tryz.prog 119 = true := by kernel_rfl
@[go_sem] theorem el119 : elemT Tryz.prog 119 = some 9 := by kernel_rfl
@[go_sem] theorem un119 : Tryz.prog.underlying 119 = some (.slice 9) := by kernel_rfl
@[go_sem] theorem sz120 : szT Tryz.prog 120 = some 5 := by kernel_rfl
@[go_sem] theorem ag120 : isAggT Tryz.prog 120 = some true := by kernel_rfl
@[go_sem] theorem by120 : bytesT Tryz.prog 120 = some 64 := by kernel_rfl
@[go_sem] theorem fa120_0 : fieldT Tryz.prog 120 0 = some (0, 9) := by kernel_rfl
@[go_sem] theorem fa120_1 : fieldT Tryz.prog 120 1 = some (1, 3) := by kernel_rfl
@[go_sem] theorem fa120_2 : fieldT Tryz.prog 120 2 = some (2, 3) := by kernel_rfl
@[go_sem] theorem fa120_3 : fieldT Tryz.prog 120 3 = some (3, 3) := by kernel_rfl
@[go_sem] theorem fa120_4 : fieldT Tryz.prog 120 4 = some (4, 119) := by kernel_rfl
@[go_sem] theorem sz121 : szT Tryz.prog 121 = some 5 := by kernel_rfl
@[go_sem] theorem ag121 : isAggT Tryz.prog 121 = some true := by kernel_rfl
@[go_sem] theorem by121 : bytesT Tryz.prog 121 = some 64 := by kernel_rfl
@[go_sem] theorem fa121_0 : fieldT Tryz.prog 121 0 = some (0, 9) := by kernel_rfl
@[go_sem] theorem fa121_1 : fieldT Tryz.prog 121 1 = some (1, 3) := by kernel_rfl
@[go_sem] theorem fa121_2 : fieldT Tryz.prog 121 2 = some (2, 3) := by kernel_rfl
@[go_sem] theorem fa121_3 : fieldT Tryz.prog 121 3 = some (3, 3) := by kernel_rfl
@[go_sem] theorem fa121_4 : fieldT Tryz.prog 121 4 = some (4, 119) := by kernel_rfl
@[go_sem] theorem sz124 : szT Tryz.prog 124 = some 1 := by kernel_rfl
@[go_sem] theorem ag124 : isAggT Tryz.prog 124 = some false := by kernel_rfl
@[go_sem] theorem by124 : bytesT Tryz.prog 124 = some 24 := by kernel_rfl
@[go_sem] theorem is124 : isSliceT Tryz.prog 124 = true := by kernel_rfl
@[go_sem] theorem el124 : elemT Tryz.prog 124 = some 5 := by kernel_rfl
@[go_sem] theorem un124 : Tryz.prog.underlying 124 = some (.slice 5) := by kernel_rfl
@[go_sem] theorem sz129 : szT Tryz.prog 129 = some 2 := by kernel_rfl
@[go_sem] theorem ag129 : isAggT Tryz.prog 129 = some true := by kernel_rfl
@[go_sem] theorem by129 : bytesT Tryz.prog 129 = some 32 := by kernel_rfl
@[go_sem] theorem fa129_0 : fieldT Tryz.prog 129 0 = some (0, 70) := by kernel_rfl
@[go_sem] theorem fa129_1 : fieldT Tryz.prog 129 1 = some (1, 35) := by kernel_rfl
@[go_sem] theorem sz132 : szT Tryz.prog 132 = some 1 := by kernel_rfl
@[go_sem] theorem ag132 : isAggT Tryz.prog 132 = some false := by kernel_rfl
@[go_sem] theorem by132 : bytesT Tryz.prog 132 = some 24 := by kernel_rfl
@[go_sem] theorem is132 : isSliceT Tryz.prog 132 = true := by kernel_rfl
@[go_sem] theorem el132 : elemT Tryz.prog 132 = some 187 := by kernel_rfl
@[go_sem] theorem un132 : Tryz.prog.underlying 132 = some (.slice 187) := by kernel_rfl
@[go_sem] theorem sz152 : szT Tryz.prog 152 = some 8 := by kernel_rfl
@[go_sem] theorem ag152 : isAggT Tryz.prog 152 = some true := by kernel_rfl
@[go_sem] theorem by152 : bytesT Tryz.prog 152 = some 112 := by kernel_rfl
@[go_sem] theorem fa152_0 : fieldT Tryz.prog 152 0 = some (0, 30) := by kernel_rfl
@[go_sem] theorem fa152_1 : fieldT Tryz.prog 152 1 = some (7, 35) := by kernel_rfl
@[go_sem] theorem sz153 : szT Tryz.prog 153 = some 8 := by kernel_rfl
@[go_sem] theorem ag153 : isAggT Tryz.prog 153 = some true := by kernel_rfl
@[go_sem] theorem by153 : bytesT Tryz.prog 153 = some 112 := by kernel_rfl
@[go_sem] theorem fa153_0 : fieldT Tryz.prog 153 0 = some (0, 30) := by kernel_rfl
@[go_sem] theorem fa153_1 : fieldT Tryz.prog 153 1 = some (7, 35) := by kernel_rfl
@[go_sem] theorem sz180 : szT Tryz.prog 180 = some 2 := by kernel_rfl
@[go_sem] theorem ag180 : isAggT Tryz.prog 180 = some true := by kernel_rfl
@[go_sem] theorem by180 : bytesT Tryz.prog 180 = some 32 := by kernel_rfl
@[go_sem] theorem fa180_0 : fieldT Tryz.prog 180 0 = some (0, 70) := by kernel_rfl
@[go_sem] theorem fa180_1 : fieldT Tryz.prog 180 1 = some (1, 4) := by kernel_rfl
@[go_sem] theorem sz181 : szT Tryz.prog 181 = some 2 := by kernel_rfl
@[go_sem] theorem ag181 : isAggT Tryz.prog 181 = some true := by kernel_rfl
@[go_sem] theorem by181 : bytesT Tryz.prog 181 = some 32 := by kernel_rfl
@[go_sem] theorem fa181_0 : fieldT Tryz.prog 181 0 = some (0, 70) := by kernel_rfl
@[go_sem] theorem fa181_1 : fieldT Tryz.prog 181 1 = some (1, 4) := by kernel_rfl
@[go_sem] theorem sz186 : szT Tryz.prog 186 = some 4 := by kernel_rfl
@[go_sem] theorem ag186 : isAggT Tryz.prog 186 = some true := by kernel_rfl
@[go_sem] theorem by186 : bytesT Tryz.prog 186 = some 48 := by kernel_rfl
@[go_sem] theorem fa186_0 : fieldT Tryz.prog 186 0 = some (0, 9) := by kernel_rfl
@[go_sem] theorem fa186_1 : fieldT Tryz.prog 186 1 = some (1, 3) := by kernel_rfl
@[go_sem] theorem fa186_2 : fieldT Tryz.prog 186 2 = some (2, 3) := by kernel_rfl
@[go_sem] theorem fa186_3 : fieldT Tryz.prog 186 3 = some (3, 9) := by kernel_rfl
@[go_sem] theorem sz187 : szT Tryz.prog 187 = some 4 := by kernel_rfl
@[go_sem] theorem ag187 : isAggT Tryz.prog 187 = some true := by kernel_rfl
@[go_sem] theorem by187 : bytesT Tryz.prog 187 = some 48 := by kernel_rfl
@[go_sem] theorem fa187_0 : fieldT Tryz.prog 187 0 = some (0, 9) := by kernel_rfl
@[go_sem] theorem fa187_1 : fieldT Tryz.prog 187 1 = some (1, 3) := by kernel_rfl
@[go_sem] theorem fa187_2 : fieldT Tryz.prog 187 2 = some (2, 3) := by kernel_rfl
@[go_sem] theorem fa187_3 : fieldT Tryz.prog 187 3 = some (3, 9) := by kernel_rfl
@[go_sem] theorem sz215 : szT Tryz.prog 215 = some 5 := by kernel_rfl
@[go_sem] theorem ag215 : isAggT Tryz.prog 215 = some true := by kernel_rfl
@[go_sem] theorem by215 : bytesT Tryz.prog 215 = some 56 := by kernel_rfl
@[go_sem] theorem fa215_0 : fieldT Tryz.prog 215 0 = some (0, 187) := by kernel_rfl
@[go_sem] theorem fa215_1 : fieldT Tryz.prog 215 1 = some (4, 4) := by kernel_rfl
@[go_sem] theorem sz216 : szT Tryz.prog 216 = some 5 := by kernel_rfl
@[go_sem] theorem ag216 : isAggT Tryz.prog 216 = some true := by kernel_rfl
@[go_sem] theorem by216 : bytesT Tryz.prog 216 = some 56 := by kernel_rfl
@[go_sem] theorem fa216_0 : fieldT Tryz.prog 216 0 = some (0, 187) := by kernel_rfl
@[go_sem] theorem fa216_1 : fieldT Tryz.prog 216 1 = some (4, 4) := by kernel_rfl
@[go_sem] theorem sz218 : szT Tryz.prog 218 = some 1 := by kernel_rfl
@[go_sem] theorem ag218 : isAggT Tryz.prog 218 = some false := by kernel_rfl
@[go_sem] theorem by218 : bytesT Tryz.prog 218 = some 4 := by kernel_rfl
@[go_sem] theorem un218 : Tryz.prog.underlying 218 = some (.int .u32) := by kernel_rfl
@[go_sem] theorem sz219 : szT Tryz.prog 219 = some 8 := by kernel_rfl
@[go_sem] theorem ag219 : isAggT Tryz.prog 219 = some true := by kernel_rfl
@[go_sem] theorem by219 : bytesT Tryz.prog 219 = some 32 := by kernel_rfl
@[go_sem] theorem ar219 : arrT Tryz.prog 219 = some (8, 218) := by kernel_rfl
@[go_sem] theorem un219 : Tryz.prog.underlying 219 = some (.array 8 218) := by kernel_rfl
@[go_sem] theorem sz221 : szT Tryz.prog 221 = some 1 := by kernel_rfl
@[go_sem] theorem ag221 : isAggT Tryz.prog 221 = some false := by kernel_rfl
@[go_sem] theorem by221 : bytesT Tryz.prog 221 = some 8 := by kernel_rfl
@[go_sem] theorem un221 : Tryz.prog.underlying 221 = some (.int .u64) := by kernel_rfl
@[go_sem] theorem sz227 : szT Tryz.prog 227 = some 32 := by kernel_rfl
@[go_sem] theorem ag227 : isAggT Tryz.prog 227 = some true := by kernel_rfl
@[go_sem] theorem by227 : bytesT Tryz.prog 227 = some 32 := by kernel_rfl
@[go_sem] theorem ar227 : arrT Tryz.prog 227 = some (32, 5) := by kernel_rfl
@[go_sem] theorem un227 : Tryz.prog.underlying 227 = some (.array 32 5) := by kernel_rfl
@[go_sem] theorem sz231 : szT Tryz.prog 231 = some 1 := by kernel_rfl
@[go_sem] theorem ag231 : isAggT Tryz.prog 231 = some false := by kernel_rfl
@[go_sem] theorem by231 : bytesT Tryz.prog 231 = some 8 := by kernel_rfl
@[go_sem] theorem un231 : Tryz.prog.underlying 231 = some (.int .u64) := by kernel_rfl
@[go_sem] theorem sz254 : szT Tryz.prog 254 = some 1 := by kernel_rfl
@[go_sem] theorem ag254 : isAggT Tryz.prog 254 = some false := by kernel_rfl
@[go_sem] theorem by254 : bytesT Tryz.prog 254 = some 24 := by kernel_rfl
@[go_sem] theorem is254 : isSliceT Tryz.prog 254 = true := by kernel_rfl
@[go_sem] theorem el254 : elemT Tryz.prog 254 = some 256 := by kernel_rfl
@[go_sem] theorem un254 : Tryz.prog.underlying 254 = some (.slice 256) := by kernel_rfl
@[go_sem] theorem sz255 : szT Tryz.prog 255 = some 2 := by kernel_rfl
@[go_sem] theorem ag255 : isAggT Tryz.prog 255 = some true := by kernel_rfl
@[go_sem] theorem by255 : bytesT Tryz.prog 255 = some 16 := by kernel_rfl
@[go_sem] theorem fa255_0 : fieldT Tryz.prog 255 0 = some (0, 3) := by kernel_rfl
@[go_sem] theorem fa255_1 : fieldT Tryz.prog 255 1 = some (1, 3) := by kernel_rfl
@[go_sem] theorem sz256 : szT Tryz.prog 256 = some 2 := by kernel_rfl
@[go_sem] theorem ag256 : isAggT Tryz.prog 256 = some true := by kernel_rfl
@[go_sem] theorem by256 : bytesT Tryz.prog 256 = some 16 := by kernel_rfl
@[go_sem] theorem fa256_0 : fieldT Tryz.prog 256 0 = some (0, 3) := by kernel_rfl
@[go_sem] theorem fa256_1 : fieldT Tryz.prog 256 1 = some (1, 3) := by kernel_rfl
@[go_sem] theorem sz261 : szT Tryz.prog 261 = some 1 := by kernel_rfl
@[go_sem] theorem ag261 : isAggT Tryz.prog 261 = some false := by kernel_rfl
@[go_sem] theorem by261 : bytesT Tryz.prog 261 = some 24 := by kernel_rfl
@[go_sem] theorem is261 : isSliceT Tryz.prog 261 = true := by kernel_rfl
@[go_sem] theorem el261 : elemT Tryz.prog 261 = some 27 := by kernel_rfl
@[go_sem] theorem un261 : Tryz.prog.underlying 261 = some (.slice 27) := by kernel_rfl
@[go_sem] theorem sz263 : szT Tryz.prog 263 = some 1 := by kernel_rfl
@[go_sem] theorem ag263 : isAggT Tryz.prog 263 = some false := by kernel_rfl
@[go_sem] theorem by263 : bytesT Tryz.prog 263 = some 24 := by kernel_rfl
@[go_sem] theorem is263 : isSliceT Tryz.prog 263 = true := by kernel_rfl
@[go_sem] theorem el263 : elemT Tryz.prog 263 = some 124 := by kernel_rfl
@[go_sem] theorem un263 : Tryz.prog.underlying 263 = some (.slice 124) := by kernel_rfl
@[go_sem] theorem sz279 : szT Tryz.prog 279 = some 4 := by kernel_rfl
@[go_sem] theorem ag279 : isAggT Tryz.prog 279 = some true := by kernel_rfl
@[go_sem] theorem by279 : bytesT Tryz.prog 279 = some 16 := by kernel_rfl
@[go_sem] theorem ar279 : arrT Tryz.prog 279 = some (4, 218) := by kernel_rfl
@[go_sem] theorem un279 : Tryz.prog.underlying 279 = some (.array 4 218) := by kernel_rfl
@[go_sem] theorem sz280 : szT Tryz.prog 280 = some 1 := by kernel_rfl
@[go_sem] theorem ag280 : isAggT Tryz.prog 280 = some false := by kernel_rfl
@[go_sem] theorem by280 : bytesT Tryz.prog 280 = some 24 := by kernel_rfl
@[go_sem] theorem is280 : isSliceT Tryz.prog 280 = true := by kernel_rfl
@[go_sem] theorem el280 : elemT Tryz.prog 280 = some 218 := by kernel_rfl
@[go_sem] theorem un280 : Tryz.prog.underlying 280 = some (.slice 218) := by kernel_rfl
@[go_sem] theorem sz283 : szT Tryz.prog 283 = some 1 := by kernel_rfl
@[go_sem] theorem ag283 : isAggT Tryz.prog 283 = some false := by kernel_rfl
@[go_sem] theorem by283 : bytesT Tryz.prog 283 = some 8 := by kernel_rfl
@[go_sem] theorem un283 : Tryz.prog.underlying 283 = some (.int .i64) := by kernel_rfl
@[go_sem] theorem sz292 : szT Tryz.prog 292 = some 1 := by kernel_rfl
@[go_sem] theorem ag292 : isAggT Tryz.prog 292 = some false := by kernel_rfl
@[go_sem] theorem by292 : bytesT Tryz.prog 292 = some 8 := by kernel_rfl
@[go_sem] theorem un292 : Tryz.prog.underlying 292 = some (.int .u64) := by kernel_rfl
@[go_sem] theorem sz307 : szT Tryz.prog 307 = some 1 := by kernel_rfl
@[go_sem] theorem ag307 : isAggT Tryz.prog 307 = some false := by kernel_rfl
@[go_sem] theorem by307 : bytesT Tryz.prog 307 = some 1 := by kernel_rfl
@[go_sem] theorem un307 : Tryz.prog.underlying 307 = some (.int .u8) := by kernel_rfl
@[go_sem] theorem sz308 : szT Tryz.prog 308 = some 1 := by kernel_rfl
@[go_sem] theorem ag308 : isAggT Tryz.prog 308 = some false := by kernel_rfl
@[go_sem] theorem by308 : bytesT Tryz.prog 308 = some 1 := by kernel_rfl
@[go_sem] theorem un308 : Tryz.prog.underlying 308 = some (.int .u8) := by kernel_rfl
@[go_sem] theorem sz311 : szT Tryz.prog 311 = some 1 := by kernel_rfl
@[go_sem] theorem ag311 : isAggT Tryz.prog 311 = some false := by kernel_rfl
@[go_sem] theorem by311 : bytesT Tryz.prog 311 = some 4 := by kernel_rfl
@[go_sem] theorem un311 : Tryz.prog.underlying 311 = some (.int .i32) := by kernel_rfl
@[go_sem] theorem sz312 : szT Tryz.prog 312 = some 1 := by kernel_rfl
@[go_sem] theorem ag312 : isAggT Tryz.prog 312 = some false := by kernel_rfl
@[go_sem] theorem by312 : bytesT Tryz.prog 312 = some 4 := by kernel_rfl
@[go_sem] theorem un312 : Tryz.prog.underlying 312 = some (.int .i32) := by kernel_rfl
@[go_sem] theorem Def.ld0_121 : ∀ x : Def, ldT Tryz.prog 121 x.c 0 = some (Def.v x) := fun x => by kernel_rfl
@[go_sem] theorem Def.ld0_9 : ∀ x : Def, ldT Tryz.prog 9 x.c 0 = some (.str x.Name) := fun x => by kernel_rfl
@[go_sem] theorem Def.ld1_3 : ∀ x : Def, ldT Tryz.prog 3 x.c 1 = some (.int .i64 x.Kind) := fun x => by kernel_rfl
@[go_sem] theorem Def.ld2_3 : ∀ x : Def, ldT Tryz.prog 3 x.c 2 = some (.int .i64 x.Lo) := fun x => by kernel_rfl
@[go_sem] theorem Def.ld3_3 : ∀ x : Def, ldT Tryz.prog 3 x.c 3 = some (.int .i64 x.Hi) := fun x => by kernel_rfl
@[go_sem] theorem Def.ld4_119 : ∀ x : Def, ldT Tryz.prog 119 x.c 4 = some (lv V.str x.Words) := fun x => by kernel_rfl
@[go_sem] theorem Schema.ld0_24 : ∀ x : Schema, ldT Tryz.prog 24 x.c 0 = some (Schema.v x) := fun x => by kernel_rfl
@[go_sem] theorem Schema.ld0_3 : ∀ x : Schema, ldT Tryz.prog 3 x.c 0 = some (.int .i64 x.Dims) := fun x => by kernel_rfl
@[go_sem] theorem Schema.ld1_3 : ∀ x : Schema, ldT Tryz.prog 3 x.c 1 = some (.int .i64 x.Metric) := fun x => by kernel_rfl
@[go_sem] theorem Schema.ld2_22 : ∀ x : Schema, ldT Tryz.prog 22 x.c 2 = some (lv Def.v x.Defs) := fun x => by kernel_rfl
@[go_sem] theorem Attr.ld0_187 : ∀ x : Attr, ldT Tryz.prog 187 x.c 0 = some (Attr.v x) := fun x => by kernel_rfl
@[go_sem] theorem Attr.ld0_9 : ∀ x : Attr, ldT Tryz.prog 9 x.c 0 = some (.str x.Name) := fun x => by kernel_rfl
@[go_sem] theorem Attr.ld1_3 : ∀ x : Attr, ldT Tryz.prog 3 x.c 1 = some (.int .i64 x.Kind) := fun x => by kernel_rfl
@[go_sem] theorem Attr.ld2_3 : ∀ x : Attr, ldT Tryz.prog 3 x.c 2 = some (.int .i64 x.N) := fun x => by kernel_rfl
@[go_sem] theorem Attr.ld3_9 : ∀ x : Attr, ldT Tryz.prog 9 x.c 3 = some (.str x.S) := fun x => by kernel_rfl
@[go_sem] theorem Entry.ld0_65 : ∀ x : Entry, ldT Tryz.prog 65 x.c 0 = some (Entry.v x) := fun x => by kernel_rfl
@[go_sem] theorem Entry.ld0_3 : ∀ x : Entry, ldT Tryz.prog 3 x.c 0 = some (.int .i64 x.ID) := fun x => by kernel_rfl
@[go_sem] theorem Entry.ld1_3 : ∀ x : Entry, ldT Tryz.prog 3 x.c 1 = some (.int .i64 x.Ver) := fun x => by kernel_rfl
@[go_sem] theorem Entry.ld2_3 : ∀ x : Entry, ldT Tryz.prog 3 x.c 2 = some (.int .i64 x.Owner) := fun x => by kernel_rfl
@[go_sem] theorem Entry.ld3_3 : ∀ x : Entry, ldT Tryz.prog 3 x.c 3 = some (.int .i64 x.Filed) := fun x => by kernel_rfl
@[go_sem] theorem Entry.ld4_3 : ∀ x : Entry, ldT Tryz.prog 3 x.c 4 = some (.int .i64 x.From) := fun x => by kernel_rfl
@[go_sem] theorem Entry.ld5_3 : ∀ x : Entry, ldT Tryz.prog 3 x.c 5 = some (.int .i64 x.To) := fun x => by kernel_rfl
@[go_sem] theorem Entry.ld6_3 : ∀ x : Entry, ldT Tryz.prog 3 x.c 6 = some (.int .i64 x.Born) := fun x => by kernel_rfl
@[go_sem] theorem Entry.ld7_27 : ∀ x : Entry, ldT Tryz.prog 27 x.c 7 = some (lv iv x.Vec) := fun x => by kernel_rfl
@[go_sem] theorem Entry.ld8_63 : ∀ x : Entry, ldT Tryz.prog 63 x.c 8 = some (lv Attr.v x.Attrs) := fun x => by kernel_rfl
@[go_sem] theorem Row.ld0_67 : ∀ x : Row, ldT Tryz.prog 67 x.c 0 = some (Row.v x) := fun x => by kernel_rfl
@[go_sem] theorem Row.ld0_65 : ∀ x : Row, ldT Tryz.prog 65 x.c 0 = some (Entry.v x.Entry) := fun x => by kernel_rfl
@[go_sem] theorem Row.ld0_3 : ∀ x : Row, ldT Tryz.prog 3 x.c 0 = some (.int .i64 x.Entry.ID) := fun x => by kernel_rfl
@[go_sem] theorem Row.ld1_3 : ∀ x : Row, ldT Tryz.prog 3 x.c 1 = some (.int .i64 x.Entry.Ver) := fun x => by kernel_rfl
@[go_sem] theorem Row.ld2_3 : ∀ x : Row, ldT Tryz.prog 3 x.c 2 = some (.int .i64 x.Entry.Owner) := fun x => by kernel_rfl
@[go_sem] theorem Row.ld3_3 : ∀ x : Row, ldT Tryz.prog 3 x.c 3 = some (.int .i64 x.Entry.Filed) := fun x => by kernel_rfl
@[go_sem] theorem Row.ld4_3 : ∀ x : Row, ldT Tryz.prog 3 x.c 4 = some (.int .i64 x.Entry.From) := fun x => by kernel_rfl
@[go_sem] theorem Row.ld5_3 : ∀ x : Row, ldT Tryz.prog 3 x.c 5 = some (.int .i64 x.Entry.To) := fun x => by kernel_rfl
@[go_sem] theorem Row.ld6_3 : ∀ x : Row, ldT Tryz.prog 3 x.c 6 = some (.int .i64 x.Entry.Born) := fun x => by kernel_rfl
@[go_sem] theorem Row.ld7_27 : ∀ x : Row, ldT Tryz.prog 27 x.c 7 = some (lv iv x.Entry.Vec) := fun x => by kernel_rfl
@[go_sem] theorem Row.ld8_63 : ∀ x : Row, ldT Tryz.prog 63 x.c 8 = some (lv Attr.v x.Entry.Attrs) := fun x => by kernel_rfl
@[go_sem] theorem Row.ld9_3 : ∀ x : Row, ldT Tryz.prog 3 x.c 9 = some (.int .i64 x.Died) := fun x => by kernel_rfl
@[go_sem] theorem Book.ld0_30 : ∀ x : Book, ldT Tryz.prog 30 x.c 0 = some (Book.v x) := fun x => by kernel_rfl
@[go_sem] theorem Book.ld0_24 : ∀ x : Book, ldT Tryz.prog 24 x.c 0 = some (Schema.v x.Schema) := fun x => by kernel_rfl
@[go_sem] theorem Book.ld0_3 : ∀ x : Book, ldT Tryz.prog 3 x.c 0 = some (.int .i64 x.Schema.Dims) := fun x => by kernel_rfl
@[go_sem] theorem Book.ld1_3 : ∀ x : Book, ldT Tryz.prog 3 x.c 1 = some (.int .i64 x.Schema.Metric) := fun x => by kernel_rfl
@[go_sem] theorem Book.ld2_22 : ∀ x : Book, ldT Tryz.prog 22 x.c 2 = some (lv Def.v x.Schema.Defs) := fun x => by kernel_rfl
@[go_sem] theorem Book.ld3_3 : ∀ x : Book, ldT Tryz.prog 3 x.c 3 = some (.int .i64 x.Commit) := fun x => by kernel_rfl
@[go_sem] theorem Book.ld4_3 : ∀ x : Book, ldT Tryz.prog 3 x.c 4 = some (.int .i64 x.Day) := fun x => by kernel_rfl
@[go_sem] theorem Book.ld5_27 : ∀ x : Book, ldT Tryz.prog 27 x.c 5 = some (lv iv x.Days) := fun x => by kernel_rfl
@[go_sem] theorem Book.ld6_28 : ∀ x : Book, ldT Tryz.prog 28 x.c 6 = some (lv Row.v x.Rows) := fun x => by kernel_rfl
@[go_sem] theorem Digest.ld0_44 : ∀ x : Digest, ldT Tryz.prog 44 x.c 0 = some (Digest.v x) := fun x => by kernel_rfl
@[go_sem] theorem Digest.ld0_5 : ∀ x : Digest, ldT Tryz.prog 5 x.c 0 = some (.int .u8 x.b0) := fun x => by kernel_rfl
@[go_sem] theorem Digest.ld1_5 : ∀ x : Digest, ldT Tryz.prog 5 x.c 1 = some (.int .u8 x.b1) := fun x => by kernel_rfl
@[go_sem] theorem Digest.ld2_5 : ∀ x : Digest, ldT Tryz.prog 5 x.c 2 = some (.int .u8 x.b2) := fun x => by kernel_rfl
@[go_sem] theorem Digest.ld3_5 : ∀ x : Digest, ldT Tryz.prog 5 x.c 3 = some (.int .u8 x.b3) := fun x => by kernel_rfl
@[go_sem] theorem Digest.ld4_5 : ∀ x : Digest, ldT Tryz.prog 5 x.c 4 = some (.int .u8 x.b4) := fun x => by kernel_rfl
@[go_sem] theorem Digest.ld5_5 : ∀ x : Digest, ldT Tryz.prog 5 x.c 5 = some (.int .u8 x.b5) := fun x => by kernel_rfl
@[go_sem] theorem Digest.ld6_5 : ∀ x : Digest, ldT Tryz.prog 5 x.c 6 = some (.int .u8 x.b6) := fun x => by kernel_rfl
@[go_sem] theorem Digest.ld7_5 : ∀ x : Digest, ldT Tryz.prog 5 x.c 7 = some (.int .u8 x.b7) := fun x => by kernel_rfl
@[go_sem] theorem Digest.ld8_5 : ∀ x : Digest, ldT Tryz.prog 5 x.c 8 = some (.int .u8 x.b8) := fun x => by kernel_rfl
@[go_sem] theorem Digest.ld9_5 : ∀ x : Digest, ldT Tryz.prog 5 x.c 9 = some (.int .u8 x.b9) := fun x => by kernel_rfl
@[go_sem] theorem Digest.ld10_5 : ∀ x : Digest, ldT Tryz.prog 5 x.c 10 = some (.int .u8 x.b10) := fun x => by kernel_rfl
@[go_sem] theorem Digest.ld11_5 : ∀ x : Digest, ldT Tryz.prog 5 x.c 11 = some (.int .u8 x.b11) := fun x => by kernel_rfl
@[go_sem] theorem Digest.ld12_5 : ∀ x : Digest, ldT Tryz.prog 5 x.c 12 = some (.int .u8 x.b12) := fun x => by kernel_rfl
@[go_sem] theorem Digest.ld13_5 : ∀ x : Digest, ldT Tryz.prog 5 x.c 13 = some (.int .u8 x.b13) := fun x => by kernel_rfl
@[go_sem] theorem Digest.ld14_5 : ∀ x : Digest, ldT Tryz.prog 5 x.c 14 = some (.int .u8 x.b14) := fun x => by kernel_rfl
@[go_sem] theorem Digest.ld15_5 : ∀ x : Digest, ldT Tryz.prog 5 x.c 15 = some (.int .u8 x.b15) := fun x => by kernel_rfl
@[go_sem] theorem Gone.ld0_46 : ∀ x : Gone, ldT Tryz.prog 46 x.c 0 = some (Gone.v x) := fun x => by kernel_rfl
@[go_sem] theorem Gone.ld0_3 : ∀ x : Gone, ldT Tryz.prog 3 x.c 0 = some (.int .i64 x.ID) := fun x => by kernel_rfl
@[go_sem] theorem Gone.ld1_3 : ∀ x : Gone, ldT Tryz.prog 3 x.c 1 = some (.int .i64 x.Ver) := fun x => by kernel_rfl
@[go_sem] theorem Gone.ld2_3 : ∀ x : Gone, ldT Tryz.prog 3 x.c 2 = some (.int .i64 x.Born) := fun x => by kernel_rfl
@[go_sem] theorem Gone.ld3_3 : ∀ x : Gone, ldT Tryz.prog 3 x.c 3 = some (.int .i64 x.Died) := fun x => by kernel_rfl
@[go_sem] theorem Gone.ld4_44 : ∀ x : Gone, ldT Tryz.prog 44 x.c 4 = some (Digest.v x.Leaf) := fun x => by kernel_rfl
@[go_sem] theorem Gone.ld4_5 : ∀ x : Gone, ldT Tryz.prog 5 x.c 4 = some (.int .u8 x.Leaf.b0) := fun x => by kernel_rfl
@[go_sem] theorem Gone.ld5_5 : ∀ x : Gone, ldT Tryz.prog 5 x.c 5 = some (.int .u8 x.Leaf.b1) := fun x => by kernel_rfl
@[go_sem] theorem Gone.ld6_5 : ∀ x : Gone, ldT Tryz.prog 5 x.c 6 = some (.int .u8 x.Leaf.b2) := fun x => by kernel_rfl
@[go_sem] theorem Gone.ld7_5 : ∀ x : Gone, ldT Tryz.prog 5 x.c 7 = some (.int .u8 x.Leaf.b3) := fun x => by kernel_rfl
@[go_sem] theorem Gone.ld8_5 : ∀ x : Gone, ldT Tryz.prog 5 x.c 8 = some (.int .u8 x.Leaf.b4) := fun x => by kernel_rfl
@[go_sem] theorem Gone.ld9_5 : ∀ x : Gone, ldT Tryz.prog 5 x.c 9 = some (.int .u8 x.Leaf.b5) := fun x => by kernel_rfl
@[go_sem] theorem Gone.ld10_5 : ∀ x : Gone, ldT Tryz.prog 5 x.c 10 = some (.int .u8 x.Leaf.b6) := fun x => by kernel_rfl
@[go_sem] theorem Gone.ld11_5 : ∀ x : Gone, ldT Tryz.prog 5 x.c 11 = some (.int .u8 x.Leaf.b7) := fun x => by kernel_rfl
@[go_sem] theorem Gone.ld12_5 : ∀ x : Gone, ldT Tryz.prog 5 x.c 12 = some (.int .u8 x.Leaf.b8) := fun x => by kernel_rfl
@[go_sem] theorem Gone.ld13_5 : ∀ x : Gone, ldT Tryz.prog 5 x.c 13 = some (.int .u8 x.Leaf.b9) := fun x => by kernel_rfl
@[go_sem] theorem Gone.ld14_5 : ∀ x : Gone, ldT Tryz.prog 5 x.c 14 = some (.int .u8 x.Leaf.b10) := fun x => by kernel_rfl
@[go_sem] theorem Gone.ld15_5 : ∀ x : Gone, ldT Tryz.prog 5 x.c 15 = some (.int .u8 x.Leaf.b11) := fun x => by kernel_rfl
@[go_sem] theorem Gone.ld16_5 : ∀ x : Gone, ldT Tryz.prog 5 x.c 16 = some (.int .u8 x.Leaf.b12) := fun x => by kernel_rfl
@[go_sem] theorem Gone.ld17_5 : ∀ x : Gone, ldT Tryz.prog 5 x.c 17 = some (.int .u8 x.Leaf.b13) := fun x => by kernel_rfl
@[go_sem] theorem Gone.ld18_5 : ∀ x : Gone, ldT Tryz.prog 5 x.c 18 = some (.int .u8 x.Leaf.b14) := fun x => by kernel_rfl
@[go_sem] theorem Gone.ld19_5 : ∀ x : Gone, ldT Tryz.prog 5 x.c 19 = some (.int .u8 x.Leaf.b15) := fun x => by kernel_rfl
@[go_sem] theorem Pred.ld0_49 : ∀ x : Pred, ldT Tryz.prog 49 x.c 0 = some (Pred.v x) := fun x => by kernel_rfl
@[go_sem] theorem Pred.ld0_3 : ∀ x : Pred, ldT Tryz.prog 3 x.c 0 = some (.int .i64 x.Op) := fun x => by kernel_rfl
@[go_sem] theorem Pred.ld1_9 : ∀ x : Pred, ldT Tryz.prog 9 x.c 1 = some (.str x.Name) := fun x => by kernel_rfl
@[go_sem] theorem Pred.ld2_3 : ∀ x : Pred, ldT Tryz.prog 3 x.c 2 = some (.int .i64 x.N) := fun x => by kernel_rfl
@[go_sem] theorem Pred.ld3_3 : ∀ x : Pred, ldT Tryz.prog 3 x.c 3 = some (.int .i64 x.M) := fun x => by kernel_rfl
@[go_sem] theorem Pred.ld4_9 : ∀ x : Pred, ldT Tryz.prog 9 x.c 4 = some (.str x.S) := fun x => by kernel_rfl
@[go_sem] theorem Pred.ld5_47 : ∀ x : Pred, ldT Tryz.prog 47 x.c 5 = some (lv Pred.v x.Subs) := fun x => by rw [← Pred.vr_map]; kernel_rfl
@[go_sem] theorem Law.ld0_51 : ∀ x : Law, ldT Tryz.prog 51 x.c 0 = some (Law.v x) := fun x => by kernel_rfl
@[go_sem] theorem Law.ld0_9 : ∀ x : Law, ldT Tryz.prog 9 x.c 0 = some (.str x.Name) := fun x => by kernel_rfl
@[go_sem] theorem Law.ld1_49 : ∀ x : Law, ldT Tryz.prog 49 x.c 1 = some (Pred.v x.Where) := fun x => by kernel_rfl
@[go_sem] theorem Law.ld1_3 : ∀ x : Law, ldT Tryz.prog 3 x.c 1 = some (.int .i64 x.Where.Op) := fun x => by kernel_rfl
@[go_sem] theorem Law.ld2_9 : ∀ x : Law, ldT Tryz.prog 9 x.c 2 = some (.str x.Where.Name) := fun x => by kernel_rfl
@[go_sem] theorem Law.ld3_3 : ∀ x : Law, ldT Tryz.prog 3 x.c 3 = some (.int .i64 x.Where.N) := fun x => by kernel_rfl
@[go_sem] theorem Law.ld4_3 : ∀ x : Law, ldT Tryz.prog 3 x.c 4 = some (.int .i64 x.Where.M) := fun x => by kernel_rfl
@[go_sem] theorem Law.ld5_9 : ∀ x : Law, ldT Tryz.prog 9 x.c 5 = some (.str x.Where.S) := fun x => by kernel_rfl
@[go_sem] theorem Law.ld6_47 : ∀ x : Law, ldT Tryz.prog 47 x.c 6 = some (lv Pred.v x.Where.Subs) := fun x => by rw [← Pred.vr_map]; kernel_rfl
@[go_sem] theorem Law.ld7_3 : ∀ x : Law, ldT Tryz.prog 3 x.c 7 = some (.int .i64 x.Days) := fun x => by kernel_rfl
@[go_sem] theorem ref21_Kept.ld0_55 : ∀ x : ref21_Kept, ldT Tryz.prog 55 x.c 0 = some (ref21_Kept.v x) := fun x => by kernel_rfl
@[go_sem] theorem ref21_Kept.ld0_30 : ∀ x : ref21_Kept, ldT Tryz.prog 30 x.c 0 = some (Book.v x.B) := fun x => by kernel_rfl
@[go_sem] theorem ref21_Kept.ld0_24 : ∀ x : ref21_Kept, ldT Tryz.prog 24 x.c 0 = some (Schema.v x.B.Schema) := fun x => by kernel_rfl
@[go_sem] theorem ref21_Kept.ld0_3 : ∀ x : ref21_Kept, ldT Tryz.prog 3 x.c 0 = some (.int .i64 x.B.Schema.Dims) := fun x => by kernel_rfl
@[go_sem] theorem ref21_Kept.ld1_3 : ∀ x : ref21_Kept, ldT Tryz.prog 3 x.c 1 = some (.int .i64 x.B.Schema.Metric) := fun x => by kernel_rfl
@[go_sem] theorem ref21_Kept.ld2_22 : ∀ x : ref21_Kept, ldT Tryz.prog 22 x.c 2 = some (lv Def.v x.B.Schema.Defs) := fun x => by kernel_rfl
@[go_sem] theorem ref21_Kept.ld3_3 : ∀ x : ref21_Kept, ldT Tryz.prog 3 x.c 3 = some (.int .i64 x.B.Commit) := fun x => by kernel_rfl
@[go_sem] theorem ref21_Kept.ld4_3 : ∀ x : ref21_Kept, ldT Tryz.prog 3 x.c 4 = some (.int .i64 x.B.Day) := fun x => by kernel_rfl
@[go_sem] theorem ref21_Kept.ld5_27 : ∀ x : ref21_Kept, ldT Tryz.prog 27 x.c 5 = some (lv iv x.B.Days) := fun x => by kernel_rfl
@[go_sem] theorem ref21_Kept.ld6_28 : ∀ x : ref21_Kept, ldT Tryz.prog 28 x.c 6 = some (lv Row.v x.B.Rows) := fun x => by kernel_rfl
@[go_sem] theorem ref21_Kept.ld7_39 : ∀ x : ref21_Kept, ldT Tryz.prog 39 x.c 7 = some (lv Gone.v x.L) := fun x => by kernel_rfl
@[go_sem] theorem ref21_Kept.ld8_35 : ∀ x : ref21_Kept, ldT Tryz.prog 35 x.c 8 = some (.int .i64 x.E) := fun x => by kernel_rfl
@[go_sem] theorem Snapshot.ld0_61 : ∀ x : Snapshot, ldT Tryz.prog 61 x.c 0 = some (Snapshot.v x) := fun x => by kernel_rfl
@[go_sem] theorem Snapshot.ld0_3 : ∀ x : Snapshot, ldT Tryz.prog 3 x.c 0 = some (.int .i64 x.Day) := fun x => by kernel_rfl
@[go_sem] theorem Snapshot.ld1_3 : ∀ x : Snapshot, ldT Tryz.prog 3 x.c 1 = some (.int .i64 x.Commit) := fun x => by kernel_rfl
@[go_sem] theorem ref21_Path.ld0_74 : ∀ x : ref21_Path, ldT Tryz.prog 74 x.c 0 = some (ref21_Path.v x) := fun x => by kernel_rfl
@[go_sem] theorem ref21_Path.ld0_70 : ∀ x : ref21_Path, ldT Tryz.prog 70 x.c 0 = some (lv Digest.v x.L) := fun x => by kernel_rfl
@[go_sem] theorem ref21_Path.ld1_35 : ∀ x : ref21_Path, ldT Tryz.prog 35 x.c 1 = some (.int .i64 x.E) := fun x => by kernel_rfl
@[go_sem] theorem Event.ld0_80 : ∀ x : Event, ldT Tryz.prog 80 x.c 0 = some (Event.v x) := fun x => by kernel_rfl
@[go_sem] theorem Event.ld0_3 : ∀ x : Event, ldT Tryz.prog 3 x.c 0 = some (.int .i64 x.Kind) := fun x => by kernel_rfl
@[go_sem] theorem Event.ld1_3 : ∀ x : Event, ldT Tryz.prog 3 x.c 1 = some (.int .i64 x.Commit) := fun x => by kernel_rfl
@[go_sem] theorem Event.ld2_3 : ∀ x : Event, ldT Tryz.prog 3 x.c 2 = some (.int .i64 x.Day) := fun x => by kernel_rfl
@[go_sem] theorem Event.ld3_3 : ∀ x : Event, ldT Tryz.prog 3 x.c 3 = some (.int .i64 x.ID) := fun x => by kernel_rfl
@[go_sem] theorem Event.ld4_3 : ∀ x : Event, ldT Tryz.prog 3 x.c 4 = some (.int .i64 x.Owner) := fun x => by kernel_rfl
@[go_sem] theorem Event.ld5_3 : ∀ x : Event, ldT Tryz.prog 3 x.c 5 = some (.int .i64 x.Until) := fun x => by kernel_rfl
@[go_sem] theorem Event.ld6_3 : ∀ x : Event, ldT Tryz.prog 3 x.c 6 = some (.int .i64 x.From) := fun x => by kernel_rfl
@[go_sem] theorem Event.ld7_27 : ∀ x : Event, ldT Tryz.prog 27 x.c 7 = some (lv iv x.Vec) := fun x => by kernel_rfl
@[go_sem] theorem Event.ld8_63 : ∀ x : Event, ldT Tryz.prog 63 x.c 8 = some (lv Attr.v x.Attrs) := fun x => by kernel_rfl
@[go_sem] theorem Event.ld9_44 : ∀ x : Event, ldT Tryz.prog 44 x.c 9 = some (Digest.v x.Nonce) := fun x => by kernel_rfl
@[go_sem] theorem Event.ld9_5 : ∀ x : Event, ldT Tryz.prog 5 x.c 9 = some (.int .u8 x.Nonce.b0) := fun x => by kernel_rfl
@[go_sem] theorem Event.ld10_5 : ∀ x : Event, ldT Tryz.prog 5 x.c 10 = some (.int .u8 x.Nonce.b1) := fun x => by kernel_rfl
@[go_sem] theorem Event.ld11_5 : ∀ x : Event, ldT Tryz.prog 5 x.c 11 = some (.int .u8 x.Nonce.b2) := fun x => by kernel_rfl
@[go_sem] theorem Event.ld12_5 : ∀ x : Event, ldT Tryz.prog 5 x.c 12 = some (.int .u8 x.Nonce.b3) := fun x => by kernel_rfl
@[go_sem] theorem Event.ld13_5 : ∀ x : Event, ldT Tryz.prog 5 x.c 13 = some (.int .u8 x.Nonce.b4) := fun x => by kernel_rfl
@[go_sem] theorem Event.ld14_5 : ∀ x : Event, ldT Tryz.prog 5 x.c 14 = some (.int .u8 x.Nonce.b5) := fun x => by kernel_rfl
@[go_sem] theorem Event.ld15_5 : ∀ x : Event, ldT Tryz.prog 5 x.c 15 = some (.int .u8 x.Nonce.b6) := fun x => by kernel_rfl
@[go_sem] theorem Event.ld16_5 : ∀ x : Event, ldT Tryz.prog 5 x.c 16 = some (.int .u8 x.Nonce.b7) := fun x => by kernel_rfl
@[go_sem] theorem Event.ld17_5 : ∀ x : Event, ldT Tryz.prog 5 x.c 17 = some (.int .u8 x.Nonce.b8) := fun x => by kernel_rfl
@[go_sem] theorem Event.ld18_5 : ∀ x : Event, ldT Tryz.prog 5 x.c 18 = some (.int .u8 x.Nonce.b9) := fun x => by kernel_rfl
@[go_sem] theorem Event.ld19_5 : ∀ x : Event, ldT Tryz.prog 5 x.c 19 = some (.int .u8 x.Nonce.b10) := fun x => by kernel_rfl
@[go_sem] theorem Event.ld20_5 : ∀ x : Event, ldT Tryz.prog 5 x.c 20 = some (.int .u8 x.Nonce.b11) := fun x => by kernel_rfl
@[go_sem] theorem Event.ld21_5 : ∀ x : Event, ldT Tryz.prog 5 x.c 21 = some (.int .u8 x.Nonce.b12) := fun x => by kernel_rfl
@[go_sem] theorem Event.ld22_5 : ∀ x : Event, ldT Tryz.prog 5 x.c 22 = some (.int .u8 x.Nonce.b13) := fun x => by kernel_rfl
@[go_sem] theorem Event.ld23_5 : ∀ x : Event, ldT Tryz.prog 5 x.c 23 = some (.int .u8 x.Nonce.b14) := fun x => by kernel_rfl
@[go_sem] theorem Event.ld24_5 : ∀ x : Event, ldT Tryz.prog 5 x.c 24 = some (.int .u8 x.Nonce.b15) := fun x => by kernel_rfl
@[go_sem] theorem Query.ld0_88 : ∀ x : Query, ldT Tryz.prog 88 x.c 0 = some (Query.v x) := fun x => by kernel_rfl
@[go_sem] theorem Query.ld0_27 : ∀ x : Query, ldT Tryz.prog 27 x.c 0 = some (lv iv x.Vec) := fun x => by kernel_rfl
@[go_sem] theorem Query.ld1_3 : ∀ x : Query, ldT Tryz.prog 3 x.c 1 = some (.int .i64 x.K) := fun x => by kernel_rfl
@[go_sem] theorem Query.ld2_3 : ∀ x : Query, ldT Tryz.prog 3 x.c 2 = some (.int .i64 x.Within) := fun x => by kernel_rfl
@[go_sem] theorem Query.ld3_49 : ∀ x : Query, ldT Tryz.prog 49 x.c 3 = some (Pred.v x.Where) := fun x => by kernel_rfl
@[go_sem] theorem Query.ld3_3 : ∀ x : Query, ldT Tryz.prog 3 x.c 3 = some (.int .i64 x.Where.Op) := fun x => by kernel_rfl
@[go_sem] theorem Query.ld4_9 : ∀ x : Query, ldT Tryz.prog 9 x.c 4 = some (.str x.Where.Name) := fun x => by kernel_rfl
@[go_sem] theorem Query.ld5_3 : ∀ x : Query, ldT Tryz.prog 3 x.c 5 = some (.int .i64 x.Where.N) := fun x => by kernel_rfl
@[go_sem] theorem Query.ld6_3 : ∀ x : Query, ldT Tryz.prog 3 x.c 6 = some (.int .i64 x.Where.M) := fun x => by kernel_rfl
@[go_sem] theorem Query.ld7_9 : ∀ x : Query, ldT Tryz.prog 9 x.c 7 = some (.str x.Where.S) := fun x => by kernel_rfl
@[go_sem] theorem Query.ld8_47 : ∀ x : Query, ldT Tryz.prog 47 x.c 8 = some (lv Pred.v x.Where.Subs) := fun x => by rw [← Pred.vr_map]; kernel_rfl
@[go_sem] theorem Query.ld9_61 : ∀ x : Query, ldT Tryz.prog 61 x.c 9 = some (Snapshot.v x.At) := fun x => by kernel_rfl
@[go_sem] theorem Query.ld9_3 : ∀ x : Query, ldT Tryz.prog 3 x.c 9 = some (.int .i64 x.At.Day) := fun x => by kernel_rfl
@[go_sem] theorem Query.ld10_3 : ∀ x : Query, ldT Tryz.prog 3 x.c 10 = some (.int .i64 x.At.Commit) := fun x => by kernel_rfl
@[go_sem] theorem Query.ld11_3 : ∀ x : Query, ldT Tryz.prog 3 x.c 11 = some (.int .i64 x.Budget) := fun x => by kernel_rfl
@[go_sem] theorem Hit.ld0_96 : ∀ x : Hit, ldT Tryz.prog 96 x.c 0 = some (Hit.v x) := fun x => by kernel_rfl
@[go_sem] theorem Hit.ld0_3 : ∀ x : Hit, ldT Tryz.prog 3 x.c 0 = some (.int .i64 x.ID) := fun x => by kernel_rfl
@[go_sem] theorem Hit.ld1_3 : ∀ x : Hit, ldT Tryz.prog 3 x.c 1 = some (.int .i64 x.Ver) := fun x => by kernel_rfl
@[go_sem] theorem Hit.ld2_3 : ∀ x : Hit, ldT Tryz.prog 3 x.c 2 = some (.int .i64 x.Key) := fun x => by kernel_rfl
@[go_sem] theorem ref19_Folded.ld0_102 : ∀ x : ref19_Folded, ldT Tryz.prog 102 x.c 0 = some (ref19_Folded.v x) := fun x => by kernel_rfl
@[go_sem] theorem ref19_Folded.ld0_30 : ∀ x : ref19_Folded, ldT Tryz.prog 30 x.c 0 = some (Book.v x.B) := fun x => by kernel_rfl
@[go_sem] theorem ref19_Folded.ld0_24 : ∀ x : ref19_Folded, ldT Tryz.prog 24 x.c 0 = some (Schema.v x.B.Schema) := fun x => by kernel_rfl
@[go_sem] theorem ref19_Folded.ld0_3 : ∀ x : ref19_Folded, ldT Tryz.prog 3 x.c 0 = some (.int .i64 x.B.Schema.Dims) := fun x => by kernel_rfl
@[go_sem] theorem ref19_Folded.ld1_3 : ∀ x : ref19_Folded, ldT Tryz.prog 3 x.c 1 = some (.int .i64 x.B.Schema.Metric) := fun x => by kernel_rfl
@[go_sem] theorem ref19_Folded.ld2_22 : ∀ x : ref19_Folded, ldT Tryz.prog 22 x.c 2 = some (lv Def.v x.B.Schema.Defs) := fun x => by kernel_rfl
@[go_sem] theorem ref19_Folded.ld3_3 : ∀ x : ref19_Folded, ldT Tryz.prog 3 x.c 3 = some (.int .i64 x.B.Commit) := fun x => by kernel_rfl
@[go_sem] theorem ref19_Folded.ld4_3 : ∀ x : ref19_Folded, ldT Tryz.prog 3 x.c 4 = some (.int .i64 x.B.Day) := fun x => by kernel_rfl
@[go_sem] theorem ref19_Folded.ld5_27 : ∀ x : ref19_Folded, ldT Tryz.prog 27 x.c 5 = some (lv iv x.B.Days) := fun x => by kernel_rfl
@[go_sem] theorem ref19_Folded.ld6_28 : ∀ x : ref19_Folded, ldT Tryz.prog 28 x.c 6 = some (lv Row.v x.B.Rows) := fun x => by kernel_rfl
@[go_sem] theorem ref19_Folded.ld7_3 : ∀ x : ref19_Folded, ldT Tryz.prog 3 x.c 7 = some (.int .i64 x.N) := fun x => by kernel_rfl
@[go_sem] theorem ref19_Folded.ld8_35 : ∀ x : ref19_Folded, ldT Tryz.prog 35 x.c 8 = some (.int .i64 x.E) := fun x => by kernel_rfl
@[go_sem] theorem ref03_Path.ld0_129 : ∀ x : ref03_Path, ldT Tryz.prog 129 x.c 0 = some (ref03_Path.v x) := fun x => by kernel_rfl
@[go_sem] theorem ref03_Path.ld0_70 : ∀ x : ref03_Path, ldT Tryz.prog 70 x.c 0 = some (lv Digest.v x.L) := fun x => by kernel_rfl
@[go_sem] theorem ref03_Path.ld1_35 : ∀ x : ref03_Path, ldT Tryz.prog 35 x.c 1 = some (.int .i64 x.E) := fun x => by kernel_rfl
@[go_sem] theorem ref19_Booked.ld0_153 : ∀ x : ref19_Booked, ldT Tryz.prog 153 x.c 0 = some (ref19_Booked.v x) := fun x => by kernel_rfl
@[go_sem] theorem ref19_Booked.ld0_30 : ∀ x : ref19_Booked, ldT Tryz.prog 30 x.c 0 = some (Book.v x.B) := fun x => by kernel_rfl
@[go_sem] theorem ref19_Booked.ld0_24 : ∀ x : ref19_Booked, ldT Tryz.prog 24 x.c 0 = some (Schema.v x.B.Schema) := fun x => by kernel_rfl
@[go_sem] theorem ref19_Booked.ld0_3 : ∀ x : ref19_Booked, ldT Tryz.prog 3 x.c 0 = some (.int .i64 x.B.Schema.Dims) := fun x => by kernel_rfl
@[go_sem] theorem ref19_Booked.ld1_3 : ∀ x : ref19_Booked, ldT Tryz.prog 3 x.c 1 = some (.int .i64 x.B.Schema.Metric) := fun x => by kernel_rfl
@[go_sem] theorem ref19_Booked.ld2_22 : ∀ x : ref19_Booked, ldT Tryz.prog 22 x.c 2 = some (lv Def.v x.B.Schema.Defs) := fun x => by kernel_rfl
@[go_sem] theorem ref19_Booked.ld3_3 : ∀ x : ref19_Booked, ldT Tryz.prog 3 x.c 3 = some (.int .i64 x.B.Commit) := fun x => by kernel_rfl
@[go_sem] theorem ref19_Booked.ld4_3 : ∀ x : ref19_Booked, ldT Tryz.prog 3 x.c 4 = some (.int .i64 x.B.Day) := fun x => by kernel_rfl
@[go_sem] theorem ref19_Booked.ld5_27 : ∀ x : ref19_Booked, ldT Tryz.prog 27 x.c 5 = some (lv iv x.B.Days) := fun x => by kernel_rfl
@[go_sem] theorem ref19_Booked.ld6_28 : ∀ x : ref19_Booked, ldT Tryz.prog 28 x.c 6 = some (lv Row.v x.B.Rows) := fun x => by kernel_rfl
@[go_sem] theorem ref19_Booked.ld7_35 : ∀ x : ref19_Booked, ldT Tryz.prog 35 x.c 7 = some (.int .i64 x.E) := fun x => by kernel_rfl
@[go_sem] theorem merkle_path.ld0_181 : ∀ x : merkle_path, ldT Tryz.prog 181 x.c 0 = some (merkle_path.v x) := fun x => by kernel_rfl
@[go_sem] theorem merkle_path.ld0_70 : ∀ x : merkle_path, ldT Tryz.prog 70 x.c 0 = some (lv Digest.v x.l) := fun x => by kernel_rfl
@[go_sem] theorem merkle_path.ld1_4 : ∀ x : merkle_path, ldT Tryz.prog 4 x.c 1 = some (.bool x.short) := fun x => by kernel_rfl
@[go_sem] theorem ref13_Got.ld0_216 : ∀ x : ref13_Got, ldT Tryz.prog 216 x.c 0 = some (ref13_Got.v x) := fun x => by kernel_rfl
@[go_sem] theorem ref13_Got.ld0_187 : ∀ x : ref13_Got, ldT Tryz.prog 187 x.c 0 = some (Attr.v x.A) := fun x => by kernel_rfl
@[go_sem] theorem ref13_Got.ld0_9 : ∀ x : ref13_Got, ldT Tryz.prog 9 x.c 0 = some (.str x.A.Name) := fun x => by kernel_rfl
@[go_sem] theorem ref13_Got.ld1_3 : ∀ x : ref13_Got, ldT Tryz.prog 3 x.c 1 = some (.int .i64 x.A.Kind) := fun x => by kernel_rfl
@[go_sem] theorem ref13_Got.ld2_3 : ∀ x : ref13_Got, ldT Tryz.prog 3 x.c 2 = some (.int .i64 x.A.N) := fun x => by kernel_rfl
@[go_sem] theorem ref13_Got.ld3_9 : ∀ x : ref13_Got, ldT Tryz.prog 9 x.c 3 = some (.str x.A.S) := fun x => by kernel_rfl
@[go_sem] theorem ref13_Got.ld4_4 : ∀ x : ref13_Got, ldT Tryz.prog 4 x.c 4 = some (.bool x.Is) := fun x => by kernel_rfl
@[go_sem] theorem ref19_days.ld0_256 : ∀ x : ref19_days, ldT Tryz.prog 256 x.c 0 = some (ref19_days.v x) := fun x => by kernel_rfl
@[go_sem] theorem ref19_days.ld0_3 : ∀ x : ref19_days, ldT Tryz.prog 3 x.c 0 = some (.int .i64 x.from_) := fun x => by kernel_rfl
@[go_sem] theorem ref19_days.ld1_3 : ∀ x : ref19_days, ldT Tryz.prog 3 x.c 1 = some (.int .i64 x.to) := fun x => by kernel_rfl
end Sh
