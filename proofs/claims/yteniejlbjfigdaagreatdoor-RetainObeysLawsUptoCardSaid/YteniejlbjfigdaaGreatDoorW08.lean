/- Part of the proof of a law: ShT. -/
import Derived.KernelRfl
import Derived.Test.YteniejlbjfigdaaGreatDoorProg
import Derived.Test.YteniejlbjfigdaaGreatDoorW07
set_option linter.all false
set_option linter.unusedSimpArgs false
set_option linter.unusedSectionVars false
open Go Go.Proofs Aq
namespace Sh
set_option maxRecDepth 100000
structure Def where
  Name : List UInt8
  Kind : Int
  Lo : Int
  Hi : Int
  Words : List (List UInt8)
  deriving DecidableEq
def Def.c (x : Def) : List V := [.str x.Name, .int .i64 x.Kind, .int .i64 x.Lo, .int .i64 x.Hi, lv V.str x.Words]
def Def.v (x : Def) : V := .agg x.c
theorem Def.cells (x : Def) : ((Def.v x).cells) = x.c := rfl
theorem Def.nr (x : Def) : notRaw x.v = true := rfl
theorem Def.er_ (x : Def) : er x.v = x.v := rfl
theorem Def.len (x : Def) : x.c.length = 5 := rfl
theorem Def.one (x : Def) : oneCells x.c = true := rfl
theorem Def.pc (x : Def) : pclean x.v = true := by simp [Def.v, Def.c, pclean, pcleanL, pclean_lv, pclean_lstr, pclean_liv, pclean_lint, pclean_lbool, iv]
attribute [go_sem] Def.nr Def.er_ Def.cells Def.len Def.one Def.pc
structure Schema where
  Dims : Int
  Metric : Int
  Defs : List Def
  deriving DecidableEq
def Schema.c (x : Schema) : List V := [.int .i64 x.Dims, .int .i64 x.Metric, lv Def.v x.Defs]
def Schema.v (x : Schema) : V := .agg x.c
theorem Schema.cells (x : Schema) : ((Schema.v x).cells) = x.c := rfl
theorem Schema.nr (x : Schema) : notRaw x.v = true := rfl
theorem Schema.er_ (x : Schema) : er x.v = x.v := rfl
theorem Schema.len (x : Schema) : x.c.length = 3 := rfl
theorem Schema.one (x : Schema) : oneCells x.c = true := rfl
theorem Schema.pc (x : Schema) : pclean x.v = true := by simp [Schema.v, Schema.c, pclean, pcleanL, pclean_lv, pclean_lstr, pclean_liv, pclean_lint, pclean_lbool, iv, Def.pc]
attribute [go_sem] Schema.nr Schema.er_ Schema.cells Schema.len Schema.one Schema.pc
structure Attr where
  Name : List UInt8
  Kind : Int
  N : Int
  S : List UInt8
  deriving DecidableEq
def Attr.c (x : Attr) : List V := [.str x.Name, .int .i64 x.Kind, .int .i64 x.N, .str x.S]
def Attr.v (x : Attr) : V := .agg x.c
theorem Attr.cells (x : Attr) : ((Attr.v x).cells) = x.c := rfl
theorem Attr.nr (x : Attr) : notRaw x.v = true := rfl
theorem Attr.er_ (x : Attr) : er x.v = x.v := rfl
theorem Attr.len (x : Attr) : x.c.length = 4 := rfl
theorem Attr.one (x : Attr) : oneCells x.c = true := rfl
theorem Attr.pc (x : Attr) : pclean x.v = true := by simp [Attr.v, Attr.c, pclean, pcleanL, pclean_lv, pclean_lstr, pclean_liv, pclean_lint, pclean_lbool, iv]
attribute [go_sem] Attr.nr Attr.er_ Attr.cells Attr.len Attr.one Attr.pc
structure Entry where
  ID : Int
  Ver : Int
  Owner : Int
  Filed : Int
  From : Int
  To : Int
  Born : Int
  Vec : List Int
  Attrs : List Attr
  deriving DecidableEq
def Entry.c (x : Entry) : List V := [.int .i64 x.ID, .int .i64 x.Ver, .int .i64 x.Owner, .int .i64 x.Filed, .int .i64 x.From, .int .i64 x.To, .int .i64 x.Born, lv iv x.Vec, lv Attr.v x.Attrs]
def Entry.v (x : Entry) : V := .agg x.c
theorem Entry.cells (x : Entry) : ((Entry.v x).cells) = x.c := rfl
theorem Entry.nr (x : Entry) : notRaw x.v = true := rfl
theorem Entry.er_ (x : Entry) : er x.v = x.v := rfl
theorem Entry.len (x : Entry) : x.c.length = 9 := rfl
theorem Entry.one (x : Entry) : oneCells x.c = true := rfl
theorem Entry.pc (x : Entry) : pclean x.v = true := by simp [Entry.v, Entry.c, pclean, pcleanL, pclean_lv, pclean_lstr, pclean_liv, pclean_lint, pclean_lbool, iv, Attr.pc]
attribute [go_sem] Entry.nr Entry.er_ Entry.cells Entry.len Entry.one Entry.pc
structure Row where
  Entry : Entry
  Died : Int
  deriving DecidableEq
def Row.c (x : Row) : List V := [.int .i64 x.Entry.ID, .int .i64 x.Entry.Ver, .int .i64 x.Entry.Owner, .int .i64 x.Entry.Filed, .int .i64 x.Entry.From, .int .i64 x.Entry.To, .int .i64 x.Entry.Born, lv iv x.Entry.Vec, lv Attr.v x.Entry.Attrs, .int .i64 x.Died]
def Row.v (x : Row) : V := .agg x.c
theorem Row.cells (x : Row) : ((Row.v x).cells) = x.c := rfl
theorem Row.nr (x : Row) : notRaw x.v = true := rfl
theorem Row.er_ (x : Row) : er x.v = x.v := rfl
theorem Row.len (x : Row) : x.c.length = 10 := rfl
theorem Row.one (x : Row) : oneCells x.c = true := rfl
theorem Row.pc (x : Row) : pclean x.v = true := by simp [Row.v, Row.c, pclean, pcleanL, pclean_lv, pclean_lstr, pclean_liv, pclean_lint, pclean_lbool, iv, Attr.pc, Entry.pc]
attribute [go_sem] Row.nr Row.er_ Row.cells Row.len Row.one Row.pc
structure Book where
  Schema : Schema
  Commit : Int
  Day : Int
  Days : List Int
  Rows : List Row
  deriving DecidableEq
def Book.c (x : Book) : List V := [.int .i64 x.Schema.Dims, .int .i64 x.Schema.Metric, lv Def.v x.Schema.Defs, .int .i64 x.Commit, .int .i64 x.Day, lv iv x.Days, lv Row.v x.Rows]
def Book.v (x : Book) : V := .agg x.c
theorem Book.cells (x : Book) : ((Book.v x).cells) = x.c := rfl
theorem Book.nr (x : Book) : notRaw x.v = true := rfl
theorem Book.er_ (x : Book) : er x.v = x.v := rfl
theorem Book.len (x : Book) : x.c.length = 7 := rfl
theorem Book.one (x : Book) : oneCells x.c = true := rfl
theorem Book.pc (x : Book) : pclean x.v = true := by simp [Book.v, Book.c, pclean, pcleanL, pclean_lv, pclean_lstr, pclean_liv, pclean_lint, pclean_lbool, iv, Attr.pc, Def.pc, Entry.pc, Row.pc, Schema.pc]
attribute [go_sem] Book.nr Book.er_ Book.cells Book.len Book.one Book.pc
structure Digest where
  b0 : Int
  b1 : Int
  b2 : Int
  b3 : Int
  b4 : Int
  b5 : Int
  b6 : Int
  b7 : Int
  b8 : Int
  b9 : Int
  b10 : Int
  b11 : Int
  b12 : Int
  b13 : Int
  b14 : Int
  b15 : Int
  deriving DecidableEq
def Digest.c (x : Digest) : List V := [.int .u8 x.b0, .int .u8 x.b1, .int .u8 x.b2, .int .u8 x.b3, .int .u8 x.b4, .int .u8 x.b5, .int .u8 x.b6, .int .u8 x.b7, .int .u8 x.b8, .int .u8 x.b9, .int .u8 x.b10, .int .u8 x.b11, .int .u8 x.b12, .int .u8 x.b13, .int .u8 x.b14, .int .u8 x.b15]
def Digest.v (x : Digest) : V := .agg x.c
theorem Digest.cells (x : Digest) : ((Digest.v x).cells) = x.c := rfl
theorem Digest.nr (x : Digest) : notRaw x.v = true := rfl
theorem Digest.er_ (x : Digest) : er x.v = x.v := rfl
theorem Digest.len (x : Digest) : x.c.length = 16 := rfl
theorem Digest.one (x : Digest) : oneCells x.c = true := rfl
theorem Digest.pc (x : Digest) : pclean x.v = true := by simp [Digest.v, Digest.c, pclean, pcleanL, pclean_lv, pclean_lstr, pclean_liv, pclean_lint, pclean_lbool, iv]
attribute [go_sem] Digest.nr Digest.er_ Digest.cells Digest.len Digest.one Digest.pc
structure Gone where
  ID : Int
  Ver : Int
  Born : Int
  Died : Int
  Leaf : Digest
  deriving DecidableEq
def Gone.c (x : Gone) : List V := [.int .i64 x.ID, .int .i64 x.Ver, .int .i64 x.Born, .int .i64 x.Died, .int .u8 x.Leaf.b0, .int .u8 x.Leaf.b1, .int .u8 x.Leaf.b2, .int .u8 x.Leaf.b3, .int .u8 x.Leaf.b4, .int .u8 x.Leaf.b5, .int .u8 x.Leaf.b6, .int .u8 x.Leaf.b7, .int .u8 x.Leaf.b8, .int .u8 x.Leaf.b9, .int .u8 x.Leaf.b10, .int .u8 x.Leaf.b11, .int .u8 x.Leaf.b12, .int .u8 x.Leaf.b13, .int .u8 x.Leaf.b14, .int .u8 x.Leaf.b15]
def Gone.v (x : Gone) : V := .agg x.c
theorem Gone.cells (x : Gone) : ((Gone.v x).cells) = x.c := rfl
theorem Gone.nr (x : Gone) : notRaw x.v = true := rfl
theorem Gone.er_ (x : Gone) : er x.v = x.v := rfl
theorem Gone.len (x : Gone) : x.c.length = 20 := rfl
theorem Gone.one (x : Gone) : oneCells x.c = true := rfl
theorem Gone.pc (x : Gone) : pclean x.v = true := by simp [Gone.v, Gone.c, pclean, pcleanL, pclean_lv, pclean_lstr, pclean_liv, pclean_lint, pclean_lbool, iv, Digest.pc]
attribute [go_sem] Gone.nr Gone.er_ Gone.cells Gone.len Gone.one Gone.pc
structure Pred where
  Op : Int
  Name : List UInt8
  N : Int
  M : Int
  S : List UInt8
  Subs : List Pred
mutual
def Pred.vr : Pred → V
  | ⟨a0, a1, a2, a3, a4, a5⟩ => .agg [.int .i64 a0, .str a1, .int .i64 a2, .int .i64 a3, .str a4, .lst .sh (Pred.vl a5)]
def Pred.vl : List Pred → List V
  | [] => []
  | p :: l => Pred.vr p :: Pred.vl l
end
theorem Pred.vl_map : ∀ l, Pred.vl l = l.map Pred.vr
  | [] => by simp [Pred.vl]
  | p :: l => by rw [Pred.vl, List.map_cons, ← Pred.vl_map l]
def Pred.c (x : Pred) : List V := [.int .i64 x.Op, .str x.Name, .int .i64 x.N, .int .i64 x.M, .str x.S, .lst .sh (x.Subs.map Pred.vr)]
def Pred.v (x : Pred) : V := .agg x.c
theorem Pred.vr_eq : Pred.vr = Pred.v := by funext x; cases x; simp [Pred.vr, Pred.v, Pred.c, Pred.vl_map]
theorem Pred.vr_map (l : List Pred) : V.lst .sh (l.map Pred.vr) = lv Pred.v l := by rw [Pred.vr_eq]; rfl
theorem Pred.cells (x : Pred) : ((Pred.v x).cells) = x.c := rfl
theorem Pred.nr (x : Pred) : notRaw x.v = true := rfl
theorem Pred.er_ (x : Pred) : er x.v = x.v := rfl
theorem Pred.len (x : Pred) : x.c.length = 6 := rfl
theorem Pred.one (x : Pred) : oneCells x.c = true := rfl
theorem Pred.pcr : ∀ x : Pred, pclean x.vr = true := by
  intro x
  refine Pred.rec (motive_1 := fun x => pclean x.vr = true) (motive_2 := fun l => pcleanL (Pred.vl l) = true) ?_ ?_ ?_ x
  · intros; simp_all [Pred.vr, pclean, pcleanL, pclean_lstr, pclean_liv]
  · simp [Pred.vl, pcleanL]
  · intro p l h1 h2; simp [Pred.vl, pcleanL, h1, h2]
theorem Pred.pc (x : Pred) : pclean x.v = true := by rw [← Pred.vr_eq]; exact Pred.pcr x
attribute [go_sem] Pred.nr Pred.er_ Pred.cells Pred.len Pred.one Pred.pc Pred.vr_map
structure Law where
  Name : List UInt8
  Where : Pred
  Days : Int
def Law.c (x : Law) : List V := [.str x.Name, .int .i64 x.Where.Op, .str x.Where.Name, .int .i64 x.Where.N, .int .i64 x.Where.M, .str x.Where.S, .lst .sh (x.Where.Subs.map Pred.vr), .int .i64 x.Days]
def Law.v (x : Law) : V := .agg x.c
theorem Law.cells (x : Law) : ((Law.v x).cells) = x.c := rfl
theorem Law.nr (x : Law) : notRaw x.v = true := rfl
theorem Law.er_ (x : Law) : er x.v = x.v := rfl
theorem Law.len (x : Law) : x.c.length = 8 := rfl
theorem Law.one (x : Law) : oneCells x.c = true := rfl
theorem Law.pc (x : Law) : pclean x.v = true := by simp [Law.v, Law.c, pclean, pcleanL, pclean_lv, pclean_lstr, pclean_liv, pclean_lint, pclean_lbool, iv, Pred.pc, Pred.vr_map]
attribute [go_sem] Law.nr Law.er_ Law.cells Law.len Law.one Law.pc
structure ref21_Kept where
  B : Book
  L : List Gone
  E : Int
  deriving DecidableEq
def ref21_Kept.c (x : ref21_Kept) : List V := [.int .i64 x.B.Schema.Dims, .int .i64 x.B.Schema.Metric, lv Def.v x.B.Schema.Defs, .int .i64 x.B.Commit, .int .i64 x.B.Day, lv iv x.B.Days, lv Row.v x.B.Rows, lv Gone.v x.L, .int .i64 x.E]
def ref21_Kept.v (x : ref21_Kept) : V := .agg x.c
theorem ref21_Kept.cells (x : ref21_Kept) : ((ref21_Kept.v x).cells) = x.c := rfl
theorem ref21_Kept.nr (x : ref21_Kept) : notRaw x.v = true := rfl
theorem ref21_Kept.er_ (x : ref21_Kept) : er x.v = x.v := rfl
theorem ref21_Kept.len (x : ref21_Kept) : x.c.length = 9 := rfl
theorem ref21_Kept.one (x : ref21_Kept) : oneCells x.c = true := rfl
theorem ref21_Kept.pc (x : ref21_Kept) : pclean x.v = true := by simp [ref21_Kept.v, ref21_Kept.c, pclean, pcleanL, pclean_lv, pclean_lstr, pclean_liv, pclean_lint, pclean_lbool, iv, Attr.pc, Book.pc, Def.pc, Digest.pc, Entry.pc, Gone.pc, Row.pc, Schema.pc]
attribute [go_sem] ref21_Kept.nr ref21_Kept.er_ ref21_Kept.cells ref21_Kept.len ref21_Kept.one ref21_Kept.pc
structure Snapshot where
  Day : Int
  Commit : Int
  deriving DecidableEq
def Snapshot.c (x : Snapshot) : List V := [.int .i64 x.Day, .int .i64 x.Commit]
def Snapshot.v (x : Snapshot) : V := .agg x.c
theorem Snapshot.cells (x : Snapshot) : ((Snapshot.v x).cells) = x.c := rfl
theorem Snapshot.nr (x : Snapshot) : notRaw x.v = true := rfl
theorem Snapshot.er_ (x : Snapshot) : er x.v = x.v := rfl
theorem Snapshot.len (x : Snapshot) : x.c.length = 2 := rfl
theorem Snapshot.one (x : Snapshot) : oneCells x.c = true := rfl
theorem Snapshot.pc (x : Snapshot) : pclean x.v = true := by simp [Snapshot.v, Snapshot.c, pclean, pcleanL, pclean_lv, pclean_lstr, pclean_liv, pclean_lint, pclean_lbool, iv]
attribute [go_sem] Snapshot.nr Snapshot.er_ Snapshot.cells Snapshot.len Snapshot.one Snapshot.pc
structure ref21_Path where
  L : List Digest
  E : Int
  deriving DecidableEq
def ref21_Path.c (x : ref21_Path) : List V := [lv Digest.v x.L, .int .i64 x.E]
def ref21_Path.v (x : ref21_Path) : V := .agg x.c
theorem ref21_Path.cells (x : ref21_Path) : ((ref21_Path.v x).cells) = x.c := rfl
theorem ref21_Path.nr (x : ref21_Path) : notRaw x.v = true := rfl
theorem ref21_Path.er_ (x : ref21_Path) : er x.v = x.v := rfl
theorem ref21_Path.len (x : ref21_Path) : x.c.length = 2 := rfl
theorem ref21_Path.one (x : ref21_Path) : oneCells x.c = true := rfl
theorem ref21_Path.pc (x : ref21_Path) : pclean x.v = true := by simp [ref21_Path.v, ref21_Path.c, pclean, pcleanL, pclean_lv, pclean_lstr, pclean_liv, pclean_lint, pclean_lbool, iv, Digest.pc]
attribute [go_sem] ref21_Path.nr ref21_Path.er_ ref21_Path.cells ref21_Path.len ref21_Path.one ref21_Path.pc
structure Event where
  Kind : Int
  Commit : Int
  Day : Int
  ID : Int
  Owner : Int
  Until : Int
  From : Int
  Vec : List Int
  Attrs : List Attr
  Nonce : Digest
  deriving DecidableEq
def Event.c (x : Event) : List V := [.int .i64 x.Kind, .int .i64 x.Commit, .int .i64 x.Day, .int .i64 x.ID, .int .i64 x.Owner, .int .i64 x.Until, .int .i64 x.From, lv iv x.Vec, lv Attr.v x.Attrs, .int .u8 x.Nonce.b0, .int .u8 x.Nonce.b1, .int .u8 x.Nonce.b2, .int .u8 x.Nonce.b3, .int .u8 x.Nonce.b4, .int .u8 x.Nonce.b5, .int .u8 x.Nonce.b6, .int .u8 x.Nonce.b7, .int .u8 x.Nonce.b8, .int .u8 x.Nonce.b9, .int .u8 x.Nonce.b10, .int .u8 x.Nonce.b11, .int .u8 x.Nonce.b12, .int .u8 x.Nonce.b13, .int .u8 x.Nonce.b14, .int .u8 x.Nonce.b15]
def Event.v (x : Event) : V := .agg x.c
theorem Event.cells (x : Event) : ((Event.v x).cells) = x.c := rfl
theorem Event.nr (x : Event) : notRaw x.v = true := rfl
theorem Event.er_ (x : Event) : er x.v = x.v := rfl
theorem Event.len (x : Event) : x.c.length = 25 := rfl
theorem Event.one (x : Event) : oneCells x.c = true := rfl
theorem Event.pc (x : Event) : pclean x.v = true := by simp [Event.v, Event.c, pclean, pcleanL, pclean_lv, pclean_lstr, pclean_liv, pclean_lint, pclean_lbool, iv, Attr.pc, Digest.pc]
attribute [go_sem] Event.nr Event.er_ Event.cells Event.len Event.one Event.pc
structure Query where
  Vec : List Int
  K : Int
  Within : Int
  Where : Pred
  At : Snapshot
  Budget : Int
def Query.c (x : Query) : List V := [lv iv x.Vec, .int .i64 x.K, .int .i64 x.Within, .int .i64 x.Where.Op, .str x.Where.Name, .int .i64 x.Where.N, .int .i64 x.Where.M, .str x.Where.S, .lst .sh (x.Where.Subs.map Pred.vr), .int .i64 x.At.Day, .int .i64 x.At.Commit, .int .i64 x.Budget]
def Query.v (x : Query) : V := .agg x.c
theorem Query.cells (x : Query) : ((Query.v x).cells) = x.c := rfl
theorem Query.nr (x : Query) : notRaw x.v = true := rfl
theorem Query.er_ (x : Query) : er x.v = x.v := rfl
theorem Query.len (x : Query) : x.c.length = 12 := rfl
theorem Query.one (x : Query) : oneCells x.c = true := rfl
theorem Query.pc (x : Query) : pclean x.v = true := by simp [Query.v, Query.c, pclean, pcleanL, pclean_lv, pclean_lstr, pclean_liv, pclean_lint, pclean_lbool, iv, Pred.pc, Snapshot.pc, Pred.vr_map]
attribute [go_sem] Query.nr Query.er_ Query.cells Query.len Query.one Query.pc
structure Hit where
  ID : Int
  Ver : Int
  Key : Int
  deriving DecidableEq
def Hit.c (x : Hit) : List V := [.int .i64 x.ID, .int .i64 x.Ver, .int .i64 x.Key]
def Hit.v (x : Hit) : V := .agg x.c
theorem Hit.cells (x : Hit) : ((Hit.v x).cells) = x.c := rfl
theorem Hit.nr (x : Hit) : notRaw x.v = true := rfl
theorem Hit.er_ (x : Hit) : er x.v = x.v := rfl
theorem Hit.len (x : Hit) : x.c.length = 3 := rfl
theorem Hit.one (x : Hit) : oneCells x.c = true := rfl
theorem Hit.pc (x : Hit) : pclean x.v = true := by simp [Hit.v, Hit.c, pclean, pcleanL, pclean_lv, pclean_lstr, pclean_liv, pclean_lint, pclean_lbool, iv]
attribute [go_sem] Hit.nr Hit.er_ Hit.cells Hit.len Hit.one Hit.pc
structure ref19_Folded where
  B : Book
  N : Int
  E : Int
  deriving DecidableEq
def ref19_Folded.c (x : ref19_Folded) : List V := [.int .i64 x.B.Schema.Dims, .int .i64 x.B.Schema.Metric, lv Def.v x.B.Schema.Defs, .int .i64 x.B.Commit, .int .i64 x.B.Day, lv iv x.B.Days, lv Row.v x.B.Rows, .int .i64 x.N, .int .i64 x.E]
def ref19_Folded.v (x : ref19_Folded) : V := .agg x.c
theorem ref19_Folded.cells (x : ref19_Folded) : ((ref19_Folded.v x).cells) = x.c := rfl
theorem ref19_Folded.nr (x : ref19_Folded) : notRaw x.v = true := rfl
theorem ref19_Folded.er_ (x : ref19_Folded) : er x.v = x.v := rfl
theorem ref19_Folded.len (x : ref19_Folded) : x.c.length = 9 := rfl
theorem ref19_Folded.one (x : ref19_Folded) : oneCells x.c = true := rfl
theorem ref19_Folded.pc (x : ref19_Folded) : pclean x.v = true := by simp [ref19_Folded.v, ref19_Folded.c, pclean, pcleanL, pclean_lv, pclean_lstr, pclean_liv, pclean_lint, pclean_lbool, iv, Attr.pc, Book.pc, Def.pc, Entry.pc, Row.pc, Schema.pc]
attribute [go_sem] ref19_Folded.nr ref19_Folded.er_ ref19_Folded.cells ref19_Folded.len ref19_Folded.one ref19_Folded.pc
structure ref03_Path where
  L : List Digest
  E : Int
  deriving DecidableEq
def ref03_Path.c (x : ref03_Path) : List V := [lv Digest.v x.L, .int .i64 x.E]
def ref03_Path.v (x : ref03_Path) : V := .agg x.c
theorem ref03_Path.cells (x : ref03_Path) : ((ref03_Path.v x).cells) = x.c := rfl
theorem ref03_Path.nr (x : ref03_Path) : notRaw x.v = true := rfl
theorem ref03_Path.er_ (x : ref03_Path) : er x.v = x.v := rfl
theorem ref03_Path.len (x : ref03_Path) : x.c.length = 2 := rfl
theorem ref03_Path.one (x : ref03_Path) : oneCells x.c = true := rfl
theorem ref03_Path.pc (x : ref03_Path) : pclean x.v = true := by simp [ref03_Path.v, ref03_Path.c, pclean, pcleanL, pclean_lv, pclean_lstr, pclean_liv, pclean_lint, pclean_lbool, iv, Digest.pc]
attribute [go_sem] ref03_Path.nr ref03_Path.er_ ref03_Path.cells ref03_Path.len ref03_Path.one ref03_Path.pc
structure ref19_Booked where
  B : Book
  E : Int
  deriving DecidableEq
def ref19_Booked.c (x : ref19_Booked) : List V := [.int .i64 x.B.Schema.Dims, .int .i64 x.B.Schema.Metric, lv Def.v x.B.Schema.Defs, .int .i64 x.B.Commit, .int .i64 x.B.Day, lv iv x.B.Days, lv Row.v x.B.Rows, .int .i64 x.E]
def ref19_Booked.v (x : ref19_Booked) : V := .agg x.c
theorem ref19_Booked.cells (x : ref19_Booked) : ((ref19_Booked.v x).cells) = x.c := rfl
theorem ref19_Booked.nr (x : ref19_Booked) : notRaw x.v = true := rfl
theorem ref19_Booked.er_ (x : ref19_Booked) : er x.v = x.v := rfl
theorem ref19_Booked.len (x : ref19_Booked) : x.c.length = 8 := rfl
theorem ref19_Booked.one (x : ref19_Booked) : oneCells x.c = true := rfl
theorem ref19_Booked.pc (x : ref19_Booked) : pclean x.v = true := by simp [ref19_Booked.v, ref19_Booked.c, pclean, pcleanL, pclean_lv, pclean_lstr, pclean_liv, pclean_lint, pclean_lbool, iv, Attr.pc, Book.pc, Def.pc, Entry.pc, Row.pc, Schema.pc]
attribute [go_sem] ref19_Booked.nr ref19_Booked.er_ ref19_Booked.cells ref19_Booked.len ref19_Booked.one ref19_Booked.pc
structure merkle_path where
  l : List Digest
  short : Bool
  deriving DecidableEq
def merkle_path.c (x : merkle_path) : List V := [lv Digest.v x.l, .bool x.short]
def merkle_path.v (x : merkle_path) : V := .agg x.c
theorem merkle_path.cells (x : merkle_path) : ((merkle_path.v x).cells) = x.c := rfl
theorem merkle_path.nr (x : merkle_path) : notRaw x.v = true := rfl
theorem merkle_path.er_ (x : merkle_path) : er x.v = x.v := rfl
theorem merkle_path.len (x : merkle_path) : x.c.length = 2 := rfl
theorem merkle_path.one (x : merkle_path) : oneCells x.c = true := rfl
theorem merkle_path.pc (x : merkle_path) : pclean x.v = true := by simp [merkle_path.v, merkle_path.c, pclean, pcleanL, pclean_lv, pclean_lstr, pclean_liv, pclean_lint, pclean_lbool, iv, Digest.pc]
attribute [go_sem] merkle_path.nr merkle_path.er_ merkle_path.cells merkle_path.len merkle_path.one merkle_path.pc
structure ref13_Got where
  A : Attr
  Is : Bool
  deriving DecidableEq
def ref13_Got.c (x : ref13_Got) : List V := [.str x.A.Name, .int .i64 x.A.Kind, .int .i64 x.A.N, .str x.A.S, .bool x.Is]
def ref13_Got.v (x : ref13_Got) : V := .agg x.c
theorem ref13_Got.cells (x : ref13_Got) : ((ref13_Got.v x).cells) = x.c := rfl
theorem ref13_Got.nr (x : ref13_Got) : notRaw x.v = true := rfl
theorem ref13_Got.er_ (x : ref13_Got) : er x.v = x.v := rfl
theorem ref13_Got.len (x : ref13_Got) : x.c.length = 5 := rfl
theorem ref13_Got.one (x : ref13_Got) : oneCells x.c = true := rfl
theorem ref13_Got.pc (x : ref13_Got) : pclean x.v = true := by simp [ref13_Got.v, ref13_Got.c, pclean, pcleanL, pclean_lv, pclean_lstr, pclean_liv, pclean_lint, pclean_lbool, iv, Attr.pc]
attribute [go_sem] ref13_Got.nr ref13_Got.er_ ref13_Got.cells ref13_Got.len ref13_Got.one ref13_Got.pc
structure ref19_days where
  from_ : Int
  to : Int
  deriving DecidableEq
def ref19_days.c (x : ref19_days) : List V := [.int .i64 x.from_, .int .i64 x.to]
def ref19_days.v (x : ref19_days) : V := .agg x.c
theorem ref19_days.cells (x : ref19_days) : ((ref19_days.v x).cells) = x.c := rfl
theorem ref19_days.nr (x : ref19_days) : notRaw x.v = true := rfl
theorem ref19_days.er_ (x : ref19_days) : er x.v = x.v := rfl
theorem ref19_days.len (x : ref19_days) : x.c.length = 2 := rfl
theorem ref19_days.one (x : ref19_days) : oneCells x.c = true := rfl
theorem ref19_days.pc (x : ref19_days) : pclean x.v = true := by simp [ref19_days.v, ref19_days.c, pclean, pcleanL, pclean_lv, pclean_lstr, pclean_liv, pclean_lint, pclean_lbool, iv]
attribute [go_sem] ref19_days.nr ref19_days.er_ ref19_days.cells ref19_days.len ref19_days.one ref19_days.pc
@[go_sem] theorem sz3 : szT Tryz.prog 3 = some 1 := by kernel_rfl
@[go_sem] theorem ag3 : isAggT Tryz.prog 3 = some false := by kernel_rfl
@[go_sem] theorem by3 : bytesT Tryz.prog 3 = some 8 := by kernel_rfl
@[go_sem] theorem un3 : Tryz.prog.underlying 3 = some (.int .i64) := by kernel_rfl
@[go_sem] theorem sz4 : szT Tryz.prog 4 = some 1 := by kernel_rfl
@[go_sem] theorem ag4 : isAggT Tryz.prog 4 = some false := by kernel_rfl
@[go_sem] theorem by4 : bytesT Tryz.prog 4 = some 1 := by kernel_rfl
@[go_sem] theorem un4 : Tryz.prog.underlying 4 = some .bool := by kernel_rfl
@[go_sem] theorem sz9 : szT Tryz.prog 9 = some 1 := by kernel_rfl
@[go_sem] theorem ag9 : isAggT Tryz.prog 9 = some false := by kernel_rfl
@[go_sem] theorem by9 : bytesT Tryz.prog 9 = some 16 := by kernel_rfl
@[go_sem] theorem is9 : isStrT Tryz.prog 9 = true := by kernel_rfl
@[go_sem] theorem un9 : Tryz.prog.underlying 9 = some .string := by kernel_rfl
@[go_sem] theorem sz47 : szT Tryz.prog 47 = some 1 := by kernel_rfl
@[go_sem] theorem ag47 : isAggT Tryz.prog 47 = some false := by kernel_rfl
@[go_sem] theorem by47 : bytesT Tryz.prog 47 = some 24 := by kernel_rfl
@[go_sem] theorem is47 : isSliceT Tryz.prog 47 = true := by kernel_rfl
@[go_sem] theorem el47 : elemT Tryz.prog 47 = some 49 := by kernel_rfl
@[go_sem] theorem un47 : Tryz.prog.underlying 47 = some (.slice 49) := by kernel_rfl
@[go_sem] theorem sz49 : szT Tryz.prog 49 = some 6 := by kernel_rfl
@[go_sem] theorem ag49 : isAggT Tryz.prog 49 = some true := by kernel_rfl
@[go_sem] theorem by49 : bytesT Tryz.prog 49 = some 80 := by kernel_rfl
@[go_sem] theorem fa49_0 : fieldT Tryz.prog 49 0 = some (0, 3) := by kernel_rfl
@[go_sem] theorem fa49_1 : fieldT Tryz.prog 49 1 = some (1, 9) := by kernel_rfl
@[go_sem] theorem fa49_2 : fieldT Tryz.prog 49 2 = some (2, 3) := by kernel_rfl
@[go_sem] theorem fa49_3 : fieldT Tryz.prog 49 3 = some (3, 3) := by kernel_rfl
@[go_sem] theorem fa49_4 : fieldT Tryz.prog 49 4 = some (4, 9) := by kernel_rfl
@[go_sem] theorem fa49_5 : fieldT Tryz.prog 49 5 = some (5, 47) := by kernel_rfl
@[go_sem] theorem Pred.ld0_49 : ∀ x : Pred, ldT Tryz.prog 49 x.c 0 = some (Pred.v x) := fun x => by kernel_rfl
@[go_sem] theorem Pred.ld0_3 : ∀ x : Pred, ldT Tryz.prog 3 x.c 0 = some (.int .i64 x.Op) := fun x => by kernel_rfl
@[go_sem] theorem Pred.ld1_9 : ∀ x : Pred, ldT Tryz.prog 9 x.c 1 = some (.str x.Name) := fun x => by kernel_rfl
@[go_sem] theorem Pred.ld2_3 : ∀ x : Pred, ldT Tryz.prog 3 x.c 2 = some (.int .i64 x.N) := fun x => by kernel_rfl
@[go_sem] theorem Pred.ld3_3 : ∀ x : Pred, ldT Tryz.prog 3 x.c 3 = some (.int .i64 x.M) := fun x => by kernel_rfl
@[go_sem] theorem Pred.ld4_9 : ∀ x : Pred, ldT Tryz.prog 9 x.c 4 = some (.str x.S) := fun x => by kernel_rfl
@[go_sem] theorem Pred.ld5_47 : ∀ x : Pred, ldT Tryz.prog 47 x.c 5 = some (lv Pred.v x.Subs) := fun x => by rw [← Pred.vr_map]; kernel_rfl
end Sh
