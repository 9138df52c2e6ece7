/- Part of the proof of a law: ShR Am13 ShC ShI ShJ ShB. -/
import Derived.KernelRfl
import Derived.Test.YteniejlbjfigdaaGreatDoorW08
import Derived.Test.YteniejlbjfigdaaGreatDoorW14
set_option linter.all false
set_option linter.unusedSimpArgs false
set_option linter.unusedSectionVars false
section
open Go Go.Proofs Aq
namespace Sh
set_option maxRecDepth 100000
def Pred.re (x : Pred) : Pred := ⟨x.Op, x.Name, x.N, x.M, x.S, x.Subs⟩
theorem Pred.re_eq (x : Pred) : x.re = x := by cases x; rfl
def rT : Nat → Type
  | 0 => Def
  | 1 => Schema
  | 2 => Attr
  | 3 => Entry
  | 4 => Row
  | 5 => Book
  | 6 => Digest
  | 7 => Gone
  | 8 => Pred
  | 9 => Law
  | 10 => ref21_Kept
  | 11 => Snapshot
  | 12 => ref21_Path
  | 13 => Event
  | 14 => Query
  | 15 => Hit
  | 16 => ref19_Folded
  | 17 => ref03_Path
  | 18 => ref19_Booked
  | 19 => merkle_path
  | 20 => ref13_Got
  | 21 => ref19_days
  | _ + 22 => Unit
def rd : (n : Nat) → rT n
  | 0 => (⟨[], 0, 0, 0, []⟩ : Def)
  | 1 => (⟨0, 0, []⟩ : Schema)
  | 2 => (⟨[], 0, 0, []⟩ : Attr)
  | 3 => (⟨0, 0, 0, 0, 0, 0, 0, [], []⟩ : Entry)
  | 4 => (⟨⟨0, 0, 0, 0, 0, 0, 0, [], []⟩, 0⟩ : Row)
  | 5 => (⟨⟨0, 0, []⟩, 0, 0, [], []⟩ : Book)
  | 6 => (⟨0, 0, 0, 0, 0, 0, 0, 0, 0, 0, 0, 0, 0, 0, 0, 0⟩ : Digest)
  | 7 => (⟨0, 0, 0, 0, ⟨0, 0, 0, 0, 0, 0, 0, 0, 0, 0, 0, 0, 0, 0, 0, 0⟩⟩ : Gone)
  | 8 => (⟨0, [], 0, 0, [], []⟩ : Pred)
  | 9 => (⟨[], ⟨0, [], 0, 0, [], []⟩, 0⟩ : Law)
  | 10 => (⟨⟨⟨0, 0, []⟩, 0, 0, [], []⟩, [], 0⟩ : ref21_Kept)
  | 11 => (⟨0, 0⟩ : Snapshot)
  | 12 => (⟨[], 0⟩ : ref21_Path)
  | 13 => (⟨0, 0, 0, 0, 0, 0, 0, [], [], ⟨0, 0, 0, 0, 0, 0, 0, 0, 0, 0, 0, 0, 0, 0, 0, 0⟩⟩ : Event)
  | 14 => (⟨[], 0, 0, ⟨0, [], 0, 0, [], []⟩, ⟨0, 0⟩, 0⟩ : Query)
  | 15 => (⟨0, 0, 0⟩ : Hit)
  | 16 => (⟨⟨⟨0, 0, []⟩, 0, 0, [], []⟩, 0, 0⟩ : ref19_Folded)
  | 17 => (⟨[], 0⟩ : ref03_Path)
  | 18 => (⟨⟨⟨0, 0, []⟩, 0, 0, [], []⟩, 0⟩ : ref19_Booked)
  | 19 => (⟨[], false⟩ : merkle_path)
  | 20 => (⟨⟨[], 0, 0, []⟩, false⟩ : ref13_Got)
  | 21 => (⟨0, 0⟩ : ref19_days)
  | _ + 22 => ()
def rlf : Nat → List Ty
  | 0 => [.str, .int .i64, .int .i64, .int .i64, .slice .str]
  | 1 => [.int .i64, .int .i64, .slice (.st 0)]
  | 2 => [.str, .int .i64, .int .i64, .str]
  | 3 => [.int .i64, .int .i64, .int .i64, .int .i64, .int .i64, .int .i64, .int .i64, .slice (.int .i64), .slice (.st 2)]
  | 4 => [.int .i64, .int .i64, .int .i64, .int .i64, .int .i64, .int .i64, .int .i64, .slice (.int .i64), .slice (.st 2), .int .i64]
  | 5 => [.int .i64, .int .i64, .slice (.st 0), .int .i64, .int .i64, .slice (.int .i64), .slice (.st 4)]
  | 6 => [.int .u8, .int .u8, .int .u8, .int .u8, .int .u8, .int .u8, .int .u8, .int .u8, .int .u8, .int .u8, .int .u8, .int .u8, .int .u8, .int .u8, .int .u8, .int .u8]
  | 7 => [.int .i64, .int .i64, .int .i64, .int .i64, .int .u8, .int .u8, .int .u8, .int .u8, .int .u8, .int .u8, .int .u8, .int .u8, .int .u8, .int .u8, .int .u8, .int .u8, .int .u8, .int .u8, .int .u8, .int .u8]
  | 8 => [.int .i64, .str, .int .i64, .int .i64, .str, .slice (.st 8)]
  | 9 => [.str, .int .i64, .str, .int .i64, .int .i64, .str, .slice (.st 8), .int .i64]
  | 10 => [.int .i64, .int .i64, .slice (.st 0), .int .i64, .int .i64, .slice (.int .i64), .slice (.st 4), .slice (.st 7), .int .i64]
  | 11 => [.int .i64, .int .i64]
  | 12 => [.slice (.st 6), .int .i64]
  | 13 => [.int .i64, .int .i64, .int .i64, .int .i64, .int .i64, .int .i64, .int .i64, .slice (.int .i64), .slice (.st 2), .int .u8, .int .u8, .int .u8, .int .u8, .int .u8, .int .u8, .int .u8, .int .u8, .int .u8, .int .u8, .int .u8, .int .u8, .int .u8, .int .u8, .int .u8, .int .u8]
  | 14 => [.slice (.int .i64), .int .i64, .int .i64, .int .i64, .str, .int .i64, .int .i64, .str, .slice (.st 8), .int .i64, .int .i64, .int .i64]
  | 15 => [.int .i64, .int .i64, .int .i64]
  | 16 => [.int .i64, .int .i64, .slice (.st 0), .int .i64, .int .i64, .slice (.int .i64), .slice (.st 4), .int .i64, .int .i64]
  | 17 => [.slice (.st 6), .int .i64]
  | 18 => [.int .i64, .int .i64, .slice (.st 0), .int .i64, .int .i64, .slice (.int .i64), .slice (.st 4), .int .i64]
  | 19 => [.slice (.st 6), .bool]
  | 20 => [.str, .int .i64, .int .i64, .str, .bool]
  | 21 => [.int .i64, .int .i64]
  | _ + 22 => []
def rto : (n : Nat) → PayT rT (rlf n) → rT n
  | 0 => fun p => (⟨p.1, p.2.1, p.2.2.1, p.2.2.2.1, p.2.2.2.2⟩ : Def)
  | 1 => fun p => (⟨p.1, p.2.1, p.2.2⟩ : Schema)
  | 2 => fun p => (⟨p.1, p.2.1, p.2.2.1, p.2.2.2⟩ : Attr)
  | 3 => fun p => (⟨p.1, p.2.1, p.2.2.1, p.2.2.2.1, p.2.2.2.2.1, p.2.2.2.2.2.1, p.2.2.2.2.2.2.1, p.2.2.2.2.2.2.2.1, p.2.2.2.2.2.2.2.2⟩ : Entry)
  | 4 => fun p => (⟨⟨p.1, p.2.1, p.2.2.1, p.2.2.2.1, p.2.2.2.2.1, p.2.2.2.2.2.1, p.2.2.2.2.2.2.1, p.2.2.2.2.2.2.2.1, p.2.2.2.2.2.2.2.2.1⟩, p.2.2.2.2.2.2.2.2.2⟩ : Row)
  | 5 => fun p => (⟨⟨p.1, p.2.1, p.2.2.1⟩, p.2.2.2.1, p.2.2.2.2.1, p.2.2.2.2.2.1, p.2.2.2.2.2.2⟩ : Book)
  | 6 => fun p => (⟨p.1, p.2.1, p.2.2.1, p.2.2.2.1, p.2.2.2.2.1, p.2.2.2.2.2.1, p.2.2.2.2.2.2.1, p.2.2.2.2.2.2.2.1, p.2.2.2.2.2.2.2.2.1, p.2.2.2.2.2.2.2.2.2.1, p.2.2.2.2.2.2.2.2.2.2.1, p.2.2.2.2.2.2.2.2.2.2.2.1, p.2.2.2.2.2.2.2.2.2.2.2.2.1, p.2.2.2.2.2.2.2.2.2.2.2.2.2.1, p.2.2.2.2.2.2.2.2.2.2.2.2.2.2.1, p.2.2.2.2.2.2.2.2.2.2.2.2.2.2.2⟩ : Digest)
  | 7 => fun p => (⟨p.1, p.2.1, p.2.2.1, p.2.2.2.1, ⟨p.2.2.2.2.1, p.2.2.2.2.2.1, p.2.2.2.2.2.2.1, p.2.2.2.2.2.2.2.1, p.2.2.2.2.2.2.2.2.1, p.2.2.2.2.2.2.2.2.2.1, p.2.2.2.2.2.2.2.2.2.2.1, p.2.2.2.2.2.2.2.2.2.2.2.1, p.2.2.2.2.2.2.2.2.2.2.2.2.1, p.2.2.2.2.2.2.2.2.2.2.2.2.2.1, p.2.2.2.2.2.2.2.2.2.2.2.2.2.2.1, p.2.2.2.2.2.2.2.2.2.2.2.2.2.2.2.1, p.2.2.2.2.2.2.2.2.2.2.2.2.2.2.2.2.1, p.2.2.2.2.2.2.2.2.2.2.2.2.2.2.2.2.2.1, p.2.2.2.2.2.2.2.2.2.2.2.2.2.2.2.2.2.2.1, p.2.2.2.2.2.2.2.2.2.2.2.2.2.2.2.2.2.2.2⟩⟩ : Gone)
  | 8 => fun p => (⟨p.1, p.2.1, p.2.2.1, p.2.2.2.1, p.2.2.2.2.1, p.2.2.2.2.2⟩ : Pred)
  | 9 => fun p => (⟨p.1, ⟨p.2.1, p.2.2.1, p.2.2.2.1, p.2.2.2.2.1, p.2.2.2.2.2.1, p.2.2.2.2.2.2.1⟩, p.2.2.2.2.2.2.2⟩ : Law)
  | 10 => fun p => (⟨⟨⟨p.1, p.2.1, p.2.2.1⟩, p.2.2.2.1, p.2.2.2.2.1, p.2.2.2.2.2.1, p.2.2.2.2.2.2.1⟩, p.2.2.2.2.2.2.2.1, p.2.2.2.2.2.2.2.2⟩ : ref21_Kept)
  | 11 => fun p => (⟨p.1, p.2⟩ : Snapshot)
  | 12 => fun p => (⟨p.1, p.2⟩ : ref21_Path)
  | 13 => fun p => (⟨p.1, p.2.1, p.2.2.1, p.2.2.2.1, p.2.2.2.2.1, p.2.2.2.2.2.1, p.2.2.2.2.2.2.1, p.2.2.2.2.2.2.2.1, p.2.2.2.2.2.2.2.2.1, ⟨p.2.2.2.2.2.2.2.2.2.1, p.2.2.2.2.2.2.2.2.2.2.1, p.2.2.2.2.2.2.2.2.2.2.2.1, p.2.2.2.2.2.2.2.2.2.2.2.2.1, p.2.2.2.2.2.2.2.2.2.2.2.2.2.1, p.2.2.2.2.2.2.2.2.2.2.2.2.2.2.1, p.2.2.2.2.2.2.2.2.2.2.2.2.2.2.2.1, p.2.2.2.2.2.2.2.2.2.2.2.2.2.2.2.2.1, p.2.2.2.2.2.2.2.2.2.2.2.2.2.2.2.2.2.1, p.2.2.2.2.2.2.2.2.2.2.2.2.2.2.2.2.2.2.1, p.2.2.2.2.2.2.2.2.2.2.2.2.2.2.2.2.2.2.2.1, p.2.2.2.2.2.2.2.2.2.2.2.2.2.2.2.2.2.2.2.2.1, p.2.2.2.2.2.2.2.2.2.2.2.2.2.2.2.2.2.2.2.2.2.1, p.2.2.2.2.2.2.2.2.2.2.2.2.2.2.2.2.2.2.2.2.2.2.1, p.2.2.2.2.2.2.2.2.2.2.2.2.2.2.2.2.2.2.2.2.2.2.2.1, p.2.2.2.2.2.2.2.2.2.2.2.2.2.2.2.2.2.2.2.2.2.2.2.2⟩⟩ : Event)
  | 14 => fun p => (⟨p.1, p.2.1, p.2.2.1, ⟨p.2.2.2.1, p.2.2.2.2.1, p.2.2.2.2.2.1, p.2.2.2.2.2.2.1, p.2.2.2.2.2.2.2.1, p.2.2.2.2.2.2.2.2.1⟩, ⟨p.2.2.2.2.2.2.2.2.2.1, p.2.2.2.2.2.2.2.2.2.2.1⟩, p.2.2.2.2.2.2.2.2.2.2.2⟩ : Query)
  | 15 => fun p => (⟨p.1, p.2.1, p.2.2⟩ : Hit)
  | 16 => fun p => (⟨⟨⟨p.1, p.2.1, p.2.2.1⟩, p.2.2.2.1, p.2.2.2.2.1, p.2.2.2.2.2.1, p.2.2.2.2.2.2.1⟩, p.2.2.2.2.2.2.2.1, p.2.2.2.2.2.2.2.2⟩ : ref19_Folded)
  | 17 => fun p => (⟨p.1, p.2⟩ : ref03_Path)
  | 18 => fun p => (⟨⟨⟨p.1, p.2.1, p.2.2.1⟩, p.2.2.2.1, p.2.2.2.2.1, p.2.2.2.2.2.1, p.2.2.2.2.2.2.1⟩, p.2.2.2.2.2.2.2⟩ : ref19_Booked)
  | 19 => fun p => (⟨p.1, p.2⟩ : merkle_path)
  | 20 => fun p => (⟨⟨p.1, p.2.1, p.2.2.1, p.2.2.2.1⟩, p.2.2.2.2⟩ : ref13_Got)
  | 21 => fun p => (⟨p.1, p.2⟩ : ref19_days)
  | _ + 22 => fun _ => ()
def rof : (n : Nat) → rT n → PayT rT (rlf n)
  | 0 => fun (x : Def) => (x.Name, x.Kind, x.Lo, x.Hi, x.Words)
  | 1 => fun (x : Schema) => (x.Dims, x.Metric, x.Defs)
  | 2 => fun (x : Attr) => (x.Name, x.Kind, x.N, x.S)
  | 3 => fun (x : Entry) => (x.ID, x.Ver, x.Owner, x.Filed, x.From, x.To, x.Born, x.Vec, x.Attrs)
  | 4 => fun (x : Row) => (x.Entry.ID, x.Entry.Ver, x.Entry.Owner, x.Entry.Filed, x.Entry.From, x.Entry.To, x.Entry.Born, x.Entry.Vec, x.Entry.Attrs, x.Died)
  | 5 => fun (x : Book) => (x.Schema.Dims, x.Schema.Metric, x.Schema.Defs, x.Commit, x.Day, x.Days, x.Rows)
  | 6 => fun (x : Digest) => (x.b0, x.b1, x.b2, x.b3, x.b4, x.b5, x.b6, x.b7, x.b8, x.b9, x.b10, x.b11, x.b12, x.b13, x.b14, x.b15)
  | 7 => fun (x : Gone) => (x.ID, x.Ver, x.Born, x.Died, x.Leaf.b0, x.Leaf.b1, x.Leaf.b2, x.Leaf.b3, x.Leaf.b4, x.Leaf.b5, x.Leaf.b6, x.Leaf.b7, x.Leaf.b8, x.Leaf.b9, x.Leaf.b10, x.Leaf.b11, x.Leaf.b12, x.Leaf.b13, x.Leaf.b14, x.Leaf.b15)
  | 8 => fun (x : Pred) => (x.Op, x.Name, x.N, x.M, x.S, x.Subs)
  | 9 => fun (x : Law) => (x.Name, x.Where.Op, x.Where.Name, x.Where.N, x.Where.M, x.Where.S, x.Where.Subs, x.Days)
  | 10 => fun (x : ref21_Kept) => (x.B.Schema.Dims, x.B.Schema.Metric, x.B.Schema.Defs, x.B.Commit, x.B.Day, x.B.Days, x.B.Rows, x.L, x.E)
  | 11 => fun (x : Snapshot) => (x.Day, x.Commit)
  | 12 => fun (x : ref21_Path) => (x.L, x.E)
  | 13 => fun (x : Event) => (x.Kind, x.Commit, x.Day, x.ID, x.Owner, x.Until, x.From, x.Vec, x.Attrs, x.Nonce.b0, x.Nonce.b1, x.Nonce.b2, x.Nonce.b3, x.Nonce.b4, x.Nonce.b5, x.Nonce.b6, x.Nonce.b7, x.Nonce.b8, x.Nonce.b9, x.Nonce.b10, x.Nonce.b11, x.Nonce.b12, x.Nonce.b13, x.Nonce.b14, x.Nonce.b15)
  | 14 => fun (x : Query) => (x.Vec, x.K, x.Within, x.Where.Op, x.Where.Name, x.Where.N, x.Where.M, x.Where.S, x.Where.Subs, x.At.Day, x.At.Commit, x.Budget)
  | 15 => fun (x : Hit) => (x.ID, x.Ver, x.Key)
  | 16 => fun (x : ref19_Folded) => (x.B.Schema.Dims, x.B.Schema.Metric, x.B.Schema.Defs, x.B.Commit, x.B.Day, x.B.Days, x.B.Rows, x.N, x.E)
  | 17 => fun (x : ref03_Path) => (x.L, x.E)
  | 18 => fun (x : ref19_Booked) => (x.B.Schema.Dims, x.B.Schema.Metric, x.B.Schema.Defs, x.B.Commit, x.B.Day, x.B.Days, x.B.Rows, x.E)
  | 19 => fun (x : merkle_path) => (x.l, x.short)
  | 20 => fun (x : ref13_Got) => (x.A.Name, x.A.Kind, x.A.N, x.A.S, x.Is)
  | 21 => fun (x : ref19_days) => (x.from_, x.to)
  | _ + 22 => fun _ => ()
def renc : (n : Nat) → rT n → V
  | 0 => fun (x : Def) => Def.v x
  | 1 => fun (x : Schema) => Schema.v x
  | 2 => fun (x : Attr) => Attr.v x
  | 3 => fun (x : Entry) => Entry.v x
  | 4 => fun (x : Row) => Row.v x
  | 5 => fun (x : Book) => Book.v x
  | 6 => fun (x : Digest) => Digest.v x
  | 7 => fun (x : Gone) => Gone.v x
  | 8 => fun (x : Pred) => Pred.v x
  | 9 => fun (x : Law) => Law.v x
  | 10 => fun (x : ref21_Kept) => ref21_Kept.v x
  | 11 => fun (x : Snapshot) => Snapshot.v x
  | 12 => fun (x : ref21_Path) => ref21_Path.v x
  | 13 => fun (x : Event) => Event.v x
  | 14 => fun (x : Query) => Query.v x
  | 15 => fun (x : Hit) => Hit.v x
  | 16 => fun (x : ref19_Folded) => ref19_Folded.v x
  | 17 => fun (x : ref03_Path) => ref03_Path.v x
  | 18 => fun (x : ref19_Booked) => ref19_Booked.v x
  | 19 => fun (x : merkle_path) => merkle_path.v x
  | 20 => fun (x : ref13_Got) => ref13_Got.v x
  | 21 => fun (x : ref19_days) => ref19_days.v x
  | _ + 22 => fun _ => .agg []
def rty : List (Nat × Ty) := [(2, .int .i64), (3, .int .i64), (4, .bool), (5, .int .u8), (6, .int .u8), (9, .str), (10, .str), (11, .str), (12, .int .u64), (21, .int .i32), (22, .slice (.st 0)), (24, .st 1), (25, .slice (.st 9)), (26, .slice (.st 13)), (27, .slice (.int .i64)), (28, .slice (.st 4)), (30, .st 5), (35, .int .i64), (39, .slice (.st 7)), (44, .st 6), (46, .st 7), (47, .slice (.st 8)), (49, .st 8), (51, .st 9), (55, .st 10), (61, .st 11), (63, .slice (.st 2)), (65, .st 3), (67, .st 4), (70, .slice (.st 6)), (74, .st 12), (80, .st 13), (83, .slice (.st 3)), (88, .st 14), (92, .slice (.st 15)), (96, .st 15), (102, .st 16), (119, .slice .str), (121, .st 0), (124, .slice (.int .u8)), (129, .st 17), (132, .slice (.st 2)), (153, .st 18), (181, .st 19), (187, .st 2), (216, .st 20), (218, .int .u32), (221, .int .u64), (231, .int .u64), (254, .slice (.st 21)), (256, .st 21), (261, .slice (.slice (.int .i64))), (263, .slice (.slice (.int .u8))), (280, .slice (.int .u32)), (283, .int .i64), (292, .int .u64), (307, .int .u8), (308, .int .u8), (311, .int .i32), (312, .int .i32)]
def R : Reg := { T := rT, d := rd, lf := rlf, to := rto, of := rof, enc := renc, ty := fun t => look rty t }
theorem rOK : RegOK R where
  of_to := fun n p => by
    match n, p with
    | 0, p => exact rfl
    | 1, p => exact rfl
    | 2, p => exact rfl
    | 3, p => exact rfl
    | 4, p => exact rfl
    | 5, p => exact rfl
    | 6, p => exact rfl
    | 7, p => exact rfl
    | 8, p => exact rfl
    | 9, p => exact rfl
    | 10, p => exact rfl
    | 11, p => exact rfl
    | 12, p => exact rfl
    | 13, p => exact rfl
    | 14, p => exact rfl
    | 15, p => exact rfl
    | 16, p => exact rfl
    | 17, p => exact rfl
    | 18, p => exact rfl
    | 19, p => exact rfl
    | 20, p => exact rfl
    | 21, p => exact rfl
    | _ + 22, p => exact rfl
  enc := fun n x => by
    match n, x with
    | 0, x => exact rfl
    | 1, x => exact rfl
    | 2, x => exact rfl
    | 3, x => exact rfl
    | 4, x => exact rfl
    | 5, x => exact rfl
    | 6, x => exact rfl
    | 7, x => exact rfl
    | 8, x => exact (by show Pred.v x = _; unfold Pred.v Pred.c; simp only [Pred.vr_map]; rfl)
    | 9, x => exact (by show Law.v x = _; unfold Law.v Law.c; simp only [Pred.vr_map]; rfl)
    | 10, x => exact rfl
    | 11, x => exact rfl
    | 12, x => exact rfl
    | 13, x => exact rfl
    | 14, x => exact (by show Query.v x = _; unfold Query.v Query.c; simp only [Pred.vr_map]; rfl)
    | 15, x => exact rfl
    | 16, x => exact rfl
    | 17, x => exact rfl
    | 18, x => exact rfl
    | 19, x => exact rfl
    | 20, x => exact rfl
    | 21, x => exact rfl
    | _ + 22, x => exact rfl
  leaf := fun n => by
    match n with
    | 0 => exact rfl
    | 1 => exact rfl
    | 2 => exact rfl
    | 3 => exact rfl
    | 4 => exact rfl
    | 5 => exact rfl
    | 6 => exact rfl
    | 7 => exact rfl
    | 8 => exact rfl
    | 9 => exact rfl
    | 10 => exact rfl
    | 11 => exact rfl
    | 12 => exact rfl
    | 13 => exact rfl
    | 14 => exact rfl
    | 15 => exact rfl
    | 16 => exact rfl
    | 17 => exact rfl
    | 18 => exact rfl
    | 19 => exact rfl
    | 20 => exact rfl
    | 21 => exact rfl
    | _ + 22 => exact rfl
  pc := fun n x => by
    match n, x with
    | 0, x => exact Def.pc x
    | 1, x => exact Schema.pc x
    | 2, x => exact Attr.pc x
    | 3, x => exact Entry.pc x
    | 4, x => exact Row.pc x
    | 5, x => exact Book.pc x
    | 6, x => exact Digest.pc x
    | 7, x => exact Gone.pc x
    | 8, x => exact Pred.pc x
    | 9, x => exact Law.pc x
    | 10, x => exact ref21_Kept.pc x
    | 11, x => exact Snapshot.pc x
    | 12, x => exact ref21_Path.pc x
    | 13, x => exact Event.pc x
    | 14, x => exact Query.pc x
    | 15, x => exact Hit.pc x
    | 16, x => exact ref19_Folded.pc x
    | 17, x => exact ref03_Path.pc x
    | 18, x => exact ref19_Booked.pc x
    | 19, x => exact merkle_path.pc x
    | 20, x => exact ref13_Got.pc x
    | 21, x => exact ref19_days.pc x
    | _ + 22, x => exact (by simp [R, renc, pclean, pcleanL])
end Sh
end
section
namespace Aq
open Go
def bitAnd (k : IntKind) (x y : Int) : Int := k.wrap (BitVec.ofInt k.bits x &&& BitVec.ofInt k.bits y).toNat
def bitOr (k : IntKind) (x y : Int) : Int := k.wrap (BitVec.ofInt k.bits x ||| BitVec.ofInt k.bits y).toNat
def bitXor (k : IntKind) (x y : Int) : Int := k.wrap (BitVec.ofInt k.bits x ^^^ BitVec.ofInt k.bits y).toNat
def bitAndNot (k : IntKind) (x y : Int) : Int := k.wrap (BitVec.ofInt k.bits x &&& ~~~BitVec.ofInt k.bits y).toNat
def bitShl (k : IntKind) (x y : Int) : Int := k.wrap (x * 2 ^ min y.toNat k.bits)
def bitShr (k : IntKind) (x y : Int) : Int := x.fdiv (2 ^ min y.toNat k.bits)
section
variable {R : Reg} {E : Env}
def addF (f : Nat) (r : FR R) (F : Nat → List (FR R)) : Nat → List (FR R) := fun g => bif Nat.beq g f then r :: F g else F g
theorem addF_ok {f : Nat} {r : FR R} {F : Nat → List (FR R)} (hF : RegsOK E F) (h : ∀ p x, r.F p = some x → Pure E f (encSL R r.args p) (retV (encSL R r.res x))) : RegsOK E (addF f r F) := by
  intro g q hq p x hx
  unfold addF at hq
  cases hb : Nat.beq g f
  · rw [hb] at hq; exact hF g q hq p x hx
  · rw [hb, cond_true] at hq
    rcases List.mem_cons.1 hq with rfl | hq
    · rw [nbeq_t hb]; exact h p x hx
    · exact hF g q hq p x hx
def noF : Nat → List (FR R) := fun _ => []
def noI : Nat → List (FI R) := fun _ => []
theorem noI_ok : ItersOK E (noI (R := R)) := fun _ _ h => by cases h
def addI (g : Nat) (i : FI R) (I : Nat → List (FI R)) : Nat → List (FI R) := fun f => bif Nat.beq f g then i :: I f else I f
theorem addI_ok {g : Nat} {i : FI R} {I : Nat → List (FI R)} (hI : ItersOK E I) (h : E.imp g = true ∧ ∀ pa pb xs, i.F pa pb = some xs → IterOK E g (encSL R i.a pa) (encSL R i.b pb) (xs.map (encSL R i.el))) : ItersOK E (addI g i I) := by
  intro f q hq
  unfold addI at hq
  cases hb : Nat.beq f g
  · rw [hb] at hq; exact hI f q hq
  · rw [hb, cond_true] at hq
    rcases List.mem_cons.1 hq with rfl | hq
    · rw [nbeq_t hb]; exact h
    · exact hI f q hq
theorem noF_ok : RegsOK E (noF (R := R)) := fun _ _ h => by cases h
end
def rndM (E : Env) (R : Reg) (n : Nat) (om : Bool) (F : Nat → List (FR R)) (I : Nat → List (FI R)) (A : Ann) (c : Option Code) (el : List Sk) {β : Type} (x : PayL R.T el) (st : MS R.T) (k : Ex → MS R.T → Option β) : Option β := match c with
  | some (.rangeFunc _ ps a c) => match putPs st ps.toList (upL R .sh el x) with
    | some st => codeM E R n om F I A a st fun e st => match e with
      | .normal => codeM E R n om F I A c st k
      | _ => none
    | none => none
  | _ => none
def wrR (c : Option Code) : List Nat := match c with
  | some (.rangeFunc _ ps a c) => ps.toList ++ wrC a ++ wrC c
  | _ => []
section
variable (R : Reg)
mutual
def dflS : (k : Sk) → PayS R.T k
  | .d t => dfl R t
  | .l _ t => ([] : List (Den R.T t))
  | .agg l => dflL l
  | .ref _ _ => ()
  | .cref l _ => dflL l
  | .mapr _ => ()
  | .mapc k e => ([] : List (Den R.T k × Den R.T e))
  | .fn _ a b => (dflL a, dflL b)
  | .nils => ()
  | .vw _ _ => ()
  | .undef => ()
def dflL : (l : List Sk) → PayL R.T l
  | [] => ()
  | [k] => dflS k
  | k :: h :: l => (dflS k, dflL (h :: l))
end
end
end Aq
end
section
open Go Go.Proofs Aq
namespace Sh
def hashK : List V := [.int .u32 1116352408, .int .u32 1899447441, .int .u32 3049323471, .int .u32 3921009573, .int .u32 961987163, .int .u32 1508970993, .int .u32 2453635748, .int .u32 2870763221, .int .u32 3624381080, .int .u32 310598401, .int .u32 607225278, .int .u32 1426881987, .int .u32 1925078388, .int .u32 2162078206, .int .u32 2614888103, .int .u32 3248222580, .int .u32 3835390401, .int .u32 4022224774, .int .u32 264347078, .int .u32 604807628, .int .u32 770255983, .int .u32 1249150122, .int .u32 1555081692, .int .u32 1996064986, .int .u32 2554220882, .int .u32 2821834349, .int .u32 2952996808, .int .u32 3210313671, .int .u32 3336571891, .int .u32 3584528711, .int .u32 113926993, .int .u32 338241895, .int .u32 666307205, .int .u32 773529912, .int .u32 1294757372, .int .u32 1396182291, .int .u32 1695183700, .int .u32 1986661051, .int .u32 2177026350, .int .u32 2456956037, .int .u32 2730485921, .int .u32 2820302411, .int .u32 3259730800, .int .u32 3345764771, .int .u32 3516065817, .int .u32 3600352804, .int .u32 4094571909, .int .u32 275423344, .int .u32 430227734, .int .u32 506948616, .int .u32 659060556, .int .u32 883997877, .int .u32 958139571, .int .u32 1322822218, .int .u32 1537002063, .int .u32 1747873779, .int .u32 1955562222, .int .u32 2024104815, .int .u32 2227730452, .int .u32 2361852424, .int .u32 2428436474, .int .u32 2756734187, .int .u32 3204031479, .int .u32 3329325298]
def globS (g : Nat) : Option (List V) := bif Nat.beq g 1 then some hashK else none
end Sh
end
section
open Go Go.Proofs Aq
namespace Sh
set_option maxRecDepth 100000
set_option linter.unusedSimpArgs false
set_option linter.unusedVariables false
def sanT : List V → Option V
  | [] => some (.bool true)
  | _ :: _ => none
noncomputable def E : Env := { P := Tryz.prog, glob := globS, imp := fun f => Nat.beq f 152 || Nat.beq f 153, om := fun f => Nat.beq f 146 || Nat.beq f 195, summ := fun f => bif Nat.beq f 11 then some sanT else none }
mutual
def pre : Pred → List Pred
  | ⟨op, name, n, m, s, subs⟩ => ⟨op, name, n, m, s, subs⟩ :: preL subs
def preL : List Pred → List Pred
  | [] => []
  | p :: ps => pre p ++ preL ps
end
theorem pre_eq (p : Pred) : pre p = p :: preL p.Subs := by cases p; simp [pre]
def yl (l : List Pred) : List (List V) := l.map fun q => [Pred.v q]
abbrev yv (l : Nat) : V := .fn (.yield l) [] []
def EachQ (d dd l : Nat) (σ : Sig) (J : List (List V) → Sig → Prop) (D : Sig → Prop) (L : List (List V)) (v : V) (σ' : Sig) : Prop :=
  σ.next ≤ σ'.next ∧ (∀ a o, d < a → a < dd → σ'.obj (a, o) = σ.obj (a, o)) ∧ (∀ s, s < σ.next → σ'.loops s = σ.loops s ∨ s = l) ∧ ((v = .bool true ∧ J L σ') ∨ (v = .bool false ∧ D σ'))
theorem EachQ.trans {d dd l : Nat} {σ σ1 : Sig} {J : List (List V) → Sig → Prop} {D : Sig → Prop} {L : List (List V)} {v : V} {σ' : Sig} (hn : σ.next ≤ σ1.next) (ho : ∀ a o, d < a → a < dd → σ1.obj (a, o) = σ.obj (a, o)) (hl : ∀ s, s < σ.next → σ1.loops s = σ.loops s ∨ s = l)
    (h : EachQ d dd l σ1 J D L v σ') : EachQ d dd l σ J D L v σ' := by
  obtain ⟨h1, h2, h3, h4⟩ := h
  refine ⟨Nat.le_trans hn h1, fun a o ha hb => (h2 a o ha hb).trans (ho a o ha hb), fun s hs => ?_, h4⟩
  rcases h3 s (Nat.lt_of_lt_of_le hs hn) with e | e
  · rcases hl s hs with e' | e'
    · exact .inl (e.trans e')
    · exact .inr e'
  · exact .inr e
theorem set_other {a o s b p : Nat} {σ : Sig} {x : AObj} (h : b ≠ a) : (σ.setObj (a, o) s x).obj (b, p) = σ.obj (b, p) := by
  show upd σ.obj (a, o) _ (b, p) = _
  unfold upd
  rw [if_neg]
  intro e
  exact h (congrArg Prod.fst e)
theorem cellsAt_obj {σ σ' : Sig} {loc : Aq.Loc} {s : Nat} (h : σ'.obj loc = σ.obj loc) : σ'.cellsAt loc s = σ.cellsAt loc s := by
  unfold Sig.cellsAt; rw [h]
end Sh
end
section
open Go Go.Proofs Aq
namespace Sh
set_option maxRecDepth 100000
set_option linter.unusedSimpArgs false
set_option linter.unusedVariables false
def Pg (d dd l : Nat) (σ σ' : Sig) : Prop := σ.next ≤ σ'.next ∧ (∀ a o, d < a → a < dd → σ'.obj (a, o) = σ.obj (a, o)) ∧ (∀ s, s < σ.next → σ'.loops s = σ.loops s ∨ s = l)
theorem Pg.trans {d dd l : Nat} {σ σ1 σ2 : Sig} (h : Pg d dd l σ σ1) (g : Pg d dd l σ1 σ2) : Pg d dd l σ σ2 := by
  refine ⟨Nat.le_trans h.1 g.1, fun a o ha hb => (g.2.1 a o ha hb).trans (h.2.1 a o ha hb), fun s hs => ?_⟩
  rcases g.2.2 s (Nat.lt_of_lt_of_le hs h.1) with e | e
  · rcases h.2.2 s hs with e' | e'
    · exact .inl (e.trans e')
    · exact .inr e'
  · exact .inr e
theorem Pg.refl {d dd l : Nat} {σ : Sig} : Pg d dd l σ σ := ⟨Nat.le_refl _, fun _ _ _ _ => rfl, fun _ _ => .inl rfl⟩
theorem Pg.bump {d dd l k : Nat} {σ : Sig} : Pg d dd l σ (σ.bump k) := ⟨Nat.le_add_right _ _, fun _ _ _ _ => rfl, fun _ _ => .inl rfl⟩
theorem Pg.set {d dd l o s : Nat} {σ : Sig} {x : AObj} : Pg d dd l σ (σ.setObj (dd, o) s x) := ⟨Nat.le_refl _, fun a o' _ hb => set_other (by omega), fun _ _ => .inl rfl⟩
theorem preL_len : ∀ l : List Pred, l.length ≤ (preL l).length
  | [] => by simp [preL]
  | p :: l => by have := preL_len l; rw [preL, pre_eq]; simp; omega
theorem preL_mem {q : Pred} : ∀ {l : List Pred}, q ∈ l → (pre q).length ≤ (preL l).length
  | p :: l, h => by
    rw [preL, List.length_append]
    rcases List.mem_cons.1 h with rfl | h
    · omega
    · have := preL_mem h; omega
theorem each_walk {d l : Nat} {J : List (List V) → Sig → Prop} {D : Sig → Prop} (hJ : ∀ xs σ σ', l < σ.next → J xs σ → Shift d σ σ' → J xs σ') (hD : ∀ σ σ', l < σ.next → D σ → Shift d σ σ' → D σ')
    (hr : ∀ x xs σ, l < σ.next → J (x :: xs) σ → ∃ c σ', Rnd E l x σ c σ' ∧ σ.next ≤ σ'.next ∧ (∀ a o, d < a → σ'.obj (a, o) = σ.obj (a, o)) ∧ (∀ s, s < σ.next → σ'.loops s = σ.loops s ∨ s = l) ∧ (c = true → J xs σ') ∧ (c = false → D σ')) :
    ∀ (g : Nat) (p : Pred), sizeOf p < g → (pre p).length < 2 ^ 62 → ∀ (dd : Nat) (σ : Sig) (L : List (List V)), d < dd → l < σ.next → J (yl (pre p) ++ L) σ → Imp E 153 [Pred.v p, yv l] dd σ (fun v σ' => Pg d dd l σ σ' ∧ ((v = .bool true ∧ J L σ') ∨ (v = .bool false ∧ D σ'))) := by
  intro g
  induction g with
  | zero => intro p hp; omega
  | succ g ih =>
  intro p hp hsz dd σ0 L hd hl hj
  -- the loop over the parts
  have stp : ∀ {σ : Sig} {x : AObj} {k o s : Nat}, Pg d dd l σ ((σ.bump k).setObj (dd, o) s x) := Pg.trans .bump .set
  -- one part
  have part : ∀ (fr : Fr) (σ : Sig) (s : Nat) (q : Pred) (xs : List (List V)) (Q : Ex → Fr → Sig → Prop), sizeOf q < g → (pre q).length < 2 ^ 62 → fr.d = dd → fr.tm 1 = yv l → fr.tm 6 = .ref (dd, 6) s 0 → σ.cellsAt (dd, 6) s = some q.c → l < σ.next → Pg d dd l σ0 σ → J (yl (pre q) ++ xs) σ →
      (∀ fr' σ', (∀ i, i < 18 → 6 < i → fr'.tm i = fr.tm i) → fr'.d = dd → fr'.tm 1 = yv l → l < σ'.next → Pg d dd l σ0 σ' → J xs σ' → Q .normal fr' σ') → (∀ fr' σ', fr'.tm 4 = .bool false → D σ' → Pg d dd l σ0 σ' → Q .ret fr' σ') →
      CW E ((subO Tryz.f153.body [1, 1, 0, 1, 0, 0, 1, 1, 0, 0, 1]).getD .skip) fr σ Q := by
    intro fr σ s q xs Q hq hqs h1 h2 h3 h4 hl hp hj hQ1 hQ2
    have hP : E.P = Tryz.prog := rfl
    refine CW.seq (CW.region ?_)
    refine OW.o1 (by rfl) (fun S => by simp only [go_sem, Nat.reduceBEq, Nat.reduceAdd, *]; with_reducible exact Is.rfl) ?_
    refine OW.o1 (by rfl) (fun S => by simp only [go_sem, Nat.reduceBEq, Nat.reduceAdd, *]; with_reducible exact Is.rfl) ?_
    refine OW.callI (g := 153) (a := []) (b := []) (by rfl) rfl rfl rfl rfl ?_
    rw [set_d, set_d, h1]
    change Imp E 153 [Pred.v q, yv l] (dd + 1) _ _
    obtain ⟨n, v, σ1, hn, hpg, hv⟩ := ih q hq hqs (dd + 1) (σ.bump 4) xs (by omega) (Nat.lt_of_lt_of_le hl (Nat.le_add_right _ _)) (hJ _ _ _ hl hj ⟨Nat.le_add_right _ _, fun _ _ => rfl, fun _ _ => rfl, fun _ _ _ => rfl⟩)
    have hpg' : Pg d dd l σ0 σ1 := hp.trans (Pg.trans .bump ⟨hpg.1, fun a o ha hb => hpg.2.1 a o ha (by omega), hpg.2.2⟩)
    have hl' : l < σ1.next := Nat.lt_of_lt_of_le hl (Nat.le_trans (Nat.le_add_right _ 4) hpg.1)
    refine ⟨n, v, σ1, hn, ?_⟩
    rcases hv with ⟨rfl, hj'⟩ | ⟨rfl, hd'⟩
    · refine OW.o1 (by rfl) (fun S => by simp only [go_sem, Nat.reduceBEq, Nat.reduceAdd, *]; with_reducible exact Is.rfl) ?_
      refine OW.nil (SeqQ.n ?_)
      refine CW.condF (by simp only [go_sem, Nat.reduceBEq, Nat.reduceAdd, *]; exact Is.rfl) ?_
      refine CW.skip (hQ1 _ _ (fun i h1 h2 => ?_) ?_ ?_ hl' hpg' hj')
      · simp only [put_some]
        rw [set_ne _ _ (by simp; omega), set_ne _ _ (by simp; omega), set_ne _ _ (by simp; omega), set_ne _ _ (by simp; omega)]
      · simp only [put_some, set_d, h1]
      · simp only [go_sem, Nat.reduceBEq, h2]
    · refine OW.o1 (by rfl) (fun S => by simp only [go_sem, Nat.reduceBEq, Nat.reduceAdd, *]; with_reducible exact Is.rfl) ?_
      refine OW.nil (SeqQ.n ?_)
      refine CW.condT (by simp only [go_sem, Nat.reduceBEq, Nat.reduceAdd, *]; exact Is.rfl) ?_
      refine CW.seq (CW.region ?_)
      refine OW.o1 (by rfl) (fun S => by simp only [go_sem, Nat.reduceBEq, Nat.reduceAdd, *]; with_reducible exact Is.rfl) ?_
      refine OW.nil (SeqQ.n (CW.ret (hQ2 _ _ ?_ ?_ (hpg'.trans .bump))))
      · simp only [go_sem, Nat.reduceBEq]
      · exact hD _ _ hl' hd' ⟨Nat.le_add_right _ _, fun _ _ => rfl, fun _ _ => rfl, fun _ _ _ => rfl⟩
  have loop : ∀ (k i : Nat) (fr : Fr) (σ : Sig), i + k = p.Subs.length → fr.d = dd → fr.tm 1 = yv l → fr.tm 12 = lv Pred.v p.Subs → fr.tm 13 = .int .i64 (p.Subs.length : Nat) → fr.tm 14 = .int .i64 (i : Nat) → p.Subs.length < 2 ^ 62 → l < σ.next → Pg d dd l σ0 σ → J (yl (preL (p.Subs.drop i)) ++ L) σ →
      CW E ((subO Tryz.f153.body [1, 1, 0, 1, 0]).getD .skip) fr σ (fun e fr' σ' => (e = .exit 0 ∧ J L σ' ∧ Pg d dd l σ0 σ') ∨ (e = .ret ∧ fr'.tm 4 = .bool false ∧ D σ' ∧ Pg d dd l σ0 σ')) := by
    intro k
    induction k with
    | zero =>
      intro i fr σ hi h1 h2 h3 h4 h5 hb hl hp hj
      refine CW.loop (CW.seq (CW.region ?_))
      refine OW.o1 (by rfl) (fun S => by simp only [go_sem, Nat.reduceBEq, Nat.reduceAdd, *]; with_reducible exact Is.rfl) ?_
      refine OW.nil (SeqQ.n ?_)
      have e : decide (((i : Nat) : Int) < ((p.Subs.length : Nat) : Int)) = false := by simp; omega
      refine CW.seq (CW.condF (by simp only [go_sem, Nat.reduceBEq, Nat.reduceAdd, *]; exact Is.rfl) ?_)
      refine CW.exit (SeqQ.x (LoopQ.x (.inl ⟨rfl, ?_, hp.trans .bump⟩)))
      have : p.Subs.drop i = [] := List.drop_eq_nil_of_le (by omega)
      rw [this] at hj
      exact hJ _ _ _ hl (by simpa [yl, preL] using hj) ⟨Nat.le_add_right _ _, fun _ _ => rfl, fun _ _ => rfl, fun _ _ _ => rfl⟩
    | succ k ihk =>
      intro i fr σ hi h1 h2 h3 h4 h5 hb hl hp hj
      have hlt : i < p.Subs.length := by omega
      have hx : idxL p.Subs ((i : Nat) : Int) = some p.Subs[i] := by
        unfold idxL; rw [if_pos ⟨by omega, by omega⟩]; simp [hlt]
      have hdrop : p.Subs.drop i = p.Subs[i] :: p.Subs.drop (i + 1) := List.drop_eq_getElem_cons hlt
      have hmem : p.Subs[i] ∈ p.Subs := List.getElem_mem hlt
      generalize p.Subs[i] = q at hx hdrop hmem
      refine CW.loop (CW.seq (CW.region ?_))
      refine OW.o1 (by rfl) (fun S => by simp only [go_sem, Nat.reduceBEq, Nat.reduceAdd, *]; with_reducible exact Is.rfl) ?_
      refine OW.nil (SeqQ.n ?_)
      have e : decide (((i : Nat) : Int) < ((p.Subs.length : Nat) : Int)) = true := by simp; omega
      refine CW.seq (CW.condT (by simp only [go_sem, Nat.reduceBEq, Nat.reduceAdd, *]; exact Is.rfl) ?_)
      refine CW.skip (SeqQ.n ?_)
      refine CW.seq (CW.block (CW.seq (CW.region ?_)))
      have hP : E.P = Tryz.prog := rfl
      have hia' : indexAddrV Tryz.prog 47 (lv Pred.v p.Subs) (.int .i64 ((i : Nat) : Int)) = some (.cref q.c 0) := by
        rw [idx_lv, if_pos (by rfl)]
        have e1 : elemT Tryz.prog 47 = some 49 := by kernel_rfl
        have e2 : szT Tryz.prog 49 = some 6 := by kernel_rfl
        rw [e1]; simp only [Option.bind_some, e2, hx]
        rfl
      refine OW.o1 (by rfl) (fun S => by simp only [go_sem, Nat.reduceBEq, Nat.reduceAdd, *]; with_reducible exact Is.rfl) ?_
      refine OW.o1 (by rfl) (fun S => by simp only [go_sem, Nat.reduceBEq, Nat.reduceAdd, *]; with_reducible exact Is.rfl) ?_
      have hz : zeroT Tryz.prog 49 = some (.agg [.int .i64 0, .str [], .int .i64 0, .int .i64 0, .str [], .lst .nil []]) := by kernel_rfl
      refine OW.o1 (by rfl) (fun S => by simp only [go_sem, Nat.reduceBEq, Nat.reduceAdd, *]; with_reducible exact Is.rfl) ?_
      have hsz6 : szT Tryz.prog 49 = some 6 := by kernel_rfl
      have hsp : spliceL [.int .i64 0, .str [], .int .i64 0, .int .i64 0, .str [], .lst .nil []] 0 q.c = q.c := rfl
      refine OW.o0 (by rfl) (fun S => by
        rw [oc_store]
        simp only [go_sem, Nat.reduceBEq, Nat.reduceAdd, *]
        rw [if_pos (by decide)]
        exact Is.rfl) ?_
      refine OW.nil (NQ.i (SeqQ.n ?_))
      rw [hdrop] at hj
      have hj1 : J (yl (pre q) ++ (yl (preL (p.Subs.drop (i + 1))) ++ L)) σ := by
        have : yl (preL (q :: p.Subs.drop (i + 1))) = yl (pre q) ++ yl (preL (p.Subs.drop (i + 1))) := by simp [yl, preL]
        rw [this, List.append_assoc] at hj; exact hj
      refine part _ _ ?s q _ _ ?hq ?hqs ?h1 ?h2 ?h3 ?h4 ?hl ?hp (hJ _ _ _ hl hj1 ?hsh) ?hQ1 ?hQ2
      case h3 => simp only [go_sem, Nat.reduceBEq, Nat.reduceAdd, *]; rfl
      case hq =>
        have h7 := List.sizeOf_lt_of_mem hmem
        have h8 : sizeOf p.Subs < sizeOf p := by cases p; simp; omega
        omega
      case hqs => have h := preL_mem hmem; rw [pre_eq] at hsz; simp at hsz; omega
      case h1 => simp only [set_d, h1]
      case h2 => simp only [go_sem, Nat.reduceBEq, Nat.reduceAdd, *]
      case h4 => exact cells_eq _ _ _ _
      case hl => exact Nat.lt_of_lt_of_le hl (Nat.le_trans (Nat.le_add_right _ _) (Nat.le_add_right _ _))
      case hp => exact hp.trans (Pg.trans .bump (Pg.trans .bump (Pg.trans .set .set)))
      case hsh => exact ⟨Nat.le_trans (Nat.le_add_right _ _) (Nat.le_add_right _ _), fun _ _ => rfl, fun _ _ => rfl, fun a o ha => (set_other (by omega)).trans (set_other (by omega))⟩
      case hQ1 =>
        intro fr' σ' k1 k2 k3 k4 k5 k6
        refine BlkQ.n (SeqQ.n (CW.region ?_))
        have t12 : fr'.tm 12 = lv Pred.v p.Subs := by rw [k1 12 (by omega) (by omega)]; simp only [go_sem, Nat.reduceBEq, Nat.reduceAdd, *]
        have t13 : fr'.tm 13 = .int .i64 (p.Subs.length : Nat) := by rw [k1 13 (by omega) (by omega)]; simp only [go_sem, Nat.reduceBEq, Nat.reduceAdd, *]
        have t14 : fr'.tm 14 = .int .i64 (i : Nat) := by rw [k1 14 (by omega) (by omega)]; simp only [go_sem, Nat.reduceBEq, Nat.reduceAdd, *]
        have hw : IntKind.wrap .i64 ((i : Int) + (1 : Int)) = ((i + 1 : Nat) : Int) := by rw [IntKind.wrap_i64]; omega
        refine OW.o1 (by rfl) (fun S => by simp only [go_sem, Nat.reduceBEq, Nat.reduceAdd, *]; with_reducible exact Is.rfl) ?_
        refine OW.o1 (by rfl) (fun S => by simp only [go_sem, Nat.reduceBEq, Nat.reduceAdd, *]; with_reducible exact Is.rfl) ?_
        refine OW.nil (NQ.i (LoopQ.n (ihk (i + 1) _ _ (by omega) ?_ ?_ ?_ ?_ ?_ hb ?_ (k5.trans .bump) ?_)))
        · simp only [set_d, k2]
        · simp only [go_sem, Nat.reduceBEq, Nat.reduceAdd, *]
        · simp only [go_sem, Nat.reduceBEq, Nat.reduceAdd, *]
        · simp only [go_sem, Nat.reduceBEq, Nat.reduceAdd, *]
        · simp only [go_sem, Nat.reduceBEq, Nat.reduceAdd, *]
        · exact Nat.lt_of_lt_of_le k4 (Nat.le_add_right _ _)
        · exact hJ _ _ _ k4 k6 ⟨Nat.le_add_right _ _, fun _ _ => rfl, fun _ _ => rfl, fun _ _ _ => rfl⟩
      case hQ2 =>
        intro fr' σ' k1 k2 k3
        exact BlkQ.r (SeqQ.r (LoopQ.r (.inr ⟨rfl, k1, k2, k3⟩)))
  -- the start
  refine Imp.of (fn := Tryz.f153) (c := Tryz.f153.body.getD .skip) Tryz.func153 rfl (by kernel_rfl) ?_
  generalize hfr : ({ d := dd, om := E.om 153, tm := fun i => [Pred.v p, yv l].getD i undefV } : Fr) = fr
  have h0 : fr.tm 0 = Pred.v p := by rw [← hfr]; rfl
  have h1 : fr.tm 1 = yv l := by rw [← hfr]; rfl
  have hdd : fr.d = dd := by rw [← hfr]
  have hP : E.P = Tryz.prog := rfl
  clear hfr
  refine CW.seq (CW.region ?_)
  refine OW.o1 (by rfl) (fun S => by simp only [go_sem, Nat.reduceBEq, Nat.reduceAdd, *]; with_reducible exact Is.rfl) ?_
  refine OW.o1 (by rfl) (fun S => by simp only [go_sem, Nat.reduceBEq, Nat.reduceAdd, *]; with_reducible exact Is.rfl) ?_
  refine OW.nil (SeqQ.n ?_)
  refine CW.seq (CW.seq (CW.region ?_))
  refine OW.o1 (by rfl) (fun S => by simp only [go_sem, Nat.reduceBEq, Nat.reduceAdd, *]; with_reducible exact Is.rfl) ?_
  refine OW.o1 (by rfl) (fun S => by simp only [go_sem, Nat.reduceBEq, Nat.reduceAdd, *]; with_reducible exact Is.rfl) ?_
  rw [pre_eq] at hj
  have hj' : J ([Pred.v p] :: (yl (preL p.Subs) ++ L)) (((σ0.bump 2).setObj (dd, 2) σ0.next (.cells p.c)).bump 4) := hJ _ _ _ hl (by simpa [yl] using hj) ⟨Nat.le_trans (Nat.le_add_right _ 2) (Nat.le_add_right _ 4), fun _ _ => rfl, fun _ _ => rfl, fun a o ha => set_other (by omega)⟩
  have hl1 : l < (((σ0.bump 2).setObj (dd, 2) σ0.next (.cells p.c)).bump 4).next := by show l < σ0.next + 2 + 4; omega
  obtain ⟨c, σ1, hrnd, hn1, ho1, hlo1, hc1, hc2⟩ := hr _ _ _ hl1 hj'
  have hcell : σ1.cellsAt (dd, 2) σ0.next = some p.c := by
    rw [cellsAt_obj (ho1 dd 2 hd)]
    exact cells_eq _ _ _ _
  have hpg1 : Pg d dd l σ0 σ1 := (Pg.trans stp .bump).trans ⟨hn1, fun a o ha _ => ho1 a o ha, hlo1⟩
  have hl2 : l < σ1.next := Nat.lt_of_lt_of_le hl hpg1.1
  refine OW.yield (l := l) (b := c) (by rfl) rfl rfl ?_ hrnd ?_
  · simp only [go_sem, Nat.reduceBEq, Nat.reduceAdd, *]
  refine OW.o1 (by rfl) (fun S => by simp only [go_sem, Nat.reduceBEq, Nat.reduceAdd, *]; with_reducible exact Is.rfl) ?_
  refine OW.nil (SeqQ.n ?_)
  cases c with
  | false =>
    refine CW.condT (by simp only [go_sem, Nat.reduceBEq, Nat.reduceAdd, *]; exact Is.rfl) ?_
    refine CW.seq (CW.region ?_)
    refine OW.o1 (by rfl) (fun S => by simp only [go_sem, Nat.reduceBEq, Nat.reduceAdd, *]; with_reducible exact Is.rfl) ?_
    refine OW.nil (SeqQ.n (CW.ret (SeqQ.r ?_)))
    refine RetQ.one (by simp) (by simp only [go_sem, Nat.reduceBEq, Nat.reduceAdd, resV]; with_reducible exact Is.rfl) ⟨hpg1.trans .bump, .inr ⟨rfl, ?_⟩⟩
    exact hD _ _ hl2 (hc2 rfl) ⟨Nat.le_add_right _ _, fun _ _ => rfl, fun _ _ => rfl, fun _ _ _ => rfl⟩
  | true =>
    have hlen : p.Subs.length < 2 ^ 62 ∨ 2 ^ 62 ≤ p.Subs.length := by omega
    refine CW.condF (by simp only [go_sem, Nat.reduceBEq, Nat.reduceAdd, *]; exact Is.rfl) ?_
    refine CW.skip (SeqQ.n ?_)
    refine CW.seq (CW.seq (CW.region ?_))
    refine OW.o1 (by rfl) (fun S => by simp only [go_sem, Nat.reduceBEq, Nat.reduceAdd, *]; with_reducible exact Is.rfl) ?_
    refine OW.o1 (by rfl) (fun S => by simp only [go_sem, Nat.reduceBEq, Nat.reduceAdd, *]; with_reducible exact Is.rfl) ?_
    refine OW.o1 (by rfl) (fun S => by simp only [go_sem, Nat.reduceBEq, Nat.reduceAdd, *]; with_reducible exact Is.rfl) ?_
    refine OW.o1 (by rfl) (fun S => by simp only [go_sem, Nat.reduceBEq, Nat.reduceAdd, *]; with_reducible exact Is.rfl) ?_
    refine OW.nil (SeqQ.n (CW.block ?_))
    refine (loop p.Subs.length 0 _ _ (by omega) ?_ ?_ ?_ ?_ ?_ ?_ ?_ (hpg1.trans .bump) ?_).mono ?_
    · simp only [set_d, put_some, hdd]
    · simp only [go_sem, Nat.reduceBEq, Nat.reduceAdd, *]
    · simp only [go_sem, Nat.reduceBEq, Nat.reduceAdd, *]
    · simp only [go_sem, Nat.reduceBEq, Nat.reduceAdd, *]
    · simp only [go_sem, Nat.reduceBEq, Nat.reduceAdd, *]; rfl
    · have h := preL_len p.Subs; rw [pre_eq] at hsz; simp at hsz; omega
    · exact Nat.lt_of_lt_of_le hl2 (Nat.le_add_right _ _)
    · exact hJ _ _ _ hl2 (by simpa using hc1 rfl) ⟨Nat.le_add_right _ _, fun _ _ => rfl, fun _ _ => rfl, fun _ _ _ => rfl⟩
    · rintro e fr' σ' (⟨rfl, k1, k2⟩ | ⟨rfl, k1, k2, k3⟩)
      · refine BlkQ.hit (SeqQ.n (CW.seq (CW.region ?_)))
        refine OW.o1 (by rfl) (fun S => by simp only [go_sem, Nat.reduceBEq, Nat.reduceAdd, *]; with_reducible exact Is.rfl) ?_
        refine OW.nil (SeqQ.n (CW.ret ?_))
        refine RetQ.one (by simp) (by simp only [go_sem, Nat.reduceBEq, Nat.reduceAdd, resV]; with_reducible exact Is.rfl) ⟨k2.trans .bump, .inl ⟨rfl, ?_⟩⟩
        exact hJ _ _ _ (Nat.lt_of_lt_of_le hl k2.1) k1 ⟨Nat.le_add_right _ _, fun _ _ => rfl, fun _ _ => rfl, fun _ _ _ => rfl⟩
      · refine BlkQ.r (SeqQ.r (RetQ.one (by simp) (by simp only [resV]; rw [k1]; exact Is.rfl) ⟨k3, .inr ⟨rfl, k2⟩⟩))
theorem parts_iter (p : Pred) (hsz : (pre p).length < 2 ^ 62) : IterOK E 152 [] [.cref p.c 0] (yl (pre p)) := by
  intro d l σ J D hJ hD hr hl hj
  refine Imp.of (fn := Tryz.f152) (c := Tryz.f152.body.getD .skip) Tryz.func152 rfl (by kernel_rfl) ?_
  generalize hfr : ({ d := d + 1, om := E.om 152, tm := fun i => ([] ++ [.fn (.yield l) [] []] ++ [.cref p.c 0] : List V).getD i undefV } : Fr) = fr
  have h0 : fr.tm 0 = yv l := by rw [← hfr]; rfl
  have h1 : fr.tm 1 = .cref p.c 0 := by rw [← hfr]; rfl
  have hdd : fr.d = d + 1 := by rw [← hfr]
  have hP : E.P = Tryz.prog := rfl
  clear hfr
  refine CW.region ?_
  refine OW.o1 (by rfl) (fun S => by simp only [go_sem, Nat.reduceBEq, Nat.reduceAdd, *]; with_reducible exact Is.rfl) ?_
  refine OW.o1 (by rfl) (fun S => by simp only [go_sem, Nat.reduceBEq, Nat.reduceAdd, *]; with_reducible exact Is.rfl) ?_
  refine OW.callI (g := 153) (a := []) (b := []) (by rfl) rfl rfl rfl rfl ?_
  rw [set_d, set_d, hdd]
  change Imp E 153 [Pred.v p, yv l] (d + 1 + 1) _ _
  obtain ⟨n, v, σ1, hn, hpg, hv⟩ := each_walk hJ hD hr (sizeOf p + 1) p (by omega) hsz (d + 1 + 1) (σ.bump 3) [] (by omega) (Nat.lt_of_lt_of_le hl (Nat.le_add_right _ _)) (hJ _ _ _ hl (by simpa using hj) ⟨Nat.le_add_right _ _, fun _ _ => rfl, fun _ _ => rfl, fun _ _ _ => rfl⟩)
  refine ⟨n, v, σ1, hn, OW.nil ?_⟩
  refine ⟨[], rfl, Nat.le_trans (Nat.le_add_right _ 3) hpg.1, ?_⟩
  rcases hv with ⟨_, h⟩ | ⟨_, h⟩
  · exact .inl h
  · exact .inr h
def partsO (p : Pred) : Option (List Pred) := if (pre p).length < 2 ^ 62 then some (pre p) else none
abbrev predSk : List Sk := [.d (.int .i64), .d .str, .d (.int .i64), .d (.int .i64), .d .str, .d (.slice (.st 8))]
abbrev predEl : List Sk := [.d (.st 8)]
noncomputable def iters : Nat → List (FI R) := addI 152 ⟨[], [.cref predSk 0], predEl, fun _ q => partsO (⟨q.1, q.2.1, q.2.2.1, q.2.2.2.1, q.2.2.2.2.1, q.2.2.2.2.2⟩ : Pred)⟩ noI
theorem iters_ok : ItersOK E iters := by
  refine addI_ok noI_ok ⟨rfl, fun pa pb xs h => ?_⟩
  unfold partsO at h
  dsimp only at h
  split at h
  · rename_i hsz
    cases h
    have := parts_iter _ hsz
    have e : ∀ q : PayL R.T predSk, encSL R [.cref predSk 0] q = [.cref (Pred.c ⟨q.1, q.2.1, q.2.2.1, q.2.2.2.1, q.2.2.2.2.1, q.2.2.2.2.2⟩) 0] := fun q => by
      unfold Pred.c; rw [Pred.vr_map]; rfl
    have e2 : ∀ l : List Pred, List.map (encSL R predEl) l = yl l := fun l => rfl
    exact Eq.mpr (congrArg (fun b => IterOK E 152 [] b (yl (pre ⟨pb.1, pb.2.1, pb.2.2.1, pb.2.2.2.1, pb.2.2.2.2.1, pb.2.2.2.2.2⟩))) (e pb)) this
  · cases h
end Sh
end
section
open Go Go.Proofs Aq
namespace Sh
noncomputable def regs0 (_ : Nat) : Nat → List (FR R) := noF
theorem regs0_ok (n : Nat) : RegsOK E (regs0 n) := noF_ok
theorem sanP : Pure E 11 [] (.bool true) := ⟨0, rfl⟩
end Sh
end
