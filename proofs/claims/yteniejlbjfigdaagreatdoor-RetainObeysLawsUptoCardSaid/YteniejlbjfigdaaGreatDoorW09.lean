/- Part of the proof of a law: Av3 Am1 Am2. -/
import Derived.Test.YteniejlbjfigdaaGreatDoorW07
set_option linter.all false
set_option linter.unusedSimpArgs false
set_option linter.unusedSectionVars false
section
namespace Aq
open Go
def subC : Code → List Nat → Option Code
  | c, [] => some c
  | .seq a b, i :: l => if i = 0 then subC a l else subC b l
  | .cond _ a b, i :: l => if i = 0 then subC a l else subC b l
  | .block _ a, _ :: l => subC a l
  | .loop a, _ :: l => subC a l
  | .rangeFunc _ _ a b, i :: l => if i = 0 then subC a l else subC b l
  | _, _ => none
def subO (b : Option Code) (l : List Nat) : Option Code := b.bind fun c => subC c l
section
variable {E : Env} {fr : Fr} {σ : Sig}
def CWL (E : Env) (c : Code) (fr : Fr) (σ : Sig) (Q : Ex → Fr → Sig → Prop) : Prop := CW E (.loop c) fr σ Q
theorem Is.e {α : Type} {a b : α} (h : Is a b) : a = b := h
theorem CW.lp {c : Code} {Q : Ex → Fr → Sig → Prop} (h : CWL E c fr σ Q) : CW E (.loop c) fr σ Q := h
theorem CWL.in {b : Option Code} {p : List Nat} {c : Code} {Q : Ex → Fr → Sig → Prop} (hs : subO b p = some c) (h : CW E c fr σ (LoopQ E c Q)) : CWL E ((subO b p).getD .skip) fr σ Q := by
  rw [hs]; exact CW.loop h
theorem CWL.ih {c : Code} {Q : Ex → Fr → Sig → Prop} (h : CWL E c fr σ Q) : CWL E c fr σ Q := h
def firstId : Code → Nat
  | .region i _ _ => i
  | .seq a _ => firstId a
  | .loop a => firstId a
  | .block _ a => firstId a
  | _ => 0
theorem CWL.at (k : Nat) {c : Code} {Q : Ex → Fr → Sig → Prop} (_h : Is (firstId c) k) (h : CWL E c fr σ Q) : CWL E c fr σ Q := h
theorem closeV_nil {n : Nat} (c : Cap) : closeV (n + 2) σ (.lst c []) = some (.lst .sh []) := closeV_lstc (α := V) (f := fun x => .int .i64 0) c [] (fun _ => by simp [pclean])
theorem closeV_aggc {n : Nat} (cs : List V) : closeV (n + 2) σ (.agg cs) = (cs.mapM (closeV (n + 1) σ)).map .agg := by
  by_cases hp : pclean (.agg cs) = true
  · rw [closeV_clean hp]
    have : ∀ cs : List V, pcleanL cs = true → cs.mapM (closeV (n + 1) σ) = some cs := by
      intro cs
      induction cs with
      | nil => intro _; rfl
      | cons a l ih =>
        intro h
        simp only [pcleanL, Bool.and_eq_true] at h
        rw [List.mapM_cons, closeV_clean h.1, ih h.2]; rfl
    rw [this cs (by simpa [pclean] using hp)]; rfl
  · conv => lhs; unfold closeV
    simp only [hp, if_false, Bool.false_eq_true]
theorem closeV_lstl {n : Nat} (c : Cap) (cs : List V) : closeV (n + 2) σ (.lst c cs) = (cs.mapM (closeV (n + 1) σ)).map (.lst .sh) := by
  by_cases hp : pclean (.lst c cs) = true
  · rw [closeV_clean hp]
    have : ∀ cs : List V, pcleanL cs = true → cs.mapM (closeV (n + 1) σ) = some cs := by
      intro cs
      induction cs with
      | nil => intro _; rfl
      | cons a l ih =>
        intro h
        simp only [pcleanL, Bool.and_eq_true] at h
        rw [List.mapM_cons, closeV_clean h.1, ih h.2]; rfl
    cases c <;> simp only [pclean, Bool.false_eq_true] at hp
    rw [this cs hp]; rfl
  · conv => lhs; unfold closeV
    simp only [hp, if_false, Bool.false_eq_true]
theorem closeV_tup {n : Nat} (cs : List V) : closeV (n + 2) σ (.tup cs) = (cs.mapM (closeV (n + 1) σ)).map .tup := by
  by_cases hp : pclean (.tup cs) = true
  · rw [closeV_clean hp]
    have : ∀ cs : List V, pcleanL cs = true → cs.mapM (closeV (n + 1) σ) = some cs := by
      intro cs
      induction cs with
      | nil => intro _; rfl
      | cons a l ih =>
        intro h
        simp only [pcleanL, Bool.and_eq_true] at h
        rw [List.mapM_cons, closeV_clean h.1, ih h.2]; rfl
    rw [this cs (by simpa [pclean] using hp)]; rfl
  · conv => lhs; unfold closeV
    simp only [hp, if_false, Bool.false_eq_true]
def OwC (sz : Nat) (σ : Sig) (c : Cap) (n : Nat) : Prop := c = .nil ∨ ∃ s, c = .own sz s ∧ σ.top s = n ∧ s < σ.next
def Dc (c c' : Cap) : Prop := ∀ n s n' s', c = .own n s → c' = .own n' s' → (s == s') = false
theorem OwC.n {sz n : Nat} : OwC sz σ .nil n := .inl rfl
theorem OwC.o {sz s n : Nat} (h1 : Is (σ.top s) n) (h2 : s < σ.next) : OwC sz σ (.own sz s) n := .inr ⟨s, rfl, h1, h2⟩
theorem own_ne {s n k : Nat} (h : s < n) : (s == n + k) = false := by simp; omega
theorem own_ne' {s n k : Nat} (h : s < n) : (n + k == s) = false := by simp; omega
theorem own_ne0 {s n : Nat} (h : s < n) : (s == n) = false := by simp; omega
theorem own_ne0' {s n : Nat} (h : s < n) : (n == s) = false := by simp; omega
theorem top_setTop_nb (σ : Sig) {s t : Nat} (n : Nat) (h : (t == s) = false) : (σ.setTop s n).top t = σ.top t := top_setTop_ne σ n (by simpa using h)
end
def appT (P : Program) (σ : Sig) (st : Nat) (t u : TypeId) (x y : V) : Option (V × Sig) :=
  match P.underlying u with
  | some (.int _) => appendV P false true σ st none t x y
  | some (.slice _) | some .string => appendV P false false σ st none t x y
  | _ => none
theorem app_none {P : Program} {z : Bool} {σ : Sig} {st : Nat} {loc : Option Loc} {t : TypeId} {c : Cap} {l : List V} {y : V} : appendV P false z σ st loc t (.lst c l) y = appendV P false z σ st none t (.lst c l) y := by
  unfold appendV
  cases elemT P t with
  | none => rfl
  | some e => cases c <;> rfl
section
variable {E : Env} {S : Evl} {fr : Fr} {σ : Sig} {st : Nat} {d : Option Tmp} {ty : TypeId} {pos : String} {aft : Array Edge} {gd : Option (Nat × Bool)}
theorem oc_app {t u : TypeId} {x y : Operand} {c : Cap} {l : List V} (ho : fr.om = false) (hx : fr.ev E x = .lst c l) : opC E S fr σ st ⟨d, .call ⟨.builtin .append, #[x, y], #[t, u]⟩, ty, pos, aft, gd⟩ = (appT E.P σ st t u (.lst c l) (fr.ev E y)).map fun p => (p.1, fr, p.2) := by
  show Option.map _ ((((#[t, u] : Array TypeId)[0]?).bind fun t => (((#[t, u] : Array TypeId)[1]?).bind E.P.underlying).bind fun u => match u with
    | .int _ => appendV E.P fr.om true σ st (d.map fun t => (fr.d, t)) t (fr.ev E x) (fr.ev E y)
    | .slice _ | .string => appendV E.P fr.om false σ st (d.map fun t => (fr.d, t)) t (fr.ev E x) (fr.ev E y)
    | _ => none)) = _
  show Option.map _ ((E.P.underlying u).bind _) = _
  rw [ho, hx]
  unfold appT
  cases E.P.underlying u with
  | none => rfl
  | some u =>
    cases u <;> try rfl
    all_goals (simp only [Option.bind_some]; rw [app_none]; first | rfl | (generalize appendV _ _ _ _ _ _ _ _ _ = o; cases o <;> rfl))
end
def AppOK (P : Program) (t u : TypeId) (sz by_ : Nat) (z : V) : Prop := ∃ e ag, elemT P t = some e ∧ szT P e = some sz ∧ bytesT P e = some by_ ∧ isAggT P e = some ag ∧ zeroT P e = some z ∧ z.cells.length = sz ∧ 0 < sz ∧ (ag || sz == 1) = true ∧ isSliceT P u = true
theorem AppOK.mk {P : Program} {t u : TypeId} {sz by_ : Nat} {z : V} (e : TypeId) (ag : Bool) (h1 : elemT P t = some e) (h2 : szT P e = some sz) (h3 : bytesT P e = some by_) (h4 : isAggT P e = some ag) (h5 : zeroT P e = some z)
    (h6 : z.cells.length = sz) (h7 : 0 < sz) (h8 : (ag || sz == 1) = true) (h9 : isSliceT P u = true) : AppOK P t u sz by_ z := ⟨e, ag, h1, h2, h3, h4, h5, h6, h7, h8, h9⟩
def rowOK (sz : Nat) (l : List V) : Bool := l.all fun v => v.cells.length == sz && oneCells v.cells
def buildL (E : Env) (t : TypeId) (ps : List (Nat × V)) : Option (List V) := (partsT E t).bind fun pl => (zeroT E.P t).bind fun z => fillL pl z.cells ps
section
variable {E : Env} {S : Evl} {fr : Fr} {σ : Sig} {st : Nat} {d : Option Tmp} {ty : TypeId} {pos : String} {aft : Array Edge} {gd : Option (Nat × Bool)}
theorem oc_build (t : TypeId) (l : List (Nat × Operand)) : opC E S fr σ st ⟨d, .build t l.toArray, ty, pos, aft, gd⟩ = (buildL E t (l.map fun p => (p.1, fr.ev E p.2))).map fun cs => (.agg cs, fr, σ) := by
  simp only [opC, opV, buildL]
  cases partsT E t with
  | none => rfl
  | some pl =>
    simp only [Option.bind_some]
    cases zeroT E.P t with
    | none => rfl
    | some z =>
      simp only [Option.bind_some]
      cases fillL pl z.cells (l.map fun p => (p.1, fr.ev E p.2)) <;> rfl
theorem oc_bsl (t : TypeId) (n : Nat) (l : List (Nat × Operand)) : opC E S fr σ st ⟨d, .buildSlice t n l.toArray, ty, pos, aft, gd⟩ = (buildSliceV E t n (l.map fun p => (p.1, fr.ev E p.2))).map fun v => (v, fr, σ) := by
  simp only [opC, opV]
  cases buildSliceV E t n (l.map fun p => (p.1, fr.ev E p.2)) <;> rfl
end
section
variable {E : Env} {S : Evl} {fr : Fr} {σ : Sig} {st : Nat} {d : Option Tmp} {ty : TypeId} {pos : String} {aft : Array Edge} {gd : Option (Nat × Bool)}
theorem oc_index (t : TypeId) (x i : Operand) : opC E S fr σ st ⟨d, .index t x i, ty, pos, aft, gd⟩ = (indexV E.P t (fr.ev E x) (fr.ev E i)).map fun v => (v, fr, σ) := by
  simp only [opC, opV]; cases indexV E.P t (fr.ev E x) (fr.ev E i) <;> rfl
theorem idx_str {P : Program} {t : TypeId} {s : List UInt8} {k : IntKind} {i : Int} (h : isStrT P t = true) : indexV P t (.str s) (.int k i) = (idxL s i).map fun b => .int .u8 (b.toNat : Nat) := by
  unfold isStrT at h; unfold indexV
  split at h
  · rename_i he
    rw [he]
    simp only [idx, bndI, Option.bind_some, idxL]
    split
    · simp only [Option.bind_some]; rfl
    · rfl
  · simp at h
def imax (a b : Int) : Int := if b > a then b else a
def imin (a b : Int) : Int := if b < a then b else a
theorem oc_max (x y : Operand) (tys : List TypeId) : opC E S fr σ st ⟨d, .call ⟨.builtin .max, #[x, y], tys.toArray⟩, ty, pos, aft, gd⟩ = (minMaxV true (fr.ev E x) [fr.ev E y]).map fun v => (v, fr, σ) := by
  show Option.map _ ((minMaxV true (fr.ev E x) [fr.ev E y]).map fun v => (v, σ)) = _
  cases minMaxV true (fr.ev E x) [fr.ev E y] <;> rfl
theorem oc_min (x y : Operand) (tys : List TypeId) : opC E S fr σ st ⟨d, .call ⟨.builtin .min, #[x, y], tys.toArray⟩, ty, pos, aft, gd⟩ = (minMaxV false (fr.ev E x) [fr.ev E y]).map fun v => (v, fr, σ) := by
  show Option.map _ ((minMaxV false (fr.ev E x) [fr.ev E y]).map fun v => (v, σ)) = _
  cases minMaxV false (fr.ev E x) [fr.ev E y] <;> rfl
theorem mm_max (k : IntKind) (a b : Int) : minMaxV true (.int k a) [.int k b] = some (.int k (imax a b)) := by simp [minMaxV, imax]
theorem mm_min (k : IntKind) (a b : Int) : minMaxV false (.int k a) [.int k b] = some (.int k (imin a b)) := by simp [minMaxV, imin]
end
theorem len1 (v : V) : [v].length = 1 := rfl
attribute [go_sem] oc_index idx_str oc_max oc_min mm_max mm_min own_ne own_ne' own_ne0 own_ne0' closeV_nil closeV_aggc closeV_tup oc_build oc_bsl List.map_cons List.map_nil len1 top_setTop_nb oc_app closeV_lstc implies_true eq_self
theorem pclean_sh (l : List V) : pclean (.lst .sh l) = pcleanL l := by simp only [pclean]
theorem pclean_agg (l : List V) : pclean (.agg l) = pcleanL l := by simp only [pclean]
theorem pcleanL_nil : pcleanL [] = true := by simp only [pcleanL]
theorem pcleanL_cons (v : V) (l : List V) : pcleanL (v :: l) = (pclean v && pcleanL l) := by simp only [pcleanL]
attribute [go_sem] pcleanL_nil pcleanL_cons
attribute [go_sem low] closeV_lstl pclean_sh pclean_agg
end Aq
end
section
namespace Aq
open Go
inductive Ty where
  | int (k : IntKind)
  | bool
  | str
  | slice (t : Ty)
  | st (n : Nat)
  deriving DecidableEq
inductive Cp where
  | any
  | sh
  | nil
  | full
  | own (t : Nat)
section
variable (T : Nat → Type)
def Den : Ty → Type
  | .int _ => Int
  | .bool => Bool
  | .str => List UInt8
  | .slice t => List (Den t)
  | .st n => T n
def PayT : List Ty → Type
  | [] => Unit
  | [t] => Den T t
  | t :: u :: l => Den T t × PayT (u :: l)
inductive TV where
  | int (k : IntKind) (n : Int)
  | bool (b : Bool)
  | blit (b : Bool)
  | str (s : List UInt8)
  | nilp
  | nilf
  | nilm
  | nili
  | nils
  | agg (cs : List TV)
  | tup (cs : List TV)
  | lst (c : Cp) (t : Ty) (l : List (Den T t))
  | ref (o off : Nat)
  | cref (cs : List TV) (off : Nat)
  | mapr (o : Nat)
  | mapc (k e : Ty) (m : List (Den T k × Den T e))
  | fn (f : Nat) (a b : List TV)
  | opt (j : Nat) (w : Bool) (v : TV)
  | vw (o : Nat) (t : Ty)
  | eref (o : Nat) (t : Ty) (i : Int) (off : Nat)
  | undef
  | gone
inductive Ob where
  | cells (cs : List (TV T))
  | map (k e : Ty) (m : List (Den T k × Den T e))
  | smap (ks vs : List (TV T))
  | arr (t : Ty) (l : List (Den T t))
  | gone
  | ro (b : Ob)
structure MS where
  fr : List (Nat × TV T)
  ob : List (Nat × Ob T)
inductive Sk where
  | d (t : Ty)
  | l (c : Cp) (t : Ty)
  | agg (l : List Sk)
  | ref (o off : Nat)
  | cref (l : List Sk) (off : Nat)
  | mapr (o : Nat)
  | mapc (k e : Ty)
  | fn (f : Nat) (a b : List Sk)
  | nils
  | vw (o : Nat) (t : Ty)
  | undef
mutual
def PayS : Sk → Type
  | .d t => Den T t
  | .l _ t => List (Den T t)
  | .agg l => PayL l
  | .ref _ _ => Unit
  | .cref l _ => PayL l
  | .mapr _ => Unit
  | .mapc k e => List (Den T k × Den T e)
  | .fn _ a b => PayL a × PayL b
  | .nils => Unit
  | .vw _ _ => Unit
  | .undef => Unit
def PayL : List Sk → Type
  | [] => Unit
  | [k] => PayS k
  | k :: h :: l => PayS k × PayL (h :: l)
end
inductive ObSk where
  | cells (l : List Sk)
  | st (n : Nat)
  | map (k e : Ty)
  | arr (t : Ty)
def PayO : ObSk → Type
  | .cells l => PayL T l
  | .st n => T n
  | .map k e => List (Den T k × Den T e)
  | .arr t => List (Den T t)
def PayOs : List (Nat × ObSk) → Type
  | [] => Unit
  | [(_, k)] => PayO T k
  | (_, k) :: h :: l => PayO T k × PayOs (h :: l)
def PaySl : List (Nat × Sk) → Type
  | [] => Unit
  | [(_, k)] => PayS T k
  | (_, k) :: h :: l => PayS T k × PaySl (h :: l)
structure Shape where
  sl : List (Nat × Sk)
  ob : List (Nat × ObSk)
def Pay : Shape → Type
  | ⟨s, []⟩ => PaySl T s
  | ⟨s, o :: os⟩ => PaySl T s × PayOs T (o :: os)
def Out : List (Ex × Shape) → Type
  | [] => Empty
  | [(_, s)] => Pay T s
  | (_, s) :: h :: l => Pay T s ⊕ Out (h :: l)
end
structure Reg where
  T : Nat → Type
  d : (n : Nat) → T n
  lf : Nat → List Ty
  to : (n : Nat) → PayT T (lf n) → T n
  of : (n : Nat) → T n → PayT T (lf n)
  enc : (n : Nat) → T n → V
  ty : TypeId → Option Ty
structure FR (R : Reg) where
  args : List Sk
  res : List Sk
  F : PayL R.T args → Option (PayL R.T res)
  d : PayL R.T res
structure FI (R : Reg) where
  a : List Sk
  b : List Sk
  el : List Sk
  F : PayL R.T a → PayL R.T b → Option (List (PayL R.T el))
structure Note where
  K : List Nat
  O : List Nat
  sh : Shape
  outs : List (Ex × Shape)
structure Ann where
  loops : List (Nat × Note)
  joins : List (Nat × Note)
def look {α : Type} : List (Nat × α) → Nat → Option α
  | [], _ => none
  | (j, x) :: l, i => bif Nat.beq j i then some x else look l i
section
variable (R : Reg)
def encD : (t : Ty) → Den R.T t → V
  | .int k => fun n => .int k n
  | .bool => fun b => .bool b
  | .str => fun s => .str s
  | .slice t => fun l => .lst .sh (l.map (encD t))
  | .st n => fun x => R.enc n x
def encs : (l : List Ty) → PayT R.T l → List V
  | [], _ => []
  | [t], x => [encD R t x]
  | t :: u :: l, p => encD R t p.1 :: encs (u :: l) p.2
def szD : Ty → Nat
  | .st n => (R.lf n).length
  | _ => 1
def dfl : (t : Ty) → Den R.T t
  | .int _ => (0 : Int)
  | .bool => false
  | .str => ([] : List UInt8)
  | .slice t => ([] : List (Den R.T t))
  | .st n => R.d n
def tv1 (c : Cp) : (t : Ty) → Den R.T t → TV R.T
  | .int k => fun n => .int k n
  | .bool => fun b => .bool b
  | .str => fun s => .str s
  | .slice t => fun l => .lst c t l
  | .st _ => fun _ => .undef
def tvs (c : Cp) : (l : List Ty) → PayT R.T l → List (TV R.T)
  | [], _ => []
  | [t], x => [tv1 R c t x]
  | t :: u :: l, p => tv1 R c t p.1 :: tvs c (u :: l) p.2
def tvD (c : Cp) : (t : Ty) → Den R.T t → TV R.T
  | .st n => fun x => .agg (tvs R c (R.lf n) (R.of n x))
  | .int k => fun n => .int k n
  | .bool => fun b => .bool b
  | .str => fun s => .str s
  | .slice t => fun l => .lst c t l
def castL {t u : Ty} (l : List (Den R.T t)) : Option (List (Den R.T u)) := if h : t = u then some (h ▸ l) else none
def unInt (k : IntKind) : TV R.T → Option Int
  | .int k' n => if k = k' then some n else none
  | _ => none
def unBool : TV R.T → Option Bool
  | .bool b => some b
  | .blit b => some b
  | _ => none
def unStr : TV R.T → Option (List UInt8)
  | .str s => some s
  | _ => none
def unSl (t : Ty) : TV R.T → Option (List (Den R.T t))
  | .lst _ _ l => castL R l
  | .nils => some []
  | _ => none
def un1 : (t : Ty) → TV R.T → Option (Den R.T t)
  | .int k => fun v => unInt R k v
  | .bool => fun v => unBool R v
  | .str => fun v => unStr R v
  | .slice t => fun v => unSl R t v
  | .st _ => fun _ => none
def hd1 : List (TV R.T) → TV R.T
  | [v] => v
  | _ => .gone
def uns : (l : List Ty) → List (TV R.T) → Option (PayT R.T l)
  | [] => fun vs => match vs with
    | [] => some ()
    | _ :: _ => none
  | [t] => fun vs => un1 R t (hd1 R vs)
  | t :: u :: l => fun vs => match vs with
    | [] => none
    | v :: vs => match un1 R t v with
      | some x => match uns (u :: l) vs with
        | some p => some (x, p)
        | none => none
      | none => none
def unSt (n : Nat) : TV R.T → Option (R.T n)
  | .agg cs => match uns R (R.lf n) cs with
    | some p => some (R.to n p)
    | none => none
  | _ => none
def unD : (t : Ty) → TV R.T → Option (Den R.T t)
  | .st n => fun v => unSt R n v
  | .int k => fun v => unInt R k v
  | .bool => fun v => unBool R v
  | .str => fun v => unStr R v
  | .slice t => fun v => unSl R t v
def TV.cells {T : Nat → Type} : TV T → List (TV T)
  | .agg cs => cs
  | v => [v]
mutual
def ment {T : Nat → Type} (o : Nat) : TV T → Bool
  | .ref p _ => Nat.beq p o
  | .mapr p => Nat.beq p o
  | .agg cs => mentL o cs
  | .tup cs => mentL o cs
  | .cref cs _ => mentL o cs
  | .fn _ a b => mentL o a || mentL o b
  | .opt _ _ v => ment o v
  | .vw p _ => Nat.beq p o
  | .eref p _ _ _ => Nat.beq p o
  | _ => false
def mentL {T : Nat → Type} (o : Nat) : List (TV T) → Bool
  | [] => false
  | v :: l => ment o v || mentL o l
end
def Ob.ment {T : Nat → Type} (o : Nat) : Ob T → Bool
  | .cells cs => mentL o cs
  | .smap ks vs => mentL o ks || mentL o vs
  | .ro b => Ob.ment o b
  | _ => false
mutual
def wk {T : Nat → Type} (t : Nat) : TV T → TV T
  | .lst (.own u) ty l => bif Nat.beq u t then .lst .any ty l else .lst (.own u) ty l
  | .agg cs => .agg (wkL t cs)
  | .tup cs => .tup (wkL t cs)
  | .cref cs off => .cref (wkL t cs) off
  | .fn f a b => .fn f (wkL t a) (wkL t b)
  | .opt j w v => .opt j w (wk t v)
  | v => v
def wkL {T : Nat → Type} (t : Nat) : List (TV T) → List (TV T)
  | [] => []
  | v :: l => wk t v :: wkL t l
end
def Ob.wk {T : Nat → Type} (t : Nat) : Ob T → Ob T
  | .cells cs => .cells (wkL t cs)
  | .smap ks vs => .smap (wkL t ks) (wkL t vs)
  | .ro b => .ro (Ob.wk t b)
  | o => o
def mapF {α : Type} (f : α → α) : List (Nat × α) → List (Nat × α)
  | [] => []
  | (i, x) :: l => (i, f x) :: mapF f l
def delF {α : Type} (i : Nat) : List (Nat × α) → List (Nat × α)
  | [] => []
  | (j, x) :: l => bif Nat.beq j i then delF i l else (j, x) :: delF i l
def MS.wk {T : Nat → Type} (t : Nat) (st : MS T) : MS T := ⟨mapF (Aq.wk t) st.fr, mapF (Ob.wk t) st.ob⟩
def unopt {T : Nat → Type} (j : Nat) : TV T → TV T
  | .opt i w v => bif Nat.beq i j then .gone else .opt i w v
  | v => v
def MS.put {T : Nat → Type} (st : MS T) (i : Nat) (v : TV T) : MS T := { st with fr := (i, v) :: mapF (unopt i) (delF i st.fr) }
def MS.putO {T : Nat → Type} (st : MS T) (d : Option Nat) (v : TV T) : MS T := match d with
  | some i => st.put i v
  | none => st
def lrn {T : Nat → Type} (j : Nat) (b : Bool) : TV T → TV T
  | .opt i w v => bif Nat.beq i j then (bif (b == w) then v else .undef) else .opt i w v
  | v => v
def MS.learn {T : Nat → Type} (st : MS T) (j : Nat) (b : Bool) : MS T := { st with fr := (j, .blit b) :: mapF (lrn j b) (delF j st.fr) }
def MS.learnO {T : Nat → Type} (st : MS T) (c : Operand) (b : Bool) : MS T := match c with
  | .tmp j => st.learn j b
  | _ => st
def killO {T : Nat → Type} (o : Nat) (v : TV T) : TV T := bif ment o v then .gone else v
def Ob.kill {T : Nat → Type} (o : Nat) (v : Ob T) : Ob T := bif Ob.ment o v then .gone else v
def MS.new {T : Nat → Type} (st : MS T) (o : Nat) (b : Ob T) : MS T := ⟨mapF (killO o) st.fr, (o, b) :: mapF (Ob.kill o) (delF o st.ob)⟩
def MS.set {T : Nat → Type} (st : MS T) (o : Nat) (b : Ob T) : MS T := { st with ob := (o, b) :: delF o st.ob }
def MS.del {T : Nat → Type} (st : MS T) (o : Nat) : MS T := { st with ob := delF o st.ob }
def stripO {T : Nat → Type} : Ob T → Ob T
  | .ro b => stripO b
  | b => b
def rdOb {T : Nat → Type} (st : MS T) (o : Nat) : Option (Ob T) := match look st.ob o with
  | some b => some (stripO b)
  | none => none
def isRo {T : Nat → Type} : Ob T → Bool
  | .ro _ => true
  | .gone => true
  | _ => false
def memN (i : Nat) : List Nat → Bool
  | [] => false
  | j :: l => Nat.beq i j || memN i l
mutual
def solid {T : Nat → Type} (W : List Nat) : TV T → Bool
  | .lst (.own _) _ _ => false
  | .ref o _ => !(memN o W)
  | .mapr o => !(memN o W)
  | .agg cs => solidL W cs
  | .tup cs => solidL W cs
  | .cref cs _ => solidL W cs
  | .fn _ a b => solidL W a && solidL W b
  | .opt _ _ _ => false
  | .vw o _ => !(memN o W)
  | .eref o _ _ _ => !(memN o W)
  | .gone => false
  | _ => true
def solidL {T : Nat → Type} (W : List Nat) : List (TV T) → Bool
  | [] => true
  | v :: l => solid W v && solidL W l
end
def solidO {T : Nat → Type} (W : List Nat) : Ob T → Bool
  | .cells cs => solidL W cs
  | .map _ _ _ => true
  | .smap ks vs => solidL W ks && solidL W vs
  | .arr _ _ => true
  | .ro b => solidO W b
  | .gone => false
def selF {α : Type} (p : Nat → α → Bool) (f : α → α) (l : List (Nat × α)) : List Nat → List (Nat × α)
  | [] => []
  | i :: is => match look l i with
    | some x => bif p i x then (i, f x) :: selF p f l is else selF p f l is
    | none => selF p f l is
def base {T : Nat → Type} (W K O : List Nat) (mark : Ob T → Ob T) (st : MS T) : MS T :=
  ⟨selF (fun i v => !(memN i W) && solid W v) (fun v => v) st.fr K, selF (fun o b => !(memN o W) && solidO W b) mark st.ob O⟩
def MS.over {T : Nat → Type} (st b : MS T) : MS T := ⟨st.fr ++ b.fr, st.ob ++ b.ob⟩
def ofScalarM {T : Nat → Type} : Value → Option (TV T)
  | .bool b => some (.blit b)
  | .int k n => some (.int k n)
  | .string s => some (.str s.data.toList)
  | .pointer none => some .nilp
  | .slice none 0 0 => some .nils
  | .map none => some .nilm
  | .nilFunc => some .nilf
  | .nilIface => some .nili
  | _ => none
def ofScalarsM {T : Nat → Type} : List Value → Option (List (TV T))
  | [] => some []
  | v :: l => match ofScalarM v with
    | some x => match ofScalarsM l with
      | some y => some (x :: y)
      | none => none
    | none => none
def ofValueM {T : Nat → Type} : Value → Option (TV T)
  | .agg cs => match ofScalarsM cs.toList with
    | some l => some (.agg l)
    | none => none
  | v => ofScalarM v
def resG {T : Nat → Type} (g : List (Nat × Bool)) : TV T → Option (TV T)
  | .opt j w v => match look g j with
    | some u => some (bif u == w then v else .undef)
    | none => none
  | v => some v
def evM {T : Nat → Type} (g : List (Nat × Bool)) (st : MS T) : Operand → Option (TV T)
  | .tmp t => match look st.fr t with
    | some v => resG g v
    | none => none
  | .const v => ofValueM v
  | .func f => some (.fn f [] [])
  | .global _ => none
def evMs {T : Nat → Type} (g : List (Nat × Bool)) (st : MS T) : List Operand → Option (List (TV T))
  | [] => some []
  | x :: l => match evM g st x with
    | some v => match evMs g st l with
      | some vs => some (v :: vs)
      | none => none
    | none => none
def evPs {T : Nat → Type} (g : List (Nat × Bool)) (st : MS T) : List (Nat × Operand) → Option (List (Nat × TV T))
  | [] => some []
  | (i, x) :: l => match evM g st x with
    | some v => match evPs g st l with
      | some vs => some ((i, v) :: vs)
      | none => none
    | none => none
def clo1 {T : Nat → Type} (st : MS T) : TV T → TV T
  | .ref o off => match rdOb st o with
    | some (.cells cs) => .cref cs off
    | _ => .ref o off
  | .mapr o => match rdOb st o with
    | some (.map k e m) => .mapc k e m
    | _ => .mapr o
  | .vw o t => match rdOb st o with
    | some (.arr t' l) => if t' = t then .lst .sh t' l else .vw o t
    | _ => .vw o t
  | v => v
def clo1s {T : Nat → Type} (st : MS T) : List (TV T) → List (TV T)
  | [] => []
  | v :: l => clo1 st v :: clo1s st l
def cloM {T : Nat → Type} (st : MS T) : TV T → TV T
  | .fn f a b => .fn f (clo1s st a) (clo1s st b)
  | .agg cs => .agg (clo1s st cs)
  | v => clo1 st v
def cloMs {T : Nat → Type} (st : MS T) : List (TV T) → List (TV T)
  | [] => []
  | v :: l => cloM st v :: cloMs st l
def oneM {T : Nat → Type} : TV T → Bool
  | .agg _ => false
  | .tup _ => false
  | .gone => false
  | .undef => false
  | .opt _ _ _ => false
  | _ => true
def oneMs {T : Nat → Type} : List (TV T) → Bool
  | [] => true
  | v :: l => oneM v && oneMs l
def notG {T : Nat → Type} : TV T → Bool
  | .gone => false
  | .opt _ _ _ => false
  | _ => true
mutual
def stV {T : Nat → Type} : TV T → Bool
  | .int _ _ => true
  | .bool _ => true
  | .blit _ => true
  | .str _ => true
  | .nilp => true
  | .nilf => true
  | .nilm => true
  | .nili => true
  | .lst .sh _ _ => true
  | .agg cs => stL cs
  | .tup cs => stL cs
  | .mapc _ _ _ => true
  | .cref cs _ => stL cs
  | .fn _ a b => stL a && stL b
  | _ => false
def stL {T : Nat → Type} : List (TV T) → Bool
  | [] => true
  | v :: l => stV v && stL l
end
def cl1 {T : Nat → Type} : TV T → Bool
  | .lst _ _ _ => true
  | .nils => true
  | v => stV v
def cl1s {T : Nat → Type} : List (TV T) → Bool
  | [] => true
  | v :: l => cl1 v && cl1s l
def clV {T : Nat → Type} : TV T → Bool
  | .agg cs => cl1s cs
  | v => cl1 v
def clVs {T : Nat → Type} : List (TV T) → Bool
  | [] => true
  | v :: l => clV v && clVs l
mutual
def cSk : Sk → Bool
  | .d _ => true
  | .l c _ => match c with
    | .any => true
    | .sh => true
    | _ => false
  | .agg l => cSkL l
  | .cref l _ => cSkL l
  | .mapc _ _ => true
  | .fn _ a b => cSkL a && cSkL b
  | _ => false
def cSkL : List Sk → Bool
  | [] => true
  | k :: l => cSk k && cSkL l
def dep : Sk → Nat
  | .agg l => depL l + 3
  | .cref l _ => depL l + 3
  | .fn _ a b => max (depL a) (depL b) + 3
  | _ => 3
def depL : List Sk → Nat
  | [] => 0
  | k :: l => max (dep k) (depL l)
end
def flatT : Ty → Bool
  | .int _ => true
  | .bool => true
  | .str => true
  | _ => false
def flatSk : List Sk → Bool
  | [] => true
  | .d t :: l => flatT t && flatSk l
  | _ => false
mutual
def encS : (k : Sk) → PayS R.T k → V
  | .d t, x => encD R t x
  | .l _ t, x => encD R (.slice t) x
  | .agg l, x => .agg (encSL l x)
  | .cref l off, x => .cref (encSL l x) off
  | .mapc k e, x => .mapc (List.map (fun p => encD R k p.1) x) (List.map (fun p => encD R e p.2) x)
  | .fn f a b, x => .fn (.func f) (encSL a x.1) (encSL b x.2)
  | .nils, _ => .lst .sh []
  | .ref _ _, _ => undefV
  | .mapr _, _ => undefV
  | .vw _ _, _ => undefV
  | .undef, _ => undefV
def encSL : (l : List Sk) → PayL R.T l → List V
  | [], _ => []
  | [k], x => [encS k x]
  | k :: h :: l, p => encS k p.1 :: encSL (h :: l) p.2
end
def retV : List V → V
  | [v] => v
  | vs => .tup vs
def capLe : Cp → Cp → Bool
  | _, .any => true
  | .sh, .sh => true
  | .nil, .nil => true
  | .nil, .own _ => true
  | .full, .own _ => true
  | .full, .full => true
  | .own t, .own u => Nat.beq t u
  | _, _ => false
def pkLst (c : Cp) (t : Ty) : TV R.T → Option (List (Den R.T t))
  | .lst c' _ l => bif capLe c' c then castL R l else none
  | .nils => bif capLe .nil c then some [] else none
  | _ => none
def castM {k e k' e' : Ty} (m : List (Den R.T k' × Den R.T e')) : Option (List (Den R.T k × Den R.T e)) := if h : k' = k ∧ e' = e then some (by rw [← h.1, ← h.2]; exact m) else none
mutual
def pk : (k : Sk) → TV R.T → Option (PayS R.T k)
  | .d t => fun v => unD R t v
  | .l c t => fun v => pkLst R c t v
  | .agg l => fun v => match v with
    | .agg cs => pkL l cs
    | _ => none
  | .ref o off => fun v => match v with
    | .ref p off' => bif Nat.beq p o && Nat.beq off' off then some () else none
    | _ => none
  | .cref l off => fun v => match v with
    | .cref cs off' => bif Nat.beq off' off then pkL l cs else none
    | _ => none
  | .mapr o => fun v => match v with
    | .mapr p => bif Nat.beq p o then some () else none
    | _ => none
  | .mapc k e => fun v => match v with
    | .mapc _ _ m => castM R m
    | _ => none
  | .fn f a b => fun v => match v with
    | .fn f' a' b' => bif Nat.beq f' f then (match pkL a a' with
      | some x => match pkL b b' with
        | some y => some (x, y)
        | none => none
      | none => none) else none
    | _ => none
  | .nils => fun v => match v with
    | .nils => some ()
    | _ => none
  | .vw o t => fun v => match v with
    | .vw p t' => bif Nat.beq p o then (if t' = t then some () else none) else none
    | _ => none
  | .undef => fun v => match v with
    | .undef => some ()
    | _ => none
def pkL : (l : List Sk) → List (TV R.T) → Option (PayL R.T l)
  | [] => fun vs => match vs with
    | [] => some ()
    | _ :: _ => none
  | [k] => fun vs => match vs with
    | [v] => pk k v
    | _ => none
  | k :: h :: l => fun vs => match vs with
    | [] => none
    | v :: vs => match pk k v with
      | some x => match pkL (h :: l) vs with
        | some p => some (x, p)
        | none => none
      | none => none
end
mutual
def up (c : Cp) : (k : Sk) → PayS R.T k → TV R.T
  | .d t, x => tvD R c t x
  | .l c t, x => .lst c t x
  | .agg l, x => .agg (upL c l x)
  | .ref o off, _ => .ref o off
  | .cref l off, x => .cref (upL c l x) off
  | .mapr o, _ => .mapr o
  | .mapc k e, x => .mapc k e x
  | .fn f a b, x => .fn f (upL c a x.1) (upL c b x.2)
  | .nils, _ => .nils
  | .vw o t, _ => .vw o t
  | .undef, _ => .undef
def upL (c : Cp) : (l : List Sk) → PayL R.T l → List (TV R.T)
  | [], _ => []
  | [k], x => [up c k x]
  | k :: h :: l, p => up c k p.1 :: upL c (h :: l) p.2
end
def pkO : (k : ObSk) → Ob R.T → Option (PayO R.T k)
  | .cells l => fun o => match o with
    | .cells cs => pkL R l cs
    | _ => none
  | .st n => fun o => match o with
    | .cells cs => unSt R n (.agg cs)
    | _ => none
  | .map k e => fun o => match o with
    | .map _ _ m => castM R m
    | _ => none
  | .arr t => fun o => match o with
    | .arr _ l => castL R l
    | _ => none
def upO : (k : ObSk) → PayO R.T k → Ob R.T
  | .cells l, x => .cells (upL R .any l x)
  | .st n, x => .cells (tvs R .any (R.lf n) (R.of n x))
  | .map k e, x => .map k e x
  | .arr t, x => .arr t x
def pkSl (st : List (Nat × TV R.T)) : (l : List (Nat × Sk)) → Option (PaySl R.T l)
  | [] => some ()
  | [(i, k)] => match look st i with
    | some v => pk R k v
    | none => none
  | (i, k) :: h :: l => match look st i with
    | some v => match pk R k v with
      | some x => match pkSl st (h :: l) with
        | some p => some (x, p)
        | none => none
      | none => none
    | none => none
def upSl : (l : List (Nat × Sk)) → PaySl R.T l → List (Nat × TV R.T)
  | [], _ => []
  | [(i, k)], x => [(i, up R .any k x)]
  | (i, k) :: h :: l, p => (i, up R .any k p.1) :: upSl (h :: l) p.2
def pkOs (st : List (Nat × Ob R.T)) : (l : List (Nat × ObSk)) → Option (PayOs R.T l)
  | [] => some ()
  | [(i, k)] => match look st i with
    | some v => pkO R k v
    | none => none
  | (i, k) :: h :: l => match look st i with
    | some v => match pkO R k v with
      | some x => match pkOs st (h :: l) with
        | some p => some (x, p)
        | none => none
      | none => none
    | none => none
def upOs : (l : List (Nat × ObSk)) → PayOs R.T l → List (Nat × Ob R.T)
  | [], _ => []
  | [(i, k)], x => [(i, upO R k x)]
  | (i, k) :: h :: l, p => (i, upO R k p.1) :: upOs (h :: l) p.2
def pack (st : MS R.T) : (s : Shape) → Option (Pay R.T s)
  | ⟨s, []⟩ => pkSl R st.fr s
  | ⟨s, o :: os⟩ => match pkSl R st.fr s with
    | some x => match pkOs R st.ob (o :: os) with
      | some y => some (x, y)
      | none => none
    | none => none
def isE {T : Nat → Type} : TV T → Bool
  | .nils => true
  | .lst .nil _ l => l.isEmpty
  | .lst .full _ l => l.isEmpty
  | _ => false
def prepS {T : Nat → Type} (W : List Nat) : List (Nat × Sk) → MS T → MS T
  | [], st => st
  | (i, .vw o t) :: l, st => match look st.fr i with
    | some v => bif isE v && memN o W then prepS W l ⟨(i, .vw o t) :: (st.new o (.arr t [])).fr, (st.new o (.arr t [])).ob⟩ else prepS W l st
    | none => prepS W l st
  | _ :: l, st => prepS W l st
def packW (W : List Nat) (st : MS R.T) (s : Shape) : Option (Pay R.T s) := pack R (prepS W s.sl st) s
def unpack : (s : Shape) → Pay R.T s → MS R.T
  | ⟨s, []⟩, x => ⟨upSl R s x, []⟩
  | ⟨s, o :: os⟩, x => ⟨upSl R s x.1, upOs R (o :: os) x.2⟩
def exEq : Ex → Ex → Bool
  | .normal, .normal => true
  | .ret, .ret => true
  | .exit i, .exit j => Nat.beq i j
  | _, _ => false
def packOut (W : List Nat) (e : Ex) (st : MS R.T) : (l : List (Ex × Shape)) → Option (Out R.T l)
  | [] => none
  | [(x, s)] => bif exEq e x then packW R W st s else none
  | (x, s) :: h :: l => bif exEq e x then (match packW R W st s with
    | some p => some (.inl p)
    | none => none) else (match packOut W e st (h :: l) with
    | some p => some (.inr p)
    | none => none)
def unpackOut {β : Type} (b : MS R.T) (k : Ex → MS R.T → Option β) : (l : List (Ex × Shape)) → Out R.T l → Option β
  | [], _ => none
  | [(x, s)], p => k x (b.over (unpack R s p))
  | (x, s) :: h :: l, p => Sum.elim (fun q => k x (b.over (unpack R s q))) (fun q => unpackOut b k (h :: l) q) p
end
end Aq
end
section
namespace Aq
open Go
inductive Res (R : Reg) where
  | t (v : TV R.T)
  | c (b : Bool) (v : TV R.T)
  | w (v : TV R.T) (st : MS R.T)
  | wc (b : Bool) (v : TV R.T) (st : MS R.T)
  | p (α : Type) (d : α) (o : Option α) (f : α → TV R.T)
section
variable (E : Env) (R : Reg)
def partM {T : Nat → Type} (agg : Bool) (n : Nat) (cs : List (TV T)) (off : Nat) : Option (TV T) :=
  bif agg then (bif Nat.ble (off + n) cs.length then some (.agg ((cs.drop off).take n)) else none) else cs[off]?
def ldM {T : Nat → Type} (t : TypeId) (cs : List (TV T)) (off : Nat) : Option (TV T) :=
  match isAggT E.P t with
  | some a => match szT E.P t with
    | some n => partM a n cs off
    | none => none
  | none => none
def spliceM {T : Nat → Type} (cs : List (TV T)) (off : Nat) (vs : List (TV T)) : List (TV T) := cs.take off ++ vs ++ cs.drop (off + vs.length)
def fillM {T : Nat → Type} (place : Nat → Option (Nat × Nat)) (cells : List (TV T)) : List (Nat × TV T) → Option (List (TV T))
  | [] => some cells
  | (i, v) :: rest => match place i with
    | none => none
    | some (off, size) => bif Nat.beq v.cells.length size && Nat.ble (off + size) cells.length && notG v then fillM place (spliceM cells off v.cells) rest else none
def zeroM {T : Nat → Type} (t : TypeId) : Option (TV T) := match E.P.info? t with
  | some i => match i.zero with
    | some z => ofValueM z
    | none => none
  | none => none
def bM {T : Nat → Type} : TV T → Option Bool
  | .bool a => some a
  | .blit a => some a
  | _ => none
def eqSM {T : Nat → Type} (x y : TV T) : Option Bool := match bM x, bM y with
  | some a, some b => some (a == b)
  | _, _ => none
def eqFlM {T : Nat → Type} (eq : TypeId → TV T → TV T → Option Bool) (xs ys : List (TV T)) : List Field → Option Bool
  | [] => some true
  | f :: fs => if f.name = "_" then eqFlM eq xs ys fs else
    match ldM E f.type xs f.offset with
    | none => none
    | some a => match ldM E f.type ys f.offset with
      | none => none
      | some b => match eq f.type a b with
        | none => none
        | some r => match eqFlM eq xs ys fs with
          | none => none
          | some q => some (r && q)
def eqElM {T : Nat → Type} (eq : TypeId → TV T → TV T → Option Bool) (e : TypeId) (sz : Nat) (xs ys : List (TV T)) : List Nat → Option Bool
  | [] => some true
  | i :: is => match ldM E e xs (i * sz) with
    | none => none
    | some a => match ldM E e ys (i * sz) with
      | none => none
      | some b => match eq e a b with
        | none => none
        | some r => match eqElM eq e sz xs ys is with
          | none => none
          | some q => some (r && q)
def eqTM {T : Nat → Type} : Nat → TypeId → TV T → TV T → Option Bool
  | 0, _, _, _ => none
  | d + 1, t, x, y =>
    match E.P.underlying t, x, y with
    | some (.struct fs), .agg xs, .agg ys => if E.P.stoodInHeld t then none else eqFlM E (eqTM d) xs ys fs.toList
    | some (.array n e), .agg xs, .agg ys => match szT E.P e with
      | some sz => eqElM E (eqTM d) e sz xs ys (List.range n)
      | none => none
    | some (.struct _), _, _ => none
    | some (.array _ _), _, _ => none
    | some .bool, x, y => eqSM x y
    | some (.int _), .int k a, .int k' b => if k = k' then some (a == b) else none
    | some .string, .str a, .str b => some (a == b)
    | _, _, _ => none
def eqM {T : Nat → Type} (t : TypeId) (x y : TV T) : Option Bool :=
  match E.P.underlying t, x, y with
  | some (.struct _), .agg a, .agg b => if E.P.eqGuardType E.P.depth t then none else eqTM E 8 t (.agg a) (.agg b)
  | some (.array _ _), .agg a, .agg b => if E.P.eqGuardType E.P.depth t then none else eqTM E 8 t (.agg a) (.agg b)
  | some (.func ..), .nilf, .nilf => some true
  | some (.func ..), .nilf, .fn _ _ _ => some false
  | some (.func ..), .fn _ _ _, .nilf => some false
  | some .bool, x, y => eqSM x y
  | _, _, _ => none
def intM (op : BinOp) (k : IntKind) (x y : Int) : Option (Res R) :=
  match op with
  | .add => some (.t (.int k (k.wrap (x + y))))
  | .sub => some (.t (.int k (k.wrap (x - y))))
  | .mul => some (.t (.int k (k.wrap (x * y))))
  | .quo => some (.c (!(y == 0)) (.int k (k.wrap (x.tdiv y))))
  | .rem => some (.c (!(y == 0)) (.int k (x.tmod y)))
  | .and => some (.t (.int k (k.wrap (BitVec.ofInt k.bits x &&& BitVec.ofInt k.bits y).toNat)))
  | .or => some (.t (.int k (k.wrap (BitVec.ofInt k.bits x ||| BitVec.ofInt k.bits y).toNat)))
  | .xor => some (.t (.int k (k.wrap (BitVec.ofInt k.bits x ^^^ BitVec.ofInt k.bits y).toNat)))
  | .andNot => some (.t (.int k (k.wrap (BitVec.ofInt k.bits x &&& ~~~BitVec.ofInt k.bits y).toNat)))
  | .eql => some (.t (.bool (x == y)))
  | .neq => some (.t (.bool (x != y)))
  | .lss => some (.t (.bool (decide (x < y))))
  | .leq => some (.t (.bool (decide (x ≤ y))))
  | .gtr => some (.t (.bool (decide (x > y))))
  | .geq => some (.t (.bool (decide (x ≥ y))))
  | _ => none
def shiftM (op : BinOp) (k : IntKind) (x y : Int) : Option (Res R) :=
  match op with
  | .shl => some (.c (decide (0 ≤ y)) (.int k (k.wrap (x * 2 ^ min y.toNat k.bits))))
  | .shr => some (.c (decide (0 ≤ y)) (.int k (x.fdiv (2 ^ min y.toNat k.bits))))
  | _ => none
def strM (op : BinOp) (x y : List UInt8) : Option (Res R) :=
  match op with
  | .add => some (.c (decide (((x.length + y.length : Nat) : Int) ≤ IntKind.i64.max)) (.str (x ++ y)))
  | .eql => some (.t (.bool (x == y)))
  | .neq => some (.t (.bool (!(x == y))))
  | .lss => some (.t (.bool (Op.bytesLess x y)))
  | .leq => some (.t (.bool (Op.bytesLess x y || x == y)))
  | .gtr => some (.t (.bool (!(Op.bytesLess x y || x == y))))
  | .geq => some (.t (.bool (!(Op.bytesLess x y))))
  | _ => none
def isShift : BinOp → Bool
  | .shl => true
  | .shr => true
  | _ => false
def binM (op : BinOp) (t : TypeId) (x y : TV R.T) : Option (Res R) :=
  match x, y with
  | .int k a, .int k' b => bif isShift op then shiftM R op k a b else (if k = k' then intM R op k a b else none)
  | .str a, .str b => strM R op a b
  | x, y => match op with
    | .eql => match eqM E t x y with
      | some b => some (.t (.bool b))
      | none => none
    | .neq => match eqM E t x y with
      | some b => some (.t (.bool (!b)))
      | none => none
    | _ => none
def unM (op : UnOp) (x : TV R.T) : Option (Res R) :=
  match op, x with
  | .neg, .int k n => some (.t (.int k (k.wrap (0 - n))))
  | .xor, .int k n => intM R .xor k (if k.signed then -1 else k.max) n
  | .not, .bool b => some (.t (.bool (!b)))
  | .not, .blit b => some (.t (.blit (!b)))
  | _, _ => none
def convM (src dst : TypeId) (x : TV R.T) : Option (Res R) :=
  match E.P.underlying src, E.P.underlying dst, x with
  | some _, some (.int k), .int _ n => some (.t (.int k (k.wrap n)))
  | some _, some .string, .str s => some (.t (.str s))
  | some _, some (.slice e), .str s => match E.P.underlying e with
    | some (.int .u8) => some (.t (.lst .any (.int .u8) (s.map fun b => ((b.toNat : Nat) : Int))))
    | _ => none
  | some (.slice e), some .string, .lst _ (.int .u8) l => match E.P.underlying e with
    | some (.int .u8) => some (.t (.str (List.map (fun n : Int => UInt8.ofNat n.toNat) l)))
    | _ => none
  | some (.slice e), some .string, .nils => match E.P.underlying e with
    | some (.int .u8) => some (.t (.str []))
    | _ => none
  | _, _, _ => none
def inB (i : Int) (n : Nat) : Bool := decide (0 ≤ i ∧ i ≤ n)
def bndM : Option (TV R.T) → Option (Option Int)
  | none => some none
  | some (.int _ n) => some (some n)
  | _ => none
def subL {α : Type} (l : List α) : Option Int → Option Int → List α
  | none, none => l
  | some i, none => l.drop i.toNat
  | none, some j => l.take j.toNat
  | some i, some j => (l.take j.toNat).drop i.toNat
def subB (n : Nat) : Option Int → Option Int → Bool
  | none, none => true
  | some i, none => inB i n
  | none, some j => inB j n
  | some i, some j => inB j n && inB i j.toNat
def sliceM (t : TypeId) (x : TV R.T) (lo hi : Option (TV R.T)) : Option (Res R) :=
  match bndM R lo, bndM R hi with
  | some lo, some hi => match E.P.underlying t, x with
    | some .string, .str s => some (.c (subB s.length lo hi) (.str (subL s lo hi)))
    | some (.slice e), .lst _ u l => match szT E.P e with
      | some sz => bif Nat.beq sz (szD R u) then some (.c (subB l.length lo hi) (.lst .any u (subL l lo hi))) else none
      | none => none
    | _, _ => none
  | _, _ => none
def fieldsM {T : Nat → Type} (t : TypeId) (f : Nat) (x : TV T) : Option (TV T) :=
  match fieldT E.P t f with
  | some (o, _) => match x with
    | .ref p off => some (.ref p (off + o))
    | .cref cs off => some (.cref cs (off + o))
    | .eref p t i off => some (.eref p t i (off + o))
    | _ => none
  | none => none
def beqD (R : Reg) : (t : Ty) → Den R.T t → Den R.T t → Bool
  | .int _ => fun (a b : Int) => a == b
  | .bool => fun (a b : Bool) => a == b
  | .str => fun (a b : List UInt8) => a == b
  | .slice _ => fun _ _ => false
  | .st _ => fun _ _ => false
def keyM (t : TypeId) (k : Ty) : Bool := match E.P.underlying t, k with
  | some (.int _), .int _ => true
  | some .string, .str => true
  | some .bool, .bool => true
  | _, _ => false
def mget {α β : Type} (eq : α → α → Bool) (x : α) : List (α × β) → Option β
  | [] => none
  | (a, v) :: m => bif eq x a then some v else mget eq x m
def mset {α β : Type} (eq : α → α → Bool) (x : α) (v : β) : List (α × β) → List (α × β)
  | [] => [(x, v)]
  | (a, w) :: m => bif eq x a then (x, v) :: m else (a, w) :: mset eq x v m
def optGet {α : Type} (d : α) : Option α → α
  | some x => x
  | none => d
def unE (t : Ty) (v : TV R.T) : Option (Den R.T t) := bif stV v then unD R t v else none
def lookM (t : TypeId) (k e : Ty) (m : List (Den R.T k × Den R.T e)) (x : TV R.T) (ok : Bool) : Option (Res R) :=
  match mapT E.P t with
  | some (kt, et) => bif keyM E kt k then (match zeroM (T := R.T) E et with
    | some z => match unD R e z, unD R k x with
      | some z, some x => some (.t (bif ok then .tup [tvD R .any e (optGet z (mget (beqD R k) x m)), .bool (mget (beqD R k) x m).isSome] else tvD R .any e (optGet z (mget (beqD R k) x m))))
      | _, _ => none
    | none => none) else none
  | none => none
def lookupM (t : TypeId) (m x : TV R.T) (ok : Bool) (st : MS R.T) : Option (Res R) :=
  match m with
  | .mapr o => match rdOb st o with
    | some (.map k e m) => lookM E R t k e m x ok
    | _ => none
  | .mapc k e m => lookM E R t k e m x ok
  | .nilm => match mapT E.P t with
    | some (kt, et) => match R.ty kt, R.ty et with
      | some k, some e => lookM E R t k e [] x ok
      | _, _ => none
    | none => none
  | _ => none
def eqKM {T : Nat → Type} : TV T → TV T → Option Bool
  | .int k a, .int k' b => if k = k' then some (a == b) else none
  | .str a, .str b => some (a == b)
  | _, _ => none
def keyS {T : Nat → Type} (t : TypeId) : TV T → Bool := fun v => match E.P.underlying t, v with
  | some (.int _), .int _ _ => true
  | some .string, .str _ => true
  | _, _ => false
def setS {T : Nat → Type} (x v : TV T) : List (TV T) → List (TV T) → Option (List (TV T) × List (TV T))
  | [], [] => some ([x], [v])
  | a :: ks, w :: vs => match eqKM x a with
    | some b => bif b then some (x :: ks, v :: vs) else (match setS x v ks vs with
      | some (ks, vs) => some (a :: ks, w :: vs)
      | none => none)
    | none => none
  | _, _ => none
def updateM (t : TypeId) (m x v : TV R.T) (st : MS R.T) : Option (Res R) :=
  match m with
  | .mapr o => match look st.ob o with
    | some (.map k e m) => match mapT E.P t with
      | some (kt, _) => bif keyM E kt k then (match unD R k x, unE R e v with
        | some x, some v => some (.w .undef (st.set o (.map k e (mset (beqD R k) x v m))))
        | _, _ => none) else none
      | none => none
    | some (.smap ks vs) => match mapT E.P t with
      | some (kt, _) => bif keyS E kt x then (match setS x v ks vs with
        | some (ks, vs) => some (.w .undef (st.set o (.smap ks vs)))
        | none => none) else none
      | none => none
    | _ => none
  | _ => none
def isSt : Ty → Bool
  | .st _ => true
  | _ => false
def elM (t : TypeId) : Option (TypeId × Ty × Nat × Nat) :=
  match elemT E.P t with
  | some e => match R.ty e, szT E.P e, bytesT E.P e, isAggT E.P e, zeroT E.P e with
    | some u, some sz, some by_, some ag, some z => bif Nat.beq sz (szD R u) && Nat.blt 0 sz && (ag || Nat.beq sz 1) && Nat.beq z.cells.length sz && (ag == isSt u) then some (e, u, sz, by_) else none
    | _, _, _, _, _ => none
  | none => none
def unDs (t : Ty) (n : Nat) : List (Nat × TV R.T) → Option (List (Den R.T t))
  | [] => some []
  | (i, v) :: l => bif Nat.beq i n then (match unD R t v with
    | some x => match unDs t (n + 1) l with
      | some y => some (x :: y)
      | none => none
    | none => none) else none
def bslM (t : TypeId) (len : Nat) (ps : List (Nat × TV R.T)) : Option (Res R) :=
  match elM E R t with
  | some (_, u, sz, _) => bif Nat.ble (len * sz) (2 ^ 24) && Nat.beq ps.length len then (match unDs R u 0 ps with
    | some l => some (.t (.lst .full u l))
    | none => none) else none
  | none => none
def srcM (u : Ty) : TV R.T → Option (List (Den R.T u))
  | .lst _ _ l => castL R l
  | .nils => some []
  | .str s => castL (t := .int .u8) (u := u) R (s.map fun b => ((b.toNat : Nat) : Int))
  | _ => none
def dstM (u : Ty) (d : Nat) : TV R.T → Option (Nat × List (Den R.T u))
  | .lst .nil _ l => match castL R l with
    | some l => some (d, l)
    | none => none
  | .lst .full _ l => match castL R l with
    | some l => some (d, l)
    | none => none
  | .lst (.own t) _ l => match castL R l with
    | some l => some (t, l)
    | none => none
  | .nils => some (d, [])
  | _ => none
def isSS (t : TypeId) : Bool := match E.P.underlying t with
  | some (.slice _) => true
  | some .string => true
  | _ => false
def appM (d : Option Nat) (t u : TypeId) (x y : TV R.T) (st : MS R.T) : Option (Res R) :=
  match d with
  | some d => match elM E R t with
    | some (_, τ, _, by_) => bif isSS E u then (match dstM R τ d x, srcM R τ y with
      | some (tk, l), some l' => some (.wc (roomOK (l.length + l'.length) by_) (.lst (.own tk) τ (l ++ l')) (st.wk tk))
      | _, _ => none) else none
    | none => none
  | none => none
def appOM (d : Option Nat) (t u : TypeId) (x y : TV R.T) (st : MS R.T) : Option (Res R) :=
  match d with
  | some d => match elM E R t with
    | some (_, τ, _, by_) => bif isSS E u then (match srcM R τ y with
      | some l' => match x with
        | .vw o τ0 => if τ0 = τ then (match look st.ob o with
          | some (.arr τ' l) => match l', castL R (u := τ) l with
            | a :: l', some l => some (.wc (roomOK (l.length + (a :: l').length) by_) (.vw d τ) ((st.del o).new d (.arr τ (l ++ a :: l'))))
            | _, _ => none
          | _ => none) else none
        | x => bif isE x then some (.wc (roomOK l'.length by_) (.vw d τ) (st.new d (.arr τ l'))) else none
      | none => none) else none
    | none => none
  | none => none
def mksM (om : Bool) (d : Option Nat) (t : TypeId) (n m : TV R.T) (st : MS R.T) : Option (Res R) :=
  match d, elM E R t, n, m with
  | some d, some (e, τ, _, by_), .int _ n, .int _ m => match zeroM (T := R.T) E e with
    | some z => match unD R τ z with
      | some z => bif om then some (.wc (decide (0 ≤ n ∧ n = m ∧ m ≤ 2 ^ 47) && roomOK m.toNat by_) (.vw d τ) (st.new d (.arr τ (List.replicate n.toNat z))))
        else some (.wc (decide (n = 0 ∧ 0 ≤ m ∧ m ≤ 2 ^ 47) && roomOK m.toNat by_) (.lst (.own d) τ []) (st.wk d))
      | none => none
    | none => none
  | _, _, _, _ => none
def mmM {T : Nat → Type} (mx : Bool) : TV T → List (TV T) → Option (TV T)
  | x, [] => some x
  | .int k a, .int k' b :: l => if k = k' then mmM mx (.int k (bif mx then imax a b else imin a b)) l else none
  | _, _ => none
def lenM {T : Nat → Type} (t : TypeId) (x : TV T) (st : MS T) : Option Nat :=
  match E.P.underlying t, x with
  | some (.slice _), .lst _ _ l => some l.length
  | some (.slice _), .nils => some 0
  | some (.slice _), .vw o _ => match rdOb st o with
    | some (.arr _ l) => some l.length
    | _ => none
  | some .string, .str s => some s.length
  | some (.map _ _), .mapr o => match rdOb st o with
    | some (.map _ _ m) => some m.length
    | _ => none
  | some (.map _ _), .mapc _ _ m => some m.length
  | some (.map _ _), .nilm => some 0
  | some (.array n _), _ => some n
  | _, _ => none
def blt (om : Bool) (d : Option Nat) (b : Builtin) (tys : Array TypeId) (args : List (TV R.T)) (st : MS R.T) : Option (Res R) :=
  match b, args with
  | .len, [x] => match tys[0]? with
    | some t => match lenM E t x st with
      | some n => some (.t (.int .i64 ((n : Nat) : Int)))
      | none => none
    | none => none
  | .append, [x, y] => match tys[0]?, tys[1]? with
    | some t, some u => bif om then appOM E R d t u x y st else appM E R d t u x y st
    | _, _ => none
  | .min, x :: l => match mmM false x l with
    | some v => some (.t v)
    | none => none
  | .max, x :: l => match mmM true x l with
    | some v => some (.t v)
    | none => none
  | _, _ => none
def retT : List (TV R.T) → TV R.T
  | [v] => v
  | vs => .tup vs
def findF (args cargs : List (TV R.T)) : List (FR R) → Option (Res R)
  | [] => none
  | r :: l => match pkL R r.args cargs with
    | some p => bif cSkL r.args && Nat.ble (depL r.args) 18 && cSkL r.res && (clVs args || flatSk r.res) then some (.p (PayL R.T r.res) r.d (r.F p) fun x => retT R (upL R .sh r.res x)) else none
    | none => findF args cargs l
def iaM (t : TypeId) (x i : TV R.T) : Option (Res R) :=
  match E.P.underlying t, x, i with
  | some (.slice e), .lst _ u l, .int _ n => match szT E.P e with
    | some sz => bif Nat.beq sz (szD R u) then some (.p (Den R.T u) (dfl R u) (idxL l n) fun y => .cref (tvD R .sh u y).cells 0) else none
    | none => none
  | some (.array n e), .ref o off, .int _ k => match szT E.P e with
    | some sz => some (.c (decide (0 ≤ k ∧ k < n)) (.ref o (off + k.toNat * sz)))
    | none => none
  | some (.array n e), .cref cs off, .int _ k => match szT E.P e with
    | some sz => some (.c (decide (0 ≤ k ∧ k < n)) (.cref cs (off + k.toNat * sz)))
    | none => none
  | _, _, _ => none
def ivM (t : TypeId) (o : Nat) (τ : Ty) (i : TV R.T) (st : MS R.T) : Option (Res R) :=
  match E.P.underlying t, i with
  | some (.slice e), .int _ n => match szT E.P e with
    | some sz => bif Nat.beq sz (szD R τ) then (match rdOb st o with
      | some (.arr _ l) => some (.c (decide (0 ≤ n ∧ n < ((l.length : Nat) : Int))) (.eref o τ n 0))
      | _ => none) else none
    | none => none
  | _, _ => none
def getTV {T : Nat → Type} : Option (TV T) → TV T
  | some v => v
  | none => .gone
def elLd (t : TypeId) (τ : Ty) (i : Int) (off : Nat) (o : Ob R.T) : Option (Res R) :=
  match o with
  | .arr τ' l => match castL R (u := τ) l with
    | some l => bif (ldM E t (tvD R .any τ (dfl R τ)).cells off).isSome then some (.p (Den R.T τ) (dfl R τ) (idxL l i) fun y => getTV (ldM E t (tvD R .any τ y).cells off)) else none
    | none => none
  | _ => none
def unC (τ : Ty) (cs : List (TV R.T)) : Option (Den R.T τ) := match τ with
  | .st n => unSt R n (.agg cs)
  | .int k => un1 R (.int k) (hd1 R cs)
  | .bool => un1 R .bool (hd1 R cs)
  | .str => un1 R .str (hd1 R cs)
  | .slice t => un1 R (.slice t) (hd1 R cs)
def ixM (t : TypeId) (x i : TV R.T) : Option (Res R) :=
  match E.P.underlying t, x, i with
  | some .string, .str s, .int _ n => some (.p UInt8 0 (idxL s n) fun b => .int .u8 ((b.toNat : Nat) : Int))
  | _, _, _ => none
def muxM {T : Nat → Type} (c : Bool) : TV T → TV T → Option (TV T)
  | .int k a, .int k' b => if k = k' then some (.int k (bif c then a else b)) else none
  | .bool a, .bool b => some (.bool (bif c then a else b))
  | .bool a, .blit b => some (.bool (bif c then a else b))
  | .blit a, .bool b => some (.bool (bif c then a else b))
  | .blit a, .blit b => some (.bool (bif c then a else b))
  | .str a, .str b => some (.str (bif c then a else b))
  | _, _ => none
def partsM (t : TypeId) : Option (Nat → Option (Nat × Nat)) := partsT E t
def opM (om : Bool) (F : Nat → List (FR R)) (g : List (Nat × Bool)) (d : Option Nat) (o : Op) (st : MS R.T) : Option (Res R) :=
  match o with
  | .move x => match evM g st x with
    | some v => some (.t v)
    | none => none
  | .assign x => match evM g st x with
    | some v => some (.t v)
    | none => none
  | .pick c a b => match c with
    | .tmp j => match evM g st c with
      | some (.bool t) => match evM ((j, true) :: g) st a, evM ((j, false) :: g) st b with
        | some x, some y => match muxM t x y with
          | some v => some (.t v)
          | none => none
        | _, _ => none
      | some (.blit t) => match evM g st (bif t then a else b) with
        | some v => some (.t v)
        | none => none
      | _ => none
    | _ => none
  | .alloc t => match d, zeroM E t with
    | some d, some z => bif oneMs z.cells && !(mentL d z.cells) then some (.w (.ref d 0) (st.new d (.cells z.cells))) else none
    | _, _ => none
  | .box _ x => match d, evM g st x with
    | some d, some v => bif oneMs v.cells && notG v && !(mentL d v.cells) then some (.w (.ref d 0) (st.new d (.cells v.cells))) else none
    | _, _ => none
  | .build t parts => match partsT E t, zeroM (T := R.T) E t, evPs g st parts.toList with
    | some pl, some z, some ps => match fillM pl z.cells ps with
      | some cs => some (.t (.agg cs))
      | none => none
    | _, _, _ => none
  | .buildSlice t len parts => match evPs g st parts.toList with
    | some ps => bslM E R t len ps
    | none => none
  | .load t a => match evM g st a with
    | some (.ref o off) => match rdOb st o with
      | some (.cells cs) => match ldM E t cs off with
        | some v => some (.t v)
        | none => none
      | _ => none
    | some (.cref cs off) => match ldM E t cs off with
      | some v => some (.t v)
      | none => none
    | some (.eref o τ i off) => match rdOb st o with
      | some b => elLd E R t τ i off b
      | none => none
    | _ => none
  | .store t a x => match evM g st a, evM g st x with
    | some (.ref o off), some v => match look st.ob o, szT E.P t with
      | some (.cells cs), some sz => bif Nat.beq v.cells.length sz && Nat.ble (off + v.cells.length) cs.length && oneMs v.cells && notG v then
          some (.w .undef (st.set o (.cells (spliceM cs off v.cells)))) else none
      | _, _ => none
    | _, _ => none
  | .nilCheck x => match evM g st x with
    | some (.ref o off) => some (.t (.ref o off))
    | some (.cref cs off) => some (.t (.cref cs off))
    | some (.eref o τ i off) => some (.t (.eref o τ i off))
    | some (.fn f a b) => some (.t (.fn f a b))
    | _ => none
  | .binOp op t x y _ => match evM g st x, evM g st y with
    | some x, some y => binM E R op t x y
    | _, _ => none
  | .unOp op _ x => match evM g st x with
    | some x => unM R op x
    | none => none
  | .convert a b x => match evM g st x with
    | some x => convM E R a b x
    | none => none
  | .makeFunc (.func f) a b => match evMs g st a.toList, evMs g st b.toList with
    | some a, some b => some (.t (.fn f a b))
    | _, _ => none
  | .makeMap t none => match d, mapT E.P t with
    | some d, some (k, e) => match R.ty k, R.ty e with
      | some k, some e => some (.w (.mapr d) (st.new d (.map k e [])))
      | _, _ => some (.w (.mapr d) (st.new d (.smap [] [])))
    | _, _ => none
  | .makeSlice t l c => match evM g st l, evM g st c with
    | some n, some m => mksM E R om d t n m st
    | _, _ => none
  | .slice t x lo hi none => match evM g st x with
    | some x => match lo, hi with
      | none, none => sliceM E R t x none none
      | some lo, none => match evM g st lo with
        | some lo => sliceM E R t x (some lo) none
        | none => none
      | none, some hi => match evM g st hi with
        | some hi => sliceM E R t x none (some hi)
        | none => none
      | some lo, some hi => match evM g st lo, evM g st hi with
        | some lo, some hi => sliceM E R t x (some lo) (some hi)
        | _, _ => none
    | none => none
  | .fieldAddr t x f => match evM g st x with
    | some x => match fieldsM E t f x with
      | some v => some (.t v)
      | none => none
    | none => none
  | .field t x f => match fieldT E.P t f, evM g st x with
    | some (o, u), some (.agg cs) => match ldM E u cs o with
      | some v => some (.t v)
      | none => none
    | _, _ => none
  | .indexAddr t x i => match evM g st x, evM g st i with
    | some (.vw o τ), some i => ivM E R t o τ i st
    | some x, some i => iaM E R t x i
    | _, _ => none
  | .index t x i => match evM g st x, evM g st i with
    | some x, some i => ixM E R t x i
    | _, _ => none
  | .lookup t x i ok => match evM g st x, evM g st i with
    | some x, some i => lookupM E R t x i ok st
    | _, _ => none
  | .mapUpdate t m k v => match evM g st m, evM g st k, evM g st v with
    | some m, some k, some v => updateM E R t m k v st
    | _, _, _ => none
  | .insert t m k v => match evM g st m, evM g st k, evM g st v with
    | some m, some k, some v => updateM E R t m k v st
    | _, _, _ => none
  | .extract x i => match evM g st x with
    | some (.tup vs) => match vs[i]? with
      | some v => some (.t v)
      | none => none
    | _ => none
  | .call c => match c.callee with
    | .builtin b => match evMs g st c.args.toList with
      | some vs => blt E R om d b c.argTypes vs st
      | none => none
    | .value f => match evM g st f, evMs g st c.args.toList with
      | some (.fn f a b), some vs => bif E.imp f then none else findF R (a ++ vs ++ b) (cloMs st (a ++ vs ++ b)) (F f)
      | _, _ => none
    | _ => none
  | _ => none
inductive Gd where
  | no
  | run
  | skip
  | dyn (j : Nat) (w : Bool) (c : Bool) (g : List (Nat × Bool))
def eqw (b w : Bool) : Bool := bif w then b else !b
def andB (a b : Bool) : Bool := bif a then b else false
def effM {T : Nat → Type} (st : MS T) : Nat → Nat → Bool → Option (Bool × List (Nat × Bool))
  | 0, _, _ => none
  | n + 1, j, w => match look st.fr j with
    | some (.bool b) => some (eqw b w, [(j, w)])
    | some (.opt i u (.bool b)) => match effM st n i u with
      | some (c, g) => some (andB c (eqw b w), (j, w) :: g)
      | none => none
    | some (.opt i u (.blit b)) => match effM st n i u with
      | some (c, g) => some (andB c (eqw b w), (j, w) :: g)
      | none => none
    | _ => none
def guardM {T : Nat → Type} (all : List Oper) (st : MS T) (o : Oper) : Gd :=
  match o.guard with
  | none => .run
  | some (j, w) => match all[j]? with
    | some p => match p.dst with
      | some t => match look st.fr t with
        | some (.blit b) => bif b == w then .run else .skip
        | some .undef => .skip
        | _ => match effM st 12 t w with
          | some (c, g) => .dyn t w c g
          | none => .no
      | none => .skip
    | none => .skip
def MS.learnG {T : Nat → Type} (st : MS T) : List (Nat × Bool) → MS T
  | [] => st
  | (j, w) :: g => (st.learnG g).learn j w
def MS.learnN {T : Nat → Type} (st : MS T) : List (Nat × Bool) → MS T
  | [(j, w)] => st.learn j (!w)
  | _ => st
def whenO {α : Type} (c : Bool) (o : Option α) (d : α) : Option α := bif c then o else some d
def lookSM (st : MS R.T) (t : TypeId) (m x : Operand) : Option (List (TV R.T) × List (TV R.T) × TV R.T × TV R.T) :=
  match evM [] st m with
  | some (.mapr o) => match rdOb st o with
    | some (.smap ks vs) => match evM [] st x, mapT E.P t with
      | some x, some (kt, et) => match zeroM (T := R.T) E et with
        | some z => bif keyS E kt x then some (ks, vs, x, z) else none
        | none => none
      | _, _ => none
    | _ => none
  | _ => none
def lookS {T : Nat → Type} {β : Type} (x : TV T) : List (TV T) → List (TV T) → TV T → (TV T → Bool → Option β) → Option β
  | [], [], z, k => k z false
  | a :: ks, v :: vs, z, k => match eqKM x a with
    | some b => bif b then k v true else lookS x ks vs z k
    | none => none
  | _, _, _, _ => none
section
variable (om : Bool) {β : Type} (F : Nat → List (FR R))
def elSt (t : TypeId) (a x : Operand) (st : MS R.T) : Option ((τ : Ty) × Nat × Int × Nat × List (Den R.T τ) × TV R.T) :=
  match evM [] st a, evM [] st x with
  | some (.eref o τ i off), some v => match look st.ob o, szT E.P t with
    | some (.arr τ' l), some sz => match castL R (u := τ) l with
      | some l => bif Nat.beq v.cells.length sz && Nat.ble (off + v.cells.length) (szD R τ) && oneMs v.cells && notG v then some ⟨τ, o, i, off, l, v⟩ else none
      | none => none
    | _, _ => none
  | _, _ => none
def setL {α : Type} (l : List α) (i : Int) (y : α) : List α := l.set i.toNat y
def runM (o : Oper) (st : MS R.T) (k : MS R.T → Option β) : Option β :=
  match o.op with
  | .pick c a b => match evM [] st c with
    | some (.blit t) => match evM [] st (bif t then a else b) with
      | some v => k (st.putO o.dst v)
      | none => none
    | some (.bool t) => match c with
      | .tmp j => match evM [(j, true)] st a, evM [(j, false)] st b with
        | some x, some y => match muxM t x y with
          | some v => k (st.putO o.dst v)
          | none => bif t then k ((st.learn j true).putO o.dst x) else k ((st.learn j false).putO o.dst y)
        | _, _ => none
      | _ => none
    | _ => none
  | .store t a x => match elSt E R t a x st with
    | some ⟨τ, p, i, off, l, v⟩ => (idxL l i).bind fun y => match unC R τ (spliceM (tvD R .any τ y).cells off v.cells) with
      | some y' => k ((st.set p (.arr τ (setL l i y'))).putO o.dst .undef)
      | none => none
    | none => match opM E R om F [] o.dst (.store t a x) st with
      | some (.w v st') => k (st'.putO o.dst v)
      | _ => none
  | .lookup t m x ok => match lookSM E R st t m x with
    | some (ks, vs, x, z) => lookS x ks vs z fun v b => k (st.putO o.dst (bif ok then .tup [v, .blit b] else v))
    | none => match opM E R om F [] o.dst (.lookup t m x ok) st with
      | some (.t v) => k (st.putO o.dst v)
      | _ => none
  | op => match opM E R om F [] o.dst op st with
    | some (.t v) => k (st.putO o.dst v)
    | some (.c b v) => bif b then k (st.putO o.dst v) else none
    | some (.w v st') => k (st'.putO o.dst v)
    | some (.wc b v st') => bif b then k (st'.putO o.dst v) else none
    | some (.p _ _ x f) => x.bind fun a => k (st.putO o.dst (f a))
    | none => none
def impB (b c : Bool) : Bool := bif b then c else true
def dynM (o : Oper) (j : Nat) (w c : Bool) (g : List (Nat × Bool)) (st : MS R.T) (k : MS R.T → Option β) : Option β :=
  match o.dst with
  | some d => match (bif memN d (g.map (·.1)) then none else opM E R om F g o.dst o.op st) with
    | some (.t v) => k (st.put d (.opt j w v))
    | some (.c b v) => bif impB c b then k (st.put d (.opt j w v)) else none
    | some (.p _ z x f) => (whenO c x z).bind fun a => k (st.put d (.opt j w (f a)))
    | _ => bif c then runM E R om F o (st.learnG g) k else k ((st.learnN g).putO o.dst .undef)
  | none => bif c then runM E R om F o (st.learnG g) k else k ((st.learnN g).putO o.dst .undef)
def opsM (all : List Oper) : List Oper → MS R.T → (MS R.T → Option β) → Option β
  | [], st, k => k st
  | o :: os, st, k => match guardM all st o with
    | .run => runM E R om F o st (fun st => opsM all os st k)
    | .skip => opsM all os (st.putO o.dst .undef) k
    | .dyn j w c g => dynM E R om F o j w c g st (fun st => opsM all os st k)
    | .no => none
def refKM {T : Nat → Type} : TV T → List Key
  | .ref o _ => [.obj (1, o)]
  | .mapr o => [.obj (1, o)]
  | .eref o _ _ _ => [.obj (1, o)]
  | _ => []
def rkM {T : Nat → Type} (st : MS T) (x : Operand) : List Key := match evM [] st x with
  | some v => refKM v
  | none => []
def dstKM (o : Oper) : List Key := match o.dst with
  | some t => [.obj (1, t)]
  | none => []
def footSM (om : Bool) {T : Nat → Type} (st : MS T) (o : Oper) : Foot :=
  match o.op with
  | .move _ | .assign _ | .pick .. | .build .. | .buildSlice .. | .nilCheck _ | .binOp .. | .unOp .. | .makeInterface .. | .makeFunc .. | .fieldAddr .. | .field .. | .indexAddr .. | .index .. | .extract ..
  | .sliceToArrayPointer .. => rdF []
  | .convert _ _ x | .slice _ x _ _ _ | .load _ x | .lookup _ x _ _ => rdF (rkM st x)
  | .alloc _ | .box .. | .makeMap .. => wrF (dstKM o)
  | .makeSlice .. => wrF (.top :: dstKM o)
  | .store _ a _ => wrF (rkM st a)
  | .mapUpdate _ m _ _ | .insert _ m _ _ => wrF (rkM st m)
  | .call c => match c.callee with
    | .builtin b => match b with
      | .len | .cap | .min | .max => rdF (c.args.toList.flatMap fun x => rkM st x)
      | .append => bif om then allF else ⟨false, false, c.args.toList.flatMap fun x => rkM st x, [.top]⟩
      | _ => allF
    | .value f => match evM [] st f with
      | some (.fn g _ _) => if E.imp g then allF else rdF []
      | _ => allF
    | _ => allF
  | _ => allF
def footM (om : Bool) {T : Nat → Type} (all : List Oper) (st : MS T) (o : Oper) (wanted : Bool) : Foot :=
  if wanted then let f := footSM E om st o; ⟨f.tAll, f.wAll, slotsT all o ++ f.t, slotsW o ++ f.w⟩
  else ⟨false, false, slotsT all o, slotsW o⟩
def notV {T : Nat → Type} : TV T → Bool
  | .gone => false
  | .opt _ _ _ => false
  | .vw _ _ => false
  | _ => true
def drOK {T : Nat → Type} (st : MS T) (o : Oper) : Bool :=
  match o.op with
  | .call c => match c.callee with
    | .value f => match evM [] st f, evMs [] st c.args.toList with
      | some (.fn _ a b), some vs => clVs (a ++ vs ++ b)
      | _, _ => false
    | .builtin _ => match evMs [] st c.args.toList with
      | some vs => vs.all notV
      | none => false
    | _ => true
  | _ => true
def opsDM (ms : List Nat) (all : List Oper) : List Oper → MS R.T → List Foot → (MS R.T → Option β) → Option β
  | [], st, fs, k => bif pairsOK ms fs then k st else none
  | o :: os, st, fs, k => match guardM all st o with
    | .run => bif !(drOK st o) then none else runM E R om F o st (fun st' => opsDM ms all os st' (fs ++ [footM E om all st o true]) k)
    | .skip => opsDM ms all os (st.putO o.dst .undef) (fs ++ [footM E om all st o false]) k
    | .dyn _ _ c g => bif c then bif !(drOK (st.learnG g) o) then none else runM E R om F o (st.learnG g) (fun st' => opsDM ms all os st' (fs ++ [footM E om all (st.learnG g) o true]) k)
      else opsDM ms all os ((st.learnN g).putO o.dst .undef) (fs ++ [footM E om all st o false]) k
    | .no => none
end
def loopF {R : Reg} (key : Nat) (W : List Nat) (b : MS R.T) (sh : Shape) (outs : List (Ex × Shape)) (body : {β : Type} → MS R.T → (Ex → MS R.T → Option β) → Option β) : Nat → Pay R.T sh → Option (Out R.T outs)
  | 0, _ => none
  | m + 1, p => body (b.over (unpack R sh p)) fun e st => match e with
    | .normal => match packW R W st sh with
      | some p => loopF key W b sh outs body m p
      | none => none
    | e => packOut R W e st outs
def MS.obs {T : Nat → Type} (st : MS T) : MS T := ⟨[], st.ob⟩
def foldF {R : Reg} {X : Type} (key : Nat) (W : List Nat) (b : MS R.T) (sh : Shape) (outs : List (Ex × Shape)) (body : {β : Type} → X → MS R.T → (Ex → MS R.T → Option β) → Option β) : List X → Pay R.T sh → Option (Out R.T outs)
  | [], p => packOut R W .normal (unpack R sh p).obs outs
  | x :: xs, p => body x (b.over (unpack R sh p)) fun e st => match e with
    | .normal => match packW R W st.obs sh with
      | some p => foldF key W b sh outs body xs p
      | none => none
    | e => packOut R W e st.obs outs
def findI {R : Reg} (a b : List (TV R.T)) : List (FI R) → Option ((el : List Sk) × Option (List (PayL R.T el)))
  | [] => none
  | i :: l => match pkL R i.a a, pkL R i.b b with
    | some pa, some pb => bif cSkL i.a && cSkL i.b && cSkL i.el && Nat.ble (depL i.a) 18 && Nat.ble (depL i.b) 18 then some ⟨i.el, i.F pa pb⟩ else none
    | _, _ => findI a b l
def disjO (O : List Nat) : List (Nat × ObSk) → Bool
  | [] => true
  | (o, _) :: l => !(memN o O) && disjO O l
def putPs {T : Nat → Type} (st : MS T) : List Nat → List (TV T) → Option (MS T)
  | [], [] => some st
  | i :: l, v :: vs => putPs (st.put i v) l vs
  | _, _ => none
def dstsL : List Oper → List Nat
  | [] => []
  | o :: l => match o.dst with
    | some d => d :: dstsL l
    | none => dstsL l
def wrC : Code → List Nat
  | .region _ ops _ => dstsL ops.toList
  | .seq a b => wrC a ++ wrC b
  | .cond _ a b => wrC a ++ wrC b
  | .block _ c => wrC c
  | .loop c => wrC c
  | .rangeFunc _ ps a b => ps.toList ++ wrC a ++ wrC b
  | _ => []
def firstId' : Code → Nat
  | .region i _ _ => i
  | .seq a _ => firstId' a
  | .loop a => firstId' a
  | .block _ a => firstId' a
  | .rangeFunc _ _ _ b => firstId' b
  | _ => 0
variable (n : Nat) (om : Bool) (F : Nat → List (FR R)) (I : Nat → List (FI R)) (A : Ann)
def codeM : Code → {β : Type} → MS R.T → (Ex → MS R.T → Option β) → Option β
  | .skip, _, st, k => k .normal st
  | .region _ ops dr, _, st, k => bif dr then (bif edgesOK ops.toList then opsDM E R om F (preM ops.toList) ops.toList ops.toList st [] (fun st => k .normal st) else none) else opsM E R om F ops.toList ops.toList st (fun st => k .normal st)
  | .seq a b, _, st, k =>
    match look A.joins (firstId' b) with
    | none => codeM a st fun e st => match e with
      | .normal => codeM b st k
      | e => k e st
    | some q => (codeM (β := Out R.T q.outs) a ((base (wrC a) q.K q.O .ro st).over st) fun e st => packOut R (wrC a) e st q.outs).bind (unpackOut R (base (wrC a) q.K q.O (fun b => b) st) (fun e st => match e with
      | .normal => codeM b st k
      | e => k e st) q.outs)
  | .cond c a b, _, st, k => match evM [] st c with
    | some (.blit t) => bif t then codeM a st k else codeM b st k
    | some (.bool t) => bif t then codeM a (st.learnO c true) k else codeM b (st.learnO c false) k
    | _ => none
  | .block id c, _, st, k => codeM c st fun e st => match e with
    | .exit i => bif Nat.beq i id then k .normal st else k (.exit i) st
    | e => k e st
  | .loop c, _, st, k => match look A.loops (firstId' c) with
    | some q => match packW R (wrC c) st q.sh with
      | some p => (loopF (firstId' c) (wrC c) (base (wrC c) q.K q.O .ro st) q.sh q.outs (fun st k => codeM c st k) n p).bind (unpackOut R (base (wrC c) q.K q.O (fun b => b) st) k q.outs)
      | none => none
    | none => none
  | .rangeFunc f ps a c, _, st, k => match look A.loops (firstId' c) with
    | some q => match evM [] st f with
      | some (.fn g u v) => bif stL u && stL v && disjO q.O q.sh.ob && noRange a && noRange c then (match findI u v (I g) with
        | some ⟨el, xs⟩ => match packW R (ps.toList ++ wrC a ++ wrC c) st.obs q.sh with
          | some p => (xs.bind fun xs => foldF (firstId' c) (ps.toList ++ wrC a ++ wrC c) (base (ps.toList ++ wrC a ++ wrC c) q.K q.O .ro st) q.sh q.outs (fun x st k => match putPs st ps.toList (upL R .sh el x) with
              | some st => codeM a st fun e st => match e with
                | .normal => codeM c st k
                | _ => none
              | none => none) xs p).bind (unpackOut R (base (ps.toList ++ wrC a ++ wrC c) q.K q.O (fun b => b) st) k q.outs)
          | none => none
        | none => none) else none
      | _ => none
    | none => none
  | .exit i, _, st, k => k (.exit i) st
  | .ret, _, st, k => k .ret st
  | _, _, _, _ => none
def resM {T : Nat → Type} (st : MS T) : List ResultVar → Option (List (TV T))
  | [] => some []
  | .tmp t :: l => match evM [] st (.tmp t) with
    | some v => match resM st l with
      | some vs => some (v :: vs)
      | none => none
    | none => none
  | .cell a t :: l => match evM [] st (.tmp a) with
    | some (.ref o off) => match rdOb st o with
      | some (.cells cs) => match ldM E t cs off with
        | some v => match resM st l with
          | some vs => some (v :: vs)
          | none => none
        | none => none
      | _ => none
    | _ => none
def initF {T : Nat → Type} : Nat → List (TV T) → List (Nat × TV T)
  | _, [] => []
  | i, v :: l => (i, v) :: initF (i + 1) l
def funM (fn : Func) (args res : List Sk) (p : PayL R.T args) : Option (PayL R.T res) :=
  match fn.body with
  | some c => codeM E R n om F I A c ⟨initF 0 (upL R .sh args p), []⟩ fun e st => match e with
    | .exit _ => none
    | _ => match resM E st fn.results.toList with
      | some vs => bif cSkL res && Nat.ble (depL res) 16 then pkL R res (cloMs st vs) else none
      | none => none
  | none => none
end
end Aq
end
