/- Part of the proof of a law: Pl1 Pl2 Pl3 Pl4 Pl5 Pl6 Pl7 Pl8 Pl9 Pl10. -/
import Derived.IntWalk
import Derived.Test.YteniejlbjfigdaaGreatDoorW17
set_option linter.all false
set_option linter.unusedSimpArgs false
set_option linter.unusedSectionVars false
section
open Go Go.Proofs Aq
namespace Sh
theorem idxL_nat {α : Type} (l : List α) (i : Nat) : idxL l (i : Int) = l[i]? := by
  unfold idxL
  by_cases h : i < l.length
  · rw [if_pos ⟨by omega, by omega⟩]; simp
  · rw [if_neg (by omega)]; simp; omega
theorem idxL_of {α : Type} {l : List α} {i : Nat} {x : α} (h : l[i]? = some x) : idxL l (i : Int) = some x := by rw [idxL_nat, h]
theorem lt_of_get {α : Type} {l : List α} {i : Nat} {x : α} (h : l[i]? = some x) : i < l.length := by
  rw [List.getElem?_eq_some_iff] at h; exact h.1
theorem dec_of {α : Type} {l : List α} {i : Nat} {x : α} (h : l[i]? = some x) : decide ((i : Int) < ((l.length : Nat) : Int)) = true := by
  have := lt_of_get h; simp; omega
theorem dec_end {α : Type} (l : List α) : decide (((l.length : Nat) : Int) < ((l.length : Nat) : Int)) = false := by simp
theorem wrap_succ {i : Nat} (h : i < 2 ^ 62) : IntKind.wrap .i64 ((i : Int) + (1 : Int)) = ((i + 1 : Nat) : Int) := by
  rw [IntKind.wrap_i64]; omega
def foldI {α β σ : Type} (step : α → Nat → σ → (σ → β) → β) (fin : σ → β) : Nat → List α → σ → β
  | _, [], s => fin s
  | i, x :: l, s => step x i s fun s => foldI step fin (i + 1) l s
theorem loop_st {α β σ : Type} {L : Nat → σ → Int → Option β} {l : List α} (step : α → Nat → σ → (σ → Option β) → Option β) (fin : σ → Option β)
    (hs : ∀ m (i : Nat) x s, l[i]? = some x → L (m + 1) s (i : Int) = step x i s fun s => L m s ((i + 1 : Nat) : Int)) (hf : ∀ m s, L (m + 1) s ((l.length : Nat) : Int) = fin s)
    (hc : ∀ x (i : Nat) s k k', (∀ s, k s = k' s) → step x i s k = step x i s k') : ∀ (k i m : Nat) (s : σ), i + k = l.length → k < m → L m s (i : Int) = foldI step fin i (l.drop i) s := by
  intro k
  induction k with
  | zero =>
    intro i m s hi hm
    obtain ⟨m, rfl⟩ : ∃ m', m = m' + 1 := ⟨m - 1, by omega⟩
    obtain rfl : i = l.length := by omega
    rw [hf, List.drop_length]; rfl
  | succ k ih =>
    intro i m s hi hm
    obtain ⟨m, rfl⟩ : ∃ m', m = m' + 1 := ⟨m - 1, by omega⟩
    have hlt : i < l.length := by omega
    have hx : l[i]? = some l[i] := List.getElem?_eq_getElem hlt
    rw [hs m i l[i] s hx, List.drop_eq_getElem_cons hlt]
    exact hc _ _ _ _ _ fun s => ih (i + 1) m s (by omega) (by omega)
theorem loop_ix {α β : Type} {L : Nat → Int → Option β} {l : List α} (step : α → Nat → Option β → Option β) (fin : Option β)
    (hs : ∀ m (i : Nat) x, l[i]? = some x → L (m + 1) (i : Int) = step x i (L m ((i + 1 : Nat) : Int))) (hf : ∀ m, L (m + 1) ((l.length : Nat) : Int) = fin) {m : Nat} (hm : l.length < m) :
    L m (0 : Int) = foldI (σ := Unit) (fun x i _ k => step x i (k ())) (fun _ => fin) 0 l () := by
  have := loop_st (L := fun m (_ : Unit) i => L m i) (l := l) (fun x i _ k => step x i (k ())) (fun _ => fin) (fun m i x _ h => hs m i x h) (fun m _ => hf m) (fun x i s k k' h => by rw [h]) l.length 0 m () (by omega) hm
  simpa using this
theorem foldI_find {α : Type} {γ : Type} (p : α → Bool) (f : Nat → γ) (z : γ) : ∀ (l : List α) (i : Nat), foldI (σ := Unit) (fun x i _ (k : Unit → Option γ) => bif p x then some (f i) else k ()) (fun _ => some z) i l () = some (match l.findIdx? p with | some j => f (i + j) | none => z)
  | [], i => rfl
  | x :: l, i => by
    show (bif p x then some (f i) else foldI _ _ (i + 1) l ()) = _
    rw [List.findIdx?_cons]
    cases hp : p x
    · rw [cond_false, foldI_find p f z l (i + 1)]
      simp only [Bool.false_eq_true, if_false]
      cases l.findIdx? p with
      | none => rfl
      | some j => simp only [Option.map_some]; rw [Nat.add_right_comm, Nat.add_assoc]
    · simp
def findD (s : Schema) (x : List UInt8) : Int := match s.Defs.findIdx? (fun d => d.Name == x) with
  | some i => (i : Int)
  | none => -1
theorem ref13_Find_spec {n : Nat} {s : Schema} {x : List UInt8} (h : s.Defs.length < n) (hb : s.Defs.length < 2 ^ 62) : ref13_Find n (s, x) = some (findD s x) := by
  have := loop_ix (L := fun m i => ref13_Find_L2 n s x m i) (l := s.Defs) (fun d i r => bif d.Name == x then some (.inr (i : Int)) else r) (some (.inl ()))
    (fun m i d hd => by
      have hlt := lt_of_get hd
      rw [ref13_Find_L2_s, dec_of hd, idxL_of hd, wrap_succ (by omega)]; rfl)
    (fun m => by rw [ref13_Find_L2_s, dec_end]; rfl) h
  rw [ref13_Find_eq, this, foldI_find (fun d : Def => d.Name == x) (fun i => (Sum.inr (i : Int) : PUnit ⊕ Int)) (.inl ())]
  unfold findD
  cases s.Defs.findIdx? (fun d => d.Name == x) with
  | none => rfl
  | some j => simp; rfl
theorem ref13_Has_spec {n : Nat} {l : List (List UInt8)} {x : List UInt8} (h : l.length < n) (hb : l.length < 2 ^ 62) : ref13_Has n (l, x) = some (l.any (· == x)) := by
  have := loop_ix (L := fun m i => ref13_Has_L2 n l x m i) (l := l) (fun d i r => bif d == x then some (.inr true) else r) (some (.inl ()))
    (fun m i d hd => by
      have hlt := lt_of_get hd
      rw [ref13_Has_L2_s, dec_of hd, idxL_of hd, wrap_succ (by omega)]; rfl)
    (fun m => by rw [ref13_Has_L2_s, dec_end]; rfl) h
  rw [ref13_Has_eq, this, foldI_find (fun d : List UInt8 => d == x) (fun i => (Sum.inr true : PUnit ⊕ Bool)) (.inl ())]
  cases hf : l.findIdx? (fun d => d == x) with
  | none => 
    rw [List.findIdx?_eq_none_iff] at hf
    have : l.any (· == x) = false := by rw [List.any_eq_false]; intro y hy; simpa using hf y hy
    rw [this]; rfl
  | some j =>
    obtain ⟨hj, h2, _⟩ := List.findIdx?_eq_some_iff_getElem.1 hf
    have : l.any (· == x) = true := by rw [List.any_eq_true]; exact ⟨l[j], List.getElem_mem hj, h2⟩
    rw [this]; rfl
theorem loop_mu {τ β : Type} {L : Nat → τ → Option β} (Inv : τ → Prop) (mu : τ → Nat) (Post : β → Prop)
    (h : ∀ m p, Inv p → (∀ p', Inv p' → mu p' < mu p → ∃ r, L m p' = some r ∧ Post r) → ∃ r, L (m + 1) p = some r ∧ Post r) : ∀ m p, Inv p → mu p < m → ∃ r, L m p = some r ∧ Post r
  | 0, p, _, hm => by omega
  | m + 1, p, hp, hm => h m p hp fun p' hp' hlt => loop_mu Inv mu Post h m p' hp' (by omega)
theorem bif_total {α : Type} {P : α → Prop} {c : Bool} {a b : Option α} (ha : c = true → ∃ r, a = some r ∧ P r) (hb : c = false → ∃ r, b = some r ∧ P r) : ∃ r, (bif c then a else b) = some r ∧ P r := by
  cases c
  · exact hb rfl
  · exact ha rfl
theorem bind_total {α β : Type} {P : β → Prop} {o : Option α} {f : α → Option β} (h : ∃ x, o = some x ∧ ∃ r, f x = some r ∧ P r) : ∃ r, o.bind f = some r ∧ P r := by
  obtain ⟨x, hx, h⟩ := h
  rw [hx]; exact h
theorem some_total {α : Type} {P : α → Prop} {a : α} (h : P a) : ∃ r, some a = some r ∧ P r := ⟨a, rfl, h⟩
theorem idx_total {α : Type} {l : List α} {i : Int} (h1 : 0 ≤ i) (h2 : decide (i < ((l.length : Nat) : Int)) = true) : ∃ x, idxL l i = some x := by
  obtain ⟨j, rfl⟩ := Int.eq_ofNat_of_zero_le h1
  rw [idxL_nat]
  exact ⟨l[j]'(by simp at h2; omega), List.getElem?_eq_getElem _⟩
theorem whenO_total {α : Type} {c : Bool} {o : Option α} {d : α} (h : c = true → ∃ x, o = some x) : ∃ x, whenO c o d = some x := by
  cases c
  · exact ⟨d, rfl⟩
  · exact h rfl
theorem ref13_Few_total {n : Nat} {e : Entry} (h : e.Attrs.length < n) (hb : e.Attrs.length < 2 ^ 62) : ∃ b, ref13_Few n e = some b := by
  obtain ⟨r, hr, _⟩ := loop_mu (L := fun m i => ref13_Few_L2 n e m i) (fun i => 0 ≤ i ∧ i ≤ e.Attrs.length) (fun i => (e.Attrs.length - i).toNat) (fun _ => True)
    (fun m i hi ih => by
      rw [ref13_Few_L2_s]
      refine bif_total (fun hc => ?_) (fun _ => some_total trivial)
      have hc' : decide (i < ((e.Attrs.length : Nat) : Int)) = true := by
        revert hc; cases decide (i < ((e.Attrs.length : Nat) : Int)) <;> simp
      obtain ⟨x, hx⟩ := idx_total hi.1 hc'
      refine bind_total ⟨x, hx, ?_⟩
      rw [hx]
      obtain ⟨y, hy⟩ := whenO_total (c := !(decide ((((x.Name.length : Nat) : Int)) > ((300 : Int))))) (o := some x) (d := (⟨[], (0 : Int), (0 : Int), []⟩ : Attr)) (fun _ => ⟨x, rfl⟩)
      refine bind_total ⟨y, hy, ?_⟩
      refine bif_total (fun _ => some_total trivial) (fun _ => ?_)
      have h3 := of_decide_eq_true hc'
      rw [IntKind.wrap_i64]
      have e2 : (i + 1 + 9223372036854775808) % 18446744073709551616 - 9223372036854775808 = i + 1 := by omega
      rw [e2]
      exact ih _ ⟨by omega, by omega⟩ (by omega)) n (0 : Int) ⟨by omega, by omega⟩ (by simpa using h)
  rw [ref13_Few_eq, hr]
  cases r with
  | inl q => exact ⟨_, rfl⟩
  | inr q => exact ⟨_, rfl⟩
end Sh
end
section
open Go Go.Proofs Aq
namespace Sh
def keeps (H : Pred → List Attr → Bool) (b : Book) (r : Row) (day : Int) (x : Law) : Bool := decide (IntKind.wrap .i64 (day + x.Days) ≥ b.Day) && H x.Where r.Entry.Attrs
theorem foldI_any {α γ : Type} (p : α → Bool) (f z : γ) : ∀ (l : List α) (i : Nat), foldI (σ := Unit) (fun x _ _ (k : Unit → Option γ) => bif p x then some f else k ()) (fun _ => some z) i l () = some (bif l.any p then f else z)
  | [], i => rfl
  | x :: l, i => by
    show (bif p x then some f else foldI _ _ (i + 1) l ()) = _
    rw [List.any_cons]
    cases p x
    · exact foldI_any p f z l (i + 1)
    · rfl
theorem retain_Floor_L7_spec {n : Nat} {H : Pred → List Attr → Bool} {laws : List Law} {b : Book} {x4 fl : Int} {r : Row} {day : Int} (hd : idxL b.Days (IntKind.wrap .i64 (r.Died - 1)) = some day)
    (hH : ∀ x ∈ laws, filter_Holds n (x.Where, r.Entry.Attrs) = some (H x.Where r.Entry.Attrs)) (h : laws.length < n) (hb : laws.length < 2 ^ 62) :
    retain_Floor_L7 n laws b x4 r n (fl, (0 : Int)) = some (bif laws.any (keeps H b r day) then IntKind.wrap .i64 (r.Died - 1) else fl) := by
  have := loop_ix (L := fun m i => retain_Floor_L7 n laws b x4 r m (fl, i)) (l := laws) (fun x _ k => bif keeps H b r day x then some (IntKind.wrap .i64 (r.Died - 1)) else k) (some fl)
    (fun m i x hx => by
      have hlt := lt_of_get hx
      have hm : x ∈ laws := List.mem_of_getElem? hx
      rw [retain_Floor_L7_s, dec_of hx, idxL_of hx, wrap_succ (by omega)]
      simp only [cond_true, Option.bind_some, Pred.re_eq]
      rw [hd]
      simp only [Option.bind_some, hH x hm]
      unfold keeps
      cases decide (IntKind.wrap .i64 (day + x.Days) ≥ b.Day) <;> rfl)
    (fun m => by rw [retain_Floor_L7_s, dec_end]; rfl) h
  rw [this, foldI_any]
theorem ref21_Free_spec {n : Nat} {H : Pred → List Attr → Bool} {laws : List Law} {b : Book} {r : Row} {day : Int} (hd : idxL b.Days (IntKind.wrap .i64 (r.Died - 1)) = some day)
    (hH : ∀ x ∈ laws, ref17_Holds n (x.Where, r.Entry.Attrs) = some (H x.Where r.Entry.Attrs)) (h : laws.length < n) (hb : laws.length < 2 ^ 62) :
    ref21_Free n (laws, (b, r)) = some (!laws.any (keeps H b r day)) := by
  have := loop_ix (L := fun m i => ref21_Free_L2 n laws b r m i) (l := laws) (fun x _ k => bif keeps H b r day x then some (.inr false) else k) (some (.inl ()))
    (fun m i x hx => by
      have hlt := lt_of_get hx
      have hm : x ∈ laws := List.mem_of_getElem? hx
      rw [ref21_Free_L2_s, dec_of hx, idxL_of hx, wrap_succ (by omega)]
      simp only [cond_true, Option.bind_some, Pred.re_eq, hH x hm]
      rw [hd]
      simp only [Option.bind_some]
      unfold keeps
      cases H x.Where r.Entry.Attrs <;> cases decide (IntKind.wrap .i64 (day + x.Days) ≥ b.Day) <;> rfl)
    (fun m => by rw [ref21_Free_L2_s, dec_end]; rfl) h
  rw [ref21_Free_eq, this, foldI_any]
  cases laws.any (keeps H b r day) <;> rfl
def floorS (H : Pred → List Attr → Bool) (laws : List Law) (b : Book) : List Row → Int → Int
  | [], fl => fl
  | r :: l, fl => floorS H laws b l (if 1 ≤ r.Died ∧ r.Died ≤ fl ∧ laws.any (keeps H b r ((idxL b.Days (IntKind.wrap .i64 (r.Died - 1))).getD 0)) = true then IntKind.wrap .i64 (r.Died - 1) else fl)
theorem foldI_floor {H : Pred → List Attr → Bool} {laws : List Law} {b : Book} : ∀ (l : List Row) (i : Nat) (fl : Int),
    foldI (fun r _ fl (k : Int → Option Int) => k (if 1 ≤ r.Died ∧ r.Died ≤ fl ∧ laws.any (keeps H b r ((idxL b.Days (IntKind.wrap .i64 (r.Died - 1))).getD 0)) = true then IntKind.wrap .i64 (r.Died - 1) else fl)) (fun fl => some fl) i l fl = some (floorS H laws b l fl)
  | [], i, fl => rfl
  | r :: l, i, fl => foldI_floor l (i + 1) _
def BookOK (b : Book) : Prop := ∀ r ∈ b.Rows, 1 ≤ r.Died → ∃ day, idxL b.Days (IntKind.wrap .i64 (r.Died - 1)) = some day
theorem retain_Floor_spec {n : Nat} {H : Pred → List Attr → Bool} {laws : List Law} {b : Book} (hk : BookOK b) (hH : ∀ r ∈ b.Rows, ∀ x ∈ laws, filter_Holds n (x.Where, r.Entry.Attrs) = some (H x.Where r.Entry.Attrs)) (h : laws.length < n) (hb : laws.length < 2 ^ 62)
    (hr : b.Rows.length < n) (hrb : b.Rows.length < 2 ^ 62) : retain_Floor n (laws, b) = some (floorS H laws b b.Rows b.Commit) := by
  have := loop_st (L := fun m fl i => retain_Floor_L3 n laws b m (fl, i)) (l := b.Rows) (fun r _ fl k => k (if 1 ≤ r.Died ∧ r.Died ≤ fl ∧ laws.any (keeps H b r ((idxL b.Days (IntKind.wrap .i64 (r.Died - 1))).getD 0)) = true then IntKind.wrap .i64 (r.Died - 1) else fl)) (fun fl => some fl)
    (fun m i r fl hx => by
      have hlt := lt_of_get hx
      have hm : r ∈ b.Rows := List.mem_of_getElem? hx
      rw [retain_Floor_L3_s, dec_of hx, idxL_of hx, wrap_succ (by omega)]
      simp only [cond_true, Option.bind_some]
      by_cases h1 : r.Died < 1
      · rw [if_neg (by omega)]; simp [h1]
      · by_cases h2 : r.Died > fl
        · rw [if_neg (by omega)]; simp [h2]
        · obtain ⟨day, hday⟩ := hk r hm (by omega)
          have e : (bif decide (r.Died < (1 : Int)) then true else decide (r.Died > fl)) = false := by simp [h1, h2]
          rw [e, cond_false, retain_Floor_L7_spec hday (hH r hm) h hb, Option.bind_some, hday]
          congr 2
          cases hany : laws.any (keeps H b r day)
          · rw [if_neg (by simp [hany])]; rfl
          · rw [if_pos ⟨by omega, by omega, by simp [hany]⟩]; rfl)
    (fun m fl => by rw [retain_Floor_L3_s, dec_end]; rfl) (fun x i s k k' h => h _) b.Rows.length 0 n b.Commit (by omega) hr
  rw [retain_Floor_eq]
  have e : retain_Floor_L3 n laws b n (b.Commit, (0 : Int)) = _ := this
  rw [e, List.drop_zero, foldI_floor]; rfl
theorem ref21_Floor_spec {n : Nat} {H : Pred → List Attr → Bool} {laws : List Law} {b : Book} (hk : BookOK b) (hH : ∀ r ∈ b.Rows, ∀ x ∈ laws, ref17_Holds n (x.Where, r.Entry.Attrs) = some (H x.Where r.Entry.Attrs)) (h : laws.length < n) (hb : laws.length < 2 ^ 62)
    (hr : b.Rows.length < n) (hrb : b.Rows.length < 2 ^ 62) : ref21_Floor n (laws, b) = some (floorS H laws b b.Rows b.Commit) := by
  have := loop_st (L := fun m fl i => ref21_Floor_L3 n laws b m (fl, i)) (l := b.Rows) (fun r _ fl k => k (if 1 ≤ r.Died ∧ r.Died ≤ fl ∧ laws.any (keeps H b r ((idxL b.Days (IntKind.wrap .i64 (r.Died - 1))).getD 0)) = true then IntKind.wrap .i64 (r.Died - 1) else fl)) (fun fl => some fl)
    (fun m i r fl hx => by
      have hlt := lt_of_get hx
      have hm : r ∈ b.Rows := List.mem_of_getElem? hx
      rw [ref21_Floor_L3_s, dec_of hx, idxL_of hx, wrap_succ (by omega)]
      simp only [cond_true, Option.bind_some]
      by_cases h1 : 1 ≤ r.Died ∧ r.Died ≤ fl
      · obtain ⟨day, hday⟩ := hk r hm h1.1
        have e : (bif decide (r.Died > (0 : Int)) then decide (r.Died ≤ fl) else false) = true := by
          rw [decide_eq_true (show r.Died > 0 by omega), cond_true]; exact decide_eq_true h1.2
        simp only [e]
        rw [show whenO true (ref21_Free n (laws, (b, r))) false = ref21_Free n (laws, (b, r)) from rfl, ref21_Free_spec hday (hH r hm) h hb, hday]
        change (bif (bif true then !(!laws.any (keeps H b r day)) else false) then _ else _) = _
        cases hany : laws.any (keeps H b r day)
        · rw [if_neg (by simp [hany])]; rfl
        · rw [if_pos ⟨h1.1, h1.2, by simp [hany]⟩]; rfl
      · have e : (bif decide (r.Died > (0 : Int)) then decide (r.Died ≤ fl) else false) = false := by
          by_cases h2 : r.Died > 0
          · rw [decide_eq_true h2, cond_true]; exact decide_eq_false (by omega)
          · rw [decide_eq_false h2]; rfl
        simp only [e]
        rw [if_neg (by omega)]; rfl)
    (fun m fl => by rw [ref21_Floor_L3_s, dec_end]; rfl) (fun x i s k k' h => h _) b.Rows.length 0 n b.Commit (by omega) hr
  rw [ref21_Floor_eq]
  have e : ref21_Floor_L3 n laws b n (b.Commit, (0 : Int)) = _ := this
  rw [e, List.drop_zero, foldI_floor]; rfl
end Sh
end
section
open Go Go.Proofs Aq
namespace Sh
def getA (l : List Attr) (x : List UInt8) : Option Attr := l.find? fun a => a.Name == x
mutual
def holdsS (l : List Attr) : Pred → Bool
  | ⟨op, name, n, m, s, subs⟩ =>
    if op = 1 then true else if op = 2 then allS l subs else if op = 3 then anyS l subs else if op = 4 then !anyS l subs else
    if op = 5 then (getA l name).isSome else
    if op = 6 then (match getA l name with | some a => a.Kind == (1 : Int) && decide (a.N ≥ n) && decide (a.N ≤ m) | none => false) else
    if op = 7 then (match getA l name with | some a => a.Kind == (2 : Int) && a.S == s | none => false) else false
def allS (l : List Attr) : List Pred → Bool
  | [] => true
  | p :: ps => holdsS l p && allS l ps
def anyS (l : List Attr) : List Pred → Bool
  | [] => false
  | p :: ps => holdsS l p || anyS l ps
end
mutual
def szP : Pred → Nat
  | ⟨_, _, _, _, _, subs⟩ => szL subs + 1
def szL : List Pred → Nat
  | [] => 0
  | p :: ps => szP p + szL ps
end
theorem szP_pos (p : Pred) : 1 ≤ szP p := by cases p; simp [szP]
theorem szP_subs (p : Pred) : szP p = szL p.Subs + 1 := by cases p; simp [szP]
theorem szL_len : ∀ l : List Pred, l.length ≤ szL l
  | [] => by simp
  | p :: l => by have := szL_len l; have := szP_pos p; simp [szL]; omega
theorem szL_mem : ∀ {l : List Pred} {p : Pred}, p ∈ l → szP p ≤ szL l
  | [], _, h => by simp at h
  | q :: l, p, h => by
    rcases List.mem_cons.1 h with rfl | h
    · simp [szL]
    · have := szL_mem h; simp [szL]; omega
theorem allS_eq (l : List Attr) : ∀ ps : List Pred, allS l ps = ps.all (holdsS l)
  | [] => rfl
  | p :: ps => by rw [allS, allS_eq l ps, List.all_cons]
theorem anyS_eq (l : List Attr) : ∀ ps : List Pred, anyS l ps = ps.any (holdsS l)
  | [] => rfl
  | p :: ps => by rw [anyS, anyS_eq l ps, List.any_cons]
theorem get_find {α : Type} (p : α → Bool) : ∀ l : List α, (match l.findIdx? p with | some j => l[j]? | none => none) = l.find? p
  | [] => rfl
  | a :: l => by
    rw [List.findIdx?_cons, List.find?_cons]
    cases hp : p a
    · have := get_find p l
      simp only [Bool.false_eq_true, if_false]
      cases h : l.findIdx? p with
      | none => rw [h] at this; simpa using this
      | some j => rw [h] at this; simpa using this
    · simp
theorem attr_Get_spec {n : Nat} {l : List Attr} {x : List UInt8} (h : l.length < n) (hb : l.length < 2 ^ 62) : attr_Get n (l, x) = some (match getA l x with | some a => (a, true) | none => (⟨[], 0, 0, []⟩, false)) := by
  have := loop_ix (L := fun m i => slices_IndexFunc_api_Attr_api_Attr_L2 n l x m i) (l := l) (fun d i r => bif d.Name == x then some (.inr (i : Int)) else r) (some (.inl ()))
    (fun m i d hd => by
      have hlt := lt_of_get hd
      rw [slices_IndexFunc_api_Attr_api_Attr_L2_s, dec_of hd, idxL_of hd, wrap_succ (by omega)]
      simp only [cond_true, Option.bind_some, attr_Get_1_eq]; rfl)
    (fun m => by rw [slices_IndexFunc_api_Attr_api_Attr_L2_s, dec_end]; rfl) h
  rw [attr_Get_eq, slices_IndexFunc_api_Attr_api_Attr_eq, this, foldI_find (fun d : Attr => d.Name == x) (fun i => (Sum.inr (i : Int) : PUnit ⊕ Int)) (.inl ())]
  have hg := get_find (fun d : Attr => d.Name == x) l
  unfold getA
  rw [← hg]
  cases hf : l.findIdx? (fun d => d.Name == x) with
  | none => rfl
  | some j =>
    obtain ⟨hj, _, _⟩ := List.findIdx?_eq_some_iff_getElem.1 hf
    simp only [Option.bind_some, Sum.elim_inr, Nat.zero_add]
    have e : decide (((j : Nat) : Int) < (0 : Int)) = false := by simp
    show (bif decide (((j : Nat) : Int) < (0 : Int)) then (some ((⟨[], (0 : Int), (0 : Int), []⟩ : Attr), false) : Option (Attr × Bool)) else (idxL l ((j : Nat) : Int)).bind fun r4 => some (r4, true)) = _
    rw [e, cond_false, idxL_nat, List.getElem?_eq_getElem hj]; rfl
theorem ref13_Get_spec {n : Nat} {l : List Attr} {x : List UInt8} (h : l.length < n) (hb : l.length < 2 ^ 62) : ref13_Get n (l, x) = some (match getA l x with | some a => ⟨a, true⟩ | none => ⟨⟨[], 0, 0, []⟩, false⟩) := by
  have := loop_ix (L := fun m i => ref13_Get_L2 n l x m (i, ⟨⟨[], 0, 0, []⟩, false⟩)) (l := l) (fun d _ r => bif d.Name == x then some (.inr ((), ⟨d, true⟩)) else r) (some (.inl ((), ⟨⟨[], 0, 0, []⟩, false⟩)))
    (fun m i d hd => by
      have hlt := lt_of_get hd
      rw [ref13_Get_L2_s, dec_of hd, idxL_of hd, wrap_succ (by omega)]; rfl)
    (fun m => by rw [ref13_Get_L2_s, dec_end]; rfl) h
  have key : ∀ (l : List Attr) (i : Nat), foldI (σ := Unit) (fun (d : Attr) (_ : Nat) (_ : Unit) (k : Unit → Option ((PUnit × ref13_Got) ⊕ (PUnit × ref13_Got))) => bif d.Name == x then some (.inr ((), ⟨d, true⟩)) else k ()) (fun _ => some (.inl ((), ⟨⟨[], 0, 0, []⟩, false⟩))) i l () =
      some (match l.find? (fun a => a.Name == x) with | some a => .inr ((), ⟨a, true⟩) | none => .inl ((), ⟨⟨[], 0, 0, []⟩, false⟩)) := by
    intro l
    induction l with
    | nil => intro i; rfl
    | cons a l ih =>
      intro i
      show (bif a.Name == x then _ else foldI _ _ (i + 1) l ()) = _
      rw [List.find?_cons]
      cases a.Name == x
      · exact ih (i + 1)
      · rfl
  have this' : ref13_Get_L2 n l x n ((0 : Int), ⟨⟨[], 0, 0, []⟩, false⟩) = _ := this
  rw [ref13_Get_eq, this', key l 0]
  unfold getA
  cases l.find? (fun a => a.Name == x) <;> rfl
theorem foldI_count {α : Type} (p : α → Bool) : ∀ (l : List α) (i : Nat) (s : Int), 0 ≤ s → s + l.length < 2 ^ 62 →
    foldI (fun x _ s (k : Int → Option Int) => bif p x then k (IntKind.wrap .i64 (s + (1 : Int))) else k s) (fun s => some s) i l s = some (s + (l.countP p : Nat))
  | [], i, s, _, _ => by simp [foldI]
  | x :: l, i, s, h1, h2 => by
    simp only [List.length_cons] at h2
    have e : IntKind.wrap .i64 (s + (1 : Int)) = s + 1 := by rw [IntKind.wrap_i64]; omega
    show (bif p x then foldI _ _ (i + 1) l (IntKind.wrap .i64 (s + (1 : Int))) else foldI _ _ (i + 1) l s) = _
    rw [List.countP_cons]
    cases hp : p x
    · rw [cond_false, foldI_count p l (i + 1) s h1 (by omega)]; simp
    · rw [cond_true, e, foldI_count p l (i + 1) (s + 1) (by omega) (by omega)]
      simp; omega
theorem ref17_Holds_m_spec {n : Nat} {l : List Attr} (h : l.length < n) (hb : l.length < 2 ^ 62) : ∀ (g : Nat) (p : Pred), szP p ≤ g → szP p < n → szP p < 2 ^ 62 → ref17_Holds_m n g (p, l) = some (holdsS l p)
  | 0, p, hg, _, _ => by have := szP_pos p; omega
  | g + 1, p, hg, hn, hp => by
    have hs := szP_subs p
    have hlen := szL_len p.Subs
    have := loop_st (L := fun m s i => ref17_Holds_m_L3 n g p l m (s, i)) (l := p.Subs) (fun x _ s k => bif holdsS l x then k (IntKind.wrap .i64 (s + (1 : Int))) else k s) (fun s => some s)
      (fun m i x s hx => by
        have hlt := lt_of_get hx
        have hm : x ∈ p.Subs := List.mem_of_getElem? hx
        have hsz := szL_mem hm
        rw [ref17_Holds_m_L3_s, dec_of hx, idxL_of hx, wrap_succ (by omega)]
        simp only [cond_true, Option.bind_some, Pred.re_eq]
        rw [ref17_Holds_m_spec h hb g x (by omega) (by omega) (by omega)]; rfl)
      (fun m s => by rw [ref17_Holds_m_L3_s, dec_end]; rfl) (fun x i s k k' hk => by rw [hk, hk]) p.Subs.length 0 n (0 : Int) (by omega) (by omega)
    rw [List.drop_zero, foldI_count (holdsS l) p.Subs 0 0 (by omega) (by omega)] at this
    have this' : ref17_Holds_m_L3 n g p l n ((0 : Int), (0 : Int)) = _ := this
    rw [ref17_Holds_m_eq, this', Option.bind_some]
    have hget := ref13_Get_spec (n := n) (l := l) (x := p.Name) h hb
    have e1 : (0 + ((p.Subs.countP (holdsS l) : Nat) : Int) == (((p.Subs.length : Nat)) : Int)) = allS l p.Subs := by
      rw [allS_eq, Bool.eq_iff_iff, beq_iff_eq, List.all_eq_true, Int.zero_add, Int.natCast_inj, List.countP_eq_length]
    have e2 : decide (0 + ((p.Subs.countP (holdsS l) : Nat) : Int) > (0 : Int)) = anyS l p.Subs := by
      rw [anyS_eq, Bool.eq_iff_iff, decide_eq_true_iff, List.any_eq_true]
      have := List.countP_pos_iff (p := holdsS l) (l := p.Subs)
      constructor
      · intro h; exact this.1 (by omega)
      · intro h; have := this.2 h; omega
    have e3 : (0 + ((p.Subs.countP (holdsS l) : Nat) : Int) == (0 : Int)) = !anyS l p.Subs := by
      rw [← e2, Bool.eq_iff_iff]; simp
    cases hgA : getA l p.Name with
    | none =>
      rw [hgA] at hget
      obtain ⟨op, name, a, b, s, subs⟩ := p
      change ref13_Get n (l, name) = _ at hget
      change getA l name = _ at hgA
      dsimp only at e1 e2 e3 ⊢
      rw [hget]
      change (bif op == (1 : Int) then _ else _) = _
      unfold holdsS
      simp only [e1, e2, e3, hgA]
      by_cases o1 : op = 1
      · (simp [o1]; try rfl)
      · by_cases o2 : op = 2
        · (simp [o2]; try rfl)
        · by_cases o3 : op = 3
          · (simp [o3]; try rfl)
          · by_cases o4 : op = 4
            · (simp [o4]; try rfl)
            · by_cases o5 : op = 5
              · (simp [o5]; try rfl)
              · by_cases o6 : op = 6
                · (simp [o6]; try rfl)
                · have b1 : (op == (1 : Int)) = false := by simpa using o1
                  have b2 : (op == (2 : Int)) = false := by simpa using o2
                  have b3 : (op == (3 : Int)) = false := by simpa using o3
                  have b4 : (op == (4 : Int)) = false := by simpa using o4
                  have b5 : (op == (5 : Int)) = false := by simpa using o5
                  have b6 : (op == (6 : Int)) = false := by simpa using o6
                  rw [b1, b2, b3, b4, b5, b6]
                  by_cases o7 : op = 7
                  · (simp [o7]; try rfl)
                  · have b7 : (op == (7 : Int)) = false := by simpa using o7
                    rw [b7]
                    (simp [o1, o2, o3, o4, o5, o6, o7]; try rfl)
    | some at_ =>
      rw [hgA] at hget
      obtain ⟨op, name, a, b, s, subs⟩ := p
      change ref13_Get n (l, name) = _ at hget
      change getA l name = _ at hgA
      dsimp only at e1 e2 e3 ⊢
      rw [hget]
      change (bif op == (1 : Int) then _ else _) = _
      unfold holdsS
      simp only [e1, e2, e3, hgA]
      by_cases o1 : op = 1
      · (simp [o1]; try rfl)
      · by_cases o2 : op = 2
        · (simp [o2]; try rfl)
        · by_cases o3 : op = 3
          · (simp [o3]; try rfl)
          · by_cases o4 : op = 4
            · (simp [o4]; try rfl)
            · by_cases o5 : op = 5
              · (simp [o5]; try rfl)
              · by_cases o6 : op = 6
                · (simp [o6]; try rfl)
                · have b1 : (op == (1 : Int)) = false := by simpa using o1
                  have b2 : (op == (2 : Int)) = false := by simpa using o2
                  have b3 : (op == (3 : Int)) = false := by simpa using o3
                  have b4 : (op == (4 : Int)) = false := by simpa using o4
                  have b5 : (op == (5 : Int)) = false := by simpa using o5
                  have b6 : (op == (6 : Int)) = false := by simpa using o6
                  rw [b1, b2, b3, b4, b5, b6]
                  by_cases o7 : op = 7
                  · (simp [o7]; try rfl)
                  · have b7 : (op == (7 : Int)) = false := by simpa using o7
                    rw [b7]
                    (simp [o1, o2, o3, o4, o5, o6, o7]; try rfl)
end Sh
end
section
open Go Go.Proofs Aq
namespace Sh
theorem all_loop {n g : Nat} {l : List Attr} {p : Pred} (hH : ∀ x ∈ p.Subs, filter_list_holds_m n g (l, x) = some (holdsS l x)) (hn : p.Subs.length < n) (hb : p.Subs.length < 2 ^ 62) : filter_list_and_m n (g + 1) (l, p) = some (allS l p.Subs) := by
  have := loop_ix (L := fun m i => filter_list_and_m_L2 n g l p m i) (l := p.Subs) (fun x _ r => bif !(holdsS l x) then some (.inr false) else r) (some (.inl ()))
    (fun m i x hx => by
      have hlt := lt_of_get hx
      rw [filter_list_and_m_L2_s, dec_of hx, idxL_of hx, wrap_succ (by omega)]
      simp only [cond_true, Option.bind_some, Pred.re_eq]
      rw [hH x (List.mem_of_getElem? hx)]; rfl)
    (fun m => by rw [filter_list_and_m_L2_s, dec_end]; rfl) hn
  rw [filter_list_and_m_eq, this, foldI_any (fun x => !(holdsS l x)) (Sum.inr false : PUnit ⊕ Bool) (.inl ())]
  rw [allS_eq]
  cases h : p.Subs.any fun x => !(holdsS l x)
  · have : p.Subs.all (holdsS l) = true := by
      rw [List.all_eq_true]; rw [List.any_eq_false] at h
      intro x hx; have := h x hx; simpa using this
    rw [this]; rfl
  · have : p.Subs.all (holdsS l) = false := by
      rw [List.all_eq_false]; rw [List.any_eq_true] at h
      obtain ⟨x, hx, h2⟩ := h
      exact ⟨x, hx, by simpa using h2⟩
    rw [this]; rfl
theorem any_loop {n g : Nat} {l : List Attr} {ps : List Pred} (hH : ∀ x ∈ ps, filter_list_holds_m n g (l, x) = some (holdsS l x)) (hn : ps.length < n) (hb : ps.length < 2 ^ 62) : slices_ContainsFunc_api_Pred_api_Pred_m n (g + 2) (ps, (l, ())) = some (anyS l ps) := by
  have := loop_ix (L := fun m i => slices_IndexFunc_api_Pred_api_Pred_m_L2 n g ps l m i) (l := ps) (fun x i r => bif holdsS l x then some (.inr (i : Int)) else r) (some (.inl ()))
    (fun m i x hx => by
      have hlt := lt_of_get hx
      rw [slices_IndexFunc_api_Pred_api_Pred_m_L2_s, dec_of hx, idxL_of hx, wrap_succ (by omega)]
      simp only [cond_true, Option.bind_some, Pred.re_eq]
      rw [hH x (List.mem_of_getElem? hx)]; rfl)
    (fun m => by rw [slices_IndexFunc_api_Pred_api_Pred_m_L2_s, dec_end]; rfl) hn
  rw [slices_ContainsFunc_api_Pred_api_Pred_m_eq, slices_IndexFunc_api_Pred_api_Pred_m_eq, this, foldI_find (holdsS l) (fun i => (Sum.inr (i : Int) : PUnit ⊕ Int)) (.inl ())]
  rw [anyS_eq]
  cases hf : ps.findIdx? (holdsS l) with
  | none =>
    rw [List.findIdx?_eq_none_iff] at hf
    have : ps.any (holdsS l) = false := by rw [List.any_eq_false]; intro y hy; simpa using hf y hy
    rw [this]; rfl
  | some j =>
    obtain ⟨hj, h2, _⟩ := List.findIdx?_eq_some_iff_getElem.1 hf
    have : ps.any (holdsS l) = true := by rw [List.any_eq_true]; exact ⟨ps[j], List.getElem_mem hj, h2⟩
    rw [this]
    show some (decide (((0 + j : Nat) : Int) ≥ (0 : Int))) = some true
    rw [decide_eq_true (by omega)]
theorem filter_list_holds_m_spec {n : Nat} {l : List Attr} (h : l.length < n) (hb : l.length < 2 ^ 62) : ∀ (k g : Nat) (p : Pred), szP p ≤ k → 6 * szP p ≤ g → szP p < n → szP p < 2 ^ 62 → filter_list_holds_m n g (l, p) = some (holdsS l p)
  | 0, g, p, hk, _, _, _ => by have := szP_pos p; omega
  | k + 1, g, p, hk, hg, hn, hp => by
    have hs := szP_subs p
    have hlen := szL_len p.Subs
    have hpos := szP_pos p
    obtain ⟨g, rfl⟩ : ∃ g', g = g' + 6 := ⟨g - 6, by omega⟩
    have hsub : ∀ g', g ≤ g' → ∀ x ∈ p.Subs, filter_list_holds_m n g' (l, x) = some (holdsS l x) := fun g' hg' x hx => by
      have := szL_mem hx
      exact filter_list_holds_m_spec h hb k g' x (by omega) (by omega) (by omega) (by omega)
    have hand := all_loop (n := n) (g := g + 4) (l := l) (p := p) (hsub _ (by omega)) (by omega) (by omega)
    have hor : filter_list_or_m n (g + 5) (l, p) = some (anyS l p.Subs) := by
      rw [filter_list_or_m_eq, any_loop (n := n) (g := g + 2) (hsub _ (by omega)) (by omega) (by omega)]; rfl
    have hnot : filter_list_not_m n (g + 5) (l, p) = some (!anyS l p.Subs) := by
      rw [filter_list_not_m_eq, Pred.re_eq, filter_list_or_m_eq, any_loop (n := n) (g := g + 1) (hsub _ (by omega)) (by omega) (by omega)]; rfl
    have hget := attr_Get_spec (n := n) (l := l) (x := p.Name) h hb
    have hhas : filter_list_has n (l, p) = some (getA l p.Name).isSome := by
      rw [filter_list_has_eq, hget]; cases getA l p.Name <;> rfl
    have hnum : filter_list_number n (l, p) = some (match getA l p.Name with | some a => a.Kind == (1 : Int) && decide (a.N ≥ p.N) && decide (a.N ≤ p.M) | none => false) := by
      rw [filter_list_number_eq, hget]
      cases getA l p.Name with
      | none => rfl
      | some a => 
        change some _ = some _
        congr 1
        change (bif bif bif true then a.Kind == (1 : Int) else false then decide (a.N ≥ p.N) else false then decide (a.N ≤ p.M) else false) = (a.Kind == (1 : Int) && decide (a.N ≥ p.N) && decide (a.N ≤ p.M))
        cases a.Kind == (1 : Int) <;> cases decide (a.N ≥ p.N) <;> cases decide (a.N ≤ p.M) <;> rfl
    have hword : filter_list_word n (l, p) = some (match getA l p.Name with | some a => a.Kind == (2 : Int) && a.S == p.S | none => false) := by
      rw [filter_list_word_eq, hget]
      cases getA l p.Name with
      | none => rfl
      | some a => 
        change some _ = some _
        congr 1
        change (bif bif true then a.Kind == (2 : Int) else false then a.S == p.S else false) = (a.Kind == (2 : Int) && a.S == p.S)
        cases a.Kind == (2 : Int) <;> cases a.S == p.S <;> rfl
    have hall : filter_list_all n (l, p) = some true := by rw [filter_list_all_eq]
    rw [filter_list_holds_m_eq]
    simp only [Pred.re_eq]
    rw [hall, hand, hor, hnot, hhas, hnum, hword]
    obtain ⟨op, name, a, b, s, subs⟩ := p
    unfold holdsS
    dsimp only
    by_cases o1 : op = 1
    · (simp [o1]; try rfl)
    · have b1 : (op == (1 : Int)) = false := by simpa using o1
      rw [b1, if_neg o1]
      by_cases o2 : op = 2
      · (simp [o2]; try rfl)
      · have b2 : (op == (2 : Int)) = false := by simpa using o2
        rw [b2, if_neg o2]
        by_cases o3 : op = 3
        · (simp [o3]; try rfl)
        · have b3 : (op == (3 : Int)) = false := by simpa using o3
          rw [b3, if_neg o3]
          by_cases o4 : op = 4
          · (simp [o4]; try rfl)
          · have b4 : (op == (4 : Int)) = false := by simpa using o4
            rw [b4, if_neg o4]
            by_cases o5 : op = 5
            · (simp [o5]; try rfl)
            · have b5 : (op == (5 : Int)) = false := by simpa using o5
              rw [b5, if_neg o5]
              by_cases o6 : op = 6
              · (simp [o6]; try rfl)
              · have b6 : (op == (6 : Int)) = false := by simpa using o6
                rw [b6, if_neg o6]
                by_cases o7 : op = 7
                · (simp [o7]; try rfl)
                · have b7 : (op == (7 : Int)) = false := by simpa using o7
                  rw [b7, if_neg o7]; rfl
theorem filter_Holds_spec {n : Nat} {l : List Attr} {p : Pred} (h : l.length < n) (hb : l.length < 2 ^ 62) (hp : 6 * szP p < n) (hq : szP p < 2 ^ 62) : filter_Holds n (p, l) = some (holdsS l p) := by
  have e : filter_list_holds n (l, p) = filter_list_holds_m n n (l, p) := by unfold filter_list_holds; rfl
  rw [filter_Holds_eq, Pred.re_eq, e, filter_list_holds_m_spec h hb (szP p) n p (Nat.le_refl _) (by omega) (by omega) hq]; rfl
theorem ref17_Holds_spec {n : Nat} {l : List Attr} {p : Pred} (h : l.length < n) (hb : l.length < 2 ^ 62) (hp : szP p < n) (hq : szP p < 2 ^ 62) : ref17_Holds n (p, l) = some (holdsS l p) := by
  have e : ref17_Holds n (p, l) = ref17_Holds_m n n (p, l) := by unfold ref17_Holds; rfl
  rw [e, ref17_Holds_m_spec h hb n p (by omega) hp hq]
end Sh
end
section
open Go Go.Proofs Aq
namespace Sh
theorem loop_tot {α β σ : Type} {L : Nat → σ → Int → Option β} {l : List α} (hs : ∀ m (i : Nat) x s, l[i]? = some x → (∀ s, ∃ r, L m s ((i + 1 : Nat) : Int) = some r) → ∃ r, L (m + 1) s (i : Int) = some r) (hf : ∀ m s (i : Nat), l.length ≤ i → ∃ r, L (m + 1) s (i : Int) = some r) :
    ∀ (k i m : Nat) (s : σ), l.length ≤ i + k → k < m → ∃ r, L m s (i : Int) = some r := by
  intro k
  induction k with
  | zero =>
    intro i m s hi hm
    obtain ⟨m, rfl⟩ : ∃ m', m = m' + 1 := ⟨m - 1, by omega⟩
    exact hf m s i (by omega)
  | succ k ih =>
    intro i m s hi hm
    obtain ⟨m, rfl⟩ : ∃ m', m = m' + 1 := ⟨m - 1, by omega⟩
    by_cases h : l.length ≤ i
    · exact hf m s i h
    · exact hs m i _ s (List.getElem?_eq_getElem (by omega)) fun s => ih (i + 1) m s (by omega) (by omega)
theorem dec_ge {α : Type} {l : List α} {i : Nat} (h : l.length ≤ i) : decide ((i : Int) < ((l.length : Nat) : Int)) = false := by simp; omega
def SmallS (s : Schema) (n : Nat) : Prop := s.Defs.length < n ∧ s.Defs.length < 2 ^ 62 ∧ ∀ d ∈ s.Defs, d.Name.length < n ∧ d.Name.length < 2 ^ 62 ∧ d.Words.length < n ∧ d.Words.length < 2 ^ 62 ∧ ∀ w ∈ d.Words, w.length < n ∧ w.length < 2 ^ 62
theorem ref13_Name_total {n : Nat} {x : List UInt8} (h : x.length < n) (hb : x.length < 2 ^ 62) (hn : 6 < n) : ∃ b : Bool, ref13_Name n x = some b := by
  obtain ⟨r, hr⟩ := loop_tot (L := fun m (_ : Unit) i => ref13_Name_L2 n x m i) (l := x)
    (fun m i c _ hc ih => by
      have hlt := lt_of_get hc
      show ∃ r, ref13_Name_L2 n x (m + 1) (i : Int) = some r
      rw [ref13_Name_L2_s, dec_of hc, idxL_of hc, wrap_succ (by omega), cond_true, Option.bind_some]
      cases (bif !(bif decide ((((c.toNat : Nat) : Int)) ≥ ((97 : Int))) then decide ((((c.toNat : Nat) : Int)) ≤ ((122 : Int))) else false) then bif (i : Int) == ((0 : Int)) then true else !(bif bif decide ((((c.toNat : Nat) : Int)) ≥ ((48 : Int))) then decide ((((c.toNat : Nat) : Int)) ≤ ((57 : Int))) else false then true else (((c.toNat : Nat) : Int)) == ((95 : Int))) else false)
      · exact ih ()
      · exact ⟨_, rfl⟩)
    (fun m _ i hi => by
      show ∃ r, ref13_Name_L2 n x (m + 1) (i : Int) = some r
      rw [ref13_Name_L2_s, dec_ge hi]; exact ⟨_, rfl⟩) x.length 0 n () (by omega) h
  have hr' : ref13_Name_L2 n x n (0 : Int) = some r := hr
  rw [ref13_Name_eq, hr']
  cases r with
  | inl q =>
    obtain ⟨b, hb'⟩ := whenO_total (c := bif decide ((((x.length : Nat) : Int)) ≥ ((1 : Int))) then decide ((((x.length : Nat) : Int)) ≤ ((40 : Int))) else false) (o := ref13_Has n (([[(97 : UInt8), (108 : UInt8), (108 : UInt8)], [(97 : UInt8), (110 : UInt8), (100 : UInt8)], [(104 : UInt8), (97 : UInt8), (115 : UInt8)], [(105 : UInt8), (110 : UInt8)], [(110 : UInt8), (111 : UInt8), (116 : UInt8)], [(111 : UInt8), (114 : UInt8)]], x))) (d := false) (fun _ => ⟨_, ref13_Has_spec (show 6 < n from hn) (show 6 < 2 ^ 62 by omega)⟩)
    rw [Option.bind_some]
    show ∃ b, Option.bind (whenO _ _ _) _ = some b
    rw [hb']
    exact ⟨_, rfl⟩
  | inr q => exact ⟨q, rfl⟩
theorem ref13_words_total {n : Nat} {l : List (List UInt8)} (h : l.length < n) (hb : l.length < 2 ^ 62) (hw : ∀ w ∈ l, w.length < n ∧ w.length < 2 ^ 62) (hn : 6 < n) : ∃ e : Int, ref13_words n l = some e := by
  rw [ref13_words_eq]
  cases (bif decide ((((l.length : Nat) : Int)) < ((1 : Int))) then true else decide ((((l.length : Nat) : Int)) > ((50 : Int))))
  · obtain ⟨r, hr⟩ := loop_tot (L := fun m (_ : Unit) i => ref13_words_L4 n l m i) (l := l)
      (fun m i c _ hc ih => by
        have hlt := lt_of_get hc
        show ∃ r, ref13_words_L4 n l (m + 1) (i : Int) = some r
        obtain ⟨b, hb'⟩ := ref13_Name_total (hw c (List.mem_of_getElem? hc)).1 (hw c (List.mem_of_getElem? hc)).2 hn
        rw [ref13_words_L4_s, dec_of hc, idxL_of hc, wrap_succ (by omega), cond_true, Option.bind_some, hb']
        cases b
        · exact ⟨_, rfl⟩
        · exact ih ())
      (fun m _ i hi => by
        show ∃ r, ref13_words_L4 n l (m + 1) (i : Int) = some r
        rw [ref13_words_L4_s, dec_ge hi]; exact ⟨_, rfl⟩) l.length 0 n () (by omega) h
    have hr' : ref13_words_L4 n l n (0 : Int) = some r := hr
    rw [cond_false, hr', Option.bind_some]
    cases r with
    | inr q => exact ⟨q, rfl⟩
    | inl q =>
      obtain ⟨r, hr2⟩ := loop_tot (L := fun m (_ : Unit) i => ref13_words_L9 n l m (i + 1)) (l := l.tail)
        (fun m i c _ hc ih => by
          have hc' : l[i + 1]? = some c := by rw [List.getElem?_tail] at hc; exact hc
          have hlt := lt_of_get hc'
          show ∃ r, ref13_words_L9 n l (m + 1) ((i : Int) + 1) = some r
          have ei : (i : Int) + 1 = ((i + 1 : Nat) : Int) := by omega
          have e0 : IntKind.wrap .i64 (((i + 1 : Nat) : Int) - (1 : Int)) = (i : Int) := by rw [IntKind.wrap_i64]; omega
          have hi0 : l[i]? = some l[i] := List.getElem?_eq_getElem (by omega)
          rw [ei, ref13_words_L9_s, dec_of hc', idxL_of hc', wrap_succ (by omega), e0, idxL_of hi0, cond_true, Option.bind_some, Option.bind_some]
          cases (Go.Op.bytesLess c l[i] || c == l[i])
          · have := ih ()
            have e1 : (((i + 1 : Nat) : Int)) + 1 = ((i + 1 + 1 : Nat) : Int) := by omega
            simp only [e1] at this
            exact this
          · exact ⟨_, rfl⟩)
        (fun m _ i hi => by
          show ∃ r, ref13_words_L9 n l (m + 1) ((i : Int) + 1) = some r
          have ei : (i : Int) + 1 = ((i + 1 : Nat) : Int) := by omega
          rw [ei, ref13_words_L9_s, dec_ge (by rw [List.length_tail] at hi; omega)]; exact ⟨_, rfl⟩) l.length 0 n () (by rw [List.length_tail]; omega) h
      have hr2' : ref13_words_L9 n l n (1 : Int) = some r := hr2
      rw [Sum.elim_inl, hr2', Option.bind_some]
      cases r with
      | inl q => exact ⟨0, rfl⟩
      | inr q => exact ⟨q, rfl⟩
  · exact ⟨_, rfl⟩
theorem bifx {α : Type} {c : Bool} {a b : Option α} (ha : ∃ r, a = some r) (hb : ∃ r, b = some r) : ∃ r, (bif c then a else b) = some r := by
  cases c
  · exact hb
  · exact ha
theorem ref13_def_total {n : Nat} {d : Def} {x : List UInt8} (h : d.Name.length < n ∧ d.Name.length < 2 ^ 62 ∧ d.Words.length < n ∧ d.Words.length < 2 ^ 62 ∧ ∀ w ∈ d.Words, w.length < n ∧ w.length < 2 ^ 62) (hn : 6 < n) : ∃ e : Int, ref13_def n (d, x) = some e := by
  obtain ⟨b, hb⟩ := ref13_Name_total h.1 h.2.1 hn
  obtain ⟨e, he⟩ := ref13_words_total h.2.2.1 h.2.2.2.1 h.2.2.2.2 hn
  rw [ref13_def_eq, hb]
  show ∃ e : Int, (bif !b then some ((5 : Int)) else _) = some e
  refine bifx ⟨_, rfl⟩ (bifx ⟨_, rfl⟩ (bifx (bifx ⟨_, rfl⟩ (bifx ⟨_, rfl⟩ ⟨_, rfl⟩)) (bifx (bifx ⟨_, rfl⟩ ?_) ⟨_, rfl⟩)))
  rw [he]; exact ⟨e, rfl⟩
theorem ref13_Check_total {n : Nat} {s : Schema} (h : SmallS s n) (hn : 6 < n) : ∃ e : Int, ref13_Check n s = some e := by
  obtain ⟨h1, h2, h3⟩ := h
  obtain ⟨b, hb⟩ := whenO_total (c := !(bif decide (s.Dims < ((1 : Int))) then true else decide (s.Dims > ((32 : Int))))) (o := ref04_Metric n s.Metric) (d := false) (fun _ => by rw [ref04_Metric_eq]; exact ⟨_, rfl⟩)
  obtain ⟨r, hr⟩ := loop_tot (L := fun m (x : List UInt8) i => ref13_Check_L7 n s m (x, i)) (l := s.Defs)
    (fun m i d x hd ih => by
      have hlt := lt_of_get hd
      show ∃ r, ref13_Check_L7 n s (m + 1) (x, (i : Int)) = some r
      obtain ⟨e, he⟩ := ref13_def_total (x := x) (h3 d (List.mem_of_getElem? hd)) hn
      rw [ref13_Check_L7_s, dec_of hd, idxL_of hd, wrap_succ (by omega), cond_true, Option.bind_some, he]
      show ∃ r, (bif e != (0 : Int) then _ else _) = some r
      exact bifx ⟨_, rfl⟩ (ih _))
    (fun m x i hi => by
      show ∃ r, ref13_Check_L7 n s (m + 1) (x, (i : Int)) = some r
      rw [ref13_Check_L7_s, dec_ge hi]; exact ⟨_, rfl⟩) s.Defs.length 0 n [] (by omega) h1
  have hr' : ref13_Check_L7 n s n ([], (0 : Int)) = some r := hr
  rw [ref13_Check_eq]
  show ∃ e : Int, Option.bind (whenO _ _ _) _ = some e
  rw [hb]
  show ∃ e : Int, (bif _ then some ((1 : Int)) else _) = some e
  refine bifx ⟨_, rfl⟩ (bifx ⟨_, rfl⟩ ?_)
  rw [hr', Option.bind_some]
  cases r with
  | inl q => exact ⟨0, rfl⟩
  | inr q => exact ⟨q, rfl⟩
theorem ref13_FewDefs_total {n : Nat} {s : Schema} {k : Int} (h : SmallS s n) : ∃ b : Bool, ref13_FewDefs n (s, k) = some b := by
  obtain ⟨h1, h2, h3⟩ := h
  obtain ⟨r, hr⟩ := loop_tot (L := fun m (_ : Unit) i => ref13_FewDefs_L2 n s k m i) (l := s.Defs)
    (fun m i d _ hd ih => by
      have hlt := lt_of_get hd
      obtain ⟨w1, w2, w3, w4, w5⟩ := h3 d (List.mem_of_getElem? hd)
      show ∃ r, ref13_FewDefs_L2 n s k (m + 1) (i : Int) = some r
      obtain ⟨r, hr⟩ := loop_tot (L := fun m (_ : Unit) j => ref13_FewDefs_L8 n s k (i : Int) d m j) (l := d.Words)
        (fun m j w _ hw ih => by
          have hlt := lt_of_get hw
          show ∃ r, ref13_FewDefs_L8 n s k (i : Int) d (m + 1) (j : Int) = some r
          rw [ref13_FewDefs_L8_s, dec_of hw, idxL_of hw, wrap_succ (by omega), cond_true, Option.bind_some]
          exact bifx ⟨_, rfl⟩ (ih ()))
        (fun m _ j hj => by
          show ∃ r, ref13_FewDefs_L8 n s k (i : Int) d (m + 1) (j : Int) = some r
          rw [ref13_FewDefs_L8_s, dec_ge hj]; exact ⟨_, rfl⟩) d.Words.length 0 n () (by omega) w3
      have hr' : ref13_FewDefs_L8 n s k (i : Int) d n (0 : Int) = some r := hr
      rw [ref13_FewDefs_L2_s, dec_of hd, idxL_of hd, wrap_succ (by omega), Option.bind_some, hr']
      refine bifx (bifx ⟨_, rfl⟩ ?_) ⟨_, rfl⟩
      cases r with
      | inl q => exact ih ()
      | inr q => exact ⟨_, rfl⟩)
    (fun m _ i hi => by
      show ∃ r, ref13_FewDefs_L2 n s k (m + 1) (i : Int) = some r
      rw [ref13_FewDefs_L2_s, dec_ge hi]; exact ⟨_, rfl⟩) s.Defs.length 0 n () (by omega) h1
  have hr' : ref13_FewDefs_L2 n s k n (0 : Int) = some r := hr
  rw [ref13_FewDefs_eq, hr', Option.bind_some]
  cases r with
  | inl q => exact ⟨_, rfl⟩
  | inr q => exact ⟨q, rfl⟩
end Sh
end
section
open Go Go.Proofs Aq
namespace Sh
def formS (p : Pred) : Bool :=
  if (p.Op < 5 ∧ p.Name ≠ []) ∨ (p.Op ≠ 6 ∧ (p.N ≠ 0 ∨ p.M ≠ 0)) ∨ (p.Op ≠ 7 ∧ p.S ≠ []) then false else
  if p.N > p.M then false else
  if p.Op = 2 ∨ p.Op = 3 then decide (p.Subs ≠ []) else
  if p.Op = 4 then decide (p.Subs.length = 1) else decide (p.Subs = [])
theorem len_pos {α : Type} (l : List α) : decide (((l.length : Nat) : Int) > (0 : Int)) = decide (l ≠ []) := by
  cases l with
  | nil => simp
  | cons a l => simp <;> omega
theorem len_zero {α : Type} (l : List α) : (((l.length : Nat) : Int) == (0 : Int)) = decide (l = []) := by
  cases l with
  | nil => simp
  | cons a l => simp <;> omega
theorem nil_beq (l : List UInt8) : (l == []) = decide (l = []) := by cases l <;> simp
theorem ref17_form_spec (n : Nat) (p : Pred) : ref17_form n p = some (formS p) := by
  obtain ⟨op, name, a, b, s, subs⟩ := p
  rw [ref17_form_eq]
  simp only [len_pos, len_zero]
  have key : (bif bif bif bif decide (op < ((5 : Int))) then decide (name ≠ []) else false then true else bif op != ((6 : Int)) then bif a != ((0 : Int)) then true else b != ((0 : Int)) else false then true else bif op != ((7 : Int)) then decide (s ≠ []) else false then
      some false
    else
      bif decide (a > b) then
        some false
      else
        bif bif op == ((2 : Int)) then true else op == ((3 : Int)) then
          some (decide (subs ≠ []))
        else
          bif op == ((4 : Int)) then
            some ((((subs.length : Nat) : Int)) == ((1 : Int)))
          else
            some (decide (subs = []))) = some (formS ⟨op, name, a, b, s, subs⟩) := by
    unfold formS
    dsimp only
    by_cases c1 : (op < 5 ∧ name ≠ []) ∨ (op ≠ 6 ∧ (a ≠ 0 ∨ b ≠ 0)) ∨ (op ≠ 7 ∧ s ≠ [])
    · rw [if_pos c1]
      have : (bif bif bif decide (op < ((5 : Int))) then decide (name ≠ []) else false then true else bif op != ((6 : Int)) then bif a != ((0 : Int)) then true else b != ((0 : Int)) else false then true else bif op != ((7 : Int)) then decide (s ≠ []) else false) = true := by
        simp only [Bool.cond_true_right, Bool.cond_false_right, Bool.cond_true_left, Bool.or_eq_true, Bool.and_eq_true, decide_eq_true_iff, bne_iff_ne]
        rcases c1 with c | c | c
        · exact .inl (.inl c)
        · exact .inl (.inr c)
        · exact .inr c
      rw [this]; rfl
    · rw [if_neg c1]
      have : (bif bif bif decide (op < ((5 : Int))) then decide (name ≠ []) else false then true else bif op != ((6 : Int)) then bif a != ((0 : Int)) then true else b != ((0 : Int)) else false then true else bif op != ((7 : Int)) then decide (s ≠ []) else false) = false := by
        rw [Bool.eq_false_iff]
        intro h
        simp only [Bool.cond_true_right, Bool.cond_false_right, Bool.cond_true_left, Bool.or_eq_true, Bool.and_eq_true, decide_eq_true_iff, bne_iff_ne] at h
        rcases h with (h | h) | h
        · exact c1 (.inl h)
        · exact c1 (.inr (.inl h))
        · exact c1 (.inr (.inr h))
      rw [this, cond_false]
      by_cases c2 : a > b
      · rw [if_pos c2, decide_eq_true c2]; rfl
      · rw [if_neg c2, decide_eq_false c2, cond_false]
        by_cases c3 : op = 2 ∨ op = 3
        · rw [if_pos c3]
          have : (bif op == ((2 : Int)) then true else op == ((3 : Int))) = true := by rcases c3 with rfl | rfl <;> rfl
          rw [this]; rfl
        · rw [if_neg c3]
          have : (bif op == ((2 : Int)) then true else op == ((3 : Int))) = false := by
            rw [Bool.eq_false_iff]; intro h; simp at h; exact c3 h
          rw [this, cond_false]
          by_cases c4 : op = 4
          · rw [if_pos c4, c4]
            show some _ = some _
            congr 1
            rw [Bool.eq_iff_iff]; simp; omega
          · rw [if_neg c4]
            have : (op == (4 : Int)) = false := by simpa using c4
            rw [this]; rfl
  exact key
theorem filter_form_spec (n : Nat) (p : Pred) : filter_form n p = some (formS p) := by
  obtain ⟨op, name, a, b, s, subs⟩ := p
  rw [filter_form_eq]
  simp only [len_zero, nil_beq]
  have key : (bif bif bif bif !(decide (op ≥ ((5 : Int)))) then !(decide (name = [])) else false then true else bif op != ((6 : Int)) then bif a != ((0 : Int)) then true else b != ((0 : Int)) else false then true else bif op != ((7 : Int)) then !(decide (s = [])) else false then
      some false
    else
      bif bif bif decide (a > b) then true else bif bif op == ((2 : Int)) then true else op == ((3 : Int)) then decide (subs = []) else false then true else bif op == ((4 : Int)) then (((subs.length : Nat) : Int)) != ((1 : Int)) else false then
        some false
      else
        some (bif bif bif op == ((2 : Int)) then true else op == ((3 : Int)) then true else op == ((4 : Int)) then true else decide (subs = []))) = some (formS ⟨op, name, a, b, s, subs⟩) := by
    unfold formS
    dsimp only
    by_cases c1 : (op < 5 ∧ name ≠ []) ∨ (op ≠ 6 ∧ (a ≠ 0 ∨ b ≠ 0)) ∨ (op ≠ 7 ∧ s ≠ [])
    · rw [if_pos c1]
      have : (bif bif bif !(decide (op ≥ ((5 : Int)))) then !(decide (name = [])) else false then true else bif op != ((6 : Int)) then bif a != ((0 : Int)) then true else b != ((0 : Int)) else false then true else bif op != ((7 : Int)) then !(decide (s = [])) else false) = true := by
        simp only [Bool.cond_true_right, Bool.cond_false_right, Bool.cond_true_left, Bool.or_eq_true, Bool.and_eq_true, decide_eq_true_iff, bne_iff_ne, Bool.not_eq_true', decide_eq_false_iff_not]
        rcases c1 with c | c | c
        · exact .inl (.inl ⟨by omega, c.2⟩)
        · exact .inl (.inr c)
        · exact .inr c
      rw [this]; rfl
    · rw [if_neg c1]
      have : (bif bif bif !(decide (op ≥ ((5 : Int)))) then !(decide (name = [])) else false then true else bif op != ((6 : Int)) then bif a != ((0 : Int)) then true else b != ((0 : Int)) else false then true else bif op != ((7 : Int)) then !(decide (s = [])) else false) = false := by
        rw [Bool.eq_false_iff]
        intro h
        simp only [Bool.cond_true_right, Bool.cond_false_right, Bool.cond_true_left, Bool.or_eq_true, Bool.and_eq_true, decide_eq_true_iff, bne_iff_ne, Bool.not_eq_true', decide_eq_false_iff_not] at h
        rcases h with (h | h) | h
        · exact c1 (.inl ⟨by omega, h.2⟩)
        · exact c1 (.inr (.inl h))
        · exact c1 (.inr (.inr h))
      rw [this, cond_false]
      by_cases c2 : a > b
      · rw [if_pos c2, decide_eq_true c2]; rfl
      · rw [if_neg c2, decide_eq_false c2, cond_false]
        by_cases c3 : op = 2 ∨ op = 3
        · rw [if_pos c3]
          have h4 : (op == (4 : Int)) = false := by rcases c3 with rfl | rfl <;> rfl
          have : (bif op == ((2 : Int)) then true else op == ((3 : Int))) = true := by rcases c3 with rfl | rfl <;> rfl
          rw [this, h4]
          by_cases hs : subs = [] <;> simp [hs]
        · rw [if_neg c3]
          have : (bif op == ((2 : Int)) then true else op == ((3 : Int))) = false := by
            rw [Bool.eq_false_iff]; intro h; simp at h; exact c3 h
          rw [this, cond_false]
          by_cases c4 : op = 4
          · rw [if_pos c4, c4]
            by_cases hl : subs.length = 1
            · simp [hl]
            · have : (((subs.length : Nat) : Int) != (1 : Int)) = true := by rw [bne_iff_ne]; omega
              rw [this]; simp [hl]
          · rw [if_neg c4]
            have : (op == (4 : Int)) = false := by simpa using c4
            rw [this]; rfl
  exact key
theorem filter_find_spec {n : Nat} {s : Schema} {x : List UInt8} (h : s.Defs.length < n) (hb : s.Defs.length < 2 ^ 62) : filter_find n (s, x) = some (match s.Defs.find? (fun d => d.Name == x) with | some d => (d, true) | none => (⟨[], 0, 0, 0, []⟩, false)) := by
  have := loop_ix (L := fun m i => slices_IndexFunc_api_Def_api_Def_L2 n s.Defs x m i) (l := s.Defs) (fun d i r => bif d.Name == x then some (.inr (i : Int)) else r) (some (.inl ()))
    (fun m i d hd => by
      have hlt := lt_of_get hd
      rw [slices_IndexFunc_api_Def_api_Def_L2_s, dec_of hd, idxL_of hd, wrap_succ (by omega)]
      simp only [cond_true, Option.bind_some, filter_find_1_eq]; rfl)
    (fun m => by rw [slices_IndexFunc_api_Def_api_Def_L2_s, dec_end]; rfl) h
  rw [filter_find_eq, slices_IndexFunc_api_Def_api_Def_eq, this, foldI_find (fun d : Def => d.Name == x) (fun i => (Sum.inr (i : Int) : PUnit ⊕ Int)) (.inl ())]
  have hg := get_find (fun d : Def => d.Name == x) s.Defs
  rw [← hg]
  cases hf : s.Defs.findIdx? (fun d => d.Name == x) with
  | none => rfl
  | some j =>
    obtain ⟨hj, _, _⟩ := List.findIdx?_eq_some_iff_getElem.1 hf
    simp only [Option.bind_some, Sum.elim_inr, Nat.zero_add]
    have e : decide (((j : Nat) : Int) < (0 : Int)) = false := by simp
    show (bif decide (((j : Nat) : Int) < (0 : Int)) then (some ((⟨[], (0 : Int), (0 : Int), (0 : Int), []⟩ : Def), false) : Option (Def × Bool)) else (idxL s.Defs ((j : Nat) : Int)).bind fun r4 => some (r4, true)) = _
    rw [e, cond_false, idxL_nat, List.getElem?_eq_getElem hj]; rfl
end Sh
end
section
open Go Go.Proofs Aq
namespace Sh
def accS : List Pred → List Pred → List Pred
  | acc, [] => acc
  | acc, x :: l => if acc.length < 1000 then accS (acc ++ (pre x).take 1000) l else acc
theorem accS_take : ∀ (l acc : List Pred), (accS acc l).take 1000 = (acc ++ preL l).take 1000
  | [], acc => by simp [accS, preL]
  | x :: l, acc => by
    rw [accS, preL]
    split
    · rename_i h
      rw [accS_take l, ← List.append_assoc]
      by_cases h2 : (pre x).length ≤ 1000
      · rw [List.take_of_length_le h2]
      · have l1 : 1000 ≤ (acc ++ (pre x).take 1000).length := by rw [List.length_append, List.length_take]; omega
        have l2 : 1000 ≤ (acc ++ pre x).length := by rw [List.length_append]; omega
        rw [List.take_append_of_le_length l1, List.take_append_of_le_length l2, List.take_append, List.take_append, List.take_take]
        congr 2; omega
    · rename_i h
      rw [List.take_append_of_le_length (by omega)]
theorem room_2000 {a : Nat} (h : a < 2000) : roomOK a 80 = true := by
  unfold roomOK
  rw [Bool.and_eq_true, decide_eq_true_iff, decide_eq_true_iff]
  exact ⟨by omega, by omega⟩
theorem ref17_Parts_m_spec {n : Nat} : ∀ (g : Nat) (p : Pred), szP p ≤ g → szP p < n → szP p < 2 ^ 62 → ref17_Parts_m n g p = some ((pre p).take 1000)
  | 0, p, hg, _, _ => by have := szP_pos p; omega
  | g + 1, p, hg, hn, hp => by
    have hs := szP_subs p
    have hlen := szL_len p.Subs
    have := loop_st (L := fun m (s : List Pred) i => ref17_Parts_m_L3 n g p m (s, i)) (l := p.Subs) (fun x _ s k => if s.length < 1000 then k (s ++ (pre x).take 1000) else some s) (fun s => some s)
      (fun m i x s hx => by
        have hlt := lt_of_get hx
        have hm : x ∈ p.Subs := List.mem_of_getElem? hx
        have hsz := szL_mem hm
        show ref17_Parts_m_L3 n g p (m + 1) (s, (i : Int)) = _
        rw [ref17_Parts_m_L3_s, dec_of hx, idxL_of hx, wrap_succ (by omega)]
        simp only [cond_true, Option.bind_some, Pred.re_eq]
        rw [ref17_Parts_m_spec g x (by omega) (by omega) (by omega)]
        by_cases h : s.length < 1000
        · have e : decide (((s.length : Nat) : Int) < (1000 : Int)) = true := by simp; omega
          have hl : ((pre x).take 1000).length ≤ 1000 := by simp; omega
          rw [e, if_pos h, cond_true]
          show (bif roomOK (s.length + ((pre x).take 1000).length) 80 then _ else none) = _
          rw [room_2000 (by omega)]; rfl
        · have e : decide (((s.length : Nat) : Int) < (1000 : Int)) = false := by simp; omega
          rw [e, if_neg h]; rfl)
      (fun m s => by
        show ref17_Parts_m_L3 n g p (m + 1) (s, ((p.Subs.length : Nat) : Int)) = _
        rw [ref17_Parts_m_L3_s, dec_end]; rfl) (fun x i s k k' hk => by rw [hk]) p.Subs.length 0 n [p] (by omega) (by omega)
    have key : ∀ (l : List Pred) (i : Nat) (s : List Pred), foldI (fun (x : Pred) (_ : Nat) (s : List Pred) (k : List Pred → Option (List Pred)) => if s.length < 1000 then k (s ++ (pre x).take 1000) else some s) (fun s => some s) i l s = some (accS s l) := by
      intro l
      induction l with
      | nil => intro i s; rfl
      | cons x l ih =>
        intro i s
        show (if s.length < 1000 then foldI _ _ (i + 1) l (s ++ (pre x).take 1000) else some s) = _
        rw [accS]
        split
        · exact ih (i + 1) _
        · rfl
    rw [List.drop_zero, key] at this
    have this' : ref17_Parts_m_L3 n g p n ([p], (0 : Int)) = some (accS [p] p.Subs) := this
    rw [ref17_Parts_m_eq, Pred.re_eq, this', Option.bind_some, pre_eq]
    have ht := accS_take p.Subs [p]
    have e2 : Int.toNat (1000 : Int) = 1000 := rfl
    by_cases h : (accS [p] p.Subs).length > 1000
    · have e : decide ((((accS [p] p.Subs).length : Nat) : Int) > (1000 : Int)) = true := by simp; omega
      have e3 : inB (1000 : Int) (accS [p] p.Subs).length = true := by unfold inB; simp; omega
      rw [e, cond_true, e3, cond_true, e2, ht]; rfl
    · have e : decide ((((accS [p] p.Subs).length : Nat) : Int) > (1000 : Int)) = false := by simp; omega
      rw [e, cond_false]
      rw [List.take_of_length_le (by omega)] at ht
      rw [ht]; rfl
theorem ref17_Parts_spec {n : Nat} {p : Pred} (hn : szP p < n) (hp : szP p < 2 ^ 62) : ref17_Parts n p = some ((pre p).take 1000) := by
  have e : ref17_Parts n p = ref17_Parts_m n n p := by unfold ref17_Parts; rfl
  rw [e, ref17_Parts_m_spec n p (by omega) hn hp]
end Sh
end
section
open Go Go.Proofs Aq
namespace Sh
def checkP (s : Schema) (x : Pred) : Option Int :=
  if x.Op < 1 ∨ x.Op > 7 then some 1 else
  if formS x = false then some 3 else
  if x.Op < 5 then none else
  match s.Defs.find? (fun d => d.Name == x.Name) with
  | none => some 5
  | some d => if (x.Op = 6 ∧ d.Kind ≠ 1) ∨ (x.Op = 7 ∧ d.Kind ≠ 2) then some 130 else none
def checkL (s : Schema) : List Pred → Option Int
  | [] => none
  | x :: l => match checkP s x with
    | some e => some e
    | none => checkL s l
theorem foldI_first {α : Type} (c : α → Option Int) : ∀ (l : List α) (i : Nat), foldI (σ := Unit) (fun x _ _ (k : Unit → Option (PUnit ⊕ Int)) => match c x with | some e => some (Sum.inr e : PUnit ⊕ Int) | none => k ()) (fun _ => some (Sum.inl () : PUnit ⊕ Int)) i l () = some (match l.findSome? c with | some e => (Sum.inr e : PUnit ⊕ Int) | none => .inl ())
  | [], i => rfl
  | x :: l, i => by
    show (match c x with | some e => some (Sum.inr e : PUnit ⊕ Int) | none => foldI _ _ (i + 1) l ()) = _
    rw [List.findSome?_cons]
    cases c x with
    | none => exact foldI_first c l (i + 1)
    | some e => rfl
theorem checkL_eq (s : Schema) : ∀ l : List Pred, checkL s l = l.findSome? (checkP s)
  | [] => rfl
  | x :: l => by
    rw [checkL, List.findSome?_cons, checkL_eq s l]; cases checkP s x <;> rfl
theorem ref17_Check_spec {n : Nat} {s : Schema} {p : Pred} (hn : szP p < n) (hp : szP p < 2 ^ 62) (hd : s.Defs.length < n) (hdb : s.Defs.length < 2 ^ 62) (hk : 1000 < n) :
    ref17_Check n (s, p) = some (if ((pre p).take 1000).length > 64 then 2 else (checkL s ((pre p).take 1000)).getD 0) := by
  generalize hl : (pre p).take 1000 = l
  have hlen : l.length ≤ 1000 := by rw [← hl, List.length_take]; omega
  have := loop_ix (L := fun m i => ref17_Check_L5 n s l m i) (l := l) (fun x _ r => match checkP s x with | some e => some (Sum.inr e : PUnit ⊕ Int) | none => r) (some (.inl ()))
    (fun m i x hx => by
      have hlt := lt_of_get hx
      show ref17_Check_L5 n s l (m + 1) (i : Int) = _
      rw [ref17_Check_L5_s, dec_of hx, idxL_of hx, wrap_succ (by omega)]
      simp only [cond_true, Option.bind_some, Pred.re_eq]
      rw [ref17_form_spec, ref13_Find_spec hd hdb]
      unfold checkP
      by_cases c1 : x.Op < 1 ∨ x.Op > 7
      · rw [if_pos c1]
        have : (bif decide (x.Op < ((1 : Int))) then true else decide (x.Op > ((7 : Int)))) = true := by
          rcases c1 with c | c
          · rw [decide_eq_true c]; rfl
          · rw [decide_eq_true c]; cases decide (x.Op < 1) <;> rfl
        rw [this]; rfl
      · rw [if_neg c1]
        have : (bif decide (x.Op < ((1 : Int))) then true else decide (x.Op > ((7 : Int)))) = false := by
          rw [decide_eq_false (by omega), decide_eq_false (by omega)]; rfl
        rw [this, cond_false]
        cases hform : formS x
        · rw [if_pos rfl]; rfl
        · rw [if_neg (by simp)]
          show (bif !true then some (.inr ((3 : Int))) else bif decide (x.Op < ((5 : Int))) then _ else _) = _
          by_cases c2 : x.Op < 5
          · rw [if_pos c2, decide_eq_true c2]; rfl
          · rw [if_neg c2, decide_eq_false c2]
            have hg := get_find (fun d : Def => d.Name == x.Name) s.Defs
            rw [← hg]
            rw [Bool.not_true, cond_false, cond_false]
            show Option.bind (some (findD s x.Name)) _ = _
            rw [Option.bind_some]
            unfold findD
            cases hf : s.Defs.findIdx? (fun d => d.Name == x.Name) with
            | none => rfl
            | some j =>
              obtain ⟨hj, _, _⟩ := List.findIdx?_eq_some_iff_getElem.1 hf
              have hi : idxL s.Defs ((j : Nat) : Int) = some s.Defs[j] := by rw [idxL_nat, List.getElem?_eq_getElem hj]
              dsimp only
              rw [List.getElem?_eq_getElem hj, hi]
              dsimp only
              have e : decide (((j : Nat) : Int) < (0 : Int)) = false := by simp
              rw [e, cond_false]
              generalize s.Defs[j] = d
              have o : x.Op = 5 ∨ x.Op = 6 ∨ x.Op = 7 := by omega
              by_cases k1 : d.Kind = 1 <;> by_cases k2 : d.Kind = 2 <;> rcases o with o | o | o <;> simp [o, k1, k2, whenO] <;> first
                | (have h1 : (d.Kind != (1 : Int)) = true := bne_iff_ne.2 (by omega); rw [h1]; rfl)
                | (have h2 : (d.Kind != (2 : Int)) = true := bne_iff_ne.2 (by omega); rw [h2]; rfl))
    (fun m => by
      show ref17_Check_L5 n s l (m + 1) ((l.length : Nat) : Int) = _
      rw [ref17_Check_L5_s, dec_end]; rfl) (show l.length < n by omega)
  have this' : ref17_Check_L5 n s l n (0 : Int) = _ := this
  rw [ref17_Check_eq, Pred.re_eq, ref17_Parts_spec hn hp, hl]
  show (bif decide (((l.length : Nat) : Int) > (64 : Int)) then some ((2 : Int)) else _) = _
  by_cases c : l.length > 64
  · rw [if_pos c, decide_eq_true (by omega)]; rfl
  · rw [if_neg c, decide_eq_false (by omega), cond_false, this', foldI_first, checkL_eq]
    cases l.findSome? (checkP s) <;> rfl
end Sh
end
section
open Go Go.Proofs Aq
namespace Sh
theorem ref17_Size_spec {n : Nat} {p : Pred} (hn : szP p < n) (hp : szP p < 2 ^ 62) : ref17_Size n p = some (((((pre p).take 1000).length : Nat)) : Int) := by
  rw [ref17_Size_eq, Pred.re_eq, ref17_Parts_spec hn hp]; rfl
theorem ref17_Few_m_total {n : Nat} : ∀ (g : Nat) (p : Pred) (k : Int), szP p ≤ g → szP p < n → szP p < 2 ^ 62 → ∃ b : Bool, ref17_Few_m n g (p, k) = some b
  | 0, p, k, hg, _, _ => by have := szP_pos p; omega
  | g + 1, p, k, hg, hn, hp => by
    have hs := szP_subs p
    have hlen := szL_len p.Subs
    obtain ⟨r, hr⟩ := loop_tot (L := fun m (_ : Unit) i => ref17_Few_m_L4 n g p k m i) (l := p.Subs)
      (fun m i x _ hx ih => by
        have hlt := lt_of_get hx
        have hsz := szL_mem (List.mem_of_getElem? hx)
        show ∃ r, ref17_Few_m_L4 n g p k (m + 1) (i : Int) = some r
        obtain ⟨b, hb⟩ := ref17_Few_m_total (n := n) g x (IntKind.wrap .i64 (k - (1 : Int))) (by omega) (by omega) (by omega)
        rw [ref17_Few_m_L4_s, dec_of hx, idxL_of hx, wrap_succ (by omega), cond_true, Option.bind_some, Pred.re_eq, hb]
        show ∃ r, (bif !b then _ else _) = some r
        exact bifx ⟨_, rfl⟩ (ih ()))
      (fun m _ i hi => by
        show ∃ r, ref17_Few_m_L4 n g p k (m + 1) (i : Int) = some r
        rw [ref17_Few_m_L4_s, dec_ge hi]; exact ⟨_, rfl⟩) p.Subs.length 0 n () (by omega) (by omega)
    have hr' : ref17_Few_m_L4 n g p k n (0 : Int) = some r := hr
    obtain ⟨z, hz⟩ := whenO_total (c := !(decide (k < ((1 : Int))))) (o := ref17_Size n p) (d := (0 : Int)) (fun _ => ⟨_, ref17_Size_spec hn hp⟩)
    rw [ref17_Few_m_eq, Pred.re_eq]
    show ∃ b : Bool, Option.bind (whenO _ _ _) _ = some b
    rw [hz]
    show ∃ b : Bool, (bif _ then some false else _) = some b
    refine bifx ⟨_, rfl⟩ ?_
    rw [hr', Option.bind_some]
    cases r with
    | inl q => exact ⟨true, rfl⟩
    | inr q => exact ⟨q, rfl⟩
theorem ref17_Few_total {n : Nat} {p : Pred} {k : Int} (hn : szP p < n) (hp : szP p < 2 ^ 62) : ∃ b : Bool, ref17_Few n (p, k) = some b := by
  have e : ref17_Few n (p, k) = ref17_Few_m n n (p, k) := by unfold ref17_Few; rfl
  rw [e]; exact ref17_Few_m_total n p k (by omega) hn hp
def SmallL (l : List Law) (n : Nat) : Prop := l.length < n ∧ l.length < 2 ^ 62 ∧ ∀ x ∈ l, szP x.Where < n ∧ szP x.Where < 2 ^ 62 ∧ 6 * szP x.Where < n
theorem ref21_Few_total {n : Nat} {l : List Law} (h : SmallL l n) : ∃ b : Bool, ref21_Few n l = some b := by
  obtain ⟨h1, h2, h3⟩ := h
  obtain ⟨r, hr⟩ := loop_tot (L := fun m (_ : Unit) i => ref21_Few_L2 n l m i) (l := l)
    (fun m i x _ hx ih => by
      have hlt := lt_of_get hx
      obtain ⟨a1, a2, _⟩ := h3 x (List.mem_of_getElem? hx)
      show ∃ r, ref21_Few_L2 n l (m + 1) (i : Int) = some r
      rw [ref21_Few_L2_s, dec_of hx, idxL_of hx, wrap_succ (by omega)]
      refine bifx ?_ ⟨_, rfl⟩
      rw [Option.bind_some]
      have hw : ∃ y : Law, whenO (!(decide ((((x.Name.length : Nat) : Int)) > ((200 : Int))))) (some x) ((⟨[], (⟨(0 : Int), [], (0 : Int), (0 : Int), [], []⟩ : Pred), (0 : Int)⟩ : Law)) = some y ∧ (szP y.Where < n ∧ szP y.Where < 2 ^ 62) := by
        cases !(decide ((((x.Name.length : Nat) : Int)) > ((200 : Int))))
        · exact ⟨_, rfl, by simp [szP, szL]; omega⟩
        · exact ⟨x, rfl, a1, a2⟩
      obtain ⟨y, hy, hy1, hy2⟩ := hw
      rw [hy, Option.bind_some, Pred.re_eq]
      obtain ⟨b, hb⟩ := whenO_total (c := !(decide ((((x.Name.length : Nat) : Int)) > ((200 : Int))))) (o := ref17_Few n (y.Where, (6 : Int))) (d := false) (fun _ => ref17_Few_total hy1 hy2)
      show ∃ r, Option.bind (whenO _ _ _) _ = some r
      rw [hb]
      show ∃ r, (bif _ then some (Sum.inr false) else _) = some r
      exact bifx ⟨_, rfl⟩ (ih ()))
    (fun m _ i hi => by
      show ∃ r, ref21_Few_L2 n l (m + 1) (i : Int) = some r
      rw [ref21_Few_L2_s, dec_ge hi]; exact ⟨_, rfl⟩) l.length 0 n () (by omega) h1
  have hr' : ref21_Few_L2 n l n (0 : Int) = some r := hr
  rw [ref21_Few_eq, hr', Option.bind_some]
  cases r with
  | inl q => exact ⟨_, rfl⟩
  | inr q => exact ⟨q, rfl⟩
def SmallE (l : List Event) (n : Nat) : Prop := l.length < n ∧ l.length < 2 ^ 62 ∧ ∀ x ∈ l, x.Attrs.length < n ∧ x.Attrs.length < 2 ^ 62
theorem ref19_Few_total {n : Nat} {l : List Event} {k : Int} (h : SmallE l n) : ∃ b : Bool, ref19_Few n (l, k) = some b := by
  obtain ⟨h1, h2, h3⟩ := h
  obtain ⟨r, hr⟩ := loop_tot (L := fun m (_ : Unit) i => ref19_Few_L2 n l k m i) (l := l)
    (fun m i x _ hx ih => by
      have hlt := lt_of_get hx
      obtain ⟨a1, a2⟩ := h3 x (List.mem_of_getElem? hx)
      show ∃ r, ref19_Few_L2 n l k (m + 1) (i : Int) = some r
      rw [ref19_Few_L2_s, dec_of hx, idxL_of hx, wrap_succ (by omega)]
      refine bifx ?_ ⟨_, rfl⟩
      rw [Option.bind_some, Option.bind_some]
      obtain ⟨b, hb⟩ := ref13_Few_total (n := n) (e := ⟨0, 0, 0, 0, 0, 0, 0, x.Vec, x.Attrs⟩) a1 a2
      rw [hb]
      show ∃ r, (bif !b then _ else _) = some r
      exact bifx ⟨_, rfl⟩ (ih ()))
    (fun m _ i hi => by
      show ∃ r, ref19_Few_L2 n l k (m + 1) (i : Int) = some r
      rw [ref19_Few_L2_s, dec_ge hi]; exact ⟨_, rfl⟩) l.length 0 n () (by omega) h1
  have hr' : ref19_Few_L2 n l k n (0 : Int) = some r := hr
  rw [ref19_Few_eq, hr', Option.bind_some]
  cases r with
  | inl q => exact ⟨_, rfl⟩
  | inr q => exact ⟨q, rfl⟩
end Sh
end
section
open Go Go.Proofs Aq
namespace Sh
theorem ref19_has_total {n : Nat} {b : Book} {d : Int} (h : b.Rows.length < n) (hb : b.Rows.length < 2 ^ 62) : ∃ r : Bool, ref19_has n (b, d) = some r := by
  have := loop_ix (L := fun m i => ref19_has_L2 n b d m i) (l := b.Rows) (fun x i r => bif x.Entry.ID == d then some (.inr true) else r) (some (.inl ()))
    (fun m i x hx => by
      have hlt := lt_of_get hx
      rw [ref19_has_L2_s, dec_of hx, idxL_of hx, wrap_succ (by omega)]; rfl)
    (fun m => by rw [ref19_has_L2_s, dec_end]; rfl) h
  rw [ref19_has_eq, this, foldI_find (fun x : Row => x.Entry.ID == d) (fun i => (Sum.inr true : PUnit ⊕ Bool)) (.inl ())]
  cases b.Rows.findIdx? (fun x : Row => x.Entry.ID == d) <;> exact ⟨_, rfl⟩
theorem ref04_Valid_total {n : Nat} {l : List Int} (h : l.length < n) (hb : l.length < 2 ^ 62) : ∃ r : Bool, ref04_Valid n l = some r := by
  obtain ⟨r, hr⟩ := loop_tot (L := fun m (_ : Unit) i => ref04_Valid_L2 n l m i) (l := l)
    (fun m i x _ hx ih => by
      have hlt := lt_of_get hx
      show ∃ r, ref04_Valid_L2 n l (m + 1) (i : Int) = some r
      rw [ref04_Valid_L2_s, dec_of hx, idxL_of hx, wrap_succ (by omega)]
      obtain ⟨z, hz⟩ := whenO_total (c := !(decide (x < ((-1000 : Int))))) (o := some x) (d := (0 : Int)) (fun _ => ⟨_, rfl⟩)
      simp only [cond_true, Option.bind_some, hz]
      exact bifx ⟨_, rfl⟩ (ih ()))
    (fun m _ i hi => by
      show ∃ r, ref04_Valid_L2 n l (m + 1) (i : Int) = some r
      rw [ref04_Valid_L2_s, dec_ge hi]; exact ⟨_, rfl⟩) l.length 0 n () (by omega) (by omega)
  have hr' : ref04_Valid_L2 n l n (0 : Int) = some r := hr
  rw [ref04_Valid_eq, hr', Option.bind_some]
  cases r <;> exact ⟨_, rfl⟩
theorem ref13_Value_total {n : Nat} {d : Def} {a : Attr} (h : d.Words.length < n) (hb : d.Words.length < 2 ^ 62) : ∃ r : Int, ref13_Value n (d, a) = some r := by
  rw [ref13_Value_eq, ref13_Has_spec h hb]
  exact bifx ⟨_, rfl⟩ (bifx (bifx ⟨_, rfl⟩ (bifx ⟨_, rfl⟩ ⟨_, rfl⟩)) (bifx ⟨_, rfl⟩ (bifx ⟨_, rfl⟩ ⟨_, rfl⟩)))
theorem findD_get {s : Schema} {x : List UInt8} (h : ¬ findD s x < 0) : ∃ (i : Nat) (d : Def), findD s x = (i : Int) ∧ s.Defs[i]? = some d := by
  unfold findD at h ⊢
  cases hf : s.Defs.findIdx? (fun d => d.Name == x) with
  | none => rw [hf] at h; exact absurd (by decide) h
  | some i =>
    obtain ⟨hi, _⟩ := List.findIdx?_eq_some_iff_getElem.mp hf
    exact ⟨i, s.Defs[i], rfl, List.getElem?_eq_getElem hi⟩
theorem ref13_Fits_total {n : Nat} {s : Schema} {l : List Attr} (hs : SmallS s n) (h : l.length < n) (hb : l.length < 2 ^ 62) : ∃ r : Int, ref13_Fits n (s, l) = some r := by
  obtain ⟨s1, s2, s3⟩ := hs
  obtain ⟨r, hr⟩ := loop_tot (L := fun m (_ : Unit) i => ref13_Fits_L2 n s l m i) (l := l)
    (fun m i x _ hx ih => by
      have hlt := lt_of_get hx
      have ih' : ∃ r, ref13_Fits_L2 n s l m ((i + 1 : Nat) : Int) = some r := ih ()
      show ∃ r, ref13_Fits_L2 n s l (m + 1) (i : Int) = some r
      rw [ref13_Fits_L2_s, dec_of hx, idxL_of hx, wrap_succ (by omega)]
      simp only [cond_true, Option.bind_some]
      rw [ref13_Find_spec s1 s2]
      show ∃ r, (bif decide (findD s x.Name < 0) then some (Sum.inr (5 : Int)) else _) = some r
      by_cases hf : findD s x.Name < 0
      · rw [decide_eq_true hf]; exact ⟨_, rfl⟩
      obtain ⟨j, d, hj, hd⟩ := findD_get hf
      rw [decide_eq_false hf, hj, idxL_of hd]
      have hv : ∃ v : Int, ref13_Value n (d, x) = some v := by
        obtain ⟨_, _, w1, w2, _⟩ := s3 d (List.mem_of_getElem? hd)
        exact ref13_Value_total w1 w2
      obtain ⟨v, hv⟩ := hv
      have tail : ∃ r, ((ref13_Value n (d, x)).bind fun (r10 : Int) => bif r10 != (0 : Int) then some (Sum.inr r10) else ref13_Fits_L2 n s l m ((i + 1 : Nat) : Int)) = some r := by
        rw [hv]; exact bifx ⟨_, rfl⟩ ih'
      show ∃ r, (bif decide ((i : Int) > 0) then _ else _) = some r
      cases i with
      | zero => exact tail
      | succ k =>
        have hk : k < l.length := by omega
        have hy : l[k]? = some l[k] := List.getElem?_eq_getElem hk
        have hw : IntKind.wrap .i64 (((k + 1 : Nat) : Int) - (1 : Int)) = ((k : Nat) : Int) := by
          rw [show (((k + 1 : Nat) : Int) - (1 : Int)) = ((k : Nat) : Int) by omega]
          rw [IntKind.wrap_i64]; omega
        rw [decide_eq_true (show ((k + 1 : Nat) : Int) > 0 by omega), hw, idxL_of hy]
        show ∃ r, (bif _ then some (Sum.inr (6 : Int)) else _) = some r
        exact bifx ⟨_, rfl⟩ tail)
    (fun m _ i hi => by
      show ∃ r, ref13_Fits_L2 n s l (m + 1) (i : Int) = some r
      rw [ref13_Fits_L2_s, dec_ge hi]; exact ⟨_, rfl⟩) l.length 0 n () (by omega) (by omega)
  have hr' : ref13_Fits_L2 n s l n (0 : Int) = some r := hr
  rw [ref13_Fits_eq, hr', Option.bind_some]
  cases r <;> exact ⟨_, rfl⟩
def SmallEn (e : Entry) (n : Nat) : Prop := e.Vec.length < n ∧ e.Vec.length < 2 ^ 62 ∧ e.Attrs.length < n ∧ e.Attrs.length < 2 ^ 62
theorem ref13_Entry_total {n : Nat} {s : Schema} {e : Entry} (hs : SmallS s n) (h : SmallEn e n) : ∃ r : Int, ref13_Entry n (s, e) = some r := by
  obtain ⟨h1, h2, h3, h4⟩ := h
  obtain ⟨b, hb⟩ := ref04_Valid_total h1 h2
  obtain ⟨r, hr⟩ := ref13_Fits_total hs h3 h4
  rw [ref13_Entry_eq, hb, hr]
  exact bifx ⟨_, rfl⟩ (bifx ⟨_, rfl⟩ (bifx ⟨_, rfl⟩ ⟨_, rfl⟩))
theorem ref19_version_total {n : Nat} {b : Book} {d : Int} (h : b.Rows.length < n) (hb : b.Rows.length < 2 ^ 62) : ∃ r : Int, ref19_version n (b, d) = some r := by
  obtain ⟨r, hr⟩ := loop_tot (L := fun m (s : Int) i => ref19_version_L3 n b d m (s, i)) (l := b.Rows)
    (fun m i x s hx ih => by
      have hlt := lt_of_get hx
      show ∃ r, ref19_version_L3 n b d (m + 1) (s, (i : Int)) = some r
      rw [ref19_version_L3_s, dec_of hx, idxL_of hx, wrap_succ (by omega)]
      simp only [cond_true, Option.bind_some]
      exact bifx (ih _) (ih _))
    (fun m s i hi => by
      show ∃ r, ref19_version_L3 n b d (m + 1) (s, (i : Int)) = some r
      rw [ref19_version_L3_s, dec_ge hi]; exact ⟨_, rfl⟩) b.Rows.length 0 n 0 (by omega) (by omega)
  have hr' : ref19_version_L3 n b d n (0, 0) = some r := hr
  rw [ref19_version_eq, hr']; exact ⟨_, rfl⟩
end Sh
end
