/- Part of the proof of a law: Pl16 Pl17. -/
import Derived.Test.YteniejlbjfigdaaGreatDoorW19
set_option linter.all false
set_option linter.unusedSimpArgs false
set_option linter.unusedSectionVars false
section
open Go Go.Proofs Aq
namespace Sh
def Ens {α : Type} (o : Option α) (P : α → Prop) : Prop := ∀ r, o = some r → P r
theorem ens_none {α : Type} {P : α → Prop} : Ens none P := fun _ h => by cases h
theorem ens_some {α : Type} {P : α → Prop} {x : α} (h : P x) : Ens (some x) P := fun r hr => by cases hr; exact h
theorem ens_bind {α β : Type} {P : β → Prop} {o : Option α} {k : α → Option β} (h : ∀ a, o = some a → Ens (k a) P) : Ens (o.bind k) P := fun r hr => by
  obtain ⟨a, h1, h2⟩ := Option.bind_eq_some_iff.1 hr
  exact h a h1 r h2
theorem ens_bif {α : Type} {P : α → Prop} {c : Bool} {x y : Option α} (h1 : c = true → Ens x P) (h2 : c = false → Ens y P) : Ens (bif c then x else y) P := by
  cases c
  · exact h2 rfl
  · exact h1 rfl
def DP (b : Book) (e : Event) (r : ref19_Booked) : Prop := r.E = 0 → r.B.Days = b.Days ++ [e.Day]
theorem dp_err {b : Book} {e : Event} {k : Int} (h : k ≠ 0) : DP b e ⟨b, k⟩ := fun h' => absurd h' h
theorem dp_bne {b : Book} {e : Event} {k : Int} (h : (k != 0) = true) : DP b e ⟨b, k⟩ := dp_err (by simpa using h)
theorem ref19_change_days {n : Nat} {b : Book} {e : Event} {l : List Row} {to : List ref19_days} {more : Entry} : Ens (ref19_change n (b, (e, (l, (to, more))))) (DP b e) := by
  rw [ref19_change_eq]
  refine ens_bind fun _ _ => ens_bind fun _ _ => ens_bif (fun _ => ens_bind fun _ _ => ens_bif (fun h => ens_some (dp_bne h)) fun _ => ens_bif (fun _ => ens_bif (fun _ => ens_some (dp_err (by decide))) fun _ => ?_) fun _ => ens_none) (fun _ => ens_bif (fun _ => ens_some (dp_err (by decide))) fun _ => ?_)
  · exact ens_bif (fun _ => ens_bif (fun _ => ens_bif (fun _ => ens_bif (fun _ => ens_some fun _ => rfl) fun _ => ens_none) fun _ => ens_none) fun _ => ens_none) fun _ => ens_none
  · exact ens_bif (fun _ => ens_bif (fun _ => ens_bif (fun _ => ens_bif (fun _ => ens_some fun _ => rfl) fun _ => ens_none) fun _ => ens_none) fun _ => ens_none) fun _ => ens_none
theorem ens_id {α : Type} {P : α → Prop} {o : Option α} (h : Ens o P) : Ens (o.bind fun r => some r) P := ens_bind fun a ha => ens_some (h a ha)
theorem ref19_file_days {n : Nat} {b : Book} {e : Event} : Ens (ref19_file n (b, e)) (DP b e) := by
  rw [ref19_file_eq]
  exact ens_bind fun _ _ => ens_bif (fun _ => ens_some (dp_err (by decide))) fun _ => ens_bind fun _ _ => ens_bif (fun h => ens_some (dp_bne h)) fun _ => ens_id ref19_change_days
theorem ref19_correct_days {n : Nat} {b : Book} {e : Event} {l : List Row} : Ens (ref19_correct n (b, (e, l))) (DP b e) := by
  rw [ref19_correct_eq]
  exact ens_bind fun _ _ => ens_bind fun _ _ => ens_bif (fun _ => ens_some (dp_err (by decide))) fun _ => ens_bind fun _ _ => ens_bind fun _ _ => ens_bind fun _ _ => ens_id ref19_change_days
theorem ref19_withdraw_days {n : Nat} {b : Book} {e : Event} {l : List Row} : Ens (ref19_withdraw n (b, (e, l))) (DP b e) := by
  rw [ref19_withdraw_eq]
  exact ens_bif (fun _ => ens_bind fun _ _ => ens_bif (fun _ => ens_some (dp_err (by decide))) fun _ => ens_bind fun _ _ => ens_id ref19_change_days) fun _ => ens_some (dp_err (by decide))
theorem ref19_embargo_days {n : Nat} {b : Book} {e : Event} {l : List Row} : Ens (ref19_embargo n (b, (e, l))) (DP b e) := by
  rw [ref19_embargo_eq]
  exact ens_bind fun _ _ => ens_bif (fun _ => ens_some (dp_err (by decide))) fun _ => ens_bif (fun _ => ens_bind fun _ _ => ens_bif (fun _ => ens_some (dp_err (by decide))) fun _ => ens_bind fun _ _ => ens_id ref19_change_days) fun _ => ens_some (dp_err (by decide))
theorem ref19_Apply_days {n : Nat} {b : Book} {e : Event} : Ens (ref19_Apply n (b, e)) (DP b e) := by
  rw [ref19_Apply_eq]
  have live : Ens ((ref19_Live n ((b, e.ID))).bind fun (r5 : List Row) =>
            bif (((r5.length : Nat) : Int)) == ((0 : Int)) then
              some ((⟨b, (5 : Int)⟩ : ref19_Booked))
            else
              bif e.Kind == ((2 : Int)) then
                (ref19_correct n ((b, (e, r5)))).bind fun (r6 : ref19_Booked) =>
                some r6
              else
                bif e.Kind == ((3 : Int)) then
                  (ref19_withdraw n ((b, (e, r5)))).bind fun (r7 : ref19_Booked) =>
                  some r7
                else
                  (ref19_embargo n ((b, (e, r5)))).bind fun (r8 : ref19_Booked) =>
                  some r8) (DP b e) :=
    ens_bind fun _ _ => ens_bif (fun _ => ens_some (dp_err (by decide))) fun _ => ens_bif (fun _ => ens_id ref19_correct_days) fun _ => ens_bif (fun _ => ens_id ref19_withdraw_days) fun _ => ens_id ref19_embargo_days
  exact ens_bif (fun _ => ens_some (dp_err (by decide))) fun _ => ens_bif (fun _ => ens_id ref19_file_days) fun _ => ens_bif (fun _ => ens_id ref19_change_days) fun _ => ens_bif (fun _ => live) fun _ => ens_bif (fun _ => live) fun _ => ens_bif (fun _ => live) fun _ => ens_some (dp_err (by decide))
def DaysOf (l : List Event) (b : Book) : Prop := ∃ i, i ≤ l.length ∧ b.Days = (l.take i).map (·.Day)
theorem ref19_Fold_days {n : Nat} {s : Schema} {l : List Event} (hb : l.length < 2 ^ 62) : Ens (ref19_Fold n (s, l)) fun r => DaysOf l r.B := by
  have key : ∀ (m i : Nat) (f : ref19_Folded) (bk : ref19_Booked), i ≤ l.length → (bk.E = 0 → bk.B.Days = (l.take i).map (·.Day)) → Ens (ref19_Fold_L3 n l m ((i : Int), (f, bk))) (fun q => match q with
      | .inl q => q.2.2.E = 0 → DaysOf l q.2.2.B
      | .inr q => DaysOf l q.2.B) := by
    intro m
    induction m with
    | zero => intro i f bk _ _; rw [ref19_Fold_L3_0]; exact ens_none
    | succ m ih =>
      intro i f bk hi hd
      rw [ref19_Fold_L3_s]
      refine ens_bif (fun hlt => ?_) (fun _ => ens_some fun hz => ⟨i, hi, hd hz⟩)
      have hlt2 : i < l.length ∧ bk.E = 0 := by simpa using hlt
      have hlt' := hlt2.1
      have hD := hd hlt2.2
      refine ens_bind fun x hx => ens_bind fun r hr => ?_
      have hx' : l[i]? = some x := by rw [idxL_nat] at hx; exact hx
      have hap := ref19_Apply_days r hr
      refine ens_bif (fun _ => ens_some ⟨i, hi, hD⟩) (fun _ => ?_)
      rw [wrap_succ (by omega)]
      refine ih (i + 1) f r (by omega) fun h0 => ?_
      rw [hap h0, hD, List.take_add_one, hx', List.map_append]
      rfl
  rw [ref19_Fold_eq]
  refine ens_bind fun nw hnw => ens_bind fun q hq => ?_
  have hnd : nw.E = 0 → nw.B.Days = [] := by
    have : Ens (ref19_New n s) (fun r => r.E = 0 → r.B.Days = []) := by
      rw [ref19_New_eq]
      exact ens_bind fun (e : Int) _ => ens_bif (fun h => ens_some fun h0 => by
        have h3 : e = (0 : Int) := h0
        have h4 : (e != (0 : Int)) = true := h
        simp [h3] at h4) (fun _ => ens_some fun _ => rfl)
    exact this nw hnw
  have := key n 0 _ nw (Nat.zero_le _) (fun h => by rw [hnd h]; rfl) q hq
  cases q with
  | inl q =>
    exact ens_bif (fun _ => ens_some ⟨0, Nat.zero_le _, rfl⟩) (fun hz => ens_some (this (by simpa using hz)))
  | inr q => exact ens_some this
end Sh
end
section
open Go Go.Proofs Aq
namespace Sh
structure BF (n : Nat) (l : List Event) (b : Book) : Prop where
  commit : b.Commit = ((b.Days.length : Nat) : Int)
  days : b.Days.length ≤ 2 ^ 30
  rows : b.Rows.length ≤ 65536
  row : ∀ r ∈ b.Rows, ROK n b.Commit r
  ev : ∀ (k : Nat) day, b.Days[k]? = some day → ∃ e, l[k]? = some e ∧ e.Day = day
theorem bf_of {n : Nat} {s : Schema} {l : List Event} {r : ref19_Folded} (h : FI' n s r) (hd : DaysOf l r.B) : BF n l r.B := by
  have hev : ∀ (k : Nat) day, r.B.Days[k]? = some day → ∃ e, l[k]? = some e ∧ e.Day = day := by
    obtain ⟨i, hi, hd⟩ := hd
    intro k day hk
    rw [hd, List.getElem?_map] at hk
    simp only [Option.map_eq_some_iff] at hk
    obtain ⟨e, he, rfl⟩ := hk
    have hlt : k < (l.take i).length := by
      rw [List.getElem?_eq_some_iff] at he; exact he.1
    rw [List.getElem?_take_of_lt (by simp at hlt; omega)] at he
    exact ⟨e, he, rfl⟩
  rcases h with h | h
  · exact ⟨h.commit, h.days, h.rows, h.row, hev⟩
  · refine ⟨?_, ?_, ?_, ?_, hev⟩
    · rw [h]; rfl
    · rw [h]; exact Nat.zero_le _
    · rw [h]; exact Nat.zero_le _
    · rw [h]; exact fun x (hx : x ∈ ([] : List Row)) => absurd hx List.not_mem_nil
theorem BF.died {n : Nat} {l : List Event} {b : Book} (h : BF n l b) {r : Row} (hr : r ∈ b.Rows) (h1 : 1 ≤ r.Died) :
    IntKind.wrap .i64 (r.Died - (1 : Int)) = r.Died - 1 ∧ r.Died ≤ b.Commit ∧ ∃ e, idxL l (IntKind.wrap .i64 (r.Died - (1 : Int))) = some e ∧ idxL b.Days (IntKind.wrap .i64 (r.Died - (1 : Int))) = some e.Day := by
  rcases (h.row r hr).1 with h0 | ⟨_, h2⟩
  · omega
  · have hc := h.commit
    have hd := h.days
    have hw : IntKind.wrap .i64 (r.Died - (1 : Int)) = r.Died - 1 := by rw [IntKind.wrap_i64]; omega
    refine ⟨hw, h2, ?_⟩
    rw [hw]
    obtain ⟨k, hk⟩ : ∃ k : Nat, r.Died - 1 = (k : Int) := ⟨(r.Died - 1).toNat, by omega⟩
    obtain ⟨day, hday, _⟩ := idx_some (l := b.Days) (i := k) (by omega)
    have hday' : b.Days[k]? = some day := by rw [idxL_nat] at hday; exact hday
    obtain ⟨e, he, rfl⟩ := h.ev k day hday'
    rw [hk]
    exact ⟨e, by rw [idxL_nat]; exact he, hday⟩
theorem BF.bookOK {n : Nat} {l : List Event} {b : Book} (h : BF n l b) : BookOK b := fun r hr h1 => by
  obtain ⟨_, _, e, _, h3⟩ := h.died hr h1
  exact ⟨_, h3⟩
theorem law21_folded_bf {n : Nat} {s : Schema} {l : List Event} (hn : 2 ^ 20 < n) (hs : SmallS s n) (hl : l.length < n) (hb : l.length < 2 ^ 62) (he : ∀ e ∈ l, SmallEv e n) :
    ∃ (b : Book) (ok : Bool), law21_folded n (s, l) = some (b, ok) ∧ (ok = true → BF n l b) := by
  rw [law21_folded_eq]
  obtain ⟨f, hf⟩ := ref19_Few_total (k := 25) (show SmallE l n from ⟨hl, hb, fun x hx => ⟨(he x hx).2.2.1, (he x hx).2.2.2⟩⟩)
  obtain ⟨d, hd⟩ := ref13_FewDefs_total (k := 6) hs
  obtain ⟨r, hr, hfi⟩ := ref19_Fold_total hn hs hl hb he
  obtain ⟨c, hc⟩ := ref13_Check_total hs (by omega)
  cases f with
  | false => refine ⟨_, _, bs hf (bs (a := false) (by rw [hd]; rfl) rfl), fun h => by cases h⟩
  | true =>
    cases d with
    | false => refine ⟨_, _, bs hf (bs (a := false) (by rw [hd]; rfl) rfl), fun h => by cases h⟩
    | true => exact ⟨_, _, bs hf (bs (a := true) (by rw [hd]; rfl) (bs hr (bs hc rfl))), fun _ => bf_of hfi (ref19_Fold_days hb r hr)⟩
def dayR (b : Book) (r : Row) : Int := (idxL b.Days (IntKind.wrap .i64 (r.Died - 1))).getD 0
def keptR (H : Pred → List Attr → Bool) (laws : List Law) (b : Book) (r : Row) : Bool := laws.any (keeps H b r (dayR b r))
theorem floorS_min {H : Pred → List Attr → Bool} {laws : List Law} {b : Book} : ∀ (l : List Row) (fl : Int), 0 ≤ fl → (∀ r ∈ l, 1 ≤ r.Died → IntKind.wrap .i64 (r.Died - (1 : Int)) = r.Died - 1) →
    0 ≤ floorS H laws b l fl ∧ floorS H laws b l fl ≤ fl ∧ (∀ r ∈ l, 1 ≤ r.Died → keptR H laws b r = true → floorS H laws b l fl ≤ r.Died - 1) ∧
    (floorS H laws b l fl = fl ∨ ∃ r ∈ l, 1 ≤ r.Died ∧ keptR H laws b r = true ∧ r.Died - 1 = floorS H laws b l fl)
  | [], fl, h0, _ => ⟨h0, Int.le_refl _, fun r hr => absurd hr List.not_mem_nil, .inl rfl⟩
  | r :: l, fl, h0, hw => by
    have hw' := fun x hx => hw x (List.mem_cons_of_mem _ hx)
    have step : floorS H laws b (r :: l) fl = floorS H laws b l (if 1 ≤ r.Died ∧ r.Died ≤ fl ∧ keptR H laws b r = true then IntKind.wrap .i64 (r.Died - 1) else fl) := rfl
    rw [step]
    by_cases hc : 1 ≤ r.Died ∧ r.Died ≤ fl ∧ keptR H laws b r = true
    · rw [if_pos hc, hw r (by simp) hc.1]
      obtain ⟨g1, g2, g3, g4⟩ := floorS_min (H := H) (laws := laws) (b := b) l (r.Died - 1) (by omega) hw'
      refine ⟨g1, by omega, fun x hx h1 hk => ?_, ?_⟩
      · rcases List.mem_cons.1 hx with rfl | hx
        · exact g2
        · exact g3 x hx h1 hk
      · rcases g4 with g4 | ⟨x, hx, h1, h2, h3⟩
        · exact .inr ⟨r, by simp, hc.1, hc.2.2, g4.symm⟩
        · exact .inr ⟨x, List.mem_cons_of_mem _ hx, h1, h2, h3⟩
    · rw [if_neg hc]
      obtain ⟨g1, g2, g3, g4⟩ := floorS_min (H := H) (laws := laws) (b := b) l fl h0 hw'
      refine ⟨g1, g2, fun x hx h1 hk => ?_, ?_⟩
      · rcases List.mem_cons.1 hx with rfl | hx
        · have : ¬ x.Died ≤ fl := fun h => hc ⟨h1, h, hk⟩
          omega
        · exact g3 x hx h1 hk
      · rcases g4 with g4 | ⟨x, hx, h1, h2, h3⟩
        · exact .inl g4
        · exact .inr ⟨x, List.mem_cons_of_mem _ hx, h1, h2, h3⟩
theorem retain_latest_total {n : Nat} {l : List Row} (h : l.length < n) (hb : l.length < 2 ^ 62) : ∃ m : List (Int × Int), retain_latest n l = some m := by
  have key : ∀ (k i m : Nat) (o : List (Int × Int)), i + k = l.length → k < m → ∃ q : PUnit × List (Int × Int), retain_latest_L3 n l m ((i : Int), o) = some q := by
    intro k
    induction k with
    | zero =>
      intro i m o hi hm
      obtain ⟨m, rfl⟩ : ∃ m', m = m' + 1 := ⟨m - 1, by omega⟩
      exact ⟨((), o), by rw [retain_latest_L3_s, decide_eq_false (by omega)]; rfl⟩
    | succ k ih =>
      intro i m o hi hm
      obtain ⟨m, rfl⟩ : ∃ m', m = m' + 1 := ⟨m - 1, by omega⟩
      obtain ⟨x, hx, _⟩ := idx_some (l := l) (i := i) (by omega)
      rw [retain_latest_L3_s, decide_eq_true (by omega), cond_true]
      obtain ⟨q, hq⟩ := ih (i + 1) m (mset (beqD R (Aq.Ty.int Go.IntKind.i64)) x.Entry.ID (imax (optGet ((0 : Int)) (mget (beqD R (Aq.Ty.int Go.IntKind.i64)) x.Entry.ID o)) x.Entry.Ver) o) (by omega) (by omega)
      refine ⟨q, bs hx ?_⟩
      rw [wrap_succ (by omega)]
      exact hq
  obtain ⟨q, hq⟩ := key l.length 0 n [] (by omega) h
  rw [retain_latest_eq]
  exact ⟨q.2, bs hq rfl⟩
theorem retain_Forgets_spec {n : Nat} {b : Book} {fl : Int} {i : Nat} {r : Row} (hr : b.Rows[i]? = some r) (h : b.Rows.length < n) (hb : b.Rows.length < 2 ^ 62) : ∃ v : Bool, retain_Forgets n (b, (fl, (i : Int))) = some v ∧ (v = true → r.Died ≤ fl) := by
  obtain ⟨m, hm⟩ := retain_latest_total h hb
  have hlt := lt_of_get hr
  rw [retain_Forgets_eq, decide_eq_true (show (i : Int) ≥ 0 by omega), cond_true, dec_of hr, cond_true]
  have hf : retain_forgets n (b, fl) = some ((), (fl, m)) := by
    rw [retain_forgets_eq]
    exact bs hm rfl
  refine ⟨_, bs hf (bs (idxL_of hr) (bs (retain_forgets_1_eq n r fl m) rfl)), fun hv => ?_⟩
  cases h1 : decide (r.Died ≥ 1) with
  | false => rw [h1] at hv; simp at hv
  | true =>
    cases h2 : decide (r.Died ≤ fl) with
    | false => rw [h1, h2] at hv; simp at hv
    | true => exact of_decide_eq_true h2
def good (H : Pred → List Attr → Bool) (b : Book) (n0 : Int) (r : Row) (x : Law) : Bool := decide (r.Died > 0) && keeps H b r (dayR b r) x && (r.Died == n0 + 1)
theorem obeys_inner {n : Nat} {laws : List Law} {l : List Event} {b : Book} {n0 : Int} {i : Nat} {r : Row} (hbf : BF n l b) (hr : b.Rows[i]? = some r) (hrn : b.Rows.length < n) (hw : SmallL laws n) (h0 : 0 ≤ n0 ∧ n0 ≤ b.Commit)
    (hmin : 1 ≤ r.Died → keptR (fun p a => holdsS a p) laws b r = true → n0 ≤ r.Died - 1) :
    ∀ (k j m : Nat) (h : Bool), j + k = laws.length → k < m → law21_RetainObeysLaws_L13 n l laws (b, true) n0 (i : Int) r m (h, (j : Int)) = some (.inl (h || (laws.drop j).any (good (fun p a => holdsS a p) b n0 r))) := by
  have hmem : r ∈ b.Rows := List.mem_of_getElem? hr
  have hrow := hbf.row r hmem
  have hcm := hbf.commit
  have hdy := hbf.days
  have hrb : b.Rows.length < 2 ^ 62 := by have := hbf.rows; omega
  intro k
  induction k with
  | zero =>
    intro j m h hj hm
    obtain ⟨m, rfl⟩ : ∃ m', m = m' + 1 := ⟨m - 1, by omega⟩
    rw [law21_RetainObeysLaws_L13_s, decide_eq_false (by omega), List.drop_eq_nil_of_le (by omega)]
    simp
  | succ k ih =>
    intro j m h hj hm
    obtain ⟨m, rfl⟩ : ∃ m', m = m' + 1 := ⟨m - 1, by omega⟩
    obtain ⟨x, hx, hxm⟩ := idx_some (l := laws) (i := j) (by omega)
    have hx' : laws[j]? = some x := by rw [idxL_nat] at hx; exact hx
    have hd : laws.drop j = x :: laws.drop (j + 1) := by
      rw [List.getElem?_eq_some_iff] at hx'
      obtain ⟨hlt, he⟩ := hx'
      rw [List.drop_eq_getElem_cons hlt, he]
    have hH := filter_Holds_spec (n := n) (l := r.Entry.Attrs) (p := x.Where) hrow.2.2.2.1 hrow.2.2.2.2 (hw.2.2 x hxm).2.2 (hw.2.2 x hxm).2.1
    have hH' : filter_Holds n (x.Where.re, r.Entry.Attrs) = some (holdsS r.Entry.Attrs x.Where) := by rw [Pred.re_eq]; exact hH
    have ihn := fun h' => ih (j + 1) m h' (by omega) (by omega)
    have hwj : IntKind.wrap .i64 ((j : Int) + (1 : Int)) = ((j + 1 : Nat) : Int) := wrap_succ (by have := hw.2.1; omega)
    rw [law21_RetainObeysLaws_L13_s, dec_of hx', cond_true]
    refine bs hx (bs hH' ?_)
    rw [hd, List.any_cons]
    cases hh : holdsS r.Entry.Attrs x.Where with
    | false =>
      rw [cond_false, hwj, ihn]
      have : good (fun p a => holdsS a p) b n0 r x = false := by simp [good, keeps, hh]
      rw [this]; cases h <;> simp
    | true =>
      rw [cond_true]
      by_cases hdz : r.Died > 0
      · rw [decide_eq_true hdz, cond_true]
        obtain ⟨hwr, hle, e, he1, he2⟩ := hbf.died hmem (by omega)
        have hday : dayR b r = e.Day := by unfold dayR; rw [he2]; rfl
        obtain ⟨v, hv, hvt⟩ := retain_Forgets_spec (n := n) (fl := n0) hr hrn hrb
        refine bs he1 (bs hx ?_)
        cases hc : decide (IntKind.wrap .i64 (e.Day + x.Days) ≥ b.Day) with
        | false =>
          refine bs (a := false) (by rfl) ?_
          rw [cond_false, cond_false, hwj, ihn]
          have : good (fun p a => holdsS a p) b n0 r x = false := by simp only [good, keeps, hday, hc]; simp
          rw [this]; cases h <;> simp
        | true =>
          have hk : keptR (fun p a => holdsS a p) laws b r = true := by
            unfold keptR
            rw [List.any_eq_true]
            exact ⟨x, hxm, by simp only [keeps, hday, hc, hh]; rfl⟩
          have hv' : v = false := by
            cases v with
            | false => rfl
            | true => have := hvt rfl; have := hmin (by omega) hk; omega
          subst hv'
          refine bs (a := false) (by rw [hv]; rfl) ?_
          rw [cond_true, cond_false, cond_true, hwj, ihn]
          have hwn : IntKind.wrap .i64 (n0 + (1 : Int)) = n0 + 1 := by rw [IntKind.wrap_i64]; omega
          have : good (fun p a => holdsS a p) b n0 r x = (r.Died == n0 + 1) := by simp only [good, keeps, hday, hc, hh, decide_eq_true hdz]; simp
          rw [this, hwn]; cases h <;> simp
      · rw [decide_eq_false hdz, cond_false, hwj, ihn]
        have : good (fun p a => holdsS a p) b n0 r x = false := by simp only [good, decide_eq_false hdz]; simp
        rw [this]; cases h <;> simp
theorem obeys_outer {n : Nat} {laws : List Law} {l : List Event} {b : Book} {n0 : Int} (hbf : BF n l b) (hrn : b.Rows.length < n) (hw : SmallL laws n) (h0 : 0 ≤ n0 ∧ n0 ≤ b.Commit)
    (hmin : ∀ r ∈ b.Rows, 1 ≤ r.Died → keptR (fun p a => holdsS a p) laws b r = true → n0 ≤ r.Died - 1) :
    ∀ (k j m : Nat) (h : Bool), j + k = b.Rows.length → k < m → law21_RetainObeysLaws_L9 n l laws (b, true) n0 m (h, (j : Int)) = some (.inl (h || (b.Rows.drop j).any fun r => laws.any (good (fun p a => holdsS a p) b n0 r))) := by
  have hrb : b.Rows.length < 2 ^ 62 := by have := hbf.rows; omega
  intro k
  induction k with
  | zero =>
    intro j m h hj hm
    obtain ⟨m, rfl⟩ : ∃ m', m = m' + 1 := ⟨m - 1, by omega⟩
    rw [law21_RetainObeysLaws_L9_s, decide_eq_false (by show ¬ ((j : Int) < ((b.Rows.length : Nat) : Int)); omega), List.drop_eq_nil_of_le (by omega)]
    simp
  | succ k ih =>
    intro j m h hj hm
    obtain ⟨m, rfl⟩ : ∃ m', m = m' + 1 := ⟨m - 1, by omega⟩
    obtain ⟨r, hx, hxm⟩ := idx_some (l := b.Rows) (i := j) (by omega)
    have hr : b.Rows[j]? = some r := by rw [idxL_nat] at hx; exact hx
    have hd : b.Rows.drop j = r :: b.Rows.drop (j + 1) := by
      rw [List.getElem?_eq_some_iff] at hr
      obtain ⟨hlt, he⟩ := hr
      rw [List.drop_eq_getElem_cons hlt, he]
    have hin := obeys_inner (n0 := n0) hbf hr hrn hw h0 (hmin r hxm) laws.length 0 n h (by omega) hw.1
    rw [law21_RetainObeysLaws_L9_s, show decide ((j : Int) < (((((b, true) : Book × Bool).1).Rows.length : Nat) : Int)) = true from dec_of hr, cond_true]
    refine bs hx (bs hin ?_)
    show law21_RetainObeysLaws_L9 n l laws (b, true) n0 m (_, IntKind.wrap .i64 ((j : Int) + (1 : Int))) = _
    rw [wrap_succ (by omega), ih (j + 1) m _ (by omega) (by omega), hd, List.any_cons, List.drop_zero, Bool.or_assoc]
theorem law21_Obeys_true {n : Nat} {s : Schema} {laws : List Law} {l : List Event} (hn : 2 ^ 20 < n) (hs : SmallS s n) (hw : SmallL laws n) (hl : l.length < n) (hb : l.length < 2 ^ 62) (he : ∀ e ∈ l, SmallEv e n) :
    law21_RetainObeysLaws n (s, (l, laws)) = some true := by
  rw [law21_RetainObeysLaws_eq]
  obtain ⟨b, ok, hf, hbk⟩ := law21_folded_bf hn hs hl hb he
  obtain ⟨w, hfw⟩ := ref21_Few_total hw
  have h2 := ref21_Check_spec hw hs.1 hs.2.1 (by omega)
  generalize (if laws.length > 32 then (2 : Int) else (lawsE s [] laws).getD 0) = e at h2
  cases ok with
  | false => exact bs hf (bs (a := false) (by rw [hfw]; rfl) (bs (a := (0 : Int)) (by rw [h2]; rfl) (bs (sanity_eq n) rfl)))
  | true =>
    cases w with
    | false => exact bs hf (bs (a := false) (by rw [hfw]; rfl) (bs (a := (0 : Int)) (by rw [h2]; rfl) (bs (sanity_eq n) rfl)))
    | true =>
      refine bs hf (bs (a := true) (by rw [hfw]; rfl) (bs (a := e) (by rw [h2]; rfl) ?_))
      have hbf := hbk rfl
      have hrows := hbf.rows
      have hcm := hbf.commit
      cases hee : (e != (0 : Int)) with
      | true => exact bs (sanity_eq n) rfl
      | false =>
        have h3 := retain_Floor_spec (n := n) (H := fun p a => holdsS a p) (laws := laws) hbf.bookOK (fun r hr x hx => filter_Holds_spec (hbf.row r hr).2.2.2.1 (hbf.row r hr).2.2.2.2 (hw.2.2 x hx).2.2 (hw.2.2 x hx).2.1) hw.1 hw.2.1 (by omega) (by omega)
        obtain ⟨g1, g2, g3, g4⟩ := floorS_min (H := fun p a => holdsS a p) (laws := laws) (b := b) b.Rows b.Commit (by omega) (fun r hr h1 => (hbf.died hr h1).1)
        generalize floorS (fun p a => holdsS a p) laws b b.Rows b.Commit = n0 at h3 g1 g2 g3 g4
        refine bs h3 ?_
        show (bif bif decide (n0 < (0 : Int)) then true else decide (n0 > b.Commit) then _ else _) = _
        rw [decide_eq_false (by omega), cond_false, decide_eq_false (by omega), cond_false]
        refine bs (obeys_outer hbf (by omega) hw ⟨g1, g2⟩ g3 b.Rows.length 0 n _ (by omega) (by omega)) (bs (sanity_eq n) ?_)
        show some ((n0 == b.Commit) || (b.Rows.drop 0).any _) = some true
        rw [List.drop_zero]
        rcases g4 with g4 | ⟨r, hr, h1, hk, h5⟩
        · rw [g4]; simp
        · unfold keptR at hk
          rw [List.any_eq_true] at hk
          obtain ⟨x, hx, hkx⟩ := hk
          have : (b.Rows.any fun r => laws.any (good (fun p a => holdsS a p) b n0 r)) = true := by
            rw [List.any_eq_true]
            refine ⟨r, hr, ?_⟩
            rw [List.any_eq_true]
            refine ⟨x, hx, ?_⟩
            unfold good
            rw [decide_eq_true (show r.Died > 0 by omega), hkx]
            simp
            omega
          rw [this]; simp
end Sh
end
