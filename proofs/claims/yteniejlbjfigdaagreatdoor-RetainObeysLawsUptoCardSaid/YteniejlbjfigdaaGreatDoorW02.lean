/- Part of the proof of a law: Aq11 Aq12 Aq13 Aq14. -/
import Derived.Test.YteniejlbjfigdaaGreatDoorW01
set_option linter.unusedVariables false
set_option linter.unusedSimpArgs false
set_option linter.unusedSectionVars false
section
namespace Aq
open Go Go.RowKit
section
variable {E : Env} {B0 : Nat} {σ : Sig} {K : Con} {w : World} {new : Nat → Prop}
theorem idx_sound {T : Nat → Nat} {x : V} {cx : Value} {n k : Nat} (hx : Rel K T w x cx) (h : idx x n = some k) : ∃ kk i, cx = .int kk i ∧ 0 ≤ i ∧ i < n ∧ i.toNat = k ∧ k < n := by
  simp only [idx, Option.bind_eq_some_iff] at h
  obtain ⟨i, hi, h⟩ := h
  split at h
  · rename_i hb
    simp only [Option.some.injEq] at h; subst h
    cases x <;> simp [bndI] at hi
    subst hi
    cases hx
    exact ⟨_, _, rfl, hb.1, hb.2, rfl, by omega⟩
  · simp at h
theorem indexAddrV_sound {t : TypeId} {x i v : V} {cx ci : Value} {T : Nat → Nat} (hx : Rel K T w x cx) (hi : Rel K T w i ci) (h : indexAddrV E.P t x i = some v) :
    ∃ c, (Instr.indexAt t cx ci).run E.P w = .ok c w ∧ Rel K T w v c := by
  unfold indexAddrV at h
  split at h
  · rename_i e c l hu
    simp only [Option.bind_eq_some_iff] at h
    obtain ⟨sz, hsz, k, hk, el, hel, h⟩ := h
    split at h
    · rename_i hcl
      simp only [Option.some.injEq] at h; subst h
      obtain ⟨kk, q, rfl, h0, hlt, hq, hkl⟩ := idx_sound hi hk
      cases hx with
      | lstNil => simp at hkl
      | lst _ _ b o n cap val hle hn hcell hrel hc =>
        have hel' : l.getD k undefV = el := by
          simp [List.getD, hel]
        have hn' : n = sz := by rw [← hn k hkl, hel', hcl]
        subst hn'
        have hrun : (Instr.indexAt t (.slice (some (at_ b o)) l.length cap) (.int kk q)).run E.P w = .ok (.pointer (some ((at_ b o).add (q.toNat * n)))) w := by
          simp [Instr.indexAt, run_underlying hu, asIntOf, h0, hlt, run_sizeOf' w hsz]
        refine ⟨_, hrun, ?_⟩
        rw [addr_add, hq]
        have := Rel.cref (K := K) (T := T) (w := w) el.cells 0 b (o + k * n) (fun j => val k j) (fun j hj => hcell k j hkl (by omega)) (fun j hj => by
          have := hrel k j hkl (by omega)
          rwa [hel'] at this)
        simpa using this
    · simp at h
  · rename_i e loc st off len cap esz ag hu
    simp only [Option.bind_eq_some_iff] at h
    obtain ⟨sz, hsz, k, hk, h⟩ := h
    split at h
    · rename_i he
      subst he
      simp only [Option.some.injEq] at h; subst h
      obtain ⟨kk, q, rfl, h0, hlt, hq, hkl⟩ := idx_sound hi hk
      cases hx with
      | vwNil => omega
      | vw _ _ _ _ _ _ _ capc hA hcc hle hks =>
        have hrun : (Instr.indexAt t (.slice (some (at_ (K.blk st) off)) len capc) (.int kk q)).run E.P w = .ok (.pointer (some ((at_ (K.blk st) off).add (q.toNat * sz)))) w := by
          simp [Instr.indexAt, run_underlying hu, asIntOf, h0, hlt, run_sizeOf' w hsz]
        refine ⟨_, hrun, ?_⟩
        rw [addr_add, hq]
        exact .ref _ _ _ hA
    · simp at h
  · rename_i n e loc st off hu
    simp only [Option.bind_eq_some_iff, Option.map_eq_some_iff] at h
    obtain ⟨sz, hsz, k, hk, rfl⟩ := h
    obtain ⟨kk, q, rfl, h0, hlt, hq, hkl⟩ := idx_sound hi hk
    cases hx with | ref _ _ _ hA =>
    have hrun : (Instr.indexAt t (.pointer (some (at_ (K.blk st) off))) (.int kk q)).run E.P w = .ok (.pointer (some ((at_ (K.blk st) off).add (q.toNat * sz)))) w := by
      simp [Instr.indexAt, run_underlying hu, asIntOf, Instr.sureAddr, h0, hlt, run_sizeOf' w hsz]
    refine ⟨_, hrun, ?_⟩
    rw [addr_add, hq]
    exact .ref _ _ _ hA
  · rename_i n e cs off hu
    simp only [Option.bind_eq_some_iff, Option.map_eq_some_iff] at h
    obtain ⟨sz, hsz, k, hk, rfl⟩ := h
    obtain ⟨kk, q, rfl, h0, hlt, hq, hkl⟩ := idx_sound hi hk
    cases hx with | cref _ _ b o val hcell hrel =>
    have hrun : (Instr.indexAt t (.pointer (some (at_ b (o + off)))) (.int kk q)).run E.P w = .ok (.pointer (some ((at_ b (o + off)).add (q.toNat * sz)))) w := by
      simp [Instr.indexAt, run_underlying hu, asIntOf, Instr.sureAddr, h0, hlt, run_sizeOf' w hsz]
    refine ⟨_, hrun, ?_⟩
    rw [addr_add, hq, Nat.add_assoc]
    exact .cref _ _ b o val hcell hrel
  · simp at h
theorem indexV_sound {t : TypeId} {x i v : V} {cx ci : Value} {T : Nat → Nat} (hx : Rel K T w x cx) (hi : Rel K T w i ci) (h : indexV E.P t x i = some v) :
    ∃ c, (Instr.index t cx ci).run E.P w = .ok c w ∧ Rel K T w v c := by
  unfold indexV at h
  split at h
  · rename_i n e cs hu
    simp only [Option.bind_eq_some_iff] at h
    obtain ⟨k, hk, sz, hsz, h⟩ := h
    obtain ⟨kk, q, rfl, h0, hlt, hq, hkl⟩ := idx_sound hi hk
    cases hx with | agg _ vs hl hr =>
    obtain ⟨c, hc, hrel⟩ := part_sound (P := E.P) hl hr h
    exact ⟨c, by simp [Instr.index, run_underlying hu, asIntOf, h0, hlt, run_sizeOf' w hsz, hq, hc], hrel⟩
  · rename_i s hu
    simp only [Option.bind_eq_some_iff, Option.map_eq_some_iff] at h
    obtain ⟨k, hk, b, hb, rfl⟩ := h
    obtain ⟨kk, q, rfl, h0, hlt, hq, hkl⟩ := idx_sound hi hk
    cases hx with | str _ ba hba =>
    have hsz : k < ba.size := by rw [← hba] at hkl; simpa using hkl
    have hbk : ba[k] = b := by
      subst hba
      have := (List.getElem?_eq_some_iff.1 hb).2
      rw [← this]; rfl
    refine ⟨.int .u8 b.toNat, ?_, .int _ _⟩
    have : ba[q.toNat]? = some b := by rw [hq]; simp [hsz, hbk]
    simp [Instr.index, run_underlying hu, asIntOf, h0, this]
  · simp at h
theorem fieldAddr_sound {t : TypeId} {f o : Nat} {u : TypeId} {x v : V} {cx : Value} {T : Nat → Nat} (hx : Rel K T w x cx) (hf : fieldT E.P t f = some (o, u))
    (h : (match x with | .ref loc s off => some (V.ref loc s (off + o)) | .cref cs off => some (.cref cs (off + o)) | _ => none) = some v) :
    ∃ c, (Instr.fieldAt t cx f).run E.P w = .ok c w ∧ Rel K T w v c := by
  obtain ⟨fs, g, n, hu, hg, ho, hu', hn⟩ := fieldT_some hf
  subst hu'
  have hrun : ∀ b q, (Instr.fieldAt t (.pointer (some (at_ b q))) f).run E.P w = .ok (.pointer (some (at_ b (q + o)))) w := by
    intro b q
    simp [Instr.fieldAt, run_underlying hu, hg, Instr.sureAddr, fieldPlace, run_sizeOf' w hn, addr_add, ho]
  cases x with
  | ref loc s off =>
    cases hx with | ref _ _ _ hA =>
    simp only [Option.some.injEq] at h; subst h
    exact ⟨_, hrun _ _, .ref _ _ _ hA⟩
  | cref cs off =>
    cases hx with | cref _ _ b o' val hcell hrel =>
    simp only [Option.some.injEq] at h; subst h
    refine ⟨_, hrun _ _, ?_⟩
    rw [Nat.add_assoc]
    exact .cref _ _ b o' val hcell hrel
  | _ => simp at h
theorem load_sound (h : SOK E B0 σ K w) {t : TypeId} {x v : V} {cx : Value} (hx : Rel K σ.top w x cx)
    (hv : (match x with | .ref loc s off => (σ.cellsAt loc s).bind fun cs => ldT E.P t cs off | .cref cs off => ldT E.P t cs off | _ => none) = some v) :
    ∃ c, (Instr.loadAt t cx).run E.P w = .ok c w ∧ Rel K σ.top w v c := by
  cases x with
  | ref loc s off =>
    simp only [Option.bind_eq_some_iff] at hv
    obtain ⟨cs, hcs, hv⟩ := hv
    cases hx with | ref _ _ _ hA =>
    obtain ⟨ho, _, _⟩ := h.cellsAt' hcs
    obtain ⟨_, hob, _⟩ := h.obj _ _ _ ho
    by_cases hne : cs = []
    · subst hne
      obtain ⟨c, h1, h2⟩ := ldT_sound (P := E.P) (K := K) (T := σ.top) (w := w) (cs := []) (b := K.blk s) (o := 0) (fun _ => undef) (fun i hi => absurd hi (Nat.not_lt_zero i)) (fun i hi => absurd hi (Nat.not_lt_zero i)) hv
      exact ⟨c, by simpa [Instr.loadAt, Instr.sureAddr] using h1, h2⟩
    · obtain ⟨_, vals, t', g1, g2, g3, g4⟩ := hob.2 hne
      obtain ⟨c, h1, h2⟩ := ldT_sound (P := E.P) (K := K) (T := σ.top) (w := w) (b := K.blk s) (o := 0) (fun i => vals.getD i undef) (fun i hi => by
        have : i < vals.size := by omega
        simp [World.cell?, g1, this]) g4 hv
      exact ⟨c, by simpa [Instr.loadAt, Instr.sureAddr] using h1, h2⟩
  | cref cs off =>
    cases hx with | cref _ _ b o val hcell hrel =>
    obtain ⟨c, h1, h2⟩ := ldT_sound (P := E.P) (K := K) (T := σ.top) (w := w) (b := b) (o := o) val (fun i hi => (hcell i hi).1) hrel hv
    exact ⟨c, by simpa [Instr.loadAt, Instr.sureAddr] using h1, h2⟩
  | _ => simp at hv
theorem getD_append_lt {α : Type} {l r : List α} {i : Nat} (h : i < l.length) (d : α) : (l ++ r).getD i d = l.getD i d := by simp [List.getD, List.getElem?_append, h]
theorem getD_append_ge {α : Type} {l r : List α} {i : Nat} (h : l.length ≤ i) (d : α) : (l ++ r).getD i d = r.getD (i - l.length) d := by
  simp [List.getD, List.getElem?_append, Nat.not_lt.2 h]
/-- A part replaced, on both sides. -/
theorem splice_getD {cs vs : List V} {off i : Nat} (h : off + vs.length ≤ cs.length) : (spliceL cs off vs).getD i undefV = if off ≤ i ∧ i < off + vs.length then vs.getD (i - off) undefV else cs.getD i undefV := by
  unfold spliceL
  have hl : (cs.take off).length = off := by simp; omega
  rw [List.append_assoc]
  by_cases h1 : i < off
  · rw [getD_append_lt (by omega), take_getD _ h1, if_neg (by omega)]
  · rw [getD_append_ge (by omega), hl]
    by_cases h2 : i - off < vs.length
    · rw [getD_append_lt h2, if_pos (by omega)]
    · rw [getD_append_ge (by omega), drop_getD, if_neg (by omega)]
      congr 1; omega
theorem splice_length {cs vs : List V} {off : Nat} (h : off + vs.length ≤ cs.length) : (spliceL cs off vs).length = cs.length := by
  unfold spliceL; simp; omega
theorem store_sound (h : SOK E B0 σ K w) (hB : B0 ≤ w.heap.size) {t : TypeId} {loc : Loc} {s off : Nat} {cs : List V} {x : V} {ca cx : Value} (ha : Rel K σ.top w (.ref loc s off) ca) (hx : Rel K σ.top w x cx)
    (hcs : σ.cellsAt loc s = some cs) (hsz : some x.cells.length = szT E.P t) (hle : off + x.cells.length ≤ cs.length) (hone : oneCells x.cells = true) :
    ∃ w', (Instr.storeAt t ca cx).run E.P w = .ok () w' ∧ Step E B0 new σ K w (σ.setObj loc s (.cells (spliceL cs off x.cells))) K w' := by
  cases ha with | ref _ _ _ hA =>
  have hraw : notRaw x = true := by cases x <;> simp_all [notRaw, oneCells, V.cells, oneCell]
  obtain ⟨hcl, hcr⟩ := cells_rel hx hraw
  obtain ⟨ho, _, _⟩ := h.cellsAt' hcs
  obtain ⟨_, hob, _⟩ := h.obj _ _ _ ho
  have hone' : ∀ v ∈ cx.cells.toList, v.oneCell' = true := by
    intro v hv
    obtain ⟨i, hi, rfl⟩ := List.mem_iff_getElem.1 hv
    have hi' : i < cx.cells.size := by simpa using hi
    have := hcr i (by omega)
    rw [agetD_of_lt hi'] at this
    have h1 : oneCell (x.cells.getD i undefV) = true := by
      simp only [oneCells, List.all_eq_true] at hone
      rw [getD_of_lt (by omega)]
      exact hone _ (List.getElem_mem _)
    simpa using (oneCell_rel this h1).1
  have hrun0 : (Instr.storeAt t (.pointer (some (at_ (K.blk s) off))) cx).run E.P w = (storeCells (at_ (K.blk s) off) cx.cells.toList).run E.P w := by
    have : cx.cells.size = x.cells.length := hcl.symm
    simp [Instr.storeAt, Instr.sureAddr, storeVar, run_sizeOf' w hsz.symm, this]
  rw [hrun0]
  by_cases hne : cs = []
  · subst hne
    have h0 : x.cells = [] := by cases hx : x.cells with | nil => rfl | cons a b => simp [hx] at hle
    have h0' : cx.cells.toList = [] := by
      have : cx.cells.size = 0 := by rw [← hcl, h0]; rfl
      simpa using this
    rw [h0', h0]
    have hoff : off = 0 := by simpa [h0] using hle
    have hsp : spliceL [] off [] = ([] : List V) := by simp [spliceL]
    rw [hsp]
    have e : σ.setObj loc s (.cells []) = σ := by
      unfold Sig.setObj
      have : upd σ.obj loc (some (s, AObj.cells [])) = σ.obj := by
        funext l
        unfold upd
        split
        · rename_i hl; rw [hl, ho]
        · rfl
      rw [this]
    rw [e]
    exact ⟨w, rfl, .refl h⟩
  · obtain ⟨hb0, vals, t', g1, g2, g3, g4⟩ := hob.2 hne
    have hrun := run_storeCells_at E.P (K.blk s) off t' cx.cells.toList 0 vals w g1 (by simp [← hcl]; omega) hone'
    refine ⟨_, hrun, ?_⟩
    have hlt := lt_of_heap g1
    have hheap := setRow_heap w (K.blk s) vals (vals.toList.take (off + 0) ++ cx.cells.toList ++ vals.toList.drop (off + 0 + cx.cells.toList.length)).toArray t' (0, 0) g1
    have hsize : (vals.toList.take (off + 0) ++ cx.cells.toList ++ vals.toList.drop (off + 0 + cx.cells.toList.length)).toArray.size = vals.size := by
      simp [← hcl]; omega
    have honly : Only (K.blk s) w (w.setRow (K.blk s) (vals.toList.take (off + 0) ++ cx.cells.toList ++ vals.toList.drop (off + 0 + cx.cells.toList.length)).toArray) := by
      refine ⟨rfl, rfl, rfl, by simp [World.setRow], fun k hk _ => ?_⟩
      simp [World.setRow, Array.getElem?_modify, Ne.symm hk]
    refine Step.setCells h hB ho hne g1 honly hheap hsize (by intro h0; have := splice_length hle; rw [h0] at this; exact hne (List.eq_nil_of_length_eq_zero this.symm)) (by rw [splice_length hle, hsize]; exact g3) (fun e i hi => ?_)
    rw [splice_length hle] at hi
    rw [splice_getD hle]
    have hvi : i < vals.size := by omega
    have hval : (vals.toList.take (off + 0) ++ cx.cells.toList ++ vals.toList.drop (off + 0 + cx.cells.toList.length)).toArray.getD i undef = if off ≤ i ∧ i < off + cx.cells.size then cx.cells.getD (i - off) undef else vals.getD i undef := by
      have hl : (vals.toList.take (off + 0)).length = off := by simp; omega
      have harr : ∀ (l : List Value), l.toArray.getD i undef = l.getD i undef := fun l => by simp [Array.getD, List.getD]; split <;> simp_all
      rw [harr, List.append_assoc]
      by_cases h1 : i < off
      · rw [getD_append_lt (by omega), take_getD _ (by omega), if_neg (by omega)]
        simp [List.getD, Array.getD, hvi]
      · rw [getD_append_ge (by omega), hl]
        by_cases h2 : i - off < cx.cells.size
        · rw [getD_append_lt (by simpa using h2), if_pos (by omega)]
          simp [List.getD, Array.getD, h2]
        · rw [getD_append_ge (by simp; omega), drop_getD, if_neg (by omega)]
          have : off + 0 + cx.cells.toList.length + (i - off - cx.cells.toList.length) = i := by simp; omega
          rw [this]
          simp [List.getD, Array.getD, hvi]
    rw [hval, ← hcl]
    by_cases hh : off ≤ i ∧ i < off + x.cells.length
    · rw [if_pos hh, if_pos hh]
      exact (hcr _ (by omega)).ext e
    · rw [if_neg hh, if_neg hh]
      exact (g4 i hi).ext e
end
end Aq
end
section
namespace Aq
open Go Go.RowKit
section
variable {E : Env} {B0 : Nat} {σ : Sig} {K : Con} {w : World} {new : Nat → Prop} {T : Nat → Nat}
theorem run_checkKey {kt : TypeId} {k : V} {ck : Value} (hk : Rel K T w k ck) (h : keyFit E.P kt k = true) (b : Bool) (n : Nat) : (Instr.checkKey b (n + 1) kt ck).run E.P w = .ok () w := by
  unfold keyFit at h
  split at h
  · rename_i hu; cases hk; simp [Instr.checkKey, run_underlying hu]
  · rename_i hu; cases hk; simp [Instr.checkKey, run_underlying hu]
  · rename_i hu; cases hk; simp [Instr.checkKey, run_underlying hu]
  · simp at h
theorem sameNow_sound {kt : TypeId} {k a : V} {ck ca : Value} {d : TypeDesc} {r : Bool} (hd : E.P.underlying kt = some d) (hk : Rel K T w k ck) (ha : Rel K T w a ca) (hf : keyFit E.P kt k = true) (h : eqS k a = some r) :
    Instr.sameNow d ck ca = some r := by
  unfold keyFit at hf
  split at hf
  · rename_i hu
    rw [hd] at hu; simp only [Option.some.injEq] at hu; subst hu
    unfold eqS at h
    split at h <;> simp_all
    cases hk; cases ha
    obtain ⟨rfl, rfl⟩ := h
    simp [Instr.sameNow]
  · rename_i hu
    rw [hd] at hu; simp only [Option.some.injEq] at hu; subst hu
    unfold eqS at h
    split at h <;> simp_all
    cases hk with | str _ b1 h1 => cases ha with | str _ b2 h2 =>
    subst h
    rw [← h1, ← h2, str_beq]
    rfl
  · rename_i hu
    rw [hd] at hu; simp only [Option.some.injEq] at hu; subst hu
    unfold eqS at h
    split at h <;> simp_all
    cases hk; cases ha
    subst h
    rfl
  · simp at hf
/-- Where a key is found, if it is. -/
theorem findNow_sound {kt : TypeId} {k : V} {ck : Value} {d : TypeDesc} (hd : E.P.underlying kt = some d) (hk : Rel K T w k ck) (hf : keyFit E.P kt k = true) :
    ∀ (es : List MapEntry) (ks vs : List V) (i : Nat) (r : Option V), ks.length = es.length → vs.length = es.length → (∀ j, j < es.length → Rel K T w (ks.getD j undefV) (es.getD j default).key) →
      lookK k ks vs = some r → (r = none ∧ Instr.findNow d ck es i = some none) ∨ ∃ j, j < es.length ∧ r = some (vs.getD j undefV) ∧ Instr.findNow d ck es i = some (some (i + j, (es.getD j default).val)) ∧
        (∃ b, eqS k (ks.getD j undefV) = some b ∧ b = true)
  | [], [], [], i, r, _, _, _, h => by simp only [lookK, Option.some.injEq] at h; subst h; exact .inl ⟨rfl, rfl⟩
  | e :: es, a :: ks, v :: vs, i, r, h1, h2, hr, h => by
    simp only [lookK, Option.bind_eq_some_iff] at h
    obtain ⟨b, hb, h⟩ := h
    have hs := sameNow_sound hd hk (hr 0 (by simp)) hf hb
    simp only [List.getD_cons_zero] at hs
    cases b with
    | true =>
      simp only [if_true, Option.some.injEq] at h; subst h
      exact .inr ⟨0, by simp, rfl, by simp [Instr.findNow, hs], true, hb, rfl⟩
    | false =>
      simp only [Bool.false_eq_true, if_false] at h
      rcases findNow_sound hd hk hf es ks vs (i + 1) r (by simpa using h1) (by simpa using h2) (fun j hj => by simpa using hr (j + 1) (by simpa using hj)) h with ⟨e1, e2⟩ | ⟨j, hj, e1, e2, e3⟩
      · exact .inl ⟨e1, by simp [Instr.findNow, hs, e2]⟩
      · refine .inr ⟨j + 1, by simpa using hj, by simpa using e1, ?_, by simpa using e3⟩
        simp only [Instr.findNow, hs, e2, List.getD_cons_succ]
        rw [show i + 1 + j = i + (j + 1) by omega]
  | [], _ :: _, _, _, _, h1, _, _, _ => by simp at h1
  | [], [], _ :: _, _, _, _, h2, _, _ => by simp at h2
  | _ :: _, [], _, _, _, h1, _, _, _ => by simp at h1
  | _ :: _, _ :: _, [], _, _, _, h2, _, _ => by simp at h2
theorem keyFit_some {kt : TypeId} {k : V} (h : keyFit E.P kt k = true) : ∃ d, E.P.underlying kt = some d := by
  unfold keyFit at h
  split at h <;> first | exact ⟨_, by assumption⟩ | simp at h
theorem lookupV_sound (h : SOK E B0 σ K w) {t : TypeId} {m k v : V} {cm ck : Value} {ok : Bool} (hm : Rel K σ.top w m cm) (hk : Rel K σ.top w k ck) (hv : lookupV E.P σ t m k ok = some v) :
    ∃ c, (Instr.lookup t cm ck ok).run E.P w = .ok c w ∧ Rel K σ.top w v c := by
  simp only [lookupV, Option.bind_eq_some_iff] at hv
  obtain ⟨⟨kt, et⟩, hmt, hv⟩ := hv
  have hu := mapT_some hmt
  split at hv
  · rename_i hf
    simp only [Option.bind_eq_some_iff, Option.map_eq_some_iff] at hv
    obtain ⟨⟨ks, vs⟩, hkv, r, hlk, ⟨v', b⟩, hvb, hv⟩ := hv
    obtain ⟨d, hd⟩ := keyFit_some hf
    -- the entries
    have hes : ∃ es : Array MapEntry, (cm = .map none ∧ es = #[] ∨ ∃ b clk, cm = .map (some b) ∧ w.heap[b]? = some (.map es clk)) ∧ ks.length = es.size ∧ vs.length = es.size ∧
        (∀ i, i < es.size → Rel K σ.top w (ks.getD i undefV) (es.getD i default).key) ∧ (∀ i, i < es.size → Rel K σ.top w (vs.getD i undefV) (es.getD i default).val) := by
      split at hkv
      · cases hm
        simp only [Option.some.injEq, Prod.mk.injEq] at hkv
        obtain ⟨rfl, rfl⟩ := hkv
        exact ⟨#[], .inl ⟨rfl, rfl⟩, rfl, rfl, fun i hi => absurd hi (Nat.not_lt_zero i), fun i hi => absurd hi (Nat.not_lt_zero i)⟩
      · rename_i loc s
        unfold Sig.mapAt at hkv
        split at hkv
        · rename_i s' ks' vs' ho
          split at hkv
          · rename_i hs; subst hs
            simp only [Option.some.injEq, Prod.mk.injEq] at hkv
            obtain ⟨rfl, rfl⟩ := hkv
            obtain ⟨_, hob, _⟩ := h.obj _ _ _ ho
            obtain ⟨_, es, clk, g1, g2, g3, g4, g5⟩ := hob
            cases hm with | mapr _ _ hA =>
            exact ⟨es, .inr ⟨_, _, rfl, g1⟩, g2, g3, g4, g5⟩
          · simp at hkv
        · simp at hkv
      · cases hm with | mapc _ _ b es clk hM hb h1 h2 h3 h4 =>
        simp only [Option.some.injEq, Prod.mk.injEq] at hkv
        obtain ⟨rfl, rfl⟩ := hkv
        exact ⟨es, .inr ⟨_, _, rfl, hb⟩, h1, h2, h3, h4⟩
      · simp at hkv
    obtain ⟨es, hrun, l1, l2, r1, r2⟩ := hes
    have hck := run_checkKey (E := E) hk hf es.isEmpty 9999
    have hgd : ∀ j, es.toList.getD j default = es.getD j default := fun j => by simp [List.getD, Array.getD]; split <;> simp_all
    have hfind := findNow_sound (E := E) (K := K) (T := σ.top) (w := w) hd hk hf es.toList ks vs 0 r (by simpa using l1) (by simpa using l2) (fun j hj => by rw [hgd]; exact r1 j (by simpa using hj)) hlk
    have hend : ∃ c, (do
        let (v, ok') ← match ← Instr.findKey kt ck es.toList with
          | some (_, v) => pure (v, true)
          | none => pure (← zeroValue et, false)
        pure (if ok then .tuple #[v, .bool ok'] else v) : Sem Value).run E.P w = .ok c w ∧ Rel K σ.top w v c := by
      have hfin : ∀ c, Rel K σ.top w v' c → Rel K σ.top w v (if ok then .tuple #[c, .bool b] else c) := by
        intro c hc
        subst hv
        cases ok with
        | true =>
          refine .tup _ _ rfl (fun i hi => ?_)
          match i, hi with
          | 0, _ => exact hc
          | 1, _ => exact .bool b
        | false => exact hc
      rcases hfind with ⟨rfl, e2⟩ | ⟨j, hj, rfl, e2, _⟩
      · simp only [Option.map_eq_some_iff, Prod.mk.injEq] at hvb
        obtain ⟨z, hz, rfl, rfl⟩ := hvb
        obtain ⟨cz, hz1, hz2⟩ := run_zeroValue w hz
        exact ⟨_, by simp [Instr.findKey, run_underlying hd, e2, hz1], hfin cz (hz2 _ _)⟩
      · simp only [Option.some.injEq, Prod.mk.injEq] at hvb
        obtain ⟨rfl, rfl⟩ := hvb
        refine ⟨if ok then .tuple #[(es.toList.getD j default).val, .bool true] else (es.toList.getD j default).val, by simp [Instr.findKey, run_underlying hd, e2], hfin _ ?_⟩
        have := r2 j (by simpa using hj)
        rwa [hgd]
    obtain ⟨c, hc1, hc2⟩ := hend
    refine ⟨c, ?_, hc2⟩
    unfold Instr.lookup
    rcases hrun with ⟨rfl, rfl⟩ | ⟨b, clk, rfl, hb⟩
    · simp only [Sem.run_bind, run_underlying hu, Result.andThen_ok, Sem.run_pure, show (10000 : Nat) = 9999 + 1 from rfl, hck]
      simp only [Sem.run_bind] at hc1
      exact hc1
    · have hg : (getObj b).run E.P w = .ok (.map es clk) w := by simp [getObj, Sem.run, hb]
      simp only [Sem.run_bind, run_underlying hu, Result.andThen_ok, Sem.run_pure, show (10000 : Nat) = 9999 + 1 from rfl, hg, hck]
      simp only [Sem.run_bind] at hc1
      exact hc1
  · simp at hv
theorem eqS_eq {k a : V} (h : eqS k a = some true) : k = a := by
  unfold eqS at h
  split at h <;> simp_all
theorem sameBits_sound {kt : TypeId} {k : V} {ck ca : Value} (hk : Rel K T w k ck) (ha : Rel K T w k ca) (hf : keyFit E.P kt k = true) (n : Nat) : Instr.sameBits n ck ca = true := by
  unfold keyFit at hf
  split at hf
  · cases hk; cases ha; cases n <;> simp [Instr.sameBits]
  · cases hk with | str _ b1 h1 => cases ha with | str _ b2 h2 =>
    have : (b1 == b2) = true := by rw [← str_beq, h1, h2]; simp
    cases n <;> simpa [Instr.sameBits] using this
  · cases hk; cases ha; cases n <;> simp [Instr.sameBits]
  · simp at hf
/-- A key stored: where it is found, or behind all. -/
theorem storeK_sound {k v : V} : ∀ (ks vs ks' vs' : List V), storeK k v ks vs = some (ks', vs') → ks.length = vs.length →
    (lookK k ks vs = some none ∧ ks' = ks ++ [k] ∧ vs' = vs ++ [v]) ∨ ∃ j, j < ks.length ∧ ks' = ks.set j k ∧ vs' = vs.set j v ∧ lookK k ks vs = some (some (vs.getD j undefV)) ∧ ks.getD j undefV = k ∧ ∀ i, i < j → eqS k (ks.getD i undefV) = some false
  | [], [], ks', vs', h, _ => by
    simp only [storeK, Option.some.injEq, Prod.mk.injEq] at h
    exact .inl ⟨rfl, h.1.symm, h.2.symm⟩
  | a :: ks, b :: vs, ks', vs', h, hl => by
    simp only [storeK, Option.bind_eq_some_iff] at h
    obtain ⟨q, hq, h⟩ := h
    cases q with
    | true =>
      simp only [if_true, Option.some.injEq, Prod.mk.injEq] at h
      refine .inr ⟨0, by simp, by rw [← h.1]; simp, by rw [← h.2]; simp, by simp [lookK, hq], by simpa using (eqS_eq hq).symm, fun i hi => absurd hi (Nat.not_lt_zero i)⟩
    | false =>
      simp only [Bool.false_eq_true, if_false, Option.map_eq_some_iff, Prod.mk.injEq] at h
      obtain ⟨⟨x, y⟩, hxy, h1, h2⟩ := h
      rcases storeK_sound ks vs x y hxy (by simpa using hl) with ⟨e1, e2, e3⟩ | ⟨j, hj, e1, e2, e3, e4, e5⟩
      · exact .inl ⟨by simp [lookK, hq, e1], by rw [← h1, e2]; rfl, by rw [← h2, e3]; rfl⟩
      · refine .inr ⟨j + 1, by simpa using hj, by rw [← h1, e1]; rfl, by rw [← h2, e2]; rfl, by simp [lookK, hq, e3], by simpa using e4, fun i hi => ?_⟩
        cases i with
        | zero => simpa using hq
        | succ i => simpa using e5 i (by omega)
  | [], _ :: _, _, _, _, hl => by simp at hl
  | _ :: _, [], _, _, _, hl => by simp at hl
theorem findNow_idx {d : TypeDesc} {k : V} {ck : Value} {kt : TypeId} (hd : E.P.underlying kt = some d) (hk : Rel K T w k ck) (hf : keyFit E.P kt k = true) :
    ∀ (es : List MapEntry) (ks : List V) (i j : Nat), ks.length = es.length → (∀ q, q < es.length → Rel K T w (ks.getD q undefV) (es.getD q default).key) → j < es.length →
      (∀ q, q < j → eqS k (ks.getD q undefV) = some false) → ks.getD j undefV = k → Instr.findNow d ck es i = some (some (i + j, (es.getD j default).val))
  | e :: es, a :: ks, i, 0, h1, hr, hj, hn, he => by
    have hr0 := hr 0 (by simp)
    simp only [List.getD_cons_zero] at he hr0
    subst he
    have hs : eqS a a = some true := by
      unfold keyFit at hf
      split at hf <;> first | (simp [eqS]; done) | (simp at hf; done)
    have := sameNow_sound hd hk hr0 hf hs
    simp [Instr.findNow, this]
  | e :: es, a :: ks, i, j + 1, h1, hr, hj, hn, he => by
    have h0 := hn 0 (by omega)
    simp only [List.getD_cons_zero] at h0
    have hr0 := hr 0 (by simp)
    simp only [List.getD_cons_zero] at hr0
    have := sameNow_sound hd hk hr0 hf h0
    have ih := findNow_idx hd hk hf es ks (i + 1) j (by simpa using h1) (fun q hq => by simpa using hr (q + 1) (by simpa using hq)) (by simpa using hj) (fun q hq => by simpa using hn (q + 1) (by omega)) (by simpa using he)
    simp only [Instr.findNow, this, ih, List.getD_cons_succ]
    rw [show i + 1 + j = i + (j + 1) by omega]
  | [], _, _, _, _, _, hj, _, _ => by simp at hj
  | _ :: _, [], _, _, h1, _, _, _, _ => by simp at h1
theorem only_putObj {w : World} {b : Nat} {o o' : Obj} (_ : w.heap[b]? = some o) : Only b w { w with heap := w.heap.setIfInBounds b o' } := by
  refine ⟨rfl, rfl, rfl, by simp, fun k hk _ => ?_⟩
  simp [Ne.symm hk]
theorem updateV_sound (h : SOK E B0 σ K w) (hB : B0 ≤ w.heap.size) {t : TypeId} {m k v : V} {cm ck cv : Value} {σ' : Sig} (hm : Rel K σ.top w m cm) (hk : Rel K σ.top w k ck) (hv : Rel K σ.top w v cv)
    (hu : updateV E.P σ t m k v = some σ') : ∃ w', (Instr.mapUpdate t cm ck cv).run E.P w = .ok () w' ∧ Step E B0 new σ K w σ' K w' ∧ σ'.top = σ.top := by
  simp only [updateV, Option.bind_eq_some_iff] at hu
  obtain ⟨⟨kt, et⟩, hmt, hu⟩ := hu
  have hun := mapT_some hmt
  split at hu
  · rename_i hf
    split at hu
    · rename_i loc s
      simp only [Option.bind_eq_some_iff, Option.map_eq_some_iff] at hu
      obtain ⟨⟨ks, vs⟩, hmp, ⟨ks', vs'⟩, hst, rfl⟩ := hu
      unfold Sig.mapAt at hmp
      split at hmp
      · rename_i s' ksa vsa ho
        split at hmp
        · rename_i hs; subst hs
          simp only [Option.some.injEq, Prod.mk.injEq] at hmp
          obtain ⟨rfl, rfl⟩ := hmp
          obtain ⟨_, hob, _⟩ := h.obj _ _ _ ho
          obtain ⟨hb0, es, clk, g1, g2, g3, g4, g5⟩ := hob
          cases hm with | mapr _ _ hA =>
          obtain ⟨d, hd⟩ := keyFit_some hf
          have hck := run_checkKey (E := E) hk hf false 9999
          have hgd : ∀ j, es.toList.getD j default = es.getD j default := fun j => by simp [List.getD, Array.getD]; split <;> simp_all
          have hst' : storeK k v ksa vsa = some (ks', vs') := hst
          rcases storeK_sound _ _ _ _ hst' (by omega) with ⟨e1, rfl, rfl⟩ | ⟨j, hj, rfl, rfl, e1, e2, e3⟩
          · have hfind := findNow_sound (E := E) (K := K) (T := σ.top) (w := w) hd hk hf es.toList ksa vsa 0 none (by simpa using g2) (by simpa using g3) (fun j hj => by rw [hgd]; exact g4 j (by simpa using hj)) e1
            have hfn : Instr.findNow d ck es.toList 0 = some none := by
              rcases hfind with ⟨_, e⟩ | ⟨_, _, e, _⟩
              · exact e
              · cases e
            refine ⟨{ w with heap := w.heap.setIfInBounds (K.blk s') (.map (es.push { key := ck, val := cv, born := clk }) (clk + 1)) }, ?_, ?_, rfl⟩
            · unfold Instr.mapUpdate
              simp only [Sem.run_bind, run_underlying hun, Result.andThen_ok, show (10000 : Nat) = 9999 + 1 from rfl]
              simp [getObj, setObj, Sem.run, g1, hck, Instr.findKey, run_underlying hd, hfn]
            · have hlt := lt_of_heap g1
              refine Step.setMap h hB ho g1 (only_putObj g1) (es' := es.push { key := ck, val := cv, born := clk }) (clk' := clk + 1) (by simp [hlt]) (by simp [g2]) (by simp [g3]) (fun e => ?_)
              constructor
              · intro i hi
                by_cases hi' : i < es.size
                · rw [getD_append_lt (by omega)]
                  have : (es.push { key := ck, val := cv, born := clk }).getD i default = es.getD i default := by
                    simp [Array.getD, hi', Array.getElem_push, Nat.lt_succ_of_lt hi']
                  rw [this]; exact (g4 i hi').ext e
                · have : i = es.size := by simp at hi; omega
                  subst this
                  rw [getD_append_ge (by omega), g2]
                  simp
                  exact hk.ext e
              · intro i hi
                by_cases hi' : i < es.size
                · rw [getD_append_lt (by omega)]
                  have : (es.push { key := ck, val := cv, born := clk }).getD i default = es.getD i default := by
                    simp [Array.getD, hi', Array.getElem_push, Nat.lt_succ_of_lt hi']
                  rw [this]; exact (g5 i hi').ext e
                · have : i = es.size := by simp at hi; omega
                  subst this
                  rw [getD_append_ge (by omega), g3]
                  simp
                  exact hv.ext e
          · have hj' : j < es.size := by omega
            have hfn := findNow_idx (E := E) (K := K) (T := σ.top) (w := w) hd hk hf es.toList ksa 0 j (by simpa using g2) (fun q hq => by rw [hgd]; exact g4 q (by simpa using hq)) (by simpa using hj') e3 e2
            rw [hgd] at hfn
            have hsb : Instr.sameBits 10000 (es.getD j default).key ck = true := by
              have := g4 j hj'
              rw [e2] at this
              exact sameBits_sound (E := E) this hk hf _
            have hgj : es.getD j default = es[j] := by simp [Array.getD, hj']
            refine ⟨{ w with heap := w.heap.setIfInBounds (K.blk s') (.map (es.modify j fun e => { e with key := ck, val := cv }) clk) }, ?_, ?_, rfl⟩
            · unfold Instr.mapUpdate
              simp only [Sem.run_bind, run_underlying hun, Result.andThen_ok, show (10000 : Nat) = 9999 + 1 from rfl]
              rw [hgj] at hsb hfn
              simp [getObj, setObj, Sem.run, g1, hck, Instr.findKey, run_underlying hd, hfn, hj', Instr.keyThatStays, hsb]
            · have hlt := lt_of_heap g1
              refine Step.setMap h hB ho g1 (only_putObj g1) (es' := es.modify j fun e => { e with key := ck, val := cv }) (clk' := clk) (by simp [hlt]) (by simp [g2]) (by simp [g3]) (fun e => ?_)
              have hmod : ∀ i, i < es.size → (es.modify j fun e => { e with key := ck, val := cv }).getD i default = if j = i then { es.getD i default with key := ck, val := cv } else es.getD i default := by
                intro i hi
                simp only [Array.getD, Array.size_modify, hi, dif_pos]
                show (es.modify j _)[i]'_ = _
                rw [Array.getElem_modify]
                split <;> simp_all
              constructor
              · intro i hi
                have hi' : i < es.size := by simpa using hi
                rw [hmod i hi']
                by_cases hji : j = i
                · subst hji
                  have : (ksa.set j k).getD j undefV = k := by simp [List.getD, hj]
                  rw [this]; simp
                  exact hk.ext e
                · have : (ksa.set j k).getD i undefV = ksa.getD i undefV := by simp [List.getD, hji]
                  rw [this]; simp only [hji, if_false]
                  exact (g4 i hi').ext e
              · intro i hi
                have hi' : i < es.size := by simpa using hi
                rw [hmod i hi']
                by_cases hji : j = i
                · subst hji
                  have : (vsa.set j v).getD j undefV = v := by simp [List.getD, show j < vsa.length by omega]
                  rw [this]; simp
                  exact hv.ext e
                · have : (vsa.set j v).getD i undefV = vsa.getD i undefV := by simp [List.getD, hji]
                  rw [this]; simp only [hji, if_false]
                  exact (g5 i hi').ext e
        · simp at hmp
      · simp at hmp
    · simp at hu
  · simp at hu
end
end Aq
end
section
namespace Aq
open Go Go.RowKit
section
variable {E : Env} {B0 : Nat} {σ : Sig} {K : Con} {w : World} {new : Nat → Prop} {T : Nat → Nat}
theorem fold_put_size (off : Nat) : ∀ (l : List (Value × Nat)) (cs : Array Value), (l.foldl (fun cs (c, j) => cs.setIfInBounds (off + j) c) cs).size = cs.size
  | [], _ => rfl
  | x :: l, cs => by rw [List.foldl_cons, fold_put_size off l]; simp
theorem fold_put_getD (off : Nat) : ∀ (vs : List Value) (k : Nat) (cs : Array Value), off + k + vs.length ≤ cs.size → ∀ i, i < cs.size →
    ((vs.zipIdx k).foldl (fun cs (c, j) => cs.setIfInBounds (off + j) c) cs).getD i undef = if off + k ≤ i ∧ i < off + k + vs.length then vs.getD (i - (off + k)) undef else cs.getD i undef
  | [], k, cs, _, i, _ => by simp; omega
  | v :: vs, k, cs, h, i, hi => by
    simp only [List.zipIdx_cons, List.foldl_cons]
    rw [fold_put_getD off vs (k + 1) _ (by simp at h ⊢; omega) i (by simpa using hi)]
    have hs : (cs.setIfInBounds (off + k) v).getD i undef = if off + k = i then v else cs.getD i undef := by
      simp only [Array.getD, Array.size_setIfInBounds, hi, dif_pos]
      show (cs.setIfInBounds (off + k) v)[i]'_ = _
      rw [Array.getElem_setIfInBounds]
      split <;> rfl
    rw [hs]
    simp only [List.length_cons] at h ⊢
    by_cases h1 : off + k = i
    · subst h1
      rw [if_neg (by omega), if_pos rfl, if_pos (by omega)]
      simp
    · by_cases h2 : off + (k + 1) ≤ i ∧ i < off + (k + 1) + vs.length
      · rw [if_pos h2, if_pos (by omega)]
        have : i - (off + k) = (i - (off + (k + 1))) + 1 := by omega
        rw [this, List.getD_cons_succ]
      · rw [if_neg h2, if_neg h1, if_neg (by omega)]
theorem toList_getD (a : Array Value) (i : Nat) : a.toList.getD i undef = a.getD i undef := by
  simp [List.getD, Array.getD]; split <;> simp_all
/-- Parts, pairwise. -/
def RelP (K : Con) (T : Nat → Nat) (w : World) : List (Nat × V) → List (Nat × Value) → Prop
  | [], [] => True
  | (i, v) :: a, (j, c) :: b => i = j ∧ Rel K T w v c ∧ RelP K T w a b
  | _, _ => False
theorem fillL_sound {place : Nat → Option (Nat × Nat)} {place' : Nat → Option (Nat × Nat)} (hp : ∀ i x, place i = some x → place' i = some x) :
    ∀ (parts : List (Nat × V)) (parts' : List (Nat × Value)) (cs cs' : List V) (vs : Array Value), RelP K T w parts parts' → RelL K T w cs vs → fillL place cs parts = some cs' →
      ∃ vs', Instr.fill place' vs parts' = some vs' ∧ RelL K T w cs' vs' ∧ vs'.size = vs.size
  | [], [], cs, cs', vs, _, hr, h => by
    simp only [fillL, Option.some.injEq] at h; subst h
    exact ⟨vs, rfl, hr, rfl⟩
  | (i, v) :: ps, (j, c) :: ps', cs, cs', vs, hpp, hr, h => by
    obtain ⟨rfl, hv, hpp⟩ := hpp
    unfold fillL at h
    cases hpl : place i with
    | none => simp [hpl] at h
    | some x =>
      obtain ⟨off, size⟩ := x
      simp only [hpl] at h
      split at h
      · rename_i hc
        obtain ⟨h1, h2, h3⟩ := hc
        obtain ⟨hl, hcr⟩ := cells_rel hv h3
        have hsz : (c.cells.zipIdx.foldl (fun cs (c, j) => cs.setIfInBounds (off + j) c) vs).size = vs.size := by
          rw [← Array.foldl_toList, Array.toList_zipIdx]; exact fold_put_size off _ _
        have hget : ∀ i, i < vs.size → (c.cells.zipIdx.foldl (fun cs (c, j) => cs.setIfInBounds (off + j) c) vs).getD i undef = if off ≤ i ∧ i < off + c.cells.size then c.cells.getD (i - off) undef else vs.getD i undef := by
          intro i hi
          rw [← Array.foldl_toList, Array.toList_zipIdx]
          have := fold_put_getD off c.cells.toList 0 vs (by simp; have := hr.1; omega) i hi
          rw [this]
          simp only [Nat.add_zero, Array.length_toList]
          split
          · exact toList_getD _ _
          · rfl
        have hrl : RelL K T w (spliceL cs off v.cells) (c.cells.zipIdx.foldl (fun cs (c, j) => cs.setIfInBounds (off + j) c) vs) := by
          refine ⟨by rw [splice_length (by omega), hsz]; exact hr.1, fun i hi => ?_⟩
          rw [splice_length (by omega)] at hi
          rw [splice_getD (by omega), hget i (by have := hr.1; omega), ← hl]
          by_cases hh : off ≤ i ∧ i < off + v.cells.length
          · rw [if_pos hh, if_pos hh]; exact hcr _ (by omega)
          · rw [if_neg hh, if_neg hh]; exact hr.2 i hi
        obtain ⟨vs', g1, g2, g3⟩ := fillL_sound hp ps ps' _ _ _ hpp hrl h
        refine ⟨vs', ?_, g2, by rw [g3, hsz]⟩
        unfold Instr.fill
        simp only [hp _ _ hpl]
        have hcond : ¬ ((decide (c.cells.size ≠ size) || decide (off + c.cells.size > vs.size)) = true) := by
          have := hr.1
          simp; omega
        rw [if_neg hcond]
        exact g1
      · simp at h
  | [], _ :: _, _, _, _, h, _, _ => h.elim
  | _ :: _, [], _, _, _, h, _, _ => h.elim
theorem relP_map {fr : Fr} {a : Act} (h : SOK E B0 σ K w) (hf : FrRel K σ.top w fr a.tmps) : ∀ (l : List (Nat × Operand)), RelP K σ.top w (l.map fun (i, x) => (i, fr.ev E x)) (l.map fun (i, x) => (i, a.eval x))
  | [] => trivial
  | (_, x) :: l => ⟨rfl, ev_rel h hf x, relP_map h hf l⟩
theorem run_places : ∀ (l : List Field), l.all (fun f => (szT E.P f.type).isSome) = true →
    (l.mapM (fun f => do pure (f.offset, ← Go.sizeOf f.type) : Field → Sem (Nat × Nat))).run E.P w = .ok (l.map fun f => (f.offset, (szT E.P f.type).getD 0)) w
  | [], _ => rfl
  | f :: l, h => by
    simp only [List.all_cons, Bool.and_eq_true] at h
    obtain ⟨n, hn⟩ := Option.isSome_iff_exists.1 h.1
    have ih := run_places l h.2
    simp only [List.mapM_cons, Sem.run_bind, run_sizeOf' w hn, Result.andThen_ok, Sem.run_pure, ih, hn, List.map_cons, Option.getD_some]
theorem build_sound {t : TypeId} {pl : Nat → Option (Nat × Nat)} {z : V} {parts : List (Nat × V)} {parts' : Array (Nat × Value)} {cs : List V} (hpl : partsT E t = some pl) (hz : zeroT E.P t = some z)
    (hp : RelP K T w parts parts'.toList) (hraw : notRaw z = true) (h : fillL pl z.cells parts = some cs) : ∃ c, (Instr.build t parts').run E.P w = .ok c w ∧ Rel K T w (.agg cs) c := by
  obtain ⟨cz, hz1, hz2⟩ := run_zeroValue w hz
  have hrz : RelL K T w z.cells cz.cells := cells_rel (hz2 K T) hraw
  unfold partsT at hpl
  split at hpl
  · rename_i fs hu
    split at hpl
    · rename_i hall
      simp only [Option.some.injEq] at hpl; subst hpl
      obtain ⟨vs', g1, g2, _⟩ := fillL_sound (K := K) (T := T) (w := w) (place' := fun i => (fs.map fun f => (f.offset, (szT E.P f.type).getD 0))[i]?) (fun i x hx => by
        simp only [Option.bind_eq_some_iff, Option.map_eq_some_iff] at hx
        obtain ⟨f, hf, n, hn, rfl⟩ := hx
        simp [hf, hn]) parts parts'.toList _ _ _ hp hrz h
      refine ⟨.agg vs', ?_, .agg _ _ g2.1 g2.2⟩
      have hm : (fs.mapM (fun f => do pure (f.offset, ← Go.sizeOf f.type) : Field → Sem (Nat × Nat))).run E.P w = .ok (fs.map fun f => (f.offset, (szT E.P f.type).getD 0)) w := by
        rw [Array.mapM_eq_mapM_toList, Sem.run_map, run_places fs.toList hall]
        simp only [Result.andThen_ok]
        congr 1
        apply Array.ext'
        simp
      simp only [Instr.build, Sem.run_bind, hz1, Result.andThen_ok, run_underlying hu]
      rw [hm]
      simp only [Result.andThen_ok]
      rw [g1]
      rfl
    · simp at hpl
  · rename_i n e hu
    simp only [Option.map_eq_some_iff] at hpl
    obtain ⟨sz, hsz, rfl⟩ := hpl
    obtain ⟨vs', g1, g2, _⟩ := fillL_sound (K := K) (T := T) (w := w) (place' := fun i => some (i * sz, sz)) (fun i x hx => hx) parts parts'.toList _ _ _ hp hrz h
    refine ⟨.agg vs', ?_, .agg _ _ g2.1 g2.2⟩
    simp only [Instr.build, Sem.run_bind, hz1, Result.andThen_ok, run_underlying hu, run_sizeOf' w hsz]
    rw [g1]
    rfl
  · simp at hpl
theorem flatten_replicate_getD (z : List V) (sz : Nat) (hz : z.length = sz) (h0 : 0 < sz) : ∀ (n i : Nat), i < n * sz → (List.replicate n z).flatten.getD i undefV = z.getD (i % sz) undefV
  | 0, i, h => by simp at h
  | n + 1, i, h => by
    simp only [List.replicate_succ, List.flatten_cons]
    by_cases hi : i < sz
    · rw [getD_append_lt (by omega), Nat.mod_eq_of_lt hi]
    · have hs : (n + 1) * sz = n * sz + sz := Nat.succ_mul n sz
      rw [getD_append_ge (by omega), hz, flatten_replicate_getD z sz hz h0 n (i - sz) (by omega)]
      congr 1
      exact (Nat.mod_eq_sub_mod (by omega)).symm
/-- The zero cells of a row. -/
theorem relL_zero {z : V} {cz : Value} {sz : Nat} (hz : Rel K T w z cz) (hraw : notRaw z = true) (hsz : z.cells.length = sz) (n : Nat) :
    RelL K T w (List.replicate n z.cells).flatten ((Array.range (n * sz)).map fun i => cz.cells[i % cz.cells.size]!) := by
  obtain ⟨h1, h2⟩ := cells_rel hz hraw
  refine ⟨by simp [hsz], fun i hi => ?_⟩
  have hi' : i < n * sz := by simpa [hsz] using hi
  have h0 : 0 < sz := by
    rcases Nat.eq_zero_or_pos sz with h | h
    · subst h; simp at hi'
    · exact h
  rw [flatten_replicate_getD z.cells sz hsz h0 n i hi']
  have hm : i % sz < cz.cells.size := by rw [← h1, hsz]; exact Nat.mod_lt _ h0
  have he : ((Array.range (n * sz)).map fun i => cz.cells[i % cz.cells.size]!).getD i undef = cz.cells.getD (i % sz) undef := by
    have : cz.cells.size = sz := by omega
    simp [Array.getD, hi', this, getElem!_pos, Nat.mod_lt _ h0]
  rw [he]
  exact h2 _ (by omega)
theorem er_cells_length (v : V) : (er v).cells.length = v.cells.length := by
  cases v <;> simp [er, V.cells]
theorem er1_rel {v : V} {c : Value} (h : Rel K T w v c) : Rel K T w (er1 v) c := by
  cases h with
  | lstNil c a ha hc => exact .lstNil .sh a (fun h => by cases h) trivial
  | lst c l b o n cap val h1 h2 h3 h4 h5 => exact .lst .sh l b o n cap val h1 h2 h3 h4 trivial
  | _ => first | exact .int _ _ | exact .bool _ | exact .str _ _ (by assumption) | exact .nilp | exact .nilf | exact .nilm | exact .nili | (constructor <;> assumption)
theorem er_rel {v : V} {c : Value} (h : Rel K T w v c) : Rel K T w (er v) c := by
  cases h with
  | agg cs vs hl h =>
    refine .agg _ vs (by simpa using hl) (fun i hi => ?_)
    have hi' : i < cs.length := by simpa using hi
    have : (cs.map er1).getD i undefV = er1 (cs.getD i undefV) := by simp [List.getD, hi']
    rw [this]
    exact er1_rel (h i hi')
  | lstNil c a ha hc => exact .lstNil .sh a (fun h => by cases h) trivial
  | lst c l b o n cap val h1 h2 h3 h4 h5 => exact .lst .sh l b o n cap val h1 h2 h3 h4 trivial
  | _ => first | exact .int _ _ | exact .bool _ | exact .str _ _ (by assumption) | exact .nilp | exact .nilf | exact .nilm | exact .nili | (constructor <;> assumption)
theorem er_cells_rel {v : V} {j : Nat} {c : Value} (hj : j < v.cells.length) (h : Rel K T w (v.cells.getD j undefV) c) : Rel K T w ((er v).cells.getD j undefV) c := by
  cases v with
  | agg cs =>
    have : ((er (.agg cs)).cells).getD j undefV = er1 (cs.getD j undefV) := by
      have hj' : j < cs.length := hj
      simp [er, V.cells, List.getD, hj']
    rw [this]; exact er1_rel h
  | lst c l =>
    have hj0 : j = 0 := by simp [V.cells] at hj; exact hj
    subst hj0
    exact er1_rel h
  | _ => exact h
/-- A list of erased elements. -/
theorem rel_map_er {c : Cap} {l : List V} {x : Value} (h : Rel K T w (.lst c l) x) : Rel K T w (.lst c (l.map er)) x := by
  cases h with
  | lstNil _ a ha hc => exact .lstNil c a ha hc
  | lst _ _ b o n cap val hle hn hcell hrel hc =>
    have hg : ∀ i, i < l.length → (l.map er).getD i undefV = er (l.getD i undefV) := fun i hi => by simp [List.getD, hi]
    have key : Rel K T w (.lst c (l.map er)) (.slice (some (at_ b o)) (l.map er).length cap) := by
      refine .lst c _ b o n cap val (by simpa using hle) (fun i hi => ?_) (fun i j hi hj => hcell i j (by simpa using hi) hj) (fun i j hi hj => ?_) (by simpa using hc)
      · rw [hg i (by simpa using hi), er_cells_length]; exact hn i (by simpa using hi)
      · rw [hg i (by simpa using hi)]
        exact er_cells_rel (by rw [hn i (by simpa using hi)]; exact hj) (hrel i j (by simpa using hi) hj)
    simpa using key
theorem buildSliceV_sound (h : SOK E B0 σ K w) (hB : B0 ≤ w.heap.size) {t : TypeId} {len : Nat} {parts : List (Nat × V)} {parts' : Array (Nat × Value)} {v : V}
    (hp : RelP K σ.top w parts parts'.toList) (hv : buildSliceV E t len parts = some v) : Done E B0 new σ K w (Instr.buildSlice t len parts') v σ := by
  simp only [buildSliceV, Option.bind_eq_some_iff] at hv
  obtain ⟨e, he, sz, hsz, ag, hag, z, hz, hv⟩ := hv
  split at hv
  · rename_i hc
    obtain ⟨c1, c2, c3, c4⟩ := hc
    simp only [Option.bind_eq_some_iff] at hv
    obtain ⟨cs, hcs, hv⟩ := hv
    split at hv
    · rename_i hone
      simp only [Option.some.injEq] at hv; subst hv
      obtain ⟨cz, hz1, hz2⟩ := run_zeroValue w hz
      have hraw : notRaw z = true := zeroT_raw hz
      have hrz := relL_zero (hz2 K σ.top) hraw c2 len
      obtain ⟨vs', g1, g2, g3⟩ := fillL_sound (K := K) (T := σ.top) (w := w) (place' := fun i => some (i * sz, sz)) (fun i x hx => by
        split at hx
        · exact hx
        · simp at hx) parts parts'.toList _ _ _ hp hrz hcs
      have hlen : cs.length = len * sz := by rw [g2.1, g3]; simp
      have hu := elemT_some he
      have hrun : (Instr.buildSlice t len parts').run E.P w = .ok (.slice (some ⟨w.heap.size, 0, none⟩) len len) (w.alloc (.cells vs' e)) := by
        have hn : ¬ 2 ^ 24 < len * sz := by omega
        by_cases h0 : len * sz = 0
        · have hl0 : len = 0 := by
            rcases Nat.mul_eq_zero.1 h0 with h | h
            · exact h
            · omega
          subst hl0
          simp only [Instr.buildSlice, Sem.run_bind, run_underlying hu, Result.andThen_ok, run_sizeOf' w hsz, Nat.zero_mul]
          have g1' : Instr.fill (fun i => some (i * sz, sz)) #[] parts'.toList = some vs' := by
            have e0 : ((Array.range (0 * sz)).map fun i => cz.cells[i % cz.cells.size]!) = #[] := by simp [Array.range_zero']
            rw [← e0]; exact g1
          have e1 : ∀ f : Nat → Value, (Array.range 0).map f = #[] := fun f => by simp [Array.range_zero']
          simp only [if_true, e1, g1']
          simp [newRow]
        · simp only [Instr.buildSlice, Sem.run_bind, run_underlying hu, Result.andThen_ok, run_sizeOf' w hsz, hn, gt_iff_lt, if_false, h0, hz1, Sem.run_pure]
          rw [g1]
          simp [newRow]
      have hst := Step.allocImm (new := new) h hB vs' e (0, 0)
      refine ⟨_, _, _, hrun, rel_map_er ?_, hst⟩
      have hext := hst.ext
      refine rel_of_cells (cap := len) (w := w.alloc (.cells vs' e)) (fun j => vs'.getD j undef) (fun hf => ?_) (by omega) (fun _ => hone) (fun j hj => ⟨?_, ?_⟩) (fun j hj => (g2.2 j (by omega)).ext hext) (Nat.le_refl _) (by simp [CapOK])
      · subst hf; simpa using c4
      · have := cell_alloc_new (w := w) (vals := vs') (t := e) (fz := (0, 0)) (i := j) (by have := g2.1; omega)
        simpa using this
      · right
        exact ⟨rfl, by have := g2.1; omega⟩
    · simp at hv
  · simp at hv
end
end Aq
end
section
namespace Aq
open Go Go.RowKit
section
variable {E : Env} {B0 : Nat} {σ : Sig} {K : Con} {w : World} {new : Nat → Prop} {T : Nat → Nat}
/-- What an append reads: n elements of sz cells each. -/
def Src (P : Program) (w : World) (sz n : Nat) (cx : Value) (cells : List Value) : Prop :=
  cells.length = n * sz ∧ ∀ w', w'.heap = w.heap → (Builtin.firstCells sz n cx).run P w' = .ok cells.toArray w'
def RelC (K : Con) (T : Nat → Nat) (w : World) (sz : Nat) (l : List V) (cells : List Value) : Prop :=
  ∀ i, i < l.length → (l.getD i undefV).cells.length = sz ∧ ∀ j, j < sz → Rel K T w ((l.getD i undefV).cells.getD j undefV) (cells.getD (i * sz + j) undef)
theorem RelC.ext {K' T' w'} {sz : Nat} {l : List V} {cells : List Value} (h : RelC K T w sz l cells) (e : Ext K T w K' T' w') : RelC K' T' w' sz l cells :=
  fun i hi => ⟨(h i hi).1, fun j hj => ((h i hi).2 j hj).ext e⟩
theorem mul_lt {i j n sz : Nat} (hi : i < n) (hj : j < sz) : i * sz + j < n * sz := by
  have := Nat.mul_le_mul_right sz (Nat.succ_le_of_lt hi)
  rw [Nat.succ_mul] at this; omega
theorem cells_list {f : Nat → Nat → Value} {n sz i j : Nat} (hi : i < n) (hj : j < sz) :
    ((List.range (n * sz)).map fun q => f (q / sz) (q % sz)).getD (i * sz + j) undef = f i j := by
  have hlt := mul_lt hi hj
  have h1 : (i * sz + j) / sz = i := by
    rw [Nat.mul_comm, Nat.mul_add_div (by omega), Nat.div_eq_of_lt hj, Nat.add_zero]
  have h2 : (i * sz + j) % sz = j := by
    rw [Nat.mul_comm, Nat.mul_add_mod, Nat.mod_eq_of_lt hj]
  simp [List.getD, hlt, h1, h2]
theorem first_nil {P : Program} (w : World) (sz : Nat) (a : Option Addr) : (Builtin.firstCells sz 0 (.slice a 0 0)).run P w = .ok #[] w := by
  cases a with
  | none => simp [Builtin.firstCells]
  | some a => simpa using run_firstCells_some (P := P) w sz 0 a 0 0 [] (by simp) (fun j v hj => by simp at hj)
theorem src_lst {c : Cap} {l : List V} {cx : Value} {sz : Nat} (h : Rel K T w (.lst c l) cx) (hs : headSz sz l = true) : ∃ cells, Src E.P w sz l.length cx cells ∧ RelC K T w sz l cells := by
  cases h with
  | lstNil _ a ha hc => exact ⟨[], ⟨by simp, fun w' _ => first_nil w' sz a⟩, fun i hi => absurd hi (Nat.not_lt_zero i)⟩
  | lst _ _ b o n cap val hle hn hcell hrel hc =>
    by_cases h0 : l = []
    · subst h0
      refine ⟨[], ⟨by simp, fun w' hw => ?_⟩, fun i hi => absurd hi (Nat.not_lt_zero i)⟩
      have := run_firstCells_some (P := E.P) w' sz 0 (at_ b o) 0 cap [] (by simp) (fun j v hj => by simp at hj)
      simpa using this
    · have hpos : 0 < l.length := List.length_pos_iff.2 h0
      have hnsz : n = sz := headSz_getD hs hn hpos
      subst hnsz
      refine ⟨(List.range (l.length * n)).map fun q => val (q / n) (q % n), ⟨by simp, fun w' hw => ?_⟩, fun i hi => ⟨hn i hi, fun j hj => ?_⟩⟩
      · refine run_firstCells_some (P := E.P) w' n l.length (at_ b o) l.length cap _ (by simp) (fun j v hj => ?_)
        have hjl : j < l.length * n := by
          have := (List.getElem?_eq_some_iff.1 hj).1
          simpa using this
        have hn0 : 0 < n := by
          rcases Nat.eq_zero_or_pos n with h | h
          · subst h; simp at hjl
          · exact h
        simp [hjl] at hj
        subst hj
        rw [addr_add]
        have := (hcell (j / n) (j % n) (Nat.div_lt_of_lt_mul (by rw [Nat.mul_comm]; exact hjl)) (Nat.mod_lt _ hn0)).1
        rw [cell_of_heap (w := w) (by rw [hw])]
        rwa [Nat.add_assoc, Nat.mul_comm, Nat.div_add_mod] at this
      · rw [cells_list hi hj]; exact hrel i j hi hj
theorem src_str {s : List UInt8} {cx : Value} {e : TypeId} (h : Rel K T w (.str s) cx) : ∃ cells, Src E.P w 1 (s.map byteV).length cx cells ∧ RelC K T w 1 (s.map byteV) cells := by
  let _ := e
  cases h with | str _ b hb =>
  have hl : s.length = b.size := by rw [← hb]; simp
  refine ⟨(b.data.map fun x => Value.int .u8 x.toNat).toList, ⟨by simp [hl], fun w' _ => ?_⟩, fun i hi => ?_⟩
  · simp only [Builtin.firstCells, Sem.run_pure]
    congr 1
    have : (b.extract 0 (s.map byteV).length) = b := by
      rw [List.length_map, hl]; simp
    rw [this]
  · have hi' : i < s.length := by simpa using hi
    have hg : (s.map byteV).getD i undefV = byteV s[i] := by simp [List.getD, hi']
    rw [hg]
    refine ⟨rfl, fun j hj => ?_⟩
    obtain rfl : j = 0 := by omega
    have hib : i < b.size := by omega
    have hv : ((b.data.map fun x => Value.int .u8 x.toNat).toList).getD (i * 1 + 0) undef = .int .u8 s[i].toNat := by
      have e1 : s[i] = b.data[i]'(by simpa using hib) := by
        subst hb; simp
      simp [List.getD, hib, e1]
    rw [hv]
    exact .int _ _
theorem src_vw (h : SOK E B0 σ K w) {loc : Loc} {s off len cap sz : Nat} {ag ag' : Bool} {cs : List V} {cx : Value} (hx : Rel K σ.top w (.vw loc s off len cap sz ag') cx) (hcs : σ.cellsAt loc s = some cs)
    (hle : off + len * sz ≤ cs.length) (hag : (ag || sz == 1) = true) (hone : oneCells cs = true ∨ ag = true) :
    ∃ cells, Src E.P w sz ((chunks ag sz len (cs.drop off)).map er).length cx cells ∧ RelC K σ.top w sz ((chunks ag sz len (cs.drop off)).map er) cells := by
  obtain ⟨ho, hA, hks⟩ := h.cellsAt' hcs
  obtain ⟨_, hob, _⟩ := h.obj _ _ _ ho
  have hlen : ((chunks ag sz len (cs.drop off)).map er).length = len := by rw [List.length_map, chunks_length]
  rw [hlen]
  cases hx with
  | vwNil => exact ⟨[], ⟨by simp, fun w' _ => by simp [Builtin.firstCells]⟩, fun i hi => by rw [hlen] at hi; omega⟩
  | vw _ _ _ _ _ _ _ capc hA' hcc hlc hsz =>
    by_cases h0 : len * sz = 0
    · refine ⟨[], ⟨by simp [h0], fun w' _ => ?_⟩, fun i hi => ?_⟩
      · have := run_firstCells_some (P := E.P) w' sz len (at_ (K.blk s) off) len capc [] (by simp [h0]) (fun j v hj => by simp at hj)
        simpa using this
      · rw [hlen] at hi
        have hsz0 : sz = 0 := by
          rcases Nat.mul_eq_zero.1 h0 with h | h
          · omega
          · exact h
        subst hsz0
        have hag' : ag = true := by simpa using hag
        subst hag'
        refine ⟨?_, fun j hj => absurd hj (Nat.not_lt_zero j)⟩
        have hi' : i < (chunks true 0 len (cs.drop off)).length := by rw [chunks_length]; exact hi
        have : ((chunks true 0 len (cs.drop off)).map er).getD i undefV = er ((chunks true 0 len (cs.drop off)).getD i undefV) := by simp [List.getD, hi']
        rw [this, er_cells_length, chunks_getD _ _ _ _ _ hi]
        simp [V.cells]
    · obtain ⟨_, vals, t, g1, g2, g3, g4⟩ := hob.2 (by rintro rfl; simp at hle; omega)
      refine ⟨(List.range (len * sz)).map fun q => vals.getD (off + q) undef, ⟨by simp, fun w' hw => ?_⟩, fun i hi => ?_⟩
      · refine run_firstCells_some (P := E.P) w' sz len (at_ (K.blk s) off) len capc _ (by simp) (fun j v hj => ?_)
        have hjl : j < len * sz := by
          have := (List.getElem?_eq_some_iff.1 hj).1
          simpa using this
        simp only [List.getElem?_map, List.getElem?_range hjl, Option.map_some, Option.some.injEq] at hj
        subst hj
        rw [addr_add, cell_of_heap (w := w) (by rw [hw])]
        simp [World.cell?, g1, show off + j < vals.size by omega]
      · rw [hlen] at hi
        have hi' : i < (chunks ag sz len (cs.drop off)).length := by rw [chunks_length]; exact hi
        have hge : ((chunks ag sz len (cs.drop off)).map er).getD i undefV = er ((chunks ag sz len (cs.drop off)).getD i undefV) := by simp [List.getD, hi']
        rw [hge, er_cells_length]
        have hcc := chunks_cells (cs := cs.drop off) ag (n := sz) (k := len) (fun hf => by subst hf; simpa using hag) (by simp; omega) (fun hf => by
          rcases hone with h1 | h1
          · simp only [oneCells, List.all_eq_true] at h1 ⊢
            exact fun x hx => h1 x (List.mem_of_mem_drop hx)
          · subst h1; cases hf) hi
        have hlt : i * sz + sz ≤ len * sz := by
          have := Nat.mul_le_mul_right sz (Nat.succ_le_of_lt hi)
          rwa [Nat.succ_mul] at this
        refine ⟨by rw [hcc]; simp; omega, fun j hj => ?_⟩
        refine er_cells_rel (by rw [hcc]; simp; omega) ?_
        rw [hcc, take_getD _ hj, drop_getD, drop_getD]
        have hq : i * sz + j < len * sz := by omega
        have : ((List.range (len * sz)).map fun q => vals.getD (off + q) undef).getD (i * sz + j) undef = vals.getD (off + (i * sz + j)) undef := by
          simp [List.getD, hq]
        rw [this]
        exact g4 _ (by omega)
/-- The second argument of an append: a slice, a string, or the length of a made slice. -/
structure SrcA (P : Program) (w : World) (sz n : Nat) (tx : TypeId) (z cx : Value) (news : List Value) : Prop where
  len : news.length = n * sz
  one : ∀ u ∈ news, u.oneCell' = true
  kind : (((∃ e', P.underlying tx = some (.slice e')) ∨ P.underlying tx = some .string) ∧ (∀ w', (Builtin.lenOf cx).run P w' = .ok n w') ∧ ∀ w', w'.heap = w.heap → (Builtin.firstCells sz n cx).run P w' = .ok news.toArray w') ∨
    ((∃ k k', P.underlying tx = some (.int k) ∧ cx = .int k' n) ∧ news = (Builtin.zeroCells z.cells n).toList ∧ z.cells.size = sz)
theorem zeroCells_zero (z : Array Value) {n : Nat} (h : n * z.size = 0) : Builtin.zeroCells z n = #[] := by
  simp [Builtin.zeroCells, h, Array.range_zero']
theorem i64_small {n : Nat} (h : n ≤ 2 ^ 47) : IntKind.i64.wrap (n : Int) = n := by
  rw [IntKind.wrap_i64]; omega
theorem run_append_room' {P : Program} {w w' : World} {t tx ty e : TypeId} {i : TypeInfo} {z : Value} {n sLen sCap : Nat} {cx : Value} {news : List Value} {base : Option Addr} (ht : P.underlying t = some (.slice e)) (hi : P.info? e = some i) (hz : i.zero = some z)
    (hs : SrcA P w i.size n tx z cx news) (hn : n ≤ 2 ^ 47) (hb : n * i.bytes ≤ 2 ^ 47) (hroom : sLen + n ≤ sCap)
    (h1 : ∀ a, base = some a → (storeCells (a.add (sLen * i.size)) news).run P w = .ok () w') (h2 : base = none → w' = w) :
    (Builtin.append_ #[t, tx] ty #[.slice base sLen sCap, cx]).run P w = .ok (.slice base (sLen + n) sCap) w' := by
  rcases hs.kind with ⟨hk, hl, hc⟩ | ⟨⟨k, k', hk, rfl⟩, hc, hzs⟩
  · have hc' := hc w rfl
    cases base with
    | none =>
      rw [h2 rfl]
      rcases hk with ⟨e', hk⟩ | hk <;> simp [Builtin.append_, run_underlying ht, run_underlying hk, Go.sizeOf, typeInfo, hi, hl, hroom, hc']
    | some a =>
      have hst := h1 a rfl
      rcases hk with ⟨e', hk⟩ | hk <;> simp [Builtin.append_, run_underlying ht, run_underlying hk, Go.sizeOf, typeInfo, hi, hl, hroom, hc', hst]
  · have hw := i64_small hn
    have hb' : ¬ (281474976710656 < (n : Int) * (i.bytes : Int)) := by have := Int.ofNat_le.2 hb; simp at this; omega
    have hneg : ¬ ((n : Int) < 0) := by omega
    by_cases h0 : n * i.size = 0
    · have hnews : news = [] := by rw [hc, zeroCells_zero _ (by rw [hzs]; exact h0)]
      subst hnews
      cases base with
      | none =>
        rw [h2 rfl]
        simp [Builtin.append_, run_underlying ht, run_underlying hk, Go.sizeOf, typeInfo, hi, hroom, asInt, asIntOf, hw, hb', hneg, h0]
      | some a =>
        have hst := h1 a rfl
        simp [Builtin.append_, run_underlying ht, run_underlying hk, Go.sizeOf, typeInfo, hi, hroom, asInt, asIntOf, hw, hb', hneg, h0, hst]
    · cases base with
      | none =>
        rw [h2 rfl]
        simp [Builtin.append_, run_underlying ht, run_underlying hk, Go.sizeOf, typeInfo, zeroValue, hi, hz, hroom, asInt, asIntOf, hw, hb', hneg]
      | some a =>
        have hst := h1 a rfl
        rw [hc] at hst
        simp [Builtin.append_, run_underlying ht, run_underlying hk, Go.sizeOf, typeInfo, zeroValue, hi, hz, hroom, asInt, asIntOf, hw, hb', hneg, h0, hst]
theorem run_append_grow' {P : Program} {w : World} {t tx ty e : TypeId} {i : TypeInfo} {z : Value} {n sLen sCap : Nat} {cx : Value} {olds news : List Value} {base : Option Addr} (ht : P.underlying t = some (.slice e)) (hi : P.info? e = some i) (hz : i.zero = some z)
    (hs : SrcA P w i.size n tx z cx news) (hold : ∀ w', w'.heap = w.heap → (Builtin.firstCells i.size sLen (.slice base sLen sCap)).run P w' = .ok olds.toArray w') (hn : sLen + n ≤ 2 ^ 47) (hb : (sLen + n) * i.bytes ≤ 2 ^ 47) (hroom : sCap < sLen + n) :
    (Builtin.append_ #[t, tx] ty #[.slice base sLen sCap, cx]).run P w = .ok (.slice (some ⟨w.heap.size, 0, none⟩) (sLen + n) (grownCap w (sLen + n) sCap e))
      (w.drew.alloc (.cells ((olds ++ news).toArray ++ Builtin.zeroCells z.cells (grownCap w (sLen + n) sCap e - (sLen + n))) e)) := by
  have hnr : ¬ (sLen + n ≤ sCap) := by omega
  have h63 : ¬ (9223372036854775807 < ((sLen : Int) + (n : Int))) := by omega
  have h48 : ¬ (281474976710656 < Builtin.nextslicecap (sLen + n) sCap * i.bytes) := by have := growslice_fits (bytes := i.bytes) hroom (by omega); omega
  have hold' := hold w.drew rfl
  have hcat : (olds ++ news).toArray = olds.toArray ++ news.toArray := by simp
  rcases hs.kind with ⟨hk, hl, hc⟩ | ⟨⟨k, k', hk, rfl⟩, hc, hzs⟩
  · have hc' := hc w.drew rfl
    rcases hk with ⟨e', hk⟩ | hk <;>
      (simp [Builtin.append_, run_underlying ht, run_underlying hk, Go.sizeOf, typeInfo, zeroValue, hi, hz, hl, hnr, h63, h48, Question.forced, hc', hold', newRow, grownCap]
       congr 2
       apply Array.ext'
       simp [List.append_assoc])
  · have hw := i64_small (n := n) (by omega)
    have hnb : n * i.bytes ≤ 2 ^ 47 := Nat.le_trans (Nat.mul_le_mul_right _ (by omega)) hb
    have hb' : ¬ (281474976710656 < (n : Int) * (i.bytes : Int)) := by have := Int.ofNat_le.2 hnb; simp at this; omega
    have hneg : ¬ ((n : Int) < 0) := by omega
    by_cases h0 : n * i.size = 0
    · have hnews : news = [] := by rw [hc, zeroCells_zero _ (by rw [hzs]; exact h0)]
      subst hnews
      simp [Builtin.append_, run_underlying ht, run_underlying hk, Go.sizeOf, typeInfo, zeroValue, hi, hz, hnr, h63, h48, Question.forced, asInt, asIntOf, hw, hb', hneg, h0, hold', newRow, grownCap]
    · subst hc
      simp [Builtin.append_, run_underlying ht, run_underlying hk, Go.sizeOf, typeInfo, zeroValue, hi, hz, hnr, h63, h48, Question.forced, asInt, asIntOf, hw, hb', hneg, h0, hold', newRow, grownCap]
      congr 2
      apply Array.ext'
      simp [List.append_assoc]
end
end Aq
end
