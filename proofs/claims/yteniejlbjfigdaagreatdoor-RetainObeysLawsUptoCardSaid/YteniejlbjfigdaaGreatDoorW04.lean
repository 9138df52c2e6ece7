/- Part of the proof of a law: Aq21 Aq22 Aq23 Aq24 Aq25 Aq26 Aq27 Aq28 AqR. -/
import Derived.RangeFuncLeaves
import Derived.RangeFuncRecord
import Derived.Test.YteniejlbjfigdaaGreatDoorW03
set_option linter.unusedVariables false
set_option linter.unusedSimpArgs false
set_option linter.unusedSectionVars false
section
namespace Aq
open Go Go.RowKit
section
variable {E : Env} {B0 : Nat} {σ : Sig} {K : Con} {w : World} {new : Nat → Prop} {T : Nat → Nat}
/-- An operation has gone through, as the machine's next. -/
def DoneN (E : Env) (B0 : Nat) (new : Nat → Prop) (σ : Sig) (K : Con) (w : World) (s : Sem Next) (v : V) (σ' : Sig) : Prop :=
  ∃ nx c w' K', s.run E.P w = .ok nx w' ∧ (nx = .value c ∨ (nx = .skip ∧ c = undef)) ∧ Rel K' σ'.top w' v c ∧ Step E B0 new σ K w σ' K' w'
theorem DoneN.of_done {s : Sem Value} {v : V} {σ' : Sig} (h : Done E B0 new σ K w s v σ') : DoneN E B0 new σ K w (do pure (.value (← s))) v σ' := by
  obtain ⟨c, w', K', h1, h2, h3⟩ := h
  exact ⟨.value c, c, w', K', by simp [h1], .inl rfl, h2, h3⟩
theorem DoneN.of_pure (h : SOK E B0 σ K w) {s : Sem Value} {v : V} (hs : ∃ c, s.run E.P w = .ok c w ∧ Rel K σ.top w v c) : DoneN E B0 new σ K w (do pure (.value (← s))) v σ :=
  .of_done (.of_pure h hs)
theorem DoneN.of_unit {s : Sem Unit} {σ' : Sig} {K' : Con} {w' : World} (h : s.run E.P w = .ok () w') (hs : Step E B0 new σ K w σ' K' w') : DoneN E B0 new σ K w (do s; pure .skip) undefV σ' :=
  ⟨.skip, undef, w', K', by simp [h], .inr ⟨rfl, rfl⟩, .undef _ _ _, hs⟩
theorem rel_args {fr : Fr} {a : Act} (h : SOK E B0 σ K w) (hf : FrRel K σ.top w fr a.tmps) (xs : Array Operand) :
    (xs.toList.map (fr.ev E)).length = (xs.map a.eval).size ∧ ∀ i, i < (xs.toList.map (fr.ev E)).length → Rel K σ.top w ((xs.toList.map (fr.ev E)).getD i undefV) ((xs.map a.eval).getD i undef) := by
  refine ⟨by simp, fun i hi => ?_⟩
  have hi' : i < xs.size := by simpa using hi
  have e1 : (xs.toList.map (fr.ev E)).getD i undefV = fr.ev E xs[i] := by simp [List.getD, hi']
  have e2 : (xs.map a.eval).getD i undef = a.eval xs[i] := by simp [Array.getD, hi']
  rw [e1, e2]
  exact ev_rel h hf _
theorem boolV_rel {v : V} {c : Value} {b : Bool} (hr : Rel K T w v c) (h : boolV v = some b) : c = .bool b := by
  cases v <;> simp only [boolV, reduceCtorEq, Option.some.injEq] at h
  subst h
  cases hr; rfl
/-- A new variable. -/
theorem newVar_sound (h : SOK E B0 σ K w) (hB : B0 ≤ w.heap.size) {st : Nat} (hst : ¬ K.A st) (loc : Loc) (t : TypeId) {x : V} {cx : Value} (hx : Rel K σ.top w x cx) (hraw : notRaw x = true) :
    Done E B0 (· = st) σ K w (do pure (.pointer (some (← newVar t cx)))) (.ref loc st 0) (σ.setObj loc st (.cells x.cells)) := by
  obtain ⟨h1, h2⟩ := cells_rel hx hraw
  have hstep := Step.allocObj h hB hst loc (.cells x.cells) (.cells cx.cells t) cx.cells.size (fun K' e' _ hb' hs' =>
    ⟨fun h0 => by rw [hs', ← h1, h0]; rfl, fun _ => ⟨by rw [hb']; exact hB, _, t, by rw [hb']; exact heap_alloc_new w _, hs'.symm, by rw [h1]; exact Nat.le_refl _, fun i hi => (h2 i hi).ext e'⟩⟩)
  refine ⟨.pointer (some (at_ w.heap.size 0)), _, _, by simp [newVar, newRow], ?_, hstep⟩
  have key : Rel (K.addObj st w.heap.size cx.cells.size loc) (σ.setObj loc st (.cells x.cells)).top (w.alloc (.cells cx.cells t)) (.ref loc st 0) (.pointer (some (at_ ((K.addObj st w.heap.size cx.cells.size loc).blk st) 0))) := .ref loc st 0 (Or.inr rfl)
  have hblk : (K.addObj st w.heap.size cx.cells.size loc).blk st = w.heap.size := upd_same _ _ _
  rw [hblk] at key
  exact key
theorem newMap_sound (h : SOK E B0 σ K w) (hB : B0 ≤ w.heap.size) {st : Nat} (hst : ¬ K.A st) (loc : Loc) (t : TypeId) :
    Done E B0 (· = st) σ K w (Instr.makeMap t none) (.mapr loc st) (σ.setObj loc st (.map [] [])) := by
  have hstep := Step.allocObj h hB hst loc (.map [] []) (.map #[] 0) 0 (fun K' e' _ hb' hs' =>
    ⟨by rw [hb']; exact hB, #[], 0, by rw [hb']; exact heap_alloc_new w _, rfl, rfl, fun i hi => absurd hi (Nat.not_lt_zero i), fun i hi => absurd hi (Nat.not_lt_zero i)⟩)
  refine ⟨.map (some w.heap.size), _, _, by simp [Instr.makeMap], ?_, hstep⟩
  have key : Rel (K.addObj st w.heap.size 0 loc) (σ.setObj loc st (.map [] [])).top (w.alloc (.map #[] 0)) (.mapr loc st) (.map (some ((K.addObj st w.heap.size 0 loc).blk st))) := .mapr loc st (Or.inr rfl)
  have hblk : (K.addObj st w.heap.size 0 loc).blk st = w.heap.size := upd_same _ _ _
  rw [hblk] at key
  exact key
theorem opV_sound (h : SOK E B0 σ K w) (hB : B0 ≤ w.heap.size) {fr : Fr} {a : Act} (hf : FrRel K σ.top w fr a.tmps) {st : Nat} (hst : ¬ K.A st) {o : Oper} {v : V} {σ' : Sig} (hv : opV E fr σ st o = some (v, σ')) :
    DoneN E B0 (· = st) σ K w (execOp a.eval o) v σ' := by
  have ev := fun x => ev_rel h hf x
  unfold opV at hv
  unfold execOp
  split at hv
  · rename_i x hop
    simp only [Option.some.injEq, Prod.mk.injEq] at hv
    obtain ⟨rfl, rfl⟩ := hv
    simp only [hop]
    exact ⟨.value (a.eval x), a.eval x, w, K, rfl, .inl rfl, ev x, .refl h⟩
  · rename_i x hop
    simp only [Option.some.injEq, Prod.mk.injEq] at hv
    obtain ⟨rfl, rfl⟩ := hv
    simp only [hop]
    exact ⟨.value (a.eval x), a.eval x, w, K, rfl, .inl rfl, ev x, .refl h⟩
  · rename_i c x y hop
    simp only [Option.map_eq_some_iff, Prod.mk.injEq] at hv
    obtain ⟨b, hb, rfl, rfl⟩ := hv
    simp only [hop]
    have hc := boolV_rel (ev c) hb
    refine ⟨.value (if b then a.eval x else a.eval y), _, w, K, by simp [asBool, hc], .inl rfl, ?_, .refl h⟩
    cases b
    · exact ev y
    · exact ev x
  · rename_i t hop
    simp only [Option.bind_eq_some_iff] at hv
    obtain ⟨loc, _, z, hz, hv⟩ := hv
    split at hv
    · simp only [Option.some.injEq, Prod.mk.injEq] at hv
      obtain ⟨rfl, rfl⟩ := hv
      simp only [hop]
      obtain ⟨cz, hz1, hz2⟩ := run_zeroValue w hz
      obtain ⟨c, w', K', r1, r2, r3⟩ := newVar_sound h hB hst loc t (hz2 K σ.top) (zeroT_raw hz)
      refine .of_done ⟨c, w', K', ?_, r2, r3⟩
      simp only [Instr.alloc, Sem.run_bind, hz1, Result.andThen_ok]
      exact r1
    · simp at hv
  · rename_i t x hop
    simp only [Option.bind_eq_some_iff] at hv
    obtain ⟨loc, _, hv⟩ := hv
    split at hv
    · rename_i hc
      simp only [Option.some.injEq, Prod.mk.injEq] at hv
      obtain ⟨rfl, rfl⟩ := hv
      simp only [hop]
      exact .of_done (newVar_sound h hB hst loc t (ev x) hc.2)
    · simp at hv
  · rename_i t parts hop
    simp only [Option.bind_eq_some_iff, Option.map_eq_some_iff, Prod.mk.injEq] at hv
    obtain ⟨pl, hpl, z, hz, cs, hcs, rfl, rfl⟩ := hv
    simp only [hop]
    refine .of_pure h (build_sound hpl hz ?_ (zeroT_raw hz) hcs)
    rw [Array.toList_map]
    exact relP_map h hf _
  · rename_i t len parts hop
    simp only [Option.map_eq_some_iff, Prod.mk.injEq] at hv
    obtain ⟨v', hv', rfl, rfl⟩ := hv
    simp only [hop]
    refine .of_done (buildSliceV_sound h hB ?_ hv')
    rw [Array.toList_map]
    exact relP_map h hf _
  · rename_i t x hop
    simp only [hop]
    have hx := ev x
    generalize fr.ev E x = xv at hv hx
    cases xv with
    | ref loc s off =>
      simp only [Option.bind_eq_some_iff, Option.map_eq_some_iff, Prod.mk.injEq] at hv
      obtain ⟨cs, h1, v', h2, rfl, rfl⟩ := hv
      exact .of_pure h (load_sound h hx (by simp [h1, h2]))
    | cref cs off =>
      simp only [Option.map_eq_some_iff, Prod.mk.injEq] at hv
      obtain ⟨v', h2, rfl, rfl⟩ := hv
      exact .of_pure h (load_sound h hx h2)
    | _ => simp at hv
  · rename_i t p x hop
    simp only [hop]
    have hp := ev p
    have hx := ev x
    generalize fr.ev E p = pv at hv hp
    cases pv with
    | ref loc s off =>
      simp only [Option.bind_eq_some_iff] at hv
      obtain ⟨cs, hcs, hv⟩ := hv
      split at hv
      · rename_i hc
        simp only [Option.some.injEq, Prod.mk.injEq] at hv
        obtain ⟨rfl, rfl⟩ := hv
        obtain ⟨w', r1, r2⟩ := store_sound (new := (· = st)) h hB hp hx hcs hc.1 hc.2.1 hc.2.2
        exact .of_unit r1 r2
      · simp at hv
    | _ => simp at hv
  · rename_i x hop
    simp only [hop]
    have hx := ev x
    generalize fr.ev E x = xv at hv hx
    cases xv with
    | ref loc s off =>
      simp only [Option.some.injEq, Prod.mk.injEq] at hv
      obtain ⟨rfl, rfl⟩ := hv
      generalize a.eval x = cx at hx
      cases hx with | ref _ _ _ hA => exact ⟨_, _, w, K, rfl, .inl rfl, .ref loc s off hA, .refl h⟩
    | cref cs off =>
      simp only [Option.some.injEq, Prod.mk.injEq] at hv
      obtain ⟨rfl, rfl⟩ := hv
      generalize a.eval x = cx at hx
      have hx' := hx
      cases hx with | cref _ _ b o val h1 h2 => exact ⟨_, _, w, K, rfl, .inl rfl, hx', .refl h⟩
    | fn f g l =>
      cases f with
      | func f =>
        simp only [Option.some.injEq, Prod.mk.injEq] at hv
        obtain ⟨rfl, rfl⟩ := hv
        generalize a.eval x = cx at hx
        have hx' := hx
        cases hx with | fn _ _ _ av bv h1 h2 h3 h4 => exact ⟨_, _, w, K, rfl, .inl rfl, hx', .refl h⟩
      | _ => simp at hv
    | _ => simp at hv
  · rename_i op t x y _ hop
    simp only [Option.map_eq_some_iff, Prod.mk.injEq] at hv
    obtain ⟨v', hv', rfl, rfl⟩ := hv
    simp only [hop]
    exact .of_pure h (binV_sound w x y (ev x) (ev y) hv')
  · rename_i op t x hop
    simp only [Option.map_eq_some_iff, Prod.mk.injEq] at hv
    obtain ⟨v', hv', rfl, rfl⟩ := hv
    simp only [hop]
    exact .of_pure h (unV_sound w (ev x) hv')
  · rename_i s d x hop
    simp only [Option.map_eq_some_iff, Prod.mk.injEq] at hv
    obtain ⟨v', hv', rfl, rfl⟩ := hv
    simp only [hop]
    exact .of_done (convV_sound h hB (ev x) hv')
  · rename_i t x hop
    simp only [Option.bind_eq_some_iff] at hv
    obtain ⟨⟨n, e⟩, hn, hv⟩ := hv
    have hu := arrT_some hn
    simp only [hop]
    have hx := ev x
    generalize fr.ev E x = xv at hv hx
    generalize a.eval x = cx at hx
    cases xv with
    | vw loc s off len cap esz ag =>
      simp only at hv
      split at hv
      · rename_i hle
        simp only [Option.some.injEq, Prod.mk.injEq] at hv
        obtain ⟨rfl, rfl⟩ := hv
        cases hx with
        | vwNil => omega
        | vw _ _ _ _ _ _ _ capc hA hcc hlc hsz =>
          have : ¬ (len < n) := by omega
          exact .of_pure h ⟨_, by simp [Instr.arrayAt, run_underlying hu, this], .ref loc s off hA⟩
      · simp at hv
    | lst c l =>
      simp only at hv
      split at hv
      · rename_i hc
        obtain ⟨c1, c2, c3⟩ := hc
        simp only [Option.some.injEq, Prod.mk.injEq] at hv
        obtain ⟨rfl, rfl⟩ := hv
        cases hx with
        | lstNil => simp at c2; omega
        | lst _ _ b o m cap val hle hn hcell hrel hcap =>
          have hlt : ¬ (l.length < n) := by omega
          have hone : ∀ i, i < l.length → (l.getD i undefV).cells = [l.getD i undefV] := fun i hi => by
            simp only [oneCells, List.all_eq_true] at c3
            have := c3 _ (List.getElem_mem hi)
            rw [getD_of_lt hi]
            revert this
            cases l[i] <;> simp [oneCell, V.cells]
          have hm : m = 1 := by
            have h0 : 0 < l.length := by omega
            rw [← hn 0 h0, hone 0 h0]; rfl
          subst hm
          refine .of_pure h ⟨.pointer (some (at_ b (o + 0))), by simp [Instr.arrayAt, run_underlying hu, hlt], .cref l 0 b o (fun j => val j 0) (fun j hj => ?_) (fun j hj => ?_)⟩
          · have := hcell j 0 hj (by omega)
            simpa using this
          · have := hrel j 0 hj (by omega)
            rw [hone j hj] at this
            simpa using this
      · simp at hv
    | _ => simp at hv
  · rename_i t x hop
    simp only [hop]
    split at hv
    · simp at hv
    · rename_i d hu hd
      simp only [Option.some.injEq, Prod.mk.injEq] at hv
      obtain ⟨rfl, rfl⟩ := hv
      refine .of_pure h ⟨.iface t (a.eval x), ?_, .iface t _ _ (ev x)⟩
      simp only [Instr.makeInterface, Sem.run_bind, run_underlying hd, Result.andThen_ok]
      rfl
    · simp at hv
  · rename_i f p q hop
    simp only [Option.some.injEq, Prod.mk.injEq] at hv
    obtain ⟨rfl, rfl⟩ := hv
    simp only [hop]
    obtain ⟨h1, h2⟩ := rel_args h hf p
    obtain ⟨h3, h4⟩ := rel_args h hf q
    exact .of_pure h ⟨_, rfl, .fn f _ _ _ _ h1 h3 h2 h4⟩
  · rename_i t hop
    simp only [Option.map_eq_some_iff, Prod.mk.injEq] at hv
    obtain ⟨loc, _, rfl, rfl⟩ := hv
    simp only [hop]
    exact .of_done (newMap_sound h hB hst loc t)
  · rename_i t l c hop
    simp only [hop]
    exact .of_done (makeSliceV_sound h hB hst (ev l) (ev c) hv)
  · rename_i t x lo hi mx hop
    simp only [Option.map_eq_some_iff, Prod.mk.injEq] at hv
    obtain ⟨v', hv', rfl, rfl⟩ := hv
    simp only [hop]
    have opt : ∀ (p : Option Operand) v, optEv E fr p = some v → ∃ c, p.map a.eval = some c ∧ Rel K σ.top w v c := by
      intro p v hp
      cases p with
      | none => simp [optEv] at hp
      | some p =>
        simp only [optEv, Option.some.injEq] at hp; subst hp
        exact ⟨_, rfl, ev p⟩
    have optn : ∀ (p : Option Operand), optEv E fr p = none → p.map a.eval = none := by
      intro p hp
      cases p with
      | none => rfl
      | some p => simp [optEv] at hp
    exact .of_pure h (sliceV_sound w rfl h (ev x) (opt lo) (optn lo) (opt hi) (optn hi) (opt mx) (optn mx) hv')
  · rename_i t x f hop
    simp only [Option.bind_eq_some_iff] at hv
    obtain ⟨⟨o', u⟩, hfi, hv⟩ := hv
    simp only [hop]
    have hx := ev x
    generalize fr.ev E x = xv at hv hx
    cases xv with
    | ref loc s off =>
      simp only [Option.some.injEq, Prod.mk.injEq] at hv
      obtain ⟨rfl, rfl⟩ := hv
      exact .of_pure h (fieldAddr_sound hx hfi rfl)
    | cref cs off =>
      simp only [Option.some.injEq, Prod.mk.injEq] at hv
      obtain ⟨rfl, rfl⟩ := hv
      exact .of_pure h (fieldAddr_sound hx hfi rfl)
    | _ => simp at hv
  · rename_i t x f hop
    simp only [Option.bind_eq_some_iff] at hv
    obtain ⟨⟨o', u⟩, hfi, hv⟩ := hv
    simp only [hop]
    have hx := ev x
    generalize fr.ev E x = xv at hv hx
    generalize a.eval x = cx at hx
    cases xv with
    | agg cs =>
      simp only [Option.map_eq_some_iff, Prod.mk.injEq] at hv
      obtain ⟨v', hv', rfl, rfl⟩ := hv
      cases hx with | agg _ vs hl hr =>
      obtain ⟨fs, g, n, hu, hg, rfl, rfl, hn⟩ := fieldT_some hfi
      obtain ⟨c, r1, r2⟩ := part_sound (P := E.P) (w := w) hl hr hv'
      exact .of_pure h ⟨c, by simp [Instr.field, run_underlying hu, hg, asAgg, r1], r2⟩
    | _ => simp at hv
  · rename_i t x i hop
    simp only [Option.map_eq_some_iff, Prod.mk.injEq] at hv
    obtain ⟨v', hv', rfl, rfl⟩ := hv
    simp only [hop]
    exact .of_pure h (indexAddrV_sound (ev x) (ev i) hv')
  · rename_i t x i hop
    simp only [Option.map_eq_some_iff, Prod.mk.injEq] at hv
    obtain ⟨v', hv', rfl, rfl⟩ := hv
    simp only [hop]
    exact .of_pure h (indexV_sound (ev x) (ev i) hv')
  · rename_i t x i ok hop
    simp only [Option.map_eq_some_iff, Prod.mk.injEq] at hv
    obtain ⟨v', hv', rfl, rfl⟩ := hv
    simp only [hop]
    exact .of_pure h (lookupV_sound h (ev x) (ev i) hv')
  · rename_i t m k x hop
    simp only [Option.map_eq_some_iff, Prod.mk.injEq] at hv
    obtain ⟨σ1, hv', rfl, rfl⟩ := hv
    simp only [hop]
    obtain ⟨w', r1, r2, _⟩ := updateV_sound (new := (· = st)) h hB (ev m) (ev k) (ev x) hv'
    exact .of_unit r1 r2
  · rename_i t m k x hop
    simp only [Option.map_eq_some_iff, Prod.mk.injEq] at hv
    obtain ⟨σ1, hv', rfl, rfl⟩ := hv
    simp only [hop]
    obtain ⟨w', r1, r2, _⟩ := updateV_sound (new := (· = st)) h hB (ev m) (ev k) (ev x) hv'
    exact .of_unit r1 r2
  · rename_i x i hop
    simp only [hop]
    have hx := ev x
    generalize fr.ev E x = xv at hv hx
    generalize a.eval x = cx at hx
    cases xv with
    | tup vs =>
      simp only [Option.map_eq_some_iff, Prod.mk.injEq] at hv
      obtain ⟨v', hv', rfl, rfl⟩ := hv
      cases hx with | tup _ cvs hl hr =>
      have hi : i < vs.length := (List.getElem?_eq_some_iff.1 hv').1
      have hi' : i < cvs.size := by omega
      refine .of_pure h ⟨cvs[i], by simp [Instr.extract, hi'], ?_⟩
      have := hr i hi
      rw [getD_of_lt hi, agetD_of_lt hi'] at this
      have e : vs[i] = v' := (List.getElem?_eq_some_iff.1 hv').2
      rw [← e]; exact this
    | _ => simp at hv
  · simp at hv
end
end Aq
end
section
namespace Aq
open Go Go.RowKit
section
variable {E : Env} {B0 : Nat} {σ : Sig} {K : Con} {w : World} {new : Nat → Prop} {T : Nat → Nat}
/-- Arguments, one by one. -/
def RelA (K : Con) (T : Nat → Nat) (w : World) (l : List V) (cl : Array Value) : Prop := l.length = cl.size ∧ ∀ i, i < l.length → Rel K T w (l.getD i undefV) (cl.getD i undef)
theorem relA_one {x : V} {cl : Array Value} (h : RelA K T w [x] cl) : ∃ c, cl = #[c] ∧ Rel K T w x c := by
  obtain ⟨h1, h2⟩ := h
  have hs : cl.size = 1 := by simpa using h1.symm
  refine ⟨cl[0], ?_, ?_⟩
  · apply Array.ext
    · simpa using hs
    · intro i h1 h2
      obtain rfl : i = 0 := by omega
      rfl
  · have := h2 0 (by simp)
    rwa [agetD_of_lt (by omega)] at this
theorem relA_two {x y : V} {cl : Array Value} (h : RelA K T w [x, y] cl) : ∃ c d, cl = #[c, d] ∧ Rel K T w x c ∧ Rel K T w y d := by
  obtain ⟨h1, h2⟩ := h
  have hs : cl.size = 2 := by simpa using h1.symm
  refine ⟨cl[0], cl[1], ?_, ?_, ?_⟩
  · apply Array.ext
    · simpa using hs
    · intro i h1 h2
      have : i = 0 ∨ i = 1 := by omega
      rcases this with rfl | rfl <;> rfl
  · have := h2 0 (by simp)
    rwa [agetD_of_lt (by omega)] at this
  · have := h2 1 (by simp)
    rwa [agetD_of_lt (by omega)] at this
theorem relA_cons {x : V} {l : List V} {cl : Array Value} (h : RelA K T w (x :: l) cl) : ∃ c cs, cl.toList = c :: cs ∧ Rel K T w x c ∧ l.length = cs.length ∧ ∀ i, i < l.length → Rel K T w (l.getD i undefV) (cs.getD i undef) := by
  obtain ⟨h1, h2⟩ := h
  cases hc : cl.toList with
  | nil =>
    have : cl.size = 0 := by rw [← Array.length_toList, hc]; rfl
    simp [this] at h1
  | cons c cs =>
    have hg : ∀ i, cl.getD i undef = (c :: cs).getD i undef := fun i => by rw [← hc, toList_getD]
    have hl : cl.size = cs.length + 1 := by rw [← Array.length_toList, hc]; rfl
    refine ⟨c, cs, rfl, ?_, by simp at h1; omega, fun i hi => ?_⟩
    · have := h2 0 (by simp)
      rw [hg] at this
      simpa using this
    · have := h2 (i + 1) (by simp; omega)
      rw [hg] at this
      simpa using this
theorem builtinV_sound (h : SOK E B0 σ K w) (hB : B0 ≤ w.heap.size) {om : Bool} {loc : Option Loc} {st : Nat} (hst : ¬ K.A st) {b : Builtin} {tys : Array TypeId} {ty : TypeId} {consts : Array Bool} {args : List V} {cargs : Array Value} {v : V} {σ' : Sig}
    (hr : RelA K σ.top w args cargs) (hv : builtinV E om loc σ st b tys args = some (v, σ')) : DoneN E B0 (· = st) σ K w (builtin b tys ty consts cargs) v σ' := by
  unfold builtinV at hv
  split at hv
  · rename_i x
    simp only [Option.bind_eq_some_iff, Option.map_eq_some_iff, Prod.mk.injEq] at hv
    obtain ⟨t, ht, n, hn, rfl, rfl⟩ := hv
    obtain ⟨c, rfl, hx⟩ := relA_one hr
    exact .of_pure h ⟨_, lenB_sound h ht hx hn, .int .i64 n⟩
  · rename_i x
    simp only [Option.bind_eq_some_iff] at hv
    obtain ⟨t, ht, e, he, hv⟩ := hv
    obtain ⟨c, rfl, hx⟩ := relA_one hr
    obtain ⟨rfl, r⟩ := capB_sound (ty := ty) ht (elemT_some he) hv hx
    exact .of_pure h r
  · rename_i x y
    simp only [Option.bind_eq_some_iff] at hv
    obtain ⟨t, ht, u, ⟨tx, htx, hu⟩, hv⟩ := hv
    obtain ⟨c, d, rfl, hx, hy⟩ := relA_two hr
    have he : Builtin.append_ tys ty #[c, d] = Builtin.append_ #[t, tx] ty #[c, d] := by simp [Builtin.append_, ht, htx]
    show DoneN E B0 _ σ K w (do pure (.value (← Builtin.append_ tys ty #[c, d]))) v σ'
    rw [he]
    split at hv
    · rename_i k
      exact .of_done (appendV_sound h hB hst hx hy (fun _ => ⟨k, hu⟩) (fun hf => by cases hf) hv)
    · rename_i e
      exact .of_done (appendV_sound h hB hst hx hy (fun hf => by cases hf) (fun _ => .inl ⟨e, hu⟩) hv)
    · exact .of_done (appendV_sound h hB hst hx hy (fun hf => by cases hf) (fun _ => .inr hu) hv)
    · simp at hv
  · rename_i x y
    simp only [Option.bind_eq_some_iff] at hv
    obtain ⟨t, ht, hv⟩ := hv
    obtain ⟨c, d, rfl, hx, hy⟩ := relA_two hr
    have he : Builtin.copy_ tys ty #[c, d] = Builtin.copy_ #[t, t] ty #[c, d] := by simp [Builtin.copy_, ht]
    show DoneN E B0 _ σ K w (do pure (.value (← Builtin.copy_ tys ty #[c, d]))) v σ'
    rw [he]
    exact .of_done (copyV_sound h hB hx hy hv)
  · rename_i x l
    simp only [Option.map_eq_some_iff, Prod.mk.injEq] at hv
    obtain ⟨v', hv', rfl, rfl⟩ := hv
    obtain ⟨c, cs, hc, hx, hl, hrel⟩ := relA_cons hr
    obtain ⟨c', r1, r2⟩ := minV_sound l cs x v' c hl hrel hx hv'
    have he : Builtin.min_ tys ty cargs = cs.foldlM Builtin.min2 c := by unfold Builtin.min_; rw [hc]
    exact .of_pure (s := Builtin.min_ tys ty cargs) h ⟨c', by rw [he]; exact r1, r2⟩
  · rename_i x l
    simp only [Option.map_eq_some_iff, Prod.mk.injEq] at hv
    obtain ⟨v', hv', rfl, rfl⟩ := hv
    obtain ⟨c, cs, hc, hx, hl, hrel⟩ := relA_cons hr
    obtain ⟨c', r1, r2⟩ := maxV_sound l cs x v' c hl hrel hx hv'
    have he : Builtin.max_ tys ty cargs = cs.foldlM Builtin.max2 c := by unfold Builtin.max_; rw [hc]
    exact .of_pure (s := Builtin.max_ tys ty cargs) h ⟨c', by rw [he]; exact r1, r2⟩
  · simp at hv
end
end Aq
end
section
namespace Aq
open Go Go.RowKit
/-- All functions, any depth; a round's frame or none. -/
def FW (ro : Option Nat) : Fence := { Fence.wide with round := ro }
/-- The deferred calls that were there, and the blocks from which on marks are this function's own. -/
structure Dfr where
  l : List Deferred
  B : Nat
  nm : Bool
def mark (b : Nat) : Deferred := ⟨.collected b, #[]⟩
/-- A state of the interpreter within a function, and the machine's. -/
structure St (E : Env) (B0 : Nat) (σ : Sig) (K : Con) (w : World) (fr : Fr) (a : Act) (n : Nat) (ds : Dfr) : Prop where
  ok : SOK E B0 σ K w
  hB : B0 ≤ w.heap.size
  fr : FrRel K σ.top w fr a.tmps
  sz : a.tmps.size = n
  df : ∃ bs : List Nat, a.defers = bs.map mark ++ ds.l ∧ bs.Nodup ∧ (∀ b ∈ bs, K.D b ∧ ds.B ≤ b) ∧ (ds.nm = true → bs = [])
  st : ∀ s, K.A s → s < σ.next
  hD : ds.B ≤ w.heap.size
def exRel : Ex → Exit → Prop
  | .normal, .normal => True
  | .exit i, .exit j => i = j
  | .ret, .ret => True
  | _, _ => False
/-- The stamps between two states. -/
def newer (σ σ' : Sig) (s : Nat) : Prop := σ.next ≤ s ∧ s < σ'.next
def CodePost (E : Env) (B0 n : Nat) (ds : Dfr) (σ : Sig) (K : Con) (w : World) (e : Ex) (fr' : Fr) (σ' : Sig) : Exit → Act → World → Prop :=
  fun x a' w' => exRel e x ∧ ∃ K', St E B0 σ' K' w' fr' a' n ds ∧ Step E B0 (newer σ σ') σ K w σ' K' w'
def CodeSound1 (E : Env) (code : Code → Fr → Sig → Option (Ex × Fr × Sig)) : Prop :=
  ∀ c fr σ e fr' σ', code c fr σ = some (e, fr', σ') → σ.next ≤ σ'.next ∧ ∀ ro B0 K w a n ds, St E B0 σ K w fr a n ds → codeOK n c = true → (ro = none ∧ ds.nm = false ∨ noRange c = true) → c.wpIn (FW ro) 0 E.P (CodePost E B0 n ds σ K w e fr' σ') a w
def CallPost (E : Env) (B0 : Nat) (σ : Sig) (K : Con) (w : World) (v : V) (σ' : Sig) : Ending → World → Prop
  | .returned c, w' => ∃ K', Rel K' σ'.top w' v c ∧ SOK E B0 σ' K' w' ∧ (∀ s, K'.A s → s < σ'.next) ∧ Step E B0 (newer σ σ') σ K w σ' K' w'
  | _, _ => False
def HasBody (E : Env) (f : FuncId) : Prop := ∃ fn c, E.P.funcs[f]? = some fn ∧ fn.body = some c
def CallSound1 (E : Env) (call : FuncId → List V → Nat → Sig → Option (V × Sig)) : Prop :=
  ∀ f args d σ v σ', call f args d σ = some (v, σ') → σ.next ≤ σ'.next ∧ HasBody E f ∧ ∀ ro B0 K w cargs, SOK E B0 σ K w → B0 ≤ w.heap.size → (∀ s, K.A s → s < σ.next) → RelA K σ.top w args cargs →
    CallsIn (FW ro) 0 E.P f cargs w (CallPost E B0 σ K w v σ')
structure Sound (E : Env) (S : Evl) : Prop where
  code : CodeSound1 E S.code
  call : CallSound1 E S.call
theorem Step.widen {E : Env} {B0 : Nat} {σ σ1 σ2 : Sig} {K K1 K2 : Con} {w w1 w2 : World} (h : Step E B0 (newer σ σ1) σ K w σ1 K1 w1) (g : Step E B0 (newer σ1 σ2) σ1 K1 w1 σ2 K2 w2)
    (h1 : σ.next ≤ σ1.next) (h2 : σ1.next ≤ σ2.next) : Step E B0 (newer σ σ2) σ K w σ2 K2 w2 :=
  (h.mono (fun _ hs => ⟨hs.1, Nat.lt_of_lt_of_le hs.2 h2⟩)).trans (g.mono (fun _ hs => ⟨Nat.le_trans h1 hs.1, hs.2⟩))
end Aq
end
section
namespace Aq
open Go Go.RowKit
section
variable {E : Env} {B0 : Nat} {σ : Sig} {K : Con} {w : World} {fr : Fr} {a : Act} {n : Nat} {ds : Dfr}
/-- What one code owes. -/
def CodeOwes (E : Env) (c : Code) (fr : Fr) (σ : Sig) (e : Ex) (fr' : Fr) (σ' : Sig) : Prop :=
  σ.next ≤ σ'.next ∧ ∀ ro B0 K w a n ds, St E B0 σ K w fr a n ds → codeOK n c = true → (ro = none ∧ ds.nm = false ∨ noRange c = true) → c.wpIn (FW ro) 0 E.P (CodePost E B0 n ds σ K w e fr' σ') a w
theorem owes_skip : CodeOwes E .skip fr σ .normal fr σ :=
  ⟨Nat.le_refl _, fun _ _ K _ _ _ _ h _ _ => wpIn_skip ⟨trivial, K, h, .refl h.ok⟩⟩
theorem owes_exit (id : Nat) : CodeOwes E (.exit id) fr σ (.exit id) fr σ :=
  ⟨Nat.le_refl _, fun _ _ K _ _ _ _ h _ _ => wpIn_exit ⟨rfl, K, h, .refl h.ok⟩⟩
theorem owes_ret : CodeOwes E .ret fr σ .ret fr σ :=
  ⟨Nat.le_refl _, fun _ _ K _ _ _ _ h _ _ => wpIn_ret ⟨trivial, K, h, .refl h.ok⟩⟩
theorem CodePost.widen {σ1 σ2 : Sig} {K1 : Con} {w1 : World} {e : Ex} {fr' : Fr} (h : Step E B0 (newer σ σ1) σ K w σ1 K1 w1) (h1 : σ.next ≤ σ1.next) (h2 : σ1.next ≤ σ2.next) :
    ∀ x a' w', CodePost E B0 n ds σ1 K1 w1 e fr' σ2 x a' w' → CodePost E B0 n ds σ K w e fr' σ2 x a' w' := by
  rintro x a' w' ⟨g1, K2, g2, g3⟩
  exact ⟨g1, K2, g2, h.widen g3 h1 h2⟩
theorem owes_seq {c d : Code} {e : Ex} {fr1 fr2 : Fr} {σ1 σ2 : Sig} (h : CodeOwes E c fr σ .normal fr1 σ1) (g : CodeOwes E d fr1 σ1 e fr2 σ2) : CodeOwes E (.seq c d) fr σ e fr2 σ2 := by
  refine ⟨Nat.le_trans h.1 g.1, fun ro B0 K w a n ds hs hok hnr => ?_⟩
  simp only [codeOK, Bool.and_eq_true] at hok
  simp only [noRange, Bool.and_eq_true] at hnr
  refine wpIn_seq (wpIn_mono (h.2 ro B0 K w a n ds hs hok.1 (hnr.imp id And.left)) ?_)
  rintro x a1 w1 ⟨hx, K1, s1, st1⟩
  cases x <;> simp only [exRel] at hx
  exact wpIn_mono (g.2 ro B0 K1 w1 a1 n ds s1 hok.2 (hnr.imp id And.right)) (CodePost.widen st1 h.1 g.1)
theorem owes_seq_out {c d : Code} {e : Ex} {fr1 : Fr} {σ1 : Sig} (he : e ≠ .normal) (h : CodeOwes E c fr σ e fr1 σ1) : CodeOwes E (.seq c d) fr σ e fr1 σ1 := by
  refine ⟨h.1, fun ro B0 K w a n ds hs hok hnr => ?_⟩
  simp only [codeOK, Bool.and_eq_true] at hok
  simp only [noRange, Bool.and_eq_true] at hnr
  refine wpIn_seq (wpIn_mono (h.2 ro B0 K w a n ds hs hok.1 (hnr.imp id And.left)) ?_)
  rintro x a1 w1 ⟨hx, K1, s1, st1⟩
  cases e <;> cases x <;> simp only [exRel] at hx
  · exact absurd rfl he
  · exact ⟨hx, K1, s1, st1⟩
  · exact ⟨hx, K1, s1, st1⟩
theorem owes_cond {c : Operand} {x y : Code} {t : Bool} {e : Ex} {fr1 : Fr} {σ1 : Sig} (hc : boolV (fr.ev E c) = some t) (h : CodeOwes E (if t then x else y) fr σ e fr1 σ1) : CodeOwes E (.cond c x y) fr σ e fr1 σ1 := by
  refine ⟨h.1, fun ro B0 K w a n ds hs hok hnr => ?_⟩
  simp only [codeOK, Bool.and_eq_true] at hok
  simp only [noRange, Bool.and_eq_true] at hnr
  refine wpIn_cond (boolV_rel (ev_rel hs.ok hs.fr c) hc) (h.2 ro B0 K w a n ds hs ?_ ?_)
  · cases t
    · exact hok.2
    · exact hok.1
  · cases t
    · exact hnr.imp id And.right
    · exact hnr.imp id And.left
def outOf (id : Nat) : Ex → Ex
  | .exit i => if i = id then .normal else .exit i
  | e => e
theorem owes_block {id : Nat} {c : Code} {e : Ex} {fr1 : Fr} {σ1 : Sig} (h : CodeOwes E c fr σ e fr1 σ1) : CodeOwes E (.block id c) fr σ (outOf id e) fr1 σ1 := by
  refine ⟨h.1, fun ro B0 K w a n ds hs hok hnr => wpIn_block (wpIn_mono (h.2 ro B0 K w a n ds hs hok hnr) ?_)⟩
  rintro x a1 w1 ⟨hx, K1, s1, st1⟩
  cases e with
  | normal => cases x <;> simp only [exRel] at hx; exact ⟨trivial, K1, s1, st1⟩
  | ret => cases x <;> simp only [exRel] at hx; exact ⟨trivial, K1, s1, st1⟩
  | exit i =>
    cases x <;> simp only [exRel] at hx
    subst hx
    simp only [Exit.inBlock, outOf]
    split
    · exact ⟨trivial, K1, s1, st1⟩
    · exact ⟨rfl, K1, s1, st1⟩
end
end Aq
end
section
namespace Aq
open Go Go.RowKit
section
variable {E : Env} {B0 : Nat} {σ σ' : Sig} {K K' : Con} {w w' : World} {fr : Fr} {a : Act} {n : Nat} {ds : Dfr}
theorem FrRel.put {T : Nat → Nat} (h : FrRel K T w fr a.tmps) {d : Option Nat} {v : V} {c : Value} (hr : Rel K T w v c) (hd : ∀ i, d = some i → i < a.tmps.size) : FrRel K T w (fr.put d v) (a.put d c).tmps := by
  cases d with
  | none => exact h
  | some i =>
    have hi := hd i rfl
    intro t
    show Rel K T w (upd fr.tm i v t) ((a.tmps.setIfInBounds i c).getD t undef)
    by_cases ht : t = i
    · subst ht
      rw [upd_same]
      have : (a.tmps.setIfInBounds t c).getD t undef = c := by simp [Array.getD, hi]
      rw [this]; exact hr
    · rw [upd_ne _ _ ht]
      have : (a.tmps.setIfInBounds i c).getD t undef = a.tmps.getD t undef := by
        simp only [Array.getD, Array.size_setIfInBounds]
        split
        · rename_i hlt
          show (a.tmps.setIfInBounds i c)[t]'(by simpa using hlt) = a.tmps[t]
          rw [Array.getElem_setIfInBounds_ne hlt (Ne.symm ht)]
        · rfl
      rw [this]; exact h t
theorem put_size (a : Act) (d : Option Nat) (c : Value) : (a.put d c).tmps.size = a.tmps.size := by cases d <;> simp [Act.put]
theorem put_defers (a : Act) (d : Option Nat) (c : Value) : (a.put d c).defers = a.defers := by cases d <;> rfl
/-- A state after an operation. -/
theorem St.put (h : St E B0 σ K w fr a n ds) {new : Nat → Prop} {d : Option Nat} {v : V} {c : Value} (hs : Step E B0 new σ K w σ' K' w') (hr : Rel K' σ'.top w' v c) (hd : ∀ i, d = some i → i < n) (hst : ∀ s, K'.A s → s < σ'.next) :
    St E B0 σ' K' w' (fr.put d v) (a.put d c) n ds :=
  ⟨hs.ok, Nat.le_trans h.hB hs.below.size, FrRel.put (h.fr.ext hs.ext) hr (fun i hi => by rw [h.sz]; exact hd i hi), by rw [put_size]; exact h.sz, by obtain ⟨bs, h1, h2, h3, h4⟩ := h.df; exact ⟨bs, by rw [put_defers]; exact h1, h2, fun b hb => ⟨hs.D b (h3 b hb).1, (h3 b hb).2⟩, h4⟩, hst, Nat.le_trans h.hD hs.below.size⟩
theorem semAt_of {o : Oper} (ro : Option Nat) (ρ : Operand → Value) (h : ∀ c, o.op ≠ .defer c) : o.semAt ro ρ = execOp ρ o := by
  unfold Oper.semAt
  split
  · rename_i c hc
    exact absurd hc (h c)
  · rfl
/-- An operation that hands back a value, in the machine. -/
theorem wpIn_done {o : Oper} {ro : Option Nat} {new : Nat → Prop} {v : V} {next : Act → World → Prop} {Q : Exit → Act → World → Prop} (ho : ∀ c, o.op ≠ .defer c) (hd : DoneN E B0 new σ K w (execOp a.eval o) v σ')
    (hn : ∀ c w' K', Rel K' σ'.top w' v c → Step E B0 new σ K w σ' K' w' → next (a.put o.dst c) w') : o.wpIn (FW ro) 0 E.P a w next Q := by
  refine ⟨fun f _ => trivial, ?_⟩
  obtain ⟨nx, c, w', K', h1, h2, h3, h4⟩ := hd
  rw [semAt_of _ _ ho, h1]
  rcases h2 with rfl | ⟨rfl, rfl⟩
  · exact hn c w' K' h3 h4
  · exact hn undef w' K' h3 h4
end
end Aq
end
section
namespace Aq
open Go Go.RowKit
/-- The same but for objects and tops. -/
def SameN (σ σ' : Sig) : Prop := σ'.next = σ.next ∧ σ'.loops = σ.loops
theorem SameN.refl (σ : Sig) : SameN σ σ := ⟨rfl, rfl⟩
section
variable {E : Env} {σ σ' : Sig} {fr : Fr}
theorem updateV_same {t : TypeId} {m k v : V} (h : updateV E.P σ t m k v = some σ') : SameN σ σ' := by
  simp only [updateV, Option.bind_eq_some_iff] at h
  obtain ⟨⟨kt, et⟩, _, h⟩ := h
  split at h
  · cases m <;> simp only [reduceCtorEq] at h
    simp only [Option.bind_eq_some_iff, Option.map_eq_some_iff] at h
    obtain ⟨_, _, _, _, rfl⟩ := h
    exact ⟨rfl, rfl⟩
  · simp at h
theorem makeSliceV_same {om : Bool} {st : Nat} {loc : Option Loc} {t : TypeId} {l c v : V} (h : makeSliceV E.P om σ st loc t l c = some (v, σ')) : SameN σ σ' := by
  simp only [makeSliceV, Option.bind_eq_some_iff] at h
  obtain ⟨_, _, _, _, _, _, _, _, _, _, _, _, h⟩ := h
  split at h
  · split at h
    · simp only [Option.some.injEq, Prod.mk.injEq] at h
      obtain ⟨_, rfl⟩ := h
      exact ⟨rfl, rfl⟩
    · simp only [Option.bind_eq_some_iff, Option.map_eq_some_iff, Prod.mk.injEq] at h
      obtain ⟨_, _, _, _, _, rfl⟩ := h
      exact ⟨rfl, rfl⟩
  · simp at h
theorem copyV_same {t : TypeId} {x y v : V} (h : copyV E.P σ t x y = some (v, σ')) : SameN σ σ' := by
  simp only [copyV, Option.bind_eq_some_iff] at h
  obtain ⟨_, _, _, _, _, _, h⟩ := h
  split at h
  · simp only [Option.bind_eq_some_iff] at h
    obtain ⟨_, _, h⟩ := h
    split at h
    · split at h
      · simp only [Option.bind_eq_some_iff] at h
        obtain ⟨_, _, h⟩ := h
        split at h
        · simp only [Option.some.injEq, Prod.mk.injEq] at h
          obtain ⟨_, rfl⟩ := h
          exact ⟨rfl, rfl⟩
        · simp at h
      · simp only [Option.some.injEq, Prod.mk.injEq] at h
        obtain ⟨_, rfl⟩ := h
        exact ⟨rfl, rfl⟩
      · simp at h
    · simp at h
  · simp at h
theorem appendV_same {om zeros : Bool} {st : Nat} {loc : Option Loc} {t : TypeId} {x y v : V} (h : appendV E.P om zeros σ st loc t x y = some (v, σ')) : SameN σ σ' := by
  simp only [appendV, Option.bind_eq_some_iff] at h
  obtain ⟨_, _, _, _, _, _, _, _, _, _, h⟩ := h
  split at h
  · simp only [Option.bind_eq_some_iff] at h
    obtain ⟨_, _, h⟩ := h
    split at h
    · split at h
      · split at h
        · split at h
          all_goals first
            | (simp only [Option.map_eq_some_iff, Prod.mk.injEq] at h; obtain ⟨_, _, _, rfl⟩ := h; exact ⟨rfl, rfl⟩)
            | (simp only [Option.some.injEq, Prod.mk.injEq] at h; obtain ⟨_, rfl⟩ := h; exact ⟨rfl, rfl⟩)
            | (split at h
               · simp at h
               · simp only [Option.map_eq_some_iff, Prod.mk.injEq] at h; obtain ⟨_, _, _, rfl⟩ := h; exact ⟨rfl, rfl⟩)
            | (split at h
               · simp only [Option.some.injEq, Prod.mk.injEq] at h; obtain ⟨_, rfl⟩ := h; exact ⟨rfl, rfl⟩
               · simp only [Option.map_eq_some_iff, Prod.mk.injEq] at h; obtain ⟨_, _, _, rfl⟩ := h; exact ⟨rfl, rfl⟩)
            | (split at h
               · simp only [Option.some.injEq, Prod.mk.injEq] at h; obtain ⟨_, rfl⟩ := h; exact ⟨rfl, rfl⟩
               · simp at h)
            | simp at h
        · simp at h
      · split at h
        · simp only [Option.bind_eq_some_iff] at h
          obtain ⟨_, _, _, _, h⟩ := h
          split at h
          · split at h
            · simp only [Option.some.injEq, Prod.mk.injEq] at h; obtain ⟨_, rfl⟩ := h; exact ⟨rfl, rfl⟩
            · simp at h
          · split at h
            · simp only [Option.some.injEq, Prod.mk.injEq] at h; obtain ⟨_, rfl⟩ := h; exact ⟨rfl, rfl⟩
            · simp at h
        · simp at h
      · simp at h
    · simp at h
  · simp at h
theorem builtinV_same {om : Bool} {st : Nat} {loc : Option Loc} {b : Builtin} {tys : Array TypeId} {args : List V} {v : V} (h : builtinV E om loc σ st b tys args = some (v, σ')) : SameN σ σ' := by
  unfold builtinV at h
  split at h
  · simp only [Option.bind_eq_some_iff, Option.map_eq_some_iff, Prod.mk.injEq] at h
    obtain ⟨_, _, _, _, _, rfl⟩ := h; exact .refl _
  · simp only [Option.bind_eq_some_iff] at h
    obtain ⟨_, _, _, _, h⟩ := h
    split at h
    · simp only [Option.some.injEq, Prod.mk.injEq] at h; obtain ⟨_, rfl⟩ := h; exact .refl _
    · simp only [Option.some.injEq, Prod.mk.injEq] at h; obtain ⟨_, rfl⟩ := h; exact .refl _
    · simp at h
  · simp only [Option.bind_eq_some_iff] at h
    obtain ⟨_, _, _, _, h⟩ := h
    split at h
    · exact appendV_same h
    · exact appendV_same h
    · exact appendV_same h
    · simp at h
  · simp only [Option.bind_eq_some_iff] at h
    obtain ⟨_, _, h⟩ := h
    exact copyV_same h
  · simp only [Option.map_eq_some_iff, Prod.mk.injEq] at h
    obtain ⟨_, _, _, rfl⟩ := h; exact .refl _
  · simp only [Option.map_eq_some_iff, Prod.mk.injEq] at h
    obtain ⟨_, _, _, rfl⟩ := h; exact .refl _
  · simp at h
theorem opV_same {st : Nat} {o : Oper} {v : V} (h : opV E fr σ st o = some (v, σ')) : SameN σ σ' := by
  unfold opV at h
  split at h
  all_goals first
    | exact makeSliceV_same h
    | (simp only [Option.some.injEq, Prod.mk.injEq] at h; obtain ⟨_, rfl⟩ := h; exact .refl _)
    | (simp only [Option.map_eq_some_iff, Prod.mk.injEq] at h; obtain ⟨_, _, _, rfl⟩ := h; exact ⟨rfl, rfl⟩)
    | (simp only [Option.map_eq_some_iff, Prod.mk.injEq] at h; obtain ⟨_, h1, _, rfl⟩ := h; exact updateV_same h1)
    | (simp only [Option.bind_eq_some_iff, Option.map_eq_some_iff, Prod.mk.injEq] at h; obtain ⟨_, _, _, _, _, _, _, rfl⟩ := h; exact ⟨rfl, rfl⟩)
    | simp at h
    | (simp only [Option.bind_eq_some_iff] at h
       obtain ⟨_, _, h⟩ := h
       split at h
       · simp only [Option.some.injEq, Prod.mk.injEq] at h; obtain ⟨_, rfl⟩ := h; exact ⟨rfl, rfl⟩
       · simp at h)
    | skip
  all_goals
    repeat' first
      | exact ⟨rfl, rfl⟩
      | (obtain ⟨_, _, h⟩ := h)
      | (simp only [Option.bind_eq_some_iff] at h)
      | split at h
      | (simp only [Option.some.injEq, Prod.mk.injEq] at h; obtain ⟨_, rfl⟩ := h; exact ⟨rfl, rfl⟩)
      | (simp only [Option.map_eq_some_iff, Prod.mk.injEq] at h; obtain ⟨_, _, _, rfl⟩ := h; exact ⟨rfl, rfl⟩)
      | (simp at h; done)
end
end Aq
end
section
namespace Aq
open Go Go.RowKit
/-- Nothing but cells and maps that stay as they are. -/
def Con.lend (I : Nat → Nat → Prop) (IM : Nat → Prop) : Con :=
  { A := fun _ => False, blk := fun _ => 0, sz := fun _ => 0, ob := fun _ => 0, lo := fun _ => 0, hi := fun _ => 0, lp := fun _ => 0, I := I, IM := IM, D := fun _ => False, ρ := fun _ => none }
def grow (I : Nat → Nat → Prop) (B : Nat) (w : World) (b o : Nat) : Prop := (I b o ∨ B ≤ b) ∧ ∃ v, w.cell? (at_ b o) = some v
def growM (IM : Nat → Prop) (B : Nat) (w : World) (b : Nat) : Prop := (IM b ∨ B ≤ b) ∧ ∃ es clk, w.heap[b]? = some (.map es clk)
theorem pcleanL_all : ∀ {l : List V}, pcleanL l = true → ∀ i, i < l.length → pclean (l.getD i undefV) = true
  | v :: l, h, 0, _ => by simp only [pcleanL, Bool.and_eq_true] at h; exact h.1
  | v :: l, h, i + 1, hi => by simp only [pcleanL, Bool.and_eq_true] at h; exact pcleanL_all h.2 i (by simpa using hi)
theorem flatL_all : ∀ {l : List V}, flatL l = true → ∀ i, i < l.length → flat (l.getD i undefV) = true
  | v :: l, h, 0, _ => by simp only [flatL, Bool.and_eq_true] at h; exact h.1
  | v :: l, h, i + 1, hi => by simp only [flatL, Bool.and_eq_true] at h; exact flatL_all h.2 i (by simpa using hi)
theorem pclean_cells {v : V} (h : pclean v = true) {j : Nat} (hj : j < v.cells.length) : pclean (v.cells.getD j undefV) = true := by
  cases v with
  | agg cs => exact pcleanL_all (l := cs) (by simpa [pclean] using h) j hj
  | _ =>
    have : j = 0 := by simpa [V.cells] using hj
    subst this; exact h
section
variable {K K' : Con} {T T' : Nat → Nat} {w w' : World}
theorem Rel.pure {v : V} {c : Value} (h : Rel K T w v c) (hp : pclean v = true) (hI : ∀ b o, K.I b o → K'.I b o ∧ w'.cell? (at_ b o) = w.cell? (at_ b o))
    (hM : ∀ b, K.IM b → K'.IM b ∧ w'.heap[b]? = w.heap[b]?) : Rel K' T' w' v c := by
  induction h with
  | int k n => exact .int k n
  | bool b => exact .bool b
  | str s b h => exact .str s b h
  | nilp => exact .nilp
  | nilf => exact .nilf
  | nilm => exact .nilm
  | nili => exact .nili
  | agg cs vs hl _ ih => exact .agg cs vs hl (fun i hi => ih i hi (pcleanL_all (by simpa [pclean] using hp) i hi))
  | tup cs vs hl _ ih => exact .tup cs vs hl (fun i hi => ih i hi (pcleanL_all (by simpa [pclean] using hp) i hi))
  | lstNil c a ha hc =>
    cases c <;> simp only [pclean, Bool.false_eq_true] at hp
    exact .lstNil .sh a (fun h => by cases h) trivial
  | lst c l b o n cap val hle hn hcell _ hc ih =>
    cases c <;> simp only [pclean, Bool.false_eq_true] at hp
    refine .lst .sh l b o n cap val hle hn (fun i j hi hj => ?_) (fun i j hi hj => ih i j hi hj (pclean_cells (pcleanL_all hp i hi) (by rw [hn i hi]; exact hj))) trivial
    obtain ⟨h1, h2⟩ := hcell i j hi hj
    obtain ⟨g1, g2⟩ := hI _ _ h2
    exact ⟨g2.trans h1, g1⟩
  | vw loc s off len cap esz ag capc hA hc hle hsz => simp [pclean] at hp
  | vwNil loc s esz ag hA => simp [pclean] at hp
  | cref cs off b o val hcell _ ih =>
    refine .cref cs off b o val (fun j hj => ?_) (fun j hj => ih j hj (pcleanL_all (by simpa [pclean] using hp) j hj))
    obtain ⟨h1, h2⟩ := hcell j hj
    obtain ⟨g1, g2⟩ := hI _ _ h2
    exact ⟨g2.trans h1, g1⟩
  | ref loc s off hA => simp [pclean] at hp
  | fn f a b av bv ha hb _ _ iha ihb =>
    simp only [pclean, Bool.and_eq_true] at hp
    exact .fn f a b av bv ha hb (fun i hi => iha i hi (pcleanL_all hp.1 i hi)) (fun i hi => ihb i hi (pcleanL_all hp.2 i hi))
  | yield l hA => simp [pclean] at hp
  | mapr loc s hA => simp [pclean] at hp
  | mapc ks vs b es clk hM' hb hk hv _ _ ihk ihv =>
    simp only [pclean, Bool.and_eq_true] at hp
    obtain ⟨g1, g2⟩ := hM b hM'
    exact .mapc ks vs b es clk g1 (g2.trans hb) hk hv (fun i hi => ihk i hi (pcleanL_all hp.1 i (by omega))) (fun i hi => ihv i hi (pcleanL_all hp.2 i (by omega)))
  | iface t v c _ ih => exact .iface t v c (ih (by simpa [pclean] using hp))
  | raw v => simp [pclean] at hp
theorem Rel.flat {v : V} {c : Value} (h : Rel K T w v c) (hp : flat v = true) : Rel K' T' w' v c := by
  induction h with
  | int k n => exact .int k n
  | bool b => exact .bool b
  | str s b h => exact .str s b h
  | nilp => exact .nilp
  | nilf => exact .nilf
  | nilm => exact .nilm
  | nili => exact .nili
  | agg cs vs hl _ ih => exact .agg cs vs hl (fun i hi => ih i hi (flatL_all (by simpa [Aq.flat] using hp) i hi))
  | tup cs vs hl _ ih => exact .tup cs vs hl (fun i hi => ih i hi (flatL_all (by simpa [Aq.flat] using hp) i hi))
  | _ => simp [Aq.flat] at hp
theorem agg_inv {cs : List V} {vs : Array Value} (h : Rel K T w (.agg cs) (.agg vs)) : cs.length = vs.size ∧ ∀ i, i < cs.length → Rel K T w (cs.getD i undefV) (vs.getD i undef) := by
  cases h with
  | agg _ _ hl h => exact ⟨hl, h⟩
theorem closeV_agg {n : Nat} {σ : Sig} {cs : List V} {v : V} (h : closeV n σ (.agg cs) = some v) : ∃ cs', v = .agg cs' := by
  cases n with
  | zero => simp [closeV] at h
  | succ n =>
    unfold closeV at h
    split at h
    · simp only [Option.some.injEq] at h; exact ⟨cs, h.symm⟩
    · simp only [Option.map_eq_some_iff] at h; obtain ⟨cs', _, rfl⟩ := h; exact ⟨cs', rfl⟩
theorem closeV_one {n : Nat} {σ : Sig} {x v : V} (hx : ∀ cs, x ≠ .agg cs) (h : closeV n σ x = some v) : v.cells = [v] ∧ x.cells = [x] := by
  have h2 : x.cells = [x] := by cases x <;> first | rfl | exact absurd rfl (hx _)
  refine ⟨?_, h2⟩
  cases n with
  | zero => simp [closeV] at h
  | succ n =>
    unfold closeV at h
    split at h
    · simp only [Option.some.injEq] at h; subst h; exact h2
    · split at h
      all_goals try (simp only [reduceCtorEq] at h; done)
      all_goals try (simp only [Option.map_eq_some_iff] at h; obtain ⟨_, _, rfl⟩ := h; first | rfl | exact absurd rfl (hx _))
      all_goals try (simp only [Option.bind_eq_some_iff, Option.map_eq_some_iff] at h; obtain ⟨_, _, _, _, rfl⟩ := h; rfl)
      · simp only [Option.bind_eq_some_iff] at h
        obtain ⟨_, _, h⟩ := h
        split at h
        · simp only [Option.bind_eq_some_iff] at h
          obtain ⟨_, _, h⟩ := h
          split at h
          · simp only [Option.some.injEq] at h; subst h; rfl
          · simp at h
        · simp at h
      · simp only [Option.bind_eq_some_iff] at h
        obtain ⟨⟨ks, vs⟩, _, h⟩ := h
        simp only [Option.bind_eq_some_iff, Option.map_eq_some_iff] at h
        obtain ⟨_, _, _, _, rfl⟩ := h; rfl
theorem closeV_sound {E : Env} {B0 : Nat} {σ : Sig} (h : SOK E B0 σ K w) : ∀ (n : Nat) (v v' : V) (c : Value), Rel K σ.top w v c → closeV n σ v = some v' →
    Rel (Con.lend (grow K.I B0 w) (growM K.IM B0 w)) T' w v' c := by
  have hIk : ∀ b o, K.I b o → grow K.I B0 w b o ∧ w.cell? (at_ b o) = w.cell? (at_ b o) := fun b o hi => ⟨⟨.inl hi, (h.I b o hi).1⟩, rfl⟩
  have hMk : ∀ b, K.IM b → growM K.IM B0 w b ∧ w.heap[b]? = w.heap[b]? := fun b hi => ⟨⟨.inl hi, (h.IM b hi).1⟩, rfl⟩
  intro n
  induction n with
  | zero => intro v v' c _ hc; simp [closeV] at hc
  | succ n ih =>
    intro v v' c hr hc
    have hlist : ∀ (l l' : List V) (val : Nat → Value), l.mapM (closeV n σ) = some l' → (∀ i, i < l.length → Rel K σ.top w (l.getD i undefV) (val i)) →
        l'.length = l.length ∧ ∀ i, i < l'.length → Rel (Con.lend (grow K.I B0 w) (growM K.IM B0 w)) T' w (l'.getD i undefV) (val i) := by
      intro l l' val hm hv
      obtain ⟨h1, h2⟩ := mapM_some hm
      refine ⟨h1.symm, fun i hi => ?_⟩
      obtain ⟨h3, h4⟩ := h2 i (by omega)
      have := hv i (by omega)
      rw [getD_of_lt (show i < l.length by omega)] at this
      rw [getD_of_lt h3]
      exact ih _ _ _ this h4
    have hcells : ∀ (x x' : V) (m : Nat) (val : Nat → Value), closeV n σ x = some x' → x.cells.length = m → (∀ j, j < m → Rel K σ.top w (x.cells.getD j undefV) (val j)) →
        x'.cells.length = m ∧ ∀ j, j < m → Rel (Con.lend (grow K.I B0 w) (growM K.IM B0 w)) T' w (x'.cells.getD j undefV) (val j) := by
      intro x x' m val hx hm hv
      by_cases hag : ∃ cs, x = .agg cs
      · obtain ⟨cs, rfl⟩ := hag
        obtain ⟨cs', rfl⟩ := closeV_agg hx
        have hm' : cs.length = m := hm
        have hcell : ∀ j, j < m → (Array.ofFn fun i : Fin m => val i).getD j undef = val j := fun j hj => by simp [Array.getD, hj]
        have r : Rel K σ.top w (.agg cs) (.agg (Array.ofFn fun i : Fin m => val i)) := .agg _ _ (by simpa using hm') (fun i hi => by
          rw [hcell i (by omega)]; exact hv i (by omega))
        obtain ⟨g1, g2⟩ := agg_inv (ih _ _ _ r hx)
        have g1' : cs'.length = m := by simpa using g1
        exact ⟨g1', fun j hj => by have := g2 j (by omega); rw [hcell j hj] at this; exact this⟩
      · obtain ⟨h1, h2⟩ := closeV_one (fun cs e => hag ⟨cs, e⟩) hx
        rw [h2] at hm hv
        have hm1 : m = 1 := by simpa using hm.symm
        subst hm1
        rw [h1]
        refine ⟨rfl, fun j hj => ?_⟩
        have hj0 : j = 0 := by omega
        subst hj0
        exact ih _ _ _ (hv 0 (by omega)) hx
    have hobj : ∀ loc s cs, σ.cellsAt loc s = some cs → cs ≠ [] → ∃ vals t, w.heap[K.blk s]? = some (.cells vals t (0, 0)) ∧ vals.size = K.sz s ∧ cs.length ≤ vals.size ∧ B0 ≤ K.blk s ∧
        (∀ i, i < cs.length → Rel K σ.top w (cs.getD i undefV) (vals.getD i undef)) ∧ ∀ i, i < vals.size → w.cell? (at_ (K.blk s) i) = some (vals.getD i undef) := by
      intro loc s cs hcs hne
      obtain ⟨g1, _, _⟩ := h.cellsAt' hcs
      obtain ⟨a1, a2, a3⟩ := h.obj _ _ _ g1
      obtain ⟨b1, vals, t, b2, b3, b4, b5⟩ := a2.2 hne
      refine ⟨vals, t, b2, b3, b4, b1, b5, fun i hi => ?_⟩
      simp [World.cell?, b2, Array.getD, hi]
    unfold closeV at hc
    split at hc
    · rename_i hp
      simp only [Option.some.injEq] at hc
      subst hc
      exact hr.pure hp hIk hMk
    · cases hr with
      | lstNil c a ha hcn =>
        simp only [List.mapM_nil, Option.pure_def, Option.map_some, Option.some.injEq] at hc
        subst hc; exact .lstNil .sh a (fun h => by cases h) trivial
      | lst c l b o m cap val hle hn hcell hrel hcap =>
        simp only [Option.map_eq_some_iff] at hc
        obtain ⟨l', hm, rfl⟩ := hc
        obtain ⟨h1, h2⟩ := mapM_some hm
        have hel : ∀ i, i < l'.length → (l'.getD i undefV).cells.length = m ∧ ∀ j, j < m → Rel (Con.lend (grow K.I B0 w) (growM K.IM B0 w)) T' w ((l'.getD i undefV).cells.getD j undefV) (val i j) := by
          intro i hi
          obtain ⟨h3, h4⟩ := h2 i (by omega)
          rw [getD_of_lt h3]
          refine hcells _ _ m (val i) h4 ?_ (fun j hj => ?_)
          · have := hn i (by omega); rwa [getD_of_lt (show i < l.length by omega)] at this
          · have := hrel i j (by omega) hj; rwa [getD_of_lt (show i < l.length by omega)] at this
        rw [h1]
        refine .lst .sh l' b o m cap val (by omega) (fun i hi => (hel i hi).1) (fun i j hi hj => ?_) (fun i j hi hj => (hel i hi).2 j hj) trivial
        obtain ⟨e1, e2⟩ := hcell i j (by omega) hj
        exact ⟨e1, (hIk _ _ e2).1⟩
      | agg cs vs hl hrel =>
        simp only [Option.map_eq_some_iff] at hc
        obtain ⟨l', hm, rfl⟩ := hc
        obtain ⟨h1, h2⟩ := hlist _ _ (fun i => vs.getD i undef) hm hrel
        exact .agg _ _ (by omega) h2
      | tup cs vs hl hrel =>
        simp only [Option.map_eq_some_iff] at hc
        obtain ⟨l', hm, rfl⟩ := hc
        obtain ⟨h1, h2⟩ := hlist _ _ (fun i => vs.getD i undef) hm hrel
        exact .tup _ _ (by omega) h2
      | cref cs off b o val hcell hrel =>
        simp only [Option.map_eq_some_iff] at hc
        obtain ⟨l', hm, rfl⟩ := hc
        obtain ⟨h1, h2⟩ := hlist _ _ val hm hrel
        exact .cref l' off b o val (fun j hj => ⟨(hcell j (by omega)).1, (hIk _ _ (hcell j (by omega)).2).1⟩) h2
      | fn f a b av bv ha hb ra rb =>
        simp only [Option.bind_eq_some_iff, Option.map_eq_some_iff] at hc
        obtain ⟨a', hma, b', hmb, rfl⟩ := hc
        obtain ⟨h1, h2⟩ := hlist _ _ (fun i => av.getD i undef) hma ra
        obtain ⟨h3, h4⟩ := hlist _ _ (fun i => bv.getD i undef) hmb rb
        exact .fn f a' b' av bv (by omega) (by omega) h2 h4
      | ref loc s off hA =>
        simp only [Option.bind_eq_some_iff, Option.map_eq_some_iff] at hc
        obtain ⟨cs, hcs, cs', hm, rfl⟩ := hc
        have key : Rel (Con.lend (grow K.I B0 w) (growM K.IM B0 w)) T' w (.cref cs' off) (.pointer (some (at_ (K.blk s) (0 + off)))) := by
          by_cases hne : cs = []
          · subst hne
            simp only [List.mapM_nil, Option.pure_def, Option.some.injEq] at hm
            subst hm
            exact .cref [] off _ 0 (fun _ => undef) (fun j hj => absurd hj (Nat.not_lt_zero j)) (fun j hj => absurd hj (Nat.not_lt_zero j))
          · obtain ⟨vals, t, e1, e2, e3, e4, e5, e6⟩ := hobj _ _ _ hcs hne
            obtain ⟨h1, h2⟩ := hlist _ _ (fun i => vals.getD i undef) hm e5
            refine .cref cs' off _ 0 (fun i => vals.getD i undef) (fun j hj => ?_) h2
            rw [Nat.zero_add]
            exact ⟨e6 j (by omega), .inr e4, _, e6 j (by omega)⟩
        rwa [Nat.zero_add] at key
      | vwNil loc s esz ag hA =>
        simp only [Option.bind_eq_some_iff] at hc
        obtain ⟨cs, hcs, hc⟩ := hc
        split at hc
        · simp only [Option.bind_eq_some_iff] at hc
          obtain ⟨cs', hm, hc⟩ := hc
          split at hc
          · simp only [Option.some.injEq] at hc
            subst hc; exact .lstNil .sh none (fun _ => rfl) trivial
          · simp at hc
        · simp at hc
      | vw loc s off len cap esz ag capc hA hcp hle hsz =>
        simp only [Option.bind_eq_some_iff] at hc
        obtain ⟨cs, hcs, hc⟩ := hc
        split at hc
        · rename_i hlen
          simp only [Option.bind_eq_some_iff] at hc
          obtain ⟨cs', hm, hc⟩ := hc
          split at hc
          · rename_i hag
            simp only [Option.some.injEq] at hc
            subst hc
            have hag1 : ag = false → esz = 1 := fun e => by simp [e] at hag; exact hag.1
            have hag2 : ag = false → oneCells cs' = true := fun e => by simp [e] at hag; exact hag.2
            have hl' : ((cs.drop off).take (len * esz)).length = len * esz := by simp; omega
            by_cases hne : cs = []
            · subst hne
              have h0 : len * esz = 0 := by simp at hlen; omega
              have hd : (([] : List V).drop off).take (len * esz) = [] := by simp
              rw [hd] at hm
              simp only [List.mapM_nil, Option.pure_def, Option.some.injEq] at hm
              subst hm
              exact rel_of_cells (w := w) (val := fun _ => undef) hag1 (by rw [h0]; exact Nat.zero_le _) hag2 (fun j hj => by omega) (fun j hj => by omega) (by omega) trivial
            · obtain ⟨vals, t, e1, e2, e3, e4, e5, e6⟩ := hobj _ _ _ hcs hne
              obtain ⟨h1, h2⟩ := hlist _ _ (fun i => vals.getD (off + i) undef) hm (fun i hi => by
                rw [hl'] at hi
                rw [take_getD _ hi, drop_getD]
                exact e5 _ (by omega))
              rw [hl'] at h1
              refine rel_of_cells (w := w) (val := fun i => vals.getD (off + i) undef) hag1 (by omega) hag2 (fun j hj => ⟨e6 _ (by omega), .inr e4, _, e6 _ (by omega)⟩) (fun j hj => h2 j (by omega)) (by omega) trivial
          · simp at hc
        · simp at hc
      | mapr loc s hA =>
        simp only [Option.bind_eq_some_iff] at hc
        obtain ⟨⟨ks, vs⟩, hmp, hc⟩ := hc
        simp only [Option.bind_eq_some_iff, Option.map_eq_some_iff] at hc
        obtain ⟨ks', hk, vs', hv, rfl⟩ := hc
        have hob : σ.obj loc = some (s, .map ks vs) := by
          unfold Sig.mapAt at hmp
          split at hmp
          · rename_i s' ks0 vs0 ho
            split at hmp
            · rename_i hs
              simp only [Option.some.injEq, Prod.mk.injEq] at hmp
              obtain ⟨rfl, rfl⟩ := hmp
              rw [ho, hs]
            · simp at hmp
          · simp at hmp
        obtain ⟨_, ⟨a1, es, clk, a2, a3, a4, a5, a6⟩, _⟩ := h.obj _ _ _ hob
        obtain ⟨h1, h2⟩ := hlist _ _ (fun i => (es.getD i default).key) hk (fun i hi => a5 i (by omega))
        obtain ⟨h3, h4⟩ := hlist _ _ (fun i => (es.getD i default).val) hv (fun i hi => a6 i (by omega))
        exact .mapc ks' vs' _ es clk ⟨.inr a1, es, clk, a2⟩ a2 (by omega) (by omega) (fun i hi => h2 i (by omega)) (fun i hi => h4 i (by omega))
      | mapc ks vs b es clk hM hb hk hv rk rv =>
        simp only [Option.bind_eq_some_iff, Option.map_eq_some_iff] at hc
        obtain ⟨ks', hk', vs', hv', rfl⟩ := hc
        obtain ⟨h1, h2⟩ := hlist _ _ (fun i => (es.getD i default).key) hk' (fun i hi => rk i (by omega))
        obtain ⟨h3, h4⟩ := hlist _ _ (fun i => (es.getD i default).val) hv' (fun i hi => rv i (by omega))
        exact .mapc ks' vs' b es clk (hMk b hM).1 hb (by omega) (by omega) (fun i hi => h2 i (by omega)) (fun i hi => h4 i (by omega))
      | iface t x c hx =>
        simp only [Option.map_eq_some_iff] at hc
        obtain ⟨x', hx', rfl⟩ := hc
        exact .iface t x' c (ih _ _ _ hx hx')
      | _ => simp at hc
end
end Aq
end
section
namespace Aq
open Go Go.RowKit
def Lent (E : Env) (I : Nat → Nat → Prop) (IM : Nat → Prop) (w : World) : Prop :=
  (∀ b o, I b o → ∃ v, w.cell? (at_ b o) = some v) ∧ (∀ b, IM b → ∃ es clk, w.heap[b]? = some (.map es clk)) ∧
  ∀ g cs, E.glob g = some cs → Rel (Con.lend I IM) (fun _ => 0) w (.cref cs 0) (.pointer (some (at_ g 0)))
def PurePost (I : Nat → Nat → Prop) (IM : Nat → Prop) (w : World) (v : V) : Ending → World → Prop
  | .returned c, w' => Below w.heap.size w w' ∧ Rel (Con.lend (grow I w.heap.size w') (growM IM w.heap.size w')) (fun _ => 0) w' v c
  | _, _ => False
/-- What a pure call owes. -/
def PureOK (E : Env) (f : FuncId) (args : List V) (v : V) : Prop :=
  HasBody E f ∧ ∀ I IM w cargs, Lent E I IM w → RelA (Con.lend I IM) (fun _ => 0) w args cargs → CallsIn Fence.wide 0 E.P f cargs w (PurePost I IM w v)
structure EnvOK (E : Env) : Prop where
  name : ∀ (f : FuncId) (fn : Func), E.P.funcs[f]? = some fn → fn.name ≠ "runtime.NumGoroutine"
  summ : ∀ f g, E.summ f = some g → ∀ args v, g args = some v → PureOK E f args v
  mixed : E.P.follows .mixedOrders = true
  flat : ∀ g cs, E.glob g = some cs → pcleanL cs = true
section
variable {E : Env} {S : Evl} {K K' : Con} {T T' : Nat → Nat} {w w' : World} {σ σ' : Sig} {B0 : Nat}
theorem Rel.unlend {I : Nat → Nat → Prop} {IM : Nat → Prop} {v : V} {c : Value} (h : Rel (Con.lend I IM) T w v c) (hI : ∀ b o, I b o → K'.I b o ∧ w'.cell? (at_ b o) = w.cell? (at_ b o))
    (hM : ∀ b, IM b → K'.IM b ∧ w'.heap[b]? = w.heap[b]?) : Rel K' T' w' v c := by
  generalize hK : Con.lend I IM = K at h
  induction h with
  | int k n => exact .int k n
  | bool b => exact .bool b
  | str s b h => exact .str s b h
  | nilp => exact .nilp
  | nilf => exact .nilf
  | nilm => exact .nilm
  | nili => exact .nili
  | agg cs vs hl _ ih => exact .agg cs vs hl (fun i hi => ih i hi)
  | tup cs vs hl _ ih => exact .tup cs vs hl (fun i hi => ih i hi)
  | lstNil c a ha hc =>
    cases c with
    | own n s => subst hK; exact hc.1.elim
    | _ => exact .lstNil _ a ha trivial
  | lst c l b o n cap val hle hn hcell _ hc ih =>
    refine .lst c l b o n cap val hle hn (fun i j hi hj => ?_) ih ?_
    · obtain ⟨h1, h2⟩ := hcell i j hi hj
      subst hK
      obtain ⟨g1, g2⟩ := hI _ _ h2
      exact ⟨g2.trans h1, g1⟩
    · cases c with
      | own n s => subst hK; exact hc.2.1.elim
      | sh => trivial
      | full => exact hc
      | nil => exact hc
  | vw loc s off len cap esz ag capc hA hc hle hsz => subst hK; exact hA.elim
  | vwNil loc s esz ag hA => subst hK; exact hA.elim
  | cref cs off b o val hcell _ ih =>
    refine .cref cs off b o val (fun j hj => ?_) ih
    obtain ⟨h1, h2⟩ := hcell j hj
    subst hK
    obtain ⟨g1, g2⟩ := hI _ _ h2
    exact ⟨g2.trans h1, g1⟩
  | ref loc s off hA => subst hK; exact hA.elim
  | fn f a b av bv ha hb _ _ iha ihb => exact .fn f a b av bv ha hb iha ihb
  | yield l hA => subst hK; exact hA.elim
  | mapr loc s hA => subst hK; exact hA.elim
  | mapc ks vs b es clk hM' hb hk hv _ _ ihk ihv =>
    subst hK
    obtain ⟨g1, g2⟩ := hM b hM'
    exact .mapc ks vs b es clk g1 (g2.trans hb) hk hv ihk ihv
  | iface t v c _ ih => exact .iface t v c ih
  | raw v => exact .raw v
theorem below_cell {B b o : Nat} (h : Below B w w') (hb : b < B) : w'.cell? (at_ b o) = w.cell? (at_ b o) := cell_of_heap (h.block b hb)
theorem sok_lent {I : Nat → Nat → Prop} {IM : Nat → Prop} (h : Lent E I IM w) : SOK E w.heap.size Sig.init (Con.lend I IM) w where
  obj loc s ob hs := by simp [Sig.init] at hs
  own s hs := hs.elim
  I b o hi := ⟨h.1 b o hi, fun loc e => by simp [Con.lend] at e⟩
  IM b hi := ⟨h.2.1 b hi, fun loc e => by simp [Con.lend] at e⟩
  loop l r hl := by simp [Sig.init] at hl
  glob g cs hg := by
    have := h.2.2 g cs hg
    exact this.unlend (fun _ _ h => ⟨h, rfl⟩) (fun _ h => ⟨h, rfl⟩)
  rb b r hr := by simp [Con.lend] at hr
  D b hd := hd.elim
theorem callPure_sound (hE : EnvOK E) (hS : CallSound1 E S.call) {f : FuncId} {args : List V} {v : V} (h : callPure E S f args = some v) : PureOK E f args v := by
  unfold callPure at h
  split at h
  · rename_i g hg
    exact hE.summ f g hg args v h
  · simp only [Option.bind_eq_some_iff] at h
    obtain ⟨⟨v0, σ1⟩, hc, h⟩ := h
    obtain ⟨_, hb, hs⟩ := hS _ _ _ _ _ _ hc
    refine ⟨hb, fun I IM w cargs hl hr => ?_⟩
    have hr' : RelA (Con.lend I IM) Sig.init.top w args cargs := hr
    refine (hs none w.heap.size (Con.lend I IM) w cargs (sok_lent hl) (Nat.le_refl _) (fun s hs => hs.elim) hr').mono ?_
    intro e w' hp
    cases e with
    | returned c =>
      obtain ⟨K1, r1, s1, _, st⟩ := hp
      refine ⟨st.below, ?_⟩
      have := closeV_sound (T' := fun _ => 0) s1 20 v0 v c r1 h
      refine this.unlend (fun b o hi => ⟨⟨?_, hi.2⟩, rfl⟩) (fun b hi => ⟨⟨?_, hi.2⟩, rfl⟩)
      · rcases hi.1 with h1 | h1
        · exact st.nI b o h1
        · exact .inr h1
      · rcases hi.1 with h1 | h1
        · exact st.nIM b h1
        · exact .inr h1
    | panicked ch => exact hp.elim
    | outgrown => exact hp.elim
/-- What was made behind the heap's size may be read for good. -/
theorem Step.grow (h : SOK E B0 σ K w) (hB : B0 ≤ w.heap.size) {new : Nat → Prop} (hb : Below w.heap.size w w') :
    Step E B0 new σ K w σ { K with I := Aq.grow K.I w.heap.size w', IM := growM K.IM w.heap.size w' } w' := by
  have hIk : ∀ b o, K.I b o → w'.cell? (at_ b o) = w.cell? (at_ b o) := fun b o hi => below_cell hb (lt_of_cell (h.I b o hi).1.choose_spec)
  have hMk : ∀ b, K.IM b → w'.heap[b]? = w.heap[b]? := fun b hi => by
    obtain ⟨⟨es, clk, h1⟩, _⟩ := h.IM b hi
    exact hb.block b (lt_of_heap h1)
  have e : Ext K σ.top w { K with I := Aq.grow K.I w.heap.size w', IM := growM K.IM w.heap.size w' } σ.top w' :=
    ⟨fun _ h => ⟨h, rfl, rfl, rfl⟩, fun _ _ => .inl ⟨rfl, rfl, rfl, rfl⟩, fun b o hi => ⟨⟨.inl hi, by rw [hIk b o hi]; exact (h.I b o hi).1⟩, hIk b o hi⟩,
      fun b hi => ⟨⟨.inl hi, by rw [hMk b hi]; exact (h.IM b hi).1⟩, hMk b hi⟩⟩
  refine ⟨⟨fun loc s ob hs => ?_, fun s hs hl => ?_, fun b o hi => ⟨hi.2, ?_⟩, fun b hi => ⟨hi.2, ?_⟩, fun l r hl => ?_, fun g cs hg => (h.glob g cs hg).ext e, fun b r hr => ?_, fun b hd => ?_⟩, e,
    ⟨hb.os, hb.tape, hb.output, hb.size, fun k hk => hb.block k (by omega)⟩, fun _ h => h, fun _ h => .inl h, fun b o hi => hi.1.imp id (by omega), fun b hi => hi.1.imp id (by omega)⟩
  · obtain ⟨a1, a2, a3⟩ := h.obj loc s ob hs
    exact ⟨a1, a2.ext e a1 (fun hr => hb.block _ (h.rb _ _ (a3 hr)).1), a3⟩
  · obtain ⟨a1, a2, a3⟩ := h.own s hs hl
    have hlt := (h.rb _ _ a2).1
    refine ⟨a1, a2, fun o h1 h2 => ?_⟩
    obtain ⟨c1, ⟨v, c2⟩, c3⟩ := a3 o h1 h2
    refine ⟨fun hi => ?_, ⟨v, (below_cell hb hlt).trans c2⟩, ?_⟩
    · rcases hi.1 with h1 | h1
      · exact c1 h1
      · have : w.heap.size ≤ K.ob s := h1
        omega
    · rw [frozen_of_heap (hb.block _ hlt)]; exact c3
  · intro loc hρ
    rcases hi.1 with h1 | h1
    · exact (h.I b o h1).2 loc hρ
    · have := (h.rb _ _ hρ).1; omega
  · intro loc hρ
    rcases hi.1 with h1 | h1
    · exact (h.IM b h1).2 loc hρ
    · have := (h.rb _ _ hρ).1; omega
  · obtain ⟨a1, a2⟩ := h.loop l r hl
    exact ⟨a1, a2.ext e a1 (hb.block _ (h.rb _ _ a2.2.1).1) rfl⟩
  · have := h.rb b r hr; exact ⟨Nat.lt_of_lt_of_le this.1 hb.size, this.2⟩
  · have := h.D b hd
    rw [hb.block b (lt_of_heap this)]; exact this
end
end Aq
end
section
namespace Aq
open Go Go.RowKit
section
variable {E : Env} {S : Evl} {K K' : Con} {w w' : World} {σ σ' : Sig} {B0 : Nat}
theorem only_put (w : World) (b : Nat) (o : Obj) : Only b w (w.putObj b o) := ⟨rfl, rfl, rfl, by simp, fun _ hk _ => World.putObj_heap_other hk⟩
/-- The record of a loop is written anew. -/
theorem Step.setLoop (h : SOK E B0 σ K w) (hB : B0 ≤ w.heap.size) {new : Nat → Prop} {l : Nat} {r r' : LoopRec} (hl : σ.loops l = some r) (h1 : r'.fr = r.fr) (h2 : r'.ps = r.ps) (h3 : r'.asg = r.asg) (h4 : r'.body = r.body)
    {rec : Go.Loop} (hr : w.heap[K.lp l]? = some (.loop rec)) :
    Step E B0 new σ K w (σ.setLoop l r') K (w.putObj (K.lp l) (.loop { rec with state := lpState r'.st, pending := r'.pend.bind exCode })) := by
  obtain ⟨hA, hb0, hρ, fn, tmps, D, hh, hf, hok⟩ := h.loop l r hl
  have hrec : rec = { state := lpState r.st, pending := r.pend.bind exCode, fn := fn, tmps := tmps, params := r.ps.toArray, assign := r.asg, body := r.body, defers := D } := by
    rw [hh] at hr; simpa using hr.symm
  have hlt := lt_of_heap hr
  have ho := only_put w (K.lp l) (.loop { rec with state := lpState r'.st, pending := r'.pend.bind exCode })
  have hnew : (w.putObj (K.lp l) (.loop { rec with state := lpState r'.st, pending := r'.pend.bind exCode })).heap[K.lp l]? = some (.loop { rec with state := lpState r'.st, pending := r'.pend.bind exCode }) := World.putObj_heap_same hlt
  have hcell : ∀ b o v, w.cell? (at_ b o) = some v → b ≠ K.lp l := fun b o v hv e => by
    subst e
    simp [World.cell?, hr] at hv
  have e : Ext K σ.top w K σ.top (w.putObj (K.lp l) (.loop { rec with state := lpState r'.st, pending := r'.pend.bind exCode })) := by
    refine ⟨fun _ h => ⟨h, rfl, rfl, rfl⟩, fun _ _ => .inl ⟨rfl, rfl, rfl, rfl⟩, fun b o hi => ⟨hi, ?_⟩, fun b hi => ⟨hi, ?_⟩⟩
    · obtain ⟨⟨v, hv⟩, _⟩ := h.I b o hi
      exact cell_of_heap (ho.block b (hcell b o v hv) (lt_of_cell hv))
    · obtain ⟨⟨es, clk, hv⟩, _⟩ := h.IM b hi
      exact ho.block b (ne_of_heap hv hr (by simp)) (lt_of_heap hv)
  refine ⟨?_, e, ho.below hb0 hB, fun _ h => h, fun _ h => .inl h, fun _ _ h => .inl h, fun _ h => .inl h⟩
  refine h.upd (σ' := σ.setLoop l r') ho e (fun _ _ => rfl) (fun r hr' => ⟨by simpa using hlt, hb0⟩) ?_ ?_ ?_ ?_ ?_ ?_
  · intro loc s ob hs
    refine .inl ⟨hs, fun hreal => ?_⟩
    intro e'
    have := (h.obj loc s ob hs).2.2 hreal
    rw [e', hρ] at this
    cases this
  · intro s hs hlt'
    refine .inl ⟨hs, rfl, rfl, rfl, fun e' => ?_⟩
    have := (h.own s hs hlt').2.1
    rw [e', hρ] at this
    cases this
  · intro b' o hi
    obtain ⟨⟨v, hv⟩, _⟩ := h.I b' o hi
    exact .inl ⟨hi, hcell b' o v hv⟩
  · intro b' hi
    obtain ⟨⟨es, clk, hv⟩, _⟩ := h.IM b' hi
    exact .inl ⟨hi, ne_of_heap hv hr (by simp)⟩
  · intro l' r1 hl'
    by_cases hll : l' = l
    · subst hll
      right
      have hr1 : r' = r1 := by simpa [Sig.setLoop, upd] using hl'
      subst hr1
      refine ⟨hA, hb0, hρ, fn, tmps, D, ?_, ?_, ?_⟩
      · rw [hnew, hrec, h2, h3, h4]
      · rw [h1]; exact hf.ext e
      · rw [h2, h3, h4]; exact hok
    · left
      have hl1 : σ.loops l' = some r1 := by simpa [Sig.setLoop, upd, hll] using hl'
      refine ⟨hl1, fun e' => ?_⟩
      have := (h.loop l' r1 hl1).2.2.1
      rw [e', hρ] at this
      cases this
      exact hll rfl
  · intro b' hd
    exact .inl ⟨hd, ne_of_heap (h.D b' hd) hr (by simp)⟩
theorem frRel_params {T : Nat → Nat} : ∀ (ps : List Nat) (args : List V) (cs : List Value) (fr : Fr) (tmps : Array Value), ps.length = args.length → args.length = cs.length → FrRel K T w fr tmps → (∀ i, i < args.length → Rel K T w (args.getD i undefV) (cs.getD i undef)) →
    (∀ p ∈ ps, p < tmps.size) → FrRel K T w { fr with tm := (ps.zip args).foldl (fun tm (p, a) => upd tm p a) fr.tm } ((ps.zip cs).foldl (fun tmps (t, a) => tmps.setIfInBounds t a) tmps) ∧
      ((ps.zip cs).foldl (fun tmps (t, a) => tmps.setIfInBounds t a) tmps).size = tmps.size := by
  intro ps
  induction ps with
  | nil => intro args cs fr tmps _ _ hf _ _; exact ⟨hf, rfl⟩
  | cons p ps ih =>
    intro args cs fr tmps hl hl2 hf hr hp
    cases args with
    | nil => simp at hl
    | cons a args =>
      cases cs with
      | nil => simp at hl2
      | cons c cs =>
        have hput := FrRel.put (K := K) (w := w) (T := T) (a := { tmps := tmps, defers := [] }) hf (d := some p) (v := a) (c := c) (hr 0 (by simp)) (fun i hi => by cases hi; exact hp p (by simp))
        have := ih args cs (fr.set p a) (tmps.setIfInBounds p c) (by simpa using hl) (by simpa using hl2) hput (fun i hi => hr (i + 1) (by simpa using hi)) (fun q hq => by simpa using hp q (by simp [hq]))
        refine ⟨this.1, this.2.trans (by simp)⟩
theorem zip_toArray (ps : List Nat) (cs : Array Value) (tmps : Array Value) :
    (ps.toArray.zip cs).foldl (fun tmps (t, a) => tmps.setIfInBounds t a) tmps = (ps.zip cs.toList).foldl (fun tmps (t, a) => tmps.setIfInBounds t a) tmps := by
  rw [← Array.foldl_toList]
  congr 1
  simp
theorem roundV_sound (hS : CodeSound1 E S.code) (h : SOK E B0 σ K w) (hB : B0 ≤ w.heap.size) (hA : ∀ s, K.A s → s < σ.next) {l : Nat} {args : List V} {cargs : Array Value} {v : V}
    (hv : roundV S l args σ = some (v, σ')) (ra : RelA K σ.top w args cargs) :
    σ.next ≤ σ'.next ∧ ∃ fn tmps asg body, (Instr.yield (K.lp l) cargs).run E.P w = .ok (.round (K.lp l) fn tmps asg body) w ∧ RoundIn Fence.wide 0 E.P (K.lp l) fn tmps asg body w (CallPost E B0 σ K w v σ') := by
  unfold roundV at hv
  simp only [Option.bind_eq_some_iff] at hv
  obtain ⟨r, hl, hv⟩ := hv
  split at hv
  · rename_i hst
    simp only [Option.bind_eq_some_iff] at hv
    obtain ⟨⟨e1, fr1, σ1⟩, hasg, hv⟩ := hv
    cases e1 with
    | normal =>
      simp only [Option.bind_eq_some_iff] at hv
      obtain ⟨r1, hl1, hv⟩ := hv
      split at hv
      · rename_i hst1
        simp only [Option.bind_eq_some_iff] at hv
        obtain ⟨⟨e2, fr2, σ2⟩, hbody, r2, hl2, hv⟩ := hv
        split at hv
        · rename_i hst2
          obtain ⟨hKl, hb0, hρ, fn, tmps, D, hh, hf, hok1, hok2, hps, hn1, hn2⟩ := h.loop l r hl
          obtain ⟨hle1, hw1⟩ := hS _ _ _ _ _ _ hasg
          obtain ⟨hle2, hw2⟩ := hS _ _ _ _ _ _ hbody
          have hle2' : σ1.next ≤ σ2.next := hle2
          have hnext : σ'.next = σ2.next := by
            cases e2 <;> simp only [Option.some.injEq, Prod.mk.injEq] at hv <;> obtain ⟨_, rfl⟩ := hv <;> rfl
          refine ⟨by omega, ?_⟩
          have hsz : cargs.size = r.ps.length := by have := ra.1; omega
          have hyield := run_yield (P := E.P) (args := cargs) hh (by simpa using hsz)
          refine ⟨_, _, _, _, hyield, ?_⟩
          dsimp only
          rw [zip_toArray]
          have hfr0 := frRel_params (K := K) (w := w) (T := σ.top) r.ps args cargs.toList r.fr tmps hst.2 (by have := ra.1; simpa using this) hf (fun i hi => by rw [toList_getD]; exact ra.2 i hi) hps
          generalize htm : (r.ps.zip cargs.toList).foldl (fun tmps (t, a) => tmps.setIfInBounds t a) tmps = tmps0 at hfr0
          refine roundIn_of_wpIn trivial ?_
          have hs0 : St E B0 σ K w { r.fr with tm := (r.ps.zip args).foldl (fun tm (p, a) => upd tm p a) r.fr.tm } { tmps := tmps0, defers := [] } tmps.size ⟨[], 0, true⟩ :=
            ⟨h, hB, hfr0.1, hfr0.2, ⟨[], rfl, List.nodup_nil, (fun b hb => by cases hb), fun _ => rfl⟩, hA, Nat.zero_le _⟩
          refine wpIn_mono (hw1 (some (K.lp l)) B0 K w _ tmps.size ⟨[], 0, true⟩ hs0 hok1 (.inr hn1)) ?_
          rintro x a1 w1 ⟨hx, K1, hs1, st1⟩
          cases x <;> simp only [exRel] at hx
          obtain ⟨hKl1, hb1, hρ1, fn1, tmps1, D1, hh1, hf1, _⟩ := hs1.ok.loop l r1 hl1
          have elp : K1.lp l = K.lp l := (st1.ext.A l hKl).2.2.1
          have hbr := run_beginRound (P := E.P) hh1 (by simp [lpState, hst1])
          have stB := Step.setLoop (new := newer σ1 (σ1.setLoop l { r1 with st := 1 })) hs1.ok hs1.hB (r' := { r1 with st := 1 }) hl1 rfl rfl rfl rfl hh1
          rw [elp] at hbr
          refine ⟨_, hbr, ?_⟩
          have hweq : (w1.putObj (K.lp l) (.loop { state := LoopState.busy, pending := r1.pend.bind exCode, fn := fn1, tmps := tmps1, params := r1.ps.toArray, assign := r1.asg, body := r1.body, defers := D1 })) =
              (w1.putObj (K1.lp l) (.loop { ({ state := lpState r1.st, pending := r1.pend.bind exCode, fn := fn1, tmps := tmps1, params := r1.ps.toArray, assign := r1.asg, body := r1.body, defers := D1 } : Go.Loop) with state := lpState 1, pending := r1.pend.bind exCode })) := by
            rw [elp]; rfl
          dsimp only
          rw [hweq]
          have hs1' : St E B0 (σ1.setLoop l { r1 with st := 1 }) K1 _ fr1 a1 tmps.size ⟨[], 0, true⟩ :=
            ⟨stB.ok, Nat.le_trans hs1.hB stB.below.size, hs1.fr.ext stB.ext, hs1.sz, hs1.df, hs1.st, Nat.zero_le _⟩
          have st01 := Step.trans (new := newer σ σ1) st1 (stB.mono (fun s hs => by have h1 : σ1.next ≤ s := hs.1; have h2 : s < σ1.next := hs.2; omega))
          refine wpIn_mono (hw2 (some (K.lp l)) B0 K1 _ a1 tmps.size ⟨[], 0, true⟩ hs1' hok2 (.inr hn2)) ?_
          rintro x a2 w2 ⟨hx2, K2, hs2, st2⟩
          obtain ⟨hKl2, hb2, hρ2, fn2, tmps2, D2, hh2, hf2, _⟩ := hs2.ok.loop l r2 hl2
          have elp2 : K2.lp l = K.lp l := ((st2.ext.A l hKl1).2.2.1).trans elp
          have stAll : Step E B0 (newer σ σ2) σ K w σ2 K2 w2 := by
            refine (st01.mono ?_).trans (st2.mono ?_)
            · intro s hs; exact ⟨hs.1, Nat.lt_of_lt_of_le hs.2 hle2'⟩
            · intro s hs; exact ⟨Nat.le_trans hle1 hs.1, hs.2⟩
          have fin : ∀ (r' : LoopRec) (b : Bool), r'.fr = r2.fr → r'.ps = r2.ps → r'.asg = r2.asg → r'.body = r2.body → σ' = σ2.setLoop l r' → v = .bool b →
              CallPost E B0 σ K w v σ' (.returned (.bool b)) (w2.putObj (K2.lp l) (.loop { ({ state := lpState r2.st, pending := r2.pend.bind exCode, fn := fn2, tmps := tmps2, params := r2.ps.toArray, assign := r2.asg, body := r2.body, defers := D2 } : Go.Loop) with state := lpState r'.st, pending := r'.pend.bind exCode })) := by
            intro r' b h1 h2 h3 h4 h5 h6
            have stE := Step.setLoop (new := newer σ σ2) hs2.ok hs2.hB (r' := r') hl2 h1 h2 h3 h4 hh2
            subst h5 h6
            have stF := stAll.trans stE
            exact ⟨K2, .bool b, stF.ok, hs2.st, stF⟩
          have hend := fun jump => run_endRound (P := E.P) jump hh2
          rw [elp2] at hend
          cases e2 with
          | normal =>
            cases x <;> simp only [exRel] at hx2
            simp only [Option.some.injEq, Prod.mk.injEq] at hv
            refine ⟨_, _, hend none, ?_⟩
            have := fin { r2 with st := 0, pend := none } true rfl rfl rfl rfl hv.2.symm hv.1.symm
            rw [elp2] at this
            exact this
          | exit i =>
            cases x <;> simp only [exRel] at hx2
            subst hx2
            simp only [Option.some.injEq, Prod.mk.injEq] at hv
            refine ⟨_, _, hend (some (.exit i)), ?_⟩
            have := fin { r2 with st := 2, pend := some (.exit i) } false rfl rfl rfl rfl hv.2.symm hv.1.symm
            rw [elp2] at this
            exact this
          | ret =>
            cases x <;> simp only [exRel] at hx2
            simp only [Option.some.injEq, Prod.mk.injEq] at hv
            refine ⟨_, _, hend (some .ret), ?_⟩
            have := fin { r2 with st := 2, pend := some .ret } false rfl rfl rfl rfl hv.2.symm hv.1.symm
            rw [elp2] at this
            exact this
        · simp at hv
      · simp at hv
    | exit i => simp at hv
    | ret => simp at hv
  · simp at hv
theorem roundV_next (hS : CodeSound1 E S.code) {l : Nat} {args : List V} {v : V} (hv : roundV S l args σ = some (v, σ')) : σ.next ≤ σ'.next := by
  unfold roundV at hv
  simp only [Option.bind_eq_some_iff] at hv
  obtain ⟨r, hl, hv⟩ := hv
  split at hv
  · simp only [Option.bind_eq_some_iff] at hv
    obtain ⟨⟨e1, fr1, σ1⟩, hasg, hv⟩ := hv
    cases e1 with
    | normal =>
      simp only [Option.bind_eq_some_iff] at hv
      obtain ⟨r1, hl1, hv⟩ := hv
      split at hv
      · simp only [Option.bind_eq_some_iff] at hv
        obtain ⟨⟨e2, fr2, σ2⟩, hbody, r2, hl2, hv⟩ := hv
        split at hv
        · have h1 := (hS _ _ _ _ _ _ hasg).1
          have h2 : σ1.next ≤ σ2.next := (hS _ _ _ _ _ _ hbody).1
          have h3 : σ'.next = σ2.next := by
            cases e2 <;> simp only [Option.some.injEq, Prod.mk.injEq] at hv <;> obtain ⟨_, rfl⟩ := hv <;> rfl
          omega
        · simp at hv
      · simp at hv
    | exit i => simp at hv
    | ret => simp at hv
  · simp at hv
end
end Aq
end
