/- Part of the proof of a law: Aq5 Aq6 Aq7 Aq8 Aq9 Aq10. -/
import Derived.Laws.BytesArg
import Derived.Laws.MakeOwn
import Derived.Laws.StructEq
import Derived.Lib.ConvBytes
import Derived.Test.YteniejlbjfigdaaGreatDoorW00
set_option linter.unusedVariables false
set_option linter.unusedSimpArgs false
set_option linter.unusedSectionVars false
section
namespace Aq
open Go Go.RowKit
def Con.addI (K : Con) (b n : Nat) : Con := { K with I := fun b' o => K.I b' o ∨ (b' = b ∧ o < n) }
theorem SOK.rho_new {E B0 σ K w} (h : SOK E B0 σ K w) : K.ρ w.heap.size = none := by
  cases hr : K.ρ w.heap.size with
  | none => rfl
  | some r => have := (h.rb _ _ hr).1; omega
theorem cell_alloc_new {w : World} {vals : Array Value} {t : TypeId} {fz : Nat × Nat} {i : Nat} (hi : i < vals.size) :
    (w.alloc (.cells vals t fz)).cell? (at_ w.heap.size i) = some (vals.getD i undef) := by
  have hh : (w.alloc (.cells vals t fz)).heap[w.heap.size]? = some (.cells vals t fz) := heap_alloc_new w _
  unfold World.cell?
  simp only [hh]
  simp [hi]
theorem Step.allocImm' {E B0 new σ K w w'} (h : SOK E B0 σ K w) (hB : B0 ≤ w.heap.size) (ho : Only w.heap.size w w') {vals : Array Value} {t : TypeId} {fz : Nat × Nat}
    (hh : w'.heap[w.heap.size]? = some (.cells vals t fz)) : Step E B0 new σ K w σ (K.addI w.heap.size vals.size) w' := by
  have hcn : ∀ i, i < vals.size → w'.cell? (at_ w.heap.size i) = some (vals.getD i undef) := fun i hi => by simp [World.cell?, hh, hi]
  have e : Ext K σ.top w (K.addI w.heap.size vals.size) σ.top w' := by
    refine ⟨fun _ h => ⟨h, rfl, rfl, rfl⟩, fun _ _ => .inl ⟨rfl, rfl, rfl, rfl⟩, fun b i hi => ⟨.inl hi, ?_⟩, fun b hb => ⟨hb, ?_⟩⟩
    · obtain ⟨⟨v, hv⟩, _⟩ := h.I b i hi
      exact cell_of_heap (ho.block b (Nat.ne_of_lt (lt_of_cell hv)) (lt_of_cell hv))
    · obtain ⟨⟨es, clk, hv⟩, _⟩ := h.IM b hb
      exact ho.block b (Nat.ne_of_lt (lt_of_heap hv)) (lt_of_heap hv)
  refine ⟨?_, e, ho.below hB hB, fun b hb => hb, fun _ h => .inl h, fun b o hi => ?_, fun _ h => .inl h⟩
  · refine h.upd ho e (fun _ _ => rfl) (fun r hr => ?_) ?_ ?_ ?_ ?_ ?_ ?_
    · have := h.rho_new
      exact absurd (hr.symm.trans this) (by simp)
    · intro loc s ob hs
      exact .inl ⟨hs, fun hr => by have := (h.rb _ _ ((h.obj _ _ _ hs).2.2 hr)).1; omega⟩
    · intro s hs hlt
      exact .inl ⟨hs, rfl, rfl, rfl, by have := (h.rb _ _ (h.own s hs hlt).2.1).1; omega⟩
    · intro b' i hi
      rcases hi with hi | ⟨rfl, hi⟩
      · obtain ⟨⟨v, hv⟩, _⟩ := h.I b' i hi
        exact .inl ⟨hi, Nat.ne_of_lt (lt_of_cell hv)⟩
      · exact .inr ⟨rfl, ⟨_, hcn _ hi⟩, fun loc hr => absurd (hr.symm.trans h.rho_new) (by simp)⟩
    · intro b' hi
      obtain ⟨⟨es, clk, hv⟩, _⟩ := h.IM b' hi
      exact .inl ⟨hi, Nat.ne_of_lt (lt_of_heap hv)⟩
    · intro l r hl
      exact .inl ⟨hl, by have := (h.rb _ _ (h.loop l r hl).2.2.1).1; omega⟩
    · intro b' hd
      exact .inl ⟨hd, Nat.ne_of_lt (lt_of_heap (h.D b' hd))⟩
  · rcases hi with hi | ⟨rfl, _⟩
    · exact .inl hi
    · exact .inr hB
theorem Step.allocImm {E B0 new σ K w} (h : SOK E B0 σ K w) (hB : B0 ≤ w.heap.size) (vals : Array Value) (t : TypeId) (fz : Nat × Nat) :
    Step E B0 new σ K w σ (K.addI w.heap.size vals.size) (w.alloc (.cells vals t fz)) :=
  Step.allocImm' h hB (only_alloc w _) (heap_alloc_new w _)
/-- A con in which the owned row of stamp s lies anew: block b, spare from lo to hi. -/
def Con.setOwn (K : Con) (s b lo hi : Nat) : Con :=
  { K with A := fun x => K.A x ∨ x = s, ob := upd K.ob s b, lo := upd K.lo s lo, hi := upd K.hi s hi, I := fun b' o => K.I b' o ∨ (b' = b ∧ o < lo), ρ := upd K.ρ b (some (.own s)) }
/-- An owned row in a new block: a new one (¬ K.A s), or one that has grown. -/
theorem Step.allocOwn {E B0 σ K w} (h : SOK E B0 σ K w) (hB : B0 ≤ w.heap.size) (s T' : Nat) (hs : ¬ K.A s ∨ σ.top s < T') (vals : Array Value) (t : TypeId) (lo : Nat) (hlo : lo ≤ vals.size) :
    Step E B0 (· = s) σ K w (σ.setTop s T') (K.setOwn s w.heap.size lo vals.size) (w.alloc (.cells vals t)) := by
  have e : Ext K σ.top w (K.setOwn s w.heap.size lo vals.size) (σ.setTop s T').top (w.alloc (.cells vals t)) := by
    refine ⟨fun _ h => ⟨.inl h, rfl, rfl, rfl⟩, fun x hx => ?_, fun b i hi => ⟨.inl hi, ?_⟩, fun b hb => ⟨hb, ?_⟩⟩
    · by_cases hxs : x = s
      · subst hxs
        right
        show _ < upd σ.top x T' x
        rw [upd_same]
        exact hs.resolve_left (fun hn => hn hx)
      · exact .inl ⟨upd_ne _ _ hxs, upd_ne _ _ hxs, upd_ne _ _ hxs, upd_ne _ _ hxs⟩
    · obtain ⟨⟨v, hv⟩, _⟩ := h.I b i hi
      rw [hv]; exact cell_alloc_old hv
    · obtain ⟨⟨es, clk, hv⟩, _⟩ := h.IM b hb
      exact heap_alloc_old (lt_of_heap hv)
  refine ⟨?_, e, (only_alloc w _).below hB hB, fun b hb => hb, fun _ h => h, fun b o hi => ?_, fun _ h => .inl h⟩
  · refine h.upd (σ' := σ.setTop s T') (only_alloc w _) e (fun k hk => upd_ne _ _ hk) (fun r _ => ⟨by simp, hB⟩) ?_ ?_ ?_ ?_ ?_ ?_
    · intro loc s ob hs
      exact .inl ⟨hs, fun hr => by have := (h.rb _ _ ((h.obj _ _ _ hs).2.2 hr)).1; omega⟩
    · intro x hx hlt
      by_cases hxs : x = s
      · subst hxs
        right
        have q1 : (K.setOwn x w.heap.size lo vals.size).ob x = w.heap.size := upd_same _ _ _
        have q2 : (K.setOwn x w.heap.size lo vals.size).lo x = lo := upd_same _ _ _
        have q3 : (K.setOwn x w.heap.size lo vals.size).hi x = vals.size := upd_same _ _ _
        refine ⟨by rw [q1]; exact hB, by rw [q1]; exact upd_same _ _ _, fun o hl hh => ?_⟩
        rw [q2] at hl
        rw [q3] at hh
        rw [q1]
        refine ⟨?_, ⟨_, cell_alloc_new hh⟩, ?_⟩
        · rintro (hi | ⟨_, hi⟩)
          · obtain ⟨⟨v, hv⟩, _⟩ := h.I _ o hi
            have := lt_of_cell hv
            omega
          · omega
        · have hh' : (w.alloc (.cells vals t)).heap[w.heap.size]? = some (.cells vals t) := heap_alloc_new w _
          unfold World.frozen?
          simp only [hh']
          simp
      · left
        have hA : K.A x := hx.resolve_right hxs
        simp only [Con.setOwn, upd_ne _ _ hxs] at hlt
        refine ⟨hA, upd_ne _ _ hxs, upd_ne _ _ hxs, upd_ne _ _ hxs, ?_⟩
        have := (h.rb _ _ (h.own x hA hlt).2.1).1
        omega
    · intro b' i hi
      rcases hi with hi | ⟨rfl, hi⟩
      · obtain ⟨⟨v, hv⟩, _⟩ := h.I b' i hi
        exact .inl ⟨hi, Nat.ne_of_lt (lt_of_cell hv)⟩
      · refine .inr ⟨rfl, ⟨_, cell_alloc_new (by omega)⟩, fun loc hr => ?_⟩
        simp only [Con.setOwn, upd_same] at hr
        cases hr
    · intro b' hi
      obtain ⟨⟨es, clk, hv⟩, _⟩ := h.IM b' hi
      exact .inl ⟨hi, Nat.ne_of_lt (lt_of_heap hv)⟩
    · intro l r hl
      exact .inl ⟨hl, by have := (h.rb _ _ (h.loop l r hl).2.2.1).1; omega⟩
    · intro b' hd
      exact .inl ⟨hd, Nat.ne_of_lt (lt_of_heap (h.D b' hd))⟩
  · rcases hi with hi | ⟨rfl, _⟩
    · exact .inl hi
    · exact .inr hB
/-- A con in which the owned row of stamp s has taken n of its spare cells. -/
def Con.growOwn (K : Con) (s n : Nat) : Con :=
  { K with lo := upd K.lo s (K.lo s + n), I := fun b' o => K.I b' o ∨ (b' = K.ob s ∧ K.lo s ≤ o ∧ o < K.lo s + n) }
/-- An owned row grows in its place. -/
theorem Step.growOwn {E B0 new σ K w w'} (h : SOK E B0 σ K w) (hB : B0 ≤ w.heap.size) {s n T' : Nat} (hs : K.A s) (hT : σ.top s < T') (hn : 0 < n) (hroom : K.lo s + n ≤ K.hi s)
    (ho : Only (K.ob s) w w') (hnew : ∀ o, K.lo s ≤ o → o < K.lo s + n → ∃ v, w'.cell? (at_ (K.ob s) o) = some v)
    (hold : ∀ o, o < K.lo s ∨ K.lo s + n ≤ o → w'.cell? (at_ (K.ob s) o) = w.cell? (at_ (K.ob s) o)) (hfz : ∀ o, w'.frozen? (at_ (K.ob s) o) = w.frozen? (at_ (K.ob s) o)) :
    Step E B0 new σ K w (σ.setTop s T') (K.growOwn s n) w' := by
  obtain ⟨o1, o2, o3⟩ := h.own s hs (by omega)
  have hcellb := (o3 (K.lo s) (Nat.le_refl _) (by omega)).2.1
  have hnI : ∀ o, K.I (K.ob s) o → o < K.lo s ∨ K.lo s + n ≤ o := fun o hi => by
    rcases Nat.lt_or_ge o (K.lo s) with h1 | h1
    · exact .inl h1
    · rcases Nat.lt_or_ge o (K.hi s) with h2 | h2
      · exact absurd hi (o3 o h1 h2).1
      · exact .inr (by omega)
  have e : Ext K σ.top w (K.growOwn s n) (σ.setTop s T').top w' := by
    refine ⟨fun _ h => ⟨h, rfl, rfl, rfl⟩, fun x hx => ?_, fun b i hi => ⟨.inl hi, ?_⟩, fun b hb => ⟨hb, ?_⟩⟩
    · by_cases hxs : x = s
      · subst hxs
        right
        show _ < upd σ.top x T' x
        rw [upd_same]
        exact hT
      · exact .inl ⟨upd_ne _ _ hxs, rfl, upd_ne _ _ hxs, rfl⟩
    · by_cases hb : b = K.ob s
      · subst hb; exact hold i (hnI i hi)
      · obtain ⟨⟨v, hv⟩, _⟩ := h.I b i hi
        exact cell_of_heap (ho.block b hb (lt_of_cell hv))
    · obtain ⟨⟨es, clk, hv⟩, _⟩ := h.IM b hb
      refine ho.block b ?_ (lt_of_heap hv)
      rintro rfl
      obtain ⟨v, hc⟩ := hcellb
      simp [World.cell?, hv] at hc
  refine ⟨?_, e, ho.below o1 hB, fun b hb => hb, fun _ h => .inl h, fun b o hi => ?_, fun _ h => .inl h⟩
  · refine h.upd (σ' := σ.setTop s T') ho e (fun k _ => rfl) (fun r hr => ⟨Nat.lt_of_lt_of_le (h.rb _ r hr).1 ho.size, o1⟩) ?_ ?_ ?_ ?_ ?_ ?_
    · intro loc x ob hx
      refine .inl ⟨hx, fun hr e' => ?_⟩
      have a := (h.obj _ _ _ hx).2.2 hr
      rw [e', o2] at a
      cases a
    · intro x hx hlt
      by_cases hxs : x = s
      · subst hxs
        right
        simp only [OwnOK, Con.growOwn, upd_same] at hlt ⊢
        refine ⟨o1, o2, fun o hl hh => ⟨?_, ?_, ?_⟩⟩
        · rintro (hi | ⟨_, _, hi⟩)
          · exact (o3 o (by omega) hh).1 hi
          · omega
        · rw [hold o (.inr hl)]; exact (o3 o (by omega) hh).2.1
        · rw [hfz o]; exact (o3 o (by omega) hh).2.2
      · left
        simp only [Con.growOwn, upd_ne _ _ hxs] at hlt
        refine ⟨hx, upd_ne _ _ hxs, rfl, rfl, fun e' => ?_⟩
        have a := (h.own x hx hlt).2.1
        rw [e', o2] at a
        injection a with a
        injection a with a
        exact hxs a.symm
    · intro b' i hi
      rcases hi with hi | ⟨rfl, hi1, hi2⟩
      · by_cases hb : b' = K.ob s
        · subst hb
          obtain ⟨⟨v, hv⟩, hr⟩ := h.I _ i hi
          exact .inr ⟨rfl, ⟨v, by rw [hold i (hnI i hi)]; exact hv⟩, hr⟩
        · exact .inl ⟨hi, hb⟩
      · exact .inr ⟨rfl, hnew i hi1 hi2, fun loc hr => by
          have : K.ρ (K.ob s) = some (.obj loc) := hr
          rw [o2] at this; cases this⟩
    · intro b' hi
      obtain ⟨⟨es, clk, hv⟩, _⟩ := h.IM b' hi
      refine .inl ⟨hi, ?_⟩
      rintro rfl
      obtain ⟨v, hc⟩ := hcellb
      simp [World.cell?, hv] at hc
    · intro l r hl
      refine .inl ⟨hl, fun e' => ?_⟩
      have a := (h.loop l r hl).2.2.1
      rw [e', o2] at a
      cases a
    · intro b' hd
      refine .inl ⟨hd, ?_⟩
      rintro rfl
      obtain ⟨v, hc⟩ := hcellb
      simp [World.cell?, h.D _ hd] at hc
  · rcases hi with hi | ⟨rfl, _⟩
    · exact .inl hi
    · exact .inr o1
/-- An object moves to another place and stamp, in its block, whose cells are as given. -/
theorem Step.moveObj {E B0 σ K w w'} (h : SOK E B0 σ K w) (hB : B0 ≤ w.heap.size) {loc0 loc : Loc} {s0 st : Nat} {cs0 cs : List V} {vals vals' : Array Value} {t : TypeId} (hst : ¬ K.A st)
    (hs : σ.obj loc0 = some (s0, .cells cs0)) (hne : cs0 ≠ []) (hv : w.heap[K.blk s0]? = some (.cells vals t (0, 0))) (ho : Only (K.blk s0) w w')
    (hv' : w'.heap[K.blk s0]? = some (.cells vals' t (0, 0))) (hne' : cs ≠ []) (hl : cs.length ≤ vals'.size)
    (hr : ∀ K', Ext K σ.top w K' σ.top w' → ∀ i, i < cs.length → Rel K' σ.top w' (cs.getD i undefV) (vals'.getD i undef)) :
    Step E B0 (· = st) σ K w ((σ.delObj loc0).setObj loc st (.cells cs)) (K.addObj st (K.blk s0) vals'.size loc) w' := by
  have hreal : (AObj.cells cs0).real := by cases cs0 with | nil => exact absurd rfl hne | cons _ _ => trivial
  obtain ⟨hA, hob, hρ⟩ := h.obj _ _ _ hs
  obtain ⟨hb0, vals0, t0, g1, g2, g3, g4⟩ := hob.2 hne
  have hnes : ∀ s, K.A s → s ≠ st := fun s hs e => hst (e ▸ hs)
  have e0 := h.ext_obj hs hreal ho σ.top rfl
  have e : Ext K σ.top w (K.addObj st (K.blk s0) vals'.size loc) σ.top w' :=
    ⟨fun s hs => ⟨.inl hs, upd_ne _ _ (hnes s hs), rfl, upd_ne _ _ (hnes s hs)⟩, fun s hs => .inl ⟨rfl, rfl, upd_ne _ _ (hnes s hs), upd_ne _ _ (hnes s hs)⟩, e0.I, e0.IM⟩
  refine ⟨?_, e, ho.below hb0 hB, fun _ h => h, fun _ h => h, fun _ _ h => .inl h, fun _ h => .inl h⟩
  refine h.upd (σ' := (σ.delObj loc0).setObj loc st (.cells cs)) ho e (fun k hk => upd_ne _ _ hk) (fun r _ => ⟨Nat.lt_of_lt_of_le (lt_of_heap hv) ho.size, hb0⟩) ?_ ?_ ?_ ?_ ?_ ?_
  · intro loc' s' ob' hs'
    by_cases hl' : loc' = loc
    · subst hl'
      right
      simp only [Sig.setObj, upd_same, Option.some.injEq, Prod.mk.injEq] at hs'
      obtain ⟨rfl, rfl⟩ := hs'
      refine ⟨.inr rfl, ⟨fun h0 => absurd h0 hne', fun _ => ⟨?_, vals', t, ?_, ?_, hl, hr _ e⟩⟩, fun _ => ?_⟩
      · show B0 ≤ upd K.blk st (K.blk s0) st
        rw [upd_same]; exact hb0
      · show w'.heap[upd K.blk st (K.blk s0) st]? = _
        rw [upd_same]; exact hv'
      · show _ = upd K.sz st _ st
        rw [upd_same]
      · show upd K.ρ (K.blk s0) _ (upd K.blk st (K.blk s0) st) = _
        rw [upd_same, upd_same]
    · left
      simp only [Sig.setObj, Sig.delObj, upd_ne _ _ hl'] at hs'
      by_cases hl0 : loc' = loc0
      · subst hl0; rw [upd_same] at hs'; cases hs'
      · rw [upd_ne _ _ hl0] at hs'
        exact ⟨hs', fun hr' => h.obj_ne hs' hs hl0 hr' hreal⟩
  · intro s' hs' hlt
    have hs'' : s' ≠ st := by
      rintro rfl
      simp only [Con.addObj, upd_same] at hlt
      omega
    have hA' : K.A s' := hs'.resolve_right hs''
    simp only [Con.addObj, upd_ne _ _ hs''] at hlt
    have ⟨a1, a2, a3⟩ := h.own s' hA' hlt
    refine .inl ⟨hA', upd_ne _ _ hs'', upd_ne _ _ hs'', rfl, fun e' => ?_⟩
    rw [e', hρ hreal] at a2
    cases a2
  · intro b' i hi
    exact .inl ⟨hi, fun e' => (h.I b' i hi).2 loc0 (e' ▸ hρ hreal)⟩
  · intro b' hi
    exact .inl ⟨hi, fun e' => (h.IM b' hi).2 loc0 (e' ▸ hρ hreal)⟩
  · intro l r hl'
    exact .inl ⟨hl', h.loop_ne hl' hv⟩
  · intro b' hd
    exact .inl ⟨hd, ne_of_heap (h.D b' hd) hv (by simp)⟩
/-- A map object is changed. -/
theorem Step.setMap {E B0 new σ K w w'} (h : SOK E B0 σ K w) (hB : B0 ≤ w.heap.size) {loc : Loc} {s : Nat} {ks vs ks' vs' : List V} {es es' : Array MapEntry} {clk clk' : Nat}
    (hs : σ.obj loc = some (s, .map ks vs)) (hv : w.heap[K.blk s]? = some (.map es clk)) (ho : Only (K.blk s) w w') (hv' : w'.heap[K.blk s]? = some (.map es' clk'))
    (hk : ks'.length = es'.size) (hvl : vs'.length = es'.size)
    (hr : Ext K σ.top w K σ.top w' → (∀ i, i < es'.size → Rel K σ.top w' (ks'.getD i undefV) (es'.getD i default).key) ∧ (∀ i, i < es'.size → Rel K σ.top w' (vs'.getD i undefV) (es'.getD i default).val)) :
    Step E B0 new σ K w (σ.setObj loc s (.map ks' vs')) K w' := by
  have hreal : (AObj.map ks vs).real := trivial
  obtain ⟨hA, hob, hρ⟩ := h.obj _ _ _ hs
  obtain ⟨hb0, _⟩ := hob
  have e := h.ext_obj hs hreal ho σ.top rfl
  refine ⟨?_, e, ho.below hb0 hB, fun _ h => h, fun _ h => .inl h, fun _ _ h => .inl h, fun _ h => .inl h⟩
  refine h.upd (σ' := σ.setObj loc s (.map ks' vs')) ho e (fun _ _ => rfl) (fun r hr' => ⟨Nat.lt_of_lt_of_le (h.rb _ r hr').1 ho.size, hb0⟩) ?_ ?_ ?_ ?_ ?_ ?_
  · intro loc' s' ob' hs'
    by_cases hl' : loc' = loc
    · subst hl'
      right
      simp only [Sig.setObj, upd_same, Option.some.injEq, Prod.mk.injEq] at hs'
      obtain ⟨rfl, rfl⟩ := hs'
      exact ⟨hA, ⟨hb0, es', clk', hv', hk, hvl, hr e⟩, fun _ => hρ hreal⟩
    · left
      simp only [Sig.setObj, upd_ne _ _ hl'] at hs'
      exact ⟨hs', fun hr' => h.obj_ne hs' hs hl' hr' hreal⟩
  · intro s' hs' hlt
    have ⟨a1, a2, a3⟩ := h.own s' hs' hlt
    refine .inl ⟨hs', rfl, rfl, rfl, fun e' => ?_⟩
    rw [e', hρ hreal] at a2
    cases a2
  · intro b' i hi
    exact .inl ⟨hi, fun e' => (h.I b' i hi).2 loc (e' ▸ hρ hreal)⟩
  · intro b' hi
    exact .inl ⟨hi, fun e' => (h.IM b' hi).2 loc (e' ▸ hρ hreal)⟩
  · intro l r hl'
    obtain ⟨_, _, _, fn, tmps, D, hh, _⟩ := h.loop l r hl'
    exact .inl ⟨hl', ne_of_heap hh hv (by simp)⟩
  · intro b' hd
    exact .inl ⟨hd, ne_of_heap (h.D b' hd) hv (by simp)⟩
end Aq
end
section
namespace Aq
open Go Go.RowKit
theorem ofScalar_rel {K T w} {v : Value} {z : V} (h : ofScalar v = some z) : Rel K T w z v := by
  cases v with
  | bool b => simp only [ofScalar, Option.some.injEq] at h; subst h; exact .bool b
  | int k n => simp only [ofScalar, Option.some.injEq] at h; subst h; exact .int k n
  | string s => simp only [ofScalar, Option.some.injEq] at h; subst h; exact .str _ s rfl
  | pointer a =>
    cases a with
    | none => simp only [ofScalar, Option.some.injEq] at h; subst h; exact .nilp
    | some a => simp [ofScalar] at h
  | slice a n c =>
    cases a with
    | none =>
      cases n with
      | zero =>
        cases c with
        | zero => simp only [ofScalar, Option.some.injEq] at h; subst h; exact .lstNil .nil none (fun _ => rfl) trivial
        | succ c => simp [ofScalar] at h
      | succ n => simp [ofScalar] at h
    | some a => simp [ofScalar] at h
  | map r =>
    cases r with
    | none => simp only [ofScalar, Option.some.injEq] at h; subst h; exact .nilm
    | some a => simp [ofScalar] at h
  | nilFunc => simp only [ofScalar, Option.some.injEq] at h; subst h; exact .nilf
  | nilIface => simp only [ofScalar, Option.some.injEq] at h; subst h; exact .nili
  | _ => simp [ofScalar] at h
theorem ofScalar_raw {v : Value} {z : V} (h : ofScalar v = some z) : notRaw z = true := by
  cases z with
  | raw x => cases v with
    | slice a n c => cases a <;> cases n <;> cases c <;> simp [ofScalar] at h
    | pointer a => cases a <;> simp [ofScalar] at h
    | map a => cases a <;> simp [ofScalar] at h
    | _ => simp [ofScalar] at h
  | _ => rfl
theorem ofValue_raw {v : Value} {z : V} (h : ofValue v = some z) : notRaw z = true := by
  cases v with
  | agg cs => simp only [ofValue, Option.map_eq_some_iff] at h; obtain ⟨r, _, rfl⟩ := h; rfl
  | tuple cs => simp only [ofValue, Option.map_eq_some_iff] at h; obtain ⟨r, _, rfl⟩ := h; rfl
  | _ => exact ofScalar_raw (v := _) (by unfold ofValue at h; exact h)
theorem mapM_some {α β : Type} {f : α → Option β} : ∀ {l : List α} {r : List β}, l.mapM f = some r → l.length = r.length ∧ ∀ i (h : i < l.length), ∃ (h' : i < r.length), f l[i] = some r[i]
  | [], r, h => by simp at h; subst h; exact ⟨rfl, fun i hi => absurd hi (Nat.not_lt_zero i)⟩
  | a :: l, r, h => by
    simp only [List.mapM_cons, Option.pure_def, Option.bind_eq_bind] at h
    cases ha : f a with
    | none => simp [ha] at h
    | some x =>
      cases hl : l.mapM f with
      | none => simp [ha, hl] at h
      | some r' =>
        simp only [ha, hl, Option.bind_some, Option.some.injEq] at h
        subst h
        obtain ⟨h1, h2⟩ := mapM_some hl
        refine ⟨by simp [h1], fun i hi => ?_⟩
        cases i with
        | zero => exact ⟨by simp, ha⟩
        | succ i =>
          obtain ⟨h3, h4⟩ := h2 i (by simpa using hi)
          exact ⟨by simpa using h3, by simpa using h4⟩
theorem getD_of_lt {α : Type} {l : List α} {i : Nat} (h : i < l.length) (d : α) : l.getD i d = l[i] := by simp [List.getD, h]
theorem agetD_of_lt {α : Type} {l : Array α} {i : Nat} (h : i < l.size) (d : α) : l.getD i d = l[i] := by simp [Array.getD, h]
theorem ofValue_rel {K T w} {v : Value} {z : V} (h : ofValue v = some z) : Rel K T w z v := by
  have hsc : ∀ (cs : Array Value) (r : List V), cs.toList.mapM ofScalar = some r → r.length = cs.size ∧ ∀ i, i < r.length → Rel K T w (r.getD i undefV) (cs.getD i undef) := by
    intro cs r hr
    obtain ⟨h1, h2⟩ := mapM_some hr
    have h1' : r.length = cs.size := by rw [← h1]; simp
    refine ⟨h1', fun i hi => ?_⟩
    obtain ⟨h3, h4⟩ := h2 i (by omega)
    rw [getD_of_lt h3, agetD_of_lt (by omega)]
    exact ofScalar_rel (by simpa using h4)
  cases v with
  | agg cs =>
    simp only [ofValue, Option.map_eq_some_iff] at h
    obtain ⟨r, hr, rfl⟩ := h
    obtain ⟨h1, h2⟩ := hsc cs r hr
    exact .agg r cs h1 h2
  | tuple cs =>
    simp only [ofValue, Option.map_eq_some_iff] at h
    obtain ⟨r, hr, rfl⟩ := h
    obtain ⟨h1, h2⟩ := hsc cs r hr
    exact .tup r cs h1 h2
  | _ => exact ofScalar_rel h
theorem ev_rel {E B0 σ K w} (h : SOK E B0 σ K w) {fr : Fr} {a : Act} (hf : FrRel K σ.top w fr a.tmps) (x : Operand) : Rel K σ.top w (fr.ev E x) (a.eval x) := by
  cases x with
  | tmp t => exact hf t
  | const v =>
    simp only [Fr.ev, Act.eval]
    cases hv : ofValue v with
    | none => exact .raw v
    | some z => exact ofValue_rel hv
  | global g =>
    simp only [Fr.ev, Act.eval]
    cases hg : E.glob g with
    | none => exact .raw _
    | some cs => exact h.glob g cs hg
  | func f => exact .fn f [] [] #[] #[] rfl rfl (fun i hi => absurd hi (Nat.not_lt_zero i)) (fun i hi => absurd hi (Nat.not_lt_zero i))
theorem cells_rel {K T w} {v : V} {c : Value} (h : Rel K T w v c) (hr : notRaw v = true) :
    v.cells.length = c.cells.size ∧ ∀ i, i < v.cells.length → Rel K T w (v.cells.getD i undefV) (c.cells.getD i undef) := by
  have one : ∀ {v : V} {c : Value}, Rel K T w v c → v.cells = [v] → c.cells = #[c] → v.cells.length = c.cells.size ∧ ∀ i, i < v.cells.length → Rel K T w (v.cells.getD i undefV) (c.cells.getD i undef) := by
    intro v c h h1 h2
    rw [h1, h2]
    refine ⟨rfl, fun i hi => ?_⟩
    obtain rfl : i = 0 := by simp at hi; omega
    exact h
  cases h with
  | agg cs vs hl h => exact ⟨hl, h⟩
  | raw v => simp [notRaw] at hr
  | tup cs vs hl h => exact one (.tup cs vs hl h) rfl rfl
  | int k n => exact one (.int k n) rfl rfl
  | bool b => exact one (.bool b) rfl rfl
  | str s b h => exact one (.str s b h) rfl rfl
  | nilp => exact one .nilp rfl rfl
  | nilf => exact one .nilf rfl rfl
  | nilm => exact one .nilm rfl rfl
  | nili => exact one .nili rfl rfl
  | lstNil c a ha hc => exact one (.lstNil c a ha hc) rfl rfl
  | lst c l b o n cap val h1 h2 h3 h4 h5 => exact one (.lst c l b o n cap val h1 h2 h3 h4 h5) rfl rfl
  | vw loc s off len cap esz ag capc h1 h2 h3 h4 => exact one (.vw loc s off len cap esz ag capc h1 h2 h3 h4) rfl rfl
  | vwNil loc s esz ag h1 => exact one (.vwNil loc s esz ag h1) rfl rfl
  | cref cs off b o val h1 h2 => exact one (.cref cs off b o val h1 h2) rfl rfl
  | ref loc s off h1 => exact one (.ref loc s off h1) rfl rfl
  | fn f a b av bv h1 h2 h3 h4 => exact one (.fn f a b av bv h1 h2 h3 h4) rfl rfl
  | yield l h1 => exact one (.yield l h1) rfl rfl
  | mapr loc s h1 => exact one (.mapr loc s h1) rfl rfl
  | mapc ks vs b es clk h1 h2 h3 h4 h5 h6 => exact one (.mapc ks vs b es clk h1 h2 h3 h4 h5 h6) rfl rfl
  | iface t v c h => exact one (.iface t v c h) rfl rfl
theorem oneCell_rel {K T w} {v : V} {c : Value} (h : Rel K T w v c) (ho : oneCell v = true) : c.oneCell' = true ∧ c.cells = #[c] ∧ v.cells = [v] := by
  cases h <;> first | (simp [oneCell] at ho; done) | exact ⟨rfl, rfl, rfl⟩
section types
variable {P : Program} {t : TypeId} (w : World)
theorem run_typeInfo' {i : TypeInfo} (h : P.info? t = some i) : (typeInfo t).run P w = .ok i w := by simp [typeInfo, h]
theorem run_sizeOf' {n : Nat} (h : szT P t = some n) : (Go.sizeOf t).run P w = .ok n w := by
  simp only [szT, Option.map_eq_some_iff] at h
  obtain ⟨i, hi, rfl⟩ := h
  simp [Go.sizeOf, run_typeInfo' w hi]
theorem run_isAgg {b : Bool} (h : isAggT P t = some b) : (isAgg t).run P w = .ok b w := by
  simp only [isAggT, Option.map_eq_some_iff] at h
  obtain ⟨d, hd, rfl⟩ := h
  simp only [isAgg, Sem.run_bind, run_underlying hd, Result.andThen_ok]
  cases d <;> rfl
theorem run_zeroValue {z : V} (h : zeroT P t = some z) : ∃ c, (zeroValue t).run P w = .ok c w ∧ ∀ K T, Rel K T w z c := by
  simp only [zeroT, Option.bind_eq_some_iff] at h
  obtain ⟨v, ⟨i, hi, hz⟩, hv⟩ := h
  exact ⟨v, by simp [zeroValue, run_typeInfo' w hi, hz], fun K T => ofValue_rel hv⟩
theorem zeroT_raw {z : V} (h : zeroT P t = some z) : notRaw z = true := by
  simp only [zeroT, Option.bind_eq_some_iff] at h
  obtain ⟨v, _, hv⟩ := h
  exact ofValue_raw hv
theorem elemT_some {e : TypeId} (h : elemT P t = some e) : P.underlying t = some (.slice e) := by
  unfold elemT at h
  split at h <;> simp_all
theorem arrT_some {n : Nat} {e : TypeId} (h : arrT P t = some (n, e)) : P.underlying t = some (.array n e) := by
  unfold arrT at h
  split at h <;> simp_all
theorem mapT_some {k e : TypeId} (h : mapT P t = some (k, e)) : P.underlying t = some (.map k e) := by
  unfold mapT at h
  split at h <;> simp_all
theorem fieldT_some {f o : Nat} {u : TypeId} (h : fieldT P t f = some (o, u)) : ∃ fs g n, P.underlying t = some (.struct fs) ∧ fs[f]? = some g ∧ g.offset = o ∧ g.type = u ∧ szT P u = some (n + 1) := by
  unfold fieldT at h
  split at h
  · rename_i fs hu
    simp only [Option.bind_eq_some_iff] at h
    obtain ⟨g, hg, h⟩ := h
    split at h
    · rename_i n hn
      simp only [Option.some.injEq, Prod.mk.injEq] at h
      exact ⟨fs, g, n, hu, hg, h.1, h.2, by rw [← h.2]; exact hn⟩
    · simp at h
  · simp at h
end types
theorem addr_add (b o n : Nat) : (at_ b o).add n = at_ b (o + n) := by
  unfold Addr.add
  split
  · subst_vars; rfl
  · rfl
/-- What lies in cells, read as a type. -/
theorem ldT_sound {P : Program} {K T} {w : World} {t : TypeId} {cs : List V} {off : Nat} {v : V} {b o : Nat} (val : Nat → Value)
    (hc : ∀ i, i < cs.length → w.cell? (at_ b (o + i)) = some (val i)) (hr : ∀ i, i < cs.length → Rel K T w (cs.getD i undefV) (val i)) (h : ldT P t cs off = some v) :
    ∃ c, (loadVar t (at_ b (o + off))).run P w = .ok c w ∧ Rel K T w v c := by
  simp only [ldT, Option.bind_eq_some_iff] at h
  obtain ⟨ag, hag, n, hn, h⟩ := h
  simp only [loadVar, Sem.run_bind, run_isAgg w hag, Result.andThen_ok]
  cases ag with
  | true =>
    simp only [partV, if_true] at h
    split at h
    · rename_i hle
      simp only [Option.some.injEq] at h
      subst h
      have hl := run_loadCells (P := P) w (at_ b (o + off)) n (fun j => val (off + j)) (fun j hj => by
        rw [addr_add, Nat.add_assoc]; exact hc _ (by omega))
      refine ⟨.agg ((List.range n).map fun j => val (off + j)).toArray, by simp [run_sizeOf' w hn, hl], ?_⟩
      refine .agg _ _ (by simp; omega) (fun i hi => ?_)
      simp only [List.length_take, List.length_drop] at hi
      have hi' : i < n := by omega
      have e1 : ((cs.drop off).take n).getD i undefV = cs.getD (off + i) undefV := by
        simp [List.getD, hi', List.getElem?_drop]
      have e2 : (((List.range n).map fun j => val (off + j)).toArray).getD i undef = val (off + i) := by
        simp [Array.getD, hi']
      rw [e1, e2]
      exact hr _ (by omega)
    · simp at h
  | false =>
    simp only [partV, Bool.false_eq_true, if_false] at h
    have hlt : off < cs.length := (List.getElem?_eq_some_iff.1 h).1
    have hv : cs[off] = v := (List.getElem?_eq_some_iff.1 h).2
    refine ⟨val off, by simp [hc off hlt], ?_⟩
    have := hr off hlt
    rwa [getD_of_lt hlt, hv] at this
/-- A part of an aggregate that is no variable. -/
theorem part_sound {P : Program} {K T} {w : World} {t : TypeId} {cs : List V} {vs : Array Value} {off : Nat} {v : V} (hl : cs.length = vs.size)
    (hr : ∀ i, i < cs.length → Rel K T w (cs.getD i undefV) (vs.getD i undef)) (h : ldT P t cs off = some v) :
    ∃ c, (part t vs off).run P w = .ok c w ∧ Rel K T w v c := by
  simp only [ldT, Option.bind_eq_some_iff] at h
  obtain ⟨ag, hag, n, hn, h⟩ := h
  simp only [part, Sem.run_bind, run_isAgg w hag, Result.andThen_ok]
  cases ag with
  | true =>
    simp only [partV, if_true] at h
    split at h
    · rename_i hle
      simp only [Option.some.injEq] at h
      subst h
      refine ⟨.agg (vs.extract off (off + n)), by simp [run_sizeOf' w hn], ?_⟩
      refine .agg _ _ (by simp; omega) (fun i hi => ?_)
      simp only [List.length_take, List.length_drop] at hi
      have hi' : i < n := by omega
      have e1 : ((cs.drop off).take n).getD i undefV = cs.getD (off + i) undefV := by
        simp [List.getD, hi', List.getElem?_drop]
      have e2 : (vs.extract off (off + n)).getD i undef = vs.getD (off + i) undef := by
        have : off + i < vs.size := by omega
        simp [Array.getD, this, show i < min (off + n) vs.size - off by omega]
      rw [e1, e2]
      exact hr _ (by omega)
    · simp at h
  | false =>
    simp only [partV, Bool.false_eq_true, if_false] at h
    have hlt : off < cs.length := (List.getElem?_eq_some_iff.1 h).1
    have hv : cs[off] = v := (List.getElem?_eq_some_iff.1 h).2
    have hlt' : off < vs.size := by omega
    refine ⟨vs.getD off undef, by simp [hlt', Array.getD], ?_⟩
    have := hr off hlt
    rwa [getD_of_lt hlt, hv] at this
end Aq
end
section
namespace Aq
open Go Go.RowKit
def Ran (P : Program) (o : Oper) (a : Act) (w : World) (c : Value) (w' : World) : Prop :=
  (execOp a.eval o).run P w = .ok (.value c) w' ∨ ((execOp a.eval o).run P w = .ok .skip w' ∧ c = undef)
theorem str_beq {a b : ByteArray} : (a.data.toList == b.data.toList) = (a == b) := by
  rw [beq_toListBytes, ByteArray.toList_eq, ByteArray.toList_eq]
section eq
variable {P : Program} {K : Con} {T : Nat → Nat} (w : World)
def eqElemsM (d : Nat) (e : TypeId) (n : Nat) (xs ys : Array Value) : List Nat → Sem Bool
  | [] => pure true
  | i :: is => do
    let a ← part e xs (i * n)
    let b ← part e ys (i * n)
    let r ← Go.Op.equalIn d e a b
    if (!r) = true then pure false else eqElemsM d e n xs ys is
theorem run_equalIn_array (d : Nat) (t e : TypeId) (len n : Nat) (xs ys : Array Value) (ht : P.underlying t = some (.array len e)) (hn : szT P e = some n) :
    (Go.Op.equalIn (d + 1) t (.agg xs) (.agg ys)).run P w = (eqElemsM d e n xs ys (List.range len)).run P w := by
  simp only [Go.Op.equalIn, Sem.run_bind, run_underlying ht, Result.andThen_ok, run_sizeOf' w hn]
  rw [Std.Legacy.Range.forIn_eq_forIn_range']
  simp only [Std.Legacy.Range.size, Nat.sub_zero, Nat.add_sub_cancel, Nat.div_one, ← List.range_eq_range']
  generalize List.range len = is
  clear ht
  induction is generalizing w with
  | nil => simp [eqElemsM]
  | cons i is ih =>
    simp only [List.forIn_cons, eqElemsM, Sem.run_bind, Sem.run_ite]
    generalize (part e xs (i * n)).run P w = r1
    cases r1 with
    | ok a w1 =>
      simp only [Result.andThen_ok]
      generalize (part e ys (i * n)).run P w1 = r2
      cases r2 with
      | ok b w2 =>
        simp only [Result.andThen_ok]
        generalize (Go.Op.equalIn d e a b).run P w2 = r3
        cases r3 with
        | ok r w3 =>
          cases r
          · simp only [Result.andThen_ok, Bool.not_false, if_true, Sem.run_pure]
          · simp only [Result.andThen_ok, Bool.not_true, Bool.false_eq_true, if_false, Sem.run_pure]
            exact ih w3
        | halt x w3 => simp [Result.andThen]
      | halt x w2 => simp [Result.andThen]
    | halt x w1 => simp [Result.andThen]
theorem eqT_sound : ∀ (d n : Nat), d ≤ n → ∀ (t : TypeId) (x y : V) (cx cy : Value) (r : Bool), Rel K T w x cx → Rel K T w y cy → eqT P d t x y = some r →
    (Go.Op.equalIn n t cx cy).run P w = .ok r w
  | 0, _, _, _, _, _, _, _, _, _, _, h => by simp [eqT] at h
  | d + 1, 0, hd, _, _, _, _, _, _, _, _, _ => by omega
  | d + 1, n + 1, hd, t, x, y, cx, cy, r, hx, hy, h => by
    have ih := eqT_sound d n (by omega)
    unfold eqT at h
    split at h
    · rename_i a b hu
      cases hx; cases hy
      simp only [Option.some.injEq] at h; subst h
      simp [Go.Op.equalIn, run_underlying hu]
    · rename_i kk k a k' b hu
      cases hx; cases hy
      split at h
      · rename_i hk
        subst hk
        simp only [Option.some.injEq] at h; subst h
        simp [Go.Op.equalIn, run_underlying hu]
      · simp at h
    · rename_i a b hu
      cases hx with | str _ ba ha => cases hy with | str _ bb hb =>
      simp only [Option.some.injEq] at h; subst h
      subst ha; subst hb
      simp only [Go.Op.equalIn, Sem.run_bind, run_underlying hu, Result.andThen_ok, Sem.run_pure, str_beq]
    · rename_i fs xs ys hu
      split at h
      · simp at h
      · rename_i hsi
        cases hx with | agg _ vx hlx hrx => cases hy with | agg _ vy hly hry =>
        have hf : P.fieldsOf t = fs := by simp [Program.fieldsOf, hu]
        rw [run_equalIn_struct w n t vx vy (by rw [hf]; exact hu) (by simpa using hsi), hf]
        generalize fs.toList = l at h ⊢
        clear hf hu
        induction l generalizing r with
        | nil => simp only [eqFl, Option.some.injEq] at h; subst h; rfl
        | cons f l ihl =>
          simp only [eqFl] at h
          simp only [Op.eqFields]
          split at h
          · rename_i hn
            simp only [hn, ne_eq, not_true_eq_false, if_false]
            exact ihl r h
          · rename_i hn
            simp only [Option.bind_eq_some_iff, Option.map_eq_some_iff] at h
            obtain ⟨a, ha, b, hb, q, hq, r', hr', rfl⟩ := h
            obtain ⟨ca, ra, rela⟩ := part_sound hlx hrx ha
            obtain ⟨cb, rb, relb⟩ := part_sound hly hry hb
            simp only [hn, ne_eq, not_false_eq_true, if_true, Sem.run_bind, ra, rb, Result.andThen_ok, ih f.type a b ca cb q rela relb hq, Sem.run_ite]
            cases q
            · simp
            · simpa using ihl r' hr'
    · rename_i len e xs ys hu
      simp only [Option.bind_eq_some_iff] at h
      obtain ⟨sz, hsz, h⟩ := h
      cases hx with | agg _ vx hlx hrx => cases hy with | agg _ vy hly hry =>
      rw [run_equalIn_array w n t e len sz vx vy hu hsz]
      generalize List.range len = l at h ⊢
      clear hu
      induction l generalizing r with
      | nil => simp only [eqEl, Option.some.injEq] at h; subst h; rfl
      | cons i l ihl =>
        simp only [eqEl] at h
        simp only [eqElemsM]
        simp only [Option.bind_eq_some_iff, Option.map_eq_some_iff] at h
        obtain ⟨a, ha, b, hb, q, hq, r', hr', rfl⟩ := h
        obtain ⟨ca, ra, rela⟩ := part_sound hlx hrx ha
        obtain ⟨cb, rb, relb⟩ := part_sound hly hry hb
        simp only [Sem.run_bind, ra, rb, Result.andThen_ok, ih e a b ca cb q rela relb hq, Sem.run_ite]
        cases q
        · simp
        · simpa using ihl r' hr'
    · simp at h
/-- '==' at two values, the guard before it. -/
theorem eqV_sound' {op : BinOp} (n : Nat) (hn : 8 ≤ n + 1) (t : TypeId) (x y : V) (cx cy : Value) (r : Bool) (ox oy : Operand) (hx : Rel K T w x cx) (hy : Rel K T w y cy) (h : eqV P t x y = some r) :
    (eqGuard op t ox oy cx cy).run P w = .ok () w ∧ (Go.Op.equalIn (n + 1) t cx cy).run P w = .ok r w := by
  unfold eqV at h
  split at h
  · rename_i hu
    cases hx; cases hy; simp only [Option.some.injEq] at h; subst h
    exact ⟨by cases op <;> rfl, by simp [Go.Op.equalIn, run_underlying hu]⟩
  · rename_i hu
    cases hx; cases hy <;> (simp only [Option.some.injEq] at h; subst h; exact ⟨by cases op <;> rfl, by simp [Go.Op.equalIn, run_underlying hu]⟩)
  · rename_i hu
    cases hy; cases hx <;> (simp only [Option.some.injEq] at h; subst h; exact ⟨by cases op <;> rfl, by simp [Go.Op.equalIn, run_underlying hu]⟩)
  · rename_i hu
    cases hx; cases hy; simp only [Option.some.injEq] at h; subst h
    exact ⟨by cases op <;> rfl, by simp [Go.Op.equalIn, run_underlying hu]⟩
  · rename_i hu
    cases hx; cases hy; simp only [Option.some.injEq] at h; subst h
    exact ⟨by cases op <;> rfl, by simp [Go.Op.equalIn, run_underlying hu]⟩
  · rename_i hu
    cases hx; cases hy; simp only [Option.some.injEq] at h; subst h
    exact ⟨by cases op <;> rfl, by simp [Go.Op.equalIn, run_underlying hu]⟩
  · rename_i hu
    cases hx; cases hy; simp only [Option.some.injEq] at h; subst h
    exact ⟨by cases op <;> rfl, by simp [Go.Op.equalIn, run_underlying hu]⟩
  · rename_i hu
    cases hx; cases hy; simp only [Option.some.injEq] at h; subst h
    exact ⟨by cases op <;> rfl, by simp [Go.Op.equalIn, run_underlying hu]⟩
  · rename_i hu
    simp only [Option.some.injEq] at h; subst h
    cases hx with
    | lst _ _ _ _ _ _ _ _ _ _ _ hc => exact hc.elim
    | lstNil _ a ha _ => cases hy with
      | lst _ _ _ _ _ _ _ _ _ _ _ hc => exact hc.elim
      | lstNil _ a' ha' _ =>
        cases ha rfl
        cases ha' rfl
        exact ⟨by cases op <;> rfl, by simp [Go.Op.equalIn, run_underlying hu]⟩
  · rename_i hu
    simp only [Option.some.injEq] at h; subst h
    cases hx with
    | lst _ _ _ _ _ _ _ _ _ _ _ hc => exact hc.elim
    | lstNil _ a ha _ => cases ha rfl; cases hy with
      | lst _ _ _ _ _ _ _ _ _ _ _ hc => exact ⟨by cases op <;> rfl, by simp [Go.Op.equalIn, run_underlying hu]⟩
  · rename_i hu
    simp only [Option.some.injEq] at h; subst h
    cases hy with
    | lst _ _ _ _ _ _ _ _ _ _ _ hc => exact hc.elim
    | lstNil _ a ha _ => cases ha rfl; cases hx with
      | lst _ _ _ _ _ _ _ _ _ _ _ hc => exact ⟨by cases op <;> rfl, by simp [Go.Op.equalIn, run_underlying hu]⟩
  · rename_i hu
    cases hx; cases hy; simp only [Option.some.injEq] at h; subst h
    exact ⟨by cases op <;> rfl, by simp [Go.Op.equalIn, run_underlying hu]⟩
  · rename_i hu
    cases hx; cases hy; simp only [Option.some.injEq] at h; subst h
    exact ⟨by cases op <;> rfl, by simp [Go.Op.equalIn, run_underlying hu]⟩
  · rename_i hu
    cases hx; cases hy; simp only [Option.some.injEq] at h; subst h
    exact ⟨by cases op <;> rfl, by simp [Go.Op.equalIn, run_underlying hu]⟩
  · rename_i hu
    cases hx; cases hy; simp only [Option.some.injEq] at h; subst h
    exact ⟨by cases op <;> rfl, by simp [Go.Op.equalIn, run_underlying hu]⟩
  · rename_i hu
    cases hx; cases hy; simp only [Option.some.injEq] at h; subst h
    exact ⟨by cases op <;> rfl, by simp [Go.Op.equalIn, run_underlying hu]⟩
  · rename_i hu
    split at h
    · simp at h
    · rename_i hg
      refine ⟨?_, eqT_sound w 8 (n + 1) hn t _ _ cx cy r hx hy h⟩
      cases hx; cases hy
      exact run_eqGuard_agg w op t ox oy _ _ (by simpa using hg)
  · rename_i hu
    split at h
    · simp at h
    · rename_i hg
      refine ⟨?_, eqT_sound w 8 (n + 1) hn t _ _ cx cy r hx hy h⟩
      cases hx; cases hy
      exact run_eqGuard_agg w op t ox oy _ _ (by simpa using hg)
  · rename_i hu
    cases hx; cases hy; simp only [Option.some.injEq] at h; subst h
    exact ⟨by cases op <;> rfl, by simp [Go.Op.equalIn, run_underlying hu]⟩
  · simp at h
theorem eqV_sound {op : BinOp} (t : TypeId) (x y : V) (cx cy : Value) (r : Bool) (ox oy : Operand) (hx : Rel K T w x cx) (hy : Rel K T w y cy) (h : eqV P t x y = some r) :
    (eqGuard op t ox oy cx cy).run P w = .ok () w ∧ (Go.Op.equal t cx cy).run P w = .ok r w :=
  eqV_sound' w 9999 (by omega) t x y cx cy r ox oy hx hy h
end eq
end Aq
end
section
namespace Aq
open Go Go.RowKit
section
variable {P : Program} {K : Con} {T : Nat → Nat} (w : World)
theorem intB_sound {op : BinOp} {t : TypeId} {k : IntKind} {a b : Int} {v : V} (h : intB op k a b = some v) :
    ∃ c, (binOp op t (.int k a) (.int k b)).run P w = .ok c w ∧ Rel K T w v c := by
  cases op with
  | quo =>
    simp only [intB] at h
    split at h
    · simp at h
    · rename_i hb
      simp only [Option.some.injEq] at h; subst h
      exact ⟨_, by simp only [binOp_quo, Op.intDiv, hb, if_false, Sem.run_pure], .int _ _⟩
  | rem =>
    simp only [intB] at h
    split at h
    · simp at h
    · rename_i hb
      simp only [Option.some.injEq] at h; subst h
      exact ⟨_, by simp only [binOp_rem, Op.intDiv, hb, if_false, Sem.run_pure], .int _ _⟩
  | shl => simp [intB] at h
  | shr => simp [intB] at h
  | add => simp only [intB, Option.some.injEq] at h; subst h; exact ⟨_, by simp only [binOp_add, Op.intArith, Sem.run_pure], .int _ _⟩
  | sub => simp only [intB, Option.some.injEq] at h; subst h; exact ⟨_, by simp only [binOp_sub, Op.intArith, Sem.run_pure], .int _ _⟩
  | mul => simp only [intB, Option.some.injEq] at h; subst h; exact ⟨_, by simp only [binOp_mul, Op.intArith, Sem.run_pure], .int _ _⟩
  | and => simp only [intB, Option.some.injEq] at h; subst h; exact ⟨_, by simp only [binOp_and, Op.intBits, Sem.run_pure], .int _ _⟩
  | or => simp only [intB, Option.some.injEq] at h; subst h; exact ⟨_, by simp only [binOp_or, Op.intBits, Sem.run_pure], .int _ _⟩
  | xor => simp only [intB, Option.some.injEq] at h; subst h; exact ⟨_, by simp only [binOp_xor, Op.intBits, Sem.run_pure], .int _ _⟩
  | andNot => simp only [intB, Option.some.injEq] at h; subst h; exact ⟨_, by simp only [binOp_andNot, Op.intBits, Sem.run_pure], .int _ _⟩
  | eql => simp only [intB, Option.some.injEq] at h; subst h; exact ⟨_, by simp only [binOp_eql, Sem.run_pure], .bool _⟩
  | neq => simp only [intB, Option.some.injEq] at h; subst h; exact ⟨_, by simp only [binOp_neq, Sem.run_pure], .bool _⟩
  | lss => simp only [intB, Option.some.injEq] at h; subst h; exact ⟨_, by simp only [binOp_lss, Sem.run_pure], .bool _⟩
  | leq => simp only [intB, Option.some.injEq] at h; subst h; exact ⟨_, by simp only [binOp_leq, Sem.run_pure], .bool _⟩
  | gtr => simp only [intB, Option.some.injEq] at h; subst h; exact ⟨_, by simp only [binOp_gtr, Sem.run_pure], .bool _⟩
  | geq => simp only [intB, Option.some.injEq] at h; subst h; exact ⟨_, by simp only [binOp_geq, Sem.run_pure], .bool _⟩
theorem strB_sound {op : BinOp} {t : TypeId} {x y : List UInt8} {a b : ByteArray} {v : V} (ha : a.data.toList = x) (hb : b.data.toList = y) (h : strB op x y = some v) :
    ∃ c, (binOp op t (.string a) (.string b)).run P w = .ok c w ∧ Rel K T w v c := by
  have e : binOp op t (.string a) (.string b) = Op.stringOp op a b := by cases op <;> rfl
  rw [e]
  subst ha; subst hb
  cases op with
  | add =>
    simp only [strB] at h
    split at h
    · simp at h
    · rename_i hn
      simp only [Option.some.injEq] at h; subst h
      have hn' : ¬ ((a.size + b.size : Nat) : Int) > IntKind.i64.max := by simpa using hn
      exact ⟨.string (a ++ b), by simp only [Op.stringOp, hn', if_false, Sem.run_pure], .str _ _ (by simp)⟩
  | _ => first
    | (simp only [strB, Option.some.injEq] at h; subst h; refine ⟨_, ?_, .bool _⟩; simp only [Op.stringOp, Sem.run_pure, ByteArray.toList_eq])
    | simp [strB] at h
def kindOK : V → Prop
  | .int _ _ | .str _ | .raw _ | .tup _ | .iface _ _ | .nili => False
  | _ => True
theorem eqV_kind {t : TypeId} {x y : V} {r : Bool} (h : eqV P t x y = some r) : kindOK x := by
  unfold eqV at h
  split at h <;> first | exact trivial | simp at h
theorem binV_sound {op : BinOp} {t : TypeId} {x y v : V} {cx cy : Value} (ox oy : Operand) (hx : Rel K T w x cx) (hy : Rel K T w y cy) (h : binV P op t x y = some v) :
    ∃ c, (do eqGuard op t ox oy cx cy; binOp op t cx cy : Sem Value).run P w = .ok c w ∧ Rel K T w v c := by
  unfold binV at h
  split at h
  · cases hx; cases hy
    rename_i k a k' b
    unfold shiftB at h
    split at h
    · simp at h
    · rename_i hb
      simp only [Option.some.injEq] at h; subst h
      refine ⟨.int k (k.wrap (a * 2 ^ min b.toNat k.bits)), ?_, .int _ _⟩
      rw [eqGuard_shl]
      simp [binOp_shl, Op.shift, hb]
  · cases hx; cases hy
    rename_i k a k' b
    unfold shiftB at h
    split at h
    · simp at h
    · rename_i hb
      simp only [Option.some.injEq] at h; subst h
      refine ⟨.int k (a.fdiv (2 ^ min b.toNat k.bits)), ?_, .int _ _⟩
      rw [eqGuard_shr]
      simp [binOp_shr, Op.shift, hb]
  · cases hx; cases hy
    split at h
    · rename_i hk
      subst hk
      rw [eqGuard_at_int]
      simp only [pure_bind]
      exact intB_sound w h
    · simp at h
  · cases hx with | str _ a ha => cases hy with | str _ b hb =>
    rw [eqGuard_at_string]
    simp only [pure_bind]
    exact strB_sound w ha hb h
  · simp only [Option.map_eq_some_iff] at h
    obtain ⟨r, hr, rfl⟩ := h
    obtain ⟨g1, g2⟩ := eqV_sound (op := .eql) w t x y cx cy r ox oy hx hy hr
    refine ⟨.bool r, ?_, .bool r⟩
    have e : binOp .eql t cx cy = (Op.equal t cx cy >>= fun b => pure (Value.bool b)) := by
      have hk := eqV_kind hr
      cases hx <;> first | exact hk.elim | rfl | (cases hy <;> rfl)
    rw [e]
    simp [g1, g2]
  · simp only [Option.map_eq_some_iff] at h
    obtain ⟨r, hr, rfl⟩ := h
    obtain ⟨g1, g2⟩ := eqV_sound (op := .neq) w t x y cx cy r ox oy hx hy hr
    refine ⟨.bool !r, ?_, .bool _⟩
    have e : binOp .neq t cx cy = (Op.equal t cx cy >>= fun b => pure (Value.bool !b)) := by
      have hk := eqV_kind hr
      cases hx <;> first | exact hk.elim | rfl | (cases hy <;> rfl)
    rw [e]
    simp [g1, g2]
  · simp at h
end
end Aq
end
section
namespace Aq
open Go Go.RowKit
def RelL (K : Con) (T : Nat → Nat) (w : World) (cs : List V) (vs : Array Value) : Prop :=
  cs.length = vs.size ∧ ∀ i, i < cs.length → Rel K T w (cs.getD i undefV) (vs.getD i undef)
theorem drop_getD {α : Type} (l : List α) (n i : Nat) (d : α) : (l.drop n).getD i d = l.getD (n + i) d := by
  simp [List.getD, List.getElem?_drop]
theorem take_getD {α : Type} (l : List α) {n i : Nat} (h : i < n) (d : α) : (l.take n).getD i d = l.getD i d := by
  simp [List.getD, h]
section
variable {P : Program} {K : Con} {T : Nat → Nat} (w : World)
theorem unV_sound {op : UnOp} {x v : V} {cx : Value} (hx : Rel K T w x cx) (h : unV op x = some v) : ∃ c, (Op.unary op cx).run P w = .ok c w ∧ Rel K T w v c := by
  unfold unV at h
  split at h
  · cases hx; simp only [Option.some.injEq] at h; subst h; exact ⟨_, rfl, .int _ _⟩
  · cases hx; simp only [intB, Option.some.injEq] at h; subst h; exact ⟨_, rfl, .int _ _⟩
  · cases hx; simp only [Option.some.injEq] at h; subst h; exact ⟨_, rfl, .bool _⟩
  · simp at h
theorem bnd_sound {x : V} {cx : Value} (hx : Rel K T w x cx) {y yc k : Nat} (hy : y ≤ yc) (code : BoundsCode) (h : bnd x y = some k) : (Instr.sliceBound cx yc code).run P w = .ok k w ∧ k ≤ y := by
  simp only [bnd, Option.bind_eq_some_iff] at h
  obtain ⟨i, hi, h⟩ := h
  split at h
  · rename_i hb
    simp only [Option.some.injEq] at h; subst h
    cases x <;> simp [bndI] at hi
    subst hi
    cases hx
    rename_i kk q
    refine ⟨?_, by omega⟩
    have : 0 ≤ q ∧ q ≤ (yc : Int) := by omega
    simp [Instr.sliceBound, asIntOf, this]
  · simp at h
/-- The bounds of a slice expression; the model's capacity may be greater. -/
theorem sliceBV_sound {lo hi mx : Option V} {clo chi cmx : Option Value} (isS : Bool) {len cap capc l h m : Nat} (hlc : len ≤ cap) (hcap : cap ≤ capc)
    (r1 : ∀ v, lo = some v → ∃ c, clo = some c ∧ Rel K T w v c) (n1 : lo = none → clo = none)
    (r2 : ∀ v, hi = some v → ∃ c, chi = some c ∧ Rel K T w v c) (n2 : hi = none → chi = none)
    (r3 : ∀ v, mx = some v → ∃ c, cmx = some c ∧ Rel K T w v c) (n3 : mx = none → cmx = none) (hb : sliceBV len cap lo hi mx = some (l, h, m)) :
    ∃ mc, (Instr.sliceBounds isS len capc clo chi cmx).run P w = .ok (l, h, mc) w ∧ l ≤ h ∧ h ≤ m ∧ m ≤ cap ∧ m ≤ mc ∧ mc ≤ capc ∧ (mx.isSome → mc = m) ∧ (mx = none → mc = capc ∧ m = cap) := by
  simp only [sliceBV, Option.bind_eq_some_iff] at hb
  obtain ⟨m', hm, h', hh, l', hl, e⟩ := hb
  simp only [Option.some.injEq, Prod.mk.injEq] at e
  obtain ⟨rfl, rfl, rfl⟩ := e
  cases mx with
  | none =>
    simp only [Option.some.injEq] at hm; subst hm
    obtain rfl := n3 rfl
    cases hi with
    | none =>
      simp only [Option.some.injEq] at hh; subst hh
      obtain rfl := n2 rfl
      cases lo with
      | none =>
        simp only [Option.some.injEq] at hl; subst hl
        obtain rfl := n1 rfl
        exact ⟨capc, by simp [Instr.sliceBounds], by omega, by omega, by omega, by omega, by omega, by simp, by simp⟩
      | some vl =>
        obtain ⟨cl, rfl, rl⟩ := r1 vl rfl
        obtain ⟨g1, g2⟩ := bnd_sound (P := P) w rl (Nat.le_refl _) .sliceB hl
        exact ⟨capc, by simp [Instr.sliceBounds, g1], by omega, by omega, by omega, by omega, by omega, by simp, by simp⟩
    | some vh =>
      obtain ⟨ch, rfl, rh⟩ := r2 vh rfl
      obtain ⟨f1, f2⟩ := bnd_sound (P := P) w rh hcap (if isS then .sliceAcap else .sliceAlen) hh
      cases lo with
      | none =>
        simp only [Option.some.injEq] at hl; subst hl
        obtain rfl := n1 rfl
        exact ⟨capc, by simp [Instr.sliceBounds, f1], by omega, by omega, by omega, by omega, by omega, by simp, by simp⟩
      | some vl =>
        obtain ⟨cl, rfl, rl⟩ := r1 vl rfl
        obtain ⟨g1, g2⟩ := bnd_sound (P := P) w rl (Nat.le_refl _) .sliceB hl
        exact ⟨capc, by simp [Instr.sliceBounds, f1, g1], by omega, by omega, by omega, by omega, by omega, by simp, by simp⟩
  | some vm =>
    obtain ⟨cm, rfl, rm⟩ := r3 vm rfl
    obtain ⟨e1, e2⟩ := bnd_sound (P := P) w rm hcap (if isS then .slice3Acap else .slice3Alen) hm
    cases hi with
    | none => simp at hh
    | some vh =>
      obtain ⟨ch, rfl, rh⟩ := r2 vh rfl
      obtain ⟨f1, f2⟩ := bnd_sound (P := P) w rh (Nat.le_refl _) .slice3B hh
      cases lo with
      | none =>
        simp only [Option.some.injEq] at hl; subst hl
        obtain rfl := n1 rfl
        exact ⟨m', by simp [Instr.sliceBounds, e1, f1], by omega, by omega, by omega, by omega, by omega, by simp, by simp⟩
      | some vl =>
        obtain ⟨cl, rfl, rl⟩ := r1 vl rfl
        obtain ⟨g1, g2⟩ := bnd_sound (P := P) w rl (Nat.le_refl _) .slice3C hl
        exact ⟨m', by simp [Instr.sliceBounds, e1, f1, g1], by omega, by omega, by omega, by omega, by omega, by simp, by simp⟩
/-- A part of a list. -/
theorem Rel.sub {c : Cap} {l : List V} {b o n cap : Nat} (val : Nat → Nat → Value)
    (hn : ∀ i, i < l.length → (l.getD i undefV).cells.length = n)
    (hcell : ∀ i j, i < l.length → j < n → w.cell? (at_ b (o + i * n + j)) = some (val i j) ∧ K.I b (o + i * n + j))
    (hrel : ∀ i j, i < l.length → j < n → Rel K T w ((l.getD i undefV).cells.getD j undefV) (val i j)) {lo hi : Nat} (h1 : lo ≤ hi) (h2 : hi ≤ l.length) (hcap : hi - lo ≤ cap)
    (hc : CapOK K T c n b (o + lo * n) (hi - lo) cap) : Rel K T w (.lst c ((l.take hi).drop lo)) (.slice (some (at_ b (o + lo * n))) (hi - lo) cap) := by
  have hlen : ((l.take hi).drop lo).length = hi - lo := by simp; omega
  have hget : ∀ i, i < hi - lo → ((l.take hi).drop lo).getD i undefV = l.getD (lo + i) undefV := fun i hi' => by
    rw [drop_getD, take_getD _ (by omega)]
  have key : Rel K T w (.lst c ((l.take hi).drop lo)) (.slice (some (at_ b (o + lo * n))) ((l.take hi).drop lo).length cap) := by
    refine .lst c _ b (o + lo * n) n cap (fun i j => val (lo + i) j) (by omega) (fun i hi' => ?_) (fun i j hi' hj => ?_) (fun i j hi' hj => ?_) (by rw [hlen]; exact hc)
    · rw [hget i (by omega)]; exact hn _ (by omega)
    · have := hcell (lo + i) j (by omega) hj
      rwa [show o + (lo + i) * n + j = o + lo * n + i * n + j by rw [Nat.add_mul]; omega] at this
    · rw [hget i (by omega)]; exact hrel _ j (by omega) hj
  rwa [hlen] at key
theorem headSz_getD {sz n : Nat} {l : List V} (h : headSz sz l = true) (hn : ∀ i, i < l.length → (l.getD i undefV).cells.length = n) (hl : 0 < l.length) : n = sz := by
  cases l with
  | nil => simp at hl
  | cons v l =>
    have := hn 0 (by simp)
    simp only [headSz, beq_iff_eq] at h
    simpa [h] using this.symm
/-- The elements of a row of cells. -/
theorem chunks_length (ag : Bool) (n : Nat) : ∀ (k : Nat) (cs : List V), (chunks ag n k cs).length = k
  | 0, _ => rfl
  | k + 1, cs => by simp [chunks, chunks_length ag n k]
theorem chunks_getD (ag : Bool) (n : Nat) : ∀ (k : Nat) (cs : List V) (i : Nat), i < k →
    (chunks ag n k cs).getD i undefV = if ag then V.agg ((cs.drop (i * n)).take n) else (cs.drop (i * n)).headD undefV
  | k + 1, cs, 0, _ => by simp [chunks, List.getD]
  | k + 1, cs, i + 1, h => by
    have := chunks_getD ag n k (cs.drop n) i (by omega)
    simp only [chunks, List.getD_cons_succ, this, List.drop_drop]
    rw [show n + i * n = (i + 1) * n by rw [Nat.add_mul]; omega]
theorem chunks_cells (ag : Bool) {n k : Nat} {cs : List V} (h1 : ag = false → n = 1) (hl : k * n ≤ cs.length) (hone : ag = false → oneCells cs = true) {i : Nat} (hi : i < k) :
    ((chunks ag n k cs).getD i undefV).cells = (cs.drop (i * n)).take n := by
  have hmul : i * n + n ≤ k * n := by
    have := Nat.mul_le_mul_right n (Nat.succ_le_of_lt hi)
    rw [Nat.succ_mul] at this; exact this
  rw [chunks_getD ag n k cs i hi]
  cases ag with
  | true => rfl
  | false =>
    have hn := h1 rfl
    subst hn
    have hlt : i < cs.length := by omega
    have hd : cs.drop (i * 1) = cs[i] :: cs.drop (i + 1) := by rw [Nat.mul_one]; exact List.drop_eq_getElem_cons hlt
    have ho : oneCell cs[i] = true := by
      have := hone rfl
      simp only [oneCells, List.all_eq_true] at this
      exact this _ (List.getElem_mem hlt)
    rw [hd]
    simp only [Bool.false_eq_true, if_false, List.headD_cons, List.take_succ_cons, List.take_zero]
    cases hc : cs[i] <;> simp_all [oneCell, V.cells]
/-- A list over cells that are known. -/
theorem rel_of_cells {c : Cap} {ag : Bool} {n k b o cap : Nat} {cs : List V} (val : Nat → Value) (h1 : ag = false → n = 1) (hl : k * n ≤ cs.length) (hone : ag = false → oneCells cs = true)
    (hcell : ∀ j, j < k * n → w.cell? (at_ b (o + j)) = some (val j) ∧ K.I b (o + j)) (hrel : ∀ j, j < k * n → Rel K T w (cs.getD j undefV) (val j)) (hcap : k ≤ cap)
    (hc : CapOK K T c n b o k cap) : Rel K T w (.lst c (chunks ag n k cs)) (.slice (some (at_ b o)) k cap) := by
  have hmul : ∀ i j, i < k → j < n → i * n + j < k * n := fun i j hi hj => by
    have := Nat.mul_le_mul_right n (Nat.succ_le_of_lt hi)
    rw [Nat.succ_mul] at this; omega
  have hcl : ∀ i, i < k → ((chunks ag n k cs).getD i undefV).cells = (cs.drop (i * n)).take n := fun i hi => chunks_cells ag h1 hl hone hi
  have key : Rel K T w (.lst c (chunks ag n k cs)) (.slice (some (at_ b o)) (chunks ag n k cs).length cap) := by
    refine .lst c _ b o n cap (fun i j => val (i * n + j)) (by rw [chunks_length]; exact hcap) (fun i hi => ?_) (fun i j hi hj => ?_) (fun i j hi hj => ?_) (by rw [chunks_length]; exact hc)
    · rw [chunks_length] at hi
      rw [hcl i hi]
      have := Nat.mul_le_mul_right n (Nat.succ_le_of_lt hi)
      rw [Nat.succ_mul] at this
      simp; omega
    · rw [chunks_length] at hi
      have := hcell (i * n + j) (hmul i j hi hj)
      rwa [← Nat.add_assoc] at this
    · rw [chunks_length] at hi
      rw [hcl i hi, take_getD _ hj, drop_getD]
      exact hrel _ (hmul i j hi hj)
  rwa [chunks_length] at key
theorem sliceV_sound {E : Env} {B0 : Nat} {σ : Sig} (hT : T = σ.top) (hs : SOK E B0 σ K w) {t : TypeId} {x v : V} {cx : Value} {lo hi mx : Option V} {clo chi cmx : Option Value} (hx : Rel K T w x cx)
    (r1 : ∀ v, lo = some v → ∃ c, clo = some c ∧ Rel K T w v c) (n1 : lo = none → clo = none)
    (r2 : ∀ v, hi = some v → ∃ c, chi = some c ∧ Rel K T w v c) (n2 : hi = none → chi = none)
    (r3 : ∀ v, mx = some v → ∃ c, cmx = some c ∧ Rel K T w v c) (n3 : mx = none → cmx = none)
    (h : sliceV P σ t x lo hi mx = some v) : ∃ c, (Instr.sliceAt t cx clo chi cmx).run P w = .ok c w ∧ Rel K T w v c := by
  unfold sliceV at h
  split at h
  · rename_i s hu
    cases hx with | str _ b hb =>
    split at h
    · simp at h
    · simp only [Option.map_eq_some_iff] at h
      obtain ⟨⟨l, hh, m⟩, hbv, rfl⟩ := h
      obtain rfl := n3 rfl
      have hsz : s.length = b.size := by rw [← hb]; simp
      rw [hsz] at hbv
      obtain ⟨mc, g1, g2, g3, _⟩ := sliceBV_sound (P := P) w false (Nat.le_refl _) (Nat.le_refl _) r1 n1 r2 n2 (mx := none) (cmx := none) (fun v hv => by simp at hv) (fun _ => rfl) hbv
      refine ⟨.string (b.extract l hh), by simp [Instr.sliceAt, Instr.slice, run_underlying hu, g1], .str _ _ ?_⟩
      rw [← hb]
      simp [ByteArray.data_extract, List.drop_take]
  · rename_i e c s hu
    simp only [Option.bind_eq_some_iff] at h
    obtain ⟨sz, hsz, ⟨l, hh, m⟩, hbv, h⟩ := h
    split at h
    · rename_i hhs
      simp only [Option.some.injEq] at h
      cases hx with
      | lstNil _ a ha hc =>
        obtain ⟨mc, g1, g2, g3, g4, g5, g6, g7, g8⟩ := sliceBV_sound (P := P) w true (Nat.le_refl _) (Nat.le_refl _) r1 n1 r2 n2 r3 n3 hbv
        simp only [List.length_nil] at g1 g4 g6
        obtain rfl : m = 0 := by omega
        obtain rfl : hh = 0 := by omega
        obtain rfl : l = 0 := by omega
        obtain rfl : mc = 0 := by omega
        refine ⟨.slice a 0 0, by cases a <;> simp [Instr.sliceAt, Instr.slice, run_underlying hu, run_sizeOf' w hsz, g1], ?_⟩
        subst h
        split
        · exact .lstNil c a ha hc
        · rename_i hn
          cases mx with
          | none => simp at hn
          | some vm => simp; exact .lstNil _ a (fun h => by cases h) trivial
      | lst _ _ b o n cap val hle hn hcell hrel hc =>
        obtain ⟨mc, g1, g2, g3, g4, g5, g6, g7, g8⟩ := sliceBV_sound (P := P) w true (Nat.le_refl _) hle r1 n1 r2 n2 r3 n3 hbv
        have hn' : 0 < l → n = sz := fun hl => headSz_getD hhs hn (by omega)
        have hrun : (Instr.sliceAt t (.slice (some (at_ b o)) s.length cap) clo chi cmx).run P w = .ok (.slice (some (at_ b (if mc = l then o else o + l * sz))) (hh - l) (mc - l)) w := by
          simp only [Instr.sliceAt, Instr.slice, Sem.run_bind, run_underlying hu, run_sizeOf' w hsz, g1, Result.andThen_ok, Sem.run_pure]
          split
          · simp
          · simp [addr_add]
        refine ⟨_, hrun, ?_⟩
        subst h
        split
        · rename_i hw
          obtain ⟨rfl, rfl, hm⟩ := hw
          have hm' : mx = none := by cases mx <;> simp_all
          obtain ⟨rfl, _⟩ := g8 hm'
          have : (if mc = 0 then o else o + 0 * sz) = o := by simp
          rw [this]
          exact .lst c s b o n mc val hle hn hcell hrel hc
        · have hgo : ∀ c', (∀ n' s', c' ≠ .own n' s') → CapOK K T c' n b (o + l * n) (hh - l) (mc - l) → Rel K T w (.lst c' ((s.take hh).drop l)) (.slice (some (at_ b (if mc = l then o else o + l * sz))) (hh - l) (mc - l)) := by
            intro c' hown hc'
            by_cases hml : mc = l
            · have : hh = l := by omega
              subst this
              have hnil : (s.take hh).drop hh = [] := by simp
              rw [hnil]
              have key : Rel K T w (.lst c' []) (.slice (some (at_ b (if mc = hh then o else o + hh * sz))) ([] : List V).length (mc - hh)) := by
                refine .lst c' [] b _ n _ (fun _ _ => undef) (by simp) (fun i hi => absurd hi (Nat.not_lt_zero i)) (fun i j hi => absurd hi (Nat.not_lt_zero i)) (fun i j hi => absurd hi (Nat.not_lt_zero i)) ?_
                cases c' with
                | sh => trivial
                | full => simpa [CapOK] using hc'
                | nil => exact hc'.elim
                | own n' s' => exact absurd rfl (hown n' s')
              simpa using key
            · have e1 : (if mc = l then o else o + l * sz) = o + l * n := by
                rw [if_neg hml]
                rcases Nat.eq_zero_or_pos l with h0 | h0
                · simp [h0]
                · rw [hn' h0]
              rw [e1]
              exact Rel.sub w val hn hcell hrel g2 (by omega) (by omega) hc'
          cases mx with
          | some vm =>
            have := g7 rfl
            dsimp only
            split
            · exact hgo _ (fun _ _ => by simp) (by simp only [CapOK]; omega)
            · exact hgo _ (fun _ _ => by simp) trivial
          | none =>
            obtain ⟨hmc, _⟩ := g8 rfl
            dsimp only
            cases c with
            | full =>
              dsimp only
              split
              · exact hgo _ (fun _ _ => by simp) (by simp only [CapOK] at hc ⊢; omega)
              · exact hgo _ (fun _ _ => by simp) trivial
            | _ => exact hgo _ (fun _ _ => by simp) trivial
    · simp at h
  · rename_i e loc st off len cap esz ag hu
    simp only [Option.bind_eq_some_iff] at h
    obtain ⟨sz, hsz, ⟨l, hh, m⟩, hbv, h⟩ := h
    split at h
    · rename_i hse
      subst hse
      simp only [Option.some.injEq] at h
      cases hx with
      | vwNil _ _ _ _ hA =>
        obtain ⟨mc, g1, g2, g3, g4, g5, g6, g7, g8⟩ := sliceBV_sound (P := P) w true (Nat.le_refl _) (Nat.le_refl _) r1 n1 r2 n2 r3 n3 hbv
        obtain rfl : m = 0 := by omega
        obtain rfl : hh = 0 := by omega
        obtain rfl : l = 0 := by omega
        obtain rfl : mc = 0 := by omega
        refine ⟨.slice none 0 0, by simp [Instr.sliceAt, Instr.slice, run_underlying hu, run_sizeOf' w hsz, g1], ?_⟩
        subst h
        simp
        exact .vwNil loc st sz ag hA
      | vw _ _ _ _ _ _ _ capc hA hcc hle hks =>
        obtain ⟨mc, g1, g2, g3, g4, g5, g6, g7, g8⟩ := sliceBV_sound (P := P) w true hle hcc r1 n1 r2 n2 r3 n3 hbv
        have hrun : (Instr.sliceAt t (.slice (some (at_ (K.blk st) off)) len capc) clo chi cmx).run P w = .ok (.slice (some (at_ (K.blk st) (if mc = l then off else off + l * sz))) (hh - l) (mc - l)) w := by
          simp only [Instr.sliceAt, Instr.slice, Sem.run_bind, run_underlying hu, run_sizeOf' w hsz, g1, Result.andThen_ok, Sem.run_pure]
          split
          · simp
          · simp [addr_add]
        refine ⟨_, hrun, ?_⟩
        subst h
        split
        · rename_i hw
          obtain ⟨rfl, h0⟩ := hw
          simp only [Nat.sub_self]
          refine .lst _ [] (K.blk st) _ 0 _ (fun _ _ => undef) (by simp) (fun i hi => absurd hi (Nat.not_lt_zero i)) (fun i j hi => absurd hi (Nat.not_lt_zero i)) (fun i j hi => absurd hi (Nat.not_lt_zero i)) ?_
          cases mx with
          | some vm =>
            have := g7 rfl
            dsimp only
            split
            · simp only [CapOK, List.length_nil]; omega
            · trivial
          | none => trivial
        · rename_i hw
          have e1 : (if mc = l then off else off + l * sz) = off + l * sz := by
            split
            · have : l = 0 := by omega
              simp [this]
            · rfl
          rw [e1]
          refine .vw loc st _ _ _ sz ag _ hA (by omega) (by omega) ?_
          have : l * sz + (mc - l) * sz ≤ capc * sz := by
            rw [← Nat.add_mul]
            exact Nat.mul_le_mul_right _ (by omega)
          omega
    · simp at h
  · rename_i n e loc st off hu
    simp only [Option.bind_eq_some_iff] at h
    obtain ⟨sz, hsz, ag, hag, ⟨l, hh, m⟩, hbv, cs, hcs, h⟩ := h
    split at h
    · rename_i hle
      simp only [Option.some.injEq] at h
      obtain ⟨ho, hA, hks⟩ := hs.cellsAt' hcs
      cases hx with | ref _ _ _ hA' =>
      obtain ⟨mc, g1, g2, g3, g4, g5, g6, g7, g8⟩ := sliceBV_sound (P := P) w false (Nat.le_refl _) (Nat.le_refl _) r1 n1 r2 n2 r3 n3 hbv
      have hrun : (Instr.sliceAt t (.pointer (some (at_ (K.blk st) off))) clo chi cmx).run P w = .ok (.slice (some (at_ (K.blk st) (if mc = l then off else off + l * sz))) (hh - l) (mc - l)) w := by
        simp only [Instr.sliceAt, Sem.run_bind, run_underlying hu, Instr.sureAddr, run_sizeOf' w hsz, g1, Result.andThen_ok, Sem.run_pure]
        split
        · simp
        · simp [addr_add]
      refine ⟨_, hrun, ?_⟩
      subst h
      split
      · rename_i hw
        obtain ⟨rfl, h0⟩ := hw
        simp only [Nat.sub_self]
        refine .lst _ [] (K.blk st) _ 0 _ (fun _ _ => undef) (by simp) (fun i hi => absurd hi (Nat.not_lt_zero i)) (fun i j hi => absurd hi (Nat.not_lt_zero i)) (fun i j hi => absurd hi (Nat.not_lt_zero i)) ?_
        cases mx with
        | some vm =>
          have := g7 rfl
          dsimp only
          split
          · simp only [CapOK, List.length_nil]; omega
          · trivial
        | none => trivial
      · rename_i hw
        have e1 : (if mc = l then off else off + l * sz) = off + l * sz := by
          split
          · have : l = 0 := by omega
            simp [this]
          · rfl
        rw [e1]
        refine .vw loc st _ _ _ sz ag _ hA (by omega) (by omega) ?_
        have : l * sz + (mc - l) * sz ≤ n * sz := by
          rw [← Nat.add_mul]
          exact Nat.mul_le_mul_right _ (by omega)
        omega
    · simp at h
  · rename_i n e cs off hu
    simp only [Option.bind_eq_some_iff] at h
    obtain ⟨sz, hsz, ag, hag, ⟨l, hh, m⟩, hbv, h⟩ := h
    split at h
    · rename_i hle
      obtain ⟨hle, hone⟩ := hle
      simp only [Option.some.injEq] at h
      cases hx with | cref _ _ b o val hcell hrel =>
      obtain ⟨mc, g1, g2, g3, g4, g5, g6, g7, g8⟩ := sliceBV_sound (P := P) w false (Nat.le_refl _) (Nat.le_refl _) r1 n1 r2 n2 r3 n3 hbv
      have hrun : (Instr.sliceAt t (.pointer (some (at_ b (o + off)))) clo chi cmx).run P w = .ok (.slice (some (at_ b (if mc = l then o + off else o + off + l * sz))) (hh - l) (mc - l)) w := by
        simp only [Instr.sliceAt, Sem.run_bind, run_underlying hu, Instr.sureAddr, run_sizeOf' w hsz, g1, Result.andThen_ok, Sem.run_pure]
        split
        · simp
        · simp [addr_add]
      refine ⟨_, hrun, ?_⟩
      subst h
      by_cases hml : mc = l
      · have : hh = l := by omega
        subst this
        simp only [Nat.sub_self, chunks]
        refine .lst _ [] b _ 0 _ (fun _ _ => undef) (by simp) (fun i hi => absurd hi (Nat.not_lt_zero i)) (fun i j hi => absurd hi (Nat.not_lt_zero i)) (fun i j hi => absurd hi (Nat.not_lt_zero i)) trivial
      · rw [if_neg hml]
        have hb : l * sz + (hh - l) * sz ≤ n * sz := by
          rw [← Nat.add_mul]
          exact Nat.mul_le_mul_right _ (by omega)
        have e1 : o + off + l * sz = o + (off + l * sz) := by omega
        rw [e1]
        refine rel_of_cells w (fun j => val (off + l * sz + j)) (fun hf => (hone hf).1) (by simp; omega) (fun hf => ?_) (fun j hj => ?_) (fun j hj => ?_) (by omega) trivial
        · have := (hone hf).2
          simp only [oneCells, List.all_eq_true] at this ⊢
          exact fun x hx => this x (List.mem_of_mem_drop hx)
        · have := hcell (off + l * sz + j) (by omega)
          rwa [← Nat.add_assoc o] at this
        · rw [drop_getD]
          exact hrel _ (by omega)
    · simp at h
  · simp at h
end
end Aq
end
section
namespace Aq
open Go Go.RowKit
section
variable {E : Env} {B0 : Nat} {σ : Sig} {K : Con} {w : World} {new : Nat → Prop}
theorem grownCap_ge (w : World) (n old : Nat) (e : TypeId) : n ≤ grownCap w n old e := by
  show n ≤ n + _ % _
  exact Nat.le_add_right _ _
/-- An operation has gone through. -/
def Done (E : Env) (B0 : Nat) (new : Nat → Prop) (σ : Sig) (K : Con) (w : World) (s : Sem Value) (v : V) (σ' : Sig) : Prop :=
  ∃ c w' K', s.run E.P w = .ok c w' ∧ Rel K' σ'.top w' v c ∧ Step E B0 new σ K w σ' K' w'
theorem Done.of_pure (h : SOK E B0 σ K w) {s : Sem Value} {v : V} (hs : ∃ c, s.run E.P w = .ok c w ∧ Rel K σ.top w v c) : Done E B0 new σ K w s v σ := by
  obtain ⟨c, h1, h2⟩ := hs
  exact ⟨c, w, K, h1, h2, .refl h⟩
theorem unByte_some {v : V} {b : UInt8} (h : unByte v = some b) : ∃ n, v = .int .u8 n ∧ b = UInt8.ofNat n.toNat := by
  unfold unByte at h
  split at h
  · simp only [Option.some.injEq] at h; exact ⟨_, rfl, h.symm⟩
  · simp at h
/-- Bytes in cells, as a string. -/
theorem bytes_string {src dst e : TypeId} (hs : E.P.underlying src = some (.slice e)) (he : E.P.underlying e = some (.int .u8)) (hd : E.P.underlying dst = some .string) {b o cap : Nat} {l : List V} {bs : List UInt8} {T : Nat → Nat}
    (val : Nat → Value) (hcell : ∀ i, i < l.length → w.cell? (at_ b (o + i)) = some (val i)) (hrel : ∀ i, i < l.length → Rel K T w (l.getD i undefV) (val i)) (hm : l.mapM unByte = some bs) :
    ∃ c, (convert src dst (.slice (some (at_ b o)) l.length cap)).run E.P w = .ok c w ∧ Rel K T w (.str bs) c := by
  obtain ⟨h1, h2⟩ := mapM_some hm
  have hv : ∀ i (hi : i < l.length), ∃ n : Int, val i = .int .u8 n ∧ bs.getD i 0 = UInt8.ofNat n.toNat := by
    intro i hi
    obtain ⟨h3, h4⟩ := h2 i hi
    obtain ⟨n, e1, e2⟩ := unByte_some h4
    have := hrel i hi
    rw [getD_of_lt hi, e1] at this
    refine ⟨n, ?_, by rw [getD_of_lt h3]; exact e2⟩
    generalize val i = c at this
    cases this
    rfl
  have hr := run_convert_bytes_arg (P := E.P) w src e hs he b o l.length cap ((List.range l.length).map fun i => intOf (val i)) (by simp) (fun i hi => by
    obtain ⟨n, e1, _⟩ := hv i hi
    rw [hcell i hi, e1]
    simp [List.getD, hi, e1, intOf]) dst hd
  refine ⟨_, hr, .str _ _ ?_⟩
  rw [strOfNums_data]
  apply List.ext_getElem
  · simp [h1]
  · intro i hi1 hi2
    have hi : i < l.length := by simpa using hi1
    obtain ⟨n, e1, e2⟩ := hv i hi
    simp only [List.getElem_map, List.getElem_range, e1, intOf]
    rw [← e2, getD_of_lt hi2]
theorem convV_sound (h : SOK E B0 σ K w) (hB : B0 ≤ w.heap.size) {src dst : TypeId} {x v : V} {cx : Value} (hx : Rel K σ.top w x cx) (hv : convV E.P σ src dst x = some v) :
    Done E B0 new σ K w (convert src dst cx) v σ := by
  unfold convV at hv
  split at hv
  · rename_i d k kk n hs hd
    cases hx
    simp only [Option.some.injEq] at hv; subst hv
    exact Done.of_pure h ⟨_, by simp [convert, run_underlying hs, run_underlying hd, Conv.intToInt], .int _ _⟩
  · rename_i d s hs hd
    cases hx with | str _ b hb =>
    simp only [Option.some.injEq] at hv; subst hv
    exact Done.of_pure h ⟨.string b, by cases d <;> simp [convert, run_underlying hs, run_underlying hd], .str _ _ hb⟩
  · rename_i d e s hs hd
    cases hx with | str _ b hb =>
    split at hv
    · rename_i he
      simp only [Option.some.injEq] at hv; subst hv
      have hrun := Lib.run_convert_string_bytes (P := E.P) w src dst e b hs hd he
      have ho : Only w.heap.size w (Lib.bytesWorld w e b) := ⟨rfl, rfl, rfl, by rw [Lib.bytesWorld_size]; omega, fun k _ hk => Lib.bytesWorld_at_old w e b k hk⟩
      have hst := Step.allocImm' (new := new) h hB ho (Lib.bytesWorld_at_new w e b)
      have hbs : b.size ≤ (Lib.bytesCells w e b).size := by simp [Lib.bytesCells]
      have hlen : (s.map byteV).length = b.size := by rw [← hb]; simp
      have hg : ∀ i, i < b.size → (s.map byteV).getD i undefV = byteV (b.data.toList.getD i 0) := fun i hi => by
        have hi' : i < s.length := by rw [← hb]; simpa using hi
        rw [hb]
        simp [List.getD, hi']
      refine ⟨_, _, _, hrun, ?_, hst⟩
      have key : Rel (K.addI w.heap.size (Lib.bytesCells w e b).size) σ.top (Lib.bytesWorld w e b) (.lst .sh (s.map byteV)) (.slice (some (at_ w.heap.size 0)) (s.map byteV).length (grownCap w b.size 0 e)) := by
        refine .lst .sh _ w.heap.size 0 1 _ (fun i _ => .int .u8 (b.data.toList.getD i 0).toNat) ?_ (fun i hi => ?_) (fun i j hi hj => ?_) (fun i j hi hj => ?_) trivial
        · rw [hlen]
          exact grownCap_ge _ _ _ _
        · rw [hlen] at hi; rw [hg i hi]; rfl
        · rw [hlen] at hi
          obtain rfl : j = 0 := by omega
          refine ⟨?_, .inr ⟨rfl, by omega⟩⟩
          have := Lib.bytesWorld_cell w e b i hi
          simpa using this
        · rw [hlen] at hi
          obtain rfl : j = 0 := by omega
          rw [hg i hi]
          exact .int _ _
      rwa [hlen] at key
    · simp at hv
  · rename_i e c l hs hd
    split at hv
    · rename_i he
      simp only [Option.map_eq_some_iff] at hv
      obtain ⟨bs, hbs, rfl⟩ := hv
      cases hx with
      | lstNil _ a ha hc =>
        simp at hbs; subst hbs
        cases a with
        | none => exact Done.of_pure h ⟨.string ByteArray.empty, run_convert_bytes_nil w src e hs he 0 0 dst hd, .str _ _ rfl⟩
        | some a =>
          have hl : (loadCells a 0).run E.P w = .ok #[] w := by
            simpa using run_loadCells_list (P := E.P) w a [] (fun j v hj => by simp at hj)
          refine Done.of_pure h ⟨.string ByteArray.empty, ?_, .str _ _ rfl⟩
          rw [run_convert_bytes_string w src dst e _ 0 0 hs he hd]
          simp [Conv.bytesToString, hl]
      | lst _ _ b o n cap val hle hn hcell hrel hc =>
        obtain ⟨h1, h2⟩ := mapM_some hbs
        have hn1 : ∀ i, i < l.length → n = 1 := fun i hi => by
          obtain ⟨_, h4⟩ := h2 i hi
          obtain ⟨q, e1, _⟩ := unByte_some h4
          have := hn i hi
          rw [getD_of_lt hi, e1] at this
          exact this.symm
        refine Done.of_pure h (bytes_string hs he hd (fun i => val i 0) (fun i hi => ?_) (fun i hi => ?_) hbs)
        · have := (hcell i 0 hi (by rw [hn1 i hi]; omega)).1
          rw [hn1 i hi] at this
          simpa using this
        · have := hrel i 0 hi (by rw [hn1 i hi]; omega)
          obtain ⟨_, h4⟩ := h2 i hi
          obtain ⟨q, e1, _⟩ := unByte_some h4
          rw [getD_of_lt hi, e1] at this ⊢
          exact this
    · simp at hv
  · rename_i e loc s off len cap esz ag hs hd
    split at hv
    · rename_i he
      simp only [Option.bind_eq_some_iff] at hv
      obtain ⟨cs, hcs, hv⟩ := hv
      split at hv
      · rename_i hle
        simp only [Option.map_eq_some_iff] at hv
        obtain ⟨bs, hbs, rfl⟩ := hv
        obtain ⟨ho, hA, hks⟩ := h.cellsAt' hcs
        obtain ⟨_, hob, _⟩ := h.obj _ _ _ ho
        cases hx with
        | vwNil =>
          simp at hbs; subst hbs
          exact Done.of_pure h ⟨.string ByteArray.empty, run_convert_bytes_nil w src e hs he 0 0 dst hd, .str _ _ rfl⟩
        | vw _ _ _ _ _ _ _ capc hA hcc hlc hsz =>
          have hlen : ((cs.drop off).take len).length = len := by simp; omega
          have key := bytes_string (w := w) (K := K) (T := σ.top) hs he hd (cap := capc) (b := K.blk s) (o := off) (l := (cs.drop off).take len) (fun i => (w.cell? (at_ (K.blk s) (off + i))).getD undef) ?_ ?_ hbs
          · rw [hlen] at key
            exact Done.of_pure h key
          · intro i hi
            rw [hlen] at hi
            obtain ⟨_, vals, t, g1, g2, g3, g4⟩ := hob.2 (by rintro rfl; simp at hle; omega)
            have : w.cell? (at_ (K.blk s) (off + i)) = some (vals.getD (off + i) undef) := by
              simp [World.cell?, g1, show off + i < vals.size by omega]
            simp [this]
          · intro i hi
            rw [hlen] at hi
            obtain ⟨_, vals, t, g1, g2, g3, g4⟩ := hob.2 (by rintro rfl; simp at hle; omega)
            have : w.cell? (at_ (K.blk s) (off + i)) = some (vals.getD (off + i) undef) := by
              simp [World.cell?, g1, show off + i < vals.size by omega]
            rw [this, take_getD _ hi, drop_getD]
            exact g4 _ (by omega)
      · simp at hv
    · simp at hv
  · simp at hv
end
end Aq
end
