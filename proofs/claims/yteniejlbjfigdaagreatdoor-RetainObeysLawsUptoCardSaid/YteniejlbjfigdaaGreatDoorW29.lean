/- Part of the proof of a law: Fin1. -/
import Derived.ChangeCalls
import Derived.Test.YteniejlbjfigdaaGreatDoorW28
set_option linter.all false
set_option linter.unusedSimpArgs false
set_option linter.unusedSectionVars false
namespace Go.Proofs.YteniejlbjfigdaaGreatDoor.floors
open Go Go.ChangeShapes Go.WideShapes Go.ChangeAt Go.RowKit Aq Sh
set_option maxRecDepth 100000
theorem vszL_mem {l : List V} {v : V} (h : v ∈ l) : vsz v ≤ vszL l := by
  induction l with
  | nil => cases h
  | cons x l ih =>
    rcases List.mem_cons.1 h with rfl | h
    · show vsz v ≤ vsz v + vszL l; omega
    · have := ih h
      show vsz v ≤ vsz x + vszL l; omega
theorem lst_mem {α : Type} (f : α → V) {l : List α} {x : α} (h : x ∈ l) : vsz (f x) ≤ vszL (l.map f) := vszL_mem (List.mem_map_of_mem h)
theorem lst_len {α : Type} (f : α → V) (hf : ∀ x, 1 ≤ vsz (f x)) (l : List α) : l.length ≤ vszL (l.map f) := by
  induction l with
  | nil => exact Nat.zero_le _
  | cons x l ih =>
    have := hf x
    show l.length + 1 ≤ vsz (f x) + vszL (l.map f)
    omega
mutual
theorem szP_vsz : ∀ p : Sh.Pred, szP p ≤ vsz (Pred.vr p)
  | ⟨op, name, n, m, s, subs⟩ => by
    have := szL_vsz subs
    simp only [szP, Pred.vr, vsz, vszL]
    omega
theorem szL_vsz : ∀ l : List Sh.Pred, szL l ≤ vszL (Pred.vl l)
  | [] => Nat.zero_le _
  | p :: l => by
    have := szP_vsz p
    have := szL_vsz l
    simp only [szL, Pred.vl, vszL]
    omega
end
theorem def_vsz (d : Def) : d.Name.length + d.Words.length + 1 ≤ vsz (Def.v d) ∧ ∀ w ∈ d.Words, w.length + 1 ≤ vsz (Def.v d) := by
  have e : vsz (Def.v d) = (d.Name.length + 1) + (1 + (1 + (1 + (vszL (d.Words.map V.str) + 1 + 0)))) := rfl
  have h1 := lst_len V.str (fun x => by simp [vsz]) d.Words
  refine ⟨by omega, fun w hw => ?_⟩
  have h2 := lst_mem V.str hw
  have h3 : vsz (V.str w) = w.length + 1 := rfl
  omega
theorem schema_small {s : Schema} {n k : Nat} (h : vsz (Schema.v s) ≤ k) (hk : k < n) (hk2 : k < 2 ^ 62) : SmallS s n := by
  have e : vsz (Schema.v s) = 1 + (1 + (vszL (s.Defs.map Def.v) + 1 + 0)) := rfl
  have h1 := lst_len Def.v (fun x => by have := (def_vsz x).1; omega) s.Defs
  refine ⟨by omega, by omega, fun d hd => ?_⟩
  have h2 := lst_mem Def.v hd
  have h3 := def_vsz d
  have h4 := h3.1
  refine ⟨by omega, by omega, by omega, by omega, fun w hw => ?_⟩
  have := h3.2 w hw
  exact ⟨by omega, by omega⟩
theorem law_vsz (x : Law) : szP x.Where ≤ vsz (Law.v x) := by
  have h := szP_vsz x.Where
  have e : vsz (Law.v x) = (x.Name.length + 1) + (1 + ((x.Where.Name.length + 1) + (1 + (1 + ((x.Where.S.length + 1) + (vszL (x.Where.Subs.map Pred.vr) + 1 + (1 + 0))))))) := rfl
  have e2 : vsz (Pred.vr x.Where) = 1 + ((x.Where.Name.length + 1) + (1 + (1 + ((x.Where.S.length + 1) + (vszL (x.Where.Subs.map Pred.vr) + 1 + 0))))) := by
    generalize x.Where = w
    cases w
    simp only [Pred.vr, Pred.vl_map]
    rfl
  omega
theorem laws_small {l : List Law} {n k : Nat} (h : vszL (l.map Law.v) + 1 ≤ k) (hk : 6 * k < n) (hk2 : k < 2 ^ 62) : SmallL l n := by
  have h1 := lst_len Law.v (fun x => by have := law_vsz x; have := szP_pos x.Where; omega) l
  refine ⟨by omega, by omega, fun x hx => ?_⟩
  have h2 := lst_mem Law.v hx
  have h3 := law_vsz x
  exact ⟨by omega, by omega, by omega⟩
theorem event_vsz (e : Sh.Event) : e.Vec.length + e.Attrs.length + 1 ≤ vsz (Event.v e) := by
  have h1 := lst_len iv (fun x => Nat.le_refl _) e.Vec
  have h2 := lst_len Attr.v (fun x => by show 1 ≤ (x.Name.length + 1) + _; omega) e.Attrs
  obtain ⟨m, hm⟩ : ∃ m, vsz (Event.v e) = 1 + (1 + (1 + (1 + (1 + (1 + (1 + (vszL (e.Vec.map iv) + 1 + (vszL (e.Attrs.map Attr.v) + 1 + m)))))))) := ⟨_, rfl⟩
  omega
theorem events_small {l : List Sh.Event} {n k : Nat} (h : vszL (l.map Event.v) + 1 ≤ k) (hk : k < n) (hk2 : k < 2 ^ 62) : l.length < n ∧ l.length < 2 ^ 62 ∧ ∀ e ∈ l, SmallEv e n := by
  have h1 := lst_len Event.v (fun x => by have := event_vsz x; omega) l
  refine ⟨by omega, by omega, fun x hx => ?_⟩
  have h2 := lst_mem Event.v hx
  have h3 := event_vsz x
  exact ⟨by omega, by omega, by omega, by omega⟩
theorem law {p : PayL R.T ([.st 1, .slice (.st 9), .slice (.st 13)].map Sk.d)} (h : vszL (encSL R ([.st 1, .slice (.st 9), .slice (.st 13)].map Sk.d) p) ≤ 1048576) : PureOK Sh.E 3 (encSL R ([.st 1, .slice (.st 9), .slice (.st 13)].map Sk.d) p) (.bool true) := by
  obtain ⟨s, laws, l⟩ := p
  have h' : vsz (Schema.v s) + ((vszL (laws.map Law.v) + 1) + ((vszL (l.map Event.v) + 1) + 0)) ≤ 1048576 := h
  obtain ⟨e1, e2, e3⟩ := events_small (l := l) (n := 2 ^ 40) (k := 1048576) (by omega) (by omega) (by omega)
  have ht := law21_Floors_true (n := 2 ^ 40) (s := s) (laws := laws) (l := l) (by omega) (schema_small (k := 1048576) (by omega) (by omega) (by omega)) (laws_small (k := 1048576) (by omega) (by omega) (by omega)) e1 e2 e3
  exact (law21_RetainFloorsAsSpecified_ok (2 ^ 40) (s, (laws, l)) true ht).ok envOK
theorem contract (H : Type) (enc : TypeId × Value → H) (W : World) (base : Nat) (args : Array Value) (ds gs : List (DataW H)) (before : List MemPlace)
    (hval : ∀ (j : Nat) t v, Tryz.f3.params[j]? = some t → args[j]? = some v → Value.okWide Tryz.prog W .any base t v)
    (hW : DataW.Whole enc Tryz.prog Tryz.f3.params.toList Rows.retainFloorsAsSpecifiedSpec.vars false W args.toList ds gs before) (hL : laidMetH Tryz.prog Rows.retainFloorsAsSpecifiedUptoRow.laid W)
    (hk : Rows.uptoSmall H (ds ++ gs) = true) :
    Calls Tryz.prog 3 args W fun e W' => ∃ v, e = .returned v ∧ Rows.retainFloorsAsSpecifiedSpec.post enc Tryz.prog Tryz.f3 false true false false W args v W' := by
  have hbound := of_decide_eq_true hk
  have hlen : ds.length = 3 := by
    obtain ⟨p, q, hA, _⟩ := hW
    have := (Go.trodAll_length hA).2
    rw [Tryz.params3] at this
    exact this
  have hgs : gs = [] := by
    obtain ⟨p, q, _, hV, _⟩ := hW
    exact (trodVars_none hV).1
  subst hgs
  rw [List.append_nil] at hbound
  refine law_contract (E := Sh.E) (R := R) (bulkOK H) rOK hty kids (fun ht hu => slices_full_of Tryz.prog full _ _ ht hu) (l := [.st 1, .slice (.st 9), .slice (.st 13)]) (tb := 4) ?_ ?_ rfl ?_ ?_ u4 hval hW (glob_ok hL) (fun p hp => law (Nat.le_trans hp hbound))
  · rw [Tryz.params3]; rfl
  · rw [Tryz.params3]
    intro t ht
    have hs : (26 : Nat) < Tryz.prog.types.size := of_decide_eq_true (by kernel_rfl)
    simp only [List.mem_cons, List.not_mem_nil, or_false] at ht
    show t < Tryz.prog.types.size
    rcases ht with rfl | rfl | rfl
    · exact Nat.lt_trans (by decide) hs
    · exact Nat.lt_trans (by decide) hs
    · exact hs
  · match ds, hlen with
    | [d1, d2, d3], _ => rfl
  · kernel_rfl
end Go.Proofs.YteniejlbjfigdaaGreatDoor.floors
