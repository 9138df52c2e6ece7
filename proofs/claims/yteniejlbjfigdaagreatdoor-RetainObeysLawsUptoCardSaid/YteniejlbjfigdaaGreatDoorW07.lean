/- Part of the proof of a law: Av1 Av2. -/
import Derived.Test.YteniejlbjfigdaaGreatDoorW06
set_option linter.all false
set_option linter.unusedSimpArgs false
set_option linter.unusedSectionVars false
section
namespace Aq
open Go
section
variable {E : Env}
def LeEvl (S T : Evl) : Prop := (∀ c fr σ r, S.code c fr σ = some r → T.code c fr σ = some r) ∧ ∀ f args d σ r, S.call f args d σ = some r → T.call f args d σ = some r
variable {S T : Evl}
theorem callPure_le (h : LeEvl S T) {f : FuncId} {args : List V} {v : V} (hc : callPure E S f args = some v) : callPure E T f args = some v := by
  unfold callPure at hc ⊢
  cases hg : E.summ f with
  | some g => simp only [hg] at hc ⊢; exact hc
  | none =>
    simp only [hg, Option.bind_eq_some_iff] at hc ⊢
    obtain ⟨x, h1, h2⟩ := hc
    exact ⟨x, h.2 _ _ _ _ _ h1, h2⟩
theorem roundV_le (h : LeEvl S T) {l : Nat} {args : List V} {σ : Sig} {r : V × Sig} (hc : roundV S l args σ = some r) : roundV T l args σ = some r := by
  unfold roundV at hc ⊢
  simp only [Option.bind_eq_some_iff] at hc ⊢
  obtain ⟨r0, hl, hc⟩ := hc
  refine ⟨r0, hl, ?_⟩
  split at hc
  · rename_i hst
    rw [if_pos hst]
    simp only [Option.bind_eq_some_iff] at hc ⊢
    obtain ⟨⟨e1, fr1, σ1⟩, hasg, hc⟩ := hc
    refine ⟨(e1, fr1, σ1), h.1 _ _ _ _ hasg, ?_⟩
    cases e1 with
    | normal =>
      simp only [Option.bind_eq_some_iff] at hc ⊢
      obtain ⟨r1, hl1, hc⟩ := hc
      refine ⟨r1, hl1, ?_⟩
      split at hc
      · rename_i hst1
        rw [if_pos hst1]
        simp only [Option.bind_eq_some_iff] at hc ⊢
        obtain ⟨x, hb, y, hy, hc⟩ := hc
        exact ⟨x, h.1 _ _ _ _ hb, y, hy, hc⟩
      · simp at hc
    | exit i => simp at hc
    | ret => simp at hc
  · simp at hc
theorem applyV_le (h : LeEvl S T) {d : Nat} {σ : Sig} {fv : V} {args : List V} {r : V × Sig} (hc : applyV E S d σ fv args = some r) : applyV E T d σ fv args = some r := by
  unfold applyV at hc ⊢
  split at hc
  · split at hc
    · rename_i hi; simp only [hi, if_true]; exact h.2 _ _ _ _ _ hc
    · rename_i hi
      simp only [Option.bind_eq_some_iff] at hc
      obtain ⟨as, h1, v, h2, h3⟩ := hc
      simp only [hi, h1, Option.bind_some, callPure_le h h2]
      exact h3
  · exact roundV_le h hc
  · simp at hc
theorem opC_le (h : LeEvl S T) {fr : Fr} {σ : Sig} {st : Nat} {o : Oper} {r : V × Fr × Sig} (hc : opC E S fr σ st o = some r) : opC E T fr σ st o = some r := by
  unfold opC at hc ⊢
  split at hc
  · rename_i c ho
    simp only [ho] at hc ⊢
    split at hc
    · exact hc
    · rename_i f hf
      simp only [Option.map_eq_some_iff] at hc ⊢
      obtain ⟨x, h1, h2⟩ := hc
      exact ⟨x, applyV_le h h1, h2⟩
    · simp at hc
  · simp at hc
  · exact hc
theorem opsE_le (h : LeEvl S T) (all : List Oper) : ∀ (os : List Oper) (st : Nat) (fr : Fr) (σ : Sig) (r : Fr × Sig), opsE E S all st os fr σ = some r → opsE E T all st os fr σ = some r := by
  intro os
  induction os with
  | nil => intro st fr σ r hc; exact hc
  | cons o os ih =>
    intro st fr σ r hc
    simp only [opsE, Option.bind_eq_some_iff] at hc ⊢
    obtain ⟨t, h1, h2⟩ := hc
    refine ⟨t, h1, ?_⟩
    cases t with
    | true =>
      simp only [if_true, Option.bind_eq_some_iff] at h2 ⊢
      obtain ⟨x, h3, h4⟩ := h2
      exact ⟨x, opC_le h h3, ih _ _ _ _ h4⟩
    | false =>
      simp only [Bool.false_eq_true, if_false] at h2 ⊢
      exact ih _ _ _ _ h2
theorem opsF_le (h : LeEvl S T) (all : List Oper) : ∀ (os : List Oper) (st : Nat) (fr : Fr) (σ : Sig) (r : List Foot × Fr × Sig), opsF E S all st os fr σ = some r → opsF E T all st os fr σ = some r := by
  intro os
  induction os with
  | nil => intro st fr σ r hc; exact hc
  | cons o os ih =>
    intro st fr σ r hc
    simp only [opsF, Option.bind_eq_some_iff] at hc ⊢
    obtain ⟨t, h1, h2⟩ := hc
    refine ⟨t, h1, ?_⟩
    cases t with
    | true =>
      simp only [if_true, Option.bind_eq_some_iff, Option.map_eq_some_iff] at h2 ⊢
      obtain ⟨x, h3, y, h4, h5⟩ := h2
      exact ⟨x, opC_le h h3, y, ih _ _ _ _ h4, h5⟩
    | false =>
      simp only [Bool.false_eq_true, if_false, Option.map_eq_some_iff] at h2 ⊢
      obtain ⟨y, h4, h5⟩ := h2
      exact ⟨y, ih _ _ _ _ h4, h5⟩
theorem codeE_le (h : LeEvl S T) : ∀ (c : Code) (fr : Fr) (σ : Sig) (r : Ex × Fr × Sig), codeE E S c fr σ = some r → codeE E T c fr σ = some r := by
  intro c
  induction c with
  | region id ops dr =>
    intro fr σ r hc
    simp only [codeE] at hc ⊢
    split at hc
    · rename_i hd
      simp only [hd, if_true, Option.bind_eq_some_iff] at hc ⊢
      obtain ⟨x, h1, h2⟩ := hc
      exact ⟨x, opsF_le h _ _ _ _ _ _ h1, h2⟩
    · rename_i hd
      simp only [hd, Bool.false_eq_true, if_false, Option.map_eq_some_iff] at hc ⊢
      obtain ⟨x, h1, h2⟩ := hc
      exact ⟨x, opsE_le h _ _ _ _ _ _ h1, h2⟩
  | seq a b iha ihb =>
    intro fr σ r hc
    simp only [codeE, Option.bind_eq_some_iff] at hc ⊢
    obtain ⟨⟨e, fr1, σ1⟩, h1, h2⟩ := hc
    refine ⟨(e, fr1, σ1), iha _ _ _ h1, ?_⟩
    cases e with
    | normal => exact ihb _ _ _ h2
    | exit i => exact h2
    | ret => exact h2
  | cond c a b iha ihb =>
    intro fr σ r hc
    simp only [codeE, Option.bind_eq_some_iff] at hc ⊢
    obtain ⟨t, h1, h2⟩ := hc
    refine ⟨t, h1, ?_⟩
    cases t with
    | true => simp only [if_true] at h2 ⊢; exact iha _ _ _ h2
    | false => simp only [Bool.false_eq_true, if_false] at h2 ⊢; exact ihb _ _ _ h2
  | block id c ih =>
    intro fr σ r hc
    simp only [codeE, Option.map_eq_some_iff] at hc ⊢
    obtain ⟨x, h1, h2⟩ := hc
    exact ⟨x, ih _ _ _ h1, h2⟩
  | loop c ih =>
    intro fr σ r hc
    simp only [codeE, Option.bind_eq_some_iff] at hc ⊢
    obtain ⟨⟨e, fr1, σ1⟩, h1, h2⟩ := hc
    refine ⟨(e, fr1, σ1), ih _ _ _ h1, ?_⟩
    cases e with
    | normal => exact h.1 _ _ _ _ h2
    | exit i => exact h2
    | ret => exact h2
  | rangeFunc f ps a b iha ihb =>
    intro fr σ r hc
    simp only [codeE] at hc ⊢
    split at hc
    · rename_i hf
      rw [if_pos hf]
      simp only [Option.bind_eq_some_iff] at hc ⊢
      obtain ⟨x, h1, h2⟩ := hc
      exact ⟨x, applyV_le h h1, h2⟩
    · simp at hc
  | _ => intro fr σ r hc; simpa [codeE] using hc
theorem callE_le (h : LeEvl S T) {f : FuncId} {args : List V} {d : Nat} {σ : Sig} {r : V × Sig} (hc : callE E S f args d σ = some r) : callE E T f args d σ = some r := by
  simp only [callE, Option.bind_eq_some_iff] at hc ⊢
  obtain ⟨fn, h1, c, h2, h3⟩ := hc
  refine ⟨fn, h1, c, h2, ?_⟩
  split at h3
  · rename_i hok
    rw [if_pos hok]
    simp only [Option.bind_eq_some_iff] at h3 ⊢
    obtain ⟨x, h4, h5⟩ := h3
    exact ⟨x, h.1 _ _ _ _ h4, h5⟩
  · simp at h3
theorem evl_succ : ∀ n, LeEvl (evl E n) (evl E (n + 1)) := by
  intro n
  induction n with
  | zero => exact ⟨(fun _ _ _ _ h => by cases h), (fun _ _ _ _ _ h => by cases h)⟩
  | succ n ih => exact ⟨fun c fr σ r h => codeE_le ih c fr σ r h, fun f args d σ r h => callE_le ih h⟩
theorem LeEvl.refl (S : Evl) : LeEvl S S := ⟨fun _ _ _ _ h => h, fun _ _ _ _ _ h => h⟩
theorem LeEvl.trans {S T U : Evl} (h : LeEvl S T) (g : LeEvl T U) : LeEvl S U := ⟨fun _ _ _ _ x => g.1 _ _ _ _ (h.1 _ _ _ _ x), fun _ _ _ _ _ x => g.2 _ _ _ _ _ (h.2 _ _ _ _ _ x)⟩
theorem evl_le {n m : Nat} (h : n ≤ m) : LeEvl (evl E n) (evl E m) := by
  induction m with
  | zero => obtain rfl : n = 0 := by omega
            exact .refl _
  | succ m ih =>
    by_cases e : n = m + 1
    · subst e; exact .refl _
    · exact (ih (by omega)).trans (evl_succ m)
end
section
variable (E : Env)
def OW (all : List Oper) (st : Nat) (os : List Oper) (fr : Fr) (σ : Sig) (Q : Fr → Sig → Prop) : Prop :=
  ∃ n fr' σ', opsE E (evl E n) all st os fr σ = some (fr', σ') ∧ Q fr' σ'
def FW' (ms : List Nat) (all : List Oper) (st : Nat) (os : List Oper) (fr : Fr) (σ : Sig) (fs : List Foot) (Q : Fr → Sig → Prop) : Prop :=
  ∃ n fs' fr' σ', opsF E (evl E n) all st os fr σ = some (fs', fr', σ') ∧ pairsOK ms (fs ++ fs') = true ∧ Q fr' σ'
def CW (c : Code) (fr : Fr) (σ : Sig) (Q : Ex → Fr → Sig → Prop) : Prop :=
  ∃ n e fr' σ', codeE E (evl E n) c fr σ = some (e, fr', σ') ∧ Q e fr' σ'
def Pure (f : FuncId) (args : List V) (v : V) : Prop := ∃ n, callPure E (evl E n) f args = some v
def Imp (f : FuncId) (args : List V) (d : Nat) (σ : Sig) (Q : V → Sig → Prop) : Prop := ∃ n v σ', (evl E n).call f args d σ = some (v, σ') ∧ Q v σ'
end
section
variable {E : Env} {fr : Fr} {σ : Sig}
theorem Pure.ok (hE : EnvOK E) {f : FuncId} {args : List V} {v : V} (h : Pure E f args v) : PureOK E f args v := h.elim fun _ h => pure_sound hE h
theorem OW.mono {all : List Oper} {st : Nat} {os : List Oper} {Q Q' : Fr → Sig → Prop} (h : OW E all st os fr σ Q) (hq : ∀ fr σ, Q fr σ → Q' fr σ) : OW E all st os fr σ Q' :=
  let ⟨n, fr', σ', h1, h2⟩ := h; ⟨n, fr', σ', h1, hq _ _ h2⟩
theorem CW.mono {c : Code} {Q Q' : Ex → Fr → Sig → Prop} (h : CW E c fr σ Q) (hq : ∀ e fr σ, Q e fr σ → Q' e fr σ) : CW E c fr σ Q' :=
  let ⟨n, e, fr', σ', h1, h2⟩ := h; ⟨n, e, fr', σ', h1, hq _ _ _ h2⟩
theorem OW.nil {all : List Oper} {st : Nat} {Q : Fr → Sig → Prop} (h : Q fr σ) : OW E all st [] fr σ Q := ⟨0, fr, σ, rfl, h⟩
theorem OW.op {all : List Oper} {st : Nat} {o : Oper} {os : List Oper} {v : V} {σ1 : Sig} {Q : Fr → Sig → Prop} (hw : wantedV all fr o = some true) (hop : ∀ S, opC E S fr σ st o = some (v, fr, σ1))
    (h : OW E all (st + 1) os (fr.put o.dst v) σ1 Q) : OW E all st (o :: os) fr σ Q := by
  obtain ⟨n, fr', σ', h1, h2⟩ := h
  exact ⟨n, fr', σ', by simp only [opsE, hw, Option.bind_some, if_true, hop, h1], h2⟩
theorem OW.skip {all : List Oper} {st : Nat} {o : Oper} {os : List Oper} {Q : Fr → Sig → Prop} (hw : wantedV all fr o = some false) (h : OW E all (st + 1) os (fr.put o.dst undefV) σ Q) : OW E all st (o :: os) fr σ Q := by
  obtain ⟨n, fr', σ', h1, h2⟩ := h
  exact ⟨n, fr', σ', by simp only [opsE, hw, Option.bind_some, Bool.false_eq_true, if_false, h1], h2⟩
theorem applyV_of_pure {d : Nat} {g : FuncId} {a b args as : List V} {v : V} {n : Nat} (hi : E.imp g = false) (has : (a ++ args ++ b).mapM (closeV 20 σ) = some as) (hp : callPure E (evl E n) g as = some v)
    (hc : ((a ++ args ++ b).all (fun x => pclean (er x)) || flat v) = true) : applyV E (evl E n) d σ (.fn (.func g) a b) args = some (v, σ) := by
  unfold applyV
  simp only [hi, Bool.false_eq_true, if_false, has, Option.bind_some, hp, hc, if_true]
theorem OW.call {all : List Oper} {st : Nat} {o : Oper} {os : List Oper} {v : V} {Q : Fr → Sig → Prop} {c : Call} {f : Operand} {g : FuncId} {a b as : List V} (hw : wantedV all fr o = some true) (ho : o.op = .call c) (hcal : c.callee = .value f)
    (hf : fr.ev E f = .fn (.func g) a b) (hi : E.imp g = false) (has : (a ++ c.args.toList.map (fr.ev E) ++ b).mapM (closeV 20 σ) = some as) (hp : Pure E g as v)
    (hc : ((a ++ c.args.toList.map (fr.ev E) ++ b).all (fun x => pclean (er x)) || flat v) = true) (h : OW E all (st + 1) os (fr.put o.dst v) σ Q) : OW E all st (o :: os) fr σ Q := by
  obtain ⟨n, fr', σ', h1, h2⟩ := h
  obtain ⟨m, hm⟩ := hp
  have hm' := callPure_le (evl_le (Nat.le_max_right n m)) hm
  have h1' := opsE_le (evl_le (Nat.le_max_left n m)) _ _ _ _ _ _ h1
  refine ⟨max n m, fr', σ', ?_, h2⟩
  simp only [opsE, hw, Option.bind_some, if_true, opC, ho, hcal, hf, applyV_of_pure hi has hm' hc, Option.map_some, h1']
theorem OW.callI {all : List Oper} {st : Nat} {o : Oper} {os : List Oper} {Q : Fr → Sig → Prop} {c : Call} {f : Operand} {g : FuncId} {a b : List V} (hw : wantedV all fr o = some true) (ho : o.op = .call c) (hcal : c.callee = .value f)
    (hf : fr.ev E f = .fn (.func g) a b) (hi : E.imp g = true) (hp : Imp E g (a ++ c.args.toList.map (fr.ev E) ++ b) (fr.d + 1) σ (fun v σ1 => OW E all (st + 1) os (fr.put o.dst v) σ1 Q)) : OW E all st (o :: os) fr σ Q := by
  obtain ⟨m, v, σ1, hm, n, fr', σ', h1, h2⟩ := hp
  have hm' := (evl_le (Nat.le_max_right n m)).2 _ _ _ _ _ hm
  have h1' := opsE_le (evl_le (Nat.le_max_left n m)) _ _ _ _ _ _ h1
  refine ⟨max n m, fr', σ', ?_, h2⟩
  have : applyV E (evl E (max n m)) fr.d σ (.fn (.func g) a b) (c.args.toList.map (fr.ev E)) = some (v, σ1) := by
    unfold applyV; simp only [hi, if_true]; exact hm'
  simp only [opsE, hw, Option.bind_some, if_true, opC, ho, hcal, hf, this, Option.map_some, h1']
theorem FW'.nil {ms : List Nat} {all : List Oper} {st : Nat} {fs : List Foot} {Q : Fr → Sig → Prop} (hp : pairsOK ms fs = true) (h : Q fr σ) : FW' E ms all st [] fr σ fs Q := ⟨0, [], fr, σ, rfl, by simpa using hp, h⟩
theorem FW'.op {ms : List Nat} {all : List Oper} {st : Nat} {o : Oper} {os : List Oper} {v : V} {σ1 : Sig} {fs : List Foot} {Q : Fr → Sig → Prop} (hw : wantedV all fr o = some true) (hop : ∀ S, opC E S fr σ st o = some (v, fr, σ1))
    (h : FW' E ms all (st + 1) os (fr.put o.dst v) σ1 (fs ++ [footI E all fr o true]) Q) : FW' E ms all st (o :: os) fr σ fs Q := by
  obtain ⟨n, fs', fr', σ', h1, h2, h3⟩ := h
  exact ⟨n, footI E all fr o true :: fs', fr', σ', by simp only [opsF, hw, Option.bind_some, if_true, hop, h1, Option.map_some], by simpa using h2, h3⟩
theorem FW'.skip {ms : List Nat} {all : List Oper} {st : Nat} {o : Oper} {os : List Oper} {fs : List Foot} {Q : Fr → Sig → Prop} (hw : wantedV all fr o = some false)
    (h : FW' E ms all (st + 1) os (fr.put o.dst undefV) σ (fs ++ [footI E all fr o false]) Q) : FW' E ms all st (o :: os) fr σ fs Q := by
  obtain ⟨n, fs', fr', σ', h1, h2, h3⟩ := h
  exact ⟨n, footI E all fr o false :: fs', fr', σ', by simp only [opsF, hw, Option.bind_some, Bool.false_eq_true, if_false, h1, Option.map_some], by simpa using h2, h3⟩
theorem FW'.call {ms : List Nat} {all : List Oper} {st : Nat} {o : Oper} {os : List Oper} {v : V} {fs : List Foot} {Q : Fr → Sig → Prop} {c : Call} {f : Operand} {g : FuncId} {a b as : List V} (hw : wantedV all fr o = some true) (ho : o.op = .call c)
    (hcal : c.callee = .value f) (hf : fr.ev E f = .fn (.func g) a b) (hi : E.imp g = false) (has : (a ++ c.args.toList.map (fr.ev E) ++ b).mapM (closeV 20 σ) = some as) (hp : Pure E g as v)
    (hc : ((a ++ c.args.toList.map (fr.ev E) ++ b).all (fun x => pclean (er x)) || flat v) = true) (h : FW' E ms all (st + 1) os (fr.put o.dst v) σ (fs ++ [footI E all fr o true]) Q) : FW' E ms all st (o :: os) fr σ fs Q := by
  obtain ⟨n, fs', fr', σ', h1, h2, h3⟩ := h
  obtain ⟨m, hm⟩ := hp
  have hm' := callPure_le (evl_le (Nat.le_max_right n m)) hm
  have h1' := opsF_le (evl_le (Nat.le_max_left n m)) _ _ _ _ _ _ h1
  refine ⟨max n m, footI E all fr o true :: fs', fr', σ', ?_, by simpa using h2, h3⟩
  simp only [opsF, hw, Option.bind_some, if_true, opC, ho, hcal, hf, applyV_of_pure hi has hm' hc, Option.map_some, h1']
theorem FW'.callI {ms : List Nat} {all : List Oper} {st : Nat} {o : Oper} {os : List Oper} {fs : List Foot} {Q : Fr → Sig → Prop} {c : Call} {f : Operand} {g : FuncId} {a b : List V} (hw : wantedV all fr o = some true) (ho : o.op = .call c)
    (hcal : c.callee = .value f) (hf : fr.ev E f = .fn (.func g) a b) (hi : E.imp g = true)
    (hp : Imp E g (a ++ c.args.toList.map (fr.ev E) ++ b) (fr.d + 1) σ (fun v σ1 => FW' E ms all (st + 1) os (fr.put o.dst v) σ1 (fs ++ [footI E all fr o true]) Q)) : FW' E ms all st (o :: os) fr σ fs Q := by
  obtain ⟨m, v, σ1, hm, n, fs', fr', σ', h1, h2, h3⟩ := hp
  have hm' := (evl_le (Nat.le_max_right n m)).2 _ _ _ _ _ hm
  have h1' := opsF_le (evl_le (Nat.le_max_left n m)) _ _ _ _ _ _ h1
  refine ⟨max n m, footI E all fr o true :: fs', fr', σ', ?_, by simpa using h2, h3⟩
  have : applyV E (evl E (max n m)) fr.d σ (.fn (.func g) a b) (c.args.toList.map (fr.ev E)) = some (v, σ1) := by
    unfold applyV; simp only [hi, if_true]; exact hm'
  simp only [opsF, hw, Option.bind_some, if_true, opC, ho, hcal, hf, this, Option.map_some, h1']
end
def Sig.bump (σ : Sig) (k : Nat) : Sig := { σ with next := σ.next + k }
section
variable {E : Env} {fr : Fr} {σ : Sig}
theorem CW.region {id : Nat} {ops : Array Oper} {Q : Ex → Fr → Sig → Prop} (h : OW E ops.toList σ.next ops.toList fr (σ.bump ops.toList.length) (fun fr σ => Q .normal fr σ)) : CW E (.region id ops false) fr σ Q := by
  obtain ⟨n, fr', σ', h1, h2⟩ := h
  exact ⟨n, .normal, fr', σ', by simp only [codeE, Bool.false_eq_true, if_false]; rw [show opsE E (evl E n) ops.toList σ.next ops.toList fr { σ with next := σ.next + ops.toList.length } = some (fr', σ') from h1]; rfl, h2⟩
theorem CW.draw {id : Nat} {ops : Array Oper} {Q : Ex → Fr → Sig → Prop} (he : edgesOK ops.toList = true)
    (h : FW' E (preM ops.toList) ops.toList σ.next ops.toList fr (σ.bump ops.toList.length) [] (fun fr σ => Q .normal fr σ)) : CW E (.region id ops true) fr σ Q := by
  obtain ⟨n, fs, fr', σ', h1, h2, h3⟩ := h
  refine ⟨n, .normal, fr', σ', ?_, h3⟩
  simp only [codeE, if_true]
  rw [show opsF E (evl E n) ops.toList σ.next ops.toList fr { σ with next := σ.next + ops.toList.length } = some (fs, fr', σ') from h1]
  simp only [Option.bind_some, he, Bool.true_and]
  rw [if_pos (by simpa using h2)]
def SeqQ (E : Env) (b : Code) (Q : Ex → Fr → Sig → Prop) (e : Ex) (fr : Fr) (σ : Sig) : Prop := match e with
  | .normal => CW E b fr σ Q
  | e => Q e fr σ
theorem CW.seq {a b : Code} {Q : Ex → Fr → Sig → Prop} (h : CW E a fr σ (SeqQ E b Q)) : CW E (.seq a b) fr σ Q := by
  obtain ⟨n, e, fr1, σ1, h1, h2⟩ := h
  cases e with
  | normal =>
    obtain ⟨m, e, fr', σ', h3, h4⟩ := h2
    refine ⟨max n m, e, fr', σ', ?_, h4⟩
    simp only [codeE, codeE_le (evl_le (Nat.le_max_left n m)) _ _ _ _ h1, Option.bind_some, codeE_le (evl_le (Nat.le_max_right n m)) _ _ _ _ h3]
  | exit i => exact ⟨n, .exit i, fr1, σ1, by simp only [codeE, h1, Option.bind_some], h2⟩
  | ret => exact ⟨n, .ret, fr1, σ1, by simp only [codeE, h1, Option.bind_some], h2⟩
theorem CW.skip {Q : Ex → Fr → Sig → Prop} (h : Q .normal fr σ) : CW E .skip fr σ Q := ⟨0, .normal, fr, σ, rfl, h⟩
theorem CW.ret {Q : Ex → Fr → Sig → Prop} (h : Q .ret fr σ) : CW E .ret fr σ Q := ⟨0, .ret, fr, σ, rfl, h⟩
theorem CW.exit {i : Nat} {Q : Ex → Fr → Sig → Prop} (h : Q (.exit i) fr σ) : CW E (.exit i) fr σ Q := ⟨0, .exit i, fr, σ, rfl, h⟩
theorem CW.cond {c : Operand} {a b : Code} {t : Bool} {Q : Ex → Fr → Sig → Prop} (hc : fr.ev E c = .bool t) (ht : t = true → CW E a fr σ Q) (hf : t = false → CW E b fr σ Q) : CW E (.cond c a b) fr σ Q := by
  cases t with
  | true =>
    obtain ⟨n, e, fr', σ', h1, h2⟩ := ht rfl
    exact ⟨n, e, fr', σ', by simp only [codeE, hc, boolV, Option.bind_some, if_true, h1], h2⟩
  | false =>
    obtain ⟨n, e, fr', σ', h1, h2⟩ := hf rfl
    exact ⟨n, e, fr', σ', by simp only [codeE, hc, boolV, Option.bind_some, Bool.false_eq_true, if_false, h1], h2⟩
def BlkQ (id : Nat) (Q : Ex → Fr → Sig → Prop) (e : Ex) (fr : Fr) (σ : Sig) : Prop := match e with
  | .exit i => if i = id then Q .normal fr σ else Q (.exit i) fr σ
  | e => Q e fr σ
theorem CW.block {id : Nat} {c : Code} {Q : Ex → Fr → Sig → Prop} (h : CW E c fr σ (BlkQ id Q)) : CW E (.block id c) fr σ Q := by
  obtain ⟨n, e, fr', σ', h1, h2⟩ := h
  cases e with
  | normal => exact ⟨n, .normal, fr', σ', by simp only [codeE, h1, Option.map_some], h2⟩
  | ret => exact ⟨n, .ret, fr', σ', by simp only [codeE, h1, Option.map_some], h2⟩
  | exit i =>
    simp only [BlkQ] at h2
    split at h2
    · rename_i hi
      exact ⟨n, .normal, fr', σ', by simp only [codeE, h1, Option.map_some, if_pos hi], h2⟩
    · rename_i hi
      exact ⟨n, .exit i, fr', σ', by simp only [codeE, h1, Option.map_some, if_neg hi], h2⟩
def LoopQ (E : Env) (c : Code) (Q : Ex → Fr → Sig → Prop) (e : Ex) (fr : Fr) (σ : Sig) : Prop := match e with
  | .normal => CW E (.loop c) fr σ Q
  | e => Q e fr σ
theorem CW.loop {c : Code} {Q : Ex → Fr → Sig → Prop} (h : CW E c fr σ (LoopQ E c Q)) : CW E (.loop c) fr σ Q := by
  obtain ⟨n, e, fr1, σ1, h1, h2⟩ := h
  cases e with
  | normal =>
    obtain ⟨m, e, fr', σ', h3, h4⟩ := h2
    refine ⟨max n m + 1, e, fr', σ', ?_, h4⟩
    simp only [codeE, codeE_le (evl_le (show n ≤ max n m + 1 by omega)) _ _ _ _ h1, Option.bind_some]
    exact codeE_le (evl_le (Nat.le_max_right n m)) _ _ _ _ h3
  | exit i => exact ⟨n, .exit i, fr1, σ1, by simp only [codeE, h1, Option.bind_some], h2⟩
  | ret => exact ⟨n, .ret, fr1, σ1, by simp only [codeE, h1, Option.bind_some], h2⟩
def RetQ (E : Env) (rs : List ResultVar) (R : V → Sig → Prop) (e : Ex) (fr : Fr) (σ : Sig) : Prop := match e with
  | .exit _ => False
  | _ => ∃ vs, rs.mapM (resV E fr σ) = some vs ∧ R (match vs with | [v] => v | vs => .tup vs) σ
theorem Imp.of {f : FuncId} {args : List V} {d : Nat} {fn : Func} {c : Code} {R : V → Sig → Prop} (hf : E.P.funcs[f]? = some fn) (hb : fn.body = some c) (hok : (decide (args.length ≤ fn.ntmps) && codeOK fn.ntmps c) = true)
    (h : CW E c { d := d, om := E.om f, tm := fun i => args.getD i undefV } σ (RetQ E fn.results.toList R)) : Imp E f args d σ R := by
  obtain ⟨n, e, fr', σ', h1, h2⟩ := h
  have hok' : args.length ≤ fn.ntmps ∧ codeOK fn.ntmps c = true := by simpa using hok
  have key : ∀ vs, fn.results.toList.mapM (resV E fr' σ') = some vs → (e = .normal ∨ e = .ret) → (evl E (n + 2)).call f args d σ = some ((match vs with | [v] => v | vs => .tup vs), σ') := by
    intro vs hvs he
    show callE E (evl E (n + 1)) f args d σ = _
    have h3 : (evl E (n + 1)).code c { d := d, om := E.om f, tm := fun i => args.getD i undefV } σ = some (e, fr', σ') := h1
    simp only [callE, hf, hb, Option.bind_some, if_pos hok', h3]
    rcases he with rfl | rfl <;> simp only [hvs, Option.map_some] <;> rcases vs with _ | ⟨x, _ | ⟨y, l⟩⟩ <;> rfl
  cases e with
  | normal => obtain ⟨vs, h3, h4⟩ := h2; exact ⟨n + 2, _, σ', key vs h3 (.inl rfl), h4⟩
  | ret => obtain ⟨vs, h3, h4⟩ := h2; exact ⟨n + 2, _, σ', key vs h3 (.inr rfl), h4⟩
  | exit i => exact h2.elim
theorem Pure.of {f : FuncId} {args : List V} {v : V} {fn : Func} {c : Code} (hs : E.summ f = none) (hf : E.P.funcs[f]? = some fn) (hb : fn.body = some c) (hok : (decide (args.length ≤ fn.ntmps) && codeOK fn.ntmps c) = true)
    (h : CW E c { d := 1, om := E.om f, tm := fun i => args.getD i undefV } Sig.init (RetQ E fn.results.toList (fun v0 σ => closeV 20 σ v0 = some v))) : Pure E f args v := by
  obtain ⟨n, v0, σ', h1, h2⟩ := Imp.of hf hb hok h
  exact ⟨n, by simp only [callPure, hs, h1, Option.bind_some, h2]⟩
theorem put_some (fr : Fr) (d : Nat) (v : V) : fr.put (some d) v = fr.set d v := rfl
theorem put_none (fr : Fr) (v : V) : fr.put none v = fr := rfl
theorem set_eq (fr : Fr) (d : Nat) (v : V) : (fr.set d v).tm d = v := by simp [Fr.set, upd]
theorem set_ne (fr : Fr) {d t : Nat} (v : V) (h : (t == d) = false) : (fr.set d v).tm t = fr.tm t := by
  have h' : ¬ t = d := by simpa using h
  simp [Fr.set, upd, h']
theorem set_d (fr : Fr) (d : Nat) (v : V) : (fr.set d v).d = fr.d := rfl
theorem set_om (fr : Fr) (d : Nat) (v : V) : (fr.set d v).om = fr.om := rfl
theorem ev_tmp (fr : Fr) (t : Nat) : fr.ev E (.tmp t) = fr.tm t := rfl
theorem ev_const (fr : Fr) (v : Value) : fr.ev E (.const v) = (ofValue v).getD (.raw v) := rfl
theorem ev_func (fr : Fr) (f : FuncId) : fr.ev E (.func f) = .fn (.func f) [] [] := rfl
theorem next_bump (σ : Sig) (k : Nat) : (σ.bump k).next = σ.next + k := rfl
theorem next_setObj (σ : Sig) (l : Aq.Loc) (s : Nat) (o : AObj) : (σ.setObj l s o).next = σ.next := rfl
theorem next_setTop (σ : Sig) (s n : Nat) : (σ.setTop s n).next = σ.next := rfl
theorem top_setTop_eq (σ : Sig) (s n : Nat) : (σ.setTop s n).top s = n := by simp [Sig.setTop, upd]
theorem top_setTop_ne (σ : Sig) {s t : Nat} (n : Nat) (h : t ≠ s) : (σ.setTop s n).top t = σ.top t := by simp [Sig.setTop, upd, h]
theorem top_bump (σ : Sig) (k : Nat) : (σ.bump k).top = σ.top := rfl
theorem top_setObj (σ : Sig) (l : Aq.Loc) (s : Nat) (o : AObj) : (σ.setObj l s o).top = σ.top := rfl
theorem locEq_ne {l l' : Aq.Loc} (h : locEq l l' = false) : ¬ l = l' := by
  rintro rfl
  simp [locEq] at h
theorem locEq_mk (a b c d : Nat) : locEq (a, b) (c, d) = (b == d && a == c) := rfl
theorem cells_eq (σ : Sig) (l : Aq.Loc) (s : Nat) (cs : List V) : (σ.setObj l s (.cells cs)).cellsAt l s = some cs := by simp [Sig.setObj, Sig.cellsAt, upd]
theorem cells_ne (σ : Sig) {l l' : Aq.Loc} (s s' : Nat) (o : AObj) (h : locEq l l' = false) : (σ.setObj l' s' o).cellsAt l s = σ.cellsAt l s := by
  have h' := locEq_ne h
  simp [Sig.setObj, Sig.cellsAt, upd, h']
theorem cells_bump (σ : Sig) (k : Nat) (l : Aq.Loc) (s : Nat) : (σ.bump k).cellsAt l s = σ.cellsAt l s := rfl
theorem cells_setTop (σ : Sig) (t n : Nat) (l : Aq.Loc) (s : Nat) : (σ.setTop t n).cellsAt l s = σ.cellsAt l s := rfl
theorem map_eq (σ : Sig) (l : Aq.Loc) (s : Nat) (ks vs : List V) : (σ.setObj l s (.map ks vs)).mapAt l s = some (ks, vs) := by simp [Sig.setObj, Sig.mapAt, upd]
theorem map_ne (σ : Sig) {l l' : Aq.Loc} (s s' : Nat) (o : AObj) (h : locEq l l' = false) : (σ.setObj l' s' o).mapAt l s = σ.mapAt l s := by
  have h' := locEq_ne h
  simp [Sig.setObj, Sig.mapAt, upd, h']
theorem map_bump (σ : Sig) (k : Nat) (l : Aq.Loc) (s : Nat) : (σ.bump k).mapAt l s = σ.mapAt l s := rfl
theorem map_setTop (σ : Sig) (t n : Nat) (l : Aq.Loc) (s : Nat) : (σ.setTop t n).mapAt l s = σ.mapAt l s := rfl
theorem loc_ne {a b c d : Nat} (h : b ≠ d) : ((a, b) : Aq.Loc) ≠ (c, d) := fun e => h (by cases e; rfl)
end
end Aq
end
section
namespace Aq
open Go
def Is {α : Type} (a b : α) : Prop := a = b
theorem Is.rfl {α : Type} {a : α} : Is a a := Eq.refl a
def iv (n : Int) : V := .int .i64 n
def lv {α : Type} (f : α → V) (l : List α) : V := .lst .sh (l.map f)
theorem pcleanL_map {α : Type} {f : α → V} (h : ∀ x, pclean (f x) = true) : ∀ l : List α, pcleanL (l.map f) = true
  | [] => by simp [pcleanL]
  | a :: l => by simp [pcleanL, h a, pcleanL_map h l]
theorem pclean_lst {α : Type} {f : α → V} (h : ∀ x, pclean (f x) = true) (l : List α) : pclean (.lst .sh (l.map f)) = true := by
  simp only [pclean]; exact pcleanL_map h l
theorem pclean_lv {α : Type} {f : α → V} (h : ∀ x, pclean (f x) = true) (l : List α) : pclean (lv f l) = true := pclean_lst h l
theorem pclean_iv (n : Int) : pclean (iv n) = true := by simp [iv, pclean]
theorem pclean_lstr (l : List (List UInt8)) : pclean (lv V.str l) = true := pclean_lv (fun _ => by simp [pclean]) l
theorem pclean_liv (l : List Int) : pclean (lv iv l) = true := pclean_lv pclean_iv l
theorem pclean_lint (k : IntKind) (l : List Int) : pclean (lv (V.int k) l) = true := pclean_lv (fun _ => by simp [pclean]) l
theorem pclean_lbool (l : List Bool) : pclean (lv V.bool l) = true := pclean_lv (fun _ => by simp [pclean]) l
attribute [go_sem] pclean_lstr pclean_liv pclean_lint pclean_lbool
def idxL {α : Type} (l : List α) (i : Int) : Option α := if 0 ≤ i ∧ i < l.length then l[i.toNat]? else none
def isSliceT (P : Program) (t : TypeId) : Bool := match P.underlying t with
  | some (.slice _) => true
  | _ => false
def isStrT (P : Program) (t : TypeId) : Bool := match P.underlying t with
  | some .string => true
  | _ => false
section
variable {E : Env} {fr : Fr} {σ : Sig}
def NQ (Q : Ex → Fr → Sig → Prop) (fr : Fr) (σ : Sig) : Prop := Q .normal fr σ
theorem NQ.i {Q : Ex → Fr → Sig → Prop} (h : Q .normal fr σ) : NQ Q fr σ := h
theorem SeqQ.n {b : Code} {Q : Ex → Fr → Sig → Prop} (h : CW E b fr σ Q) : SeqQ E b Q .normal fr σ := h
theorem SeqQ.x {b : Code} {i : Nat} {Q : Ex → Fr → Sig → Prop} (h : Q (.exit i) fr σ) : SeqQ E b Q (.exit i) fr σ := h
theorem SeqQ.r {b : Code} {Q : Ex → Fr → Sig → Prop} (h : Q .ret fr σ) : SeqQ E b Q .ret fr σ := h
theorem BlkQ.n {id : Nat} {Q : Ex → Fr → Sig → Prop} (h : Q .normal fr σ) : BlkQ id Q .normal fr σ := h
theorem BlkQ.r {id : Nat} {Q : Ex → Fr → Sig → Prop} (h : Q .ret fr σ) : BlkQ id Q .ret fr σ := h
theorem BlkQ.hit {id : Nat} {Q : Ex → Fr → Sig → Prop} (h : Q .normal fr σ) : BlkQ id Q (.exit id) fr σ := by simp only [BlkQ, if_true]; exact h
theorem LoopQ.n {c : Code} {Q : Ex → Fr → Sig → Prop} (h : CW E (.loop c) fr σ Q) : LoopQ E c Q .normal fr σ := h
theorem LoopQ.x {c : Code} {i : Nat} {Q : Ex → Fr → Sig → Prop} (h : Q (.exit i) fr σ) : LoopQ E c Q (.exit i) fr σ := h
theorem LoopQ.r {c : Code} {Q : Ex → Fr → Sig → Prop} (h : Q .ret fr σ) : LoopQ E c Q .ret fr σ := h
theorem CW.condT {c : Operand} {a b : Code} {Q : Ex → Fr → Sig → Prop} (hc : Is (fr.ev E c) (.bool true)) (h : CW E a fr σ Q) : CW E (.cond c a b) fr σ Q := CW.cond hc (fun _ => h) (fun h => by cases h)
theorem CW.condF {c : Operand} {a b : Code} {Q : Ex → Fr → Sig → Prop} (hc : Is (fr.ev E c) (.bool false)) (h : CW E b fr σ Q) : CW E (.cond c a b) fr σ Q := CW.cond hc (fun h => by cases h) (fun _ => h)
theorem OW.o1 {all : List Oper} {st : Nat} {d : Tmp} {op : Op} {ty : TypeId} {pos : String} {aft : Array Edge} {gd : Option (Nat × Bool)} {os : List Oper} {v : V} {σ1 : Sig} {Q : Fr → Sig → Prop} (hw : Is (wantedV all fr ⟨some d, op, ty, pos, aft, gd⟩) (some true))
    (hop : ∀ S, Is (opC E S fr σ st ⟨some d, op, ty, pos, aft, gd⟩) (some (v, fr, σ1))) (h : OW E all (st + 1) os (fr.set d v) σ1 Q) : OW E all st (⟨some d, op, ty, pos, aft, gd⟩ :: os) fr σ Q := OW.op hw hop h
theorem OW.o0 {all : List Oper} {st : Nat} {op : Op} {ty : TypeId} {pos : String} {aft : Array Edge} {gd : Option (Nat × Bool)} {os : List Oper} {v : V} {σ1 : Sig} {Q : Fr → Sig → Prop} (hw : Is (wantedV all fr ⟨none, op, ty, pos, aft, gd⟩) (some true))
    (hop : ∀ S, Is (opC E S fr σ st ⟨none, op, ty, pos, aft, gd⟩) (some (v, fr, σ1))) (h : OW E all (st + 1) os fr σ1 Q) : OW E all st (⟨none, op, ty, pos, aft, gd⟩ :: os) fr σ Q := OW.op hw hop h
theorem OW.s1 {all : List Oper} {st : Nat} {d : Tmp} {op : Op} {ty : TypeId} {pos : String} {aft : Array Edge} {gd : Option (Nat × Bool)} {os : List Oper} {Q : Fr → Sig → Prop} (hw : Is (wantedV all fr ⟨some d, op, ty, pos, aft, gd⟩) (some false))
    (h : OW E all (st + 1) os (fr.set d undefV) σ Q) : OW E all st (⟨some d, op, ty, pos, aft, gd⟩ :: os) fr σ Q := OW.skip hw h
theorem OW.s0 {all : List Oper} {st : Nat} {op : Op} {ty : TypeId} {pos : String} {aft : Array Edge} {gd : Option (Nat × Bool)} {os : List Oper} {Q : Fr → Sig → Prop} (hw : Is (wantedV all fr ⟨none, op, ty, pos, aft, gd⟩) (some false))
    (h : OW E all (st + 1) os fr σ Q) : OW E all st (⟨none, op, ty, pos, aft, gd⟩ :: os) fr σ Q := OW.skip hw h
theorem FW'.o1 {ms : List Nat} {all : List Oper} {st : Nat} {d : Tmp} {op : Op} {ty : TypeId} {pos : String} {aft : Array Edge} {gd : Option (Nat × Bool)} {os : List Oper} {v : V} {σ1 : Sig} {fs : List Foot} {f : Foot} {Q : Fr → Sig → Prop} (hw : Is (wantedV all fr ⟨some d, op, ty, pos, aft, gd⟩) (some true))
    (hop : ∀ S, Is (opC E S fr σ st ⟨some d, op, ty, pos, aft, gd⟩) (some (v, fr, σ1))) (hf : Is (footI E all fr ⟨some d, op, ty, pos, aft, gd⟩ true) f) (h : FW' E ms all (st + 1) os (fr.set d v) σ1 (fs ++ [f]) Q) : FW' E ms all st (⟨some d, op, ty, pos, aft, gd⟩ :: os) fr σ fs Q :=
  FW'.op hw hop (by rw [hf]; exact h)
theorem FW'.o0 {ms : List Nat} {all : List Oper} {st : Nat} {op : Op} {ty : TypeId} {pos : String} {aft : Array Edge} {gd : Option (Nat × Bool)} {os : List Oper} {v : V} {σ1 : Sig} {fs : List Foot} {f : Foot} {Q : Fr → Sig → Prop} (hw : Is (wantedV all fr ⟨none, op, ty, pos, aft, gd⟩) (some true))
    (hop : ∀ S, Is (opC E S fr σ st ⟨none, op, ty, pos, aft, gd⟩) (some (v, fr, σ1))) (hf : Is (footI E all fr ⟨none, op, ty, pos, aft, gd⟩ true) f) (h : FW' E ms all (st + 1) os fr σ1 (fs ++ [f]) Q) : FW' E ms all st (⟨none, op, ty, pos, aft, gd⟩ :: os) fr σ fs Q :=
  FW'.op hw hop (by rw [hf]; exact h)
theorem FW'.s1 {ms : List Nat} {all : List Oper} {st : Nat} {d : Tmp} {op : Op} {ty : TypeId} {pos : String} {aft : Array Edge} {gd : Option (Nat × Bool)} {os : List Oper} {fs : List Foot} {f : Foot} {Q : Fr → Sig → Prop} (hw : Is (wantedV all fr ⟨some d, op, ty, pos, aft, gd⟩) (some false))
    (hf : Is (footI E all fr ⟨some d, op, ty, pos, aft, gd⟩ false) f) (h : FW' E ms all (st + 1) os (fr.set d undefV) σ (fs ++ [f]) Q) : FW' E ms all st (⟨some d, op, ty, pos, aft, gd⟩ :: os) fr σ fs Q := FW'.skip hw (by rw [hf]; exact h)
theorem FW'.s0 {ms : List Nat} {all : List Oper} {st : Nat} {op : Op} {ty : TypeId} {pos : String} {aft : Array Edge} {gd : Option (Nat × Bool)} {os : List Oper} {fs : List Foot} {f : Foot} {Q : Fr → Sig → Prop} (hw : Is (wantedV all fr ⟨none, op, ty, pos, aft, gd⟩) (some false))
    (hf : Is (footI E all fr ⟨none, op, ty, pos, aft, gd⟩ false) f) (h : FW' E ms all (st + 1) os fr σ (fs ++ [f]) Q) : FW' E ms all st (⟨none, op, ty, pos, aft, gd⟩ :: os) fr σ fs Q := FW'.skip hw (by rw [hf]; exact h)
theorem OW.g1 {all : List Oper} {st : Nat} {d : Tmp} {op : Op} {ty : TypeId} {pos : String} {aft : Array Edge} {gd : Option (Nat × Bool)} {os : List Oper} {v : V} {g : Bool} {Q : Fr → Sig → Prop} (hw : Is (wantedV all fr ⟨some d, op, ty, pos, aft, gd⟩) (some g)) (hop : g = true → ∀ S, Is (opC E S fr σ st ⟨some d, op, ty, pos, aft, gd⟩) (some (v, fr, σ)))
    (h : OW E all (st + 1) os (fr.set d (cond g v undefV)) σ Q) : OW E all st (⟨some d, op, ty, pos, aft, gd⟩ :: os) fr σ Q := by
  cases g with
  | true => exact OW.op hw (hop rfl) h
  | false => exact OW.skip hw h
theorem OW.pk {all : List Oper} {st : Nat} {d : Tmp} {c a b : Operand} {ty : TypeId} {pos : String} {aft : Array Edge} {gd : Option (Nat × Bool)} {os : List Oper} {t x y : Bool} {Q : Fr → Sig → Prop} (hw : Is (wantedV all fr ⟨some d, .pick c a b, ty, pos, aft, gd⟩) (some true)) (hc : Is (fr.ev E c) (.bool t)) (ha : t = true → Is (fr.ev E a) (.bool x)) (hb : t = false → Is (fr.ev E b) (.bool y))
    (h : OW E all (st + 1) os (fr.set d (.bool (cond t x y))) σ Q) : OW E all st (⟨some d, .pick c a b, ty, pos, aft, gd⟩ :: os) fr σ Q := by
  have hc' : fr.ev E c = .bool t := hc
  refine OW.op (v := .bool (cond t x y)) (σ1 := σ) hw (fun S => ?_) h
  cases t with
  | true =>
    have ha' : fr.ev E a = .bool x := ha rfl
    simp only [opC, opV, hc', boolV, Option.map_some, if_true, ha', cond_true]
  | false =>
    have hb' : fr.ev E b = .bool y := hb rfl
    simp only [opC, opV, hc', boolV, Option.map_some, Bool.false_eq_true, if_false, hb', cond_false]
theorem FW'.pk {ms : List Nat} {fs : List Foot} {f : Foot} {all : List Oper} {st : Nat} {d : Tmp} {c a b : Operand} {ty : TypeId} {pos : String} {aft : Array Edge} {gd : Option (Nat × Bool)} {os : List Oper} {t x y : Bool} {Q : Fr → Sig → Prop} (hw : Is (wantedV all fr ⟨some d, .pick c a b, ty, pos, aft, gd⟩) (some true)) (hc : Is (fr.ev E c) (.bool t)) (ha : t = true → Is (fr.ev E a) (.bool x)) (hb : t = false → Is (fr.ev E b) (.bool y))
    (hf : Is (footI E all fr ⟨some d, .pick c a b, ty, pos, aft, gd⟩ true) f) (h : FW' E ms all (st + 1) os (fr.set d (.bool (cond t x y))) σ (fs ++ [f]) Q) : FW' E ms all st (⟨some d, .pick c a b, ty, pos, aft, gd⟩ :: os) fr σ fs Q := by
  have hc' : fr.ev E c = .bool t := hc
  refine FW'.op (v := .bool (cond t x y)) (σ1 := σ) hw (fun S => ?_) (by rw [hf]; exact h)
  cases t with
  | true =>
    have ha' : fr.ev E a = .bool x := ha rfl
    simp only [opC, opV, hc', boolV, Option.map_some, if_true, ha', cond_true]
  | false =>
    have hb' : fr.ev E b = .bool y := hb rfl
    simp only [opC, opV, hc', boolV, Option.map_some, Bool.false_eq_true, if_false, hb', cond_false]
theorem RetQ.one {r : ResultVar} {e : Ex} {v0 : V} {R : V → Sig → Prop} (he : ∀ i, e ≠ .exit i) (hv : Is (resV E fr σ r) (some v0)) (hr : R v0 σ) : RetQ E [r] R e fr σ := by
  have h1 : [r].mapM (resV E fr σ) = some [v0] := by rw [List.mapM_cons, hv]; rfl
  cases e with
  | exit i => exact absurd rfl (he i)
  | normal => exact ⟨[v0], h1, hr⟩
  | ret => exact ⟨[v0], h1, hr⟩
theorem RetQ.tup {rs : List ResultVar} {e : Ex} {v1 v2 : V} {vs : List V} {R : V → Sig → Prop} (he : ∀ i, e ≠ .exit i) (hv : Is (rs.mapM (resV E fr σ)) (some (v1 :: v2 :: vs))) (hr : R (.tup (v1 :: v2 :: vs)) σ) : RetQ E rs R e fr σ := by
  cases e with
  | exit i => exact absurd rfl (he i)
  | normal => exact ⟨_, hv, hr⟩
  | ret => exact ⟨_, hv, hr⟩
theorem Pure.of' {f : FuncId} {args : List V} {v : V} {fn : Func} {c : Code} (rs : List ResultVar) (hf : E.P.funcs[f]? = some fn) (hb : fn.body = some c)
    (h : ∀ fr σ, fr.d = 1 → fr.om = E.om f → (∀ i, fr.tm i = args.getD i undefV) → CW E c fr σ (RetQ E rs (fun v0 σ => closeV 20 σ v0 = some v))) (hrs : fn.results.toList = rs := by rfl) (hok : (decide (args.length ≤ fn.ntmps) && codeOK fn.ntmps c) = true := by rfl) (hs : E.summ f = none := by rfl) : Pure E f args v :=
  Pure.of hs hf hb hok (by rw [hrs]; exact h _ _ rfl rfl (fun _ => rfl))
theorem closeV_clean {n : Nat} {x : V} (h : pclean x = true) : closeV (n + 1) σ x = some x := by unfold closeV; simp only [h, if_true]
theorem closeV_int (n : Nat) (k : IntKind) (i : Int) : closeV (n + 1) σ (.int k i) = some (.int k i) := closeV_clean (by simp [pclean])
theorem closeV_bool (n : Nat) (b : Bool) : closeV (n + 1) σ (.bool b) = some (.bool b) := closeV_clean (by simp [pclean])
theorem closeV_str (n : Nat) (s : List UInt8) : closeV (n + 1) σ (.str s) = some (.str s) := closeV_clean (by simp [pclean])
theorem closeV_lstc {n : Nat} {α : Type} {f : α → V} (c : Cap) (l : List α) (h : ∀ x, pclean (f x) = true) : closeV (n + 2) σ (.lst c (l.map f)) = some (lv f l) := by
  by_cases hp : pclean (.lst c (l.map f)) = true
  · rw [closeV_clean hp]
    cases c <;> simp only [pclean, Bool.false_eq_true] at hp
    rfl
  · unfold closeV
    simp only [hp, if_false, Bool.false_eq_true]
    have : (l.map f).mapM (closeV (n + 1) σ) = some (l.map f) := by
      induction l with
      | nil => simp
      | cons a l ih => simp [h a, closeV_clean, ih (by cases c <;> simp_all [pclean, pcleanL])]
    rw [this]; rfl
theorem er_int (k : IntKind) (i : Int) : er (.int k i) = .int k i := rfl
theorem er_bool (b : Bool) : er (.bool b) = .bool b := rfl
theorem er_str (s : List UInt8) : er (.str s) = .str s := rfl
theorem er_lv {α : Type} (f : α → V) (l : List α) : er (lv f l) = lv f l := rfl
theorem er_lst (c : Cap) (l : List V) : er (.lst c l) = .lst .sh l := rfl
theorem iv_eq (n : Int) : iv n = .int .i64 n := rfl
theorem pclean_int (k : IntKind) (i : Int) : pclean (.int k i) = true := by simp [pclean]
theorem pclean_bool (b : Bool) : pclean (.bool b) = true := by simp [pclean]
theorem pclean_str (s : List UInt8) : pclean (.str s) = true := by simp [pclean]
theorem idx_lst {P : Program} {α : Type} {t : TypeId} {c : Cap} {l : List α} {f : α → V} {k : IntKind} {i : Int} :
    indexAddrV P t (.lst c (l.map f)) (.int k i) = if isSliceT P t then (elemT P t).bind fun e => (szT P e).bind fun sz => (idxL l i).bind fun x => if (f x).cells.length = sz then some (.cref (f x).cells 0) else none else none := by
  unfold indexAddrV isSliceT elemT
  cases hu : P.underlying t with
  | none => rfl
  | some u =>
    cases u <;> try rfl
    rename_i e
    simp only [if_true, Option.bind_some]
    cases szT P e with
    | none => rfl
    | some sz =>
      simp only [Option.bind_some, idx, bndI, List.length_map, idxL]
      split
      · rename_i h
        simp only [Option.bind_some, List.getElem?_map]
        cases l[i.toNat]? with
        | none => rfl
        | some x => rfl
      · rfl
theorem idx_lv {P : Program} {α : Type} {t : TypeId} {l : List α} {f : α → V} {k : IntKind} {i : Int} :
    indexAddrV P t (lv f l) (.int k i) = if isSliceT P t then (elemT P t).bind fun e => (szT P e).bind fun sz => (idxL l i).bind fun x => if (f x).cells.length = sz then some (.cref (f x).cells 0) else none else none := idx_lst
theorem ldT_one {P : Program} {t : TypeId} {v : V} (h1 : isAggT P t = some false) (h2 : szT P t = some 1) : ldT P t [v] 0 = some v := by simp [ldT, h1, h2, partV]
theorem lenB_lv {t : TypeId} {α : Type} (f : α → V) (l : List α) (h : isSliceT E.P t = true) : lenB E σ t (lv f l) = some l.length := by
  unfold isSliceT at h; unfold lenB
  split at h
  · rename_i e he; rw [he]; simp [lv]
  · simp at h
theorem lenB_lst {t : TypeId} (c : Cap) (l : List V) (h : isSliceT E.P t = true) : lenB E σ t (.lst c l) = some l.length := by
  unfold isSliceT at h; unfold lenB
  split at h
  · rename_i e he; rw [he]
  · simp at h
theorem lenB_str {t : TypeId} (l : List UInt8) (h : isStrT E.P t = true) : lenB E σ t (.str l) = some l.length := by
  unfold isStrT at h; unfold lenB
  split at h
  · rename_i he; rw [he]
  · simp at h
end
section
variable {E : Env} {S : Evl} {fr : Fr} {σ : Sig} {st : Nat} {d : Option Tmp} {ty : TypeId} {pos : String} {aft : Array Edge} {gd : Option (Nat × Bool)}
theorem wanted_none (all : List Oper) (op : Op) : wantedV all fr ⟨d, op, ty, pos, aft, none⟩ = some true := rfl
def guardB (want : Bool) : V → Option Bool
  | .bool b => some (b == want)
  | .raw _ => none
  | _ => some false
theorem guardB_bool (w b : Bool) : guardB w (.bool b) = some (b == w) := rfl
theorem guardB_undef (w : Bool) : guardB w undefV = some false := rfl
theorem wanted_some (all : List Oper) (op : Op) (j : Nat) (want : Bool) : wantedV all fr ⟨d, op, ty, pos, aft, some (j, want)⟩ = match (all[j]?).bind (·.dst) with
    | some t => guardB want (fr.tm t)
    | none => some false := by
  simp only [wantedV]
  cases (all[j]?).bind (·.dst) with
  | none => rfl
  | some t => simp only; cases fr.tm t <;> rfl
theorem vc_agg (cs : List V) : V.cells (.agg cs) = cs := rfl
theorem vc_int (k : IntKind) (n : Int) : V.cells (.int k n) = [.int k n] := rfl
theorem notRaw_int (k : IntKind) (n : Int) : notRaw (.int k n) = true := rfl
theorem vc_bool (b : Bool) : V.cells (.bool b) = [.bool b] := rfl
theorem notRaw_bool (b : Bool) : notRaw (.bool b) = true := rfl
theorem vc_str (s : List UInt8) : V.cells (.str s) = [.str s] := rfl
theorem notRaw_str (s : List UInt8) : notRaw (.str s) = true := rfl
theorem vc_lst (c : Cap) (l : List V) : V.cells (.lst c l) = [.lst c l] := rfl
theorem notRaw_lst (c : Cap) (l : List V) : notRaw (.lst c l) = true := rfl
theorem vc_ref (l : Aq.Loc) (s o : Nat) : V.cells (.ref l s o) = [.ref l s o] := rfl
theorem notRaw_ref (l : Aq.Loc) (s o : Nat) : notRaw (.ref l s o) = true := rfl
theorem vc_cref (cs : List V) (o : Nat) : V.cells (.cref cs o) = [.cref cs o] := rfl
theorem notRaw_cref (cs : List V) (o : Nat) : notRaw (.cref cs o) = true := rfl
theorem vc_fn (f : Fn) (a b : List V) : V.cells (.fn f a b) = [.fn f a b] := rfl
theorem notRaw_fn (f : Fn) (a b : List V) : notRaw (.fn f a b) = true := rfl
theorem vc_lv {α : Type} (f : α → V) (l : List α) : V.cells (lv f l) = [lv f l] := rfl
theorem oneCells_nil : oneCells [] = true := rfl
theorem oneCells_cons (x : V) (l : List V) : oneCells (x :: l) = (oneCell x && oneCells l) := rfl
theorem oneCell_int (k : IntKind) (n : Int) : oneCell (.int k n) = true := rfl
theorem oneCell_bool (b : Bool) : oneCell (.bool b) = true := rfl
theorem oneCell_str (s : List UInt8) : oneCell (.str s) = true := rfl
theorem oneCell_lv {α : Type} (f : α → V) (l : List α) : oneCell (lv f l) = true := rfl
theorem oneCell_lst (c : Cap) (l : List V) : oneCell (.lst c l) = true := rfl
theorem oneCell_ref (l : Aq.Loc) (s o : Nat) : oneCell (.ref l s o) = true := rfl
theorem oneCell_cref (cs : List V) (o : Nat) : oneCell (.cref cs o) = true := rfl
theorem notRaw_agg (cs : List V) : notRaw (.agg cs) = true := rfl
theorem notRaw_lv {α : Type} (f : α → V) (l : List α) : notRaw (lv f l) = true := rfl
theorem oc_move (x : Operand) : opC E S fr σ st ⟨d, .move x, ty, pos, aft, gd⟩ = some (fr.ev E x, fr, σ) := rfl
theorem oc_assign (x : Operand) : opC E S fr σ st ⟨d, .assign x, ty, pos, aft, gd⟩ = some (fr.ev E x, fr, σ) := rfl
theorem oc_pickT (c a b : Operand) (h : fr.ev E c = .bool true) : opC E S fr σ st ⟨d, .pick c a b, ty, pos, aft, gd⟩ = some (fr.ev E a, fr, σ) := by
  simp only [opC, opV, h, boolV, Option.map_some, if_true]
theorem oc_pickF (c a b : Operand) (h : fr.ev E c = .bool false) : opC E S fr σ st ⟨d, .pick c a b, ty, pos, aft, gd⟩ = some (fr.ev E b, fr, σ) := by
  simp only [opC, opV, h, boolV, Option.map_some, Bool.false_eq_true, if_false]
theorem oc_bin (op : BinOp) (t u : TypeId) (x y : Operand) : opC E S fr σ st ⟨d, .binOp op t x y u, ty, pos, aft, gd⟩ = (binV E.P op t (fr.ev E x) (fr.ev E y)).map fun v => (v, fr, σ) := by
  simp only [opC, opV]; cases binV E.P op t (fr.ev E x) (fr.ev E y) <;> rfl
theorem oc_un (op : UnOp) (t : TypeId) (x : Operand) : opC E S fr σ st ⟨d, .unOp op t x, ty, pos, aft, gd⟩ = (unV op (fr.ev E x)).map fun v => (v, fr, σ) := by
  simp only [opC, opV]; cases unV op (fr.ev E x) <;> rfl
theorem oc_fa (t : TypeId) (x : Operand) (f : Nat) : opC E S fr σ st ⟨d, .fieldAddr t x f, ty, pos, aft, gd⟩ = (fieldT E.P t f).bind fun p => match fr.ev E x with
    | .ref loc s off => some (.ref loc s (off + p.1), fr, σ)
    | .cref cs off => some (.cref cs (off + p.1), fr, σ)
    | _ => none := by
  simp only [opC, opV]
  cases fieldT E.P t f with
  | none => rfl
  | some p => obtain ⟨o, u⟩ := p; simp only [Option.bind_some]; cases fr.ev E x <;> rfl
theorem oc_ld (t : TypeId) (x : Operand) : opC E S fr σ st ⟨d, .load t x, ty, pos, aft, gd⟩ = (match fr.ev E x with
    | .ref loc s off => (σ.cellsAt loc s).bind fun cs => (ldT E.P t cs off).map fun v => (v, fr, σ)
    | .cref cs off => (ldT E.P t cs off).map fun v => (v, fr, σ)
    | _ => none) := by
  simp only [opC, opV]
  cases fr.ev E x with
  | ref loc s off =>
    simp only
    cases σ.cellsAt loc s with
    | none => rfl
    | some cs => simp only [Option.bind_some]; cases ldT E.P t cs off <;> rfl
  | cref cs off => simp only; cases ldT E.P t cs off <;> rfl
  | _ => rfl
theorem oc_box (t : TypeId) (x : Operand) (i : Nat) : opC E S fr σ st ⟨some i, .box t x, ty, pos, aft, gd⟩ = if oneCells (fr.ev E x).cells ∧ notRaw (fr.ev E x) then some (.ref (fr.d, i) st 0, fr, σ.setObj (fr.d, i) st (.cells (fr.ev E x).cells)) else none := by
  simp only [opC, opV, Option.map_some, Option.bind_some]; split <;> rfl
theorem oc_alloc (t : TypeId) (i : Nat) : opC E S fr σ st ⟨some i, .alloc t, ty, pos, aft, gd⟩ = (zeroT E.P t).bind fun z => if oneCells z.cells then some (.ref (fr.d, i) st 0, fr, σ.setObj (fr.d, i) st (.cells z.cells)) else none := by
  simp only [opC, opV, Option.map_some, Option.bind_some]
  cases zeroT E.P t with
  | none => rfl
  | some z => simp only [Option.bind_some]; split <;> rfl
theorem oc_store (t : TypeId) (a x : Operand) : opC E S fr σ st ⟨d, .store t a x, ty, pos, aft, gd⟩ = (match fr.ev E a with
    | .ref loc s off => (σ.cellsAt loc s).bind fun cs =>
      if some (fr.ev E x).cells.length = szT E.P t ∧ off + (fr.ev E x).cells.length ≤ cs.length ∧ oneCells (fr.ev E x).cells then some (undefV, fr, σ.setObj loc s (.cells (spliceL cs off (fr.ev E x).cells))) else none
    | _ => none) := by
  simp only [opC, opV]
  cases fr.ev E a with
  | ref loc s off =>
    simp only
    cases σ.cellsAt loc s with
    | none => rfl
    | some cs => simp only [Option.bind_some]; split <;> rfl
  | _ => rfl
theorem oc_ia (t : TypeId) (x i : Operand) : opC E S fr σ st ⟨d, .indexAddr t x i, ty, pos, aft, gd⟩ = (indexAddrV E.P t (fr.ev E x) (fr.ev E i)).map fun v => (v, fr, σ) := by
  simp only [opC, opV]; cases indexAddrV E.P t (fr.ev E x) (fr.ev E i) <;> rfl
theorem oc_ext (x : Operand) (i : Nat) : opC E S fr σ st ⟨d, .extract x i, ty, pos, aft, gd⟩ = (match fr.ev E x with
    | .tup vs => (vs[i]?).map fun v => (v, fr, σ)
    | _ => none) := by
  simp only [opC, opV]
  cases fr.ev E x with
  | tup vs => simp only; cases vs[i]? <;> rfl
  | _ => rfl
theorem oc_len (x : Operand) (t : TypeId) : opC E S fr σ st ⟨d, .call ⟨.builtin .len, #[x], #[t]⟩, ty, pos, aft, gd⟩ = (lenB E σ t (fr.ev E x)).map fun n => (.int .i64 (n : Nat), fr, σ) := by
  show (Option.map _ (((#[t] : Array TypeId)[0]?).bind fun t => (lenB E σ t (fr.ev E x)).map fun n => (V.int .i64 (n : Nat), σ))) = _
  rw [show (#[t] : Array TypeId)[0]? = some t from rfl, Option.bind_some]
  cases lenB E σ t (fr.ev E x) <;> rfl
end
attribute [go_sem] Bool.false_eq_true binV intB strB unV decide_true decide_false List.getElem?_cons_succ List.getElem?_cons_zero beq_true beq_false Bool.not_true Bool.not_false locEq_mk Bool.false_and Bool.and_false Bool.true_and Bool.and_true wanted_none wanted_some guardB_bool guardB_undef oc_move oc_assign oc_pickT oc_pickF oc_bin oc_un oc_fa oc_ld oc_box oc_alloc oc_store oc_ia oc_ext oc_len ev_tmp ev_const ev_func set_eq set_ne put_some put_none set_d set_om next_bump next_setObj next_setTop cells_eq cells_ne cells_bump cells_setTop map_eq map_ne map_bump map_setTop loc_ne top_setTop_eq top_setTop_ne top_bump top_setObj iv_eq ldT_one lenB_lv lenB_lst lenB_str idx_lst List.length_map idx_lv closeV_int closeV_bool closeV_str er_int er_bool er_str er_lv er_lst pclean_int pclean_bool pclean_str Option.bind_some Option.map_some Option.getD_some boolV ofValue ofScalar if_true if_false vc_agg vc_int vc_bool vc_str vc_lv vc_lst vc_ref vc_cref vc_fn notRaw_int notRaw_bool notRaw_str notRaw_lst notRaw_ref notRaw_cref notRaw_fn oneCells_nil oneCells_cons oneCell_int oneCell_bool oneCell_str oneCell_lv oneCell_lst oneCell_ref oneCell_cref notRaw_agg notRaw_lv and_self and_true true_and
end Aq
end
