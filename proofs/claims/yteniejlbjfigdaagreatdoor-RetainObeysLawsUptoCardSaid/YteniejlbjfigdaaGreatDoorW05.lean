/- Part of the proof of a law: Aq29 Aq30 Aq31 Aq32 Aq33 Aq34. -/
import Derived.Test.YteniejlbjfigdaaGreatDoorW04
set_option linter.all false
set_option linter.unusedSimpArgs false
set_option linter.unusedSectionVars false
section
namespace Aq
open Go Go.RowKit
section
variable {E : Env} {S : Evl} {K K' : Con} {T T' : Nat → Nat} {w w' : World} {σ σ' : Sig} {B0 : Nat}
theorem closeV_id {n : Nat} {x y : V} (hp : pclean x = true) (h : closeV n σ x = some y) : y = x := by
  cases n with
  | zero => simp [closeV] at h
  | succ n =>
    unfold closeV at h
    simp only [hp, if_true, Option.some.injEq] at h
    exact h.symm
theorem mapM_id {f : V → Option V} {l r : List V} (h : l.mapM f = some r) (g : V → V) (hf : ∀ i (hi : i < l.length) y, f l[i] = some y → y = g l[i]) : r = l.map g := by
  obtain ⟨h1, h2⟩ := mapM_some h
  refine List.ext_getElem (by simp [h1]) (fun i hi hi' => ?_)
  obtain ⟨h3, h4⟩ := h2 i (by omega)
  simp only [List.getElem_map]
  exact hf i (by omega) _ h4
theorem pcleanL_getElem {l : List V} (h : pcleanL l = true) {i : Nat} (hi : i < l.length) : pclean l[i] = true := by
  have := pcleanL_all h i hi
  rwa [getD_of_lt hi] at this
theorem closeV_lst {n : Nat} {c : Cap} {l : List V} {y : V} (hp : pcleanL l = true) (h : closeV n σ (.lst c l) = some y) : y = .lst .sh l := by
  cases n with
  | zero => simp [closeV] at h
  | succ n =>
    unfold closeV at h
    split at h
    · rename_i hc
      simp only [Option.some.injEq] at h
      subst h
      cases c <;> simp only [pclean, Bool.false_eq_true] at hc
      rfl
    · simp only [Option.map_eq_some_iff] at h
      obtain ⟨r, hr, rfl⟩ := h
      have := mapM_id hr id (fun i hi y hy => closeV_id (pcleanL_getElem hp hi) hy)
      rw [this, List.map_id]
theorem er1_of_pclean {x : V} (hp : pclean x = true) : er1 x = x := by
  cases x with
  | lst c l => cases c <;> simp only [pclean, Bool.false_eq_true] at hp; rfl
  | _ => rfl
theorem closeV_er1 {n : Nat} {x y : V} (hp : pclean (er1 x) = true) (h : closeV n σ x = some y) : y = er1 x := by
  cases x with
  | lst c l => exact closeV_lst (by simpa [er1, pclean] using hp) h
  | _ => exact closeV_id hp h
theorem closeV_er {n : Nat} {x y : V} (hp : pclean (er x) = true) (h : closeV n σ x = some y) : y = er x := by
  cases x with
  | lst c l => exact closeV_lst (by simpa [er, pclean] using hp) h
  | agg cs =>
    have hp' : pcleanL (cs.map er1) = true := by simpa [er, pclean] using hp
    have hpi : ∀ i (hi : i < cs.length), pclean (er1 cs[i]) = true := fun i hi => by
      have := pcleanL_getElem hp' (i := i) (by simpa using hi)
      simpa using this
    cases n with
    | zero => simp [closeV] at h
    | succ n =>
      unfold closeV at h
      split at h
      · rename_i hc
        simp only [Option.some.injEq] at h
        subst h
        have hc' : pcleanL cs = true := by simpa [pclean] using hc
        show V.agg cs = V.agg (cs.map er1)
        congr 1
        refine List.ext_getElem (by simp) (fun i hi hi' => ?_)
        simp only [List.getElem_map]
        exact (er1_of_pclean (pcleanL_getElem hc' hi)).symm
      · simp only [Option.map_eq_some_iff] at h
        obtain ⟨r, hr, rfl⟩ := h
        show V.agg r = V.agg (cs.map er1)
        rw [mapM_id hr er1 (fun i hi y hy => closeV_er1 (hpi i hi) hy)]
  | _ => exact closeV_id hp h
theorem relA_append {a b : List V} {ca cb : Array Value} (h : RelA K T w a ca) (g : RelA K T w b cb) : RelA K T w (a ++ b) (ca ++ cb) := by
  obtain ⟨h1, h2⟩ := h
  obtain ⟨g1, g2⟩ := g
  refine ⟨by simp [h1, g1], fun i hi => ?_⟩
  have hi' : i < a.length + b.length := by simpa using hi
  by_cases hlt : i < a.length
  · have e1 : (a ++ b).getD i undefV = a.getD i undefV := by simp [List.getD, List.getElem?_append_left hlt]
    have e2 : (ca ++ cb).getD i undef = ca.getD i undef := by
      simp only [Array.getD_eq_getD_getElem?]
      rw [Array.getElem?_append_left (by omega)]
    rw [e1, e2]; exact h2 i hlt
  · have e1 : (a ++ b).getD i undefV = b.getD (i - a.length) undefV := by simp [List.getD, List.getElem?_append_right (Nat.le_of_not_lt hlt)]
    have e2 : (ca ++ cb).getD i undef = cb.getD (i - a.length) undef := by
      simp only [Array.getD_eq_getD_getElem?]
      rw [Array.getElem?_append_right (by omega), ← h1]
    rw [e1, e2]; exact g2 _ (by omega)
theorem relA_close {l r : List V} {cl : Array Value} {n : Nat} {K2 : Con} {T2 : Nat → Nat} (h : RelA K T w l cl) (hm : l.mapM (closeV n σ) = some r)
    (hx : ∀ x y c, x ∈ l → Rel K T w x c → closeV n σ x = some y → Rel K2 T2 w y c) : RelA K2 T2 w r cl := by
  obtain ⟨h1, h2⟩ := h
  obtain ⟨m1, m2⟩ := mapM_some hm
  refine ⟨by omega, fun i hi => ?_⟩
  obtain ⟨h3, h4⟩ := m2 i (by omega)
  have := h2 i (by omega)
  rw [getD_of_lt (show i < l.length by omega)] at this
  rw [getD_of_lt h3]
  exact hx _ _ _ (List.getElem_mem _) this h4
theorem lent_own (hE : EnvOK E) (h : SOK E B0 σ K w) : Lent E K.I K.IM w :=
  ⟨fun b o hi => (h.I b o hi).1, fun b hi => (h.IM b hi).1, fun g cs hg => (h.glob g cs hg).pure (by simpa [pclean] using hE.flat g cs hg) (fun _ _ h => ⟨h, rfl⟩) (fun _ h => ⟨h, rfl⟩)⟩
theorem lent_all (hE : EnvOK E) (h : SOK E B0 σ K w) : Lent E (fun b o => ∃ v, w.cell? (at_ b o) = some v) (fun b => ∃ es clk, w.heap[b]? = some (.map es clk)) w :=
  ⟨fun _ _ hi => hi, fun _ hi => hi, fun g cs hg => (h.glob g cs hg).pure (by simpa [pclean] using hE.flat g cs hg) (fun b o hi => ⟨(h.I b o hi).1, rfl⟩) (fun b hi => ⟨(h.IM b hi).1, rfl⟩)⟩
theorem applyV_sound (hE : EnvOK E) (hS : CallSound1 E S.call) (h : SOK E B0 σ K w) (hB : B0 ≤ w.heap.size) (hA : ∀ s, K.A s → s < σ.next) {d : Nat} {fv : V} {cf : Value} {args : List V} {cargs : Array Value} {v : V}
    (hfn : ∃ f a b, fv = .fn (.func f) a b) (hv : applyV E S d σ fv args = some (v, σ')) (rf : Rel K σ.top w fv cf) (ra : RelA K σ.top w args cargs) :
    σ.next ≤ σ'.next ∧ ∃ f first cap, cf = .func (.func f) first cap ∧ HasBody E f ∧ CallsIn Fence.wide 0 E.P f (first ++ cargs ++ cap) w (CallPost E B0 σ K w v σ') := by
  obtain ⟨f, a, b, rfl⟩ := hfn
  unfold applyV at hv
  · dsimp only at hv
    cases rf with
    | fn _ _ _ av bv ha hb rra rrb =>
    have rall : RelA K σ.top w (a ++ args ++ b) (av ++ cargs ++ bv) := relA_append (relA_append ⟨ha, rra⟩ ra) ⟨hb, rrb⟩
    split at hv
    · obtain ⟨h1, h2, h3⟩ := hS _ _ _ _ _ _ hv
      exact ⟨h1, f, av, bv, rfl, h2, h3 none B0 K w _ h hB hA rall⟩
    · simp only [Option.bind_eq_some_iff] at hv
      obtain ⟨as, has, r, hr, hv⟩ := hv
      split at hv
      · rename_i hcl
        simp only [Option.some.injEq, Prod.mk.injEq] at hv
        obtain ⟨rfl, rfl⟩ := hv
        obtain ⟨p1, p2⟩ := callPure_sound hE hS hr
        refine ⟨Nat.le_refl _, f, av, bv, rfl, p1, ?_⟩
        simp only [Bool.or_eq_true, List.all_eq_true] at hcl
        rcases hcl with hcl | hcl
        · have ra' : RelA (Con.lend K.I K.IM) (fun _ => 0) w as (av ++ cargs ++ bv) := by
            refine relA_close rall has (fun x y c hx hxr hxy => ?_)
            have hp := hcl x hx
            rw [closeV_er hp hxy]
            exact (er_rel hxr).pure hp (fun _ _ h => ⟨h, rfl⟩) (fun _ h => ⟨h, rfl⟩)
          refine (p2 _ _ w _ (lent_own hE h) ra').mono ?_
          intro e w' hp
          cases e with
          | returned c =>
            obtain ⟨hb', hr'⟩ := hp
            have st := Step.grow (new := newer σ σ) h hB hb'
            exact ⟨_, hr'.unlend (fun _ _ h => ⟨h, rfl⟩) (fun _ h => ⟨h, rfl⟩), st.ok, hA, st⟩
          | panicked ch => exact hp.elim
          | outgrown => exact hp.elim
        · have ra' : RelA (Con.lend (fun b o => ∃ v, w.cell? (at_ b o) = some v) (fun b => ∃ es clk, w.heap[b]? = some (.map es clk))) (fun _ => 0) w as (av ++ cargs ++ bv) := by
            refine relA_close rall has (fun x y c hx hxr hxy => ?_)
            exact (closeV_sound (T' := fun _ => 0) h 20 x y c hxr hxy).unlend (fun _ _ h => ⟨h.2, rfl⟩) (fun _ h => ⟨h.2, rfl⟩)
          refine (p2 _ _ w _ (lent_all hE h) ra').mono ?_
          intro e w' hp
          cases e with
          | returned c =>
            obtain ⟨hb', hr'⟩ := hp
            have st := Step.grow (new := newer σ σ) h hB hb'
            exact ⟨_, hr'.flat hcl, st.ok, hA, st⟩
          | panicked ch => exact hp.elim
          | outgrown => exact hp.elim
      · simp at hv
theorem run_enter (hE : EnvOK E) {f : FuncId} (hb : HasBody E f) (args : Array Value) (w : World) : (callFunc f args).run E.P w = .ok (.enter f args) w := by
  obtain ⟨fn, c, hf, hc⟩ := hb
  have hn := hE.name f fn hf
  simp [callFunc, hf, hc, hn]
/-- Any operation that goes through. -/
theorem opC_sound (hE : EnvOK E) (hS : Sound E S) {fr fr' : Fr} {a : Act} {n : Nat} {ds : Dfr} (hs : St E B0 σ K w fr a n ds) {st : Nat} (hst : ¬ K.A st) {o : Oper} {v : V}
    (hop : opC E S fr σ st o = some (v, fr', σ')) : fr' = fr ∧ σ.next ≤ σ'.next ∧ (∀ next Q ro, (∀ c w' K', Rel K' σ'.top w' v c → Step E B0 (fun s => s = st ∨ newer σ σ' s) σ K w σ' K' w' → next (a.put o.dst c) w') →
      o.wpIn (FW ro) 0 E.P a w next Q) := by
  have hdone : ∀ {v σ'}, DoneN E B0 (· = st) σ K w (execOp a.eval o) v σ' → (∀ c, o.op ≠ .defer c) → ∀ next Q ro, (∀ c w' K', Rel K' σ'.top w' v c → Step E B0 (fun s => s = st ∨ newer σ σ' s) σ K w σ' K' w' → next (a.put o.dst c) w') →
      o.wpIn (FW ro) 0 E.P a w next Q := fun hd ho next Q ro hn => wpIn_done ho hd (fun c w' K' hr hst => hn c w' K' hr (hst.mono (fun _ h => .inl h)))
  unfold opC at hop
  split at hop
  · rename_i c hc
    have hnd : ∀ d, o.op ≠ .defer d := fun d hd => by rw [hc] at hd; cases hd
    split at hop
    · rename_i b hb
      simp only [Option.map_eq_some_iff, Prod.mk.injEq] at hop
      obtain ⟨⟨v1, σ1⟩, hv, rfl, rfl, rfl⟩ := hop
      have hsame := builtinV_same hv
      refine ⟨rfl, by rw [hsame.1]; exact Nat.le_refl _, hdone ?_ hnd⟩
      have hargs := rel_args hs.ok hs.fr c.args
      have hex : execOp a.eval o = builtin b c.argTypes o.type (c.args.map fun | .const _ => true | _ => false) (c.args.map a.eval) := by
        unfold execOp
        simp only [hc]
        unfold resolve
        simp only [hb]
        rfl
      rw [hex]
      exact builtinV_sound hs.ok hs.hB hst hargs hv
    · rename_i f hf
      simp only [Option.map_eq_some_iff, Prod.mk.injEq] at hop
      obtain ⟨⟨v1, σ1⟩, hv, rfl, rfl, rfl⟩ := hop
      have hcases : (∃ g a b, fr.ev E f = .fn (.func g) a b) ∨ ∃ l, fr.ev E f = .fn (.yield l) [] [] := by
        unfold applyV at hv
        split at hv
        · rename_i g a b he; exact .inl ⟨g, a, b, he⟩
        · rename_i l he; exact .inr ⟨l, he⟩
        · simp at hv
      rcases hcases with hfn | ⟨l, hy⟩
      rotate_left
      · have hv' : roundV S l (c.args.toList.map (fr.ev E)) σ = some (v1, σ1) := by rw [hy] at hv; exact hv
        obtain ⟨hn1, fn, tmps, asg, body, hyield, hround⟩ := roundV_sound hS.code hs.ok hs.hB hs.st hv' (rel_args hs.ok hs.fr c.args)
        have hcf : a.eval f = .func (.yield (K.lp l)) #[] #[] := by
          have := ev_rel hs.ok hs.fr f
          rw [hy] at this
          generalize a.eval f = cf at this
          cases this; rfl
        refine ⟨rfl, hn1, fun next Q ro hn => ⟨fun _ _ => trivial, ?_⟩⟩
        rw [semAt_of _ _ hnd]
        have hex : (execOp a.eval o).run E.P w = .ok (.round (K.lp l) fn tmps asg body) w := by
          unfold execOp
          simp only [hc]
          unfold resolve
          simp only [hf, hcf, Deferred.ofValue, Sem.run_bind, Sem.run_pure, Result.andThen_ok, invoke]
          simpa using hyield
        rw [hex, Oper.uponIn_round]
        refine ⟨fun hd => by simp [FW, Fence.wide] at hd, ?_⟩
        have h2 : RoundIn (FW ro) (0 - 1) E.P (K.lp l) fn tmps asg body w (CallPost E B0 σ K w v1 σ1) := hround
        refine h2.mono ?_
        intro e w' hp
        cases e with
        | returned cv =>
          obtain ⟨K', r1, _, _, st1⟩ := hp
          exact hn cv w' K' r1 (st1.mono (fun _ h => .inr h))
        | panicked ch => exact hp.elim
        | outgrown => exact hp.elim
      obtain ⟨hn1, g, first, cap, hcf, hbody, hcall⟩ := applyV_sound hE hS.call hs.ok hs.hB hs.st hfn hv (ev_rel hs.ok hs.fr f) (rel_args hs.ok hs.fr c.args)
      refine ⟨rfl, hn1, fun next Q ro hn => ⟨fun _ _ => trivial, ?_⟩⟩
      rw [semAt_of _ _ hnd]
      have hex : (execOp a.eval o).run E.P w = .ok (.enter g (first ++ c.args.map a.eval ++ cap)) w := by
        unfold execOp
        simp only [hc]
        unfold resolve
        simp only [hf, hcf, Deferred.ofValue, Sem.run_bind, Sem.run_pure, Result.andThen_ok, invoke]
        exact run_enter hE hbody _ _
      rw [hex, Oper.uponIn_enter]
      refine ⟨fun hd => by simp [FW, Fence.wide] at hd, ?_⟩
      have h2 : CallsIn (FW ro) (0 - 1) E.P g (first ++ c.args.map a.eval ++ cap) w (CallPost E B0 σ K w v1 σ1) := hcall
      refine h2.mono ?_
      intro e w' hp
      cases e with
      | returned cv =>
        obtain ⟨K', r1, _, _, st1⟩ := hp
        exact hn cv w' K' r1 (st1.mono (fun _ h => .inr h))
      | panicked ch => exact hp.elim
      | outgrown => exact hp.elim
    · simp at hop
  · simp at hop
  · rename_i hnc hnd
    simp only [Option.map_eq_some_iff, Prod.mk.injEq] at hop
    obtain ⟨⟨v1, σ1⟩, hv, rfl, rfl, rfl⟩ := hop
    have hsame := opV_same hv
    exact ⟨rfl, by rw [hsame.1]; exact Nat.le_refl _, hdone (opV_sound hs.ok hs.hB hs.fr hst hv) hnd⟩
end
end Aq
end
section
namespace Aq
open Go Go.RowKit
section
variable (E : Env) (S : Evl)
/-- One operation, by its place. -/
def stepI (ops : List Oper) (base i : Nat) (fr : Fr) (σ : Sig) : Option (Fr × Sig) :=
  match ops[i]? with
  | none => some (fr, σ)
  | some o =>
    (wantedV ops fr o).bind fun t => if t then (opC E S fr σ (base + i) o).map fun (v, fr, σ) => (fr.put o.dst v, σ)
    else some (fr.put o.dst undefV, σ)
def opsL (ops : List Oper) (base : Nat) : List Nat → Fr → Sig → Option (Fr × Sig)
  | [], fr, σ => some (fr, σ)
  | i :: l, fr, σ => (stepI E S ops base i fr σ).bind fun (fr, σ) => opsL ops base l fr σ
theorem opsE_eq_opsL (all : List Oper) (base : Nat) : ∀ (os : List Oper) (k : Nat) (fr : Fr) (σ : Sig), (∀ j, os[j]? = all[k + j]?) →
    opsE E S all (base + k) os fr σ = opsL E S all base (List.range' k os.length) fr σ := by
  intro os
  induction os with
  | nil => intro k fr σ _; rfl
  | cons o os ih =>
    intro k fr σ h
    have h0 : all[k]? = some o := by simpa using (h 0).symm
    have ih' := fun fr σ => ih (k + 1) fr σ (fun j => by have := h (j + 1); simpa [Nat.add_assoc, Nat.add_comm 1 j] using this)
    simp only [List.length_cons, List.range'_succ, opsL, stepI, h0, opsE]
    cases hwt : wantedV all fr o with
    | none => rfl
    | some t =>
    simp only [Option.bind_some]
    split
    · cases hop : opC E S fr σ (base + k) o with
      | none => rfl
      | some r =>
        obtain ⟨v, fr1, σ1⟩ := r
        exact ih' _ _
    · exact ih' _ _
theorem opsE_range (ops : Array Oper) (base : Nat) (fr : Fr) (σ : Sig) : opsE E S ops.toList base ops.toList fr σ = opsL E S ops.toList base (List.range ops.size) fr σ := by
  have := opsE_eq_opsL E S ops.toList base ops.toList 0 fr σ (fun j => by simp)
  rw [Nat.add_zero] at this
  rw [this, List.range_eq_range', Array.length_toList]
end
section
variable {E : Env} {S : Evl} {K K' : Con} {w w' : World} {σ σ' : Sig} {B0 : Nat} {fr fr' : Fr} {a : Act} {n : Nat} {ds : Dfr}
theorem wantedV_rel (hf : FrRel K σ.top w fr a.tmps) (ops : Array Oper) (o : Oper) (hsz : opsOK a.tmps.size ops.toList = true) {t : Bool} (hv : wantedV ops.toList fr o = some t) :
    Region.wanted o (yielded ops a.tmps) = t := by
  unfold Region.wanted
  unfold wantedV at hv
  cases hg : o.guard with
  | none => rw [hg] at hv; exact Option.some.inj hv
  | some g =>
    obtain ⟨j, want⟩ := g
    rw [hg] at hv
    simp only at hv ⊢
    cases hd : (ops.toList[j]?).bind (·.dst) with
    | none =>
      have hd' : (ops[j]?).bind (·.dst) = none := by simpa using hd
      simp only [hd, Option.some.injEq] at hv
      simp only [yielded, hd', ← hv]
      rfl
    | some t =>
      have hd' : (ops[j]?).bind (·.dst) = some t := by simpa using hd
      have ht : t < a.tmps.size := by
        cases ho : ops[j]? with
        | none => simp [ho] at hd'
        | some o' =>
          have hm : o' ∈ ops.toList := by simpa using Array.mem_of_getElem? ho
          simp only [opsOK, List.all_eq_true] at hsz
          have h1 := hsz o' hm
          have h2 : o'.dst = some t := by simpa [ho] using hd'
          rw [h2] at h1
          simpa using h1
      have hr := hf t
      have hget : a.tmps[t]? = some (a.tmps.getD t undef) := by simp [Array.getD, ht]
      simp only [hd] at hv
      simp only [yielded, hd', Option.bind_some, hget]
      generalize a.tmps.getD t undef = c at hr
      generalize fr.tm t = x at hr hv
      cases hr <;> simp only [Option.some.injEq, reduceCtorEq] at hv <;> first | exact hv | (rw [← hv]; rfl)
theorem run_next (h : SOK E B0 σ K w) (k : Nat) : SOK E B0 { σ with next := k } K w := ⟨h.obj, h.own, h.I, h.IM, h.loop, h.glob, h.rb, h.D⟩
theorem opC_next (hS : Sound E S) {st : Nat} {o : Oper} {v : V} (hop : opC E S fr σ st o = some (v, fr', σ')) : fr' = fr ∧ σ.next ≤ σ'.next := by
  unfold opC at hop
  split at hop
  · split at hop
    · simp only [Option.map_eq_some_iff, Prod.mk.injEq] at hop
      obtain ⟨⟨v1, σ1⟩, hv, rfl, rfl, rfl⟩ := hop
      exact ⟨rfl, by rw [(builtinV_same hv).1]; exact Nat.le_refl _⟩
    · simp only [Option.map_eq_some_iff, Prod.mk.injEq] at hop
      obtain ⟨⟨v1, σ1⟩, hv, rfl, rfl, rfl⟩ := hop
      refine ⟨rfl, ?_⟩
      unfold applyV at hv
      split at hv
      · split at hv
        · exact (hS.call _ _ _ _ _ _ hv).1
        · simp only [Option.bind_eq_some_iff] at hv
          obtain ⟨_, _, _, _, hv⟩ := hv
          split at hv
          · simp only [Option.some.injEq, Prod.mk.injEq] at hv
            rw [hv.2]; exact Nat.le_refl _
          · simp at hv
      · exact roundV_next hS.code hv
      · simp at hv
    · simp at hop
  · simp at hop
  · simp only [Option.map_eq_some_iff, Prod.mk.injEq] at hop
    obtain ⟨⟨v1, σ1⟩, hv, rfl, rfl, rfl⟩ := hop
    exact ⟨rfl, by rw [(opV_same hv).1]; exact Nat.le_refl _⟩
theorem opsL_next (hS : Sound E S) (ops : List Oper) (base : Nat) : ∀ (l : List Nat) (fr : Fr) (σ : Sig), opsL E S ops base l fr σ = some (fr', σ') → σ.next ≤ σ'.next := by
  intro l
  induction l with
  | nil =>
    intro fr σ h
    simp only [opsL, Option.some.injEq, Prod.mk.injEq] at h
    rw [h.2]; exact Nat.le_refl _
  | cons i l ih =>
    intro fr σ h
    simp only [opsL, Option.bind_eq_some_iff] at h
    obtain ⟨⟨fr1, σ1⟩, hs, h⟩ := h
    refine Nat.le_trans ?_ (ih _ _ h)
    unfold stepI at hs
    split at hs
    · simp only [Option.some.injEq, Prod.mk.injEq] at hs; rw [hs.2]; exact Nat.le_refl _
    · simp only [Option.bind_eq_some_iff] at hs
      obtain ⟨t, _, hs⟩ := hs
      split at hs
      · simp only [Option.map_eq_some_iff, Prod.mk.injEq] at hs
        obtain ⟨⟨v, fr2, σ2⟩, hop, rfl, rfl⟩ := hs
        exact (opC_next hS hop).2
      · simp only [Option.some.injEq, Prod.mk.injEq] at hs; rw [hs.2]; exact Nat.le_refl _
/-- Along an order without repetitions. -/
theorem opsL_sound (hE : EnvOK E) (hS : Sound E S) (ops : Array Oper) (base : Nat) (hops : opsOK n ops.toList = true) (ro : Option Nat) (Q : Exit → Act → World → Prop) :
    ∀ (l : List Nat) (fr : Fr) (σ : Sig) (K : Con) (w : World) (a : Act), opsL E S ops.toList base l fr σ = some (fr', σ') → l.Nodup → (∀ i ∈ l, i < ops.size) → St E B0 σ K w fr a n ds → base + ops.size ≤ σ.next → (∀ i ∈ l, ¬ K.A (base + i)) →
      (∀ a' K' w', St E B0 σ' K' w' fr' a' n ds → Step E B0 (fun s => (base ≤ s ∧ s < base + ops.size) ∨ newer σ σ' s) σ K w σ' K' w' → Q .normal a' w') → wpOpsIn (FW ro) 0 E.P ops Q l a w := by
  intro l
  induction l with
  | nil =>
    intro fr σ K w a hl _ _ hs _ _ hq
    simp only [opsL, Option.some.injEq, Prod.mk.injEq] at hl
    obtain ⟨rfl, rfl⟩ := hl
    exact hq a K w hs (.refl hs.ok)
  | cons i l ih =>
    intro fr σ K w a hl hnd hlt hs hbase hnA hq
    simp only [opsL, Option.bind_eq_some_iff] at hl
    obtain ⟨⟨fr1, σ1⟩, hstep, hl⟩ := hl
    have hil : i ∉ l := (List.nodup_cons.1 hnd).1
    have hi : i < ops.size := hlt i (by simp)
    have hoi : ops[i]? = some ops[i] := by simp [hi]
    have hoi' : ops.toList[i]? = some ops[i] := by simpa using hoi
    simp only [stepI, hoi', Option.bind_eq_some_iff] at hstep
    obtain ⟨t, hwv, hstep⟩ := hstep
    have hw := wantedV_rel hs.fr ops ops[i] (by rw [hs.sz]; exact hops) hwv
    have hdst : ∀ t, ops[i].dst = some t → t < n := by
      intro t ht
      simp only [opsOK, List.all_eq_true] at hops
      have := hops ops[i] (by simp)
      rw [ht] at this
      simpa using this
    unfold wpOpsIn
    simp only [hoi, hw]
    split at hstep
    · rename_i hwt
      simp only [Option.map_eq_some_iff, Prod.mk.injEq] at hstep
      obtain ⟨⟨v, fr2, σ2⟩, hop, rfl, rfl⟩ := hstep
      obtain ⟨rfl, hnx, hwp⟩ := opC_sound hE hS hs (hnA i (by simp)) hop
      dsimp only at hl
      simp only [hwt, if_true]
      have hA1 : ∀ {K1 : Con} {w1 : World}, Step E B0 (fun s => s = base + i ∨ newer σ σ2 s) σ K w σ2 K1 w1 → (∀ s, K1.A s → s < σ2.next) ∧ ∀ j ∈ l, ¬ K1.A (base + j) := by
        intro K1 w1 st
        refine ⟨fun s hsA => ?_, fun j hj hAj => ?_⟩
        · rcases st.A s hsA with h1 | h1 | h1
          · have := hs.st s h1; omega
          · omega
          · exact h1.2
        · have hji : j ≠ i := fun e => hil (e ▸ hj)
          rcases st.A _ hAj with h1 | h1 | h1
          · exact hnA j (by simp [hj]) h1
          · omega
          · have := hlt j (by simp [hj])
            have := h1.1
            omega
      refine hwp _ _ ro (fun c w1 K1 hr st => ?_)
      · obtain ⟨hA2, hA3⟩ := hA1 st
        have hs1 : St E B0 σ2 K1 w1 (fr2.put ops[i].dst v) (a.put ops[i].dst c) n ds := hs.put st hr hdst hA2
        refine (ih _ _ K1 w1 _ hl (List.nodup_cons.1 hnd).2 (fun j hj => hlt j (by simp [hj])) hs1 (by omega) hA3) (fun a' K' w' hs' st' => hq a' K' w' hs' ?_)
        refine (st.mono ?_).trans (st'.mono ?_)
        · intro s h1
          rcases h1 with h1 | h1
          · exact .inl ⟨by omega, by omega⟩
          · exact .inr ⟨h1.1, Nat.lt_of_lt_of_le h1.2 (opsL_next hS _ _ _ _ _ hl)⟩
        · intro s h1
          rcases h1 with h1 | h1
          · exact .inl h1
          · exact .inr ⟨Nat.le_trans hnx h1.1, h1.2⟩
    · rename_i hwt
      simp only [Option.some.injEq, Prod.mk.injEq] at hstep
      obtain ⟨rfl, rfl⟩ := hstep
      have hs1 : St E B0 σ K w (fr.put ops[i].dst undefV) (a.put ops[i].dst undef) n ds := hs.put (new := fun _ => False) (.refl hs.ok) (.undef _ _ _) hdst hs.st
      have := ih _ _ K w _ hl (List.nodup_cons.1 hnd).2 (fun j hj => hlt j (by simp [hj])) hs1 hbase (fun j hj => hnA j (by simp [hj]))
      simp only [hwt]
      exact ⟨fun _ _ => trivial, this hq⟩
end
end Aq
end
section
namespace Aq
open Go
section
variable {X Key : Type}
def runL (step : Nat → X → Option X) : List Nat → X → Option X
  | [], x => some x
  | i :: l, x => (step i x).bind (runL step l)
/-- The states of one order; what each step touches and writes; steps that are not ordered touch nothing that the other one writes: every order that keeps what is ordered comes to the same. -/
theorem order_free (n : Nat) (step : Nat → X → Option X) (Ag : Key → X → X → Prop) (hrefl : ∀ k x, Ag k x x) (htrans : ∀ k x y z, Ag k x y → Ag k y z → Ag k x z)
    (s : Nat → X) (T W : Nat → Key → Prop) (hWT : ∀ i k, W i k → T i k)
    (hloc : ∀ i, i < n → ∀ x, (∀ k, T i k → Ag k (s i) x) → ∃ y, step i x = some y ∧ (∀ k, W i k → Ag k (s (i + 1)) y) ∧ (∀ k, ¬ W i k → Ag k x y))
    (hself : ∀ i, i < n → ∀ k, ¬ W i k → Ag k (s i) (s (i + 1)))
    (pre : Nat → Nat → Prop) (hap : ∀ i j, i < n → j < i → pre j i ∨ ((∀ k, ¬ (W i k ∧ T j k)) ∧ ∀ k, ¬ (W j k ∧ T i k)))
    (hsym : ∀ k x y, Ag k x y → Ag k y x) :
    ∀ (l done : List Nat) (x : X), l.Nodup → (∀ i ∈ l, i < n ∧ i ∉ done) → (∀ i, i < n → i ∈ done ∨ i ∈ l) →
      (∀ l1 i l2, l = l1 ++ i :: l2 → ∀ j, pre j i → j ∈ done ∨ j ∈ l1) → (∀ i ∈ done, ∀ j, pre j i → j ∈ done) →
      (∀ k m, m ≤ n → (∀ j, j < n → W j k → (j ∈ done ↔ j < m)) → Ag k (s m) x) → ∃ y, runL step l x = some y ∧ ∀ k, Ag k (s n) y := by
  have hskip : ∀ k a b, a ≤ b → b ≤ n → (∀ j, a ≤ j → j < b → ¬ W j k) → Ag k (s a) (s b) := by
    intro k a b hab hbn hw
    induction b with
    | zero => obtain rfl : a = 0 := by omega
              exact hrefl _ _
    | succ b ih =>
      by_cases e : a = b + 1
      · subst e; exact hrefl _ _
      · exact htrans _ _ _ _ (ih (by omega) (by omega) (fun j h1 h2 => hw j h1 (by omega))) (hself b (by omega) k (hw b (by omega) (by omega)))
  intro l
  induction l with
  | nil =>
    intro done x _ _ hall _ _ hinv
    exact ⟨x, rfl, fun k => hinv k n (Nat.le_refl _) (fun j hj _ => ⟨fun _ => hj, fun _ => by rcases hall j hj with h | h; exact h; cases h⟩)⟩
  | cons i l ih =>
    intro done x hnd hmem hall hord hclosed hinv
    obtain ⟨hin, hidone⟩ := hmem i (by simp)
    have hil : i ∉ l := (List.nodup_cons.1 hnd).1
    have hpre : ∀ j, pre j i → j ∈ done := fun j hj => by
      rcases hord [] i l rfl j hj with h | h
      · exact h
      · cases h
    -- what the step touches is as it is in the textual order
    have htouch : ∀ k, T i k → Ag k (s i) x := by
      intro k hk
      refine hinv k i (by omega) (fun j hj hw => ⟨fun hjd => ?_, fun hji => ?_⟩)
      · rcases Nat.lt_trichotomy j i with h | h | h
        · exact h
        · subst h; exact absurd hjd hidone
        · rcases hap j i hj h with hp | ⟨h1, _⟩
          · exact absurd (hclosed j hjd i hp) hidone
          · exact absurd ⟨hw, hk⟩ (h1 k)
      · rcases hap i j hin hji with hp | ⟨_, h2⟩
        · exact hpre j hp
        · exact absurd ⟨hw, hk⟩ (h2 k)
    obtain ⟨y, hy, hyw, hyn⟩ := hloc i hin x htouch
    have hinv' : ∀ k m, m ≤ n → (∀ j, j < n → W j k → (j ∈ i :: done ↔ j < m)) → Ag k (s m) y := by
      intro k m hm hj
      by_cases hw : W i k
      · have him : i < m := (hj i hin hw).1 (by simp)
        have h1 : Ag k (s (i + 1)) (s m) := by
          refine hskip k (i + 1) m him hm (fun j h1 h2 hwj => ?_)
          have hjd : j ∈ done := by
            have := (hj j (by omega) hwj).2 h2
            rcases List.mem_cons.1 this with e | e
            · omega
            · exact e
          rcases hap j i (by omega) (by omega) with hp | ⟨h3, _⟩
          · exact absurd (hclosed j hjd i hp) hidone
          · exact h3 k ⟨hwj, hWT i k hw⟩
        exact htrans _ _ _ _ (hsym _ _ _ h1) (hyw k hw)
      · refine htrans _ _ _ _ (hinv k m hm (fun j hjn hwj => ?_)) (hyn k hw)
        have hji : j ≠ i := fun e => hw (e ▸ hwj)
        rw [← hj j hjn hwj]
        simp [hji]
    obtain ⟨z, hz, hzn⟩ := ih (i :: done) y (List.nodup_cons.1 hnd).2
      (fun j hj => ⟨(hmem j (by simp [hj])).1, fun h => by
        rcases List.mem_cons.1 h with e | e
        · exact hil (e ▸ hj)
        · exact (hmem j (by simp [hj])).2 e⟩)
      (fun j hj => by
        rcases hall j hj with h | h
        · exact .inl (by simp [h])
        · rcases List.mem_cons.1 h with e | e
          · exact .inl (by simp [e])
          · exact .inr e)
      (fun l1 j l2 hl k hk => by
        rcases hord (i :: l1) j l2 (by rw [hl]; rfl) k hk with h | h
        · exact .inl (by simp [h])
        · rcases List.mem_cons.1 h with e | e
          · exact .inl (by simp [e])
          · exact .inr e)
      (fun j hj k hk => by
        rcases List.mem_cons.1 hj with e | e
        · subst e; simp [hpre k hk]
        · simp [hclosed j e k hk])
      hinv'
    exact ⟨z, by simp [runL, hy, hz], hzn⟩
end
end Aq
end
section
namespace Aq
open Go
section
variable {E : Env} {S : Evl} {fr fr' : Fr} {σ σ' : Sig}
/-- Only the operands, the depth and the mode of a frame matter. -/
theorem opV_congr {st : Nat} {o : Oper} (h : ∀ x ∈ o.op.operands.toList, fr'.ev E x = fr.ev E x) (hd : fr'.d = fr.d) (hom : fr'.om = fr.om) : opV E fr' σ st o = opV E fr σ st o := by
  cases ho : o.op
  all_goals
    rw [ho] at h
    unfold opV
    simp only [ho]
  all_goals try (simp only [hd]; done)
  case move x => simp only [h x (show x ∈ [x] from List.mem_singleton.2 rfl), hd]
  case assign x => simp only [h x (show x ∈ [x] from List.mem_singleton.2 rfl), hd]
  case pick c x y => simp only [h c (show c ∈ [c, x, y] from List.mem_cons_self), h x (show x ∈ [c, x, y] from List.mem_cons_of_mem _ List.mem_cons_self), h y (show y ∈ [c, x, y] from List.mem_cons_of_mem _ (List.mem_cons_of_mem _ List.mem_cons_self)), hd]
  case box t x => simp only [h x (show x ∈ [x] from List.mem_singleton.2 rfl), hd]
  case load t x => simp only [h x (show x ∈ [x] from List.mem_singleton.2 rfl), hd]
  case nilCheck x => simp only [h x (show x ∈ [x] from List.mem_singleton.2 rfl), hd]
  case unOp u t x => simp only [h x (show x ∈ [x] from List.mem_singleton.2 rfl), hd]
  case convert t u x => simp only [h x (show x ∈ [x] from List.mem_singleton.2 rfl), hd]
  case sliceToArrayPointer t x => simp only [h x (show x ∈ [x] from List.mem_singleton.2 rfl), hd]
  case makeInterface t x => simp only [h x (show x ∈ [x] from List.mem_singleton.2 rfl), hd]
  case fieldAddr t x f => simp only [h x (show x ∈ [x] from List.mem_singleton.2 rfl), hd]
  case field t x f => simp only [h x (show x ∈ [x] from List.mem_singleton.2 rfl), hd]
  case extract x f => simp only [h x (show x ∈ [x] from List.mem_singleton.2 rfl), hd]
  case store t x y => simp only [h x (show x ∈ [x, y] from List.mem_cons_self), h y (show y ∈ [x, y] from List.mem_cons_of_mem _ List.mem_cons_self), hd, hom]
  case binOp b t x y u => simp only [h x (show x ∈ [x, y] from List.mem_cons_self), h y (show y ∈ [x, y] from List.mem_cons_of_mem _ List.mem_cons_self), hd, hom]
  case makeSlice t x y => simp only [h x (show x ∈ [x, y] from List.mem_cons_self), h y (show y ∈ [x, y] from List.mem_cons_of_mem _ List.mem_cons_self), hd, hom]
  case indexAddr t x y => simp only [h x (show x ∈ [x, y] from List.mem_cons_self), h y (show y ∈ [x, y] from List.mem_cons_of_mem _ List.mem_cons_self), hd, hom]
  case index t x y => simp only [h x (show x ∈ [x, y] from List.mem_cons_self), h y (show y ∈ [x, y] from List.mem_cons_of_mem _ List.mem_cons_self), hd, hom]
  case lookup t x y ok => simp only [h x (show x ∈ [x, y] from List.mem_cons_self), h y (show y ∈ [x, y] from List.mem_cons_of_mem _ List.mem_cons_self), hd, hom]
  case mapUpdate t x y z => simp only [h x (show x ∈ [x, y, z] from List.mem_cons_self), h y (show y ∈ [x, y, z] from List.mem_cons_of_mem _ List.mem_cons_self), h z (show z ∈ [x, y, z] from List.mem_cons_of_mem _ (List.mem_cons_of_mem _ List.mem_cons_self)), hd]
  case insert t x y z => simp only [h x (show x ∈ [x, y, z] from List.mem_cons_self), h y (show y ∈ [x, y, z] from List.mem_cons_of_mem _ List.mem_cons_self), h z (show z ∈ [x, y, z] from List.mem_cons_of_mem _ (List.mem_cons_of_mem _ List.mem_cons_self)), hd]
  case build t parts =>
    have : (parts.toList.map fun (i, x) => (i, fr'.ev E x)) = parts.toList.map fun (i, x) => (i, fr.ev E x) := by
      refine List.map_congr_left (fun p hp => ?_)
      show (p.1, fr'.ev E p.2) = (p.1, fr.ev E p.2)
      rw [h p.2 (show p.2 ∈ parts.toList.map (·.2) from List.mem_map.2 ⟨p, hp, rfl⟩)]
    simp only [this]
  case buildSlice t len parts =>
    have : (parts.toList.map fun (i, x) => (i, fr'.ev E x)) = parts.toList.map fun (i, x) => (i, fr.ev E x) := by
      refine List.map_congr_left (fun p hp => ?_)
      show (p.1, fr'.ev E p.2) = (p.1, fr.ev E p.2)
      rw [h p.2 (show p.2 ∈ parts.toList.map (·.2) from List.mem_map.2 ⟨p, hp, rfl⟩)]
    simp only [this]
  case makeFunc fn a b =>
    have h1 : a.toList.map (fr'.ev E) = a.toList.map (fr.ev E) := List.map_congr_left (fun x hx => h x (show x ∈ (a ++ b).toList by simp at hx ⊢; exact .inl hx))
    have h2 : b.toList.map (fr'.ev E) = b.toList.map (fr.ev E) := List.map_congr_left (fun x hx => h x (show x ∈ (a ++ b).toList by simp at hx ⊢; exact .inr hx))
    cases fn <;> first | rfl | simp only [h1, h2]
  case makeMap t r => cases r <;> simp only [hd]
  case slice t x lo hi mx =>
    have h0 : ∀ y, y = x ∨ lo = some y ∨ hi = some y ∨ mx = some y → fr'.ev E y = fr.ev E y := fun y hy => h y (show y ∈ (#[x] ++ lo.toArray ++ hi.toArray ++ mx.toArray).toList by
      rcases hy with rfl | rfl | rfl | rfl <;> simp)
    have hx : fr'.ev E x = fr.ev E x := h0 x (.inl rfl)
    have h1 : optEv E fr' lo = optEv E fr lo := by
      cases lo with
      | none => rfl
      | some y => simp only [optEv]; rw [h0 y (by simp)]
    have h2 : optEv E fr' hi = optEv E fr hi := by
      cases hi with
      | none => rfl
      | some y => simp only [optEv]; rw [h0 y (by simp)]
    have h3 : optEv E fr' mx = optEv E fr mx := by
      cases mx with
      | none => rfl
      | some y => simp only [optEv]; rw [h0 y (by simp)]
    simp only [hx, h1, h2, h3]
theorem opC_congr {st : Nat} {o : Oper} (h : ∀ x ∈ o.op.operands.toList, fr'.ev E x = fr.ev E x) (hd : fr'.d = fr.d) (hom : fr'.om = fr.om) :
    opC E S fr' σ st o = (opC E S fr σ st o).map fun (v, _, σ1) => (v, fr', σ1) := by
  cases ho : o.op
  case call c =>
    have h : ∀ x ∈ c.operands.toList, fr'.ev E x = fr.ev E x := by rw [ho] at h; exact h
    unfold opC
    simp only [ho]
    have hargs : c.args.toList.map (fr'.ev E) = c.args.toList.map (fr.ev E) := List.map_congr_left (fun x hx => h x (by simp [Call.operands] at hx ⊢; exact .inr hx))
    split
    · simp only [hargs, hd, hom]
      cases builtinV E fr.om (o.dst.map fun t => (fr.d, t)) σ st _ c.argTypes (c.args.toList.map (fr.ev E)) <;> rfl
    · rename_i f hc
      have hf : fr'.ev E f = fr.ev E f := h f (by simp [Call.operands, hc])
      simp only [hargs, hd, hf]
      cases applyV E S fr.d σ (fr.ev E f) (c.args.toList.map (fr.ev E)) <;> rfl
    · rfl
  case defer => unfold opC; simp only [ho]; rfl
  all_goals
    have := opV_congr (σ := σ) (st := st) h hd hom
    unfold opC
    simp only [ho]
    rw [this]
    cases opV E fr σ st o <;> rfl
theorem cellsAt_congr {loc : Loc} {s : Nat} (h : σ'.obj loc = σ.obj loc) : σ'.cellsAt loc s = σ.cellsAt loc s := by simp only [Sig.cellsAt, h]
theorem mapAt_congr {loc : Loc} {s : Nat} (h : σ'.obj loc = σ.obj loc) : σ'.mapAt loc s = σ.mapAt loc s := by simp only [Sig.mapAt, h]
def AgK (σ σ' : Sig) (k : Key) : Prop := match k with
  | .obj l => σ'.obj l = σ.obj l
  | .top => σ'.top = σ.top
  | _ => True
/-- An operation that only reads. -/
def Reads (σ σ' : Sig) (r r' : Option (V × Sig)) : Prop := ∀ v σ1, r = some (v, σ1) → σ1 = σ ∧ r' = some (v, σ')
theorem reads_some {v : V} : Reads σ σ' (some (v, σ)) (some (v, σ')) := fun v σ1 h => by
  simp only [Option.some.injEq, Prod.mk.injEq] at h
  exact ⟨h.2.symm, by rw [h.1]⟩
theorem reads_map {α : Type} {r : Option α} (f : α → V) : Reads σ σ' (r.map fun v => (f v, σ)) (r.map fun v => (f v, σ')) := by
  cases r with
  | none => intro v σ1 h; cases h
  | some x => exact reads_some
theorem reads_none {r : Option (V × Sig)} : Reads σ σ' none r := fun _ _ h => by cases h
theorem reads_bind {α : Type} {r : Option α} {f g : α → Option (V × Sig)} (h : ∀ x, Reads σ σ' (f x) (g x)) : Reads σ σ' (r.bind f) (r.bind g) := by
  cases r with
  | none => exact reads_none
  | some x => exact h x
theorem reads_ite {c : Prop} [Decidable c] {r r' s s' : Option (V × Sig)} (h1 : Reads σ σ' r r') (h2 : Reads σ σ' s s') : Reads σ σ' (if c then r else s) (if c then r' else s') := by
  split <;> assumption
theorem convV_congr {src dst : TypeId} {x : V} (h : ∀ k ∈ refK x, AgK σ σ' k) : convV E.P σ' src dst x = convV E.P σ src dst x := by
  unfold convV
  generalize E.P.underlying src = u1
  generalize E.P.underlying dst = u2
  cases u1 with
  | none => cases x <;> cases u2 <;> rfl
  | some d1 =>
    cases u2 with
    | none => cases x <;> cases d1 <;> rfl
    | some d2 =>
      cases x with
      | vw loc s off len cap esz ag =>
        have h1 : σ'.obj loc = σ.obj loc := h (.obj loc) (by simp [refK])
        cases d2 <;> cases d1 <;> first | rfl | simp only [cellsAt_congr h1]
      | _ => cases d2 <;> first | rfl | (cases d1 <;> rfl)
theorem sliceV_congr {t : TypeId} {x : V} {lo hi mx : Option V} (h : ∀ k ∈ refK x, AgK σ σ' k) : sliceV E.P σ' t x lo hi mx = sliceV E.P σ t x lo hi mx := by
  unfold sliceV
  generalize E.P.underlying t = u1
  cases u1 with
  | none => cases x <;> rfl
  | some d1 =>
    cases x with
    | ref loc s off =>
      have h1 : σ'.obj loc = σ.obj loc := h (.obj loc) (by simp [refK])
      cases d1 <;> first | rfl | simp only [cellsAt_congr h1]
    | _ => cases d1 <;> rfl
theorem lookupV_congr {t : TypeId} {x k : V} {ok : Bool} (h : ∀ k ∈ refK x, AgK σ σ' k) : lookupV E.P σ' t x k ok = lookupV E.P σ t x k ok := by
  unfold lookupV
  cases x with
  | mapr loc s =>
    have h1 : σ'.obj loc = σ.obj loc := h (.obj loc) (by simp [refK])
    simp only [mapAt_congr h1]
  | _ => rfl
theorem lenB_congr {t : TypeId} {x : V} (h : ∀ k ∈ refK x, AgK σ σ' k) : lenB E σ' t x = lenB E σ t x := by
  unfold lenB
  generalize E.P.underlying t = u1
  cases u1 with
  | none => cases x <;> rfl
  | some d1 =>
    cases x with
    | mapr loc s =>
      have h1 : σ'.obj loc = σ.obj loc := h (.obj loc) (by simp [refK])
      cases d1 <;> first | rfl | simp only [mapAt_congr h1]
    | _ => cases d1 <;> rfl
theorem srcV_congr {ag : Bool} {sz : Nat} {z x : V} (h : ∀ k ∈ refK x, AgK σ σ' k) : srcV σ' ag sz z x = srcV σ ag sz z x := by
  unfold srcV
  cases x with
  | vw loc s off len cap esz ag =>
    have h1 : σ'.obj loc = σ.obj loc := h (.obj loc) (by simp [refK])
    simp only [cellsAt_congr h1]
  | _ => rfl
/-- A step on the state: it leans on the touched keys, and changes the written ones alone. -/
def Local (W : Key → Prop) (σ σ' : Sig) (r r' : Option (V × Sig)) : Prop :=
  ∀ v σ1, r = some (v, σ1) → ∃ σ1', r' = some (v, σ1') ∧ SameN σ σ1 ∧ SameN σ' σ1' ∧ (∀ k, W k → AgK σ1 σ1' k) ∧ (∀ k, ¬ W k → AgK σ σ1 k) ∧ ∀ k, ¬ W k → AgK σ' σ1' k
theorem AgK.refl (σ : Sig) (k : Key) : AgK σ σ k := by cases k <;> simp [AgK]
theorem AgK.chain {σ1 σ1' : Sig} {k : Key} (h : AgK σ σ' k) (h1 : AgK σ σ1 k) (h2 : AgK σ' σ1' k) : AgK σ1 σ1' k := by
  cases k with
  | obj l => exact Eq.trans (show σ1'.obj l = σ'.obj l from h2) (Eq.trans (show σ'.obj l = σ.obj l from h) (show σ1.obj l = σ.obj l from h1).symm)
  | top => exact Eq.trans (show σ1'.top = σ'.top from h2) (Eq.trans (show σ'.top = σ.top from h) (show σ1.top = σ.top from h1).symm)
  | slot t => trivial
  | rest => trivial
theorem Reads.local {r r' : Option (V × Sig)} (h : Reads σ σ' r r') : Local (fun k => k ∈ ([] : List Key)) σ σ' r r' := fun v σ1 hr => by
  obtain ⟨h1, h2⟩ := h v σ1 hr
  subst h1
  exact ⟨σ', h2, .refl _, .refl _, fun k hk => absurd hk (List.not_mem_nil), fun k _ => .refl _ _, fun k _ => .refl _ _⟩
theorem Local.mono {W W' : Key → Prop} {r r' : Option (V × Sig)} (h : Local W σ σ' r r') (hW : ∀ k, W k → W' k) (hT : ∀ k, W' k → AgK σ σ' k) : Local W' σ σ' r r' := fun v σ1 hr => by
  obtain ⟨σ1', h1, h2, h3, h4, h5, h6⟩ := h v σ1 hr
  refine ⟨σ1', h1, h2, h3, fun k hk => ?_, fun k hk => h5 k (fun hw => hk (hW k hw)), fun k hk => h6 k (fun hw => hk (hW k hw))⟩
  by_cases hw : W k
  · exact h4 k hw
  · exact (hT k hk).chain (h5 k hw) (h6 k hw)
theorem agK_setObj {loc : Loc} {st : Nat} {ob : AObj} {k : Key} (hk : k ∉ [Key.obj loc]) : AgK σ (σ.setObj loc st ob) k := by
  cases k with
  | obj l =>
    have : l ≠ loc := fun e => hk (by simp [e])
    show upd σ.obj loc _ l = σ.obj l
    simp [upd, this]
  | top => rfl
  | slot t => trivial
  | rest => trivial
theorem agK_setTop {s n : Nat} {k : Key} (hk : k ∉ [Key.top]) : AgK σ (σ.setTop s n) k := by
  cases k with
  | obj l => rfl
  | top => exact absurd (by simp) hk
  | slot t => trivial
  | rest => trivial
theorem local_setObj {loc : Loc} {st : Nat} {ob : AObj} {v : V} : Local (fun k => k ∈ [Key.obj loc]) σ σ' (some (v, σ.setObj loc st ob)) (some (v, σ'.setObj loc st ob)) := fun v1 σ1 h => by
  simp only [Option.some.injEq, Prod.mk.injEq] at h
  obtain ⟨rfl, rfl⟩ := h
  refine ⟨_, rfl, ⟨rfl, rfl⟩, ⟨rfl, rfl⟩, fun k hk => ?_, fun k hk => agK_setObj hk, fun k hk => agK_setObj hk⟩
  obtain rfl : k = .obj loc := by simpa using hk
  show upd σ'.obj loc _ loc = upd σ.obj loc _ loc
  simp [upd]
theorem local_none {W : Key → Prop} {r : Option (V × Sig)} : Local W σ σ' none r := fun _ _ h => by cases h
theorem local_bind {W : Key → Prop} {α : Type} {r : Option α} {f g : α → Option (V × Sig)} (h : ∀ x, Local W σ σ' (f x) (g x)) : Local W σ σ' (r.bind f) (r.bind g) := by
  cases r with
  | none => exact local_none
  | some x => exact h x
theorem local_ite {W : Key → Prop} {c : Prop} [Decidable c] {r r' s s' : Option (V × Sig)} (h1 : Local W σ σ' r r') (h2 : Local W σ σ' s s') : Local W σ σ' (if c then r else s) (if c then r' else s') := by
  split <;> assumption
theorem local_setTop (ht : σ'.top = σ.top) {s n : Nat} {v : V} : Local (fun k => k ∈ [Key.top]) σ σ' (some (v, σ.setTop s n)) (some (v, σ'.setTop s n)) := fun v1 σ1 h => by
  simp only [Option.some.injEq, Prod.mk.injEq] at h
  obtain ⟨rfl, rfl⟩ := h
  refine ⟨_, rfl, ⟨rfl, rfl⟩, ⟨rfl, rfl⟩, fun k hk => ?_, fun k hk => agK_setTop hk, fun k hk => agK_setTop hk⟩
  obtain rfl : k = .top := by simpa using hk
  show upd σ'.top s n = upd σ.top s n
  rw [ht]
theorem local_map {W : Key → Prop} {α : Type} {r : Option α} {f g : α → V × Sig} (h : ∀ x, Local W σ σ' (some (f x)) (some (g x))) : Local W σ σ' (r.map f) (r.map g) := by
  cases r with
  | none => exact local_none
  | some x => exact h x
theorem updateV_local {t : TypeId} {m k v : V} (h : ∀ q ∈ refK m, AgK σ σ' q) :
    Local (fun q => q ∈ refK m) σ σ' ((updateV E.P σ t m k v).map fun σ => (undefV, σ)) ((updateV E.P σ' t m k v).map fun σ => (undefV, σ)) := by
  unfold updateV
  cases mapT E.P t with
  | none => exact local_none
  | some p =>
    simp only [Option.bind_some]
    split
    · cases m with
      | mapr loc s =>
        have h1 : σ'.obj loc = σ.obj loc := h (.obj loc) (by simp [refK])
        simp only [mapAt_congr h1]
        cases σ.mapAt loc s with
        | none => exact local_none
        | some q =>
          simp only [Option.bind_some, Option.map_map]
          exact local_map (fun x => local_setObj)
      | _ => exact local_none
    · exact local_none
theorem makeSliceV_local {fr : Fr} {st : Nat} {o : Oper} {t : TypeId} {l c : V} (h : ∀ q ∈ Key.top :: dstK fr o, AgK σ σ' q) :
    Local (fun q => q ∈ Key.top :: dstK fr o) σ σ' (makeSliceV E.P fr.om σ st (o.dst.map fun t => (fr.d, t)) t l c) (makeSliceV E.P fr.om σ' st (o.dst.map fun t => (fr.d, t)) t l c) := by
  unfold makeSliceV
  refine local_bind (fun e => local_bind (fun sz => local_bind (fun by_ => local_bind (fun z => local_bind (fun n => local_bind (fun m => local_ite (local_ite ?_ ?_) local_none))))))
  · exact (local_setTop (h .top (by simp))).mono (fun k hk => by simp at hk; simp [hk]) h
  · cases hd : o.dst with
    | none => exact local_none
    | some d =>
      simp only [Option.map_some, Option.bind_some]
      exact local_map (fun ag => local_setObj.mono (fun k hk => by simp at hk; simp [hk, dstK, hd]) (by simpa [dstK, hd] using h))
theorem appendV_local {zeros : Bool} {st : Nat} {loc : Option Loc} {t : TypeId} {x y : V} (hy : ∀ q ∈ refK y, AgK σ σ' q) (ht : σ'.top = σ.top) :
    Local (fun q => q ∈ [Key.top]) σ σ' (appendV E.P false zeros σ st loc t x y) (appendV E.P false zeros σ' st loc t x y) := by
  unfold appendV
  refine local_bind (fun e => local_bind (fun sz => local_bind (fun by_ => local_bind (fun ag => local_bind (fun z => local_ite ?_ local_none)))))
  rw [srcV_congr hy]
  refine local_bind (fun ys => local_ite ?_ local_none)
  cases x with
  | lst c l =>
    simp only
    refine local_ite ?_ local_none
    cases c with
    | own n s => simp only [ht]; exact local_ite (local_setTop ht) local_none
    | nil => exact local_setTop ht
    | full => exact local_setTop ht
    | sh => exact local_none
  | vw loc0 s off len cap esz ag' => simp only [Bool.false_eq_true, false_and, and_false, if_false]; exact local_none
  | _ => exact local_none
theorem builtinV_reads {om : Bool} {loc : Option Loc} {st : Nat} {b : Builtin} {tys : Array TypeId} {args : List V} (hb : b = .len ∨ b = .cap ∨ b = .min ∨ b = .max) (h : ∀ x ∈ args, ∀ q ∈ refK x, AgK σ σ' q) :
    Reads σ σ' (builtinV E om loc σ st b tys args) (builtinV E om loc σ' st b tys args) := by
  rcases hb with rfl | rfl | rfl | rfl
  · rcases args with _ | ⟨x, _ | ⟨y, l⟩⟩
    · exact reads_none
    · refine reads_bind (fun t => ?_)
      rw [lenB_congr (h x (by simp))]
      exact reads_map _
    · exact reads_none
  · rcases args with _ | ⟨x, _ | ⟨y, l⟩⟩
    · exact reads_none
    · refine reads_bind (fun t => reads_bind (fun e => ?_))
      cases x with
      | lst c l => cases c <;> first | exact reads_some | exact reads_none
      | _ => exact reads_none
    · exact reads_none
  · rcases args with _ | ⟨x, l⟩
    · exact reads_none
    · exact reads_map _
  · rcases args with _ | ⟨x, l⟩
    · exact reads_none
    · exact reads_map _
theorem builtinV_append_local {loc : Option Loc} {st : Nat} {tys : Array TypeId} {args : List V} (h : ∀ x ∈ args, ∀ q ∈ refK x, AgK σ σ' q) (ht : σ'.top = σ.top) :
    Local (fun q => q ∈ [Key.top]) σ σ' (builtinV E false loc σ st .append tys args) (builtinV E false loc σ' st .append tys args) := by
  rcases args with _ | ⟨x, _ | ⟨y, _ | ⟨z, l⟩⟩⟩
  · exact local_none
  · exact local_none
  · refine local_bind (fun t => local_bind (fun u => ?_))
    split
    · exact appendV_local (h y (by simp)) ht
    · exact appendV_local (h y (by simp)) ht
    · exact appendV_local (h y (by simp)) ht
    · exact local_none
  · exact local_none
end
end Aq
end
section
namespace Aq
open Go
section
variable {E : Env} {S : Evl} {fr fr' : Fr} {σ σ' : Sig}
theorem opV_local {st : Nat} {o : Oper} (hc : ∀ c, o.op ≠ .call c) (hw : (footS E fr o).wAll = false) (h : ∀ k, k ∈ (footS E fr o).t ∨ k ∈ (footS E fr o).w → AgK σ σ' k) :
    Local (fun k => k ∈ (footS E fr o).w) σ σ' (opV E fr σ st o) (opV E fr σ' st o) := by
  cases ho : o.op <;> simp only [footS, ho, allF, reduceCtorEq, Bool.true_eq_false] at hw
  case call c => exact absurd ho (hc c)
  all_goals
    simp only [footS, ho, rdF, wrF] at h
    simp only [footS, ho, rdF, wrF]
    unfold opV
    simp only [ho]
  case move => exact reads_some.local
  case assign => exact reads_some.local
  case pick => exact (reads_map _).local
  case alloc t =>
    cases hd : o.dst with
    | none => exact local_none
    | some d => simp only [Option.map_some, Option.bind_some, dstK, hd]; exact local_bind (fun z => local_ite local_setObj local_none)
  case box t x =>
    cases hd : o.dst with
    | none => exact local_none
    | some d => simp only [Option.map_some, Option.bind_some, dstK, hd]; exact local_ite local_setObj local_none
  case build t parts => exact (reads_bind (fun _ => reads_bind (fun _ => reads_map _))).local
  case buildSlice t len parts => exact (reads_map _).local
  case load t a =>
    cases hx : fr.ev E a with
    | ref loc s off =>
      have h1 : σ'.obj loc = σ.obj loc := h (.obj loc) (by simp [hx, refK])
      simp only [cellsAt_congr h1]
      exact (reads_bind (fun _ => reads_map _)).local
    | cref cs off => exact (reads_map _).local
    | _ => exact local_none
  case store t a x =>
    cases hx : fr.ev E a with
    | ref loc s off =>
      have h1 : σ'.obj loc = σ.obj loc := h (.obj loc) (by simp [hx, refK])
      simp only [cellsAt_congr h1]
      exact local_bind (fun _ => local_ite local_setObj local_none)
    | _ => exact local_none
  case nilCheck x =>
    cases hx : fr.ev E x with
    | ref loc s off => exact reads_some.local
    | cref cs off => exact reads_some.local
    | fn f a b => cases f <;> first | exact reads_some.local | exact local_none
    | _ => exact local_none
  case binOp => exact (reads_map _).local
  case unOp => exact (reads_map _).local
  case convert a b x => rw [convV_congr (fun k hk => h k (.inl hk))]; exact (reads_map _).local
  case sliceToArrayPointer t x =>
    refine local_bind (fun p => ?_)
    cases hx : fr.ev E x with
    | vw loc s off len cap esz ag => exact (reads_ite reads_some reads_none).local
    | lst c l => exact (reads_ite reads_some reads_none).local
    | _ => exact local_none
  case makeInterface t x =>
    split
    · exact local_none
    · exact reads_some.local
    · exact local_none
  case makeFunc f a b => cases f <;> first | exact reads_some.local | exact local_none
  case makeMap t r =>
    cases r with
    | some _ => exact local_none
    | none =>
      cases hd : o.dst with
      | none => exact local_none
      | some d => simp only [Option.map_some, dstK, hd]; exact local_setObj
  case makeSlice t l c => exact makeSliceV_local (fun q hq => h q (.inr hq))
  case slice t x lo hi mx => rw [sliceV_congr (fun k hk => h k (.inl hk))]; exact (reads_map _).local
  case fieldAddr t x f =>
    refine local_bind (fun p => ?_)
    cases hx : fr.ev E x with
    | ref loc s off => exact reads_some.local
    | cref cs off => exact reads_some.local
    | _ => exact local_none
  case field t x f =>
    refine local_bind (fun p => ?_)
    cases hx : fr.ev E x with
    | agg cs => exact (reads_map _).local
    | _ => exact local_none
  case indexAddr => exact (reads_map _).local
  case index => exact (reads_map _).local
  case lookup t x i ok => rw [lookupV_congr (fun k hk => h k (.inl hk))]; exact (reads_map _).local
  case mapUpdate t m k v => exact updateV_local (fun q hq => h q (.inr hq))
  case insert t m k v => exact updateV_local (fun q hq => h q (.inr hq))
  case extract x i =>
    cases hx : fr.ev E x with
    | tup vs => exact (reads_map _).local
    | _ => exact local_none
theorem mapM_congr' {α β : Type} {f g : α → Option β} : ∀ {l : List α}, (∀ x ∈ l, f x = g x) → l.mapM f = l.mapM g
  | [], _ => rfl
  | a :: l, h => by
    simp only [List.mapM_cons]
    rw [h a (by simp), mapM_congr' (fun x hx => h x (by simp [hx]))]
theorem closeV_pclean_congr {n : Nat} {x : V} (hp : pclean x = true) : closeV n σ' x = closeV n σ x := by
  cases n with
  | zero => rfl
  | succ n => unfold closeV; simp only [hp, if_true]
theorem mem_getD {l : List V} {x : V} (h : x ∈ l) : ∃ i, ∃ hi : i < l.length, x = l[i] := by
  obtain ⟨i, hi, e⟩ := List.mem_iff_getElem.1 h
  exact ⟨i, hi, e.symm⟩
theorem closeV_lst_congr {n : Nat} {c : Cap} {l : List V} (hp : pcleanL l = true) : closeV n σ' (.lst c l) = closeV n σ (.lst c l) := by
  cases n with
  | zero => rfl
  | succ n =>
    unfold closeV
    split
    · rfl
    · simp only
      rw [mapM_congr' (fun x hx => ?_)]
      obtain ⟨i, hi, rfl⟩ := mem_getD hx
      exact closeV_pclean_congr (pcleanL_getElem hp hi)
theorem closeV_er1_congr {n : Nat} {x : V} (hp : pclean (er1 x) = true) : closeV n σ' x = closeV n σ x := by
  cases x with
  | lst c l => exact closeV_lst_congr (by simpa [er1, pclean] using hp)
  | _ => exact closeV_pclean_congr hp
theorem closeV_er_congr {n : Nat} {x : V} (hp : pclean (er x) = true) : closeV n σ' x = closeV n σ x := by
  cases x with
  | lst c l => exact closeV_lst_congr (by simpa [er, pclean] using hp)
  | agg cs =>
    have hp' : pcleanL (cs.map er1) = true := by simpa [er, pclean] using hp
    cases n with
    | zero => rfl
    | succ n =>
      unfold closeV
      split
      · rfl
      · simp only
        rw [mapM_congr' (fun x hx => ?_)]
        obtain ⟨i, hi, rfl⟩ := mem_getD hx
        refine closeV_er1_congr ?_
        have := pcleanL_getElem hp' (i := i) (by simpa using hi)
        simpa using this
  | _ => exact closeV_pclean_congr hp
theorem applyV_reads {d : Nat} {g : FuncId} {a b args : List V} (hi : E.imp g = false) (hp : (a ++ args ++ b).all (fun v => pclean (er v)) = true) :
    Reads σ σ' (applyV E S d σ (.fn (.func g) a b) args) (applyV E S d σ' (.fn (.func g) a b) args) := by
  unfold applyV
  simp only [hi, Bool.false_eq_true, if_false]
  rw [mapM_congr' (f := closeV 20 σ') (g := closeV 20 σ) (fun x hx => closeV_er_congr (by simp only [List.all_eq_true] at hp; exact hp x hx))]
  exact reads_bind (fun as => reads_bind (fun v => reads_ite reads_some reads_none))
theorem applyV_pure {d : Nat} {g : FuncId} {a b args : List V} (hi : E.imp g = false) {v : V} {σ1 : Sig} (h : applyV E S d σ (.fn (.func g) a b) args = some (v, σ1)) : σ1 = σ := by
  unfold applyV at h
  simp only [hi, Bool.false_eq_true, if_false, Option.bind_eq_some_iff] at h
  obtain ⟨_, _, _, _, h⟩ := h
  split at h
  · simp only [Option.some.injEq, Prod.mk.injEq] at h; exact h.2.symm
  · simp at h
/-- Keys of a frame and a state. -/
def Ag (k : Key) (x y : Fr × Sig) : Prop :=
  match k with
  | .slot t => x.1.tm t = y.1.tm t
  | .obj l => x.2.obj l = y.2.obj l
  | .top => x.2.top = y.2.top
  | .rest => x.1.d = y.1.d ∧ x.1.om = y.1.om ∧ x.2.next = y.2.next ∧ x.2.loops = y.2.loops
theorem Ag.refl (k : Key) (x : Fr × Sig) : Ag k x x := by cases k <;> simp [Ag]
theorem Ag.symm {k : Key} {x y : Fr × Sig} (h : Ag k x y) : Ag k y x := by
  cases k with
  | slot t => exact Eq.symm h
  | obj l => exact Eq.symm h
  | top => exact Eq.symm h
  | rest => exact ⟨h.1.symm, h.2.1.symm, h.2.2.1.symm, h.2.2.2.symm⟩
theorem Ag.trans {k : Key} {x y z : Fr × Sig} (h : Ag k x y) (g : Ag k y z) : Ag k x z := by
  cases k with
  | slot t => exact Eq.trans h g
  | obj l => exact Eq.trans h g
  | top => exact Eq.trans h g
  | rest => exact ⟨h.1.trans g.1, h.2.1.trans g.2.1, h.2.2.1.trans g.2.2.1, h.2.2.2.trans g.2.2.2⟩
theorem Ag.all {x y : Fr × Sig} (h : ∀ k, Ag k x y) : x = y := by
  obtain ⟨⟨d, om, tm⟩, ⟨nx, top, obj, lp⟩⟩ := x
  obtain ⟨⟨d', om', tm'⟩, ⟨nx', top', obj', lp'⟩⟩ := y
  obtain ⟨h1, h2, h3, h4⟩ := h .rest
  have h5 : top = top' := h .top
  have h6 : obj = obj' := funext fun l => h (.obj l)
  have h7 : tm = tm' := funext fun t => h (.slot t)
  simp only at h1 h2 h3 h4
  subst h1 h2 h3 h4 h5 h6 h7
  rfl
def Foot.T (f : Foot) (k : Key) : Prop := k = .rest ∨ k ∈ f.t ∨ k ∈ f.w ∨ ((f.tAll = true ∨ f.wAll = true) ∧ k.state = true)
def Foot.W (f : Foot) (k : Key) : Prop := k ∈ f.w ∨ (f.wAll = true ∧ (k.state = true ∨ k = .rest))
theorem Foot.W_T {f : Foot} {k : Key} (h : f.W k) : f.T k := by
  rcases h with h | ⟨h, h1 | h1⟩
  · exact .inr (.inr (.inl h))
  · exact .inr (.inr (.inr ⟨.inr h, h1⟩))
  · exact .inl h1
end
end Aq
end
section
namespace Aq
open Go
theorem countP_lt {α : Type} {p q : α → Bool} {a : α} : ∀ {l : List α}, (∀ x, q x = true → p x = true) → a ∈ l → p a = true → q a = false → l.countP q < l.countP p
  | [], _, h, _, _ => by cases h
  | x :: l, hqp, hm, hp, hq => by
    rw [List.countP_cons, List.countP_cons]
    have hle : l.countP q ≤ l.countP p := List.countP_mono_left (fun x _ h => hqp x h)
    rcases List.mem_cons.1 hm with e | e
    · subst e
      simp only [hp, hq, if_true]
      have : (if false = true then 1 else 0) = 0 := rfl
      omega
    · have := countP_lt hqp e hp hq
      by_cases hx : q x = true
      · have := hqp x hx
        simp only [hx, this, if_true]; omega
      · have hx' : q x = false := by simpa using hx
        rw [hx']
        have h0 : (if false = true then 1 else 0 : Nat) = 0 := rfl
        rw [h0]
        omega
/-- What a listing keeps. -/
structure ListingOK (md : Region.Mode) (ops : Array Oper) (done l : List Nat) : Prop where
  nodup : l.Nodup
  mem : ∀ i ∈ l, i < ops.size ∧ i ∉ done
  all : ∀ i, i < ops.size → i ∈ done ∨ i ∈ l
  ord : ∀ l1 i l2, l = l1 ++ i :: l2 → ∀ o, ops[i]? = some o → ∀ e ∈ o.after.toList, Region.binds md e = true → e.on ∈ done ∨ e.on ∈ l1
theorem go_acc (md : Region.Mode) (ops : Array Oper) : ∀ (fuel t : Nat) (listed : Array Bool) (acc : List Nat),
    Region.linearise.go md ops fuel t listed acc = acc.reverse ++ Region.linearise.go md ops fuel t listed [] := by
  intro fuel
  induction fuel with
  | zero => intro t listed acc; simp [Region.linearise.go]
  | succ fuel ih =>
    intro t listed acc
    simp only [Region.linearise.go]
    split
    · rename_i i _
      rw [ih _ _ (i :: acc), ih _ _ [i]]
      simp
    · simp
theorem go_ok (ops : Array Oper) (hedges : edgesOK ops.toList = true) : ∀ (fuel t : Nat) (listed : Array Bool) (done : List Nat),
    listed.size = ops.size → (∀ i, i < ops.size → (listed.getD i true = true ↔ i ∈ done)) → (List.range ops.size).countP (fun i => decide (i ∉ done)) ≤ fuel →
    ListingOK .any ops done (Region.linearise.go .any ops fuel t listed []) := by
  have hedge : ∀ (i : Nat) (o : Oper), ops[i]? = some o → ∀ e ∈ o.after.toList, Region.binds .any e = true → e.on < i := by
    intro i o ho e he hb
    have hi : i < ops.size := by
      rcases Nat.lt_or_ge i ops.size with h | h
      · exact h
      · rw [Array.getElem?_eq_none h] at ho; cases ho
    simp only [edgesOK, List.all_eq_true] at hedges
    have := hedges i (by simpa using hi)
    have ho' : ops.toList[i]? = some o := by simpa using ho
    rw [ho'] at this
    simp only [List.all_eq_true] at this
    simpa [hb] using this e he
  intro fuel
  induction fuel with
  | zero =>
    intro t listed done hsz hl hf
    refine ⟨by simp [Region.linearise.go], by simp [Region.linearise.go], fun i hi => ?_, fun l1 i l2 h => by simp [Region.linearise.go] at h⟩
    by_cases hd : i ∈ done
    · exact .inl hd
    · have : 0 < (List.range ops.size).countP (fun i => decide (i ∉ done)) := List.countP_pos_iff.2 ⟨i, by simpa using hi, by simpa using hd⟩
      omega
  | succ fuel ih =>
    intro t listed done hsz hl hf
    simp only [Region.linearise.go]
    generalize hrs : (List.range ops.size).filter (fun i => !listed.getD i true && ((ops[i]?).map (·.after.all fun e => !Region.binds .any e || listed.getD e.on false)).getD false) = rs
    have hmem : ∀ i, i ∈ rs ↔ i < ops.size ∧ i ∉ done ∧ ∃ o, ops[i]? = some o ∧ ∀ e ∈ o.after.toList, Region.binds .any e = true → e.on ∈ done := by
      intro i
      rw [← hrs, List.mem_filter]
      constructor
      · rintro ⟨h1, h2⟩
        have hi : i < ops.size := by simpa using h1
        simp only [Bool.and_eq_true, Bool.not_eq_true'] at h2
        have hd : i ∉ done := fun h => by have := (hl i hi).2 h; rw [this] at h2; exact absurd h2.1 (by simp)
        have hoi : ops[i]? = some ops[i] := by simp [hi]
        refine ⟨hi, hd, ops[i], hoi, fun e he hb => ?_⟩
        have h3 := h2.2
        rw [hoi] at h3
        simp only [Option.map_some, Option.getD_some, Array.all_eq_true'] at h3
        have h4 := h3 e (by simpa using he)
        rw [hb] at h4
        have hon : e.on < ops.size := Nat.lt_trans (hedge i _ hoi e he hb) hi
        have h5 : listed.getD e.on false = true := by simpa using h4
        refine (hl e.on hon).1 ?_
        simp only [Array.getD, hsz, hon, dif_pos] at h5 ⊢
        exact h5
      · rintro ⟨hi, hd, o, ho, he⟩
        refine ⟨by simpa using hi, ?_⟩
        have h1 : listed.getD i true = false := by
          have := mt (hl i hi).1 hd
          simpa using this
        simp only [h1, Bool.not_false, Bool.true_and, ho, Option.map_some, Option.getD_some, Array.all_eq_true']
        intro e hea
        have hea' : e ∈ o.after.toList := by simpa using hea
        cases hb : Region.binds .any e with
        | false => rfl
        | true =>
          have hon : e.on < ops.size := Nat.lt_trans (hedge i _ ho e hea' hb) hi
          have := (hl e.on hon).2 (he e hea' hb)
          simp only [Array.getD, hsz, hon, dif_pos] at this ⊢
          show (!true || listed.getInternal e.on _) = true
          rw [this]; rfl
    cases hpick : rs[t % rs.length]? with
    | none =>
      have hnil : rs = [] := by
        cases rs with
        | nil => rfl
        | cons x xs =>
          have hlt : t % (x :: xs).length < (x :: xs).length := Nat.mod_lt _ (by simp)
          rw [List.getElem?_eq_none_iff] at hpick
          omega
      simp only [List.reverse_nil]
      refine ⟨by simp, by simp, fun i hi => ?_, fun l1 i l2 h => by simp at h⟩
      -- the least that is not listed would be ready
      refine Classical.byContradiction fun hno => ?_
      have hex : ∃ i, i < ops.size ∧ i ∉ done := ⟨i, hi, fun h => hno (.inl h)⟩
      have hmin : ∀ k, (∃ i, i ≤ k ∧ i < ops.size ∧ i ∉ done) → ∃ i, i < ops.size ∧ i ∉ done ∧ ∀ j, j < i → j ∈ done := by
        intro k
        induction k with
        | zero =>
          rintro ⟨i, h0, h1, h2⟩
          obtain rfl : i = 0 := by omega
          exact ⟨0, h1, h2, fun j hj => absurd hj (Nat.not_lt_zero j)⟩
        | succ k ihk =>
          rintro ⟨i, h0, h1, h2⟩
          by_cases hsm : ∃ i, i ≤ k ∧ i < ops.size ∧ i ∉ done
          · exact ihk hsm
          · refine ⟨i, h1, h2, fun j hj => Classical.byContradiction fun hjd => hsm ⟨j, by omega, by omega, hjd⟩⟩
      obtain ⟨i0, h1, h2, h3⟩ := hmin i ⟨i, Nat.le_refl _, hi, fun h => hno (.inl h)⟩
      have : i0 ∈ rs := (hmem i0).2 ⟨h1, h2, ops[i0], by simp [h1], fun e he hb => h3 _ (hedge i0 _ (by simp [h1]) e he hb)⟩
      rw [hnil] at this
      cases this
    | some i =>
      simp only
      rw [go_acc, List.reverse_singleton]
      have hi : i ∈ rs := List.mem_of_getElem? hpick
      obtain ⟨hilt, hid, o, ho, he⟩ := (hmem i).1 hi
      have hrec := ih (t / rs.length) (listed.setIfInBounds i true) (i :: done) (by simpa using hsz) (fun j hj => by
        by_cases hji : j = i
        · subst hji
          simp [Array.getD, hsz, hj]
        · have h1 : (listed.setIfInBounds i true).getD j true = listed.getD j true := by
            simp only [Array.getD, Array.size_setIfInBounds, hsz, hj, dif_pos]
            exact Array.getElem_setIfInBounds_ne (by omega) (Ne.symm hji)
          rw [h1, hl j hj]
          simp [hji]) (by
        have := countP_lt (l := List.range ops.size) (p := fun j => decide (j ∉ done)) (q := fun j => decide (j ∉ i :: done)) (a := i)
          (fun x hx => by simp at hx ⊢; exact hx.2) (by simpa using hilt) (by simpa using hid) (by simp)
        omega)
      refine ⟨?_, ?_, ?_, ?_⟩
      · simp only [List.singleton_append, List.nodup_cons]
        exact ⟨fun h => (hrec.mem i h).2 (by simp), hrec.nodup⟩
      · intro j hj
        rcases List.mem_cons.1 hj with e | e
        · subst e; exact ⟨hilt, hid⟩
        · have := hrec.mem j e
          exact ⟨this.1, fun h => this.2 (by simp [h])⟩
      · intro j hj
        rcases hrec.all j hj with h | h
        · rcases List.mem_cons.1 h with e | e
          · exact .inr (by simp [e])
          · exact .inl e
        · exact .inr (by simp [h])
      · intro l1 j l2 hjl o' ho' e hea hb
        cases l1 with
        | nil =>
          simp only [List.singleton_append, List.nil_append, List.cons.injEq] at hjl
          obtain ⟨rfl, _⟩ := hjl
          rw [ho] at ho'
          cases ho'
          exact .inl (he e hea hb)
        | cons a l1 =>
          simp only [List.singleton_append, List.cons_append, List.cons.injEq] at hjl
          obtain ⟨rfl, hjl⟩ := hjl
          rcases hrec.ord l1 j l2 hjl o' ho' e hea hb with h | h
          · rcases List.mem_cons.1 h with e' | e'
            · exact .inr (by simp [e'])
            · exact .inl e'
          · exact .inr (by simp [h])
theorem linearise_ok (ops : Array Oper) (hedges : edgesOK ops.toList = true) (t : Nat) : ListingOK .any ops [] (Region.linearise .any ops t) := by
  refine go_ok ops hedges ops.size t _ [] (by simp) (fun i hi => ?_) ?_
  · simp [hi]
  · have := List.countP_le_length (p := fun i => decide (i ∉ ([] : List Nat))) (l := List.range ops.size)
    simpa using this
theorem schedule_ok {mixed : Bool} (hm : mixed = true) (ops : Array Oper) (hedges : edgesOK ops.toList = true) (t : Nat) : ∃ md, ListingOK md ops [] (Region.schedule mixed ops t) := by
  unfold Region.schedule
  rw [hm, Bool.true_or, if_pos rfl]
  exact ⟨_, linearise_ok _ hedges _⟩
theorem binds_any {e : Edge} (md : Region.Mode) (h : Region.binds .any e = true) : Region.binds md e = true := by
  unfold Region.binds at h ⊢
  split at h
  · simp at h
  · simp at h
  · rfl
end Aq
end
