/- Part of the proof of a law: Am3 Am4. -/
import Derived.Test.YteniejlbjfigdaaGreatDoorW09
set_option linter.all false
set_option linter.unusedSimpArgs false
set_option linter.unusedSectionVars false
section
namespace Aq
open Go
set_option linter.unusedSectionVars false
set_option linter.unusedVariables false
structure Rho where
  ob : Nat → Option Nat
  tk : Nat → Option Nat
  ln : Nat → Nat
  om : Bool
section
variable (R : Reg)
def leafT : Ty → Bool
  | .st _ => false
  | _ => true
structure RegOK : Prop where
  of_to : ∀ n p, R.of n (R.to n p) = p
  enc : ∀ n x, R.enc n x = .agg (encs R (R.lf n) (R.of n x))
  leaf : ∀ n, (R.lf n).all leafT = true
  pc : ∀ n x, pclean (R.enc n x) = true
def CapR (ρ : Rho) (top : Nat → Nat) (sz len : Nat) : Cp → Cap → Prop
  | .any, _ => True
  | .sh, c => c = .sh
  | .nil, c => c = .nil
  | .full, c => c = .full
  | .own t, c => c = .nil ∨ c = .full ∨ ∃ s, c = .own sz s ∧ ρ.tk t = some s ∧ top s = len
mutual
def Rl (ρ : Rho) (top : Nat → Nat) : TV R.T → V → Prop
  | .int k n, v => v = .int k n
  | .bool b, v => v = .bool b
  | .blit b, v => v = .bool b
  | .str s, v => v = .str s
  | .nilp, v => v = .nilp
  | .nilf, v => v = .nilf
  | .nilm, v => v = .nilm
  | .nili, v => v = .nili
  | .nils, v => v = .lst .nil []
  | .agg cs, v => ∃ l, v = .agg l ∧ RlL ρ top cs l
  | .tup cs, v => ∃ l, v = .tup l ∧ RlL ρ top cs l
  | .lst c t l, v => ∃ c', v = .lst c' (l.map (encD R t)) ∧ CapR ρ top (szD R t) l.length c c'
  | .ref o off, v => ∃ s, ρ.ob o = some s ∧ v = .ref (1, o) s off
  | .cref cs off, v => ∃ l, v = .cref l off ∧ RlL ρ top cs l
  | .mapr o, v => ∃ s, ρ.ob o = some s ∧ v = .mapr (1, o) s
  | .mapc k e m, v => v = .mapc (m.map fun p => encD R k p.1) (m.map fun p => encD R e p.2)
  | .fn f a b, v => ∃ a' b', v = .fn (.func f) a' b' ∧ RlL ρ top a a' ∧ RlL ρ top b b'
  | .opt _ _ _, _ => False
  | .vw o t, v => (∃ s, ρ.ob o = some s ∧ v = .vw (1, o) s 0 (ρ.ln o) (ρ.ln o) (szD R t) (isSt t)) ∨ (ρ.ln o = 0 ∧ (v = .lst .nil [] ∨ v = .lst .full []))
  | .eref o t i off, v => ∃ s, ρ.ob o = some s ∧ 0 ≤ i ∧ v = .ref (1, o) s (i.toNat * szD R t + off)
  | .undef, v => v = undefV
  | .gone, _ => True
def RlL (ρ : Rho) (top : Nat → Nat) : List (TV R.T) → List V → Prop
  | [], l => l = []
  | t :: ts, l => ∃ v vs, l = v :: vs ∧ Rl ρ top t v ∧ RlL ρ top ts vs
end
variable {R}
variable {ρ ρ' : Rho} {top top' : Nat → Nat}
theorem RlL.inv_nil {vs : List V} (h : RlL R ρ top [] vs) : vs = [] := by unfold RlL at h; exact h
theorem RlL.inv_cons {t : TV R.T} {ts : List (TV R.T)} {vs : List V} (h : RlL R ρ top (t :: ts) vs) : ∃ v l, vs = v :: l ∧ Rl R ρ top t v ∧ RlL R ρ top ts l := by unfold RlL at h; exact h
theorem Rl.inv_int {k : IntKind} {n : Int} {v : V} (h : Rl R ρ top (.int k n) v) : v = .int k n := by unfold Rl at h; exact h
theorem Rl.inv_bool {b : Bool} {v : V} (h : Rl R ρ top (.bool b) v) : v = .bool b := by unfold Rl at h; exact h
theorem Rl.inv_blit {b : Bool} {v : V} (h : Rl R ρ top (.blit b) v) : v = .bool b := by unfold Rl at h; exact h
theorem Rl.inv_str {b : List UInt8} {v : V} (h : Rl R ρ top (.str b) v) : v = .str b := by unfold Rl at h; exact h
theorem Rl.inv_nils {v : V} (h : Rl R ρ top .nils v) : v = .lst .nil [] := by unfold Rl at h; exact h
theorem Rl.inv_agg {cs : List (TV R.T)} {v : V} (h : Rl R ρ top (.agg cs) v) : ∃ l, v = .agg l ∧ RlL R ρ top cs l := by unfold Rl at h; exact h
theorem Rl.inv_tup {cs : List (TV R.T)} {v : V} (h : Rl R ρ top (.tup cs) v) : ∃ l, v = .tup l ∧ RlL R ρ top cs l := by unfold Rl at h; exact h
theorem Rl.inv_lst {c : Cp} {t : Ty} {l : List (Den R.T t)} {v : V} (h : Rl R ρ top (.lst c t l) v) : ∃ c', v = .lst c' (l.map (encD R t)) ∧ CapR ρ top (szD R t) l.length c c' := by unfold Rl at h; exact h
theorem Rl.inv_ref {o off : Nat} {v : V} (h : Rl R ρ top (.ref o off) v) : ∃ s, ρ.ob o = some s ∧ v = .ref (1, o) s off := by unfold Rl at h; exact h
theorem Rl.inv_cref {cs : List (TV R.T)} {off : Nat} {v : V} (h : Rl R ρ top (.cref cs off) v) : ∃ l, v = .cref l off ∧ RlL R ρ top cs l := by unfold Rl at h; exact h
theorem Rl.inv_mapr {o : Nat} {v : V} (h : Rl R ρ top (.mapr o) v) : ∃ s, ρ.ob o = some s ∧ v = .mapr (1, o) s := by unfold Rl at h; exact h
theorem Rl.inv_mapc {k e : Ty} {m : List (Den R.T k × Den R.T e)} {v : V} (h : Rl R ρ top (.mapc k e m) v) : v = .mapc (m.map fun p => encD R k p.1) (m.map fun p => encD R e p.2) := by unfold Rl at h; exact h
theorem Rl.inv_fn {f : Nat} {a b : List (TV R.T)} {v : V} (h : Rl R ρ top (.fn f a b) v) : ∃ a' b', v = .fn (.func f) a' b' ∧ RlL R ρ top a a' ∧ RlL R ρ top b b' := by unfold Rl at h; exact h
theorem Rl.inv_vw {o : Nat} {t : Ty} {v : V} (h : Rl R ρ top (.vw o t) v) : (∃ s, ρ.ob o = some s ∧ v = .vw (1, o) s 0 (ρ.ln o) (ρ.ln o) (szD R t) (isSt t)) ∨ (ρ.ln o = 0 ∧ (v = .lst .nil [] ∨ v = .lst .full [])) := by unfold Rl at h; exact h
theorem Rl.inv_eref {o off : Nat} {t : Ty} {i : Int} {v : V} (h : Rl R ρ top (.eref o t i off) v) : ∃ s, ρ.ob o = some s ∧ 0 ≤ i ∧ v = .ref (1, o) s (i.toNat * szD R t + off) := by unfold Rl at h; exact h
theorem Rl.inv_undef {v : V} (h : Rl R ρ top .undef v) : v = undefV := by unfold Rl at h; exact h
theorem Rl.inv_opt {j : Nat} {w : Bool} {x : TV R.T} {v : V} (h : Rl R ρ top (.opt j w x) v) : False := by unfold Rl at h; exact h
theorem RlL.cons' {t : TV R.T} {ts : List (TV R.T)} {v : V} {vs : List V} (h : Rl R ρ top t v) (h' : RlL R ρ top ts vs) : RlL R ρ top (t :: ts) (v :: vs) := ⟨v, vs, rfl, h, h'⟩
theorem RlL.length : ∀ {ts : List (TV R.T)} {vs : List V}, RlL R ρ top ts vs → vs.length = ts.length
  | [], _, h => by cases h; rfl
  | _ :: ts, _, ⟨v, vs, e, _, h'⟩ => by subst e; simp [RlL.length h']
theorem RlL.append : ∀ {ts ts' : List (TV R.T)} {vs vs' : List V}, RlL R ρ top ts vs → RlL R ρ top ts' vs' → RlL R ρ top (ts ++ ts') (vs ++ vs')
  | [], _, _, _, h, h2 => by cases h; exact h2
  | _ :: ts, _, _, _, ⟨v, vs, e, h1, h'⟩, h2 => by subst e; exact .cons' h1 (RlL.append h' h2)
theorem RlL.drop : ∀ (n : Nat) {ts : List (TV R.T)} {vs : List V}, RlL R ρ top ts vs → RlL R ρ top (ts.drop n) (vs.drop n)
  | 0, _, _, h => by simpa using h
  | n + 1, [], _, h => by cases h; simp; rfl
  | n + 1, _ :: ts, _, ⟨v, vs, e, h1, h'⟩ => by subst e; simpa using RlL.drop n h'
theorem RlL.take : ∀ (n : Nat) {ts : List (TV R.T)} {vs : List V}, RlL R ρ top ts vs → RlL R ρ top (ts.take n) (vs.take n)
  | 0, _, _, h => by simp; rfl
  | n + 1, [], _, h => by cases h; simp; rfl
  | n + 1, _ :: ts, _, ⟨v, vs, e, h1, h'⟩ => by subst e; simpa using .cons' h1 (RlL.take n h')
theorem RlL.get : ∀ {ts : List (TV R.T)} {vs : List V} {i : Nat} {t : TV R.T}, RlL R ρ top ts vs → ts[i]? = some t → ∃ v, vs[i]? = some v ∧ Rl R ρ top t v
  | [], _, _, _, _, h => by simp at h
  | _ :: ts, _, 0, _, ⟨v, vs, e, h1, h'⟩, h => by subst e; simp at h; subst h; exact ⟨v, by simp, h1⟩
  | _ :: ts, _, i + 1, _, ⟨v, vs, e, h1, h'⟩, h => by subst e; simpa using RlL.get h' (by simpa using h)
mutual
theorem Rl.wk (t : Nat) (ho : ρ'.ob = ρ.ob ∧ ρ'.ln = ρ.ln) (ht : ∀ u s, u ≠ t → ρ.tk u = some s → ρ'.tk u = some s ∧ top' s = top s) : ∀ (x : TV R.T) (v : V), Rl R ρ top x v → Rl R ρ' top' (wk t x) v
  | .lst (.own u) ty l, v, h => by
    obtain ⟨c', hv, hc⟩ := h
    unfold Aq.wk
    by_cases e : Nat.beq u t = true
    · rw [e, cond_true]; exact ⟨c', hv, trivial⟩
    · have e' : Nat.beq u t = false := Bool.eq_false_iff.2 e
      rw [e', cond_false]
      refine ⟨c', hv, ?_⟩
      rcases hc with hc | hc | ⟨s, h1, h2, h3⟩
      · exact .inl hc
      · exact .inr (.inl hc)
      · have hne : u ≠ t := fun h => e (by rw [h]; exact Nat.beq_refl t)
        have := ht u s hne h2
        exact .inr (.inr ⟨s, h1, this.1, by rw [this.2]; exact h3⟩)
  | .lst .any ty l, v, h => by obtain ⟨c', hv, hc⟩ := h; exact ⟨c', hv, trivial⟩
  | .lst .sh ty l, v, h => by obtain ⟨c', hv, hc⟩ := h; exact ⟨c', hv, hc⟩
  | .lst .nil ty l, v, h => by obtain ⟨c', hv, hc⟩ := h; exact ⟨c', hv, hc⟩
  | .lst .full ty l, v, h => by obtain ⟨c', hv, hc⟩ := h; exact ⟨c', hv, hc⟩
  | .agg cs, v, h => by obtain ⟨l, hv, hl⟩ := h; exact ⟨l, hv, RlL.wk t ho ht cs l hl⟩
  | .tup cs, v, h => by obtain ⟨l, hv, hl⟩ := h; exact ⟨l, hv, RlL.wk t ho ht cs l hl⟩
  | .cref cs off, v, h => by obtain ⟨l, hv, hl⟩ := h; exact ⟨l, hv, RlL.wk t ho ht cs l hl⟩
  | .fn f a b, v, h => by obtain ⟨a', b', hv, ha, hb⟩ := h; exact ⟨a', b', hv, RlL.wk t ho ht a a' ha, RlL.wk t ho ht b b' hb⟩
  | .ref o off, v, h => by obtain ⟨s, h1, h2⟩ := h; exact ⟨s, by rw [ho.1]; exact h1, h2⟩
  | .mapr o, v, h => by obtain ⟨s, h1, h2⟩ := h; exact ⟨s, by rw [ho.1]; exact h1, h2⟩
  | .vw o ty, v, h => by
    rcases h with ⟨s, h1, h2⟩ | ⟨h1, h2⟩
    · exact .inl ⟨s, by rw [ho.1]; exact h1, by rw [ho.2]; exact h2⟩
    · exact .inr ⟨by rw [ho.2]; exact h1, h2⟩
  | .eref o ty i off, v, h => by obtain ⟨s, h1, h2⟩ := h; exact ⟨s, by rw [ho.1]; exact h1, h2⟩
  | .opt _ _ _, _, h => h.elim
  | .int _ _, _, h => h
  | .bool _, _, h => h
  | .blit _, _, h => h
  | .str _, _, h => h
  | .nilp, _, h => h
  | .nilf, _, h => h
  | .nilm, _, h => h
  | .nili, _, h => h
  | .nils, _, h => h
  | .mapc _ _ _, _, h => h
  | .undef, _, h => h
  | .gone, _, h => h
theorem RlL.wk (t : Nat) (ho : ρ'.ob = ρ.ob ∧ ρ'.ln = ρ.ln) (ht : ∀ u s, u ≠ t → ρ.tk u = some s → ρ'.tk u = some s ∧ top' s = top s) : ∀ (x : List (TV R.T)) (v : List V), RlL R ρ top x v → RlL R ρ' top' (wkL t x) v
  | [], _, h => h
  | x :: xs, _, ⟨v, vs, e, h1, h2⟩ => ⟨v, vs, e, Rl.wk t ho ht x v h1, RlL.wk t ho ht xs vs h2⟩
end
mutual
theorem Rl.kill (o : Nat) (ho : ∀ p, p ≠ o → ρ'.ob p = ρ.ob p ∧ ρ'.ln p = ρ.ln p) (ht : ρ'.tk = ρ.tk) : ∀ (x : TV R.T) (v : V), ment o x = false → Rl R ρ top x v → Rl R ρ' top x v
  | .lst c ty l, v, _, h => by
    obtain ⟨c', hv, hc⟩ := h
    refine ⟨c', hv, ?_⟩
    cases c <;> try exact hc
    rcases hc with hc | hc | ⟨s, h1, h2, h3⟩
    · exact .inl hc
    · exact .inr (.inl hc)
    · exact .inr (.inr ⟨s, h1, by rw [ht]; exact h2, h3⟩)
  | .agg cs, v, hm, h => by obtain ⟨l, hv, hl⟩ := h; exact ⟨l, hv, RlL.kill o ho ht cs l hm hl⟩
  | .tup cs, v, hm, h => by obtain ⟨l, hv, hl⟩ := h; exact ⟨l, hv, RlL.kill o ho ht cs l hm hl⟩
  | .cref cs off, v, hm, h => by obtain ⟨l, hv, hl⟩ := h; exact ⟨l, hv, RlL.kill o ho ht cs l hm hl⟩
  | .fn f a b, v, hm, h => by
    obtain ⟨a', b', hv, ha, hb⟩ := h
    unfold ment at hm
    rw [Bool.or_eq_false_iff] at hm
    exact ⟨a', b', hv, RlL.kill o ho ht a a' hm.1 ha, RlL.kill o ho ht b b' hm.2 hb⟩
  | .ref p off, v, hm, h => by
    obtain ⟨s, h1, h2⟩ := h
    unfold ment at hm
    exact ⟨s, ((ho p (fun e => by rw [e, Nat.beq_refl] at hm; cases hm)).1.trans h1), h2⟩
  | .mapr p, v, hm, h => by
    obtain ⟨s, h1, h2⟩ := h
    unfold ment at hm
    exact ⟨s, ((ho p (fun e => by rw [e, Nat.beq_refl] at hm; cases hm)).1.trans h1), h2⟩
  | .vw p ty, v, hm, h => by
    unfold ment at hm
    obtain ⟨k1, k2⟩ := ho p (fun e => by rw [e, Nat.beq_refl] at hm; cases hm)
    rcases h with ⟨s, h1, h2⟩ | ⟨h1, h2⟩
    · exact .inl ⟨s, k1.trans h1, by rw [k2]; exact h2⟩
    · exact .inr ⟨by rw [k2]; exact h1, h2⟩
  | .eref p ty i off, v, hm, h => by
    obtain ⟨s, h1, h2⟩ := h
    unfold ment at hm
    exact ⟨s, ((ho p (fun e => by rw [e, Nat.beq_refl] at hm; cases hm)).1.trans h1), h2⟩
  | .opt _ _ _, _, _, h => h.elim
  | .int _ _, _, _, h => h
  | .bool _, _, _, h => h
  | .blit _, _, _, h => h
  | .str _, _, _, h => h
  | .nilp, _, _, h => h
  | .nilf, _, _, h => h
  | .nilm, _, _, h => h
  | .nili, _, _, h => h
  | .nils, _, _, h => h
  | .mapc _ _ _, _, _, h => h
  | .undef, _, _, h => h
  | .gone, _, _, h => h
theorem RlL.kill (o : Nat) (ho : ∀ p, p ≠ o → ρ'.ob p = ρ.ob p ∧ ρ'.ln p = ρ.ln p) (ht : ρ'.tk = ρ.tk) : ∀ (x : List (TV R.T)) (v : List V), mentL o x = false → RlL R ρ top x v → RlL R ρ' top x v
  | [], _, _, h => h
  | x :: xs, _, hm, ⟨v, vs, e, h1, h2⟩ => by
    unfold mentL at hm
    rw [Bool.or_eq_false_iff] at hm
    exact ⟨v, vs, e, Rl.kill o ho ht x v hm.1 h1, RlL.kill o ho ht xs vs hm.2 h2⟩
end
section
variable (hR : RegOK R)
include hR
def Cl1 (v w : V) : Prop := er1 v = w ∧ er v = w ∧ pclean w = true ∧ (∀ n σ, closeV (n + 2) σ v = some w) ∧ oneCell v = true ∧ v.cells = [v]
omit hR in
theorem er_er1 {v : V} (h : ∀ cs, v ≠ .agg cs) : er v = er1 v := by cases v <;> first | rfl | exact absurd rfl (h _)
theorem pclean_encD : ∀ (t : Ty) (x : Den R.T t), pclean (encD R t x) = true
  | .int _, x => by simp [encD, pclean]
  | .bool, x => by simp [encD, pclean]
  | .str, x => by simp [encD, pclean]
  | .slice t, x => pclean_lst (pclean_encD t) x
  | .st n, x => hR.pc n x
theorem tv1_rl (c : Cp) (hc : CapR ρ top 1 0 c .sh ∧ (c = .any ∨ c = .sh)) : ∀ (t : Ty) (x : Den R.T t), leafT t = true → Rl R ρ top (tv1 R c t x) (encD R t x)
  | .int _, x, _ => rfl
  | .bool, x, _ => rfl
  | .str, x, _ => rfl
  | .slice t, x, _ => ⟨.sh, rfl, by rcases hc.2 with rfl | rfl <;> first | trivial | rfl⟩
  | .st n, x, h => by simp [leafT] at h
theorem tvs_rl (c : Cp) (hc : CapR ρ top 1 0 c .sh ∧ (c = .any ∨ c = .sh)) : ∀ (l : List Ty) (p : PayT R.T l), l.all leafT = true → RlL R ρ top (tvs R c l p) (encs R l p)
  | [], _, _ => rfl
  | [t], x, h => .cons' (tv1_rl hR c hc t x (by simpa using h)) rfl
  | t :: u :: l, p, h => by
    rw [List.all_cons, Bool.and_eq_true] at h
    exact .cons' (tv1_rl hR c hc t p.1 h.1) (tvs_rl c hc (u :: l) p.2 h.2)
theorem tvD_rl' (c : Cp) (hc : c = .any ∨ c = .sh) : ∀ (t : Ty) (x : Den R.T t), Rl R ρ top (tvD R c t x) (encD R t x)
  | .int _, x => rfl
  | .bool, x => rfl
  | .str, x => rfl
  | .slice t, x => ⟨.sh, rfl, by rcases hc with rfl | rfl <;> first | trivial | rfl⟩
  | .st n, x => ⟨_, hR.enc n x, tvs_rl hR c ⟨by rcases hc with rfl | rfl <;> first | trivial | rfl, hc⟩ _ _ (hR.leaf n)⟩
theorem tvD_rl (t : Ty) (x : Den R.T t) : Rl R ρ top (tvD R .sh t x) (encD R t x) := tvD_rl' hR .sh (.inr rfl) t x
omit hR in
theorem cl_int (k : IntKind) (n : Int) : Cl1 (.int k n) (.int k n) := ⟨rfl, rfl, by simp [pclean], fun n σ => closeV_int (n + 1) _ _, rfl, rfl⟩
omit hR in
theorem cl_bool (b : Bool) : Cl1 (.bool b) (.bool b) := ⟨rfl, rfl, by simp [pclean], fun n σ => closeV_bool (n + 1) _, rfl, rfl⟩
omit hR in
theorem cl_str (b : List UInt8) : Cl1 (.str b) (.str b) := ⟨rfl, rfl, by simp [pclean], fun n σ => closeV_str (n + 1) _, rfl, rfl⟩
theorem cl_lst (c : Cap) (t : Ty) (l : List (Den R.T t)) : Cl1 (.lst c (l.map (encD R t))) (encD R (.slice t) l) := ⟨rfl, rfl, pclean_encD hR (.slice _) _, fun n σ => closeV_lstc _ _ (pclean_encD hR _), rfl, rfl⟩
omit hR in
theorem unInt_cl {k : IntKind} {x : Int} {tv : TV R.T} {v : V} (h : unInt R k tv = some x) (hr : Rl R ρ top tv v) : v = .int k x := by
  unfold unInt at h
  split at h
  · split at h
    · rename_i e; cases e; cases h; exact hr.inv_int
    · cases h
  · cases h
omit hR in
theorem unBool_cl {x : Bool} {tv : TV R.T} {v : V} (h : unBool R tv = some x) (hr : Rl R ρ top tv v) : v = .bool x := by
  unfold unBool at h
  split at h <;> cases h
  · exact hr.inv_bool
  · exact hr.inv_blit
omit hR in
theorem unStr_cl {x : List UInt8} {tv : TV R.T} {v : V} (h : unStr R tv = some x) (hr : Rl R ρ top tv v) : v = .str x := by
  unfold unStr at h
  split at h <;> cases h
  exact hr.inv_str
omit hR in
theorem castL_eq {t u : Ty} {l : List (Den R.T t)} {m : List (Den R.T u)} (h : castL R l = some m) : t = u ∧ HEq l m := by
  unfold castL at h
  split at h
  · rename_i e; subst e; cases h; exact ⟨rfl, HEq.rfl⟩
  · cases h
omit hR in
theorem unSl_cl {t : Ty} {x : List (Den R.T t)} {tv : TV R.T} {v : V} (h : unSl R t tv = some x) (hr : Rl R ρ top tv v) : ∃ c, v = .lst c (x.map (encD R t)) := by
  unfold unSl at h
  split at h
  · obtain ⟨e, e2⟩ := castL_eq h; subst e; cases e2
    obtain ⟨c', hv, hc⟩ := hr.inv_lst
    exact ⟨c', hv⟩
  · cases h; exact ⟨.nil, hr.inv_nils⟩
  · cases h
theorem un1_cl {t : Ty} {x : Den R.T t} {tv : TV R.T} {v : V} (h : un1 R t tv = some x) (hr : Rl R ρ top tv v) : Cl1 v (encD R t x) := by
  cases t with
  | int k => rw [unInt_cl h hr]; exact cl_int _ _
  | bool => rw [unBool_cl h hr]; exact cl_bool _
  | str => rw [unStr_cl h hr]; exact cl_str _
  | slice t => obtain ⟨c, hv⟩ := unSl_cl h hr; rw [hv]; exact cl_lst hR _ _ _
  | st n => cases h
theorem hd1_cl {t : Ty} {x : Den R.T t} {cs : List (TV R.T)} {vs : List V} (h : un1 R t (hd1 R cs) = some x) (hr : RlL R ρ top cs vs) : ∃ v, vs = [v] ∧ Cl1 v (encD R t x) := by
  cases cs with
  | nil => cases t <;> cases h
  | cons c cs =>
    cases cs with
    | nil =>
      obtain ⟨v, l, rfl, h1, h2⟩ := hr.inv_cons
      rw [h2.inv_nil]
      exact ⟨v, rfl, un1_cl hR h h1⟩
    | cons c' cs => cases t <;> cases h
theorem uns_cl : ∀ (l : List Ty) (p : PayT R.T l) (cs : List (TV R.T)) (vs : List V), uns R l cs = some p → RlL R ρ top cs vs →
    vs.map er1 = encs R l p ∧ (∀ n σ, vs.mapM (closeV (n + 2) σ) = some (encs R l p)) ∧ pcleanL (encs R l p) = true ∧ vs.all (fun v => oneCell v) = true
  | [], p, cs, vs, h, hr => by
    cases cs with
    | nil => rw [hr.inv_nil]; exact ⟨rfl, fun _ _ => rfl, by simp [encs, pcleanL], rfl⟩
    | cons c cs => cases h
  | [t], p, cs, vs, h, hr => by
    obtain ⟨v, rfl, a, b, c, d, e, _⟩ := hd1_cl hR (show un1 R t (hd1 R cs) = some p from h) hr
    exact ⟨by simp [encs, a], fun n σ => by simp [encs, d], by simp [encs, pcleanL, c], by simp [e]⟩
  | t :: u :: l, p, cs, vs, h, hr => by
    cases cs with
    | nil => cases h
    | cons c cs =>
      obtain ⟨v, vs, rfl, h1, h2⟩ := hr.inv_cons
      unfold uns at h
      cases hu : un1 R t c with
      | none => simp only [hu] at h; cases h
      | some y =>
        cases hs : uns R (u :: l) cs with
        | none => simp only [hu, hs] at h; cases h
        | some q =>
          simp only [hu, hs] at h
          obtain rfl := Option.some.inj h
          obtain ⟨a, b, c, d, e, _⟩ := un1_cl hR hu h1
          obtain ⟨a', d', c', o'⟩ := uns_cl (u :: l) q cs vs hs h2
          exact ⟨by simp [encs, a, a'], fun n σ => by simp [encs, d, d'], by simp [encs, pcleanL, c, c'], by simp [e, o']⟩
omit hR in
theorem encs_length : ∀ (l : List Ty) (p : PayT R.T l), (encs R l p).length = l.length
  | [], _ => rfl
  | [_], _ => rfl
  | _ :: u :: l, p => by show (encs R (u :: l) p.2).length + 1 = _; rw [encs_length]; rfl
omit hR in
theorem closeV_aggc' {n : Nat} {σ : Sig} (cs : List V) : closeV (n + 3) σ (.agg cs) = (cs.mapM (closeV (n + 2) σ)).map .agg := by
  by_cases hp : pclean (.agg cs) = true
  · rw [closeV_clean hp]
    have : ∀ cs : List V, pcleanL cs = true → cs.mapM (closeV (n + 2) σ) = some cs := by
      intro cs
      induction cs with
      | nil => intro _; rfl
      | cons a l ih =>
        intro h
        simp only [pcleanL, Bool.and_eq_true] at h
        rw [List.mapM_cons, closeV_clean h.1, ih h.2]; rfl
    rw [this cs (by simpa [pclean] using hp)]; rfl
  · conv => lhs; unfold closeV
    simp only [hp, if_false, Bool.false_eq_true]
theorem unD_cl {t : Ty} {x : Den R.T t} {tv : TV R.T} {v : V} (h : unD R t tv = some x) (hr : Rl R ρ top tv v) :
    er v = encD R t x ∧ pclean (encD R t x) = true ∧ (∀ n σ, closeV (n + 3) σ v = some (encD R t x)) ∧ v.cells.length = szD R t ∧ oneCells v.cells = true := by
  cases t with
  | st n =>
    change unSt R n tv = some x at h
    unfold unSt at h
    split at h
    · rename_i cs
      split at h
      · rename_i p hp
        obtain rfl := Option.some.inj h
        obtain ⟨l, hv, hl⟩ := hr.inv_agg
        subst hv
        obtain ⟨a, d, c, o⟩ := uns_cl hR _ _ _ _ hp hl
        have he : encD R (.st n) (R.to n p) = .agg (encs R (R.lf n) p) := by
          show R.enc n (R.to n p) = _
          rw [hR.enc, hR.of_to]
        refine ⟨?_, pclean_encD hR (.st n) _, fun k σ => ?_, ?_, o⟩
        · rw [he]; show V.agg (l.map er1) = _; rw [a]
        · rw [he, closeV_aggc', d k σ]; rfl
        · show l.length = _
          have := congrArg List.length a
          rw [List.length_map] at this
          rw [this]; exact encs_length _ _
      · cases h
    · cases h
  | int k =>
    obtain ⟨a, b, c, d, e, f⟩ := un1_cl hR (t := .int k) h hr
    exact ⟨b, c, fun n σ => d (n + 1) σ, by rw [f]; rfl, by rw [f]; simp [oneCells, e]⟩
  | bool =>
    obtain ⟨a, b, c, d, e, f⟩ := un1_cl hR (t := .bool) h hr
    exact ⟨b, c, fun n σ => d (n + 1) σ, by rw [f]; rfl, by rw [f]; simp [oneCells, e]⟩
  | str =>
    obtain ⟨a, b, c, d, e, f⟩ := un1_cl hR (t := .str) h hr
    exact ⟨b, c, fun n σ => d (n + 1) σ, by rw [f]; rfl, by rw [f]; simp [oneCells, e]⟩
  | slice t =>
    obtain ⟨a, b, c, d, e, f⟩ := un1_cl hR (t := .slice t) h hr
    exact ⟨b, c, fun n σ => d (n + 1) σ, by rw [f]; rfl, by rw [f]; simp [oneCells, e]⟩
end
end
end Aq
end
section
namespace Aq
open Go
set_option linter.unusedSectionVars false
set_option linter.unusedVariables false
theorem nbeq_t {a b : Nat} (h : Nat.beq a b = true) : a = b := Nat.eq_of_beq_eq_true h
theorem nbeq_f {a b : Nat} (h : Nat.beq a b = false) : a ≠ b := fun e => by rw [e, Nat.beq_refl] at h; cases h
theorem nbeq_ne {a b : Nat} (h : a ≠ b) : Nat.beq a b = false := Bool.eq_false_iff.2 fun e => h (nbeq_t e)
section look
variable {α : Type}
theorem look_mapF (f : α → α) : ∀ (l : List (Nat × α)) (i : Nat), look (mapF f l) i = (look l i).map f
  | [], _ => rfl
  | (j, x) :: l, i => by
    show (bif Nat.beq j i then some (f x) else look (mapF f l) i) = Option.map f (bif Nat.beq j i then some x else look l i)
    cases Nat.beq j i
    · exact look_mapF f l i
    · rfl
theorem look_delF {i j : Nat} (h : j ≠ i) : ∀ (l : List (Nat × α)), look (delF i l) j = look l j
  | [] => rfl
  | (k, x) :: l => by
    show look (bif Nat.beq k i then delF i l else (k, x) :: delF i l) j = bif Nat.beq k j then some x else look l j
    cases hk : Nat.beq k i
    · show (bif Nat.beq k j then some x else look (delF i l) j) = _
      rw [look_delF h l]
    · have := nbeq_t hk
      subst this
      rw [nbeq_ne (Ne.symm h)]
      exact look_delF h l
theorem look_cons_eq (l : List (Nat × α)) (i : Nat) (x : α) : look ((i, x) :: l) i = some x := by
  show (bif Nat.beq i i then some x else look l i) = _; rw [Nat.beq_refl]; rfl
theorem look_cons_ne (l : List (Nat × α)) {i j : Nat} (x : α) (h : j ≠ i) : look ((i, x) :: l) j = look l j := by
  show (bif Nat.beq i j then some x else look l j) = _; rw [nbeq_ne (Ne.symm h)]; rfl
end look
section
variable {R : Reg} {E : Env}
theorem tv1_any {ρ ρ' : Rho} {top top' : Nat → Nat} : ∀ (t : Ty) (x : Den R.T t) (v : V), Rl R ρ top (tv1 R .any t x) v → Rl R ρ' top' (tv1 R .any t x) v
  | .int _, _, _, h => h
  | .bool, _, _, h => h
  | .str, _, _, h => h
  | .slice _, _, _, h => h
  | .st _, _, _, h => h
theorem tvs_any {ρ ρ' : Rho} {top top' : Nat → Nat} : ∀ (l : List Ty) (p : PayT R.T l) (vs : List V), RlL R ρ top (tvs R .any l p) vs → RlL R ρ' top' (tvs R .any l p) vs
  | [], _, _, h => h
  | [t], x, vs, h => by
    obtain ⟨v, l, rfl, h1, h2⟩ := h.inv_cons
    rw [h2.inv_nil]
    exact .cons' (tv1_any t x v h1) rfl
  | t :: u :: l, p, vs, h => by
    obtain ⟨v, ws, rfl, h1, h2⟩ := h.inv_cons
    exact .cons' (tv1_any t p.1 v h1) (tvs_any (u :: l) p.2 ws h2)
theorem tvD_any {ρ ρ' : Rho} {top top' : Nat → Nat} {t : Ty} {x : Den R.T t} {vs : List V} (h : RlL R ρ top (tvD R .any t x).cells vs) : RlL R ρ' top' (tvD R .any t x).cells vs := by
  cases t with
  | st n => exact tvs_any _ _ _ h
  | int k => exact tvs_any [.int k] x vs h
  | bool => exact tvs_any [.bool] x vs h
  | str => exact tvs_any [.str] x vs h
  | slice t => exact tvs_any [.slice t] x vs h
theorem RlL.split {ρ : Rho} {top : Nat → Nat} : ∀ {ts ts' : List (TV R.T)} {vs : List V}, RlL R ρ top (ts ++ ts') vs → ∃ a b, vs = a ++ b ∧ RlL R ρ top ts a ∧ RlL R ρ top ts' b
  | [], _, vs, h => ⟨[], vs, rfl, rfl, h⟩
  | t :: ts, ts', vs, h => by
    obtain ⟨v, ws, rfl, h1, h2⟩ := RlL.inv_cons (ts := ts ++ ts') h
    obtain ⟨a, b, rfl, h3, h4⟩ := RlL.split h2
    exact ⟨v :: a, b, rfl, .cons' h1 h3, h4⟩
theorem flat_any {ρ ρ' : Rho} {top top' : Nat → Nat} {t : Ty} : ∀ (l : List (Den R.T t)) (vs : List V), RlL R ρ top (l.flatMap fun x => (tvD R .any t x).cells) vs → RlL R ρ' top' (l.flatMap fun x => (tvD R .any t x).cells) vs
  | [], vs, h => h
  | x :: l, vs, h => by
    rw [List.flatMap_cons] at h ⊢
    obtain ⟨a, b, rfl, h1, h2⟩ := h.split
    exact (tvD_any h1).append (flat_any l b h2)
def RlS (fr : Fr) (ρ : Rho) (top : Nat → Nat) : TV R.T → V → Prop
  | .opt j w y, v => (fr.tm j = .bool w → Rl R ρ top y v) ∧ (fr.tm j = .bool (!w) ∨ fr.tm j = undefV → v = undefV)
  | x, v => Rl R ρ top x v
theorem RlS.of {fr : Fr} {ρ : Rho} {top : Nat → Nat} {x : TV R.T} {v : V} (h : Rl R ρ top x v) : RlS fr ρ top x v := by
  cases x <;> first | exact h | exact h.inv_opt.elim
def ObR (ρ : Rho) (σ : Sig) (o : Nat) : Ob R.T → Prop
  | .cells cs => ∃ s l, ρ.ob o = some s ∧ σ.cellsAt (1, o) s = some l ∧ RlL R ρ σ.top cs l
  | .map k e m => ∃ s, ρ.ob o = some s ∧ σ.mapAt (1, o) s = some (m.map fun p => encD R k p.1, m.map fun p => encD R e p.2)
  | .smap ks vs => ∃ s k l, ρ.ob o = some s ∧ σ.mapAt (1, o) s = some (k, l) ∧ RlL R ρ σ.top ks k ∧ RlL R ρ σ.top vs l
  | .arr t l => l.length = ρ.ln o ∧ ((l = [] ∧ ρ.ob o = none) ∨ ∃ s cs, ρ.ob o = some s ∧ σ.cellsAt (1, o) s = some cs ∧ RlL R ρ σ.top (l.flatMap fun x => (tvD R .any t x).cells) cs)
  | .gone => True
  | .ro b => ObR ρ σ o b
theorem ObR.strip {ρ : Rho} {σ : Sig} {o : Nat} : ∀ {x : Ob R.T}, ObR ρ σ o x → ObR ρ σ o (stripO x)
  | .cells _, h => h
  | .map _ _ _, h => h
  | .smap _ _, h => h
  | .arr _ _, h => h
  | .gone, h => h
  | .ro b, h => ObR.strip (x := b) h
structure ImgR (ρ : Rho) (b : Nat) (st : MS R.T) (fr : Fr) (σ : Sig) : Prop where
  d : fr.d = 1
  om : fr.om = ρ.om
  fr : ∀ i v, look st.fr i = some v → RlS fr ρ σ.top v (fr.tm i)
  ob : ∀ o x, look st.ob o = some x → ObR ρ σ o x
  inj : ∀ t u s, ρ.tk t = some s → ρ.tk u = some s → t = u
  lt : ∀ t s, ρ.tk t = some s → s < b
def Img (b : Nat) (st : MS R.T) (fr : Fr) (σ : Sig) : Prop := ∃ ρ, ImgR ρ b st fr σ
variable {ρ : Rho} {b : Nat} {st : MS R.T} {fr : Fr} {σ : Sig}
theorem ImgR.le {b' : Nat} (h : ImgR ρ b st fr σ) (hb : b ≤ b') : ImgR ρ b' st fr σ := { h with lt := fun t s ht => Nat.lt_of_lt_of_le (h.lt t s ht) hb }
theorem ObR.bump {o k : Nat} : ∀ {x : Ob R.T}, ObR ρ σ o x → ObR ρ (σ.bump k) o x
  | .cells _, h => h
  | .map _ _ _, h => h
  | .smap _ _, h => h
  | .arr _ _, h => h
  | .gone, h => h
  | .ro b, h => ObR.bump (x := b) h
theorem ImgR.next (h : ImgR ρ b st fr σ) (k : Nat) : ImgR ρ b st fr (σ.bump k) := { h with fr := h.fr, ob := fun o x hx => (h.ob o x hx).bump }
theorem ImgR.rd (h : ImgR ρ b st fr σ) {o : Nat} {x : Ob R.T} (hx : rdOb st o = some x) : ObR ρ σ o x := by
  unfold rdOb at hx
  split at hx
  · rename_i y hy; cases hx; exact (h.ob _ _ hy).strip
  · cases hx
theorem RlS_unopt {ρ : Rho} {top : Nat → Nat} {x : TV R.T} {u v : V} {i : Nat} (h : RlS fr ρ top x v) : RlS (fr.set i u) ρ top (unopt i x) v := by
  cases x with
  | opt j w y =>
    show RlS _ _ _ (bif Nat.beq j i then .gone else .opt j w y) v
    cases hj : Nat.beq j i
    · have hs : (fr.set i u).tm j = fr.tm j := set_ne _ _ (by simpa using nbeq_f hj)
      exact ⟨fun hc => h.1 (by rw [← hs]; exact hc), fun hc => h.2 (by rw [← hs]; exact hc)⟩
    · exact RlS.of (x := .gone) (by unfold Rl; trivial)
  | _ => exact h
theorem ImgR.put (h : ImgR ρ b st fr σ) (i : Nat) {x : TV R.T} {v : V} (hx : RlS (fr.set i v) ρ σ.top x v) : ImgR ρ b (st.put i x) (fr.set i v) σ where
  d := h.d
  om := h.om
  ob := h.ob
  inj := h.inj
  lt := h.lt
  fr := fun j y hy => by
    by_cases e : j = i
    · subst e
      have hy' : some x = some y := by rw [← hy]; exact (look_cons_eq _ _ _).symm
      cases hy'
      rw [set_eq]
      exact hx
    · have hy' : look (mapF (unopt i) (delF i st.fr)) j = some y := by rw [← hy]; exact (look_cons_ne _ _ e).symm
      rw [look_mapF, look_delF e, Option.map_eq_some_iff] at hy'
      obtain ⟨z, hz, rfl⟩ := hy'
      rw [set_ne _ _ (by simpa using e)]
      exact RlS_unopt (h.fr j z hz)
theorem ImgR.putO (h : ImgR ρ b st fr σ) (d : Option Nat) {x : TV R.T} {v : V} (hx : Rl R ρ σ.top x v) : ImgR ρ b (st.putO d x) (fr.put d v) σ := by
  cases d with
  | none => exact h
  | some i => exact h.put i (.of hx)
theorem RlS_lrn {ρ : Rho} {top : Nat → Nat} {x : TV R.T} {v : V} {i : Nat} {c : Bool} (hi : fr.tm i = .bool c) (h : RlS fr ρ top x v) : RlS fr ρ top (lrn i c x) v := by
  cases x with
  | opt j w y =>
    show RlS _ _ _ (bif Nat.beq j i then (bif (c == w) then y else .undef) else .opt j w y) v
    cases hj : Nat.beq j i
    · exact h
    · have := nbeq_t hj
      subst this
      by_cases e : c = w
      · subst e
        rw [beq_self_eq_true]
        exact RlS.of (h.1 hi)
      · rw [show (c == w) = false by simpa using e]
        have e' : c = !w := by cases c <;> cases w <;> first | rfl | exact absurd rfl e
        have h' := h.2 (.inl (by rw [hi, e']))
        subst h'; exact RlS.of (x := .undef) (by unfold Rl; rfl)
  | _ => exact h
theorem ImgR.learn (h : ImgR ρ b st fr σ) {i : Nat} {c : Bool} (hc : fr.tm i = .bool c) : ImgR ρ b (st.learn i c) fr σ where
  d := h.d
  om := h.om
  ob := h.ob
  inj := h.inj
  lt := h.lt
  fr := fun j y hy => by
    by_cases e : j = i
    · subst e
      have hy' : some (TV.blit c) = some y := by rw [← hy]; exact (look_cons_eq _ _ _).symm
      cases hy'
      exact RlS.of (x := .blit c) (by unfold Rl; exact hc)
    · have hy' : look (mapF (lrn i c) (delF i st.fr)) j = some y := by rw [← hy]; exact (look_cons_ne _ _ e).symm
      rw [look_mapF, look_delF e, Option.map_eq_some_iff] at hy'
      obtain ⟨z, hz, rfl⟩ := hy'
      exact RlS_lrn hc (h.fr j z hz)
def Rho.setOb (ρ : Rho) (o s : Nat) : Rho := { ρ with ob := upd ρ.ob o (some s) }
def Rho.setTk (ρ : Rho) (t s : Nat) : Rho := { ρ with tk := upd ρ.tk t (some s) }
theorem RlS_kill {ρ' : Rho} {top : Nat → Nat} {o : Nat} {x : TV R.T} {v : V} (ho : ∀ p, p ≠ o → ρ'.ob p = ρ.ob p ∧ ρ'.ln p = ρ.ln p) (ht : ρ'.tk = ρ.tk) (h : RlS fr ρ top x v) : RlS fr ρ' top (killO o x) v := by
  unfold killO
  cases hm : ment o x
  · cases x with
    | opt j w y => exact ⟨fun hc => Rl.kill o ho ht y v hm (h.1 hc), h.2⟩
    | _ => exact RlS.of (Rl.kill o ho ht _ v hm h)
  · exact RlS.of (x := .gone) (by unfold Rl; trivial)
theorem cells_ne1 {o p : Nat} (σ : Sig) (s s' : Nat) (x : AObj) (h : p ≠ o) : (σ.setObj (1, o) s' x).cellsAt (1, p) s = σ.cellsAt (1, p) s := cells_ne σ s s' x (by rw [locEq_mk]; simp; omega)
theorem map_ne1 {o p : Nat} (σ : Sig) (s s' : Nat) (x : AObj) (h : p ≠ o) : (σ.setObj (1, o) s' x).mapAt (1, p) s = σ.mapAt (1, p) s := map_ne σ s s' x (by rw [locEq_mk]; simp; omega)
theorem ObR_kill' {ρ' : Rho} {o p s' : Nat} {a : AObj} (hp : p ≠ o) (ho : ∀ p, p ≠ o → ρ'.ob p = ρ.ob p ∧ ρ'.ln p = ρ.ln p) (ht : ρ'.tk = ρ.tk) : ∀ {x : Ob R.T}, Ob.ment o x = false → ObR ρ σ p x → ObR ρ' (σ.setObj (1, o) s' a) p x
  | .cells cs, hm, h => by
    obtain ⟨s, l, h1, h2, h3⟩ := h
    exact ⟨s, l, ((ho p hp).1.trans h1), by rw [cells_ne1 _ _ _ _ hp]; exact h2, RlL.kill o ho ht _ _ hm h3⟩
  | .map k e m, _, h => by
    obtain ⟨s, h1, h2⟩ := h
    exact ⟨s, ((ho p hp).1.trans h1), by rw [map_ne1 _ _ _ _ hp]; exact h2⟩
  | .smap ks vs, hm, h => by
    obtain ⟨s, k, l, h1, h2, h3, h4⟩ := h
    have hm' : (mentL o ks || mentL o vs) = false := hm
    rw [Bool.or_eq_false_iff] at hm'
    exact ⟨s, k, l, ((ho p hp).1.trans h1), by rw [map_ne1 _ _ _ _ hp]; exact h2, RlL.kill o ho ht _ _ hm'.1 h3, RlL.kill o ho ht _ _ hm'.2 h4⟩
  | .arr t l, hm, h => by
    refine ⟨h.1.trans (ho p hp).2.symm, ?_⟩
    rcases h.2 with h | ⟨s, cs, h1, h2, h3⟩
    · exact .inl ⟨h.1, (ho p hp).1.trans h.2⟩
    · exact .inr ⟨s, cs, ((ho p hp).1.trans h1), by rw [cells_ne1 _ _ _ _ hp]; exact h2, flat_any l cs h3⟩
  | .gone, _, _ => trivial
  | .ro b, hm, h => ObR_kill' hp ho ht (x := b) hm h
theorem ObR_kill {ρ' : Rho} {o p s' : Nat} {a : AObj} {x : Ob R.T} (hp : p ≠ o) (ho : ∀ p, p ≠ o → ρ'.ob p = ρ.ob p ∧ ρ'.ln p = ρ.ln p) (ht : ρ'.tk = ρ.tk) (h : ObR ρ σ p x) : ObR ρ' (σ.setObj (1, o) s' a) p (Ob.kill o x) := by
  unfold Ob.kill
  cases hm : Ob.ment o x
  · exact ObR_kill' hp ho ht hm h
  · trivial
theorem ObR_ne {o p s : Nat} {a : AObj} (hp : p ≠ o) : ∀ {x : Ob R.T}, ObR ρ σ p x → ObR ρ (σ.setObj (1, o) s a) p x
  | .cells cs, h => by obtain ⟨s, l, h1, h2, h3⟩ := h; exact ⟨s, l, h1, by rw [cells_ne1 _ _ _ _ hp]; exact h2, h3⟩
  | .map k e m, h => by obtain ⟨s, h1, h2⟩ := h; exact ⟨s, h1, by rw [map_ne1 _ _ _ _ hp]; exact h2⟩
  | .smap ks vs, h => by obtain ⟨s, k, l, h1, h2, h3⟩ := h; exact ⟨s, k, l, h1, by rw [map_ne1 _ _ _ _ hp]; exact h2, h3⟩
  | .arr t l, h => by
    refine ⟨h.1, ?_⟩
    rcases h.2 with h | ⟨s, cs, h1, h2, h3⟩
    · exact .inl h
    · exact .inr ⟨s, cs, h1, by rw [cells_ne1 _ _ _ _ hp]; exact h2, h3⟩
  | .gone, _ => trivial
  | .ro b, h => ObR_ne hp (x := b) h
theorem ObR_wk {o t s n : Nat} (key : ∀ u s', u ≠ t → ρ.tk u = some s' → (ρ.setTk t s).tk u = some s' ∧ (σ.setTop s n).top s' = σ.top s') : ∀ {x : Ob R.T}, ObR ρ σ o x → ObR (ρ.setTk t s) (σ.setTop s n) o (Ob.wk t x)
  | .cells cs, h => by obtain ⟨s', l, h1, h2, h3⟩ := h; exact ⟨s', l, h1, h2, RlL.wk (ρ := ρ) (ρ' := ρ.setTk t s) (top := σ.top) (top' := (σ.setTop s n).top) t ⟨rfl, rfl⟩ key _ _ h3⟩
  | .map k e m, h => h
  | .smap ks vs, h => by obtain ⟨s', k, l, h1, h2, h3, h4⟩ := h; exact ⟨s', k, l, h1, h2, RlL.wk (ρ := ρ) (ρ' := ρ.setTk t s) (top := σ.top) (top' := (σ.setTop s n).top) t ⟨rfl, rfl⟩ key _ _ h3, RlL.wk (ρ := ρ) (ρ' := ρ.setTk t s) (top := σ.top) (top' := (σ.setTop s n).top) t ⟨rfl, rfl⟩ key _ _ h4⟩
  | .arr ty l, h => by
    refine ⟨h.1, ?_⟩
    rcases h.2 with h | ⟨s, cs, h1, h2, h3⟩
    · exact .inl h
    · exact .inr ⟨s, cs, h1, h2, flat_any l cs h3⟩
  | .gone, _ => trivial
  | .ro b, h => ObR_wk key (x := b) h
theorem setOb_ne {o s : Nat} : ∀ p, p ≠ o → (ρ.setOb o s).ob p = ρ.ob p ∧ (ρ.setOb o s).ln p = ρ.ln p := fun p h => ⟨by simp [Rho.setOb, upd, h], rfl⟩
def Rho.setLn (ρ : Rho) (o n : Nat) : Rho := { ρ with ln := upd ρ.ln o n }
theorem setLn_ne {o n : Nat} : ∀ p, p ≠ o → (ρ.setLn o n).ob p = ρ.ob p ∧ (ρ.setLn o n).ln p = ρ.ln p := fun p h => ⟨rfl, by simp [Rho.setLn, upd, h]⟩
def Rho.gh (ρ : Rho) (o : Nat) : Rho := { ρ.setLn o 0 with ob := upd ρ.ob o none }
theorem gh_ne {o : Nat} : ∀ p, p ≠ o → (ρ.gh o).ob p = ρ.ob p ∧ (ρ.gh o).ln p = ρ.ln p := fun p h => ⟨by simp [Rho.gh, upd, h], (setLn_ne (ρ := ρ) (n := 0) p h).2⟩
theorem setLn_eq {o n : Nat} : (ρ.setLn o n).ln o = n := by simp [Rho.setLn, upd]
def Rho.setAr (ρ : Rho) (o s n : Nat) : Rho := (ρ.setOb o s).setLn o n
theorem setAr_ne {o s n : Nat} : ∀ p, p ≠ o → (ρ.setAr o s n).ob p = ρ.ob p ∧ (ρ.setAr o s n).ln p = ρ.ln p := fun p h => ⟨(setOb_ne p h).1, (setLn_ne p h).2⟩
theorem setOb_eq {o s : Nat} : (ρ.setOb o s).ob o = some s := by simp [Rho.setOb, upd]
theorem ImgR.new' {ρ' : Rho} (h : ImgR ρ b st fr σ) (o s : Nat) {x : Ob R.T} {a : AObj} (setOb_ne : ∀ p, p ≠ o → ρ'.ob p = ρ.ob p ∧ ρ'.ln p = ρ.ln p) (ht : ρ'.tk = ρ.tk) (hom : ρ'.om = ρ.om) (hx : ObR ρ' (σ.setObj (1, o) s a) o x) : ImgR ρ' b (st.new o x) fr (σ.setObj (1, o) s a) where
  d := h.d
  om := h.om.trans hom.symm
  fr := fun j y hy => by
    have hy' : look (mapF (killO o) st.fr) j = some y := hy
    rw [look_mapF, Option.map_eq_some_iff] at hy'
    obtain ⟨z, hz, rfl⟩ := hy'
    exact RlS_kill setOb_ne ht (h.fr j z hz)
  ob := fun p y hy => by
    by_cases e : p = o
    · subst e
      have hy' : some x = some y := by rw [← hy]; exact (look_cons_eq _ _ _).symm
      cases hy'
      exact hx
    · have hy' : look (mapF (Ob.kill o) (delF o st.ob)) p = some y := by rw [← hy]; exact (look_cons_ne _ _ e).symm
      rw [look_mapF, look_delF e, Option.map_eq_some_iff] at hy'
      obtain ⟨z, hz, rfl⟩ := hy'
      exact ObR_kill e setOb_ne ht (h.ob p z hz)
  inj := by rw [ht]; exact h.inj
  lt := by rw [ht]; exact h.lt
theorem ImgR.new (h : ImgR ρ b st fr σ) (o s : Nat) {x : Ob R.T} {a : AObj} (hx : ObR (ρ.setOb o s) (σ.setObj (1, o) s a) o x) : ImgR (ρ.setOb o s) b (st.new o x) fr (σ.setObj (1, o) s a) := h.new' o s setOb_ne rfl rfl hx
theorem ImgR.newAr (h : ImgR ρ b st fr σ) (o s n : Nat) {x : Ob R.T} {a : AObj} (hx : ObR (ρ.setAr o s n) (σ.setObj (1, o) s a) o x) : ImgR (ρ.setAr o s n) b (st.new o x) fr (σ.setObj (1, o) s a) := h.new' o s setAr_ne rfl rfl hx
theorem ObR_kill0' {ρ' : Rho} {o p : Nat} (hp : p ≠ o) (ho : ∀ p, p ≠ o → ρ'.ob p = ρ.ob p ∧ ρ'.ln p = ρ.ln p) (ht : ρ'.tk = ρ.tk) : ∀ {x : Ob R.T}, Ob.ment o x = false → ObR ρ σ p x → ObR ρ' σ p x
  | .cells cs, hm, h => by
    obtain ⟨s, l, h1, h2, h3⟩ := h
    exact ⟨s, l, ((ho p hp).1.trans h1), h2, RlL.kill o ho ht _ _ hm h3⟩
  | .map k e m, _, h => by
    obtain ⟨s, h1, h2⟩ := h
    exact ⟨s, ((ho p hp).1.trans h1), h2⟩
  | .smap ks vs, hm, h => by
    obtain ⟨s, k, l, h1, h2, h3, h4⟩ := h
    have hm' : (mentL o ks || mentL o vs) = false := hm
    rw [Bool.or_eq_false_iff] at hm'
    exact ⟨s, k, l, ((ho p hp).1.trans h1), h2, RlL.kill o ho ht _ _ hm'.1 h3, RlL.kill o ho ht _ _ hm'.2 h4⟩
  | .arr t l, hm, h => by
    refine ⟨h.1.trans (ho p hp).2.symm, ?_⟩
    rcases h.2 with h | ⟨s, cs, h1, h2, h3⟩
    · exact .inl ⟨h.1, (ho p hp).1.trans h.2⟩
    · exact .inr ⟨s, cs, ((ho p hp).1.trans h1), h2, flat_any l cs h3⟩
  | .gone, _, _ => trivial
  | .ro b, hm, h => ObR_kill0' hp ho ht (x := b) hm h
theorem ImgR.ghost (h : ImgR ρ b st fr σ) (o : Nat) (t : Ty) : ImgR (ρ.gh o) b (st.new o (.arr t [])) fr σ where
  d := h.d
  om := h.om
  fr := fun j y hy => by
    have hy' : look (mapF (killO o) st.fr) j = some y := hy
    rw [look_mapF, Option.map_eq_some_iff] at hy'
    obtain ⟨z, hz, rfl⟩ := hy'
    exact RlS_kill gh_ne rfl (h.fr j z hz)
  ob := fun p y hy => by
    by_cases e : p = o
    · subst e
      have hy' : some (Ob.arr t ([] : List (Den R.T t))) = some y := by rw [← hy]; exact (look_cons_eq _ _ _).symm
      cases hy'
      exact ⟨(setLn_eq (ρ := ρ) (n := 0)).symm, .inl ⟨rfl, by simp [Rho.gh, upd]⟩⟩
    · have hy' : look (mapF (Ob.kill o) (delF o st.ob)) p = some y := by rw [← hy]; exact (look_cons_ne _ _ e).symm
      rw [look_mapF, look_delF e, Option.map_eq_some_iff] at hy'
      obtain ⟨z, hz, rfl⟩ := hy'
      unfold Ob.kill
      cases hm : Ob.ment o z
      · exact ObR_kill0' e gh_ne rfl hm (h.ob p z hz)
      · trivial
  inj := h.inj
  lt := h.lt
theorem del_ne1 {o p : Nat} (σ : Sig) (h : p ≠ o) : (σ.delObj (1, o)).obj (1, p) = σ.obj (1, p) := by
  unfold Sig.delObj upd
  simp [h]
theorem ObR_obj {σ' : Sig} {p : Nat} (hp : σ'.obj (1, p) = σ.obj (1, p)) (ht : σ'.top = σ.top) : ∀ {x : Ob R.T}, ObR ρ σ p x → ObR ρ σ' p x
  | .cells cs, h => by
    obtain ⟨s, l, h1, h2, h3⟩ := h
    exact ⟨s, l, h1, by unfold Sig.cellsAt at h2 ⊢; rw [hp]; exact h2, by rw [ht]; exact h3⟩
  | .map k e m, h => by
    obtain ⟨s, h1, h2⟩ := h
    exact ⟨s, h1, by unfold Sig.mapAt at h2 ⊢; rw [hp]; exact h2⟩
  | .smap ks vs, h => by
    obtain ⟨s, k, l, h1, h2, h3, h4⟩ := h
    exact ⟨s, k, l, h1, by unfold Sig.mapAt at h2 ⊢; rw [hp]; exact h2, by rw [ht]; exact h3, by rw [ht]; exact h4⟩
  | .arr t l, h => by
    refine ⟨h.1, ?_⟩
    rcases h.2 with h | ⟨s, cs, h1, h2, h3⟩
    · exact .inl h
    · exact .inr ⟨s, cs, h1, by unfold Sig.cellsAt at h2 ⊢; rw [hp]; exact h2, flat_any l cs h3⟩
  | .gone, _ => trivial
  | .ro b, h => ObR_obj hp ht (x := b) h
theorem ImgR.del (h : ImgR ρ b st fr σ) (o : Nat) : ImgR ρ b (st.del o) fr (σ.delObj (1, o)) where
  d := h.d
  om := h.om
  fr := h.fr
  ob := fun p y hy => by
    by_cases e : p = o
    · subst e
      have : look (delF p st.ob) p = some y := hy
      have key : ∀ l : List (Nat × Ob R.T), look (delF p l) p = none := by
        intro l
        induction l with
        | nil => rfl
        | cons q l ih =>
          obtain ⟨j, x⟩ := q
          unfold delF
          cases hj : Nat.beq j p
          · show (bif Nat.beq j p then some x else look (delF p l) p) = none
            rw [hj]; exact ih
          · exact ih
      rw [key] at this; cases this
    · have hy' : look (delF o st.ob) p = some y := hy
      rw [look_delF e] at hy'
      exact ObR_obj (del_ne1 σ e) rfl (h.ob p y hy')
  inj := h.inj
  lt := h.lt
theorem ImgR.set (h : ImgR ρ b st fr σ) (o s : Nat) {x : Ob R.T} {a : AObj} (hx : ObR ρ (σ.setObj (1, o) s a) o x) : ImgR ρ b (st.set o x) fr (σ.setObj (1, o) s a) where
  d := h.d
  om := h.om
  fr := h.fr
  ob := fun p y hy => by
    by_cases e : p = o
    · subst e
      have hy' : some x = some y := by rw [← hy]; exact (look_cons_eq _ _ _).symm
      cases hy'
      exact hx
    · have hy' : look (delF o st.ob) p = some y := by rw [← hy]; exact (look_cons_ne _ _ e).symm
      rw [look_delF e] at hy'
      exact ObR_ne e (h.ob p y hy')
  inj := h.inj
  lt := h.lt
theorem ImgR.wk (h : ImgR ρ b st fr σ) (t s n : Nat) {b' : Nat} (hb : b ≤ b') (hs : s < b') (hf : ∀ u, u ≠ t → ρ.tk u ≠ some s) : ImgR (ρ.setTk t s) b' (st.wk t) fr (σ.setTop s n) where
  d := h.d
  om := h.om
  fr := fun j y hy => by
    have hy' : look (mapF (Aq.wk t) st.fr) j = some y := hy
    rw [look_mapF, Option.map_eq_some_iff] at hy'
    obtain ⟨z, hz, rfl⟩ := hy'
    have hz' := h.fr j z hz
    have key : ∀ u s', u ≠ t → ρ.tk u = some s' → (ρ.setTk t s).tk u = some s' ∧ (σ.setTop s n).top s' = σ.top s' := fun u s' hu hs' =>
      ⟨by simp [Rho.setTk, upd, hu, hs'], top_setTop_ne _ _ fun e => hf u hu (by rw [hs', e])⟩
    cases z with
    | opt j' w y => exact ⟨fun hc => Rl.wk (ρ := ρ) (ρ' := ρ.setTk t s) (top := σ.top) (top' := (σ.setTop s n).top) t ⟨rfl, rfl⟩ key y _ (hz'.1 hc), hz'.2⟩
    | _ => exact RlS.of (Rl.wk (ρ := ρ) (ρ' := ρ.setTk t s) (top := σ.top) (top' := (σ.setTop s n).top) t ⟨rfl, rfl⟩ key _ _ hz')
  ob := fun p y hy => by
    have hy' : look (mapF (Ob.wk t) st.ob) p = some y := hy
    rw [look_mapF, Option.map_eq_some_iff] at hy'
    obtain ⟨z, hz, rfl⟩ := hy'
    have hz' := h.ob p z hz
    have key : ∀ u s', u ≠ t → ρ.tk u = some s' → (ρ.setTk t s).tk u = some s' ∧ (σ.setTop s n).top s' = σ.top s' := fun u s' hu hs' =>
      ⟨by simp [Rho.setTk, upd, hu, hs'], top_setTop_ne _ _ fun e => hf u hu (by rw [hs', e])⟩
    exact ObR_wk key hz'
  inj := fun u v s' hu hv => by
    by_cases e1 : u = t <;> by_cases e2 : v = t
    · rw [e1, e2]
    · simp [Rho.setTk, upd, e1] at hu; simp [Rho.setTk, upd, e2] at hv; exact absurd (hu ▸ hv) (hf v e2)
    · simp [Rho.setTk, upd, e1] at hu; simp [Rho.setTk, upd, e2] at hv; exact absurd (hv ▸ hu) (hf u e1)
    · simp [Rho.setTk, upd, e1] at hu; simp [Rho.setTk, upd, e2] at hv; exact h.inj u v s' hu hv
  lt := fun u s' hu => by
    by_cases e1 : u = t
    · simp [Rho.setTk, upd, e1] at hu; omega
    · simp [Rho.setTk, upd, e1] at hu; exact Nat.lt_of_lt_of_le (h.lt u s' hu) hb
theorem ofScalarM_rl {top : Nat → Nat} {x : TV R.T} {v : Value} (h : ofScalarM v = some x) : ∃ y, ofScalar v = some y ∧ Rl R ρ top x y := by
  unfold ofScalarM at h
  split at h <;> cases h <;> exact ⟨_, rfl, by unfold Rl; rfl⟩
theorem ofScalarsM_rl {top : Nat → Nat} : ∀ {vs : List Value} {l : List (TV R.T)}, ofScalarsM vs = some l → ∃ y, vs.mapM ofScalar = some y ∧ RlL R ρ top l y
  | [], l, h => by cases h; exact ⟨[], rfl, rfl⟩
  | v :: vs, l, h => by
    unfold ofScalarsM at h
    cases h1 : (ofScalarM v : Option (TV R.T)) with
    | none => simp only [h1] at h; cases h
    | some a =>
      cases h2 : (ofScalarsM vs : Option (List (TV R.T))) with
      | none => simp only [h1, h2] at h; cases h
      | some as =>
        simp only [h1, h2] at h; cases h
        obtain ⟨y, hy, hr⟩ := ofScalarM_rl (ρ := ρ) (top := top) h1
        obtain ⟨ys, hys, hrs⟩ := ofScalarsM_rl h2
        exact ⟨y :: ys, by simp [hy, hys], .cons' hr hrs⟩
theorem ofValueM_rl {top : Nat → Nat} {x : TV R.T} {v : Value} (h : ofValueM v = some x) : ∃ y, ofValue v = some y ∧ Rl R ρ top x y := by
  unfold ofValueM at h
  split at h
  · rename_i cs
    cases h2 : (ofScalarsM cs.toList : Option (List (TV R.T))) with
    | none => simp only [h2] at h; cases h
    | some l =>
      simp only [h2] at h; cases h
      obtain ⟨ys, hys, hrs⟩ := ofScalarsM_rl (ρ := ρ) (top := top) h2
      exact ⟨.agg ys, by simp [ofValue, hys], by unfold Rl; exact ⟨_, rfl, hrs⟩⟩
  · obtain ⟨y, hy, hr⟩ := ofScalarM_rl (ρ := ρ) (top := top) h
    refine ⟨y, ?_, hr⟩
    unfold ofScalarM at h
    split at h <;> first | exact hy | cases h
def GOK (fr : Fr) (g : List (Nat × Bool)) : Prop := ∀ j u, look g j = some u → fr.tm j = .bool u
theorem GOK.nil : GOK fr [] := fun _ _ h => by cases h
theorem GOK.cons {g : List (Nat × Bool)} {j : Nat} {u : Bool} (h : fr.tm j = .bool u) (hg : GOK fr g) : GOK fr ((j, u) :: g) := fun i v hi => by
  by_cases e : i = j
  · subst e; rw [look_cons_eq] at hi; cases hi; exact h
  · rw [look_cons_ne _ _ e] at hi; exact hg i v hi
theorem resG_rl {fr : Fr} {top : Nat → Nat} {g : List (Nat × Bool)} (hg : GOK fr g) {y x : TV R.T} {v : V} (hy : RlS fr ρ top y v) (he : resG g y = some x) : Rl R ρ top x v := by
  cases y with
  | opt j w z =>
    unfold resG at he
    dsimp only at he
    split at he
    · rename_i u hu
      cases he
      have := hg j u hu
      by_cases e : u = w
      · subst e; rw [beq_self_eq_true]; exact hy.1 this
      · rw [show (u == w) = false by simpa using e]
        have e' : u = !w := by cases u <;> cases w <;> first | rfl | exact absurd rfl e
        unfold Rl; exact hy.2 (.inl (by rw [this, e']))
    · cases he
  | _ => cases he; exact hy
theorem evM_rl (h : ImgR ρ b st fr σ) {g : List (Nat × Bool)} (hg : GOK fr g) {o : Operand} {x : TV R.T} (he : evM g st o = some x) : Rl R ρ σ.top x (fr.ev E o) := by
  cases o with
  | tmp t =>
    rw [ev_tmp]
    unfold evM at he
    dsimp only at he
    split at he
    · rename_i v hv; exact resG_rl hg (h.fr _ _ hv) he
    · cases he
  | const v =>
    rw [ev_const]
    obtain ⟨y, hy, hr⟩ := ofValueM_rl (ρ := ρ) (top := σ.top) (show ofValueM v = some x from he)
    rw [hy]; exact hr
  | func f => cases he; rw [ev_func]; unfold Rl; exact ⟨[], [], rfl, rfl, rfl⟩
  | global i => cases he
theorem evMs_rl (h : ImgR ρ b st fr σ) {g : List (Nat × Bool)} (hg : GOK fr g) : ∀ {l : List Operand} {xs : List (TV R.T)}, evMs g st l = some xs → RlL R ρ σ.top xs (l.map (fr.ev E))
  | [], xs, he => by cases he; rfl
  | o :: l, xs, he => by
    unfold evMs at he
    cases h1 : evM g st o with
    | none => simp only [h1] at he; cases he
    | some a =>
      cases h2 : evMs g st l with
      | none => simp only [h1, h2] at he; cases he
      | some as => simp only [h1, h2] at he; cases he; exact .cons' (evM_rl h hg h1) (evMs_rl h hg h2)
theorem evPs_rl (h : ImgR ρ b st fr σ) {g : List (Nat × Bool)} (hg : GOK fr g) : ∀ {l : List (Nat × Operand)} {xs : List (Nat × TV R.T)}, evPs g st l = some xs → xs.map (·.1) = l.map (·.1) ∧ RlL R ρ σ.top (xs.map (·.2)) (l.map fun p => fr.ev E p.2)
  | [], xs, he => by cases he; exact ⟨rfl, rfl⟩
  | (i, o) :: l, xs, he => by
    unfold evPs at he
    cases h1 : evM g st o with
    | none => simp only [h1] at he; cases he
    | some a =>
      cases h2 : evPs g st l with
      | none => simp only [h1, h2] at he; cases he
      | some as =>
        simp only [h1, h2] at he; cases he
        obtain ⟨e1, e2⟩ := evPs_rl h hg h2
        exact ⟨by simp [e1], .cons' (evM_rl h hg h1) e2⟩
end
end Aq
end
