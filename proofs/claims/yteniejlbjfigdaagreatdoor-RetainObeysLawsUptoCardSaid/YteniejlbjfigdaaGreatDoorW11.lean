/- Part of the proof of a law: Am5 Am6 Am7. -/
import Derived.Test.YteniejlbjfigdaaGreatDoorW10
set_option linter.all false
set_option linter.unusedSimpArgs false
set_option linter.unusedSectionVars false
section
namespace Aq
open Go
set_option linter.unusedSectionVars false
set_option linter.unusedVariables false
section
variable {R : Reg} (hR : RegOK R)
variable {ρ : Rho} {top : Nat → Nat} {b : Nat} {st : MS R.T} {fr : Fr} {σ : Sig}
include hR
theorem un1_rl {t : Ty} {x : Den R.T t} {tv : TV R.T} {v : V} (h : un1 R t tv = some x) (hr : Rl R ρ top tv v) : Rl R ρ top (tv1 R .any t x) v := by
  cases t with
  | int k => rw [unInt_cl h hr]; unfold Rl; rfl
  | bool => rw [unBool_cl h hr]; unfold Rl; rfl
  | str => rw [unStr_cl h hr]; unfold Rl; rfl
  | slice t => obtain ⟨c, hv⟩ := unSl_cl h hr; rw [hv]; unfold Rl; exact ⟨c, rfl, trivial⟩
  | st n => cases h
theorem uns_rl : ∀ (l : List Ty) (p : PayT R.T l) (cs : List (TV R.T)) (vs : List V), uns R l cs = some p → RlL R ρ top cs vs → RlL R ρ top (tvs R .any l p) vs
  | [], p, cs, vs, h, hr => by
    cases cs with
    | nil => rw [hr.inv_nil]; rfl
    | cons c cs => cases h
  | [t], p, cs, vs, h, hr => by
    have h' : un1 R t (hd1 R cs) = some p := h
    cases cs with
    | nil => cases t <;> cases h'
    | cons c cs =>
      cases cs with
      | nil =>
        obtain ⟨v, l, rfl, h1, h2⟩ := hr.inv_cons
        rw [h2.inv_nil]
        exact .cons' (un1_rl hR h' h1) rfl
      | cons c' cs => cases t <;> cases h'
  | t :: u :: l, p, cs, vs, h, hr => by
    cases cs with
    | nil => cases h
    | cons c cs =>
      obtain ⟨v, vs, rfl, h1, h2⟩ := hr.inv_cons
      unfold uns at h
      cases hu : un1 R t c with
      | none => simp only [hu] at h; cases h
      | some y =>
        cases hs : uns R (u :: l) cs with
        | none => simp only [hu, hs] at h; cases h
        | some q =>
          simp only [hu, hs] at h
          obtain rfl := Option.some.inj h
          exact .cons' (un1_rl hR hu h1) (uns_rl (u :: l) q cs vs hs h2)
theorem unD_rl {t : Ty} {x : Den R.T t} {tv : TV R.T} {v : V} (h : unD R t tv = some x) (hr : Rl R ρ top tv v) : Rl R ρ top (tvD R .any t x) v := by
  cases t with
  | st n =>
    change unSt R n tv = some x at h
    unfold unSt at h
    split at h
    · rename_i cs
      split at h
      · rename_i p hp
        obtain rfl := Option.some.inj h
        obtain ⟨l, hv, hl⟩ := hr.inv_agg
        subst hv
        show Rl R ρ top (.agg (tvs R .any (R.lf n) (R.of n (R.to n p)))) _
        rw [hR.of_to]
        unfold Rl; exact ⟨l, rfl, uns_rl hR _ _ _ _ hp hl⟩
      · cases h
    · cases h
  | int k => exact un1_rl hR (t := .int k) h hr
  | bool => exact un1_rl hR (t := .bool) h hr
  | str => exact un1_rl hR (t := .str) h hr
  | slice t => exact un1_rl hR (t := .slice t) h hr
omit hR in
theorem CapR_le {sz n : Nat} {c c' : Cp} {x : Cap} (h : capLe c c' = true) (hx : CapR ρ top sz n c x) : CapR ρ top sz n c' x := by
  cases c <;> cases c' <;> simp only [capLe, Bool.false_eq_true] at h <;> first | trivial | exact hx | exact .inl hx | exact .inr (.inl hx) | (rw [← nbeq_t h]; exact hx)
omit hR in
theorem castM_eq {k e k' e' : Ty} {m : List (Den R.T k' × Den R.T e')} {x : List (Den R.T k × Den R.T e)} (h : castM R m = some x) : k' = k ∧ e' = e ∧ HEq m x := by
  unfold castM at h
  split at h
  · rename_i e; obtain ⟨rfl, rfl⟩ := e; cases h; exact ⟨rfl, rfl, HEq.rfl⟩
  · cases h
omit hR in
theorem pkLst_rl {c : Cp} {t : Ty} {x : List (Den R.T t)} {tv : TV R.T} {v : V} (h : pkLst R c t tv = some x) (hr : Rl R ρ top tv v) : Rl R ρ top (.lst c t x) v := by
  unfold pkLst at h
  split at h
  · rename_i c' t' l
    cases hc : capLe c' c
    · rw [hc] at h; cases h
    · rw [hc, cond_true] at h
      obtain ⟨e, e2⟩ := castL_eq h; subst e; cases e2
      obtain ⟨c'', hv, hcc⟩ := hr.inv_lst
      unfold Rl; exact ⟨c'', hv, CapR_le hc hcc⟩
  · cases hc : capLe .nil c
    · rw [hc] at h; cases h
    · rw [hc, cond_true] at h; cases h
      unfold Rl; exact ⟨.nil, hr.inv_nils, CapR_le hc rfl⟩
  · cases h
mutual
theorem pk_rl : ∀ (k : Sk) (x : PayS R.T k) (tv : TV R.T) (v : V), pk R k tv = some x → Rl R ρ top tv v → Rl R ρ top (up R .any k x) v
  | .d t, x, tv, v, h, hr => unD_rl hR (by unfold pk at h; exact h) hr
  | .l c t, x, tv, v, h, hr => pkLst_rl (by unfold pk at h; exact h) hr
  | .agg l, x, tv, v, h, hr => by
    cases tv <;> first | (exact absurd (show none = some x from h) (by simp)) | skip
    rename_i cs
    obtain ⟨vs, rfl, hl⟩ := hr.inv_agg
    show Rl R ρ top (.agg (upL R .any l x)) _
    unfold Rl; exact ⟨vs, rfl, pkL_rl l x cs vs h hl⟩
  | .ref o off, x, tv, v, h, hr => by
    cases tv <;> first | (exact absurd (show none = some x from h) (by simp)) | skip
    rename_i p off'
    have h' : (bif Nat.beq p o && Nat.beq off' off then some () else none) = some x := h
    cases hb : (Nat.beq p o && Nat.beq off' off)
    · rw [hb] at h'; cases h'
    · rw [Bool.and_eq_true] at hb
      rw [nbeq_t hb.1, nbeq_t hb.2] at hr
      exact hr
  | .cref l off, x, tv, v, h, hr => by
    cases tv <;> first | (exact absurd (show none = some x from h) (by simp)) | skip
    rename_i cs off'
    have h' : (bif Nat.beq off' off then pkL R l cs else none) = some x := h
    cases hb : Nat.beq off' off
    · rw [hb] at h'; cases h'
    · rw [hb, cond_true] at h'
      rw [nbeq_t hb] at hr
      obtain ⟨vs, rfl, hl⟩ := hr.inv_cref
      show Rl R ρ top (.cref (upL R .any l x) off) _
      unfold Rl; exact ⟨vs, rfl, pkL_rl l x _ vs h' hl⟩
  | .mapr o, x, tv, v, h, hr => by
    cases tv <;> first | (exact absurd (show none = some x from h) (by simp)) | skip
    rename_i p
    have h' : (bif Nat.beq p o then some () else none) = some x := h
    cases hb : Nat.beq p o
    · rw [hb] at h'; cases h'
    · rw [nbeq_t hb] at hr
      exact hr
  | .mapc k e, x, tv, v, h, hr => by
    cases tv <;> first | (exact absurd (show none = some x from h) (by simp)) | skip
    rename_i k' e' m
    obtain ⟨e1, e2, e3⟩ := castM_eq (show castM R m = some x from h)
    subst e1; subst e2; cases e3
    exact hr
  | .fn f a b, x, tv, v, h, hr => by
    cases tv <;> first | (exact absurd (show none = some x from h) (by simp)) | skip
    rename_i f' a' b'
    have h' : (bif Nat.beq f' f then (match pkL R a a' with
      | some x => match pkL R b b' with
        | some y => some (x, y)
        | none => none
      | none => none) else none) = some x := h
    cases hb : Nat.beq f' f
    · rw [hb] at h'; cases h'
    · rw [hb, cond_true] at h'
      rw [nbeq_t hb] at hr
      obtain ⟨va, vb, rfl, ha, hbb⟩ := hr.inv_fn
      cases h1 : pkL R a a' with
      | none => simp only [h1] at h'; cases h'
      | some y =>
        cases h2 : pkL R b b' with
        | none => simp only [h1, h2] at h'; cases h'
        | some z =>
          simp only [h1, h2] at h'; cases h'
          show Rl R ρ top (.fn f (upL R .any a y) (upL R .any b z)) _
          unfold Rl; exact ⟨va, vb, rfl, pkL_rl a y _ va h1 ha, pkL_rl b z _ vb h2 hbb⟩
  | .nils, x, tv, v, h, hr => by
    cases tv <;> first | (exact absurd (show none = some x from h) (by simp)) | skip
    exact hr
  | .vw o t, x, tv, v, h, hr => by
    cases tv <;> first | (exact absurd (show none = some x from h) (by simp)) | skip
    rename_i p t'
    have h' : (bif Nat.beq p o then (if t' = t then some () else none) else none) = some x := h
    cases hb : Nat.beq p o
    · rw [hb] at h'; cases h'
    · rw [hb, cond_true] at h'
      split at h'
      · rename_i e
        rw [nbeq_t hb, e] at hr
        exact hr
      · cases h'
  | .undef, x, tv, v, h, hr => by
    cases tv <;> first | (exact absurd (show none = some x from h) (by simp)) | skip
    exact hr
theorem pkL_rl : ∀ (l : List Sk) (x : PayL R.T l) (cs : List (TV R.T)) (vs : List V), pkL R l cs = some x → RlL R ρ top cs vs → RlL R ρ top (upL R .any l x) vs
  | [], x, cs, vs, h, hr => by
    cases cs with
    | nil => rw [hr.inv_nil]; rfl
    | cons c cs => exact absurd (show none = some x from h) (by simp)
  | [k], x, cs, vs, h, hr => by
    cases cs with
    | nil => exact absurd (show none = some x from h) (by simp)
    | cons c cs =>
      cases cs with
      | nil =>
        obtain ⟨v, l, rfl, h1, h2⟩ := hr.inv_cons
        rw [h2.inv_nil]
        show RlL R ρ top [up R .any k x] _
        exact .cons' (pk_rl k x _ v h h1) rfl
      | cons c' cs => exact absurd (show none = some x from h) (by simp)
  | k :: k' :: l, x, cs, vs, h, hr => by
    cases cs with
    | nil => exact absurd (show none = some x from h) (by simp)
    | cons c cs =>
      have h' : (match pk R k c with
        | some x => match pkL R (k' :: l) cs with
          | some p => some (x, p)
          | none => none
        | none => none) = some x := h
      obtain ⟨v, vs, rfl, h1, h2⟩ := hr.inv_cons
      cases hu : pk R k c with
      | none => simp only [hu] at h'; cases h'
      | some y =>
        cases hs : pkL R (k' :: l) cs with
        | none => simp only [hu, hs] at h'; cases h'
        | some q =>
          simp only [hu, hs] at h'
          obtain rfl := Option.some.inj h'
          show RlL R ρ top (up R .any k y :: upL R .any (k' :: l) q) _
          exact .cons' (pk_rl k y _ v hu h1) (pkL_rl (k' :: l) q _ vs hs h2)
end
omit hR in
theorem pk_opt {k : Sk} {j : Nat} {w : Bool} {y : TV R.T} {x : PayS R.T k} (h : pk R k (.opt j w y) = some x) : False := by
  cases k with
  | d t => cases t <;> (unfold pk at h; cases h)
  | _ => unfold pk at h; cases h
theorem RlS.pk {k : Sk} {x : PayS R.T k} {tv : TV R.T} {v : V} (h : pk R k tv = some x) (hr : RlS fr ρ top tv v) : Rl R ρ top (up R .any k x) v := by
  cases tv <;> first | exact pk_rl hR _ _ _ _ h hr | exact (pk_opt h).elim
theorem pkSl_rl (h : ImgR ρ b st fr σ) : ∀ (l : List (Nat × Sk)) (x : PaySl R.T l), pkSl R st.fr l = some x → ∀ i v, look (upSl R l x) i = some v → Rl R ρ σ.top v (fr.tm i)
  | [], x, hx, i, v, hv => by cases hv
  | [(j, k)], x, hx, i, v, hv => by
    unfold pkSl at hx
    split at hx
    · rename_i y hy
      by_cases e : i = j
      · subst e
        have hv' : look [(i, up R .any k x)] i = some v := hv
        rw [look_cons_eq] at hv'; cases hv'
        exact RlS.pk hR hx (h.fr _ _ hy)
      · have hv' : look [(j, up R .any k x)] i = some v := hv
        rw [look_cons_ne _ _ e] at hv'; cases hv'
    · cases hx
  | (j, k) :: q :: l, x, hx, i, v, hv => by
    unfold pkSl at hx
    split at hx
    · rename_i y hy
      cases hu : pk R k y with
      | none => simp only [hu] at hx; cases hx
      | some z =>
        cases hs : pkSl R st.fr (q :: l) with
        | none => simp only [hu, hs] at hx; cases hx
        | some p =>
          simp only [hu, hs] at hx
          obtain rfl := Option.some.inj hx
          have hv' : look ((j, up R .any k z) :: upSl R (q :: l) p) i = some v := hv
          by_cases e : i = j
          · subst e
            rw [look_cons_eq] at hv'; cases hv'
            exact RlS.pk hR hu (h.fr _ _ hy)
          · rw [look_cons_ne _ _ e] at hv'
            exact pkSl_rl h (q :: l) p hs i v hv'
    · cases hx
theorem pkO_rl {o : Nat} {k : ObSk} {x : PayO R.T k} {y : Ob R.T} (hx : pkO R k y = some x) (hy : ObR ρ σ o y) : ObR ρ σ o (upO R k x) := by
  cases k with
  | cells l =>
    cases y with
    | cells cs =>
      obtain ⟨s, vs, h1, h2, h3⟩ := hy
      exact ⟨s, vs, h1, h2, pkL_rl hR l x _ vs hx h3⟩
    | map k e m => cases hx
    | smap _ _ => cases hx
    | arr _ _ => cases hx
    | gone => cases hx
    | ro b => cases hx
  | st n =>
    cases y with
    | cells cs =>
      obtain ⟨s, vs, h1, h2, h3⟩ := hy
      obtain ⟨l, e, hl⟩ := (unD_rl hR (t := .st n) (show unD R (.st n) (.agg cs) = some x from hx) (v := .agg vs) ⟨vs, rfl, h3⟩).inv_agg
      cases e
      exact ⟨s, vs, h1, h2, hl⟩
    | map k e m => cases hx
    | smap _ _ => cases hx
    | arr _ _ => cases hx
    | gone => cases hx
    | ro b => cases hx
  | arr t =>
    cases y with
    | arr t' l =>
      obtain ⟨e, e2⟩ := castL_eq hx
      subst e; cases e2
      exact hy
    | cells cs => cases hx
    | map _ _ _ => cases hx
    | smap _ _ => cases hx
    | gone => cases hx
    | ro b => cases hx
  | map k e =>
    cases y with
    | map k' e' m =>
      obtain ⟨e1, e2, e3⟩ := castM_eq hx
      subst e1; subst e2; cases e3
      exact hy
    | cells cs => cases hx
    | smap _ _ => cases hx
    | arr _ _ => cases hx
    | gone => cases hx
    | ro b => cases hx
theorem pkOs_rl (h : ImgR ρ b st fr σ) : ∀ (l : List (Nat × ObSk)) (x : PayOs R.T l), pkOs R st.ob l = some x → ∀ i v, look (upOs R l x) i = some v → ObR ρ σ i v
  | [], x, hx, i, v, hv => by cases hv
  | [(j, k)], x, hx, i, v, hv => by
    unfold pkOs at hx
    split at hx
    · rename_i y hy
      by_cases e : i = j
      · subst e
        have hv' : look [(i, upO R k x)] i = some v := hv
        rw [look_cons_eq] at hv'; cases hv'
        exact pkO_rl hR hx (h.ob _ _ hy)
      · have hv' : look [(j, upO R k x)] i = some v := hv
        rw [look_cons_ne _ _ e] at hv'; cases hv'
    · cases hx
  | (j, k) :: q :: l, x, hx, i, v, hv => by
    unfold pkOs at hx
    split at hx
    · rename_i y hy
      cases hu : pkO R k y with
      | none => simp only [hu] at hx; cases hx
      | some z =>
        cases hs : pkOs R st.ob (q :: l) with
        | none => simp only [hu, hs] at hx; cases hx
        | some p =>
          simp only [hu, hs] at hx
          obtain rfl := Option.some.inj hx
          have hv' : look ((j, upO R k z) :: upOs R (q :: l) p) i = some v := hv
          by_cases e : i = j
          · subst e
            rw [look_cons_eq] at hv'; cases hv'
            exact pkO_rl hR hu (h.ob _ _ hy)
          · rw [look_cons_ne _ _ e] at hv'
            exact pkOs_rl h (q :: l) p hs i v hv'
    · cases hx
theorem ImgR.pack (h : ImgR ρ b st fr σ) {s : Shape} {p : Pay R.T s} (hp : pack R st s = some p) : ImgR ρ b (unpack R s p) fr σ := by
  obtain ⟨sl, ob⟩ := s
  cases ob with
  | nil =>
    have hp' : pkSl R st.fr sl = some p := hp
    exact { h with fr := fun i v hv => .of (pkSl_rl hR h sl p hp' i v hv), ob := fun i v hv => by cases hv }
  | cons o os =>
    unfold Aq.pack at hp
    cases hu : pkSl R st.fr sl with
    | none => simp only [hu] at hp; cases hp
    | some x =>
      cases hs : pkOs R st.ob (o :: os) with
      | none => simp only [hu, hs] at hp; cases hp
      | some y =>
        simp only [hu, hs] at hp
        obtain rfl := Option.some.inj hp
        exact { h with fr := fun i v hv => .of (pkSl_rl hR h sl x hu i v hv), ob := fun i v hv => pkOs_rl hR h (o :: os) y hs i v hv }
omit hR in
theorem exEq_t {e x : Ex} (h : exEq e x = true) : e = x := by
  cases e <;> cases x <;> simp only [exEq, Bool.false_eq_true] at h <;> first | rfl | rw [nbeq_t h]
omit hR in
def RO (st : MS R.T) (o : Nat) : Prop := ∀ x, look st.ob o = some x → isRo x = true
omit hR in
theorem pkO_ro {k : ObSk} {x : PayO R.T k} {y : Ob R.T} (hx : pkO R k y = some x) (hy : isRo y = true) : False := by
  cases y with
  | cells _ => cases hy
  | map _ _ _ => cases hy
  | smap _ _ => cases hy
  | arr _ _ => cases hy
  | gone => cases k <;> cases hx
  | ro b => cases k <;> cases hx
omit hR in
theorem pkOs_none {i : Nat} (hr : RO st i) : ∀ (l : List (Nat × ObSk)) (x : PayOs R.T l), pkOs R st.ob l = some x → look (upOs R l x) i = none
  | [], x, hx => rfl
  | [(j, k)], x, hx => by
    unfold pkOs at hx
    split at hx
    · rename_i y hy
      by_cases e : i = j
      · subst e; exact (pkO_ro hx (hr _ hy)).elim
      · show look [(j, upO R k x)] i = none
        rw [look_cons_ne _ _ e]; rfl
    · cases hx
  | (j, k) :: q :: l, x, hx => by
    unfold pkOs at hx
    split at hx
    · rename_i y hy
      cases hu : pkO R k y with
      | none => simp only [hu] at hx; cases hx
      | some z =>
        cases hs : pkOs R st.ob (q :: l) with
        | none => simp only [hu, hs] at hx; cases hx
        | some p =>
          simp only [hu, hs] at hx
          obtain rfl := Option.some.inj hx
          show look ((j, upO R k z) :: upOs R (q :: l) p) i = none
          by_cases e : i = j
          · subst e; exact (pkO_ro hu (hr _ hy)).elim
          · rw [look_cons_ne _ _ e]; exact pkOs_none hr (q :: l) p hs
    · cases hx
omit hR in
theorem pack_none {s : Shape} {p : Pay R.T s} {i : Nat} (hp : Aq.pack R st s = some p) (hr : RO st i) : look (unpack R s p).ob i = none := by
  obtain ⟨sl, ob⟩ := s
  cases ob with
  | nil => rfl
  | cons o os =>
    unfold Aq.pack at hp
    cases hu : pkSl R st.fr sl with
    | none => simp only [hu] at hp; cases hp
    | some x =>
      cases hs : pkOs R st.ob (o :: os) with
      | none => simp only [hu, hs] at hp; cases hp
      | some y =>
        simp only [hu, hs] at hp
        obtain rfl := Option.some.inj hp
        exact pkOs_none hr (o :: os) y hs
omit hR
theorem look_append {α : Type} : ∀ (l m : List (Nat × α)) (i : Nat), look (l ++ m) i = match look l i with | some x => some x | none => look m i
  | [], m, i => rfl
  | (j, x) :: l, m, i => by
    show (bif Nat.beq j i then some x else look (l ++ m) i) = match (bif Nat.beq j i then some x else look l i) with | some x => some x | none => look m i
    cases Nat.beq j i
    · exact look_append l m i
    · rfl
theorem ImgR.over {st' : MS R.T} (h : ImgR ρ b st fr σ) (h' : ImgR ρ b st' fr σ) : ImgR ρ b (st.over st') fr σ := { h with
  fr := fun i v hv => by
    have hv' : look (st.fr ++ st'.fr) i = some v := hv
    rw [look_append] at hv'
    split at hv'
    · rename_i x hx; cases hv'; exact h.fr _ _ hx
    · exact h'.fr _ _ hv'
  ob := fun i v hv => by
    have hv' : look (st.ob ++ st'.ob) i = some v := hv
    rw [look_append] at hv'
    split at hv'
    · rename_i x hx; cases hv'; exact h.ob _ _ hx
    · exact h'.ob _ _ hv' }
theorem look_selF {α : Type} {p : Nat → α → Bool} {f : α → α} {l : List (Nat × α)} : ∀ {is : List Nat} {i : Nat} {y : α}, look (selF p f l is) i = some y → ∃ x, look l i = some x ∧ p i x = true ∧ y = f x
  | [], i, y, h => by cases h
  | j :: is, i, y, h => by
    unfold selF at h
    split at h
    · rename_i x hx
      cases hp : p j x
      · rw [hp] at h; exact look_selF h
      · rw [hp, cond_true] at h
        by_cases e : i = j
        · subst e; rw [look_cons_eq] at h; cases h; exact ⟨x, hx, hp, rfl⟩
        · rw [look_cons_ne _ _ e] at h; exact look_selF h
    · exact look_selF h
mutual
theorem Rl.solid {ρ' : Rho} {top' : Nat → Nat} {W : List Nat} (ho : ∀ o, memN o W = false → ρ'.ob o = ρ.ob o ∧ ρ'.ln o = ρ.ln o) : ∀ (x : TV R.T) (v : V), Aq.solid W x = true → Rl R ρ top x v → Rl R ρ' top' x v
  | .lst c t l, v, hs, h => by
    obtain ⟨c', hv, hc⟩ := h
    refine ⟨c', hv, ?_⟩
    cases c <;> first | exact hc | (simp [Aq.solid] at hs; done)
  | .ref o off, v, hs, h => by
    obtain ⟨s, h1, h2⟩ := h
    unfold Aq.solid at hs
    exact ⟨s, by rw [(ho o (by simpa using hs)).1]; exact h1, h2⟩
  | .mapr o, v, hs, h => by
    obtain ⟨s, h1, h2⟩ := h
    unfold Aq.solid at hs
    exact ⟨s, by rw [(ho o (by simpa using hs)).1]; exact h1, h2⟩
  | .vw o t, v, hs, h => by
    unfold Aq.solid at hs
    obtain ⟨k1, k2⟩ := ho o (by simpa using hs)
    rcases h with ⟨s, h1, h2⟩ | ⟨h1, h2⟩
    · exact .inl ⟨s, by rw [k1]; exact h1, by rw [k2]; exact h2⟩
    · exact .inr ⟨by rw [k2]; exact h1, h2⟩
  | .eref o t i off, v, hs, h => by
    obtain ⟨s, h1, h2⟩ := h
    unfold Aq.solid at hs
    exact ⟨s, by rw [(ho o (by simpa using hs)).1]; exact h1, h2⟩
  | .agg cs, v, hs, h => by obtain ⟨l, hv, hl⟩ := h; exact ⟨l, hv, RlL.solid ho cs l (by unfold Aq.solid at hs; exact hs) hl⟩
  | .tup cs, v, hs, h => by obtain ⟨l, hv, hl⟩ := h; exact ⟨l, hv, RlL.solid ho cs l (by unfold Aq.solid at hs; exact hs) hl⟩
  | .cref cs off, v, hs, h => by obtain ⟨l, hv, hl⟩ := h; exact ⟨l, hv, RlL.solid ho cs l (by unfold Aq.solid at hs; exact hs) hl⟩
  | .fn f a b, v, hs, h => by
    obtain ⟨a', b', hv, ha, hb⟩ := h
    unfold Aq.solid at hs
    rw [Bool.and_eq_true] at hs
    exact ⟨a', b', hv, RlL.solid ho a a' hs.1 ha, RlL.solid ho b b' hs.2 hb⟩
  | .opt _ _ _, _, _, h => h.elim
  | .int _ _, _, _, h => h
  | .bool _, _, _, h => h
  | .blit _, _, _, h => h
  | .str _, _, _, h => h
  | .nilp, _, _, h => h
  | .nilf, _, _, h => h
  | .nilm, _, _, h => h
  | .nili, _, _, h => h
  | .nils, _, _, h => h
  | .mapc _ _ _, _, _, h => h
  | .undef, _, _, h => h
  | .gone, _, _, h => trivial
theorem RlL.solid {ρ' : Rho} {top' : Nat → Nat} {W : List Nat} (ho : ∀ o, memN o W = false → ρ'.ob o = ρ.ob o ∧ ρ'.ln o = ρ.ln o) : ∀ (x : List (TV R.T)) (v : List V), solidL W x = true → RlL R ρ top x v → RlL R ρ' top' x v
  | [], _, _, h => h
  | x :: xs, _, hs, ⟨v, vs, e, h1, h2⟩ => by
    unfold solidL at hs
    rw [Bool.and_eq_true] at hs
    exact ⟨v, vs, e, Rl.solid ho x v hs.1 h1, RlL.solid ho xs vs hs.2 h2⟩
end
theorem solid_nopt {W : List Nat} {x : TV R.T} {v : V} (hs : Aq.solid W x = true) (h : RlS fr ρ top x v) : Rl R ρ top x v := by
  cases x <;> first | exact h | (simp [Aq.solid] at hs; done)
structure KpO (nr : Bool) (o : Nat) (st : MS R.T) (ρ : Rho) (σ : Sig) (st' : MS R.T) (ρ' : Rho) (σ' : Sig) : Prop where
  ob : ρ'.ob o = ρ.ob o
  ln : ρ'.ln o = ρ.ln o
  om : ρ'.om = ρ.om
  nx : σ.next ≤ σ'.next
  lp : ∀ l, l < σ.next → σ'.loops l = σ.loops l
  dp : nr = true → ∀ a o, 1 < a → σ'.obj (a, o) = σ.obj (a, o)
  ro : RO st o → RO st' o ∧ ∀ s, σ'.cellsAt (1, o) s = σ.cellsAt (1, o) s ∧ σ'.mapAt (1, o) s = σ.mapAt (1, o) s
structure Kp (nr : Bool) (W : List Nat) (st : MS R.T) (fr : Fr) (σ : Sig) (ρ : Rho) (st' : MS R.T) (fr' : Fr) (σ' : Sig) (ρ' : Rho) : Prop where
  fr : ∀ i, memN i W = false → fr'.tm i = fr.tm i
  ob : ∀ o, memN o W = false → KpO nr o st ρ σ st' ρ' σ'
section
variable {nr : Bool}
theorem set_deep {o s a' o' : Nat} {x : AObj} (h : 1 < a') : (σ.setObj (1, o) s x).obj (a', o') = σ.obj (a', o') := by
  unfold Sig.setObj upd
  dsimp only
  rw [if_neg]
  intro e
  have := congrArg Prod.fst e
  dsimp only at this
  omega
theorem del_deep {o a' o' : Nat} (h : 1 < a') : (σ.delObj (1, o)).obj (a', o') = σ.obj (a', o') := by
  unfold Sig.delObj upd
  dsimp only
  rw [if_neg]
  intro e
  have := congrArg Prod.fst e
  dsimp only at this
  omega
theorem KpO.refl {o : Nat} : KpO nr o st ρ σ st ρ σ := ⟨rfl, rfl, rfl, Nat.le_refl _, fun _ _ => rfl, fun _ _ _ _ => rfl, fun h => ⟨h, fun _ => ⟨rfl, rfl⟩⟩⟩
theorem KpO.trans {o : Nat} {st' st'' : MS R.T} {ρ' ρ'' : Rho} {σ' σ'' : Sig} (h : KpO nr o st ρ σ st' ρ' σ') (g : KpO nr o st' ρ' σ' st'' ρ'' σ'') : KpO nr o st ρ σ st'' ρ'' σ'' :=
  ⟨g.ob.trans h.ob, g.ln.trans h.ln, g.om.trans h.om, Nat.le_trans h.nx g.nx, fun l hl => (g.lp l (Nat.lt_of_lt_of_le hl h.nx)).trans (h.lp l hl), fun hn a o ha => (g.dp hn a o ha).trans (h.dp hn a o ha), fun hr => ⟨(g.ro (h.ro hr).1).1, fun s => ⟨((g.ro (h.ro hr).1).2 s).1.trans ((h.ro hr).2 s).1, ((g.ro (h.ro hr).1).2 s).2.trans ((h.ro hr).2 s).2⟩⟩⟩
theorem Kp.refl {W : List Nat} : Kp nr W st fr σ ρ st fr σ ρ := ⟨fun _ _ => rfl, fun _ _ => .refl⟩
theorem Kp.trans {W : List Nat} {st' st'' : MS R.T} {fr' fr'' : Fr} {ρ' ρ'' : Rho} {σ' σ'' : Sig} (h : Kp nr W st fr σ ρ st' fr' σ' ρ') (g : Kp nr W st' fr' σ' ρ' st'' fr'' σ'' ρ'') : Kp nr W st fr σ ρ st'' fr'' σ'' ρ'' :=
  ⟨fun i hi => (g.fr i hi).trans (h.fr i hi), fun o ho => (h.ob o ho).trans (g.ob o ho)⟩
theorem Kp.mono {W W' : List Nat} {st' : MS R.T} {fr' : Fr} {ρ' : Rho} {σ' : Sig} (h : Kp nr W st fr σ ρ st' fr' σ' ρ') (hw : ∀ i, memN i W' = false → memN i W = false) : Kp nr W' st fr σ ρ st' fr' σ' ρ' :=
  ⟨fun i hi => h.fr i (hw i hi), fun o ho => h.ob o (hw o ho)⟩
theorem memN_app : ∀ (i : Nat) (l m : List Nat), memN i (l ++ m) = (memN i l || memN i m)
  | i, [], m => rfl
  | i, j :: l, m => by show (Nat.beq i j || memN i (l ++ m)) = _; rw [memN_app i l m, ← Bool.or_assoc]; rfl
theorem ObR_solid {o : Nat} {ρ' : Rho} {σ' : Sig} {W : List Nat} (ho : ∀ o, memN o W = false → ρ'.ob o = ρ.ob o ∧ ρ'.ln o = ρ.ln o) (hm : memN o W = false) (hc : ∀ s, σ'.cellsAt (1, o) s = σ.cellsAt (1, o) s ∧ σ'.mapAt (1, o) s = σ.mapAt (1, o) s) : ∀ {x : Ob R.T}, solidO W x = true → ObR ρ σ o x → ObR ρ' σ' o x
  | .cells cs, hs, h => by
    obtain ⟨s, l, h1, h2, h3⟩ := h
    exact ⟨s, l, by rw [(ho o hm).1]; exact h1, by rw [(hc s).1]; exact h2, RlL.solid ho cs l hs h3⟩
  | .map k e m, _, h => by obtain ⟨s, h1, h2⟩ := h; exact ⟨s, by rw [(ho o hm).1]; exact h1, by rw [(hc s).2]; exact h2⟩
  | .smap ks vs, hs, h => by
    obtain ⟨s, k, l, h1, h2, h3, h4⟩ := h
    have hs' : (solidL W ks && solidL W vs) = true := hs
    rw [Bool.and_eq_true] at hs'
    exact ⟨s, k, l, by rw [(ho o hm).1]; exact h1, by rw [(hc s).2]; exact h2, RlL.solid ho ks k hs'.1 h3, RlL.solid ho vs l hs'.2 h4⟩
  | .arr t l, _, h => by
    refine ⟨h.1.trans (ho o hm).2.symm, ?_⟩
    rcases h.2 with h | ⟨s, cs, h1, h2, h3⟩
    · exact .inl ⟨h.1, (ho o hm).1.trans h.2⟩
    · exact .inr ⟨s, cs, by rw [(ho o hm).1]; exact h1, by rw [(hc s).1]; exact h2, flat_any l cs h3⟩
  | .gone, _, _ => trivial
  | .ro b, hs, h => ObR_solid ho hm hc (x := b) hs h
theorem ImgR.base {W K O : List Nat} {mark : Ob R.T → Ob R.T} (hmark : ∀ ρ σ o x, ObR ρ σ o x → ObR (R := R) ρ σ o (mark x)) {st0 st' st'' : MS R.T} {fr' : Fr} {ρ' : Rho} {σ' : Sig} {b' : Nat} (h : ImgR ρ b st fr σ) (hk : Kp nr W st0 fr σ ρ st' fr' σ' ρ') (h' : ImgR ρ' b' st'' fr' σ')
    (hro : ∀ o x, look st.ob o = some x → memN o W = false → memN o O = true → solidO W x = true → RO st0 o) : ImgR ρ' b' (Aq.base W K O mark st) fr' σ' := { h' with
  fr := fun i v hv => by
    obtain ⟨x, h1, h2, rfl⟩ := look_selF hv
    rw [Bool.and_eq_true, Bool.not_eq_true'] at h2
    have := solid_nopt h2.2 (h.fr _ _ h1)
    rw [hk.fr i h2.1]
    exact .of (Rl.solid (fun o ho => ⟨(hk.ob o ho).ob, (hk.ob o ho).ln⟩) _ _ h2.2 this)
  ob := fun o y hy => by
    have hO : memN o O = true := by
      have : ∀ {is : List Nat} {y : Ob R.T}, look (selF (fun o b => !(memN o W) && solidO W b) mark st.ob is) o = some y → memN o is = true := by
        intro is
        induction is with
        | nil => intro y h; cases h
        | cons j is ih =>
          intro y h
          show (Nat.beq o j || memN o is) = true
          unfold selF at h
          by_cases e : o = j
          · subst e; rw [Nat.beq_refl]; rfl
          · split at h
            · rename_i x hx
              cases hp : (!(memN j W) && solidO W x)
              · rw [hp] at h; rw [ih h, Bool.or_true]
              · rw [hp, cond_true, look_cons_ne _ _ e] at h; rw [ih h, Bool.or_true]
            · rw [ih h, Bool.or_true]
      exact this hy
    obtain ⟨x, h1, h2, rfl⟩ := look_selF hy
    rw [Bool.and_eq_true, Bool.not_eq_true'] at h2
    have hc := ((hk.ob o h2.1).ro (hro o x h1 h2.1 hO h2.2)).2
    exact hmark _ _ _ _ (ObR_solid (fun o ho => ⟨(hk.ob o ho).ob, (hk.ob o ho).ln⟩) h2.1 hc h2.2 (h.ob _ _ h1)) }
theorem RO_over_base {W K O : List Nat} {st' : MS R.T} {o : Nat} {x : Ob R.T} (h1 : look st.ob o = some x) (h2 : memN o W = false) (h3 : memN o O = true) (h4 : solidO W x = true) : RO ((Aq.base W K O .ro st).over st') o := by
  intro y hy
  have hl : ∃ z, look (selF (fun o b => !(memN o W) && solidO W b) Ob.ro st.ob O) o = some (.ro z) := by
    have : ∀ is : List Nat, memN o is = true → ∃ z, look (selF (fun o b => !(memN o W) && solidO W b) Ob.ro st.ob is) o = some (.ro z) := by
      intro is
      induction is with
      | nil => intro h; cases h
      | cons j is ih =>
        intro h
        by_cases e : o = j
        · subst e
          unfold selF
          rw [h1]
          dsimp only
          rw [h2, h4]
          exact ⟨x, look_cons_eq _ _ _⟩
        · have h' : (Nat.beq o j || memN o is) = true := h
          rw [nbeq_ne e, Bool.false_or] at h'
          obtain ⟨z, hz⟩ := ih h'
          refine ⟨z, ?_⟩
          unfold selF
          split
          · rename_i w hw
            cases (!(memN j W) && solidO W w)
            · exact hz
            · rw [cond_true, look_cons_ne _ _ e]; exact hz
          · exact hz
    exact this O h3
  obtain ⟨z, hz⟩ := hl
  have hy' : look (selF (fun o b => !(memN o W) && solidO W b) Ob.ro st.ob O ++ st'.ob) o = some y := hy
  rw [look_append, hz] at hy'
  cases hy'; rfl
theorem isRo_wk {t : Nat} : ∀ {x : Ob R.T}, isRo x = true → isRo (Ob.wk t x) = true
  | .ro _, _ => rfl
  | .gone, _ => rfl
  | .cells _, h => by cases h
  | .map _ _ _, h => by cases h
  | .smap _ _, h => by cases h
  | .arr _ _, h => by cases h
theorem isRo_kill {t : Nat} {x : Ob R.T} (h : isRo x = true) : isRo (Ob.kill t x) = true := by
  unfold Ob.kill
  cases Ob.ment t x
  · exact h
  · rfl
theorem KpO.wk {p t s n : Nat} : KpO nr p st ρ σ (st.wk t) (ρ.setTk t s) (σ.setTop s n) := ⟨rfl, rfl, rfl, Nat.le_refl _, fun _ _ => rfl, fun _ _ _ _ => rfl, fun hr => ⟨fun x hx => by
  have hx' : look (mapF (Ob.wk t) st.ob) p = some x := hx
  rw [look_mapF, Option.map_eq_some_iff] at hx'
  obtain ⟨z, hz, rfl⟩ := hx'
  exact isRo_wk (hr z hz), fun _ => ⟨rfl, rfl⟩⟩⟩
theorem KpO.set {o q s : Nat} {x y : Ob R.T} {a : AObj} (hl : look st.ob o = some y) (hy : isRo y = false) : KpO nr q st ρ σ (st.set o x) ρ (σ.setObj (1, o) s a) := ⟨rfl, rfl, rfl, Nat.le_refl _, fun _ _ => rfl, fun _ _ _ ha => set_deep ha, fun hr => by
  have hne : q ≠ o := by rintro rfl; rw [hr y hl] at hy; cases hy
  refine ⟨fun z hz => ?_, fun s' => ⟨cells_ne1 _ _ _ _ hne, map_ne1 _ _ _ _ hne⟩⟩
  have hz' : look ((o, x) :: delF o st.ob) q = some z := hz
  rw [look_cons_ne _ _ hne, look_delF hne] at hz'
  exact hr z hz'⟩
theorem KpO.new {o q s : Nat} {x : Ob R.T} {a : AObj} (hne : q ≠ o) : KpO nr q st ρ σ (st.new o x) (ρ.setOb o s) (σ.setObj (1, o) s a) := ⟨by simp [Rho.setOb, upd, hne], rfl, rfl, Nat.le_refl _, fun _ _ => rfl, fun _ _ _ ha => set_deep ha, fun hr => by
  refine ⟨fun z hz => ?_, fun s' => ⟨cells_ne1 _ _ _ _ hne, map_ne1 _ _ _ _ hne⟩⟩
  have hz' : look ((o, x) :: mapF (Ob.kill o) (delF o st.ob)) q = some z := hz
  rw [look_cons_ne _ _ hne, look_mapF, look_delF hne, Option.map_eq_some_iff] at hz'
  obtain ⟨w, hw, rfl⟩ := hz'
  exact isRo_kill (hr w hw)⟩
theorem putO_ob {d : Option Nat} {v : TV R.T} : (st.putO d v).ob = st.ob := by cases d <;> rfl
theorem KpO.same {st' : MS R.T} {o : Nat} (h : st'.ob = st.ob) : KpO nr o st ρ σ st' ρ σ := ⟨rfl, rfl, rfl, Nat.le_refl _, fun _ _ => rfl, fun _ _ _ _ => rfl, fun hr => ⟨fun x hx => hr x (by rw [← h]; exact hx), fun _ => ⟨rfl, rfl⟩⟩⟩
theorem KpO.congr {st' st'' : MS R.T} {ρ' : Rho} {σ' : Sig} {o : Nat} (h : KpO nr o st ρ σ st' ρ' σ') (e : st''.ob = st'.ob) : KpO nr o st ρ σ st'' ρ' σ' := ⟨h.ob, h.ln, h.om, h.nx, h.lp, h.dp, fun hr => ⟨fun x hx => (h.ro hr).1 x (by rw [← e]; exact hx), (h.ro hr).2⟩⟩
theorem KpO.from {st' st'' : MS R.T} {ρ' : Rho} {σ' : Sig} {o : Nat} (h : KpO nr o st ρ σ st' ρ' σ') (e : st.ob = st''.ob) : KpO nr o st'' ρ σ st' ρ' σ' := ⟨h.ob, h.ln, h.om, h.nx, h.lp, h.dp, fun hr => h.ro fun x hx => hr x (by rw [← e]; exact hx)⟩
theorem Kp.op {d : Option Nat} {W : List Nat} {y : V} {st' : MS R.T} {ρ' : Rho} {σ' : Sig} (hd : ∀ p, memN p W = false → d ≠ some p) (h : ∀ p, d ≠ some p → KpO nr p st ρ σ st' ρ' σ') : Kp nr W st fr σ ρ st' (fr.put d y) σ' ρ' :=
  ⟨fun i hi => by
    cases d with
    | none => rfl
    | some j => exact set_ne _ _ (by have := hd i hi; simp at this; simpa using fun e => this e.symm), fun p hp => h p (hd p hp)⟩
theorem RO_base {W K O : List Nat} {st' : MS R.T} {o : Nat} (h : look st'.ob o = none) : RO ((Aq.base W K O .ro st).over st') o := by
  intro y hy
  have hy' : look (selF (fun o b => !(memN o W) && solidO W b) Ob.ro st.ob O ++ st'.ob) o = some y := hy
  rw [look_append] at hy'
  split at hy'
  · rename_i x hx
    cases hy'
    obtain ⟨z, _, _, rfl⟩ := look_selF hx
    rfl
  · rw [h] at hy'; cases hy'
theorem RO_over {st' : MS R.T} {o : Nat} (h1 : RO st o) (h2 : RO st' o) : RO (st.over st') o := by
  intro y hy
  have hy' : look (st.ob ++ st'.ob) o = some y := hy
  rw [look_append] at hy'
  split at hy'
  · rename_i x hx; cases hy'; exact h1 _ hx
  · exact h2 _ hy'
theorem RO_base_of {W K O : List Nat} {mark : Ob R.T → Ob R.T} {o : Nat} (hm : ∀ x, isRo x = true → isRo (mark x) = true) (h : RO st o) : RO (Aq.base W K O mark st) o := by
  intro y hy
  obtain ⟨x, h1, _, rfl⟩ := look_selF hy
  exact hm _ (h _ h1)
theorem finish {W K O : List Nat} {H S' st'' : MS R.T} {fr' : Fr} {ρ' : Rho} {σ' : Sig} {b' : Nat} (hi : ImgR ρ b st fr σ) (hH : ∀ o, memN o W = false → RO st o → RO H o) (hro : ∀ o x, look st.ob o = some x → memN o W = false → memN o O = true → solidO W x = true → RO H o)
    (hk : Kp nr W H fr σ ρ S' fr' σ' ρ') (hi' : ImgR ρ' b' st'' fr' σ') (hn : ∀ o, memN o W = false → RO H o → look st''.ob o = none) :
    ImgR ρ' b' ((Aq.base W K O (fun b => b) st).over st'') fr' σ' ∧ Kp nr W st fr σ ρ ((Aq.base W K O (fun b => b) st).over st'') fr' σ' ρ' := by
  have hk2 : Kp nr W H fr σ ρ st'' fr' σ' ρ' := ⟨hk.fr, fun o ho => ⟨(hk.ob o ho).ob, (hk.ob o ho).ln, (hk.ob o ho).om, (hk.ob o ho).nx, (hk.ob o ho).lp, (hk.ob o ho).dp, fun hr => ⟨fun x hx => (by rw [hn o ho hr] at hx; cases hx), ((hk.ob o ho).ro hr).2⟩⟩⟩
  refine ⟨(hi.base (fun _ _ _ _ h => h) hk2 hi' hro).over hi', hk.fr, fun o ho => ⟨(hk.ob o ho).ob, (hk.ob o ho).ln, (hk.ob o ho).om, (hk.ob o ho).nx, (hk.ob o ho).lp, (hk.ob o ho).dp, fun hr => ⟨?_, ((hk.ob o ho).ro (hH o ho hr)).2⟩⟩⟩
  exact RO_over (RO_base_of (fun _ h => h) hr) fun x hx => (by rw [hn o ho (hH o ho hr)] at hx; cases hx)
theorem memN_big : ∀ W : List Nat, ∃ n, ∀ m, n ≤ m → memN m W = false
  | [] => ⟨0, fun _ _ => rfl⟩
  | i :: W => by
    obtain ⟨n, hn⟩ := memN_big W
    refine ⟨n + i + 1, fun m hm => ?_⟩
    show (Nat.beq m i || memN m W) = false
    rw [nbeq_ne (by omega), hn m (by omega)]; rfl
theorem Kp.om {W : List Nat} {st' : MS R.T} {fr' : Fr} {ρ' : Rho} {σ' : Sig} (h : Kp nr W st fr σ ρ st' fr' σ' ρ') : ρ'.om = ρ.om := by
  obtain ⟨n, hn⟩ := memN_big W
  exact (h.ob n (hn n (Nat.le_refl _))).om
theorem isE_rl {x : TV R.T} {v : V} (hx : isE x = true) (h : RlS fr ρ top x v) : v = .lst .nil [] ∨ v = .lst .full [] := by
  cases x <;> first | (cases hx; done) | skip
  · exact .inl (Rl.inv_nils (R := R) (show Rl R ρ top .nils v from h))
  · rename_i c t l
    obtain ⟨c', hv, hc⟩ := Rl.inv_lst (R := R) (show Rl R ρ top (.lst c t l) v from h)
    cases c <;> first | (cases hx; done) | skip
    · have : l = [] := by simpa [isE] using hx
      subst this
      have hc' : c' = .nil := hc
      rw [hc'] at hv; exact .inl hv
    · have : l = [] := by simpa [isE] using hx
      subst this
      have hc' : c' = .full := hc
      rw [hc'] at hv; exact .inr hv
theorem prepS_rl {W : List Nat} : ∀ (l : List (Nat × Sk)) (st : MS R.T) (ρ : Rho), ImgR ρ b st fr σ → ∃ ρ', ImgR ρ' b (prepS W l st) fr σ ∧ Kp nr W st fr σ ρ (prepS W l st) fr σ ρ'
  | [], st, ρ, h => ⟨ρ, h, .refl⟩
  | (i, k) :: l, st, ρ, h => by
    have other : prepS W ((i, k) :: l) st = prepS W l st → ∃ ρ', ImgR ρ' b (prepS W ((i, k) :: l) st) fr σ ∧ Kp nr W st fr σ ρ (prepS W ((i, k) :: l) st) fr σ ρ' := fun e => by
      rw [e]; exact prepS_rl l st ρ h
    cases k <;> first | exact other rfl | skip
    rename_i o t
    unfold prepS
    split
    · rename_i v hv
      cases hb : (isE v && memN o W)
      · exact prepS_rl l st ρ h
      · rw [cond_true]
        rw [Bool.and_eq_true] at hb
        have hg := h.ghost o t
        have hE := isE_rl hb.1 (h.fr _ _ hv)
        have himg : ImgR (ρ.gh o) b (⟨(i, .vw o t) :: (st.new o (.arr t [])).fr, (st.new o (.arr t [])).ob⟩ : MS R.T) fr σ := { hg with
          fr := fun j y hy => by
            by_cases e : j = i
            · subst e
              have hy' : look ((j, TV.vw o t) :: (st.new o (.arr t [])).fr) j = some y := hy
              rw [look_cons_eq] at hy'; cases hy'
              exact .of (by unfold Rl; exact .inr ⟨setLn_eq (ρ := ρ) (n := 0), hE⟩)
            · have hy' : look ((i, TV.vw o t) :: (st.new o (.arr t [])).fr) j = some y := hy
              rw [look_cons_ne _ _ e] at hy'
              exact hg.fr j y hy'
          ob := hg.ob }
        obtain ⟨ρ', h1, h2⟩ := prepS_rl (W := W) l _ _ himg
        refine ⟨ρ', h1, Kp.trans ⟨fun _ _ => rfl, fun p hp => ?_⟩ h2⟩
        have hne : p ≠ o := by rintro rfl; rw [hb.2] at hp; cases hp
        refine ⟨(gh_ne p hne).1, (gh_ne p hne).2, rfl, Nat.le_refl _, fun _ _ => rfl, fun _ _ _ _ => rfl, fun hr => ⟨fun x hx => ?_, fun _ => ⟨rfl, rfl⟩⟩⟩
        have hx' : look ((o, Ob.arr t []) :: mapF (Ob.kill o) (delF o st.ob)) p = some x := hx
        rw [look_cons_ne _ _ hne, look_mapF, look_delF hne, Option.map_eq_some_iff] at hx'
        obtain ⟨w, hw, rfl⟩ := hx'
        exact isRo_kill (hr w hw)
    · exact prepS_rl l st ρ h
section
variable (hR : RegOK R)
include hR
omit hR in
theorem prepS_fr {W : List Nat} : ∀ {l : List (Nat × Sk)}, st.fr = [] → prepS W l st = st
  | [], _ => rfl
  | (i, k) :: l, h => by
    have := prepS_fr (W := W) (l := l) h
    cases k <;> first | exact this | skip
    unfold prepS
    rw [h]; exact this
omit hR in
theorem pkSl_nil : ∀ {l : List (Nat × Sk)} {p : PaySl R.T l}, pkSl R [] l = some p → l = []
  | [], _, _ => rfl
  | [(i, k)], p, h => by cases h
  | (i, k) :: q :: l, p, h => by cases h
omit hR in
theorem packW_fr {W : List Nat} (he : st.fr = []) {s : Shape} {p : Pay R.T s} (hp : Aq.packW R W st s = some p) : (unpack R s p).fr = [] := by
  unfold Aq.packW at hp
  rw [prepS_fr he] at hp
  obtain ⟨sl, ob⟩ := s
  cases ob with
  | nil =>
    have hp' : pkSl R st.fr sl = some p := hp
    rw [he] at hp'
    have := pkSl_nil hp'
    subst this; rfl
  | cons o os =>
    unfold Aq.pack at hp
    rw [he] at hp
    cases hu : pkSl R [] sl with
    | none => simp only [hu] at hp; cases hp
    | some x =>
      have := pkSl_nil hu
      subst this; rfl
theorem ImgR.packW {W : List Nat} (h : ImgR ρ b st fr σ) {s : Shape} {p : Pay R.T s} (hp : Aq.packW R W st s = some p) : ∃ ρ' S', ImgR ρ' b (unpack R s p) fr σ ∧ Kp nr W st fr σ ρ S' fr σ ρ' ∧ (st.fr = [] → (unpack R s p).fr = []) ∧ ∀ i, memN i W = false → RO st i → look (unpack R s p).ob i = none := by
  obtain ⟨ρ', h1, h2⟩ := prepS_rl (W := W) s.sl st ρ h
  exact ⟨ρ', _, h1.pack hR hp, h2, fun he => packW_fr he hp, fun i hi hr => pack_none hp ((h2.ob i hi).ro hr).1⟩
theorem packOut_rl {β : Type} {W : List Nat} (h : ImgR ρ b st fr σ) {e : Ex} : ∀ {l : List (Ex × Shape)} {o : Out R.T l}, packOut R W e st l = some o → ∃ ρ' S' st', ImgR ρ' b st' fr σ ∧ Kp nr W st fr σ ρ S' fr σ ρ' ∧ (st.fr = [] → st'.fr = []) ∧ (∀ i, memN i W = false → RO st i → look st'.ob i = none) ∧ ∀ (k : Ex → MS R.T → Option β) (bs : MS R.T), unpackOut R bs k l o = k e (bs.over st')
  | [], o, hp => by cases hp
  | [(x, s)], o, hp => by
    have hp' : (bif exEq e x then Aq.packW R W st s else none) = some o := hp
    cases hb : exEq e x
    · rw [hb] at hp'; cases hp'
    · rw [hb, cond_true] at hp'
      have := exEq_t hb; subst this
      obtain ⟨ρ', S', h1, h2, h0, h3⟩ := h.packW hR hp'
      exact ⟨ρ', S', _, h1, h2, h0, h3, fun k bs => rfl⟩
  | (x, s) :: q :: l, o, hp => by
    unfold packOut at hp
    cases hb : exEq e x
    · rw [hb, cond_false] at hp
      cases hu : packOut R W e st (q :: l) with
      | none => simp only [hu] at hp; cases hp
      | some y =>
        simp only [hu] at hp
        obtain rfl := Option.some.inj hp
        obtain ⟨ρ', S', st', h1, h3, h0, h4, h2⟩ := packOut_rl (β := β) h hu
        exact ⟨ρ', S', st', h1, h3, h0, h4, fun k bs => h2 k bs⟩
    · rw [hb, cond_true] at hp
      have := exEq_t hb; subst this
      cases hu : Aq.packW R W st s with
      | none => simp only [hu] at hp; cases hp
      | some y =>
        simp only [hu] at hp
        obtain rfl := Option.some.inj hp
        obtain ⟨ρ', S', h1, h2, h0, h3⟩ := h.packW hR hu
        exact ⟨ρ', S', _, h1, h2, h0, h3, fun k bs => rfl⟩
end
end
end
end Aq
end
section
namespace Aq
open Go
set_option linter.unusedSectionVars false
set_option linter.unusedVariables false
section
variable {R : Reg} {E : Env}
variable {ρ : Rho} {b : Nat} {st : MS R.T} {fr : Fr} {σ : Sig}
def StepTo (E : Env) (fr : Fr) (σ : Sig) (stp : Nat) (o : Oper) (x : V) (σ' : Sig) : Prop :=
  (∀ all os Q, wantedV all fr o = some true → OW E all (stp + 1) os (fr.put o.dst x) σ' Q → OW E all stp (o :: os) fr σ Q) ∧
  (∀ ms all os fs Q, wantedV all fr o = some true → FW' E ms all (stp + 1) os (fr.put o.dst x) σ' (fs ++ [footI E all fr o true]) Q → FW' E ms all stp (o :: os) fr σ fs Q)
theorem StepTo.of {stp : Nat} {o : Oper} {x : V} {σ' : Sig} (h : ∀ S, opC E S fr σ stp o = some (x, fr, σ')) : StepTo E fr σ stp o x σ' :=
  ⟨fun _ _ _ hw h' => OW.op hw h h', fun _ _ _ _ _ hw h' => FW'.op hw h h'⟩
theorem opC_of {S : Evl} {stp : Nat} {o : Oper} {x : V} {σ' : Sig} (h : opV E fr σ stp o = some (x, σ')) : opC E S fr σ stp o = some (x, fr, σ') := by
  unfold opC
  split
  · rename_i c hc; unfold opV at h; rw [hc] at h; cases h
  · rename_i c hc; unfold opV at h; rw [hc] at h; cases h
  · rw [h]; rfl
theorem StepTo.ofV {stp : Nat} {o : Oper} {x : V} {σ' : Sig} (h : opV E fr σ stp o = some (x, σ')) : StepTo E fr σ stp o x σ' := .of fun S => opC_of h
def ResOK (E : Env) (st : MS R.T) (ρ : Rho) (stp : Nat) (fr : Fr) (σ : Sig) (o : Oper) : Res R → Prop
  | .t v => ∃ x, StepTo E fr σ stp o x σ ∧ Rl R ρ σ.top v x
  | .c c v => c = true → ∃ x, StepTo E fr σ stp o x σ ∧ Rl R ρ σ.top v x
  | .w v st' => ∃ x σ' ρ', StepTo E fr σ stp o x σ' ∧ ImgR ρ' (stp + 1) st' fr σ' ∧ σ'.next = σ.next ∧ Rl R ρ' σ'.top v x ∧ ∀ p, o.dst ≠ some p → KpO true p st ρ σ st' ρ' σ'
  | .wc c v st' => c = true → ∃ x σ' ρ', StepTo E fr σ stp o x σ' ∧ ImgR ρ' (stp + 1) st' fr σ' ∧ σ'.next = σ.next ∧ Rl R ρ' σ'.top v x ∧ ∀ p, o.dst ≠ some p → KpO true p st ρ σ st' ρ' σ'
  | .p _ _ o' f => ∀ a, o' = some a → ∃ x, StepTo E fr σ stp o x σ ∧ Rl R ρ σ.top (f a) x
theorem cells_rl {top : Nat → Nat} {x : TV R.T} {v : V} (hg : notG x = true) (h : Rl R ρ top x v) : RlL R ρ top x.cells v.cells ∧ notRaw v = true := by
  cases x with
  | agg cs => obtain ⟨l, rfl, hl⟩ := h.inv_agg; exact ⟨hl, rfl⟩
  | int k n => rw [h.inv_int]; exact ⟨.cons' (by unfold Rl; rfl) rfl, rfl⟩
  | bool b => rw [h.inv_bool]; exact ⟨.cons' (by unfold Rl; rfl) rfl, rfl⟩
  | blit b => rw [h.inv_blit]; exact ⟨.cons' (by unfold Rl; rfl) rfl, rfl⟩
  | str b => rw [h.inv_str]; exact ⟨.cons' (by unfold Rl; rfl) rfl, rfl⟩
  | nils => rw [h.inv_nils]; exact ⟨.cons' (by unfold Rl; rfl) rfl, rfl⟩
  | tup cs => obtain ⟨l, rfl, hl⟩ := h.inv_tup; exact ⟨.cons' h rfl, rfl⟩
  | lst c t l => obtain ⟨c', rfl, hl⟩ := h.inv_lst; exact ⟨.cons' h rfl, rfl⟩
  | ref o off => obtain ⟨s, hs, rfl⟩ := h.inv_ref; exact ⟨.cons' h rfl, rfl⟩
  | cref o off => obtain ⟨s, rfl, hs⟩ := h.inv_cref; exact ⟨.cons' h rfl, rfl⟩
  | mapr o => obtain ⟨s, hs, rfl⟩ := h.inv_mapr; exact ⟨.cons' h rfl, rfl⟩
  | mapc k e m => have := h.inv_mapc; subst this; exact ⟨.cons' h rfl, rfl⟩
  | fn f a b => obtain ⟨a', b', rfl, _⟩ := h.inv_fn; exact ⟨.cons' h rfl, rfl⟩
  | undef => have := h.inv_undef; subst this; exact ⟨.cons' h rfl, rfl⟩
  | vw o t => rcases h.inv_vw with ⟨s, _, rfl⟩ | ⟨_, rfl | rfl⟩ <;> exact ⟨.cons' h rfl, rfl⟩
  | eref o t i off => obtain ⟨s, _, _, rfl⟩ := h.inv_eref; exact ⟨.cons' h rfl, rfl⟩
  | nilp => have h' := h; unfold Rl at h'; subst h'; exact ⟨.cons' h rfl, rfl⟩
  | nilf => have h' := h; unfold Rl at h'; subst h'; exact ⟨.cons' h rfl, rfl⟩
  | nilm => have h' := h; unfold Rl at h'; subst h'; exact ⟨.cons' h rfl, rfl⟩
  | nili => have h' := h; unfold Rl at h'; subst h'; exact ⟨.cons' h rfl, rfl⟩
  | opt j w y => cases hg
  | gone => cases hg
theorem oneM_rl {top : Nat → Nat} {x : TV R.T} {v : V} (hg : oneM x = true) (h : Rl R ρ top x v) : oneCell v = true := by
  cases x with
  | agg cs => cases hg
  | int k n => rw [h.inv_int]; rfl
  | bool b => rw [h.inv_bool]; rfl
  | blit b => rw [h.inv_blit]; rfl
  | str b => rw [h.inv_str]; rfl
  | nils => rw [h.inv_nils]; rfl
  | tup cs => cases hg
  | lst c t l => obtain ⟨c', rfl, hl⟩ := h.inv_lst; rfl
  | ref o off => obtain ⟨s, hs, rfl⟩ := h.inv_ref; rfl
  | cref o off => obtain ⟨s, rfl, hs⟩ := h.inv_cref; rfl
  | mapr o => obtain ⟨s, hs, rfl⟩ := h.inv_mapr; rfl
  | mapc k e m => have := h.inv_mapc; subst this; rfl
  | fn f a b => obtain ⟨a', b', rfl, _⟩ := h.inv_fn; rfl
  | undef => cases hg
  | vw o t => rcases h.inv_vw with ⟨s, _, rfl⟩ | ⟨_, rfl | rfl⟩ <;> rfl
  | eref o t i off => obtain ⟨s, _, _, rfl⟩ := h.inv_eref; rfl
  | nilp => unfold Rl at h; subst h; rfl
  | nilf => unfold Rl at h; subst h; rfl
  | nilm => unfold Rl at h; subst h; rfl
  | nili => unfold Rl at h; subst h; rfl
  | opt j w y => cases hg
  | gone => cases hg
theorem oneMs_rl {top : Nat → Nat} : ∀ {x : List (TV R.T)} {v : List V}, oneMs x = true → RlL R ρ top x v → oneCells v = true
  | [], v, _, h => by rw [h.inv_nil]; rfl
  | x :: xs, v, hg, h => by
    obtain ⟨y, ys, rfl, h1, h2⟩ := h.inv_cons
    unfold oneMs at hg
    rw [Bool.and_eq_true] at hg
    rw [oneCells_cons, oneM_rl hg.1 h1, oneMs_rl hg.2 h2]; rfl
theorem partM_rl {top : Nat → Nat} {ag : Bool} {n off : Nat} {cs : List (TV R.T)} {l : List V} {x : TV R.T} (h : RlL R ρ top cs l) (hp : partM ag n cs off = some x) : ∃ v, partV ag n l off = some v ∧ Rl R ρ top x v := by
  cases ag with
  | true =>
    have hp' : (bif Nat.ble (off + n) cs.length then some (TV.agg ((cs.drop off).take n)) else none) = some x := hp
    cases hb : Nat.ble (off + n) cs.length
    · rw [hb] at hp'; cases hp'
    · rw [hb] at hp'; cases hp'
      have hle := Nat.le_of_ble_eq_true hb
      refine ⟨.agg ((l.drop off).take n), ?_, by unfold Rl; exact ⟨_, rfl, (h.drop off).take n⟩⟩
      unfold partV; rw [if_pos rfl, if_pos (by rw [h.length]; exact hle)]
  | false =>
    obtain ⟨v, h1, h2⟩ := h.get (show cs[off]? = some x from hp)
    exact ⟨v, by unfold partV; simpa using h1, h2⟩
theorem ldM_rl {top : Nat → Nat} {t : TypeId} {off : Nat} {cs : List (TV R.T)} {l : List V} {x : TV R.T} (h : RlL R ρ top cs l) (hp : ldM E t cs off = some x) : ∃ v, ldT E.P t l off = some v ∧ Rl R ρ top x v := by
  unfold ldM at hp
  cases h1 : isAggT E.P t with
  | none => simp only [h1] at hp; cases hp
  | some a =>
    cases h2 : szT E.P t with
    | none => simp only [h1, h2] at hp; cases hp
    | some n =>
      simp only [h1, h2] at hp
      unfold ldT; rw [h1, h2]; exact partM_rl h hp
theorem spliceM_rl {top : Nat → Nat} {cs vs : List (TV R.T)} {l k : List V} (off : Nat) (h : RlL R ρ top cs l) (h' : RlL R ρ top vs k) : RlL R ρ top (spliceM cs off vs) (spliceL l off k) := by
  unfold spliceM spliceL
  rw [h'.length]
  exact ((h.take off).append h').append (h.drop _)
theorem zeroM_rl {top : Nat → Nat} {t : TypeId} {z : TV R.T} (h : zeroM E t = some z) : ∃ v, zeroT E.P t = some v ∧ Rl R ρ top z v := by
  unfold zeroM at h
  unfold zeroT
  cases h1 : E.P.info? t with
  | none => simp only [h1] at h; cases h
  | some i =>
    cases h2 : i.zero with
    | none => simp only [h1, h2] at h; cases h
    | some z' =>
      simp only [h1, h2] at h
      obtain ⟨v, hv, hr⟩ := ofValueM_rl (ρ := ρ) (top := top) h
      exact ⟨v, by simp [h2, hv], hr⟩
theorem fillM_rl {top : Nat → Nat} (place : Nat → Option (Nat × Nat)) : ∀ {ps : List (Nat × TV R.T)} {qs : List (Nat × V)} {cs : List (TV R.T)} {l : List V} {cs' : List (TV R.T)}, ps.map (·.1) = qs.map (·.1) → RlL R ρ top (ps.map (·.2)) (qs.map (·.2)) →
    RlL R ρ top cs l → fillM place cs ps = some cs' → ∃ l', fillL place l qs = some l' ∧ RlL R ρ top cs' l'
  | [], [], cs, l, cs', _, _, h, hf => by cases hf; exact ⟨l, rfl, h⟩
  | [], _ :: _, _, _, _, h, _, _, _ => by simp at h
  | _ :: _, [], _, _, _, h, _, _, _ => by simp at h
  | (i, v) :: ps, (j, w) :: qs, cs, l, cs', hi, hr, h, hf => by
    simp only [List.map_cons, List.cons.injEq] at hi
    obtain ⟨rfl, hi⟩ := hi
    obtain ⟨y, ys, e, h1, h2⟩ := hr.inv_cons
    simp only [List.map_cons, List.cons.injEq] at e
    obtain ⟨rfl, rfl⟩ := e
    unfold fillM at hf
    unfold fillL
    cases hp : place i with
    | none => simp only [hp] at hf; cases hf
    | some q =>
      obtain ⟨off, size⟩ := q
      simp only [hp] at hf ⊢
      cases hb : (Nat.beq v.cells.length size && Nat.ble (off + size) cs.length && notG v)
      · rw [hb] at hf; cases hf
      · rw [hb, cond_true] at hf
        simp only [Bool.and_eq_true] at hb
        obtain ⟨⟨b1, b2⟩, b3⟩ := hb
        obtain ⟨hc, hn⟩ := cells_rl b3 h1
        rw [if_pos ⟨by rw [hc.length]; exact nbeq_t b1, by rw [h.length]; exact Nat.le_of_ble_eq_true b2, hn⟩]
        exact fillM_rl place hi h2 (spliceM_rl off h hc) hf
theorem bM_rl {top : Nat → Nat} {x : TV R.T} {v : V} {a : Bool} (h : bM x = some a) (hr : Rl R ρ top x v) : v = .bool a := by
  cases x <;> cases h
  · exact hr.inv_bool
  · exact hr.inv_blit
theorem eqSM_rl {top : Nat → Nat} {x y : TV R.T} {v w : V} {r : Bool} (h : eqSM x y = some r) (hx : Rl R ρ top x v) (hy : Rl R ρ top y w) : ∃ a b, v = .bool a ∧ w = .bool b ∧ r = (a == b) := by
  unfold eqSM at h
  cases h1 : bM x with
  | none => simp only [h1] at h; cases h
  | some a =>
    cases h2 : bM y with
    | none => simp only [h1, h2] at h; cases h
    | some b => simp only [h1, h2] at h; cases h; exact ⟨a, b, bM_rl h1 hx, bM_rl h2 hy, rfl⟩
theorem eqFlM_rl {top : Nat → Nat} {eqm : TypeId → TV R.T → TV R.T → Option Bool} {eqv : TypeId → V → V → Option Bool} (he : ∀ t x y v w r, eqm t x y = some r → Rl R ρ top x v → Rl R ρ top y w → eqv t v w = some r)
    {xs ys : List (TV R.T)} {vs ws : List V} (hx : RlL R ρ top xs vs) (hy : RlL R ρ top ys ws) : ∀ {fs : List Field} {r : Bool}, eqFlM E eqm xs ys fs = some r → eqFl E.P eqv vs ws fs = some r
  | [], r, h => by cases h; rfl
  | f :: fs, r, h => by
    unfold eqFlM at h
    unfold eqFl
    split at h
    · rename_i hn; rw [if_pos hn]; exact eqFlM_rl he hx hy h
    · rename_i hn
      rw [if_neg hn]
      cases h1 : ldM E f.type xs f.offset with
      | none => simp only [h1] at h; cases h
      | some a =>
        cases h2 : ldM E f.type ys f.offset with
        | none => simp only [h1, h2] at h; cases h
        | some c =>
          cases h3 : eqm f.type a c with
          | none => simp only [h1, h2, h3] at h; cases h
          | some r1 =>
            cases h4 : eqFlM E eqm xs ys fs with
            | none => simp only [h1, h2, h3, h4] at h; cases h
            | some q =>
              simp only [h1, h2, h3, h4] at h; cases h
              obtain ⟨v1, e1, g1⟩ := ldM_rl hx h1
              obtain ⟨v2, e2, g2⟩ := ldM_rl hy h2
              simp [e1, e2, he _ _ _ _ _ _ h3 g1 g2, eqFlM_rl he hx hy h4]
theorem eqElM_rl {top : Nat → Nat} {eqm : TypeId → TV R.T → TV R.T → Option Bool} {eqv : TypeId → V → V → Option Bool} (he : ∀ t x y v w r, eqm t x y = some r → Rl R ρ top x v → Rl R ρ top y w → eqv t v w = some r)
    {e : TypeId} {sz : Nat} {xs ys : List (TV R.T)} {vs ws : List V} (hx : RlL R ρ top xs vs) (hy : RlL R ρ top ys ws) : ∀ {is : List Nat} {r : Bool}, eqElM E eqm e sz xs ys is = some r → eqEl E.P eqv e sz vs ws is = some r
  | [], r, h => by cases h; rfl
  | i :: is, r, h => by
    unfold eqElM at h
    unfold eqEl
    cases h1 : ldM E e xs (i * sz) with
    | none => simp only [h1] at h; cases h
    | some a =>
      cases h2 : ldM E e ys (i * sz) with
      | none => simp only [h1, h2] at h; cases h
      | some c =>
        cases h3 : eqm e a c with
        | none => simp only [h1, h2, h3] at h; cases h
        | some r1 =>
          cases h4 : eqElM E eqm e sz xs ys is with
          | none => simp only [h1, h2, h3, h4] at h; cases h
          | some q =>
            simp only [h1, h2, h3, h4] at h; cases h
            obtain ⟨v1, e1, g1⟩ := ldM_rl hx h1
            obtain ⟨v2, e2, g2⟩ := ldM_rl hy h2
            simp [e1, e2, he _ _ _ _ _ _ h3 g1 g2, eqElM_rl he hx hy h4]
theorem eqTM_rl {top : Nat → Nat} : ∀ (d : Nat) (t : TypeId) (x y : TV R.T) (v w : V) (r : Bool), eqTM E d t x y = some r → Rl R ρ top x v → Rl R ρ top y w → eqT E.P d t v w = some r
  | 0, _, _, _, _, _, _, h, _, _ => by cases h
  | d + 1, t, x, y, v, w, r, h, hx, hy => by
    unfold eqTM at h
    unfold eqT
    split at h
    · rename_i fs xs ys hu
      obtain ⟨l, rfl, h1⟩ := hx.inv_agg
      obtain ⟨k, rfl, h2⟩ := hy.inv_agg
      rw [hu]; dsimp only
      split at h
      · cases h
      · rename_i hs; rw [if_neg hs]; exact eqFlM_rl (eqTM_rl d) h1 h2 h
    · rename_i n e xs ys hu
      obtain ⟨l, rfl, h1⟩ := hx.inv_agg
      obtain ⟨k, rfl, h2⟩ := hy.inv_agg
      rw [hu]; dsimp only
      cases hs : szT E.P e with
      | none => simp only [hs] at h; cases h
      | some sz => simp only [hs] at h; simp only [Option.bind_some]; exact eqElM_rl (eqTM_rl d) h1 h2 h
    · cases h
    · cases h
    · rename_i hu
      obtain ⟨a, c, rfl, rfl, rfl⟩ := eqSM_rl h hx hy
      rw [hu]
    · rename_i k a k' c hu
      rw [hx.inv_int, hy.inv_int, hu]; exact h
    · rename_i a c hu
      rw [hx.inv_str, hy.inv_str, hu]; exact h
    · cases h
theorem eqM_rl {top : Nat → Nat} {t : TypeId} {x y : TV R.T} {v w : V} {r : Bool} (h : eqM E t x y = some r) (hx : Rl R ρ top x v) (hy : Rl R ρ top y w) : eqV E.P t v w = some r := by
  unfold eqM at h
  unfold eqV
  split at h
  · rename_i fs xs ys hu
    split at h
    · cases h
    · rename_i hs
      have := eqTM_rl 8 t _ _ v w r h hx hy
      obtain ⟨l, rfl, h1⟩ := hx.inv_agg
      obtain ⟨k, rfl, h2⟩ := hy.inv_agg
      rw [hu]; dsimp only; rw [if_neg hs]; exact this
  · rename_i fs xs ys hu
    split at h
    · cases h
    · rename_i hs
      have := eqTM_rl 8 t _ _ v w r h hx hy
      obtain ⟨l, rfl, h1⟩ := hx.inv_agg
      obtain ⟨k, rfl, h2⟩ := hy.inv_agg
      rw [hu]; dsimp only; rw [if_neg hs]; exact this
  · rename_i hu; cases h; unfold Rl at hx hy; subst hx; subst hy; rw [hu]
  · rename_i hu; cases h; obtain ⟨a, b, rfl, _⟩ := hy.inv_fn; unfold Rl at hx; subst hx; rw [hu]
  · rename_i hu; cases h; obtain ⟨a, b, rfl, _⟩ := hx.inv_fn; unfold Rl at hy; subst hy; rw [hu]
  · rename_i hu; obtain ⟨a, c, rfl, rfl, rfl⟩ := eqSM_rl h hx hy; rw [hu]
  · cases h
end
end Aq
end
section
namespace Aq
open Go
set_option linter.unusedSectionVars false
set_option linter.unusedVariables false
section
variable {R : Reg} {E : Env}
variable {ρ : Rho} {top : Nat → Nat}
def ValOK (ρ : Rho) (top : Nat → Nat) (v : Option V) : Res R → Prop
  | .t x => ∃ y, v = some y ∧ Rl R ρ top x y
  | .c c x => c = true → ∃ y, v = some y ∧ Rl R ρ top x y
  | .p _ _ o f => ∀ a, o = some a → ∃ y, v = some y ∧ Rl R ρ top (f a) y
  | _ => False
theorem intM_ok {op : BinOp} {k : IntKind} {x y : Int} {r : Res R} (h : intM R op k x y = some r) : ValOK ρ top (intB op k x y) r := by
  unfold intM at h
  cases op <;> cases h <;> first
    | exact ⟨_, rfl, by unfold Rl; rfl⟩
    | (intro hc
       have hy : ¬ y = 0 := by simpa using hc
       exact ⟨_, if_neg hy, by unfold Rl; rfl⟩)
theorem shiftM_ok {op : BinOp} {k : IntKind} {x y : Int} {r : Res R} (h : shiftM R op k x y = some r) : ValOK ρ top (shiftB op k x y) r := by
  unfold shiftM at h
  cases op <;> cases h <;>
    (intro hc
     have hy : ¬ y < 0 := by have := of_decide_eq_true hc; omega
     exact ⟨_, if_neg hy, by unfold Rl; rfl⟩)
theorem strM_ok {op : BinOp} {x y : List UInt8} {r : Res R} (h : strM R op x y = some r) : ValOK ρ top (strB op x y) r := by
  unfold strM at h
  cases op <;> cases h <;> first
    | exact ⟨_, rfl, by unfold Rl; rfl⟩
    | (intro hc
       have hy : ¬ ((x.length + y.length : Nat) : Int) > IntKind.i64.max := by have := of_decide_eq_true hc; omega
       exact ⟨_, if_neg hy, by unfold Rl; rfl⟩)
theorem binV_int {P : Program} {op : BinOp} {t : TypeId} {k : IntKind} {a b : Int} (h : isShift op = false) : binV P op t (.int k a) (.int k b) = intB op k a b := by
  cases op <;> first | (simp [isShift] at h; done) | simp [binV]
theorem binV_shift {P : Program} {op : BinOp} {t : TypeId} {k k' : IntKind} {a b : Int} (h : isShift op = true) : binV P op t (.int k a) (.int k' b) = shiftB op k a b := by
  cases op <;> first | (simp [isShift] at h; done) | rfl
theorem binV_str {P : Program} {op : BinOp} {t : TypeId} {a b : List UInt8} : binV P op t (.str a) (.str b) = strB op a b := by
  cases op <;> rfl
theorem eqV_ni {P : Program} {t : TypeId} {x y : V} {b : Bool} (h : eqV P t x y = some b) : (∀ k n k' m, x = .int k n → y = .int k' m → False) ∧ ∀ s s', x = .str s → y = .str s' → False := by
  unfold eqV at h
  constructor
  · intro k n k' m hx hy; subst hx; subst hy; split at h <;> simp_all
  · intro s s' hx hy; subst hx; subst hy; split at h <;> simp_all
theorem binV_eql {P : Program} {t : TypeId} {x y : V} {b : Bool} (h : eqV P t x y = some b) : binV P .eql t x y = some (.bool b) ∧ binV P .neq t x y = some (.bool !b) := by
  obtain ⟨h1, h2⟩ := eqV_ni h
  constructor
  all_goals
    unfold binV
    split
    · rename_i he; cases he
    · rename_i he; cases he
    · exact (h1 _ _ _ _ rfl rfl).elim
    · exact (h2 _ _ rfl rfl).elim
    all_goals first | (rw [h]; rfl) | (rename_i he; cases he) | simp_all
theorem binM_ok {op : BinOp} {t : TypeId} {x y : TV R.T} {v w : V} {r : Res R} (h : binM E R op t x y = some r) (hx : Rl R ρ top x v) (hy : Rl R ρ top y w) : ValOK ρ top (binV E.P op t v w) r := by
  unfold binM at h
  split at h
  · rename_i k a k' b
    rw [hx.inv_int, hy.inv_int]
    cases hs : isShift op
    · rw [hs, cond_false] at h
      split at h
      · rename_i e; subst e; rw [binV_int hs]; exact intM_ok h
      · cases h
    · rw [hs, cond_true] at h; rw [binV_shift hs]; exact shiftM_ok h
  · rw [hx.inv_str, hy.inv_str, binV_str]; exact strM_ok h
  · split at h
    · split at h
      · rename_i b hb; cases h
        exact ⟨_, (binV_eql (eqM_rl hb hx hy)).1, by unfold Rl; rfl⟩
      · cases h
    · split at h
      · rename_i b hb; cases h
        exact ⟨_, (binV_eql (eqM_rl hb hx hy)).2, by unfold Rl; rfl⟩
      · cases h
    · cases h
theorem unM_ok {op : UnOp} {x : TV R.T} {v : V} {r : Res R} (h : unM R op x = some r) (hx : Rl R ρ top x v) : ValOK ρ top (unV op v) r := by
  unfold unM at h
  split at h
  · cases h; rw [hx.inv_int]; exact ⟨_, rfl, by unfold Rl; rfl⟩
  · rw [hx.inv_int]; exact intM_ok h
  · cases h; rw [hx.inv_bool]; exact ⟨_, rfl, by unfold Rl; rfl⟩
  · cases h; rw [hx.inv_blit]; exact ⟨_, rfl, by unfold Rl; rfl⟩
  · cases h
theorem bytes_map (s : List UInt8) : s.map byteV = List.map (encD R (.int .u8)) (s.map fun b => ((b.toNat : Nat) : Int)) := by
  show s.map byteV = List.map (fun n : Int => V.int .u8 n) (List.map (fun b : UInt8 => ((b.toNat : Nat) : Int)) s)
  rw [List.map_map]; rfl
theorem unbytes_map : ∀ l : List Int, (List.map (encD R (.int .u8)) l).mapM unByte = some (List.map (fun n : Int => UInt8.ofNat n.toNat) l)
  | [] => rfl
  | n :: l => by
    show List.mapM unByte (V.int .u8 n :: List.map (encD R (.int .u8)) l) = _
    rw [List.mapM_cons, unbytes_map l]; rfl
theorem convM_ok {a b : TypeId} {x : TV R.T} {v : V} {σ : Sig} {r : Res R} (h : convM E R a b x = some r) (hx : Rl R ρ top x v) : ValOK ρ top (convV E.P σ a b v) r := by
  unfold convM at h
  unfold convV
  split at h
  · rename_i hu hv; cases h; rw [hx.inv_int, hu, hv]; exact ⟨_, rfl, by unfold Rl; rfl⟩
  · rename_i hu hv; cases h; rw [hx.inv_str, hu, hv]; exact ⟨_, rfl, by unfold Rl; rfl⟩
  · rename_i hu hv
    rw [hx.inv_str, hu, hv]
    split at h
    · rename_i he; cases h
      dsimp only; rw [he]
      exact ⟨_, rfl, by unfold Rl; exact ⟨.sh, by rw [bytes_map], trivial⟩⟩
    · cases h
  · rename_i l hu hv
    obtain ⟨c', rfl, _⟩ := hx.inv_lst
    rw [hu, hv]
    split at h
    · rename_i he; cases h
      dsimp only; rw [he]
      exact ⟨_, congrArg (Option.map V.str) (unbytes_map (R := R) l), by unfold Rl; rfl⟩
    · cases h
  · rename_i hu hv
    rw [hx.inv_nils, hu, hv]
    split at h
    · rename_i he; cases h
      dsimp only; rw [he]
      exact ⟨_, rfl, by unfold Rl; rfl⟩
    · cases h
  · cases h
theorem bndM_rl {x : Option (TV R.T)} {v : Option V} {i : Option Int} (h : bndM R x = some i) (hx : ∀ y, x = some y → ∃ w, v = some w ∧ Rl R ρ top y w) (hn : x = none → v = none) : (i = none ∧ v = none) ∨ ∃ n k, i = some n ∧ v = some (.int k n) := by
  unfold bndM at h
  split at h
  · cases h; exact .inl ⟨rfl, hn rfl⟩
  · rename_i k n
    cases h
    obtain ⟨w, rfl, hw⟩ := hx _ rfl
    exact .inr ⟨n, k, rfl, by rw [hw.inv_int]⟩
  · cases h
theorem bnd_of {k : IntKind} {n : Int} {m : Nat} (h : inB n m = true) : bnd (.int k n) m = some n.toNat := by
  unfold inB at h
  have := of_decide_eq_true h
  simp [bnd, bndI, this]
theorem sub_ok {α : Type} (l : List α) {lo hi : Option Int} {vl vh : Option V} (hl : (lo = none ∧ vl = none) ∨ ∃ n k, lo = some n ∧ vl = some (.int k n)) (hh : (hi = none ∧ vh = none) ∨ ∃ n k, hi = some n ∧ vh = some (.int k n)) (hb : subB l.length lo hi = true) :
    ∃ a c, sliceBV l.length l.length vl vh none = some (a, c, l.length) ∧ (l.take c).drop a = subL l lo hi := by
  rcases hl with ⟨rfl, rfl⟩ | ⟨n, k, rfl, rfl⟩ <;> rcases hh with ⟨rfl, rfl⟩ | ⟨m, k', rfl, rfl⟩
  · exact ⟨0, l.length, rfl, by simp [subL]⟩
  · have h1 : inB m l.length = true := hb
    exact ⟨0, m.toNat, by simp [sliceBV, bnd_of h1], by simp [subL]⟩
  · have h1 : inB n l.length = true := hb
    exact ⟨n.toNat, l.length, by simp [sliceBV, bnd_of h1], by simp [subL]⟩
  · have h1 : (inB m l.length && inB n m.toNat) = true := hb
    rw [Bool.and_eq_true] at h1
    exact ⟨n.toNat, m.toNat, by simp [sliceBV, bnd_of h1.1, bnd_of h1.2], by simp [subL]⟩
theorem map_take_drop {α : Type} (f : α → V) (l : List α) (a c : Nat) : ((l.map f).take c).drop a = ((l.take c).drop a).map f := by simp
variable (hR : RegOK R)
include hR
theorem encD_cells (t : Ty) (x : Den R.T t) : (encD R t x).cells.length = szD R t ∧ oneCells (encD R t x).cells = true ∧ er (encD R t x) = encD R t x ∧ (isSt t = true → ∃ l, encD R t x = .agg l) ∧ (isSt t = false → (encD R t x).cells = [encD R t x]) := by
  cases t with
  | int k => exact ⟨rfl, rfl, rfl, by simp [isSt], fun _ => rfl⟩
  | bool => exact ⟨rfl, rfl, rfl, by simp [isSt], fun _ => rfl⟩
  | str => exact ⟨rfl, rfl, rfl, by simp [isSt], fun _ => rfl⟩
  | slice t => exact ⟨rfl, rfl, rfl, by simp [isSt], fun _ => rfl⟩
  | st n =>
    have he : encD R (.st n) x = .agg (encs R (R.lf n) (R.of n x)) := hR.enc n x
    rw [he]
    have hl := hR.leaf n
    have key : ∀ (l : List Ty) (p : PayT R.T l), l.all leafT = true → oneCells (encs R l p) = true ∧ (encs R l p).map er1 = encs R l p := by
      intro l
      induction l with
      | nil => intro p _; exact ⟨rfl, rfl⟩
      | cons t l ih =>
        intro p h
        rw [List.all_cons, Bool.and_eq_true] at h
        have h1 : ∀ y : Den R.T t, oneCell (encD R t y) = true ∧ er1 (encD R t y) = encD R t y := by
          intro y
          cases t <;> first | exact ⟨rfl, rfl⟩ | (have := h.1; simp [leafT] at this)
        cases l with
        | nil => exact ⟨by simp [encs, oneCells, (h1 p).1], by simp [encs, (h1 p).2]⟩
        | cons u l =>
          have := ih p.2 h.2
          exact ⟨by show (oneCell _ && oneCells (encs R (u :: l) p.2)) = true; rw [(h1 p.1).1, this.1]; rfl, by show er1 _ :: List.map er1 (encs R (u :: l) p.2) = _; rw [(h1 p.1).2, this.2]; rfl⟩
    have := key (R.lf n) (R.of n x) hl
    exact ⟨encs_length _ _, this.1, by show V.agg (List.map er1 _) = _; rw [this.2], fun _ => ⟨_, rfl⟩, by simp [isSt]⟩
theorem headSz_enc {t : Ty} (l : List (Den R.T t)) : headSz (szD R t) (l.map (encD R t)) = true := by
  cases l with
  | nil => rfl
  | cons x l => show ((encD R t x).cells.length == szD R t) = true; rw [(encD_cells hR t x).1]; simp
theorem sliceM_ok {t : TypeId} {x : TV R.T} {lo hi : Option (TV R.T)} {v : V} {vl vh : Option V} {σ : Sig} {r : Res R} (h : sliceM E R t x lo hi = some r) (hx : Rl R ρ top x v)
    (hl : ∀ y, lo = some y → ∃ w, vl = some w ∧ Rl R ρ top y w) (hln : lo = none → vl = none) (hh : ∀ y, hi = some y → ∃ w, vh = some w ∧ Rl R ρ top y w) (hhn : hi = none → vh = none) : ValOK ρ top (sliceV E.P σ t v vl vh none) r := by
  unfold sliceM at h
  split at h
  · rename_i lo' hi' e1 e2
    have b1 := bndM_rl e1 hl hln
    have b2 := bndM_rl e2 hh hhn
    split at h
    · rename_i s hu
      cases h
      rw [hx.inv_str]
      intro hc
      obtain ⟨a, c, h1, h2⟩ := sub_ok s b1 b2 hc
      refine ⟨.str (subL s lo' hi'), ?_, by unfold Rl; rfl⟩
      unfold sliceV; rw [hu]; dsimp only; rw [h1]; simp [h2]
    · rename_i e c u l hu
      split at h
      · rename_i sz hs
        cases hb : Nat.beq sz (szD R u)
        · rw [hb] at h; cases h
        · rw [hb, cond_true] at h; cases h
          have := nbeq_t hb; subst this
          obtain ⟨c', rfl, _⟩ := hx.inv_lst
          intro hc
          obtain ⟨a, m, h1, h2⟩ := sub_ok l b1 b2 hc
          unfold sliceV; rw [hu]; dsimp only
          rw [hs]; simp only [Option.bind_some, List.length_map, h1, headSz_enc hR, if_true]
          by_cases hcs : a = 0 ∧ m = l.length ∧ (none : Option V).isNone = true
          · refine ⟨_, by rw [if_pos hcs], ?_⟩
            unfold Rl
            refine ⟨c', ?_, trivial⟩
            rw [← h2, hcs.1, hcs.2.1]; simp
          · refine ⟨_, by rw [if_neg hcs], ?_⟩
            unfold Rl
            exact ⟨_, by rw [← h2, map_take_drop], trivial⟩
      · cases h
    · cases h
  · cases h
theorem eqS_enc {t : TypeId} {k : Ty} (hk : keyM E t k = true) (x y : Den R.T k) : eqS (encD R k x) (encD R k y) = some (beqD R k x y) ∧ keyFit E.P t (encD R k x) = true := by
  unfold keyM at hk
  split at hk
  · rename_i hu; exact ⟨by simp [eqS, encD, beqD], by unfold keyFit; rw [hu]; rfl⟩
  · rename_i hu; exact ⟨rfl, by unfold keyFit; rw [hu]; rfl⟩
  · rename_i hu; exact ⟨rfl, by unfold keyFit; rw [hu]; rfl⟩
  · cases hk
theorem lookK_enc {t : TypeId} {k e : Ty} (hk : keyM E t k = true) (x : Den R.T k) : ∀ m : List (Den R.T k × Den R.T e), lookK (encD R k x) (m.map fun p => encD R k p.1) (m.map fun p => encD R e p.2) = some ((mget (beqD R k) x m).map (encD R e))
  | [] => rfl
  | (a, v) :: m => by
    show (eqS (encD R k x) (encD R k a)).bind _ = some ((bif beqD R k x a then some v else mget (beqD R k) x m).map (encD R e))
    rw [(eqS_enc hR hk x a).1, Option.bind_some]
    cases beqD R k x a
    · exact lookK_enc hk x m
    · rfl
theorem storeK_enc {t : TypeId} {k e : Ty} (hk : keyM E t k = true) (x : Den R.T k) (v : Den R.T e) : ∀ m : List (Den R.T k × Den R.T e), storeK (encD R k x) (encD R e v) (m.map fun p => encD R k p.1) (m.map fun p => encD R e p.2) =
    some ((mset (beqD R k) x v m).map (fun p => encD R k p.1), (mset (beqD R k) x v m).map fun p => encD R e p.2)
  | [] => rfl
  | (a, w) :: m => by
    show (eqS (encD R k x) (encD R k a)).bind _ = _
    rw [(eqS_enc hR hk x a).1, Option.bind_some]
    show _ = some (List.map _ (bif beqD R k x a then (x, v) :: m else (a, w) :: mset (beqD R k) x v m), List.map _ (bif beqD R k x a then (x, v) :: m else (a, w) :: mset (beqD R k) x v m))
    cases beqD R k x a
    · simp only [Bool.false_eq_true, if_false, cond_false]
      rw [storeK_enc hk x v m]; rfl
    · rfl
theorem key_enc {t : TypeId} {k : Ty} (hk : keyM E t k = true) {x : Den R.T k} {y : TV R.T} {v : V} (h : unD R k y = some x) (hr : Rl R ρ top y v) : v = encD R k x := by
  unfold keyM at hk
  split at hk
  · exact unInt_cl h hr
  · exact unStr_cl h hr
  · exact unBool_cl h hr
  · cases hk
omit hR in
def mapOf (σ : Sig) : V → Option (List V × List V)
  | .nilm => some ([], [])
  | .mapr loc s => σ.mapAt loc s
  | .mapc ks vs => some (ks, vs)
  | _ => none
omit hR in
theorem lookupV_eq {P : Program} {σ : Sig} {t : TypeId} {m k : V} {ok : Bool} : lookupV P σ t m k ok = (mapT P t).bind fun p => if keyFit P p.1 k then (mapOf σ m).bind fun q => (lookK k q.1 q.2).bind fun r =>
    (match r with | some v => some (v, true) | none => (zeroT P p.2).map fun z => (z, false)).map fun (x : V × Bool) => if ok then .tup [x.1, .bool x.2] else x.1 else none := by
  cases m <;> rfl
theorem lookM_ok {t : TypeId} {k e : Ty} {m : List (Den R.T k × Den R.T e)} {y : TV R.T} {w mv : V} {ok : Bool} {σ : Sig} {r : Res R} (h : lookM E R t k e m y ok = some r) (hy : Rl R ρ top y w)
    (hm : mapOf σ mv = some (m.map (fun p => encD R k p.1), m.map fun p => encD R e p.2)) : ValOK ρ top (lookupV E.P σ t mv w ok) r := by
  unfold lookM at h
  split at h
  · rename_i kt et ht
    cases hk : keyM E kt k
    · rw [hk] at h; cases h
    · rw [hk, cond_true] at h
      split at h
      · rename_i z hz
        split at h
        · rename_i z' x hz' hx
          cases h
          have hw := key_enc hR hk hx hy
          subst hw
          obtain ⟨zv, hzv, hzr⟩ := zeroM_rl (ρ := ρ) (top := top) hz
          have hzr' := unD_rl hR hz' hzr
          rw [lookupV_eq, ht]; simp only [Option.bind_some]
          rw [if_pos (eqS_enc hR hk x x).2, hm]
          simp only [Option.bind_some]
          rw [lookK_enc hR hk x m]
          simp only [Option.bind_some]
          cases hg : mget (beqD R k) x m with
          | some v =>
            simp only [Option.map_some]
            cases ok
            · exact ⟨_, rfl, tvD_rl' hR .any (.inl rfl) e v⟩
            · refine ⟨_, rfl, ?_⟩
              rw [cond_true]
              unfold Rl
              exact ⟨_, rfl, .cons' (tvD_rl' hR .any (.inl rfl) e v) (.cons' (by unfold Rl; rfl) rfl)⟩
          | none =>
            simp only [Option.map_none, hzv, Option.map_some]
            have hz3 : Rl R ρ top (tvD R .any e z') zv := hzr'
            cases ok
            · exact ⟨_, rfl, hz3⟩
            · refine ⟨_, rfl, ?_⟩
              rw [cond_true]
              unfold Rl
              exact ⟨_, rfl, .cons' hz3 (.cons' (by unfold Rl; rfl) rfl)⟩
        · cases h
      · cases h
  · cases h
end
end Aq
end
