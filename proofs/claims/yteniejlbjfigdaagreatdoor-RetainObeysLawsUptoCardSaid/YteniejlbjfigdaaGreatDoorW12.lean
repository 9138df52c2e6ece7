/- Part of the proof of a law: Am8 Am9. -/
import Derived.Test.YteniejlbjfigdaaGreatDoorW11
set_option linter.all false
set_option linter.unusedSimpArgs false
set_option linter.unusedSectionVars false
section
namespace Aq
open Go
set_option linter.unusedSectionVars false
set_option linter.unusedVariables false
section
variable {R : Reg} {E : Env}
variable {ρ : Rho} {top : Nat → Nat} {b : Nat} {st : MS R.T} {fr : Fr} {σ : Sig}
theorem bifs.{u} {α : Type u} {c : Bool} {o : Option α} {y : α} (h : (bif c then o else none) = some y) : c = true ∧ o = some y := by
  cases c
  · cases h
  · exact ⟨rfl, h⟩
theorem elM_eq {t e : TypeId} {u : Ty} {sz by_ : Nat} (h : elM E R t = some (e, u, sz, by_)) : ∃ z, elemT E.P t = some e ∧ szT E.P e = some sz ∧ bytesT E.P e = some by_ ∧ isAggT E.P e = some (isSt u) ∧ zeroT E.P e = some z ∧
    sz = szD R u ∧ 0 < sz ∧ (isSt u || sz == 1) = true ∧ z.cells.length = sz := by
  unfold elM at h
  split at h
  · rename_i e' he
    split at h
    · rename_i u' sz' by' ag z h1 h2 h3 h4 h5
      obtain ⟨hc, h⟩ := bifs h
      cases h
      simp only [Bool.and_eq_true] at hc
      obtain ⟨⟨⟨⟨c1, c2⟩, c3⟩, c4⟩, c5⟩ := hc
      have : ag = isSt u := by simpa using c5
      subst this
      refine ⟨z, he, h2, h3, h4, h5, nbeq_t c1, Nat.le_of_ble_eq_true c2, ?_, nbeq_t c4⟩
      rw [Bool.or_eq_true] at c3 ⊢
      rcases c3 with c3 | c3
      · exact .inl c3
      · exact .inr (by rw [nbeq_t c3]; rfl)
    · cases h
  · cases h
theorem chunks_flat (ag : Bool) (sz : Nat) : ∀ vs : List V, (∀ v ∈ vs, v.cells.length = sz) → chunks ag sz vs.length (vs.flatMap V.cells) = vs.map fun v => if ag then .agg v.cells else v.cells.headD undefV
  | [], _ => rfl
  | v :: vs, h => by
    have h1 := h v (by simp)
    have h2 := chunks_flat ag sz vs (fun w hw => h w (by simp [hw]))
    show _ :: chunks ag sz vs.length ((v.cells ++ vs.flatMap V.cells).drop sz) = _
    rw [List.drop_left' h1, h2, List.map_cons]
    congr 1
    cases ag
    · simp only [Bool.false_eq_true, if_false]
      show (v.cells ++ vs.flatMap V.cells).headD undefV = _
      cases hv : v.cells with
      | nil =>
        have h0 : sz = 0 := by rw [← h1, hv]; rfl
        cases vs with
        | nil => rfl
        | cons w vs =>
          have : w.cells = [] := List.eq_nil_of_length_eq_zero (by rw [h w (by simp), h0])
          simp only [List.flatMap_cons, this, List.nil_append]
          have : ∀ vs : List V, (∀ v ∈ vs, v.cells.length = sz) → vs.flatMap V.cells = [] := by
            intro vs hvs
            rw [List.flatMap_eq_nil_iff]
            intro x hx; exact List.eq_nil_of_length_eq_zero (by rw [hvs x hx, h0])
          rw [this vs (fun x hx => h x (by simp [hx]))]
      | cons a l => rfl
    · simp only [if_true]
      show V.agg ((v.cells ++ vs.flatMap V.cells).take sz) = _
      rw [List.take_left' h1]
variable (hR : RegOK R)
include hR
theorem notRaw_of {t : Ty} {x : Den R.T t} {v : V} (h : er v = encD R t x) : notRaw v = true := by
  cases v <;> try rfl
  have h1 := pclean_encD hR t x
  rw [← h] at h1
  simp [er, pclean] at h1
theorem bsl_fill {u : Ty} {sz len : Nat} (hsz : sz = szD R u) : ∀ (ps : List (Nat × TV R.T)) (qs : List (Nat × V)) (xs : List (Den R.T u)) (n : Nat) (done rest : List V), unDs R u n ps = some xs → ps.map (·.1) = qs.map (·.1) →
    RlL R ρ top (ps.map (·.2)) (qs.map (·.2)) → done.length = n * sz → rest.length = xs.length * sz → n + xs.length ≤ len →
    ∃ vs : List V, fillL (fun i => if i < len then some (i * sz, sz) else none) (done ++ rest) qs = some (done ++ vs.flatMap V.cells) ∧ vs.length = xs.length ∧ vs.map er = xs.map (encD R u) ∧ (∀ v ∈ vs, v.cells.length = sz ∧ oneCells v.cells = true)
  | [], [], xs, n, done, rest, h, _, _, h1, h2, _ => by
    cases h
    have : rest = [] := List.eq_nil_of_length_eq_zero (by simpa using h2)
    subst this
    exact ⟨[], by simp [fillL], rfl, rfl, by simp⟩
  | [], _ :: _, _, _, _, _, _, h, _, _, _, _ => by simp at h
  | _ :: _, [], _, _, _, _, _, h, _, _, _, _ => by simp at h
  | (i, v) :: ps, (j, w) :: qs, xs, n, done, rest, h, hi, hr, h1, h2, h3 => by
    simp only [List.map_cons, List.cons.injEq] at hi
    obtain ⟨rfl, hi⟩ := hi
    obtain ⟨y, ys, e, g1, g2⟩ := hr.inv_cons
    simp only [List.map_cons, List.cons.injEq] at e
    obtain ⟨rfl, rfl⟩ := e
    unfold unDs at h
    cases hb : Nat.beq i n
    · rw [hb] at h; cases h
    · rw [hb, cond_true] at h
      have := nbeq_t hb; subst this
      cases hu : unD R u v with
      | none => simp only [hu] at h; cases h
      | some x =>
        cases hs : unDs R u (i + 1) ps with
        | none => simp only [hu, hs] at h; cases h
        | some xs' =>
          simp only [hu, hs] at h
          obtain rfl := Option.some.inj h
          obtain ⟨a1, a2, a3, a4, a5⟩ := unD_cl hR hu g1
          rw [← hsz] at a4
          have hlen : rest.length = sz + xs'.length * sz := by rw [h2, List.length_cons, Nat.succ_mul]; omega
          have q1 : (done ++ w.cells).length = (i + 1) * sz := by rw [List.length_append, h1, a4, Nat.succ_mul]
          have q2 : (rest.drop sz).length = xs'.length * sz := by rw [List.length_drop, hlen, Nat.add_sub_cancel_left]
          have q3 : i + 1 + xs'.length ≤ len := by rw [List.length_cons] at h3; omega
          obtain ⟨vs, k1, k2, k3, k4⟩ := bsl_fill hsz ps qs xs' (i + 1) (done ++ w.cells) (rest.drop sz) hs hi g2 q1 q2 q3
          refine ⟨w :: vs, ?_, by simp [k2], by simp [a1, k3], ?_⟩
          · simp only [List.length_cons] at h3
            unfold fillL
            simp only [if_pos (show i < len by omega)]
            rw [if_pos ⟨a4, by rw [List.length_append, h1, hlen]; exact Nat.add_le_add_left (Nat.le_add_right _ _) _, notRaw_of hR a1⟩]
            have : spliceL (done ++ rest) (i * sz) w.cells = done ++ w.cells ++ rest.drop sz := by
              unfold spliceL
              rw [List.take_left' h1, a4, List.drop_append, h1, Nat.add_sub_cancel_left, List.drop_eq_nil_of_le (by omega)]
              rfl
            rw [this, k1]
            simp
          · intro z hz
            rcases List.mem_cons.1 hz with rfl | hz
            · exact ⟨a4, a5⟩
            · exact k4 z hz
theorem er_chunk {u : Ty} {sz : Nat} (hsz : sz = szD R u) (h1 : (isSt u || sz == 1) = true) {v : V} {x : Den R.T u} (he : er v = encD R u x) (hl : v.cells.length = sz) : er (if isSt u then .agg v.cells else v.cells.headD undefV) = encD R u x := by
  cases hs : isSt u
  · simp only [Bool.false_eq_true, if_false]
    have hne : ∀ cs, v ≠ .agg cs := by
      rintro cs rfl
      cases u <;> first | (simp [isSt] at hs; done) | (simp [er, encD] at he; done)
    have : v.cells = [v] := by cases v <;> first | rfl | exact absurd rfl (hne _)
    rw [this]; exact he
  · simp only [if_true]
    obtain ⟨l, hl'⟩ := (encD_cells hR u x).2.2.2.1 hs
    cases v <;> first | exact he | (rw [hl'] at he; simp [er] at he)
theorem bslM_ok {t : TypeId} {len : Nat} {ps : List (Nat × TV R.T)} {qs : List (Nat × V)} {r : Res R} (h : bslM E R t len ps = some r) (hi : ps.map (·.1) = qs.map (·.1)) (hr : RlL R ρ top (ps.map (·.2)) (qs.map (·.2))) : ValOK ρ top (buildSliceV E t len qs) r := by
  unfold bslM at h
  split at h
  · rename_i e u sz by_ he
    obtain ⟨z, e1, e2, e3, e4, e5, e6, e7, e8, e9⟩ := elM_eq he
    · obtain ⟨hc, h⟩ := bifs h
      rw [Bool.and_eq_true] at hc
      split at h
      · rename_i xs hx
        cases h
        have hlen : xs.length = len := by
          have : ∀ (ps : List (Nat × TV R.T)) (n : Nat) (xs : List (Den R.T u)), unDs R u n ps = some xs → xs.length = ps.length := by
            intro ps
            induction ps with
            | nil => intro n xs h; cases h; rfl
            | cons p ps ih =>
              intro n xs h
              obtain ⟨i, v⟩ := p
              unfold unDs at h
              obtain ⟨_, h⟩ := bifs h
              cases hu : unD R u v with
              | none => simp only [hu] at h; cases h
              | some x =>
                cases hs : unDs R u (n + 1) ps with
                | none => simp only [hu, hs] at h; cases h
                | some xs' => simp only [hu, hs] at h; cases h; simp [ih _ _ hs]
          rw [this ps 0 xs hx]; exact nbeq_t hc.2
        obtain ⟨vs, k1, k2, k3, k4⟩ := bsl_fill hR (len := len) e6 ps qs xs 0 [] ((List.replicate len z.cells).flatten) hx hi hr (by simp) (by simp [e9, hlen]) (by omega)
        refine ⟨.lst .full (xs.map (encD R u)), ?_, by unfold Rl; exact ⟨.full, rfl, rfl⟩⟩
        unfold buildSliceV
        rw [e1]; simp only [Option.bind_some, e2, e4, e5]
        rw [if_pos ⟨Nat.le_of_ble_eq_true hc.1, e9, e7, e8⟩]
        rw [List.nil_append, List.nil_append] at k1
        rw [k1]
        simp only [Option.bind_some]
        have hone : oneCells (vs.flatMap V.cells) = true := by
          unfold oneCells
          rw [List.all_flatMap, List.all_eq_true]
          intro v hv; exact (k4 v hv).2
        rw [hone, if_pos rfl, ← hlen, ← k2, chunks_flat _ _ _ (fun v hv => (k4 v hv).1), List.map_map]
        congr 2
        have : ∀ (vs : List V) (xs : List (Den R.T u)), vs.map er = xs.map (encD R u) → (∀ v ∈ vs, v.cells.length = sz ∧ oneCells v.cells = true) → vs.map (er ∘ fun v => if isSt u then .agg v.cells else v.cells.headD undefV) = xs.map (encD R u) := by
          intro vs
          induction vs with
          | nil => intro xs h _; exact h
          | cons v vs ih =>
            intro xs h hk
            cases xs with
            | nil => simp at h
            | cons x xs =>
              simp only [List.map_cons, List.cons.injEq] at h
              rw [List.map_cons, List.map_cons, ih xs h.2 (fun w hw => hk w (by simp [hw]))]
              congr 1
              exact er_chunk hR e6 e8 h.1 (hk v (by simp)).1
        rw [this vs xs k3 k4]
      · cases h
  · cases h
theorem row_enc {u : Ty} (l : List (Den R.T u)) : (l.map (encD R u)).all (fun v => oneCells v.cells) = true := by
  simp [List.all_map, (encD_cells hR u _).2.1]
theorem srcM_ok {u : Ty} {ag : Bool} {y : TV R.T} {v z : V} {l : List (Den R.T u)} (h : srcM R u y = some l) (hy : Rl R ρ top y v) : srcV σ ag (szD R u) z v = some (l.map (encD R u)) ∧ isIntV v = false := by
  unfold srcM at h
  split at h
  · obtain ⟨e, e2⟩ := castL_eq h; subst e; cases e2
    obtain ⟨c', rfl, _⟩ := hy.inv_lst
    exact ⟨by show (if headSz _ _ = true then _ else _) = _; rw [if_pos (headSz_enc hR _)], rfl⟩
  · cases h; rw [hy.inv_nils]; exact ⟨rfl, rfl⟩
  · rename_i s
    obtain ⟨e, e2⟩ := castL_eq h; subst e; cases e2
    rw [hy.inv_str]
    exact ⟨by show (if 1 = 1 then some (s.map byteV) else none) = _; rw [if_pos rfl]; exact congrArg some (bytes_map (R := R) s), rfl⟩
  · cases h
theorem appendV_lst {t e : TypeId} {sz by_ : Nat} {ag : Bool} {z : V} {c : Cap} {l ys : List V} {y : V} {loc : Option Loc} {stp : Nat} {P : Program} (h1 : elemT P t = some e) (h2 : szT P e = some sz) (h3 : bytesT P e = some by_) (h4 : isAggT P e = some ag) (h5 : zeroT P e = some z)
    (h6 : z.cells.length = sz) (h7 : 0 < sz) (h8 : (ag || sz == 1) = true) (hy : srcV σ ag sz z y = some ys) (hi : isIntV y = false) (ho : ys.all (fun v => oneCells v.cells) = true) (hr : roomOK (l.length + ys.length) by_ = true) (hh : headSz sz l = true) :
    appendV P false false σ stp loc t (.lst c l) y = match c with
      | .own n s => if n = sz ∧ σ.top s = l.length then some (.lst (.own n s) (l ++ ys), σ.setTop s (l.length + ys.length)) else none
      | .nil | .full => some (.lst (.own sz stp) (l ++ ys), σ.setTop stp (l.length + ys.length))
      | _ => none := by
  unfold appendV
  simp only [h1, h2, h3, h4, h5, Option.bind_some, hi, hy, ho, if_true]
  rw [if_pos ⟨trivial, h6, h7, h8⟩]
  simp only [hr, hh, and_self, if_true]
  cases c <;> rfl
theorem appM_ok {d : Option Nat} {t u : TypeId} {x y : TV R.T} {v w : V} {r : Res R} {stp : Nat} {loc : Option Loc} {o : Oper} (h : appM E R d t u x y st = some r) (hx : Rl R ρ σ.top x v) (hy : Rl R ρ σ.top y w) (hi : ImgR ρ stp st fr σ)
    (ho : ∀ y σ', appendV E.P false false σ stp loc t v w = some (y, σ') → StepTo E fr σ stp o y σ') : ResOK E st ρ stp fr σ o r := by
  unfold appM at h
  split at h
  · rename_i d
    split at h
    · rename_i e τ sz by_ he
      obtain ⟨z, e1, e2, e3, e4, e5, e6, e7, e8, e9⟩ := elM_eq he
      · obtain ⟨hss, h⟩ := bifs h
        split at h
        · rename_i tk l l' hd hs
          cases h
          intro hroom
          subst e6
          obtain ⟨g1, g2⟩ := srcM_ok hR (ag := isSt τ) (z := z) (σ := σ) hs hy
          have hlen : roomOK ((l.map (encD R τ)).length + (l'.map (encD R τ)).length) by_ = true := by rw [List.length_map, List.length_map]; exact hroom
          have hap : ∀ c, appendV E.P false false σ stp loc t (.lst c (l.map (encD R τ))) w = _ := fun c => appendV_lst hR (σ := σ) (c := c) (loc := loc) (stp := stp) e1 e2 e3 e4 e5 e9 e7 e8 g1 g2 (row_enc hR l') hlen (headSz_enc hR l)
          have fresh : ∀ (c : Cap), (c = .nil ∨ c = .full) → v = .lst c (l.map (encD R τ)) → ∃ x σ' ρ', StepTo E fr σ stp o x σ' ∧ ImgR ρ' (stp + 1) (st.wk tk) fr σ' ∧ σ'.next = σ.next ∧ Rl R ρ' σ'.top (.lst (.own tk) τ (l ++ l')) x ∧ ∀ p, o.dst ≠ some p → KpO true p st ρ σ (st.wk tk) ρ' σ' := by
            intro c hc hv
            subst hv
            have := hap c
            refine ⟨.lst (.own (szD R τ) stp) (l.map (encD R τ) ++ l'.map (encD R τ)), σ.setTop stp ((l.map (encD R τ)).length + (l'.map (encD R τ)).length), ρ.setTk tk stp, ho _ _ (by rw [this]; rcases hc with rfl | rfl <;> rfl), ?_, rfl, ?_, ?_⟩
            · exact hi.wk tk stp _ (Nat.le_succ _) (Nat.lt_succ_self _) (fun u _ hu => by have := hi.lt u _ hu; omega)
            · unfold Rl
              exact ⟨_, by rw [List.map_append], .inr (.inr ⟨stp, rfl, by simp [Rho.setTk, upd], by rw [top_setTop_eq]; simp⟩)⟩
            · exact fun p _ => KpO.wk
          unfold dstM at hd
          split at hd
          · rename_i l0
            split at hd
            · rename_i l1 hl1
              cases hd
              obtain ⟨e, e2⟩ := castL_eq hl1; subst e; cases e2
              obtain ⟨c', rfl, hc'⟩ := hx.inv_lst
              exact fresh c' (.inl hc') rfl
            · cases hd
          · rename_i l0
            split at hd
            · rename_i l1 hl1
              cases hd
              obtain ⟨e, e2⟩ := castL_eq hl1; subst e; cases e2
              obtain ⟨c', rfl, hc'⟩ := hx.inv_lst
              exact fresh c' (.inr hc') rfl
            · cases hd
          · rename_i tk' τ' l0
            split at hd
            · rename_i l1 hl1
              cases hd
              obtain ⟨e, e2⟩ := castL_eq hl1; subst e; cases e2
              obtain ⟨c', rfl, hc'⟩ := hx.inv_lst
              rcases hc' with hc' | hc' | ⟨s, hc', ht, hl⟩
              · exact fresh c' (.inl hc') rfl
              · exact fresh c' (.inr hc') rfl
              · subst hc'
                have := hap (.own (szD R τ') s)
                dsimp only at this
                rw [if_pos ⟨rfl, by rw [List.length_map]; exact hl⟩] at this
                refine ⟨_, _, ρ.setTk tk s, ho _ _ this, ?_, rfl, ?_, ?_⟩
                · exact hi.wk tk s _ (Nat.le_succ _) (by have := hi.lt tk s ht; omega) (fun u hu h' => hu (hi.inj u tk s h' ht))
                · unfold Rl
                  exact ⟨_, by rw [List.map_append], .inr (.inr ⟨s, rfl, by simp [Rho.setTk, upd], by rw [top_setTop_eq]; simp⟩)⟩
                · exact fun p _ => KpO.wk
            · cases hd
          · cases hd
            rw [hx.inv_nils] at fresh
            have hx' := hx.inv_nils
            subst hx'
            exact fresh .nil (.inl rfl) rfl
          · cases hd
        · cases h
    · cases h
  · cases h
omit hR in
theorem lenM_ok {t : TypeId} {x : TV R.T} {v : V} {n : Nat} (h : lenM E t x st = some n) (hx : Rl R ρ σ.top x v) (hi : ImgR ρ b st fr σ) : lenB E σ t v = some n := by
  unfold lenM at h
  unfold lenB
  split at h
  · rename_i hu; cases h; obtain ⟨c', rfl, _⟩ := hx.inv_lst; rw [hu]; simp
  · rename_i hu; cases h; rw [hx.inv_nils, hu]; rfl
  · rename_i o t hu
    split at h
    · rename_i t' l hl
      cases h
      have h1 := (hi.rd hl).1
      rcases hx.inv_vw with ⟨s, _, rfl⟩ | ⟨h0, rfl | rfl⟩
      · rw [hu]; dsimp only; rw [h1]
      · rw [hu]; dsimp only; rw [h1, h0]; rfl
      · rw [hu]; dsimp only; rw [h1, h0]; rfl
    · cases h
  · rename_i hu; cases h; rw [hx.inv_str, hu]
  · rename_i o hu
    split at h
    · rename_i k e m hl
      cases h
      obtain ⟨s, h1, rfl⟩ := hx.inv_mapr
      obtain ⟨s', h2, h3⟩ := hi.rd hl
      rw [h1] at h2; cases h2
      rw [hu]; dsimp only; rw [h3]; simp
    · cases h
  · rename_i hu; cases h; rw [hx.inv_mapc, hu]; simp
  · rename_i hu; cases h; unfold Rl at hx; subst hx; rw [hu]
  · rename_i hu; cases h; rw [hu]
  · cases h
omit hR in
theorem mmM_ok (mx : Bool) : ∀ {l : List (TV R.T)} {x y : TV R.T} {v : V} {k : List V}, mmM mx x l = some y → Rl R ρ top x v → RlL R ρ top l k → ∃ w, minMaxV mx v k = some w ∧ Rl R ρ top y w
  | [], x, y, v, k, h, hx, hl => by
    rw [hl.inv_nil]
    unfold mmM at h; cases h
    exact ⟨v, by cases v <;> rfl, hx⟩
  | z :: l, x, y, v, k, h, hx, hl => by
    obtain ⟨w, ws, rfl, h1, h2⟩ := hl.inv_cons
    unfold mmM at h
    split at h
    · rename_i hz; cases hz
    · rename_i k a k' b l' hz
      simp only [List.cons.injEq] at hz
      obtain ⟨rfl, rfl⟩ := hz
      split at h
      · rename_i e; subst e
        rw [hx.inv_int, h1.inv_int]
        unfold minMaxV
        rw [if_pos rfl]
        refine mmM_ok mx h ?_ h2
        unfold Rl
        cases mx <;> rfl
      · cases h
    · cases h
omit hR in
theorem tvs_len (c : Cp) : ∀ (l : List Ty) (p : PayT R.T l), (tvs R c l p).length = l.length
  | [], _ => rfl
  | [_], _ => rfl
  | _ :: u :: l, p => by show (tvs R c (u :: l) p.2).length + 1 = _; rw [tvs_len c (u :: l)]; rfl
omit hR in
theorem tvD_len (c : Cp) (t : Ty) (x : Den R.T t) : (tvD R c t x).cells.length = szD R t := by
  cases t with
  | st n => exact tvs_len c _ _
  | _ => rfl
omit hR in
theorem flat_len (t : Ty) : ∀ l : List (Den R.T t), (l.flatMap fun x => (tvD R .any t x).cells).length = l.length * szD R t
  | [] => by simp
  | x :: l => by rw [List.flatMap_cons, List.length_append, tvD_len, flat_len t l, List.length_cons, Nat.succ_mul]; omega
omit hR in
theorem get_split {α : Type} : ∀ {l : List α} {i : Nat} {x : α}, l[i]? = some x → ∃ a b, l = a ++ x :: b ∧ a.length = i
  | [], _, _, h => by simp at h
  | y :: l, 0, x, h => by simp at h; subst h; exact ⟨[], l, rfl, rfl⟩
  | y :: l, i + 1, x, h => by
    obtain ⟨a, b, rfl, hl⟩ := get_split (l := l) (i := i) (by simpa using h)
    exact ⟨y :: a, b, rfl, by simp [hl]⟩
omit hR in
theorem idxL_split {α : Type} {l : List α} {i : Int} {x : α} (h : idxL l i = some x) : ∃ a b, l = a ++ x :: b ∧ a.length = i.toNat ∧ 0 ≤ i := by
  unfold idxL at h
  split at h
  · rename_i hi
    obtain ⟨a, b, h1, h2⟩ := get_split h
    exact ⟨a, b, h1, h2, hi.1⟩
  · cases h
omit hR in
theorem partM_sub {ag : Bool} {n off : Nat} {pre el post : List (TV R.T)} {v : TV R.T} (h : partM ag n el off = some v) : partM ag n (pre ++ el ++ post) (pre.length + off) = some v := by
  cases ag with
  | true =>
    have h' : (bif Nat.ble (off + n) el.length then some (TV.agg ((el.drop off).take n)) else none) = some v := h
    obtain ⟨hb, h'⟩ := bifs h'
    have hle := Nat.le_of_ble_eq_true hb
    show (bif Nat.ble (pre.length + off + n) (pre ++ el ++ post).length then some (TV.agg (((pre ++ el ++ post).drop (pre.length + off)).take n)) else none) = some v
    have hb' : Nat.ble (pre.length + off + n) (pre ++ el ++ post).length = true := Nat.ble_eq_true_of_le (by simp; omega)
    rw [hb', cond_true, ← h']
    congr 2
    have e1 : (pre ++ el ++ post).drop (pre.length + off) = (el ++ post).drop off := by
      rw [List.append_assoc, List.drop_append, List.drop_eq_nil_of_le (by omega)]
      simp
    rw [e1, List.drop_append, List.take_append]
    have e2 : n - (el.drop off).length = 0 := by simp; omega
    rw [e2]; simp
  | false =>
    have h' : el[off]? = some v := h
    show (pre ++ el ++ post)[pre.length + off]? = some v
    have hlt : off < el.length := by rw [List.getElem?_eq_some_iff] at h'; exact h'.1
    rw [List.append_assoc, List.getElem?_append_right (by omega), Nat.add_sub_cancel_left, List.getElem?_append_left hlt]
    exact h'
omit hR in
theorem ldM_sub {t : TypeId} {off : Nat} {pre el post : List (TV R.T)} {v : TV R.T} (h : ldM E t el off = some v) : ldM E t (pre ++ el ++ post) (pre.length + off) = some v := by
  unfold ldM at h ⊢
  cases h1 : isAggT E.P t with
  | none => simp only [h1] at h; cases h
  | some a =>
    cases h2 : szT E.P t with
    | none => simp only [h1, h2] at h; cases h
    | some n => simp only [h1, h2] at h ⊢; exact partM_sub h
omit hR in
theorem ldM_len {t : TypeId} {off : Nat} {cs cs' : List (TV R.T)} (hl : cs.length = cs'.length) (h : (ldM E t cs off).isSome = true) : ∃ v, ldM E t cs' off = some v := by
  unfold ldM at h ⊢
  cases h1 : isAggT E.P t with
  | none => simp only [h1] at h; cases h
  | some a =>
    cases h2 : szT E.P t with
    | none => simp only [h1, h2] at h; cases h
    | some n =>
      simp only [h1, h2] at h ⊢
      cases a with
      | true =>
        have h' : (bif Nat.ble (off + n) cs.length then some (TV.agg ((cs.drop off).take n)) else none).isSome = true := h
        cases hb : Nat.ble (off + n) cs.length
        · rw [hb] at h'; cases h'
        · exact ⟨.agg ((cs'.drop off).take n), by show (bif Nat.ble (off + n) cs'.length then _ else _) = _; rw [← hl, hb]; rfl⟩
      | false =>
        have h' : cs[off]?.isSome = true := h
        have hlt : off < cs'.length := by rw [← hl]; simpa using h'
        exact ⟨cs'[off], List.getElem?_eq_getElem hlt⟩
omit hR in
theorem arr_at {o s : Nat} {τ : Ty} {l : List (Den R.T τ)} {i : Int} {y : Den R.T τ} (hO : ObR ρ σ o (.arr τ l)) (hs : ρ.ob o = some s) (hy : idxL l i = some y) :
    ∃ a b cs, l = a ++ y :: b ∧ a.length = i.toNat ∧ σ.cellsAt (1, o) s = some cs ∧ RlL R ρ σ.top ((a.flatMap fun x => (tvD R .any τ x).cells) ++ (tvD R .any τ y).cells ++ b.flatMap fun x => (tvD R .any τ x).cells) cs ∧ (a.flatMap fun x => (tvD R .any τ x).cells).length = i.toNat * szD R τ := by
  obtain ⟨a, b, rfl, h1, h2⟩ := idxL_split hy
  rcases hO.2 with h | ⟨s', cs, h3, h4, h5⟩
  · exact absurd h.1 (by simp)
  · rw [hs] at h3; cases h3
    refine ⟨a, b, cs, rfl, h1, h4, ?_, by rw [flat_len, h1]⟩
    rw [List.flatMap_append, List.flatMap_cons] at h5
    rw [List.append_assoc]; exact h5
omit hR in
theorem elLd_ok {t : TypeId} {o s off : Nat} {τ : Ty} {i : Int} {ob : Ob R.T} {r : Res R} (h : elLd E R t τ i off ob = some r) (hO : ObR ρ σ o ob) (hs : ρ.ob o = some s) : ∃ (l : List (Den R.T τ)) (f : Den R.T τ → TV R.T), r = .p (Den R.T τ) (dfl R τ) (idxL l i) f ∧
    ∀ y, idxL l i = some y → ∃ cs w, σ.cellsAt (1, o) s = some cs ∧ ldT E.P t cs (i.toNat * szD R τ + off) = some w ∧ Rl R ρ σ.top (f y) w := by
  unfold elLd at h
  split at h
  · rename_i τ' l0
    split at h
    · rename_i l1 hl
      obtain ⟨e, e2⟩ := castL_eq hl; subst e; cases e2
      obtain ⟨hb, h⟩ := bifs h
      cases h
      refine ⟨l0, _, rfl, fun y hy => ?_⟩
      obtain ⟨a, b, cs, h1, h2, h3, h4, h5⟩ := arr_at hO hs hy
      obtain ⟨v, hv⟩ := ldM_len (cs' := (tvD R .any τ' y).cells) (by rw [tvD_len, tvD_len]) hb
      have := ldM_sub (pre := a.flatMap fun x => (tvD R .any τ' x).cells) (post := b.flatMap fun x => (tvD R .any τ' x).cells) hv
      rw [h5] at this
      obtain ⟨w, hw, hr⟩ := ldM_rl h4 this
      exact ⟨cs, w, h3, hw, by rw [hv]; exact hr⟩
    · cases h
  · cases h
theorem unC_rl {τ : Ty} {cs : List (TV R.T)} {x : Den R.T τ} {vs : List V} (h : unC R τ cs = some x) (hr : RlL R ρ top cs vs) : RlL R ρ top (tvD R .any τ x).cells vs := by
  have one : ∀ (t : Ty) (x : Den R.T t), leafT t = true → un1 R t (hd1 R cs) = some x → RlL R ρ top [tv1 R .any t x] vs := by
    intro t x ht h
    cases cs with
    | nil => cases t <;> cases h
    | cons c cs =>
      cases cs with
      | nil =>
        obtain ⟨v, l, rfl, h1, h2⟩ := hr.inv_cons
        rw [h2.inv_nil]
        exact .cons' (un1_rl hR h h1) rfl
      | cons c' cs => cases t <;> cases h
  cases τ with
  | st n =>
    have := unD_rl hR (t := .st n) (show unD R (.st n) (.agg cs) = some x from h) (v := .agg vs) (by unfold Rl; exact ⟨vs, rfl, hr⟩)
    obtain ⟨l, e, hl⟩ := Rl.inv_agg this
    cases e; exact hl
  | int k => exact one (.int k) x rfl h
  | bool => exact one .bool x rfl h
  | str => exact one .str x rfl h
  | slice t => exact one (.slice t) x rfl h
omit hR in
theorem splice_mid {α : Type} (pre el post vs : List α) (off : Nat) (h : off + vs.length ≤ el.length) : (pre ++ el ++ post).take (pre.length + off) ++ vs ++ (pre ++ el ++ post).drop (pre.length + off + vs.length) = pre ++ (el.take off ++ vs ++ el.drop (off + vs.length)) ++ post := by
  have e1 : (pre ++ el ++ post).take (pre.length + off) = pre ++ el.take off := by
    rw [List.append_assoc, List.take_append, List.take_of_length_le (by omega), Nat.add_sub_cancel_left, List.take_append, Nat.sub_eq_zero_of_le (by omega)]
    simp
  have e2 : (pre ++ el ++ post).drop (pre.length + off + vs.length) = el.drop (off + vs.length) ++ post := by
    rw [List.append_assoc, List.drop_append, List.drop_eq_nil_of_le (by omega), show pre.length + off + vs.length - pre.length = off + vs.length by omega, List.drop_append, Nat.sub_eq_zero_of_le (by omega)]
    simp
  rw [e1, e2]
  simp
theorem elSt_ok {o s off : Nat} {τ : Ty} {i : Int} {l : List (Den R.T τ)} {y y' : Den R.T τ} {vc : List (TV R.T)} {vl : List V} (hO : ObR ρ σ o (.arr τ l)) (hs : ρ.ob o = some s) (hy : idxL l i = some y) (hv : RlL R ρ σ.top vc vl) (hle : off + vc.length ≤ szD R τ)
    (hu : unC R τ (spliceM (tvD R .any τ y).cells off vc) = some y') : ∃ cs, σ.cellsAt (1, o) s = some cs ∧ i.toNat * szD R τ + off + vl.length ≤ cs.length ∧ RlL R ρ σ.top ((setL l i y').flatMap fun x => (tvD R .any τ x).cells) (spliceL cs (i.toNat * szD R τ + off) vl) ∧ (setL l i y').length = l.length := by
  obtain ⟨a, b, cs, rfl, h2, h3, h4, h5⟩ := arr_at hO hs hy
  obtain ⟨p1, post, rfl, g1, g2⟩ := h4.split
  obtain ⟨pre, el, rfl, g3, g4⟩ := g1.split
  have l1 : pre.length = i.toNat * szD R τ := by rw [g3.length, h5]
  have l2 : el.length = szD R τ := by rw [g4.length, tvD_len]
  have l3 := hv.length
  refine ⟨_, h3, ?_, ?_, ?_⟩
  · rw [List.length_append, List.length_append]; omega
  · have e : setL (a ++ y :: b) i y' = a ++ y' :: b := by
      unfold setL
      rw [← h2, List.set_append_right _ _ (Nat.le_refl _), Nat.sub_self]; rfl
    rw [e, List.flatMap_append, List.flatMap_cons, ← List.append_assoc]
    have e2 : spliceL (pre ++ el ++ post) (i.toNat * szD R τ + off) vl = pre ++ spliceL el off vl ++ post := by
      unfold spliceL
      rw [← l1]; exact splice_mid pre el post vl off (by omega)
    rw [e2]
    exact (g3.append (unC_rl hR hu (spliceM_rl off g4 hv))).append g2
  · unfold setL; rw [List.length_set]
theorem enc_cells_rl (τ : Ty) (x : Den R.T τ) : RlL R ρ top (tvD R .any τ x).cells (encD R τ x).cells := by
  refine (cells_rl ?_ (tvD_rl' hR .any (.inl rfl) τ x)).1
  cases τ <;> rfl
theorem enc_flat_rl (τ : Ty) : ∀ l : List (Den R.T τ), RlL R ρ top (l.flatMap fun x => (tvD R .any τ x).cells) ((l.map (encD R τ)).flatMap V.cells)
  | [] => rfl
  | x :: l => by
    rw [List.map_cons, List.flatMap_cons, List.flatMap_cons]
    exact (enc_cells_rl hR τ x).append (enc_flat_rl τ l)
theorem appendV_om {t e : TypeId} {sz by_ : Nat} {ag : Bool} {z : V} {ys : List V} {x y : V} {loc : Option Loc} {stp : Nat} {P : Program} (h1 : elemT P t = some e) (h2 : szT P e = some sz) (h3 : bytesT P e = some by_) (h4 : isAggT P e = some ag) (h5 : zeroT P e = some z)
    (h6 : z.cells.length = sz) (h7 : 0 < sz) (h8 : (ag || sz == 1) = true) (hy : srcV σ ag sz z y = some ys) (hi : isIntV y = false) (ho : ys.all (fun v => oneCells v.cells) = true) :
    appendV P true false σ stp loc t x y = match x with
      | .lst c l => if roomOK (l.length + ys.length) by_ = true ∧ headSz sz l = true then
          match c with
          | .nil => loc.map fun loc => (.vw loc stp 0 (l.length + ys.length) (l.length + ys.length) sz ag, σ.setObj loc stp (.cells ((l ++ ys).flatMap V.cells)))
          | .full => if ys.isEmpty then some (.lst .full l, σ) else loc.map fun loc => (.vw loc stp 0 (l.length + ys.length) (l.length + ys.length) sz ag, σ.setObj loc stp (.cells ((l ++ ys).flatMap V.cells)))
          | _ => none else none
      | .vw loc0 s off len cap esz _ =>
        if roomOK (len + ys.length) by_ = true ∧ off = 0 ∧ esz = sz then
          loc.bind fun loc => (σ.cellsAt loc0 s).bind fun cs =>
            if len + ys.length ≤ cap then
              if (len + ys.length) * sz ≤ cs.length then
                some (.vw loc0 s 0 (len + ys.length) cap sz ag, σ.setObj loc0 s (.cells (spliceL cs (len * sz) (ys.flatMap V.cells))))
              else none
            else if len * sz ≤ cs.length then
              some (.vw loc stp 0 (len + ys.length) (len + ys.length) sz ag, (σ.delObj loc0).setObj loc stp (.cells (cs.take (len * sz) ++ ys.flatMap V.cells)))
            else none
        else none
      | _ => none := by
  unfold appendV
  simp only [h1, h2, h3, h4, h5, Option.bind_some, hi, hy, ho, if_true]
  rw [if_pos ⟨trivial, h6, h7, h8⟩]
  cases x <;> try rfl
  · rename_i c l
    cases c <;> rfl
  · simp only [true_and]
omit hR in
theorem KpO.newAr {o q s n : Nat} {x : Ob R.T} {a : AObj} (hne : q ≠ o) : KpO true q st ρ σ (st.new o x) (ρ.setAr o s n) (σ.setObj (1, o) s a) := ⟨(setAr_ne q hne).1, (setAr_ne q hne).2, rfl, Nat.le_refl _, fun _ _ => rfl, fun _ _ _ ha => set_deep ha, (KpO.new (nr := true) (ρ := ρ) (s := s) (a := a) hne).ro⟩
omit hR in
theorem KpO.del {o q : Nat} {y : Ob R.T} (hl : look st.ob o = some y) (hy : isRo y = false) : KpO true q st ρ σ (st.del o) ρ (σ.delObj (1, o)) := ⟨rfl, rfl, rfl, Nat.le_refl _, fun _ _ => rfl, fun _ _ _ ha => del_deep ha, fun hr => by
  have hne : q ≠ o := by rintro rfl; rw [hr y hl] at hy; cases hy
  refine ⟨fun z hz => ?_, fun s' => ?_⟩
  · have hz' : look (delF o st.ob) q = some z := hz
    rw [look_delF hne] at hz'
    exact hr z hz'
  · unfold Sig.cellsAt Sig.mapAt; rw [del_ne1 σ hne]; exact ⟨rfl, rfl⟩⟩
omit hR in
theorem KpO.del' {o q : Nat} {y : Ob R.T} (hl : look st.ob o = some y) (hy : isRo y = false) : KpO true q st ρ σ (st.del o) ρ σ := ⟨rfl, rfl, rfl, Nat.le_refl _, fun _ _ => rfl, fun _ _ _ _ => rfl, fun hr => by
  have hne : q ≠ o := by rintro rfl; rw [hr y hl] at hy; cases hy
  refine ⟨fun z hz => ?_, fun s' => ⟨rfl, rfl⟩⟩
  have hz' : look (delF o st.ob) q = some z := hz
  rw [look_delF hne] at hz'
  exact hr z hz'⟩
omit hR in
theorem look_delF_eq {α : Type} {p : Nat} : ∀ l : List (Nat × α), look (delF p l) p = none
  | [] => rfl
  | (j, x) :: l => by
    unfold delF
    cases hj : Nat.beq j p
    · show (bif Nat.beq j p then some x else look (delF p l) p) = none
      rw [hj]; exact look_delF_eq l
    · exact look_delF_eq l
omit hR in
theorem ImgR.del' (h : ImgR ρ b st fr σ) (o : Nat) : ImgR ρ b (st.del o) fr σ := { h with
  ob := fun p y hy => by
    by_cases e : p = o
    · subst e
      have : look (delF p st.ob) p = some y := hy
      rw [look_delF_eq] at this; cases this
    · have hy' : look (delF o st.ob) p = some y := hy
      rw [look_delF e] at hy'
      exact h.ob p y hy'
  fr := h.fr }
omit hR in
theorem newAr_ok {d stp : Nat} {τ : Ty} {l : List (Den R.T τ)} {L : List V} {st0 : MS R.T} {σ0 : Sig} {o : Oper} {v : V} {σ1 : Sig} (hd : o.dst = some d) (hi : ImgR ρ (stp + 1) st0 fr σ0) (hk : ∀ p, KpO true p st ρ σ st0 ρ σ0) (hn : σ0.next = σ.next) (hL : RlL R ρ σ0.top (l.flatMap fun x => (tvD R .any τ x).cells) L)
    (hs : StepTo E fr σ stp o v σ1) (hv : v = .vw (1, d) stp 0 l.length l.length (szD R τ) (isSt τ)) (h1 : σ1 = σ0.setObj (1, d) stp (.cells L)) : ∃ x σ' ρ', StepTo E fr σ stp o x σ' ∧ ImgR ρ' (stp + 1) (st0.new d (.arr τ l)) fr σ' ∧ σ'.next = σ.next ∧ Rl R ρ' σ'.top (.vw d τ) x ∧ ∀ p, o.dst ≠ some p → KpO true p st ρ σ (st0.new d (.arr τ l)) ρ' σ' := by
  subst hv; subst h1
  refine ⟨_, _, ρ.setAr d stp l.length, hs, hi.newAr d stp l.length ⟨(setLn_eq (ρ := ρ.setOb d stp)).symm, .inr ⟨stp, L, setOb_eq (ρ := ρ), cells_eq _ _ _ _, flat_any l L hL⟩⟩, hn, ?_, fun p hp => ?_⟩
  · unfold Rl
    exact .inl ⟨stp, setOb_eq (ρ := ρ), by rw [show (ρ.setAr d stp l.length).ln d = l.length from setLn_eq (ρ := ρ.setOb d stp)]⟩
  · have hne : p ≠ d := fun e => hp (by rw [hd, e])
    exact (hk p).trans (KpO.newAr hne)
theorem appOM_ok {d : Option Nat} {t u : TypeId} {x y : TV R.T} {v w : V} {r : Res R} {stp : Nat} {o : Oper} (h : appOM E R d t u x y st = some r) (hx : Rl R ρ σ.top x v) (hy : Rl R ρ σ.top y w) (hi : ImgR ρ stp st fr σ) (hd : o.dst = d)
    (ho : ∀ y σ', appendV E.P true false σ stp (d.map fun t => (1, t)) t v w = some (y, σ') → StepTo E fr σ stp o y σ') : ResOK E st ρ stp fr σ o r := by
  have hi1 := hi.le (Nat.le_succ stp)
  unfold appOM at h
  split at h
  · rename_i d
    split at h
    · rename_i e τ sz by_ he
      obtain ⟨z, e1, e2, e3, e4, e5, e6, e7, e8, e9⟩ := elM_eq he
      obtain ⟨hss, h⟩ := bifs h
      split at h
      · rename_i l' hs
        subst e6
        obtain ⟨g1, g2⟩ := srcM_ok hR (ag := isSt τ) (z := z) (σ := σ) hs hy
        have hap := fun x => appendV_om hR (σ := σ) (x := x) (loc := some (1, d)) (stp := stp) e1 e2 e3 e4 e5 e9 e7 e8 g1 g2 (row_enc hR l')
        split at h
        · rename_i p τ0 _
          split at h
          · rename_i e0
            subst e0
            split at h
            · rename_i τ' l0 hl
              split at h
              · rename_i a l1 l2 hl2
                obtain ⟨e, e2'⟩ := castL_eq hl2; subst e; cases e2'
                cases h
                intro hroom
                have hO := hi.ob _ _ hl
                have hlen : l0.length = ρ.ln p := hO.1
                have hnr : isRo (Ob.arr τ' l0) = false := rfl
                have hne : ¬ ((a :: l1).map (encD R τ')).isEmpty = true := by simp
                rcases hx.inv_vw with ⟨s, k1, rfl⟩ | ⟨k1, k2⟩
                · rcases hO.2 with hO2 | ⟨s', cs, k3, k4, k5⟩
                  · rw [k1] at hO2; exact absurd hO2.2 (by simp)
                  · rw [k1] at k3; cases k3
                    have := hap (.vw (1, p) s 0 (ρ.ln p) (ρ.ln p) (szD R τ') (isSt τ'))
                    dsimp only at this
                    have hlc : cs.length = l0.length * szD R τ' := by rw [k5.length, flat_len]
                    rw [if_pos ⟨by rw [List.length_map, ← hlen]; exact hroom, rfl, rfl⟩] at this
                    simp only [Option.bind_some, k4] at this
                    rw [if_neg (by rw [List.length_map, List.length_cons]; omega), if_pos (by rw [hlc, hlen]; exact Nat.le_refl _)] at this
                    refine newAr_ok (σ0 := σ.delObj (1, p)) (L := cs.take (ρ.ln p * szD R τ') ++ ((a :: l1).map (encD R τ')).flatMap V.cells) hd (hi1.del p) (fun q => KpO.del hl hnr) rfl ?_ (ho _ _ this) ?_ rfl
                    · rw [List.flatMap_append, List.take_of_length_le (by rw [hlc, hlen]; exact Nat.le_refl _)]
                      exact RlL.append k5 (enc_flat_rl hR _ _)
                    · rw [List.length_map, List.length_append, hlen]
                · have hl0 : l0 = [] := List.eq_nil_of_length_eq_zero (by omega)
                  subst hl0
                  have hroom' : roomOK (([] : List V).length + ((a :: l1).map (encD R τ')).length) by_ = true ∧ headSz (szD R τ') ([] : List V) = true := ⟨by rw [List.length_map]; exact hroom, rfl⟩
                  rcases k2 with rfl | rfl
                  · have := hap (.lst .nil [])
                    dsimp only at this
                    rw [if_pos hroom'] at this
                    refine newAr_ok (σ0 := σ) hd (hi1.del' p) (fun q => KpO.del' hl hnr) rfl (enc_flat_rl hR _ _) (ho _ _ this) ?_ rfl
                    simp
                  · have := hap (.lst .full [])
                    dsimp only at this
                    rw [if_pos hroom', if_neg hne] at this
                    refine newAr_ok (σ0 := σ) hd (hi1.del' p) (fun q => KpO.del' hl hnr) rfl (enc_flat_rl hR _ _) (ho _ _ this) ?_ rfl
                    simp
              · cases h
            · cases h
          · cases h
        · obtain ⟨hE, h⟩ := bifs h
          cases h
          intro hroom
          have hroom' : roomOK (([] : List V).length + (l'.map (encD R τ)).length) by_ = true ∧ headSz (szD R τ) ([] : List V) = true := ⟨by rw [List.length_map, List.length_nil, Nat.zero_add]; exact hroom, rfl⟩
          rcases isE_rl (fr := fr) hE (.of hx) with rfl | rfl
          · have := hap (.lst .nil [])
            dsimp only at this
            rw [if_pos hroom'] at this
            refine newAr_ok (σ0 := σ) hd hi1 (fun q => .refl) rfl (enc_flat_rl hR _ _) (ho _ _ this) ?_ rfl
            simp
          · have := hap (.lst .full [])
            dsimp only at this
            rw [if_pos hroom'] at this
            by_cases hne : ((l'.map (encD R τ)).isEmpty) = true
            · rw [if_pos hne] at this
              have hl' : l' = [] := by simpa using hne
              subst hl'
              refine ⟨_, _, ρ.gh d, ho _ _ this, hi1.ghost d τ, rfl, by unfold Rl; exact .inr ⟨setLn_eq (ρ := ρ) (n := 0), .inr rfl⟩, fun p hp => ?_⟩
              have hpd : p ≠ d := fun e => hp (by rw [hd, e])
              exact ⟨(gh_ne p hpd).1, (gh_ne p hpd).2, rfl, Nat.le_refl _, fun _ _ => rfl, fun _ _ _ _ => rfl, fun hr => ⟨((KpO.new (nr := true) (ρ := ρ) (σ := σ) (s := 0) (a := .cells []) hpd).ro hr).1, fun _ => ⟨rfl, rfl⟩⟩⟩
            · rw [if_neg hne] at this
              refine newAr_ok (σ0 := σ) hd hi1 (fun q => .refl) rfl (enc_flat_rl hR _ _) (ho _ _ this) ?_ rfl
              simp
      · cases h
    · cases h
  · cases h
omit hR in
theorem replicate_flat {α β : Type} (f : α → List β) (x : α) : ∀ n, (List.replicate n x).flatMap f = (List.replicate n (f x)).flatten
  | 0 => rfl
  | n + 1 => by rw [List.replicate_succ, List.replicate_succ, List.flatMap_cons, List.flatten_cons, replicate_flat f x n]
omit hR in
theorem RlL_rep {ts : List (TV R.T)} {vs : List V} (h : RlL R ρ top ts vs) : ∀ n, RlL R ρ top (List.replicate n ts).flatten (List.replicate n vs).flatten
  | 0 => rfl
  | n + 1 => by rw [List.replicate_succ, List.replicate_succ, List.flatten_cons, List.flatten_cons]; exact h.append (RlL_rep h n)
theorem mksM_ok {om : Bool} {d : Option Nat} {t : TypeId} {x y : TV R.T} {v w : V} {r : Res R} {stp : Nat} {o : Oper} (h : mksM E R om d t x y st = some r) (hx : Rl R ρ σ.top x v) (hy : Rl R ρ σ.top y w) (hi : ImgR ρ stp st fr σ) (hd : o.dst = d)
    (ho : ∀ y σ', makeSliceV E.P om σ stp (d.map fun t => (1, t)) t v w = some (y, σ') → StepTo E fr σ stp o y σ') : ResOK E st ρ stp fr σ o r := by
  have hi1 := hi.le (Nat.le_succ stp)
  unfold mksM at h
  split at h
  · rename_i d e τ sz by_ k n k' m he
    obtain ⟨z0, e1, e2, e3, e4, e5, e6, e7, e8, e9⟩ := elM_eq he
    split at h
    · rename_i z hz
      split at h
      · rename_i x0 hx0
        obtain ⟨zv, z1, z2⟩ := zeroM_rl (ρ := ρ) (top := σ.top) hz
        rw [e5] at z1; cases z1
        rw [hx.inv_int, hy.inv_int] at ho
        have mk : 0 ≤ n → n ≤ m → m ≤ 2 ^ 47 → roomOK m.toNat by_ = true → makeSliceV E.P om σ stp ((some d).map fun t => (1, t)) t (.int k n) (.int k' m) = if n = 0 ∧ om = false then some (.lst (.own sz stp) [], σ.setTop stp 0) else some (.vw (1, d) stp 0 n.toNat m.toNat sz (isSt τ), σ.setObj (1, d) stp (.cells (List.replicate m.toNat z0.cells).flatten)) := by
          intro h1 h2 h3 h4
          unfold makeSliceV
          simp only [e1, e2, e3, e5, Option.bind_some, bndI]
          rw [if_pos ⟨h1, h2, h4, h3, e9⟩]
          split
          · rfl
          · simp only [Option.map_some, Option.bind_some, e4]
        cases om with
        | true =>
          cases h
          intro hc
          rw [Bool.and_eq_true] at hc
          obtain ⟨c1, c2, c3⟩ := of_decide_eq_true hc.1
          subst c2
          have := mk c1 (Int.le_refl _) c3 hc.2
          rw [if_neg (by simp)] at this
          subst e6
          refine newAr_ok (σ0 := σ) hd hi1 (fun q => .refl) rfl ?_ (ho _ _ this) ?_ rfl
          · rw [replicate_flat]
            refine RlL_rep ?_ _
            have hzc : RlL R ρ σ.top (tvD R .any τ x0).cells z0.cells := by
              have h1 := unD_rl hR hx0 z2
              refine (cells_rl ?_ h1).1
              cases τ <;> rfl
            exact hzc
          · rw [List.length_replicate]
        | false =>
          cases h
          intro hc
          rw [Bool.and_eq_true] at hc
          obtain ⟨c1, c2, c3⟩ := of_decide_eq_true hc.1
          subst c1
          have := mk (Int.le_refl _) c2 c3 hc.2
          rw [if_pos ⟨rfl, rfl⟩] at this
          refine ⟨_, _, ρ.setTk d stp, ho _ _ this, hi.wk d stp _ (Nat.le_succ _) (Nat.lt_succ_self _) (fun u _ hu => by have := hi.lt u _ hu; omega), rfl, ?_, fun p _ => KpO.wk⟩
          unfold Rl
          exact ⟨_, rfl, .inr (.inr ⟨stp, by rw [e6], by simp [Rho.setTk, upd], by rw [top_setTop_eq]; rfl⟩)⟩
      · cases h
    · cases h
  · cases h
theorem ivM_ok {om : Bool} {t : TypeId} {p : Nat} {τ : Ty} {y : TV R.T} {v w : V} {r : Res R} (h : ivM E R t p τ y st = some r) (hx : Rl R ρ σ.top (.vw p τ) v) (hy : Rl R ρ σ.top y w) (hi : ImgR ρ b st fr σ) : ValOK ρ σ.top (indexAddrV E.P t v w) r := by
  unfold ivM at h
  split at h
  · rename_i e k n hu
    split at h
    · rename_i sz hs
      obtain ⟨hb, h⟩ := bifs h
      split at h
      · rename_i τ' l hl
        cases h
        have := nbeq_t hb; subst this
        rw [hy.inv_int]
        intro hc
        have hc' := of_decide_eq_true hc
        have hlen := (hi.rd hl).1
        rcases hx.inv_vw with ⟨s, k1, rfl⟩ | ⟨h0, _⟩
        · refine ⟨.ref (1, p) s (n.toNat * szD R τ), ?_, by unfold Rl; exact ⟨s, k1, hc'.1, rfl⟩⟩
          unfold indexAddrV
          rw [hu]
          simp only [hs, Option.bind_some, idx, bndI]
          rw [if_pos ⟨hc'.1, by rw [← hlen]; exact hc'.2⟩]
          simp
        · rw [hlen, h0] at hc'; omega
      · cases h
    · cases h
  · cases h
end
end Aq
end
section
namespace Aq
open Go
set_option linter.unusedSectionVars false
set_option linter.unusedVariables false
section
variable {R : Reg} {E : Env}
variable {ρ : Rho} {top : Nat → Nat} {b : Nat} {st : MS R.T} {fr : Fr} {σ : Sig}
theorem closeV_fnc {n : Nat} {f : Nat} (a b : List V) : closeV (n + 2) σ (.fn (.func f) a b) = (a.mapM (closeV (n + 1) σ)).bind fun a => (b.mapM (closeV (n + 1) σ)).map fun b => .fn (.func f) a b := by
  by_cases hp : pclean (.fn (.func f) a b) = true
  · rw [closeV_clean hp]
    have : ∀ cs : List V, pcleanL cs = true → cs.mapM (closeV (n + 1) σ) = some cs := by
      intro cs
      induction cs with
      | nil => intro _; rfl
      | cons a l ih =>
        intro h
        simp only [pcleanL, Bool.and_eq_true] at h
        rw [List.mapM_cons, closeV_clean h.1, ih h.2]; rfl
    simp only [pclean, Bool.and_eq_true] at hp
    rw [this a hp.1, this b hp.2]; rfl
  · conv => lhs; unfold closeV
    simp only [hp, if_false, Bool.false_eq_true]
theorem closeV_crefc {n : Nat} {off : Nat} (cs : List V) : closeV (n + 2) σ (.cref cs off) = (cs.mapM (closeV (n + 1) σ)).map (.cref · off) := by
  by_cases hp : pclean (.cref cs off) = true
  · rw [closeV_clean hp]
    have : ∀ cs : List V, pcleanL cs = true → cs.mapM (closeV (n + 1) σ) = some cs := by
      intro cs
      induction cs with
      | nil => intro _; rfl
      | cons a l ih =>
        intro h
        simp only [pcleanL, Bool.and_eq_true] at h
        rw [List.mapM_cons, closeV_clean h.1, ih h.2]; rfl
    rw [this cs (by simpa [pclean] using hp)]; rfl
  · conv => lhs; unfold closeV
    simp only [hp, if_false, Bool.false_eq_true]
variable (hR : RegOK R)
include hR
theorem pclean_mapc {k e : Ty} (m : List (Den R.T k × Den R.T e)) : pclean (.mapc (m.map fun p => encD R k p.1) (m.map fun p => encD R e p.2)) = true := by
  simp only [pclean, Bool.and_eq_true]
  have h1 : ∀ m : List (Den R.T k × Den R.T e), pcleanL (m.map fun p => encD R k p.1) = true ∧ pcleanL (m.map fun p => encD R e p.2) = true := by
    intro m
    induction m with
    | nil => exact ⟨rfl, rfl⟩
    | cons p m ih => exact ⟨by simp [pcleanL, pclean_encD hR, ih.1], by simp [pcleanL, pclean_encD hR, ih.2]⟩
  exact h1 m
theorem cl1_close : ∀ (t : Ty) (x : Den R.T t) (v : V), leafT t = true → Rl R ρ top (tv1 R .any t x) v → ∀ n σ, closeV (n + 2) σ v = some (encD R t x)
  | .int k, x, v, _, h, n, σ => by rw [Rl.inv_int (R := R) h]; exact closeV_int (n + 1) _ _
  | .bool, x, v, _, h, n, σ => by rw [Rl.inv_bool (R := R) h]; exact closeV_bool (n + 1) _
  | .str, x, v, _, h, n, σ => by rw [Rl.inv_str (R := R) h]; exact closeV_str (n + 1) _
  | .slice t, x, v, _, h, n, σ => by
    obtain ⟨c, rfl, _⟩ := Rl.inv_lst (R := R) h
    exact closeV_lstc _ _ (pclean_encD hR _)
  | .st n, _, _, h, _, _, _ => by simp [leafT] at h
theorem cls_close : ∀ (l : List Ty) (p : PayT R.T l) (vs : List V), l.all leafT = true → RlL R ρ top (tvs R .any l p) vs → ∀ n σ, vs.mapM (closeV (n + 2) σ) = some (encs R l p)
  | [], _, vs, _, h, n, σ => by rw [RlL.inv_nil h]; rfl
  | [t], x, vs, hl, h, n, σ => by
    obtain ⟨v, l, rfl, h1, h2⟩ := RlL.inv_cons h
    rw [RlL.inv_nil h2, List.mapM_cons, cl1_close hR t x v (by simpa using hl) h1]; rfl
  | t :: u :: l, p, vs, hl, h, n, σ => by
    rw [List.all_cons, Bool.and_eq_true] at hl
    obtain ⟨v, ws, rfl, h1, h2⟩ := RlL.inv_cons h
    rw [List.mapM_cons, cl1_close hR t p.1 v hl.1 h1, cls_close (u :: l) p.2 ws hl.2 h2]; rfl
theorem cell_close (t : Ty) (x : Den R.T t) (vs : List V) (h : RlL R ρ top (tvD R .any t x).cells vs) (n : Nat) (σ : Sig) : vs.mapM (closeV (n + 2) σ) = some (encD R t x).cells := by
  cases t with
  | st k =>
    have he : encD R (.st k) x = .agg (encs R (R.lf k) (R.of k x)) := hR.enc k x
    rw [he]
    exact cls_close hR _ _ vs (hR.leaf k) h n σ
  | int k => exact cls_close hR [.int k] x vs rfl h n σ
  | bool => exact cls_close hR [.bool] x vs rfl h n σ
  | str => exact cls_close hR [.str] x vs rfl h n σ
  | slice t => exact cls_close hR [.slice t] x vs rfl h n σ
theorem flat_close {t : Ty} {ρ : Rho} {top : Nat → Nat} : ∀ (l : List (Den R.T t)) (cs : List V), RlL R ρ top (l.flatMap fun x => (tvD R .any t x).cells) cs → ∀ (n : Nat) (σ : Sig), cs.mapM (closeV (n + 2) σ) = some ((l.map (encD R t)).flatMap V.cells)
  | [], cs, h, n, σ => by rw [RlL.inv_nil h]; rfl
  | x :: l, cs, h, n, σ => by
    rw [List.flatMap_cons] at h
    obtain ⟨a, b, rfl, h1, h2⟩ := h.split
    rw [List.mapM_append, flat_close l b h2 n σ, List.map_cons, List.flatMap_cons]
    have : a.mapM (closeV (n + 2) σ) = some (encD R t x).cells := cell_close hR t x a h1 n σ
    rw [this]; rfl
theorem flat_chunks {t : Ty} (l : List (Den R.T t)) : chunks (isSt t) (szD R t) l.length ((l.map (encD R t)).flatMap V.cells) = l.map (encD R t) := by
  have := chunks_flat (isSt t) (szD R t) (l.map (encD R t)) (fun v hv => by
    obtain ⟨x, _, rfl⟩ := List.mem_map.1 hv
    exact (encD_cells hR t x).1)
  rw [List.length_map] at this
  rw [this, List.map_map]
  refine List.map_congr_left fun x _ => ?_
  show (if isSt t then V.agg (encD R t x).cells else (encD R t x).cells.headD undefV) = encD R t x
  cases hs : isSt t
  · cases t <;> first | rfl | (simp [isSt] at hs; done)
  · obtain ⟨c, hc⟩ := (encD_cells hR t x).2.2.2.1 hs
    rw [hc]; rfl
theorem flat_chk {t : Ty} (l : List (Den R.T t)) : (isSt t || szD R t == 1 && oneCells ((l.map (encD R t)).flatMap V.cells)) = true := by
  cases hs : isSt t
  · have h1 : szD R t = 1 := by cases t <;> first | rfl | (simp [isSt] at hs; done)
    rw [h1]
    have : oneCells ((l.map (encD R t)).flatMap V.cells) = true := by
      have := row_enc hR l
      unfold oneCells at this ⊢
      rw [List.all_flatMap]
      exact this
    rw [this]; rfl
  · rfl
theorem clo1_ok (hi : ImgR ρ b st fr σ) {x : TV R.T} {v : V} (h : Rl R ρ σ.top x v) : ∃ v', Rl R ρ σ.top (clo1 st x) v' ∧ ∀ n, closeV (n + 3) σ v = closeV (n + 3) σ v' := by
  by_cases hx : ∃ o off, x = .ref o off
  · obtain ⟨o, off, rfl⟩ := hx
    unfold clo1
    dsimp only
    split
    · rename_i cs hl
      obtain ⟨s, h1, rfl⟩ := h.inv_ref
      obtain ⟨s', l, h2, h3, h4⟩ := hi.rd hl
      rw [h1] at h2; cases h2
      refine ⟨.cref l off, by unfold Rl; exact ⟨l, rfl, h4⟩, fun n => ?_⟩
      rw [closeV_crefc]
      conv => lhs; unfold closeV
      simp only [pclean, Bool.false_eq_true, if_false, h3, Option.bind_some]
    · exact ⟨v, h, fun _ => rfl⟩
  · by_cases hy : ∃ o, x = .mapr o
    · obtain ⟨o, rfl⟩ := hy
      unfold clo1
      dsimp only
      split
      · rename_i k e m hl
        obtain ⟨s, h1, rfl⟩ := h.inv_mapr
        obtain ⟨s', h2, h3⟩ := hi.rd hl
        rw [h1] at h2; cases h2
        refine ⟨.mapc (m.map fun p => encD R k p.1) (m.map fun p => encD R e p.2), by unfold Rl; rfl, fun n => ?_⟩
        have hp := pclean_mapc hR m
        rw [closeV_clean hp]
        have hp' := hp
        simp only [pclean, Bool.and_eq_true] at hp'
        have key : ∀ cs : List V, pcleanL cs = true → cs.mapM (closeV (n + 2) σ) = some cs := by
          intro cs
          induction cs with
          | nil => intro _; rfl
          | cons a l ih =>
            intro h
            simp only [pcleanL, Bool.and_eq_true] at h
            rw [List.mapM_cons, closeV_clean h.1, ih h.2]; rfl
        conv => lhs; unfold closeV
        simp only [pclean, Bool.false_eq_true, if_false, h3, Option.bind_some, key _ hp'.1, key _ hp'.2, Option.map_some]
      · exact ⟨v, h, fun _ => rfl⟩
    · by_cases hz : ∃ o t, x = .vw o t
      · obtain ⟨o, t, rfl⟩ := hz
        unfold clo1
        dsimp only
        split
        · rename_i t' l hl
          split
          · rename_i e
            subst e
            have hO := hi.rd hl
            refine ⟨.lst .sh (l.map (encD R t')), by unfold Rl; exact ⟨.sh, rfl, rfl⟩, fun n => ?_⟩
            rw [closeV_lstc _ _ (pclean_encD hR t')]
            rcases h.inv_vw with ⟨s, h1, rfl⟩ | ⟨h1, h2⟩
            · rcases hO.2 with h2 | ⟨s', cs, h2, h3, h4⟩
              · rw [h1] at h2; exact absurd h2.2 (by simp)
              · rw [h1] at h2; cases h2
                have hlc : cs.length = l.length * szD R t' := by rw [h4.length, flat_len]
                have hlen : l.length = ρ.ln o := hO.1
                conv => lhs; unfold closeV
                simp only [pclean, Bool.false_eq_true, if_false, h3, Option.bind_some, Nat.zero_add, List.drop_zero]
                rw [if_pos (by rw [hlc, hlen]; exact Nat.le_refl _), List.take_of_length_le (by rw [hlc, hlen]; exact Nat.le_refl _), flat_close hR l cs h4 n σ]
                simp only [Option.bind_some]
                rw [← hlen, flat_chunks hR l, flat_chk hR l, if_pos rfl]
                rfl
            · have hl0 : l = [] := List.eq_nil_of_length_eq_zero (hO.1.trans h1)
              subst hl0
              rcases h2 with rfl | rfl <;> exact closeV_lstc _ ([] : List (Den R.T t')) (pclean_encD hR t')
          · exact ⟨v, h, fun _ => rfl⟩
        · exact ⟨v, h, fun _ => rfl⟩
      · have : clo1 st x = x := by cases x <;> first | rfl | exact absurd ⟨_, _, rfl⟩ hx | exact absurd ⟨_, rfl⟩ hy | exact absurd ⟨_, _, rfl⟩ hz
        rw [this]; exact ⟨v, h, fun _ => rfl⟩
theorem clo1s_ok (hi : ImgR ρ b st fr σ) : ∀ {x : List (TV R.T)} {v : List V}, RlL R ρ σ.top x v → ∃ v', RlL R ρ σ.top (clo1s st x) v' ∧ ∀ n, v.mapM (closeV (n + 3) σ) = v'.mapM (closeV (n + 3) σ)
  | [], v, h => by rw [h.inv_nil]; exact ⟨[], rfl, fun _ => rfl⟩
  | x :: xs, v, h => by
    obtain ⟨w, ws, rfl, h1, h2⟩ := h.inv_cons
    obtain ⟨w', a1, a2⟩ := clo1_ok hR hi h1
    obtain ⟨ws', b1, b2⟩ := clo1s_ok hi h2
    exact ⟨w' :: ws', .cons' a1 b1, fun n => by rw [List.mapM_cons, List.mapM_cons, a2, b2]⟩
theorem cloM_ok (hi : ImgR ρ b st fr σ) {x : TV R.T} {v : V} (h : Rl R ρ σ.top x v) : ∃ v', Rl R ρ σ.top (cloM st x) v' ∧ ∀ n, closeV (n + 4) σ v = closeV (n + 4) σ v' := by
  by_cases hx : ∃ f a b, x = .fn f a b
  · obtain ⟨f, a, b, rfl⟩ := hx
    obtain ⟨a', b', rfl, ha, hb⟩ := h.inv_fn
    obtain ⟨va, a1, a2⟩ := clo1s_ok hR hi ha
    obtain ⟨vb, b1, b2⟩ := clo1s_ok hR hi hb
    refine ⟨.fn (.func f) va vb, ⟨va, vb, rfl, a1, b1⟩, fun n => ?_⟩
    rw [closeV_fnc, closeV_fnc, a2, b2]
  · by_cases hy : ∃ cs, x = .agg cs
    · obtain ⟨cs, rfl⟩ := hy
      obtain ⟨l, rfl, hl⟩ := h.inv_agg
      obtain ⟨v', a1, a2⟩ := clo1s_ok hR hi hl
      refine ⟨.agg v', by unfold cloM; unfold Rl; exact ⟨v', rfl, a1⟩, fun n => ?_⟩
      rw [closeV_aggc', closeV_aggc', a2]
    · have : cloM st x = clo1 st x := by cases x <;> first | rfl | exact absurd ⟨_, _, _, rfl⟩ hx | exact absurd ⟨_, rfl⟩ hy
      rw [this]
      obtain ⟨v', h1, h2⟩ := clo1_ok hR hi h
      exact ⟨v', h1, fun n => h2 (n + 1)⟩
theorem cloMs_ok (hi : ImgR ρ b st fr σ) : ∀ {x : List (TV R.T)} {v : List V}, RlL R ρ σ.top x v → ∃ v', RlL R ρ σ.top (cloMs st x) v' ∧ ∀ n, v.mapM (closeV (n + 4) σ) = v'.mapM (closeV (n + 4) σ)
  | [], v, h => by rw [h.inv_nil]; exact ⟨[], rfl, fun _ => rfl⟩
  | x :: xs, v, h => by
    obtain ⟨w, ws, rfl, h1, h2⟩ := h.inv_cons
    obtain ⟨w', a1, a2⟩ := cloM_ok hR hi h1
    obtain ⟨ws', b1, b2⟩ := cloMs_ok hi h2
    exact ⟨w' :: ws', .cons' a1 b1, fun n => by rw [List.mapM_cons, List.mapM_cons, a2, b2]⟩
mutual
theorem pk_cl : ∀ (k : Sk) (x : PayS R.T k) (tv : TV R.T) (v : V), cSk k = true → pk R k tv = some x → Rl R ρ top tv v → ∀ n σ, dep k ≤ n → closeV n σ v = some (encS R k x)
  | .d t, x, tv, v, _, h, hr, n, σ, hn => by
    obtain ⟨m, rfl⟩ : ∃ m, n = m + 3 := ⟨n - 3, by have : 3 ≤ n := hn; omega⟩
    exact (unD_cl hR (show unD R t tv = some x from h) hr).2.2.1 m σ
  | .l c t, x, tv, v, _, h, hr, n, σ, hn => by
    obtain ⟨m, rfl⟩ : ∃ m, n = m + 3 := ⟨n - 3, by have : 3 ≤ n := hn; omega⟩
    obtain ⟨c', rfl, _⟩ := (pkLst_rl (show pkLst R c t tv = some x from h) hr).inv_lst
    exact closeV_lstc _ _ (pclean_encD hR _)
  | .agg l, x, tv, v, hc, h, hr, n, σ, hn => by
    cases tv <;> first | (exact absurd (show none = some x from h) (by simp)) | skip
    rename_i cs
    obtain ⟨vs, rfl, hl⟩ := hr.inv_agg
    unfold dep at hn
    obtain ⟨m, rfl⟩ : ∃ m, n = m + 2 := ⟨n - 2, by omega⟩
    rw [closeV_aggc, pkL_cl l x cs vs (by unfold cSk at hc; exact hc) h hl (m + 1) σ (by omega)]; rfl
  | .cref l off, x, tv, v, hc, h, hr, n, σ, hn => by
    cases tv <;> first | (exact absurd (show none = some x from h) (by simp)) | skip
    rename_i cs off'
    have h' : (bif Nat.beq off' off then pkL R l cs else none) = some x := h
    obtain ⟨hb, h'⟩ := bifs h'
    rw [nbeq_t hb] at hr
    obtain ⟨vs, rfl, hl⟩ := hr.inv_cref
    unfold dep at hn
    obtain ⟨m, rfl⟩ : ∃ m, n = m + 2 := ⟨n - 2, by omega⟩
    rw [closeV_crefc, pkL_cl l x cs vs (by unfold cSk at hc; exact hc) h' hl (m + 1) σ (by omega)]; rfl
  | .mapc k e, x, tv, v, _, h, hr, n, σ, hn => by
    cases tv <;> first | (exact absurd (show none = some x from h) (by simp)) | skip
    rename_i k' e' m
    obtain ⟨e1, e2, e3⟩ := castM_eq (show castM R m = some x from h)
    subst e1; subst e2; cases e3
    obtain ⟨m', rfl⟩ : ∃ m, n = m + 3 := ⟨n - 3, by have : 3 ≤ n := hn; omega⟩
    rw [hr.inv_mapc]
    exact closeV_clean (pclean_mapc hR m)
  | .fn f a b, x, tv, v, hc, h, hr, n, σ, hn => by
    cases tv <;> first | (exact absurd (show none = some x from h) (by simp)) | skip
    rename_i f' a' b'
    have h' : (bif Nat.beq f' f then (match pkL R a a' with
      | some x => match pkL R b b' with
        | some y => some (x, y)
        | none => none
      | none => none) else none) = some x := h
    obtain ⟨hb, h'⟩ := bifs h'
    rw [nbeq_t hb] at hr
    obtain ⟨va, vb, rfl, ha, hbb⟩ := hr.inv_fn
    unfold cSk at hc
    rw [Bool.and_eq_true] at hc
    unfold dep at hn
    obtain ⟨m, rfl⟩ : ∃ m, n = m + 2 := ⟨n - 2, by omega⟩
    cases h1 : pkL R a a' with
    | none => simp only [h1] at h'; cases h'
    | some y =>
      cases h2 : pkL R b b' with
      | none => simp only [h1, h2] at h'; cases h'
      | some z =>
        simp only [h1, h2] at h'; cases h'
        rw [closeV_fnc, pkL_cl a y a' va hc.1 h1 ha (m + 1) σ (by omega), pkL_cl b z b' vb hc.2 h2 hbb (m + 1) σ (by omega)]; rfl
  | .ref _ _, _, _, _, h, _, _, _, _, _ => by simp [cSk] at h
  | .mapr _, _, _, _, h, _, _, _, _, _ => by simp [cSk] at h
  | .nils, _, _, _, h, _, _, _, _, _ => by simp [cSk] at h
  | .vw _ _, _, _, _, h, _, _, _, _, _ => by simp [cSk] at h
  | .undef, _, _, _, h, _, _, _, _, _ => by simp [cSk] at h
theorem pkL_cl : ∀ (l : List Sk) (x : PayL R.T l) (cs : List (TV R.T)) (vs : List V), cSkL l = true → pkL R l cs = some x → RlL R ρ top cs vs → ∀ n σ, depL l ≤ n → vs.mapM (closeV n σ) = some (encSL R l x)
  | [], x, cs, vs, _, h, hr, n, σ, hn => by
    cases cs with
    | nil => rw [hr.inv_nil]; rfl
    | cons c cs => exact absurd (show none = some x from h) (by simp)
  | [k], x, cs, vs, hc, h, hr, n, σ, hn => by
    unfold cSkL at hc
    rw [Bool.and_eq_true] at hc
    unfold depL at hn
    cases cs with
    | nil => exact absurd (show none = some x from h) (by simp)
    | cons c cs =>
      cases cs with
      | nil =>
        obtain ⟨v, l, rfl, h1, h2⟩ := hr.inv_cons
        rw [h2.inv_nil, List.mapM_cons, pk_cl k x c v hc.1 h h1 n σ (by omega)]; rfl
      | cons c' cs => exact absurd (show none = some x from h) (by simp)
  | k :: k' :: l, x, cs, vs, hc, h, hr, n, σ, hn => by
    unfold cSkL at hc
    rw [Bool.and_eq_true] at hc
    unfold depL at hn
    cases cs with
    | nil => exact absurd (show none = some x from h) (by simp)
    | cons c cs =>
      have h' : (match pk R k c with
        | some x => match pkL R (k' :: l) cs with
          | some p => some (x, p)
          | none => none
        | none => none) = some x := h
      obtain ⟨v, vs, rfl, h1, h2⟩ := hr.inv_cons
      cases hu : pk R k c with
      | none => simp only [hu] at h'; cases h'
      | some y =>
        cases hs : pkL R (k' :: l) cs with
        | none => simp only [hu, hs] at h'; cases h'
        | some q =>
          simp only [hu, hs] at h'
          obtain rfl := Option.some.inj h'
          rw [List.mapM_cons, pk_cl k y c v hc.1 hu h1 n σ (by omega), pkL_cl (k' :: l) q cs vs hc.2 hs h2 n σ (by omega)]; rfl
end
mutual
theorem stV_rl : ∀ (tv : TV R.T) (v : V), stV tv = true → Rl R ρ top tv v → pclean v = true
  | .int _ _, v, _, h => by rw [h.inv_int]; exact pclean_int _ _
  | .bool _, v, _, h => by rw [h.inv_bool]; exact pclean_bool _
  | .blit _, v, _, h => by rw [h.inv_blit]; exact pclean_bool _
  | .str _, v, _, h => by rw [h.inv_str]; exact pclean_str _
  | .nilp, v, _, h => by unfold Rl at h; subst h; simp [pclean]
  | .nilf, v, _, h => by unfold Rl at h; subst h; simp [pclean]
  | .nilm, v, _, h => by unfold Rl at h; subst h; simp [pclean]
  | .nili, v, _, h => by unfold Rl at h; subst h; simp [pclean]
  | .lst c t l, v, hs, h => by
    cases c <;> simp only [stV, Bool.false_eq_true] at hs
    obtain ⟨c', rfl, hc⟩ := h.inv_lst
    obtain rfl : c' = .sh := hc
    exact pclean_lst (pclean_encD hR t) l
  | .agg cs, v, hs, h => by
    obtain ⟨l, rfl, hl⟩ := h.inv_agg
    unfold pclean; exact stL_rl cs l (by unfold stV at hs; exact hs) hl
  | .tup cs, v, hs, h => by
    obtain ⟨l, rfl, hl⟩ := h.inv_tup
    unfold pclean; exact stL_rl cs l (by unfold stV at hs; exact hs) hl
  | .mapc k e m, v, _, h => by rw [h.inv_mapc]; exact pclean_mapc hR m
  | .fn f a b, v, hs, h => by
    obtain ⟨a', b', rfl, ha, hb⟩ := h.inv_fn
    unfold stV at hs
    rw [Bool.and_eq_true] at hs
    unfold pclean; rw [stL_rl a a' hs.1 ha, stL_rl b b' hs.2 hb]; rfl
  | .nils, _, hs, _ => by simp [stV] at hs
  | .ref _ _, _, hs, _ => by simp [stV] at hs
  | .cref cs off, v, hs, h => by
    obtain ⟨l, rfl, hl⟩ := h.inv_cref
    unfold pclean; exact stL_rl cs l (by unfold stV at hs; exact hs) hl
  | .vw _ _, _, hs, _ => by simp [stV] at hs
  | .eref _ _ _ _, _, hs, _ => by simp [stV] at hs
  | .mapr _, _, hs, _ => by simp [stV] at hs
  | .opt _ _ _, _, hs, _ => by simp [stV] at hs
  | .undef, _, hs, _ => by simp [stV] at hs
  | .gone, _, hs, _ => by simp [stV] at hs
theorem stL_rl : ∀ (l : List (TV R.T)) (vs : List V), stL l = true → RlL R ρ top l vs → pcleanL vs = true
  | [], vs, _, h => by rw [h.inv_nil]; rfl
  | x :: l, vs, hs, h => by
    obtain ⟨v, ws, rfl, h1, h2⟩ := h.inv_cons
    unfold stL at hs
    rw [Bool.and_eq_true] at hs
    unfold pcleanL; rw [stV_rl x v hs.1 h1, stL_rl l ws hs.2 h2]; rfl
end
theorem cl1_rl {x : TV R.T} {v : V} (hs : cl1 x = true) (h : Rl R ρ top x v) : pclean (er1 v) = true := by
  have key : stV x = true → pclean (er1 v) = true := fun hs => by
    have := stV_rl hR x v hs h
    cases v with
    | lst c l => cases c <;> simp [pclean] at this <;> simpa [er1, pclean] using this
    | _ => exact this
  cases x <;> first | exact key hs | skip
  · rw [h.inv_nils]; simp [er1, pclean, pcleanL]
  · obtain ⟨c', rfl, hc⟩ := h.inv_lst
    exact pclean_lst (pclean_encD hR _) _
theorem cl1s_rl : ∀ {x : List (TV R.T)} {v : List V}, cl1s x = true → RlL R ρ top x v → pcleanL (v.map er1) = true
  | [], vs, _, h => by rw [h.inv_nil]; rfl
  | x :: l, vs, hs, h => by
    obtain ⟨v, ws, rfl, h1, h2⟩ := h.inv_cons
    unfold cl1s at hs
    rw [Bool.and_eq_true] at hs
    rw [List.map_cons]; unfold pcleanL; rw [cl1_rl hR hs.1 h1, cl1s_rl hs.2 h2]; rfl
theorem clV_rl {x : TV R.T} {v : V} (hs : clV x = true) (h : Rl R ρ top x v) : pclean (er v) = true := by
  by_cases hx : ∃ cs, x = .agg cs
  · obtain ⟨cs, rfl⟩ := hx
    obtain ⟨l, rfl, hl⟩ := h.inv_agg
    show pclean (.agg (l.map er1)) = true
    unfold pclean; exact cl1s_rl hR hs hl
  · have hs' : cl1 x = true := by cases x <;> first | exact hs | exact absurd ⟨_, rfl⟩ hx
    have h1 := cl1_rl hR hs' h
    have hne : ∀ cs, v ≠ .agg cs := by
      rintro cs rfl
      cases x <;> first | (unfold Rl at h; simp at h; done) | exact hx ⟨_, rfl⟩ | (simp [cl1, stV] at hs'; done)
    rw [er_er1 hne]; exact h1
theorem clVs_rl : ∀ {x : List (TV R.T)} {v : List V}, clVs x = true → RlL R ρ top x v → v.all (fun a => pclean (er a)) = true
  | [], vs, _, h => by rw [h.inv_nil]; rfl
  | x :: l, vs, hs, h => by
    obtain ⟨v, ws, rfl, h1, h2⟩ := h.inv_cons
    unfold clVs at hs
    rw [Bool.and_eq_true] at hs
    rw [List.all_cons, clV_rl hR hs.1 h1, clVs_rl hs.2 h2]; rfl
theorem flatSk_ok : ∀ (l : List Sk) (x : PayL R.T l), flatSk l = true → flatL (encSL R l x) = true
  | [], x, _ => rfl
  | [k], x, h => by
    cases k <;> simp only [flatSk, Bool.and_true, Bool.false_eq_true] at h
    rename_i t
    show (flat (encD R t x) && flatL []) = true
    cases t <;> simp only [flatT, Bool.false_eq_true] at h <;> rfl
  | k :: k' :: l, x, h => by
    cases k <;> simp only [flatSk, Bool.false_eq_true] at h
    rename_i t
    rw [Bool.and_eq_true] at h
    show (flat (encD R t x.1) && flatL (encSL R (k' :: l) x.2)) = true
    rw [flatSk_ok (k' :: l) x.2 h.2]
    have := h.1
    cases t <;> simp only [flatT, Bool.false_eq_true] at this <;> rfl
omit hR in
theorem flat_ret {vs : List V} (h : flatL vs = true) : flat (retV vs) = true := by
  match vs with
  | [] => simp [retV, flat, flatL]
  | [v] => simp only [flatL, Bool.and_true] at h; exact h
  | v :: w :: vs => show flat (.tup _) = true; unfold flat; exact h
mutual
theorem up_rl : ∀ (k : Sk) (x : PayS R.T k), cSk k = true → Rl R ρ top (up R .sh k x) (encS R k x)
  | .d t, x, _ => tvD_rl hR t x
  | .l c t, x, h => by
    refine ⟨.sh, rfl, ?_⟩
    cases c <;> first | trivial | rfl | (simp [cSk] at h; done)
  | .agg l, x, h => ⟨_, rfl, upL_rl l x (by unfold cSk at h; exact h)⟩
  | .cref l off, x, h => ⟨_, rfl, upL_rl l x (by unfold cSk at h; exact h)⟩
  | .mapc k e, x, _ => rfl
  | .fn f a b, x, h => by
    unfold cSk at h
    rw [Bool.and_eq_true] at h
    exact ⟨_, _, rfl, upL_rl a x.1 h.1, upL_rl b x.2 h.2⟩
  | .ref _ _, _, h => by simp [cSk] at h
  | .mapr _, _, h => by simp [cSk] at h
  | .nils, _, h => by simp [cSk] at h
  | .vw _ _, _, h => by simp [cSk] at h
  | .undef, _, h => by simp [cSk] at h
theorem upL_rl : ∀ (l : List Sk) (x : PayL R.T l), cSkL l = true → RlL R ρ top (upL R .sh l x) (encSL R l x)
  | [], _, _ => rfl
  | [k], x, h => by
    unfold cSkL at h
    rw [Bool.and_eq_true] at h
    exact .cons' (up_rl k x h.1) rfl
  | k :: k' :: l, x, h => by
    unfold cSkL at h
    rw [Bool.and_eq_true] at h
    exact .cons' (up_rl k x.1 h.1) (upL_rl (k' :: l) x.2 h.2)
end
omit hR in
theorem retT_rl {x : List (TV R.T)} {v : List V} (h : RlL R ρ top x v) : Rl R ρ top (retT R x) (retV v) := by
  match x, h with
  | [], h => rw [h.inv_nil]; exact ⟨[], rfl, rfl⟩
  | [a], h =>
    obtain ⟨v, vs, rfl, h1, h2⟩ := h.inv_cons
    rw [h2.inv_nil]; exact h1
  | a :: b :: l, h =>
    obtain ⟨v, vs, rfl, h1, h2⟩ := h.inv_cons
    obtain ⟨w, ws, rfl, h3, h4⟩ := h2.inv_cons
    exact ⟨_, rfl, .cons' h1 (.cons' h3 h4)⟩
def RegsOK (E : Env) (F : Nat → List (FR R)) : Prop := ∀ f, ∀ r ∈ F f, ∀ p x, r.F p = some x → Pure E f (encSL R r.args p) (retV (encSL R r.res x))
theorem findF_ok {F : Nat → List (FR R)} (hF : RegsOK E F) {f : Nat} {c : Call} {fo : Operand} {o : Oper} {stp : Nat} {a' b' : List V} (ho : o.op = .call c) (hcal : c.callee = .value fo) (hf : fr.ev E fo = .fn (.func f) a' b') (hi : E.imp f = false) {args : List (TV R.T)}
    (ha : RlL R ρ σ.top args (a' ++ c.args.toList.map (fr.ev E) ++ b')) (hi' : ImgR ρ b st fr σ) : ∀ {l : List (FR R)} {r : Res R}, (∀ x ∈ l, x ∈ F f) → findF R args (cloMs st args) l = some r → ResOK E st ρ stp fr σ o r
  | [], r, _, h => by cases h
  | q :: l, r, hl, h => by
    unfold findF at h
    split at h
    · rename_i p hp
      obtain ⟨hc, h⟩ := bifs h
      cases h
      simp only [Bool.and_eq_true] at hc
      obtain ⟨⟨⟨c1, c2⟩, c3⟩, c4⟩ := hc
      intro x hx
      have hP := hF f q (hl q (by simp)) p x hx
      obtain ⟨vs', v1, v2⟩ := cloMs_ok hR hi' ha
      have has0 := pkL_cl hR q.args p (cloMs st args) _ c1 hp v1 20 σ (by have := Nat.le_of_ble_eq_true c2; omega)
      have has := (v2 16).trans has0
      have hcl : ((a' ++ c.args.toList.map (fr.ev E) ++ b').all (fun x => pclean (er x)) || flat (retV (encSL R q.res x))) = true := by
        rw [Bool.or_eq_true] at c4 ⊢
        rcases c4 with c4 | c4
        · exact .inl (clVs_rl hR c4 ha)
        · exact .inr (flat_ret (flatSk_ok hR _ _ c4))
      exact ⟨retV (encSL R q.res x), ⟨fun _ _ _ hw h' => OW.call hw ho hcal hf hi has hP hcl h', fun _ _ _ _ _ hw h' => FW'.call hw ho hcal hf hi has hP hcl h'⟩, retT_rl (upL_rl hR _ _ c3)⟩
    · exact findF_ok hF ho hcal hf hi ha hi' (fun x hx => hl x (by simp [hx])) h
theorem iaM_ok {t : TypeId} {x i : TV R.T} {v w : V} {r : Res R} (h : iaM E R t x i = some r) (hx : Rl R ρ top x v) (hi : Rl R ρ top i w) : ValOK ρ top (indexAddrV E.P t v w) r := by
  unfold iaM at h
  split at h
  · rename_i e c u l k n hu
    split at h
    · rename_i sz hs
      obtain ⟨hb, h⟩ := bifs h
      cases h
      have := nbeq_t hb; subst this
      obtain ⟨c', rfl, _⟩ := hx.inv_lst
      rw [hi.inv_int]
      intro a ha
      refine ⟨.cref (encD R u a).cells 0, ?_, ?_⟩
      · rw [idx_lst, if_pos (by unfold isSliceT; rw [hu])]
        have : elemT E.P t = some e := by unfold elemT; rw [hu]
        rw [this]; simp only [Option.bind_some, hs, ha]
        rw [if_pos (encD_cells hR u a).1]
      · unfold Rl
        refine ⟨_, rfl, (cells_rl ?_ (tvD_rl hR u a)).1⟩
        cases u <;> rfl
    · cases h
  · rename_i n e o off k m hu
    split at h
    · rename_i sz hs
      cases h
      obtain ⟨s, h1, rfl⟩ := hx.inv_ref
      rw [hi.inv_int]
      intro hc
      have hc' : 0 ≤ m ∧ m < n := of_decide_eq_true hc
      refine ⟨.ref (1, o) s (off + m.toNat * sz), ?_, by unfold Rl; exact ⟨s, h1, rfl⟩⟩
      unfold indexAddrV; rw [hu]; dsimp only; rw [hs]
      simp [idx, bndI, hc']
    · cases h
  · rename_i n e cs off k m hu
    split at h
    · rename_i sz hs
      cases h
      obtain ⟨l, rfl, h1⟩ := hx.inv_cref
      rw [hi.inv_int]
      intro hc
      have hc' : 0 ≤ m ∧ m < n := of_decide_eq_true hc
      refine ⟨.cref l (off + m.toNat * sz), ?_, by unfold Rl; exact ⟨l, rfl, h1⟩⟩
      unfold indexAddrV; rw [hu]; dsimp only; rw [hs]
      simp [idx, bndI, hc']
    · cases h
  · cases h
omit hR in
theorem ixM_ok {t : TypeId} {x i : TV R.T} {v w : V} {r : Res R} (h : ixM E R t x i = some r) (hx : Rl R ρ top x v) (hi : Rl R ρ top i w) : ValOK ρ top (indexV E.P t v w) r := by
  unfold ixM at h
  split at h
  · rename_i s k n hu
    cases h
    rw [hx.inv_str, hi.inv_int]
    intro a ha
    refine ⟨.int .u8 ((a.toNat : Nat) : Int), ?_, by unfold Rl; rfl⟩
    rw [idx_str (by unfold isStrT; rw [hu]), ha]; rfl
  · cases h
end
end Aq
end
