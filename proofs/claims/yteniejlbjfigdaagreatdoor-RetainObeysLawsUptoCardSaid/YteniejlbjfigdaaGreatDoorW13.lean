/- Part of the proof of a law: Am10 Am11 Ar1. -/
import Derived.Test.YteniejlbjfigdaaGreatDoorW12
set_option linter.all false
set_option linter.unusedSimpArgs false
set_option linter.unusedSectionVars false
section
namespace Aq
open Go
set_option linter.unusedSectionVars false
set_option linter.unusedVariables false
section
variable {R : Reg} {E : Env}
variable {ρ : Rho} {top : Nat → Nat} {b stp : Nat} {st : MS R.T} {fr : Fr} {σ : Sig} {o : Oper}
theorem ResOK.val {v : Option V} {r : Res R} (hv : ValOK ρ σ.top v r) (ho : ∀ y, v = some y → opV E fr σ stp o = some (y, σ)) : ResOK E st ρ stp fr σ o r := by
  cases r with
  | t x => obtain ⟨y, e, hr⟩ := hv; exact ⟨y, .ofV (ho y e), hr⟩
  | c c x => intro hc; obtain ⟨y, e, hr⟩ := hv hc; exact ⟨y, .ofV (ho y e), hr⟩
  | p α d o' f => intro a ha; obtain ⟨y, e, hr⟩ := hv a ha; exact ⟨y, .ofV (ho y e), hr⟩
  | w x s => exact hv.elim
  | wc c x s => exact hv.elim
theorem ResOK.tt {x : TV R.T} {y : V} (ho : opV E fr σ stp o = some (y, σ)) (hr : Rl R ρ σ.top x y) : ResOK E st ρ stp fr σ o (.t x) := ⟨y, .ofV ho, hr⟩
theorem muxM_t {top : Nat → Nat} {x y v : TV R.T} {w : V} (h : muxM true x y = some v) (hx : Rl R ρ top x w) : Rl R ρ top v w := by
  unfold muxM at h
  split at h <;> try cases h
  · split at h
    · cases h; exact hx
    · cases h
  all_goals first | exact hx | (unfold Rl at hx ⊢; exact hx)
theorem muxM_f {top : Nat → Nat} {x y v : TV R.T} {w : V} (h : muxM false x y = some v) (hx : Rl R ρ top y w) : Rl R ρ top v w := by
  unfold muxM at h
  split at h <;> try cases h
  · split at h
    · rename_i e; subst e; cases h; exact hx
    · cases h
  all_goals first | exact hx | (unfold Rl at hx ⊢; exact hx)
theorem opV_pick {c a' b' : Operand} {t : Bool} (hop : o.op = .pick c a' b') (hc : fr.ev E c = .bool t) : opV E fr σ stp o = some (if t then fr.ev E a' else fr.ev E b', σ) := by
  simp only [opV, hop, hc, boolV, Option.map_some]
variable (hR : RegOK R)
include hR
theorem lookupM_ok {t : TypeId} {m x : TV R.T} {v w : V} {ok : Bool} {r : Res R} (h : lookupM E R t m x ok st = some r) (hm : Rl R ρ σ.top m v) (hx : Rl R ρ σ.top x w) (hi : ImgR ρ b st fr σ) : ValOK ρ σ.top (lookupV E.P σ t v w ok) r := by
  unfold lookupM at h
  split at h
  · rename_i o
    split at h
    · rename_i k e m hl
      obtain ⟨s, h1, rfl⟩ := hm.inv_mapr
      obtain ⟨s', h2, h3⟩ := hi.rd hl
      rw [h1] at h2; cases h2
      exact lookM_ok hR h hx h3
    · cases h
  · rename_i k e m
    exact lookM_ok hR h hx (by rw [hm.inv_mapc]; rfl)
  · split at h
    · split at h
      · unfold Rl at hm; subst hm
        exact lookM_ok hR h hx rfl
      · cases h
    · cases h
  · cases h
omit hR in
theorem eqKM_ok {top : Nat → Nat} {x y : TV R.T} {v w : V} {r : Bool} (h : eqKM x y = some r) (hx : Rl R ρ top x v) (hy : Rl R ρ top y w) : eqS v w = some r := by
  unfold eqKM at h
  split at h
  · rw [hx.inv_int, hy.inv_int]; exact h
  · cases h; rw [hx.inv_str, hy.inv_str]; rfl
  · cases h
omit hR in
theorem keyS_ok {top : Nat → Nat} {t : TypeId} {x : TV R.T} {v : V} (h : keyS E t x = true) (hx : Rl R ρ top x v) : keyFit E.P t v = true := by
  unfold keyS at h
  split at h
  · rename_i hu; rw [hx.inv_int]; unfold keyFit; rw [hu]
  · rename_i hu; rw [hx.inv_str]; unfold keyFit; rw [hu]
  · cases h
omit hR in
theorem setS_ok {top : Nat → Nat} {x y : TV R.T} {v w : V} (hx : Rl R ρ top x v) (hy : Rl R ρ top y w) : ∀ {ks vs : List (TV R.T)} {ks' vs' : List (TV R.T)} {k l : List V}, setS x y ks vs = some (ks', vs') → RlL R ρ top ks k → RlL R ρ top vs l →
    ∃ k' l', storeK v w k l = some (k', l') ∧ RlL R ρ top ks' k' ∧ RlL R ρ top vs' l'
  | [], [], _, _, k, l, h, h1, h2 => by
    cases h
    rw [h1.inv_nil, h2.inv_nil]
    exact ⟨_, _, rfl, .cons' hx rfl, .cons' hy rfl⟩
  | [], _ :: _, _, _, _, _, h, _, _ => by cases h
  | _ :: _, [], _, _, _, _, h, _, _ => by cases h
  | a :: ks, b :: vs, ks', vs', k, l, h, h1, h2 => by
    obtain ⟨k0, k, rfl, g1, g2⟩ := h1.inv_cons
    obtain ⟨l0, l, rfl, g3, g4⟩ := h2.inv_cons
    unfold setS at h
    split at h
    · rename_i c hc
      have he := eqKM_ok hc hx g1
      cases c with
      | true => cases h; exact ⟨v :: k, w :: l, by simp [storeK, he], .cons' hx g2, .cons' hy g4⟩
      | false =>
        rw [cond_false] at h
        split at h
        · rename_i ks1 vs1 hs
          cases h
          obtain ⟨k', l', e1, e2, e3⟩ := setS_ok hx hy hs g2 g4
          exact ⟨k0 :: k', l0 :: l', by simp [storeK, he, e1], .cons' g1 e2, .cons' g3 e3⟩
        · cases h
    · cases h
theorem updateM_ok {t : TypeId} {m x y : TV R.T} {v w u : V} {r : Res R} (h : updateM E R t m x y st = some r) (hm : Rl R ρ σ.top m v) (hx : Rl R ρ σ.top x w) (hy : Rl R ρ σ.top y u) (hi : ImgR ρ stp st fr σ)
    (ho : ∀ σ', updateV E.P σ t v w u = some σ' → opV E fr σ stp o = some (undefV, σ')) : ResOK E st ρ stp fr σ o r := by
  unfold updateM at h
  split at h
  · rename_i p
    split at h
    · rename_i k e m hl
      split at h
      · rename_i kt et ht
        obtain ⟨hk, h⟩ := bifs h
        split at h
        · rename_i a c ha hc
          cases h
          obtain ⟨s, h1, rfl⟩ := hm.inv_mapr
          obtain ⟨s', h2, h3⟩ := hi.ob _ _ hl
          rw [h1] at h2; cases h2
          have hw := key_enc hR hk ha hx
          subst hw
          unfold unE at hc
          obtain ⟨hs, hc⟩ := bifs hc
          have hu : u = encD R e c := by
            have h4 := unD_cl hR hc hy
            have h5 := stV_rl hR y u hs hy
            have h6 := h4.2.2.1 0 σ
            rw [closeV_clean h5] at h6
            exact Option.some.inj h6
          subst hu
          have hup : updateV E.P σ t (.mapr (1, p) s) (encD R k a) (encD R e c) = some (σ.setObj (1, p) s (.map ((mset (beqD R k) a c m).map fun q => encD R k q.1) ((mset (beqD R k) a c m).map fun q => encD R e q.2))) := by
            unfold updateV
            rw [ht]; simp only [Option.bind_some]
            rw [if_pos (eqS_enc hR hk a a).2, h3]
            simp only [Option.bind_some]
            rw [storeK_enc hR hk a c m]; rfl
          refine ⟨undefV, _, ρ, .ofV (ho _ hup), (hi.le (Nat.le_succ _)).set p s ⟨s, h1, map_eq _ _ _ _ _⟩, rfl, by unfold Rl; rfl, fun q _ => KpO.set hl rfl⟩
        · cases h
      · cases h
    · rename_i ks vs hl
      split at h
      · rename_i kt et ht
        obtain ⟨hk, h⟩ := bifs h
        split at h
        · rename_i ks' vs' hs
          cases h
          obtain ⟨s, h1, rfl⟩ := hm.inv_mapr
          obtain ⟨s', k0, l0, h2, h3, h4, h5⟩ := hi.ob _ _ hl
          rw [h1] at h2; cases h2
          obtain ⟨k1, l1, g1, g2, g3⟩ := setS_ok hx hy hs h4 h5
          have hup : updateV E.P σ t (.mapr (1, p) s) w u = some (σ.setObj (1, p) s (.map k1 l1)) := by
            unfold updateV
            rw [ht]; simp only [Option.bind_some]
            rw [if_pos (keyS_ok hk hx), h3]
            simp only [Option.bind_some]
            rw [g1]; rfl
          refine ⟨undefV, _, ρ, .ofV (ho _ hup), (hi.le (Nat.le_succ _)).set p s ⟨s, k1, l1, h1, map_eq _ _ _ _ _, g2, g3⟩, rfl, by unfold Rl; rfl, fun q _ => KpO.set hl rfl⟩
        · cases h
      · cases h
    · cases h
  · cases h
theorem newCells_ok {d s : Nat} {cs : List (TV R.T)} {l : List V} (hi : ImgR ρ b st fr σ) (hc : RlL R ρ σ.top cs l) (hm : mentL d cs = false) : ImgR (ρ.setOb d s) b (st.new d (.cells cs)) fr (σ.setObj (1, d) s (.cells l)) :=
  hi.new d s ⟨s, l, setOb_eq, cells_eq _ _ _ _, RlL.kill d setOb_ne rfl cs l hm hc⟩
theorem opM_ok {om : Bool} {F : Nat → List (FR R)} (hF : RegsOK E F) (hom : ρ.om = om) {g : List (Nat × Bool)} (hg : GOK fr g) (hi : ImgR ρ stp st fr σ) {r : Res R} (h : opM E R om F g o.dst o.op st = some r) : ResOK E st ρ stp fr σ o r := by
  unfold opM at h
  split at h
  · -- move
    rename_i x hop
    split at h
    · rename_i v hv; cases h; exact .tt (y := fr.ev E x) (by simp only [opV, hop]) (evM_rl hi hg hv)
    · cases h
  · rename_i x hop
    split at h
    · rename_i v hv; cases h; exact .tt (y := fr.ev E x) (by simp only [opV, hop]) (evM_rl hi hg hv)
    · cases h
  · -- pick
    rename_i c a' b' hop
    split at h
    · rename_i j
      split at h
      · rename_i t hc
        have hc' := (evM_rl (E := E) hi hg hc).inv_bool
        split at h
        · rename_i x y hx hy
          split at h
          · rename_i v hv
            cases h
            refine .tt (opV_pick hop hc') ?_
            rw [ev_tmp] at hc'
            cases t
            · exact muxM_f hv (evM_rl (E := E) hi (.cons hc' hg) hy)
            · exact muxM_t hv (evM_rl (E := E) hi (.cons hc' hg) hx)
          · cases h
        · cases h
      · rename_i t hc
        have hc' := (evM_rl (E := E) hi hg hc).inv_blit
        split at h
        · rename_i v hv
          cases h
          refine .tt (opV_pick hop hc') ?_
          cases t
          · exact evM_rl (E := E) hi hg hv
          · exact evM_rl (E := E) hi hg hv
        · cases h
      · cases h
    · cases h
  · -- alloc
    rename_i t hop
    split at h
    · rename_i d z hd hz
      obtain ⟨hc, h⟩ := bifs h
      cases h
      simp only [Bool.and_eq_true, Bool.not_eq_true'] at hc
      obtain ⟨v, hv, hr⟩ := zeroM_rl (ρ := ρ) (top := σ.top) hz
      have hng : notG z = true := by
        cases z <;> first | rfl | (have := hc.1; simp [TV.cells, oneMs, oneM] at this)
      obtain ⟨hcells, _⟩ := cells_rl hng hr
      refine ⟨.ref (1, d) stp 0, _, ρ.setOb d stp, .ofV (o := o) ?_, newCells_ok hR (hi.le (Nat.le_succ _)) hcells hc.2, rfl, by unfold Rl; exact ⟨stp, setOb_eq, rfl⟩, fun q hq => KpO.new (fun e => hq (by rw [hd, e]))⟩
      simp only [opV, hop, hd, Option.map_some, Option.bind_some, hv, oneMs_rl hc.1 hcells, if_true, hi.d]
    · cases h
  · -- box
    rename_i t x hop
    split at h
    · rename_i d v hd hv
      obtain ⟨hc, h⟩ := bifs h
      cases h
      simp only [Bool.and_eq_true, Bool.not_eq_true'] at hc
      have hr := evM_rl (E := E) hi hg hv
      obtain ⟨hcells, hnr⟩ := cells_rl hc.1.2 hr
      refine ⟨.ref (1, d) stp 0, _, ρ.setOb d stp, .ofV (o := o) ?_, newCells_ok hR (hi.le (Nat.le_succ _)) hcells hc.2, rfl, by unfold Rl; exact ⟨stp, setOb_eq, rfl⟩, fun q hq => KpO.new (fun e => hq (by rw [hd, e]))⟩
      simp only [opV, hop, hd, Option.map_some, Option.bind_some, oneMs_rl hc.1.1 hcells, hnr, and_self, if_true, hi.d]
    · cases h
  · -- build
    rename_i t parts hop
    split at h
    · rename_i pl z ps hpl hz hps
      split at h
      · rename_i cs hcs
        cases h
        obtain ⟨zv, hzv, hzr⟩ := zeroM_rl (ρ := ρ) (top := σ.top) hz
        obtain ⟨e1, e2⟩ := evPs_rl (E := E) hi hg hps
        have hzc : RlL R ρ σ.top z.cells zv.cells := by
          refine (cells_rl ?_ hzr).1
          unfold zeroM at hz
          cases z <;> first | rfl | skip
          all_goals
            exfalso
            split at hz
            · split at hz
              · unfold ofValueM at hz
                split at hz
                · split at hz <;> cases hz
                · unfold ofScalarM at hz; split at hz <;> cases hz
              · cases hz
            · cases hz
        obtain ⟨l', f1, f2⟩ := fillM_rl (qs := parts.toList.map fun p => (p.1, fr.ev E p.2)) pl (by rw [e1]; simp [Function.comp_def]) (by simpa [Function.comp_def] using e2) hzc hcs
        refine .tt (y := .agg l') ?_ (by unfold Rl; exact ⟨l', rfl, f2⟩)
        simp only [opV, hop, hpl, hzv, Option.bind_some]
        rw [f1]; rfl
      · cases h
    · cases h
  · -- buildSlice
    rename_i t len parts hop
    split at h
    · rename_i ps hps
      obtain ⟨e1, e2⟩ := evPs_rl (E := E) hi hg hps
      refine .val (bslM_ok hR (qs := parts.toList.map fun p => (p.1, fr.ev E p.2)) h (by rw [e1]; simp [Function.comp_def]) (by simpa [Function.comp_def] using e2)) fun y hy => ?_
      simp only [opV, hop]
      rw [hy]; rfl
    · cases h
  · -- load
    rename_i t a hop
    split at h
    · rename_i p off hv
      split at h
      · rename_i cs hl
        split at h
        · rename_i v hld
          cases h
          obtain ⟨s, h1, h2⟩ := (evM_rl (E := E) hi hg hv).inv_ref
          obtain ⟨s', l, h3, h4, h5⟩ := hi.rd hl
          rw [h1] at h3; cases h3
          obtain ⟨y, hy, hr⟩ := ldM_rl h5 hld
          exact .tt (by simp only [opV, hop, h2, h4, Option.bind_some, hy, Option.map_some]) hr
        · cases h
      · cases h
    · rename_i cs off hv
      split at h
      · rename_i v hld
        cases h
        obtain ⟨l, h2, h5⟩ := (evM_rl (E := E) hi hg hv).inv_cref
        obtain ⟨y, hy, hr⟩ := ldM_rl h5 hld
        exact .tt (by simp only [opV, hop, h2, hy, Option.map_some]) hr
      · cases h
    · rename_i p τ i off hv
      split at h
      · rename_i ob hl
        obtain ⟨s, h1, _, h2⟩ := (evM_rl (E := E) hi hg hv).inv_eref
        obtain ⟨l, f, rfl, hf⟩ := elLd_ok h (hi.rd hl) h1
        intro y hy
        obtain ⟨cs, w, h3, h4, h5⟩ := hf y hy
        exact ⟨w, .ofV (by simp only [opV, hop, h2, h3, Option.bind_some, h4, Option.map_some]), h5⟩
      · cases h
    · cases h
  · -- store
    rename_i t a x hop
    split at h
    · rename_i p off v hv hx
      split at h
      · rename_i cs sz hl hsz
        obtain ⟨hc, h⟩ := bifs h
        cases h
        simp only [Bool.and_eq_true] at hc
        obtain ⟨⟨⟨c1, c2⟩, c3⟩, c4⟩ := hc
        obtain ⟨s, h1, h2⟩ := (evM_rl (E := E) hi hg hv).inv_ref
        obtain ⟨s', l, h3, h4, h5⟩ := hi.ob _ _ hl
        rw [h1] at h3; cases h3
        obtain ⟨h6, h7⟩ := cells_rl c4 (evM_rl (E := E) hi hg hx)
        refine ⟨undefV, _, ρ, .ofV (o := o) ?_, (hi.le (Nat.le_succ _)).set p s ⟨s, _, h1, cells_eq _ _ _ _, spliceM_rl off h5 h6⟩, rfl, by unfold Rl; rfl, fun q _ => KpO.set hl rfl⟩
        simp only [opV, hop, h2, h4, Option.bind_some]
        rw [if_pos ⟨by rw [hsz, h6.length, nbeq_t c1], by rw [h6.length, h5.length]; exact Nat.le_of_ble_eq_true c2, oneMs_rl c3 h6⟩]
      · cases h
    · cases h
  · -- nilCheck
    rename_i x hop
    split at h
    · rename_i p off hv; cases h
      have hr := evM_rl (E := E) hi hg hv
      obtain ⟨s, h1, h2⟩ := hr.inv_ref
      exact .tt (y := fr.ev E x) (by simp only [opV, hop, h2]) hr
    · rename_i p off hv; cases h
      have hr := evM_rl (E := E) hi hg hv
      obtain ⟨s, h2, h1⟩ := hr.inv_cref
      exact .tt (y := fr.ev E x) (by simp only [opV, hop, h2]) hr
    · rename_i p τ i off hv; cases h
      have hr := evM_rl (E := E) hi hg hv
      obtain ⟨s, h1, _, h2⟩ := hr.inv_eref
      exact .tt (y := fr.ev E x) (by simp only [opV, hop, h2]) hr
    · rename_i f a' b' hv; cases h
      have hr := evM_rl (E := E) hi hg hv
      obtain ⟨a', b', h2, h1⟩ := hr.inv_fn
      exact .tt (y := fr.ev E x) (by simp only [opV, hop, h2]) hr
    · cases h
  · -- binOp
    rename_i op t x y t' hop
    split at h
    · rename_i x' y' hx hy
      exact .val (binM_ok h (evM_rl (E := E) hi hg hx) (evM_rl (E := E) hi hg hy)) fun z hz => by simp only [opV, hop, hz, Option.map_some]
    · cases h
  · -- unOp
    rename_i op t x hop
    split at h
    · rename_i x' hx
      exact .val (unM_ok h (evM_rl (E := E) hi hg hx)) fun z hz => by simp only [opV, hop, hz, Option.map_some]
    · cases h
  · -- convert
    rename_i a' b' x hop
    split at h
    · rename_i x' hx
      exact .val (convM_ok (σ := σ) h (evM_rl (E := E) hi hg hx)) fun z hz => by simp only [opV, hop, hz, Option.map_some]
    · cases h
  · -- makeFunc
    rename_i f a' b' hop
    split at h
    · rename_i xs ys hx hy
      cases h
      exact .tt (y := .fn (.func f) (a'.toList.map (fr.ev E)) (b'.toList.map (fr.ev E))) (by simp only [opV, hop]) (by unfold Rl; exact ⟨_, _, rfl, evMs_rl (E := E) hi hg hx, evMs_rl (E := E) hi hg hy⟩)
    · cases h
  · -- makeMap
    rename_i t hop
    split at h
    · rename_i d k e hd ht
      split at h
      · rename_i k' e' hk he
        cases h
        refine ⟨.mapr (1, d) stp, _, ρ.setOb d stp, .ofV (o := o) ?_, (hi.le (Nat.le_succ _)).new d stp (a := .map [] []) ⟨stp, setOb_eq, by rw [map_eq]; rfl⟩, rfl, by unfold Rl; exact ⟨stp, setOb_eq, rfl⟩, fun q hq => KpO.new (fun e => hq (by rw [hd, e]))⟩
        simp only [opV, hop, hd, Option.map_some, hi.d]
      · cases h
        refine ⟨.mapr (1, d) stp, _, ρ.setOb d stp, .ofV (o := o) ?_, (hi.le (Nat.le_succ _)).new d stp (a := .map [] []) ⟨stp, [], [], setOb_eq, by rw [map_eq], rfl, rfl⟩, rfl, by unfold Rl; exact ⟨stp, setOb_eq, rfl⟩, fun q hq => KpO.new (fun e => hq (by rw [hd, e]))⟩
        simp only [opV, hop, hd, Option.map_some, hi.d]
    · cases h
  · -- makeSlice
    rename_i t l c hop
    split at h
    · rename_i n m hn hm
      refine mksM_ok hR h (evM_rl (E := E) hi hg hn) (evM_rl (E := E) hi hg hm) hi rfl fun y σ' hy => .ofV ?_
      have e : (o.dst.map fun t => (fr.d, t)) = o.dst.map fun t => (1, t) := by rw [hi.d]
      simp only [opV, hop]
      rw [e, hi.om, hom]; exact hy
    · cases h
  · -- slice
    rename_i t x lo hi' hop
    split at h
    · rename_i x' hx
      have hxr := evM_rl (E := E) hi hg hx
      split at h
      · exact .val (sliceM_ok hR (σ := σ) (vl := none) (vh := none) h hxr (fun y hy => by cases hy) (fun _ => rfl) (fun y hy => by cases hy) (fun _ => rfl)) fun z hz => by simp only [opV, hop, optEv, hz, Option.map_some]
      · rename_i lo
        split at h
        · rename_i l hl
          exact .val (sliceM_ok hR (σ := σ) (vl := some (fr.ev E lo)) (vh := none) h hxr (fun y hy => by cases hy; exact ⟨_, rfl, evM_rl (E := E) hi hg hl⟩) (fun h => by cases h) (fun y hy => by cases hy) (fun _ => rfl)) fun z hz => by simp only [opV, hop, optEv, hz, Option.map_some]
        · cases h
      · rename_i hi2
        split at h
        · rename_i l hl
          exact .val (sliceM_ok hR (σ := σ) (vl := none) (vh := some (fr.ev E hi2)) h hxr (fun y hy => by cases hy) (fun _ => rfl) (fun y hy => by cases hy; exact ⟨_, rfl, evM_rl (E := E) hi hg hl⟩) (fun h => by cases h)) fun z hz => by simp only [opV, hop, optEv, hz, Option.map_some]
        · cases h
      · rename_i lo hi2
        split at h
        · rename_i l l2 hl hl2
          exact .val (sliceM_ok hR (σ := σ) (vl := some (fr.ev E lo)) (vh := some (fr.ev E hi2)) h hxr (fun y hy => by cases hy; exact ⟨_, rfl, evM_rl (E := E) hi hg hl⟩) (fun h => by cases h) (fun y hy => by cases hy; exact ⟨_, rfl, evM_rl (E := E) hi hg hl2⟩) (fun h => by cases h)) fun z hz => by simp only [opV, hop, optEv, hz, Option.map_some]
        · cases h
    · cases h
  · -- fieldAddr
    rename_i t x f hop
    split at h
    · rename_i x' hx
      have hxr := evM_rl (E := E) hi hg hx
      split at h
      · rename_i v hv
        cases h
        unfold fieldsM at hv
        split at hv
        · rename_i p u hf
          split at hv
          · rename_i q off
            cases hv
            obtain ⟨s, h1, h2⟩ := hxr.inv_ref
            exact .tt (y := .ref (1, q) s (off + p)) (by simp only [opV, hop, hf, Option.bind_some, h2]) (by unfold Rl; exact ⟨s, h1, rfl⟩)
          · rename_i q off
            cases hv
            obtain ⟨l, h2, h1⟩ := hxr.inv_cref
            exact .tt (y := .cref l (off + p)) (by simp only [opV, hop, hf, Option.bind_some, h2]) (by unfold Rl; exact ⟨l, rfl, h1⟩)
          · rename_i q τ i off
            cases hv
            obtain ⟨s, h1, h3, h2⟩ := hxr.inv_eref
            exact .tt (y := .ref (1, q) s (i.toNat * szD R τ + off + p)) (by simp only [opV, hop, hf, Option.bind_some, h2]) (by unfold Rl; exact ⟨s, h1, h3, by rw [Nat.add_assoc]⟩)
          · cases hv
        · cases hv
      · cases h
    · cases h
  · -- field
    rename_i t x f hop
    split at h
    · rename_i p u cs hf hx
      split at h
      · rename_i v hv
        cases h
        obtain ⟨l, h1, h2⟩ := (evM_rl (E := E) hi hg hx).inv_agg
        obtain ⟨y, hy, hr⟩ := ldM_rl h2 hv
        exact .tt (by simp only [opV, hop, hf, Option.bind_some, h1, hy, Option.map_some]) hr
      · cases h
    · cases h
  · -- indexAddr
    rename_i t x i hop
    split at h
    · rename_i p τ y' hx hy
      exact .val (ivM_ok hR (om := false) h (evM_rl (E := E) hi hg hx) (evM_rl (E := E) hi hg hy) hi) fun z hz => by simp only [opV, hop, hz, Option.map_some]
    · rename_i x' y' _ hx hy
      exact .val (iaM_ok hR h (evM_rl (E := E) hi hg hx) (evM_rl (E := E) hi hg hy)) fun z hz => by simp only [opV, hop, hz, Option.map_some]
    · cases h
  · -- index
    rename_i t x i hop
    split at h
    · rename_i x' y' hx hy
      exact .val (ixM_ok h (evM_rl (E := E) hi hg hx) (evM_rl (E := E) hi hg hy)) fun z hz => by simp only [opV, hop, hz, Option.map_some]
    · cases h
  · -- lookup
    rename_i t x i ok hop
    split at h
    · rename_i x' y' hx hy
      exact .val (lookupM_ok hR h (evM_rl (E := E) hi hg hx) (evM_rl (E := E) hi hg hy) hi) fun z hz => by simp only [opV, hop, hz, Option.map_some]
    · cases h
  · -- mapUpdate
    rename_i t m k v hop
    split at h
    · rename_i m' k' v' hm hk hv
      exact updateM_ok hR h (evM_rl (E := E) hi hg hm) (evM_rl (E := E) hi hg hk) (evM_rl (E := E) hi hg hv) hi fun σ' hs => by simp only [opV, hop, hs, Option.map_some]
    · cases h
  · rename_i t m k v hop
    split at h
    · rename_i m' k' v' hm hk hv
      exact updateM_ok hR h (evM_rl (E := E) hi hg hm) (evM_rl (E := E) hi hg hk) (evM_rl (E := E) hi hg hv) hi fun σ' hs => by simp only [opV, hop, hs, Option.map_some]
    · cases h
  · -- extract
    rename_i x i hop
    split at h
    · rename_i vs hv
      split at h
      · rename_i v hx
        cases h
        obtain ⟨l, h1, h2⟩ := (evM_rl (E := E) hi hg hv).inv_tup
        obtain ⟨y, hy, hr⟩ := h2.get hx
        exact .tt (by simp only [opV, hop, h1, hy, Option.map_some]) hr
      · cases h
    · cases h
  · -- call
    rename_i c hop
    split at h
    · rename_i bi hcal
      split at h
      · rename_i vs hvs
        have hrs := evMs_rl (E := E) hi hg hvs
        have step : ∀ y σ', builtinV E fr.om (o.dst.map fun t => (fr.d, t)) σ stp bi c.argTypes (c.args.toList.map (fr.ev E)) = some (y, σ') → StepTo E fr σ stp o y σ' := fun y σ' hb => .of fun S => by
          simp only [opC, hop, hcal, hb, Option.map_some]
        unfold blt at h
        split at h
        · rename_i x
          split at h
          · rename_i t ht
            split at h
            · rename_i n hn
              cases h
              obtain ⟨v, l, e, h1, h2⟩ := hrs.inv_cons
              rw [h2.inv_nil] at e
              refine ⟨_, step _ σ ?_, by unfold Rl; rfl⟩
              rw [e]
              simp only [builtinV, ht, Option.bind_some, lenM_ok hn h1 hi, Option.map_some]
            · cases h
          · cases h
        · rename_i x y
          split at h
          · rename_i t u ht hu
            obtain ⟨v, l, e, h1, h2⟩ := hrs.inv_cons
            obtain ⟨w, l', e', h3, h4⟩ := h2.inv_cons
            subst e'
            rw [h4.inv_nil] at e
            have e0 : (o.dst.map fun t => (fr.d, t)) = o.dst.map fun t => (1, t) := by rw [hi.d]
            have fin : isSS E u = true → ∀ z σ', appendV E.P om false σ stp (o.dst.map fun t => (1, t)) t v w = some (z, σ') → StepTo E fr σ stp o z σ' := fun hss z σ' hz => step z σ' (by
              rw [e, e0]
              unfold isSS at hss
              simp only [builtinV, ht, hu, Option.bind_some, hi.om, hom]
              split at hss
              · rename_i hu'; rw [hu']; simp only [hz, Option.bind_some]
              · rename_i hu'; rw [hu']; simp only [hz, Option.bind_some]
              · cases hss)
            cases hom' : om
            · rw [hom'] at h fin
              have h' : appM E R o.dst t u x y st = some r := h
              have hss : isSS E u = true := by
                unfold appM at h'
                split at h'
                · split at h'
                  · exact (bifs h').1
                  · cases h'
                · cases h'
              exact appM_ok hR (loc := o.dst.map fun t => (1, t)) h' h1 h3 hi (fin hss)
            · rw [hom'] at h fin
              have h' : appOM E R o.dst t u x y st = some r := h
              have hss : isSS E u = true := by
                unfold appOM at h'
                split at h'
                · split at h'
                  · exact (bifs h').1
                  · cases h'
                · cases h'
              exact appOM_ok hR h' h1 h3 hi rfl (fin hss)
          · cases h
        · rename_i x l
          split at h
          · rename_i v hv
            cases h
            obtain ⟨y, ys, e, h1, h2⟩ := hrs.inv_cons
            obtain ⟨w, hw, hr⟩ := mmM_ok false hv h1 h2
            refine ⟨w, step w σ ?_, hr⟩
            rw [e]
            simp only [builtinV, hw, Option.map_some]
          · cases h
        · rename_i x l
          split at h
          · rename_i v hv
            cases h
            obtain ⟨y, ys, e, h1, h2⟩ := hrs.inv_cons
            obtain ⟨w, hw, hr⟩ := mmM_ok true hv h1 h2
            refine ⟨w, step w σ ?_, hr⟩
            rw [e]
            simp only [builtinV, hw, Option.map_some]
          · cases h
        · cases h
      · cases h
    · rename_i f hcal
      split at h
      · rename_i f' a' b' vs hf hvs
        cases himp : E.imp f' with
        | true => rw [himp] at h; cases h
        | false =>
          rw [himp, cond_false] at h
          obtain ⟨va, vb, h1, h2, h3⟩ := (evM_rl (E := E) hi hg hf).inv_fn
          exact findF_ok hR hF hop hcal h1 himp ((h2.append (evMs_rl (E := E) hi hg hvs)).append h3) hi (fun _ hx => hx) h
      · cases h
    · cases h
  · cases h
end
end Aq
end
section
namespace Aq
open Go
set_option linter.unusedSectionVars false
set_option linter.unusedVariables false
section
variable {R : Reg} {E : Env}
variable {ρ : Rho} {b stp : Nat} {st : MS R.T} {fr : Fr} {σ : Sig} {o : Oper}
theorem evM_bool {j : Nat} {t : Bool} (h : evM [] st (.tmp j) = some (.bool t)) : look st.fr j = some (.bool t) := by
  unfold evM at h
  dsimp only at h
  split at h
  · rename_i v hv
    cases v <;> first | (cases h; exact hv) | (simp [resG, look] at h; done)
  · cases h
variable (hR : RegOK R)
include hR
omit hR in
theorem lookS_ok {β : Type} {top : Nat → Nat} {x z : TV R.T} {v zv : V} {k : TV R.T → Bool → Option β} {res : β} (hx : Rl R ρ top x v) (hz : Rl R ρ top z zv) : ∀ {ks vs : List (TV R.T)} {kl vl : List V}, lookS x ks vs z k = some res → RlL R ρ top ks kl → RlL R ρ top vs vl →
    ∃ y b w r, Rl R ρ top y w ∧ lookK v kl vl = some r ∧ ((r = none → w = zv ∧ b = false) ∧ ∀ u, r = some u → w = u ∧ b = true) ∧ k y b = some res
  | [], [], kl, vl, h, h1, h2 => by
    rw [h1.inv_nil, h2.inv_nil]
    exact ⟨z, false, zv, none, hz, rfl, ⟨fun _ => ⟨rfl, rfl⟩, fun u h => by cases h⟩, h⟩
  | [], _ :: _, _, _, h, _, _ => by cases h
  | _ :: _, [], _, _, h, _, _ => by cases h
  | a :: ks, b :: vs, kl, vl, h, h1, h2 => by
    obtain ⟨k0, k', rfl, g1, g2⟩ := h1.inv_cons
    obtain ⟨l0, l', rfl, g3, g4⟩ := h2.inv_cons
    unfold lookS at h
    split at h
    · rename_i c hc
      have he := eqKM_ok hc hx g1
      cases c with
      | true => exact ⟨b, true, l0, some l0, g3, by simp [lookK, he], ⟨fun h => (by cases h), fun u h => by cases h; exact ⟨rfl, rfl⟩⟩, h⟩
      | false =>
        obtain ⟨y, bb, w, r, e1, e2, e3, e4⟩ := lookS_ok hx hz h g2 g4
        exact ⟨y, bb, w, r, e1, by simp [lookK, he, e2], e3, e4⟩
    · cases h
theorem runM_ok {om : Bool} {β : Type} {F : Nat → List (FR R)} (hF : RegsOK E F) (hom : ρ.om = om) (hi : ImgR ρ stp st fr σ) {k : MS R.T → Option β} {x : β} (h : runM E R om F o st k = some x) {G : Prop} {rest : Fr → Sig → Prop}
    (hs : ∀ y σ', StepTo E fr σ stp o y σ' → rest (fr.put o.dst y) σ' → G) (hk : ∀ ρ' st' y σ', ImgR ρ' (stp + 1) st' (fr.put o.dst y) σ' → σ'.next = σ.next → (∀ p, o.dst ≠ some p → KpO true p st ρ σ st' ρ' σ') → k st' = some x → rest (fr.put o.dst y) σ') : G := by
  have hi1 := hi.le (Nat.le_succ stp)
  unfold runM at h
  split at h
  · rename_i c a' b' hop
    split at h
    · rename_i t hc
      have hc' := (evM_rl (E := E) hi .nil hc).inv_blit
      split at h
      · rename_i v hv
        refine hs _ _ (.ofV (opV_pick hop hc')) (hk ρ _ _ σ (hi1.putO o.dst ?_) rfl (fun p _ => KpO.same (by first | exact putO_ob | rfl)) h)
        cases t
        · exact evM_rl (E := E) hi .nil hv
        · exact evM_rl (E := E) hi .nil hv
      · cases h
    · rename_i t hc
      have hc' := (evM_rl (E := E) hi .nil hc).inv_bool
      split at h
      · rename_i j
        have hj := hc'
        rw [ev_tmp] at hj
        split at h
        · rename_i x' y' hx hy
          split at h
          · rename_i v hv
            refine hs _ _ (.ofV (opV_pick hop hc')) (hk ρ _ _ σ (hi1.putO o.dst ?_) rfl (fun p _ => KpO.same (by first | exact putO_ob | rfl)) h)
            cases t
            · exact muxM_f hv (evM_rl (E := E) hi (.cons hj .nil) hy)
            · exact muxM_t hv (evM_rl (E := E) hi (.cons hj .nil) hx)
          · cases t
            · exact hs _ _ (.ofV (opV_pick hop hc')) (hk ρ _ _ σ ((hi1.learn hj).putO o.dst (evM_rl (E := E) hi (.cons hj .nil) hy)) rfl (fun p _ => KpO.same (by first | exact putO_ob | rfl)) h)
            · exact hs _ _ (.ofV (opV_pick hop hc')) (hk ρ _ _ σ ((hi1.learn hj).putO o.dst (evM_rl (E := E) hi (.cons hj .nil) hx)) rfl (fun p _ => KpO.same (by first | exact putO_ob | rfl)) h)
        · cases h
      · cases h
    · cases h
  · rename_i t a y hop
    split at h
    · rename_i τ p i off l v hst
      unfold elSt at hst
      split at hst
      · rename_i p' τ1 i' off' v' ha hv
        split at hst
        · rename_i τ' l0 sz hl hsz
          split at hst
          · rename_i l1 hl1
            obtain ⟨hc, hst⟩ := bifs hst
            cases hst
            obtain ⟨e, e2⟩ := castL_eq hl1; subst e; cases e2
            simp only [Bool.and_eq_true] at hc
            obtain ⟨⟨⟨c1, c2⟩, c3⟩, c4⟩ := hc
            obtain ⟨z, hz, h⟩ := Option.bind_eq_some_iff.1 h
            split at h
            · rename_i y' hu
              obtain ⟨s, h1, _, h2⟩ := (evM_rl (E := E) hi .nil ha).inv_eref
              obtain ⟨h6, h7⟩ := cells_rl c4 (evM_rl (E := E) hi .nil hv)
              have hO := hi.ob _ _ hl
              obtain ⟨cs, k1, k2, k3, k4⟩ := elSt_ok hR hO h1 hz h6 (Nat.le_of_ble_eq_true c2) hu
              refine hs undefV (σ.setObj (1, p) s (.cells (spliceL cs (i.toNat * szD R τ' + off) (fr.ev E y).cells))) (.ofV (o := o) ?_) (hk ρ _ undefV _ ((hi1.set p s (x := .arr τ' (setL l0 i y')) (a := .cells (spliceL cs (i.toNat * szD R τ' + off) (fr.ev E y).cells)) ⟨k4.trans hO.1, .inr ⟨s, _, h1, cells_eq _ _ _ _, k3⟩⟩).putO o.dst (x := .undef) (by unfold Rl; rfl)) rfl (fun q _ => (KpO.set hl rfl).congr putO_ob) h)
              simp only [opV, hop, h2, k1, Option.bind_some]
              rw [if_pos ⟨by rw [hsz, h6.length, nbeq_t c1], k2, oneMs_rl c3 h6⟩]
            · cases h
          · cases hst
        · cases hst
      · cases hst
    · split at h
      · rename_i v st' hr
        rw [← hop] at hr
        obtain ⟨y, σ', ρ', h1, h2, h3, h4, h5⟩ := opM_ok hR hF hom .nil hi hr
        exact hs y σ' h1 (hk ρ' _ y σ' (h2.putO o.dst h4) h3 (fun p hp => (h5 p hp).congr putO_ob) h)
      · cases h
  · rename_i t m y ok hop
    split at h
    · rename_i ks vs q z hsm
      unfold lookSM at hsm
      split at hsm
      · rename_i p hm
        split at hsm
        · rename_i ks' vs' hl
          split at hsm
          · rename_i q' kt et hq ht
            split at hsm
            · rename_i z' hz
              obtain ⟨hkey, hsm⟩ := bifs hsm
              cases hsm
              obtain ⟨s, a1, a2⟩ := (evM_rl (E := E) hi .nil hm).inv_mapr
              obtain ⟨s', k0, l0, b1, b2, b3, b4⟩ := hi.rd hl
              rw [a1] at b1; cases b1
              have hqr := evM_rl (E := E) hi .nil hq
              obtain ⟨zv, z1, z2⟩ := zeroM_rl (ρ := ρ) (top := σ.top) hz
              obtain ⟨v, bb, w, r, c1, c2, c3, c4⟩ := lookS_ok hqr z2 h b3 b4
              have hlk : lookupV E.P σ t (fr.ev E m) (fr.ev E y) ok = some (if ok then .tup [w, .bool bb] else w) := by
                rw [lookupV_eq, ht]; simp only [Option.bind_some]
                rw [if_pos (keyS_ok hkey hqr), a2]
                show (σ.mapAt (1, p) s).bind _ = _
                rw [b2]; simp only [Option.bind_some, c2]
                cases r with
                | none => simp only [z1, Option.map_some]; obtain ⟨e1, e2⟩ := c3.1 rfl; rw [e1, e2]
                | some u => simp only [Option.map_some]; obtain ⟨e1, e2⟩ := c3.2 u rfl; rw [e1, e2]
              refine hs _ σ (.ofV (o := o) ?_) (hk ρ _ (if ok then .tup [w, .bool bb] else w) σ (hi1.putO o.dst ?_) rfl (fun p _ => KpO.same (by first | exact putO_ob | rfl)) c4)
              · simp only [opV, hop, hlk, Option.map_some]
              · cases ok
                · exact c1
                · rw [cond_true, if_pos rfl]; unfold Rl; exact ⟨_, rfl, .cons' c1 (.cons' (by unfold Rl; rfl) rfl)⟩
            · cases hsm
          · cases hsm
        · cases hsm
      · cases hsm
    · split at h
      · rename_i v hr
        rw [← hop] at hr
        obtain ⟨y, h1, h2⟩ := opM_ok hR hF hom .nil hi hr
        exact hs y σ h1 (hk ρ _ y σ (hi1.putO o.dst h2) rfl (fun p _ => KpO.same (by first | exact putO_ob | rfl)) h)
      · cases h
  · split at h
    · rename_i v hr
      obtain ⟨y, h1, h2⟩ := opM_ok hR hF hom .nil hi hr
      exact hs y σ h1 (hk ρ _ y σ (hi1.putO o.dst h2) rfl (fun p _ => KpO.same (by first | exact putO_ob | rfl)) h)
    · rename_i c v hr
      obtain ⟨hc, h⟩ := bifs h
      obtain ⟨y, h1, h2⟩ := opM_ok hR hF hom .nil hi hr hc
      exact hs y σ h1 (hk ρ _ y σ (hi1.putO o.dst h2) rfl (fun p _ => KpO.same (by first | exact putO_ob | rfl)) h)
    · rename_i v st' hr
      obtain ⟨y, σ', ρ', h1, h2, h3, h4, h5⟩ := opM_ok hR hF hom .nil hi hr
      exact hs y σ' h1 (hk ρ' _ y σ' (h2.putO o.dst h4) h3 (fun p hp => (h5 p hp).congr putO_ob) h)
    · rename_i c v st' hr
      obtain ⟨hc, h⟩ := bifs h
      obtain ⟨y, σ', ρ', h1, h2, h3, h4, h5⟩ := opM_ok hR hF hom .nil hi hr hc
      exact hs y σ' h1 (hk ρ' _ y σ' (h2.putO o.dst h4) h3 (fun p hp => (h5 p hp).congr putO_ob) h)
    · rename_i α z q f hr
      obtain ⟨a, ha, h⟩ := Option.bind_eq_some_iff.1 h
      obtain ⟨y, h1, h2⟩ := opM_ok hR hF hom .nil hi hr a ha
      exact hs y σ h1 (hk ρ _ y σ (hi1.putO o.dst h2) rfl (fun p _ => KpO.same (by first | exact putO_ob | rfl)) h)
    · cases h
omit hR in
theorem effM_ok (hi : ImgR ρ b st fr σ) : ∀ (n j : Nat) (w c : Bool) (g : List (Nat × Bool)), effM st n j w = some (c, g) → (c = true → fr.tm j = .bool w ∧ GOK fr g) ∧ (c = false → fr.tm j = .bool (!w) ∨ fr.tm j = undefV) ∧ (g = [(j, w)] → c = false → fr.tm j = .bool (!w))
  | 0, j, w, c, g, h => by cases h
  | n + 1, j, w, c, g, h => by
    have key : ∀ (i : Nat) (u a : Bool) (y : TV R.T), look st.fr j = some (.opt i u y) → (∀ v, Rl R ρ σ.top y v → v = .bool a) → (match effM st n i u with
        | some (c, g) => some (andB c (eqw a w), (j, w) :: g)
        | none => none) = some (c, g) → (c = true → fr.tm j = .bool w ∧ GOK fr g) ∧ (c = false → fr.tm j = .bool (!w) ∨ fr.tm j = undefV) ∧ (g = [(j, w)] → c = false → fr.tm j = .bool (!w)) := by
      intro i u a y hl hy h
      split at h
      · rename_i c0 g0 he
        cases h
        obtain ⟨h1, h2, h3⟩ := effM_ok hi n i u c0 g0 he
        have hr := hi.fr _ _ hl
        have hg0 : g0 ≠ [] := by
          rintro rfl
          cases n with
          | zero => cases he
          | succ n =>
            unfold effM at he
            split at he
            · cases he
            · split at he <;> cases he
            · split at he <;> cases he
            · cases he
        refine ⟨fun hc => ?_, fun hc => ?_, fun hg => absurd (by simpa using hg) hg0⟩
        · cases c0 with
          | false => cases hc
          | true =>
            obtain ⟨a1, a2⟩ := h1 rfl
            have hv := hy _ (hr.1 a1)
            have hc' : eqw a w = true := hc
            have : a = w := by cases a <;> cases w <;> first | rfl | cases hc'
            subst this
            exact ⟨hv, .cons hv a2⟩
        · cases c0 with
          | false => exact .inr (hr.2 (h2 rfl))
          | true =>
            obtain ⟨a1, a2⟩ := h1 rfl
            have hv := hy _ (hr.1 a1)
            have hc' : eqw a w = false := hc
            have : a = !w := by cases a <;> cases w <;> first | rfl | cases hc'
            subst this
            exact .inl hv
      · cases h
    unfold effM at h
    split at h
    · rename_i a hl
      cases h
      have hv := (show Rl R ρ σ.top (.bool a) (fr.tm j) from hi.fr _ _ hl).inv_bool
      refine ⟨fun hc => ?_, fun hc => .inl ?_, fun _ hc => ?_⟩
      · have : a = w := by cases a <;> cases w <;> first | rfl | cases hc
        subst this; exact ⟨hv, .cons hv .nil⟩
      · have : a = !w := by cases a <;> cases w <;> first | rfl | cases hc
        subst this; exact hv
      · have : a = !w := by cases a <;> cases w <;> first | rfl | cases hc
        subst this; exact hv
    · rename_i i u a hl; exact key i u a _ hl (fun v hv => hv.inv_bool) h
    · rename_i i u a hl; exact key i u a _ hl (fun v hv => hv.inv_blit) h
    · cases h
omit hR in
theorem guardM_ok {all : List Oper} (hi : ImgR ρ b st fr σ) : match guardM all st o with
    | .run => wantedV all fr o = some true
    | .skip => wantedV all fr o = some false
    | .dyn j w c g => (∃ n, effM st n j w = some (c, g)) ∧ wantedV all fr o = some c
    | .no => True := by
  unfold guardM wantedV
  cases hg : o.guard with
  | none => rfl
  | some p =>
    obtain ⟨j, w⟩ := p
    dsimp only
    cases hj : all[j]? with
    | none => rfl
    | some p =>
      simp only [Option.bind_some]
      cases hd : p.dst with
      | none => rfl
      | some t =>
        dsimp only
        have dyn : ∀ c g, effM st 12 t w = some (c, g) → (match fr.tm t with
            | .bool b => some (b == w)
            | .raw _ => none
            | _ => some false) = some c := by
          intro c g he
          obtain ⟨h1, h2, _⟩ := effM_ok hi 12 t w c g he
          cases c with
          | true => rw [(h1 rfl).1]; simp
          | false =>
            rcases h2 rfl with h2 | h2
            · rw [h2]; cases w <;> rfl
            · rw [h2]; rfl
        cases hl : look st.fr t with
        | none =>
          dsimp only
          cases he : effM st 12 t w with
          | none => trivial
          | some q => exact ⟨⟨12, he⟩, dyn _ _ he⟩
        | some v =>
          have hr := hi.fr _ _ hl
          cases v with
          | blit c =>
            have := (show Rl R ρ σ.top (.blit c) (fr.tm t) from hr).inv_blit
            rw [this]
            cases c <;> cases w <;> rfl
          | undef =>
            have := (show Rl R ρ σ.top .undef (fr.tm t) from hr).inv_undef
            rw [this]; rfl
          | _ =>
            dsimp only
            cases he : effM st 12 t w with
            | none => trivial
            | some q => exact ⟨⟨12, he⟩, dyn _ _ he⟩
omit hR in
theorem learnG_ok (hi : ImgR ρ b st fr σ) : ∀ {g : List (Nat × Bool)}, GOK fr g → (∀ j u, (j, u) ∈ g → fr.tm j = .bool u) → ImgR ρ b (st.learnG g) fr σ ∧ (st.learnG g).ob = st.ob
  | [], _, _ => ⟨hi, rfl⟩
  | (j, w) :: g, hg, hm => by
    obtain ⟨h1, h2⟩ := learnG_ok hi (g := g) (fun i u h => by
      exact hm i u (by
        have : ∀ g : List (Nat × Bool), look g i = some u → (i, u) ∈ g := by
          intro g
          induction g with
          | nil => intro h; cases h
          | cons p g ih =>
            intro h
            obtain ⟨k, v⟩ := p
            by_cases e : i = k
            · subst e; rw [look_cons_eq] at h; cases h; simp
            · rw [look_cons_ne _ _ e] at h; simp [ih h]
        exact List.mem_cons_of_mem _ (this g h))) (fun i u h => hm i u (by simp [h]))
    exact ⟨h1.learn (hm j w (by simp)), h2⟩
omit hR in
theorem effM_mem (hi : ImgR ρ b st fr σ) : ∀ (n j : Nat) (w : Bool) (g : List (Nat × Bool)), effM st n j w = some (true, g) → ∀ i u, (i, u) ∈ g → fr.tm i = .bool u
  | 0, j, w, g, h => by cases h
  | n + 1, j, w, g, h => by
    have hj := ((effM_ok hi (n + 1) j w true g h).1 rfl).1
    unfold effM at h
    split at h
    · simp only [Option.some.injEq, Prod.mk.injEq] at h
      obtain ⟨_, rfl⟩ := h
      intro i u hm; simp at hm; obtain ⟨rfl, rfl⟩ := hm; exact hj
    all_goals first
      | (split at h
         · rename_i c0 g0 he
           simp only [Option.some.injEq, Prod.mk.injEq] at h
           obtain ⟨hc, rfl⟩ := h
           cases c0 with
           | false => cases hc
           | true =>
             intro i u hm
             rcases List.mem_cons.1 hm with hm | hm
             · cases hm; exact hj
             · exact effM_mem hi n _ _ g0 he i u hm
         · cases h)
      | cases h
omit hR in
theorem learnN_ok (hi : ImgR ρ b st fr σ) {n j : Nat} {w : Bool} {g : List (Nat × Bool)} (hj : effM st n j w = some (false, g)) : ImgR ρ b (st.learnN g) fr σ ∧ (st.learnN g).ob = st.ob := by
  obtain ⟨_, _, e3⟩ := effM_ok hi n j w false g hj
  rcases g with _ | ⟨⟨j', w'⟩, _ | ⟨p, g⟩⟩
  · exact ⟨hi, rfl⟩
  · have hj' : j' = j ∧ w' = w := by
      cases n with
      | zero => cases hj
      | succ n =>
        unfold effM at hj
        split at hj
        · simp only [Option.some.injEq, Prod.mk.injEq, List.cons.injEq] at hj
          exact ⟨hj.2.1.1.symm, hj.2.1.2.symm⟩
        · split at hj
          · simp only [Option.some.injEq, Prod.mk.injEq, List.cons.injEq] at hj
            exact ⟨hj.2.1.1.symm, hj.2.1.2.symm⟩
          · exact absurd hj (by simp)
        · split at hj
          · simp only [Option.some.injEq, Prod.mk.injEq, List.cons.injEq] at hj
            exact ⟨hj.2.1.1.symm, hj.2.1.2.symm⟩
          · exact absurd hj (by simp)
        · exact absurd hj (by simp)
    obtain ⟨rfl, rfl⟩ := hj'
    exact ⟨hi.learn (e3 rfl rfl), rfl⟩
  · exact ⟨hi, rfl⟩
theorem dynM_ok {om : Bool} {β : Type} {F : Nat → List (FR R)} (hF : RegsOK E F) (hom : ρ.om = om) (hi : ImgR ρ stp st fr σ) {j n : Nat} {w c : Bool} {g : List (Nat × Bool)} (hj : effM st n j w = some (c, g)) {k : MS R.T → Option β} {x : β} (h : dynM E R om F o j w c g st k = some x) {G : Prop} {rest : Fr → Sig → Prop}
    (hs : c = true → ∀ y σ', StepTo E fr σ stp o y σ' → rest (fr.put o.dst y) σ' → G) (hs' : c = false → rest (fr.put o.dst undefV) σ → G)
    (hk : ∀ ρ' st' y σ', ImgR ρ' (stp + 1) st' (fr.put o.dst y) σ' → σ'.next = σ.next → (∀ p, o.dst ≠ some p → KpO true p st ρ σ st' ρ' σ') → k st' = some x → rest (fr.put o.dst y) σ') : G := by
  have hi1 := hi.le (Nat.le_succ stp)
  obtain ⟨e1, e2, e3⟩ := effM_ok hi n j w c g hj
  have split_ : (bif c then runM E R om F o (st.learnG g) k else k ((st.learnN g).putO o.dst .undef)) = some x → G := by
    intro h
    cases c with
    | true =>
      obtain ⟨l1, l2⟩ := learnG_ok hi (e1 rfl).2 (effM_mem hi n j w g hj)
      exact runM_ok hR hF hom l1 h (hs rfl) (fun ρ' st' y σ' a b c d => hk ρ' st' y σ' a b (fun p hp => (c p hp).from l2) d)
    | false =>
      obtain ⟨n1, n2⟩ := learnN_ok hi hj
      have hN : ImgR ρ (stp + 1) (st.learnN g) fr σ ∧ (st.learnN g).ob = st.ob := ⟨n1.le (Nat.le_succ _), n2⟩
      refine hs' rfl (hk ρ _ undefV σ (hN.1.putO o.dst (by unfold Rl; rfl)) rfl (fun p _ => KpO.same (putO_ob.trans hN.2)) h)
  unfold dynM at h
  split at h
  · rename_i d hd
    have hput : memN d (g.map (·.1)) = false → ∀ (v : TV R.T) (y : V), (c = true → Rl R ρ σ.top v y) → (c = false → y = undefV) → ImgR ρ (stp + 1) (st.put d (.opt j w v)) (fr.put o.dst y) σ := by
      intro hdj v y h1 h2
      have hne : (fr.set d y).tm j = fr.tm j := by
        refine set_ne _ _ ?_
        cases n with
        | zero => cases hj
        | succ n =>
          have hmem : memN d (g.map (·.1)) = false := hdj
          have : ∃ g', g = (j, w) :: g' := by
            unfold effM at hj
            split at hj
            · cases hj; exact ⟨[], rfl⟩
            all_goals first
              | (split at hj
                 · simp only [Option.some.injEq, Prod.mk.injEq] at hj
                   exact ⟨_, hj.2.symm⟩
                 · cases hj)
              | cases hj
          obtain ⟨g', rfl⟩ := this
          have h' : (Nat.beq d j || memN d (g'.map (·.1))) = false := hmem
          rw [Bool.or_eq_false_iff] at h'
          simpa using (nbeq_f h'.1).symm
      rw [hd, put_some]
      refine hi1.put d ⟨fun hc => ?_, fun hc => ?_⟩
      · rw [hne] at hc
        refine h1 ?_
        cases c with
        | true => rfl
        | false =>
          rcases e2 rfl with e | e
          · rw [e] at hc; cases w <;> cases hc
          · rw [e] at hc; cases hc
      · rw [hne] at hc
        refine h2 ?_
        cases c with
        | false => rfl
        | true =>
          rw [(e1 rfl).1] at hc
          rcases hc with hc | hc
          · cases w <;> cases hc
          · cases hc
    cases hdj : memN d (g.map (·.1))
    · rw [hdj] at h
      simp only [cond_false] at h
      split at h
      · rename_i v hr
        cases c with
        | true =>
          obtain ⟨y, h1, h2⟩ := opM_ok hR hF hom (e1 rfl).2 hi hr
          exact hs rfl y σ h1 (hk ρ _ y σ (hput hdj v y (fun _ => h2) (fun h => by cases h)) rfl (fun p _ => KpO.same rfl) h)
        | false => exact hs' rfl (hk ρ _ undefV σ (hput hdj v undefV (fun h => by cases h) (fun _ => rfl)) rfl (fun p _ => KpO.same rfl) h)
      · rename_i q v hr
        obtain ⟨hq, hh⟩ := bifs h
        clear h
        cases c with
        | true =>
          obtain ⟨y, h1, h2⟩ := opM_ok hR hF hom (e1 rfl).2 hi hr hq
          exact hs rfl y σ h1 (hk ρ _ y σ (hput hdj v y (fun _ => h2) (fun h => by cases h)) rfl (fun p _ => KpO.same rfl) hh)
        | false => exact hs' rfl (hk ρ _ undefV σ (hput hdj v undefV (fun h => by cases h) (fun _ => rfl)) rfl (fun p _ => KpO.same rfl) hh)
      · rename_i α z q f hr
        obtain ⟨a, ha, hh⟩ := Option.bind_eq_some_iff.1 h
        clear h
        cases c with
        | true =>
          obtain ⟨y, h1, h2⟩ := opM_ok hR hF hom (e1 rfl).2 hi hr a ha
          exact hs rfl y σ h1 (hk ρ _ y σ (hput hdj _ y (fun _ => h2) (fun h => by cases h)) rfl (fun p _ => KpO.same rfl) hh)
        | false => exact hs' rfl (hk ρ _ undefV σ (hput hdj _ undefV (fun h => by cases h) (fun _ => rfl)) rfl (fun p _ => KpO.same rfl) hh)
      · exact split_ h
    · rw [hdj] at h
      exact split_ h
  · exact split_ h
omit hR in
theorem dst_om {ρ' : Rho} {st' : MS R.T} {σ' : Sig} (h : ∀ p, o.dst ≠ some p → KpO true p st ρ σ st' ρ' σ') : ρ'.om = ρ.om := by
  cases hd : o.dst with
  | none => exact (h 0 (by rw [hd]; simp)).om
  | some d => exact (h (d + 1) (by rw [hd]; simp)).om
omit hR in
theorem dsts_cons {os : List Oper} {p : Nat} (h : memN p (dstsL (o :: os)) = false) : o.dst ≠ some p ∧ memN p (dstsL os) = false := by
  unfold dstsL at h
  split at h
  · rename_i d hd
    have h' : (Nat.beq p d || memN p (dstsL os)) = false := h
    rw [Bool.or_eq_false_iff] at h'
    refine ⟨fun e => ?_, h'.2⟩
    rw [hd] at e; cases e; rw [Nat.beq_refl] at h'; exact absurd h'.1 (by simp)
  · rename_i hd
    refine ⟨fun e => ?_, h⟩
    rw [hd] at e; cases e
theorem opsM_ok {om : Bool} {β : Type} {F : Nat → List (FR R)} (hF : RegsOK E F) {all : List Oper} {k : MS R.T → Option β} {x : β} {Q : Fr → Sig → Prop} : ∀ (os : List Oper) (stp : Nat) (ρ : Rho) (st : MS R.T) (fr : Fr) (σ : Sig), ρ.om = om → ImgR ρ stp st fr σ → opsM E R om F all os st k = some x →
    (∀ ρ' st' fr' σ', ImgR ρ' (stp + os.length) st' fr' σ' → σ'.next = σ.next → Kp true (dstsL os) st fr σ ρ st' fr' σ' ρ' → k st' = some x → Q fr' σ') → OW E all stp os fr σ Q
  | [], stp, ρ, st, fr, σ, hom, hi, h, hq => OW.nil (hq ρ st fr σ hi rfl .refl h)
  | o :: os, stp, ρ, st, fr, σ, hom, hi, h, hq => by
    have hg := guardM_ok (o := o) (all := all) hi
    unfold opsM at h
    have hW : ∀ p, memN p (dstsL (o :: os)) = false → o.dst ≠ some p ∧ memN p (dstsL os) = false := fun p hp => dsts_cons hp
    have hq' : ∀ (ρ1 : Rho) (st1 : MS R.T) (y : V) (σ1 : Sig), (∀ p, o.dst ≠ some p → KpO true p st ρ σ st1 ρ1 σ1) → σ1.next = σ.next → ∀ ρ' st' fr' σ', ImgR ρ' (stp + 1 + os.length) st' fr' σ' → σ'.next = σ1.next → Kp true (dstsL os) st1 (fr.put o.dst y) σ1 ρ1 st' fr' σ' ρ' → k st' = some x → Q fr' σ' := fun ρ1 st1 y σ1 hkp h1 ρ' st' fr' σ' hi' hn hkp' hk =>
      hq ρ' st' fr' σ' (by rw [List.length_cons, Nat.add_comm os.length, ← Nat.add_assoc]; exact hi') (hn.trans h1) ((Kp.op (fun p hp => (hW p hp).1) hkp).trans (hkp'.mono fun p hp => (hW p hp).2)) hk
    split at h
    · rename_i hgm
      rw [hgm] at hg
      exact runM_ok hR hF hom hi h (rest := fun fr' σ' => OW E all (stp + 1) os fr' σ' Q) (fun y σ' hst hr => hst.1 all os Q hg hr) (fun ρ' st' y σ' hi' hn hkp hk => opsM_ok hF os (stp + 1) ρ' st' _ σ' ((dst_om hkp).trans hom) hi' hk (hq' ρ' st' y σ' hkp hn))
    · rename_i hgm
      rw [hgm] at hg
      refine OW.skip hg (opsM_ok hF os (stp + 1) ρ _ _ σ hom ?_ h (hq' ρ _ undefV σ (fun p _ => KpO.same (by first | exact putO_ob | rfl)) rfl))
      exact (hi.le (Nat.le_succ _)).putO o.dst (by unfold Rl; rfl)
    · rename_i j w c g hgm
      rw [hgm] at hg
      obtain ⟨⟨n, hn⟩, hg2⟩ := hg
      exact dynM_ok hR hF hom hi hn h (rest := fun fr' σ' => OW E all (stp + 1) os fr' σ' Q) (fun e y σ' hst hr => hst.1 all os Q (by rw [hg2, e]) hr) (fun e hr => OW.skip (by rw [hg2, e]) hr)
        (fun ρ' st' y σ' hi' hn hkp hk => opsM_ok hF os (stp + 1) ρ' st' _ σ' ((dst_om hkp).trans hom) hi' hk (hq' ρ' st' y σ' hkp hn))
    · cases h
omit hR in
theorem refK_rl {top : Nat → Nat} {x : TV R.T} {v : V} (hg : x ≠ .gone) (hv : ∀ o t, x ≠ .vw o t) (h : Rl R ρ top x v) : refK v = refKM x := by
  cases x with
  | gone => exact absurd rfl hg
  | opt j w y => exact h.inv_opt.elim
  | agg cs => obtain ⟨l, rfl, _⟩ := h.inv_agg; rfl
  | tup cs => obtain ⟨l, rfl, _⟩ := h.inv_tup; rfl
  | lst c t l => obtain ⟨l, rfl, _⟩ := h.inv_lst; rfl
  | ref p off => obtain ⟨s, _, rfl⟩ := h.inv_ref; rfl
  | mapr p => obtain ⟨s, _, rfl⟩ := h.inv_mapr; rfl
  | cref l p => obtain ⟨s, rfl, _⟩ := h.inv_cref; rfl
  | fn f a b => obtain ⟨a', b', rfl, _⟩ := h.inv_fn; rfl
  | vw o t => exact absurd rfl (hv o t)
  | eref p t i off => obtain ⟨s, _, _, rfl⟩ := h.inv_eref; rfl
  | _ => unfold Rl at h; subst h; rfl
omit hR in
theorem notV_ne {x : TV R.T} (h : notV x = true) : x ≠ .gone ∧ ∀ o t, x ≠ .vw o t := ⟨(by rintro rfl; cases h), (by rintro o t rfl; cases h)⟩
omit hR in
theorem rk_ok (hi : ImgR ρ b st fr σ) {x : Operand} {v : TV R.T} (h : evM [] st x = some v) (hg : notV v = true) : rkM st x = refK (fr.ev E x) := by
  unfold rkM
  rw [h]
  exact (refK_rl (notV_ne hg).1 (notV_ne hg).2 (evM_rl hi .nil h)).symm
omit hR in
theorem rks_ok (hi : ImgR ρ b st fr σ) : ∀ {l : List Operand} {vs : List (TV R.T)}, evMs [] st l = some vs → vs.all notV = true → l.flatMap (fun x => rkM st x) = l.flatMap fun x => refK (fr.ev E x)
  | [], vs, h, _ => rfl
  | x :: l, vs, h, hg => by
    unfold evMs at h
    cases h1 : evM [] st x with
    | none => simp only [h1] at h; cases h
    | some a =>
      cases h2 : evMs [] st l with
      | none => simp only [h1, h2] at h; cases h
      | some as =>
        simp only [h1, h2] at h; cases h
        rw [List.all_cons, Bool.and_eq_true] at hg
        rw [List.flatMap_cons, List.flatMap_cons, rk_ok (E := E) hi h1 hg.1, rks_ok hi h2 hg.2]
omit hR in
theorem runM_op {om : Bool} {β : Type} {F : Nat → List (FR R)} {k : MS R.T → Option β} {x : β} (h : runM E R om F o st k = some x) (hp : ∀ c a b, o.op ≠ .pick c a b) (hl : ∀ t m y ok, o.op ≠ .lookup t m y ok) (hst : ∀ t a y, o.op ≠ .store t a y) : ∃ r, opM E R om F [] o.dst o.op st = some r := by
  unfold runM at h
  split at h
  · rename_i c a b hop; exact absurd hop (hp _ _ _)
  · rename_i t a y hop; exact absurd hop (hst _ _ _)
  · rename_i t m y ok hop; exact absurd hop (hl _ _ _ _)
  · cases hr : opM E R om F [] o.dst o.op st with
    | some r => exact ⟨r, rfl⟩
    | none => rw [hr] at h; cases h
theorem footS_ok {om : Bool} {β : Type} {F : Nat → List (FR R)} (hom : ρ.om = om) (hi : ImgR ρ b st fr σ) {k : MS R.T → Option β} {x : β} (h : runM E R om F o st k = some x) (hd : drOK st o = true) : footSM E om st o = footS E fr o := by
  unfold footSM footS
  have hop := runM_op h
  cases ho : o.op <;> rw [ho] at hop <;> dsimp only
  case load t a =>
    obtain ⟨r, hr⟩ := hop (by simp) (by simp) (by simp)
    unfold opM at hr; dsimp only at hr
    split at hr
    · rename_i hv; rw [rk_ok (E := E) hi hv rfl]
    · rename_i hv; rw [rk_ok (E := E) hi hv rfl]
    · rename_i hv; rw [rk_ok (E := E) hi hv rfl]
    · cases hr
  case store t a y =>
    have h' := h
    unfold runM at h'
    rw [ho] at h'
    dsimp only at h'
    split at h'
    · rename_i hst
      unfold elSt at hst
      split at hst
      · rename_i hv _; rw [rk_ok (E := E) hi hv rfl]
      · cases hst
    · split at h'
      · rename_i hr
        unfold opM at hr; dsimp only at hr
        split at hr
        · rename_i hv _; rw [rk_ok (E := E) hi hv rfl]
        · cases hr
      · cases h'
  case convert a b' y =>
    obtain ⟨r, hr⟩ := hop (by simp) (by simp) (by simp)
    unfold opM at hr; dsimp only at hr
    split at hr
    · rename_i v hv
      rw [rk_ok (E := E) hi hv (by
        unfold convM at hr
        split at hr <;> first | rfl | cases hr)]
    · cases hr
  case slice t y lo hi' mx =>
    obtain ⟨r, hr⟩ := hop (by simp) (by simp) (by simp)
    cases mx with
    | some m => unfold opM at hr; cases hr
    | none =>
      unfold opM at hr; dsimp only at hr
      split at hr
      · rename_i v hv
        have key : ∀ lo hi, sliceM E R t v lo hi = some r → notV v = true := by
          intro lo hi hs
          unfold sliceM at hs
          split at hs
          · split at hs <;> first | rfl | cases hs
          · cases hs
        rw [rk_ok (E := E) hi hv (by
          split at hr
          · exact key _ _ hr
          · split at hr
            · exact key _ _ hr
            · cases hr
          · split at hr
            · exact key _ _ hr
            · cases hr
          · split at hr
            · exact key _ _ hr
            · cases hr)]
      · cases hr
  case lookup t m y ok =>
    have h' := h
    unfold runM at h'
    rw [ho] at h'
    dsimp only at h'
    split at h'
    · rename_i hsm
      unfold lookSM at hsm
      split at hsm
      · rename_i hv; rw [rk_ok (E := E) hi hv rfl]
      · cases hsm
    · split at h'
      · rename_i hr
        unfold opM at hr; dsimp only at hr
        split at hr
        · rename_i hv _
          rw [rk_ok (E := E) hi hv (by
            unfold lookupM at hr
            split at hr <;> first | rfl | cases hr)]
        · cases hr
      · cases h'
  case mapUpdate t m k' v =>
    obtain ⟨r, hr⟩ := hop (by simp) (by simp) (by simp)
    unfold opM at hr; dsimp only at hr
    split at hr
    · rename_i hv _ _
      rw [rk_ok (E := E) hi hv (by
        unfold updateM at hr
        split at hr <;> first | rfl | cases hr)]
    · cases hr
  case insert t m k' v =>
    obtain ⟨r, hr⟩ := hop (by simp) (by simp) (by simp)
    unfold opM at hr; dsimp only at hr
    split at hr
    · rename_i hv _ _
      rw [rk_ok (E := E) hi hv (by
        unfold updateM at hr
        split at hr <;> first | rfl | cases hr)]
    · cases hr
  case alloc t => unfold dstKM dstK; rw [hi.d]; rfl
  case box t y => unfold dstKM dstK; rw [hi.d]; rfl
  case makeMap t y => unfold dstKM dstK; rw [hi.d]; rfl
  case makeSlice t y z => unfold dstKM dstK; rw [hi.d]; rfl
  case call c =>
    obtain ⟨r, hr⟩ := hop (by simp) (by simp) (by simp)
    unfold drOK at hd; rw [ho] at hd; dsimp only at hd
    unfold opM at hr; dsimp only at hr
    cases hc : c.callee with
    | invoke y m => rfl
    | builtin bi =>
      rw [hc] at hd hr; dsimp only at hd hr
      split at hd
      · rename_i vs hvs
        have := rks_ok (E := E) hi hvs hd
        cases bi <;> dsimp only <;> (try rw [this]) <;> (try rfl)
        rw [hi.om, hom]; cases om <;> rfl
      · cases hd
    | value f =>
      rw [hc] at hd hr; dsimp only at hd hr
      split at hd
      · rename_i f' a' b' vs hf hvs
        simp only [hf, hvs] at hr
        cases himp : E.imp f' with
        | true => rw [himp] at hr; cases hr
        | false =>
          obtain ⟨va, vb, h1, h2, h3⟩ := (evM_rl (E := E) hi .nil hf).inv_fn
          dsimp only; rw [hf, h1]; dsimp only
          simp only [himp, Bool.false_eq_true, if_false]
          have := clVs_rl hR hd ((h2.append (evMs_rl (E := E) hi .nil hvs)).append h3)
          rw [this]; rfl
      · cases hd
theorem footM_ok {om : Bool} {β : Type} {F : Nat → List (FR R)} (hom : ρ.om = om) (hi : ImgR ρ b st fr σ) {k : MS R.T → Option β} {x : β} {all : List Oper} (h : runM E R om F o st k = some x) (hd : drOK st o = true) : footM E om all st o true = footI E all fr o true := by
  unfold footM footI
  rw [footS_ok hR hom hi h hd]
theorem opsDM_ok {om : Bool} {β : Type} {F : Nat → List (FR R)} (hF : RegsOK E F) {ms : List Nat} {all : List Oper} {k : MS R.T → Option β} {x : β} {Q : Fr → Sig → Prop} : ∀ (os : List Oper) (stp : Nat) (ρ : Rho) (st : MS R.T) (fr : Fr) (σ : Sig) (fs : List Foot), ρ.om = om → ImgR ρ stp st fr σ → opsDM E R om F ms all os st fs k = some x →
    (∀ ρ' st' fr' σ', ImgR ρ' (stp + os.length) st' fr' σ' → σ'.next = σ.next → Kp true (dstsL os) st fr σ ρ st' fr' σ' ρ' → k st' = some x → Q fr' σ') → FW' E ms all stp os fr σ fs Q
  | [], stp, ρ, st, fr, σ, fs, hom, hi, h, hq => by
    unfold opsDM at h
    obtain ⟨h1, h⟩ := bifs h
    exact FW'.nil h1 (hq ρ st fr σ hi rfl .refl h)
  | o :: os, stp, ρ, st, fr, σ, fs, hom, hi, h, hq => by
    have hg := guardM_ok (o := o) (all := all) hi
    unfold opsDM at h
    have hW : ∀ p, memN p (dstsL (o :: os)) = false → o.dst ≠ some p ∧ memN p (dstsL os) = false := fun p hp => dsts_cons hp
    have hq' : ∀ (ρ1 : Rho) (st1 : MS R.T) (y : V) (σ1 : Sig), (∀ p, o.dst ≠ some p → KpO true p st ρ σ st1 ρ1 σ1) → σ1.next = σ.next → ∀ ρ' st' fr' σ', ImgR ρ' (stp + 1 + os.length) st' fr' σ' → σ'.next = σ1.next → Kp true (dstsL os) st1 (fr.put o.dst y) σ1 ρ1 st' fr' σ' ρ' → k st' = some x → Q fr' σ' := fun ρ1 st1 y σ1 hkp h1 ρ' st' fr' σ' hi' hn hkp' hk =>
      hq ρ' st' fr' σ' (by rw [List.length_cons, Nat.add_comm os.length, ← Nat.add_assoc]; exact hi') (hn.trans h1) ((Kp.op (fun p hp => (hW p hp).1) hkp).trans (hkp'.mono fun p hp => (hW p hp).2)) hk
    have run : ∀ (st1 : MS R.T), st1.ob = st.ob → ImgR ρ stp st1 fr σ → wantedV all fr o = some true → (bif !(drOK st1 o) then none else runM E R om F o st1 (fun st' => opsDM E R om F ms all os st' (fs ++ [footM E om all st1 o true]) k)) = some x → FW' E ms all stp (o :: os) fr σ fs Q := by
      intro st1 hst1 hi hg h
      have hkq : ∀ (st' : MS R.T) (ρ' : Rho) (σ' : Sig), (∀ p, o.dst ≠ some p → KpO true p st1 ρ σ st' ρ' σ') → ∀ p, o.dst ≠ some p → KpO true p st ρ σ st' ρ' σ' := fun st' ρ' σ' h p hp => (h p hp).from hst1
      cases hd : drOK st1 o
      · rw [hd] at h; cases h
      · rw [hd] at h
        have h' : runM E R om F o st1 (fun st' => opsDM E R om F ms all os st' (fs ++ [footM E om all st1 o true]) k) = some x := h
        have hf := footM_ok hR (all := all) hom hi h' hd
        rw [hf] at h'
        exact runM_ok hR hF hom hi h' (rest := fun fr' σ' => FW' E ms all (stp + 1) os fr' σ' (fs ++ [footI E all fr o true]) Q) (fun y σ' hst hr => hst.2 ms all os fs Q hg hr) (fun ρ' st' y σ' hi' hn hkp hk => opsDM_ok hF os (stp + 1) ρ' st' _ σ' _ ((dst_om hkp).trans hom) hi' hk (hq' ρ' st' y σ' (hkq st' ρ' σ' hkp) hn))
    split at h
    · rename_i hgm
      rw [hgm] at hg
      exact run st rfl hi hg h
    · rename_i hgm
      rw [hgm] at hg
      refine FW'.skip hg (opsDM_ok hF os (stp + 1) ρ _ _ σ _ hom ?_ h (hq' ρ _ undefV σ (fun p _ => KpO.same (by first | exact putO_ob | rfl)) rfl))
      exact (hi.le (Nat.le_succ _)).putO o.dst (by unfold Rl; rfl)
    · rename_i j w c g hgm
      rw [hgm] at hg
      obtain ⟨⟨n, hn⟩, hg2⟩ := hg
      obtain ⟨e1, e2, e3⟩ := effM_ok hi n j w c g hn
      cases c with
      | true =>
        obtain ⟨l1, l2⟩ := learnG_ok hi (e1 rfl).2 (effM_mem hi n j w g hn)
        exact run (st.learnG g) l2 l1 hg2 h
      | false =>
        obtain ⟨l1, l2⟩ := learnN_ok hi hn
        exact FW'.skip hg2 (opsDM_ok hF os (stp + 1) ρ _ _ σ _ hom ((l1.le (Nat.le_succ _)).putO o.dst (by unfold Rl; rfl)) h (hq' ρ _ undefV σ (fun p _ => KpO.same (putO_ob.trans l2)) rfl))
    · cases h
end
end Aq
end
section
namespace Aq
open Go
section
variable {E : Env} {fr : Fr} {σ : Sig}
def Sig.enter (σ : Sig) (fr : Fr) (ps : Array Tmp) (asg body : Code) : Sig := ({ σ with next := σ.next + 1 } : Sig).setLoop σ.next { st := 0, pend := none, fr := fr, ps := ps.toList, asg := asg, body := body }
def Rnd (E : Env) (l : Nat) (args : List V) (σ : Sig) (b : Bool) (σ' : Sig) : Prop := ∃ n, roundV (evl E n) l args σ = some (.bool b, σ')
theorem CW.range {f : Operand} {ps : Array Tmp} {asg body : Code} {g : FuncId} {a b : List V} {Q : Ex → Fr → Sig → Prop} (hf : fr.ev E f = .fn (.func g) a b) (hi : E.imp g = true)
    (h : Imp E g (a ++ [.fn (.yield σ.next) [] []] ++ b) (fr.d + 1) (σ.enter fr ps asg body) (fun _ σ2 => ∃ r, σ2.loops σ.next = some r ∧ r.st ≠ 1 ∧ Q (match r.pend with | none => .normal | some e => e) fr (σ2.delLoop σ.next))) : CW E (.rangeFunc f ps asg body) fr σ Q := by
  obtain ⟨n, v, σ2, h1, r, h2, h3, h4⟩ := h
  refine ⟨n, _, fr, _, ?_, h4⟩
  have h1' : applyV E (evl E n) fr.d (σ.enter fr ps asg body) (.fn (.func g) a b) [.fn (.yield σ.next) [] []] = some (v, σ2) := by
    unfold applyV; simp only [hi, if_true]; exact h1
  unfold codeE
  rw [hf]
  simp only [isFuncV, if_true]
  unfold Sig.enter at h1'
  rw [h1']
  simp only [Option.bind_some, h2, if_neg h3]
  cases r.pend <;> rfl
theorem Rnd.of {l : Nat} {args : List V} {r : LoopRec} {b : Bool} {σ' : Sig} (hl : σ.loops l = some r) (hst : r.st = 0) (hlen : r.ps.length = args.length)
    (h : CW E r.asg { r.fr with tm := (r.ps.zip args).foldl (fun tm (p, a) => upd tm p a) r.fr.tm } σ (fun e fr1 σ1 => e = .normal ∧ ∃ r1, σ1.loops l = some r1 ∧ r1.st = 0 ∧
      CW E r.body fr1 (σ1.setLoop l { r1 with st := 1 }) (fun e _ σ2 => ∃ r2, σ2.loops l = some r2 ∧ r2.st = 1 ∧ match e with
        | .normal => b = true ∧ σ' = σ2.setLoop l { r2 with st := 0, pend := none }
        | e => b = false ∧ σ' = σ2.setLoop l { r2 with st := 2, pend := some e }))) : Rnd E l args σ b σ' := by
  obtain ⟨n, e, fr1, σ1, h1, rfl, r1, hl1, hs1, m, e2, fr2, σ2, h2, r2, hl2, hs2, h3⟩ := h
  have h1' : (evl E (max n m + 1)).code r.asg { r.fr with tm := (r.ps.zip args).foldl (fun tm (p, a) => upd tm p a) r.fr.tm } σ = some (.normal, fr1, σ1) := codeE_le (evl_le (Nat.le_max_left n m)) _ _ _ _ h1
  have h2' : (evl E (max n m + 1)).code r.body fr1 (σ1.setLoop l { r1 with st := 1 }) = some (e2, fr2, σ2) := codeE_le (evl_le (Nat.le_max_right n m)) _ _ _ _ h2
  refine ⟨max n m + 1, ?_⟩
  unfold roundV
  simp only [hl, Option.bind_some, hst, hlen, and_self, if_true, h1', hl1, hs1, h2', hl2, hs2]
  cases e2 with
  | normal => obtain ⟨rfl, rfl⟩ := h3; rfl
  | exit i => obtain ⟨rfl, rfl⟩ := h3; rfl
  | ret => obtain ⟨rfl, rfl⟩ := h3; rfl
theorem OW.yield {all : List Oper} {st : Nat} {o : Oper} {os : List Oper} {Q : Fr → Sig → Prop} {c : Call} {f : Operand} {l : Nat} {b : Bool} {σ1 : Sig} (hw : wantedV all fr o = some true) (ho : o.op = .call c) (hcal : c.callee = .value f)
    (hf : fr.ev E f = .fn (.yield l) [] []) (hr : Rnd E l (c.args.toList.map (fr.ev E)) σ b σ1) (h : OW E all (st + 1) os (fr.put o.dst (.bool b)) σ1 Q) : OW E all st (o :: os) fr σ Q := by
  obtain ⟨n, fr', σ', h1, h2⟩ := h
  obtain ⟨m, hm⟩ := hr
  have hm' := roundV_le (evl_le (Nat.le_max_right n m)) hm
  have h1' := opsE_le (evl_le (Nat.le_max_left n m)) _ _ _ _ _ _ h1
  refine ⟨max n m, fr', σ', ?_, h2⟩
  have : applyV E (evl E (max n m)) fr.d σ (.fn (.yield l) [] []) (c.args.toList.map (fr.ev E)) = some (.bool b, σ1) := by
    unfold applyV; exact hm'
  simp only [opsE, hw, Option.bind_some, if_true, opC, ho, hcal, hf, this, Option.map_some, h1']
structure Shift (d : Nat) (σ σ' : Sig) : Prop where
  next : σ.next ≤ σ'.next
  top : ∀ s, s < σ.next → σ'.top s = σ.top s
  loops : ∀ l, l < σ.next → σ'.loops l = σ.loops l
  obj : ∀ a o, a ≤ d → σ'.obj (a, o) = σ.obj (a, o)
theorem Shift.refl {d : Nat} {σ : Sig} : Shift d σ σ := ⟨Nat.le_refl _, fun _ _ => rfl, fun _ _ => rfl, fun _ _ _ => rfl⟩
theorem Shift.trans {d : Nat} {σ σ' σ'' : Sig} (h : Shift d σ σ') (g : Shift d σ' σ'') : Shift d σ σ'' :=
  ⟨Nat.le_trans h.next g.next, fun s hs => (g.top s (Nat.lt_of_lt_of_le hs h.next)).trans (h.top s hs), fun s hs => (g.loops s (Nat.lt_of_lt_of_le hs h.next)).trans (h.loops s hs), fun a o ha => (g.obj a o ha).trans (h.obj a o ha)⟩
def IterOK (E : Env) (f : FuncId) (a b : List V) (L : List (List V)) : Prop := ∀ (d l : Nat) (σ : Sig) (J : List (List V) → Sig → Prop) (D : Sig → Prop),
  (∀ xs σ σ', l < σ.next → J xs σ → Shift d σ σ' → J xs σ') → (∀ σ σ', l < σ.next → D σ → Shift d σ σ' → D σ') →
  (∀ x xs σ, l < σ.next → J (x :: xs) σ → ∃ c σ', Rnd E l x σ c σ' ∧ σ.next ≤ σ'.next ∧ (∀ a o, d < a → σ'.obj (a, o) = σ.obj (a, o)) ∧ (∀ s, s < σ.next → σ'.loops s = σ.loops s ∨ s = l) ∧ (c = true → J xs σ') ∧ (c = false → D σ')) →
  l < σ.next → J L σ → Imp E f (a ++ [.fn (.yield l) [] []] ++ b) (d + 1) σ fun _ σ' => σ.next ≤ σ'.next ∧ (J [] σ' ∨ D σ')
end
end Aq
end
