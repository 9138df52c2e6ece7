/- Part of the proof of a law: Am12. -/
import Derived.Test.YteniejlbjfigdaaGreatDoorW13
set_option linter.all false
set_option linter.unusedSimpArgs false
set_option linter.unusedSectionVars false
namespace Aq
open Go
set_option linter.unusedSectionVars false
set_option linter.unusedVariables false
section
variable {R : Reg} {E : Env} (hR : RegOK R)
include hR
def CodeOK (E : Env) (om : Bool) (c : Code) (body : {β : Type} → MS R.T → (Ex → MS R.T → Option β) → Option β) : Prop :=
  ∀ (β : Type) (st : MS R.T) (k : Ex → MS R.T → Option β) (x : β) (fr : Fr) (σ : Sig) (ρ : Rho), ρ.om = om → body st k = some x → ImgR ρ σ.next st fr σ → CW E c fr σ fun e fr' σ' => ∃ ρ' st', ImgR ρ' σ'.next st' fr' σ' ∧ Kp (noRange c) (wrC c) st fr σ ρ st' fr' σ' ρ' ∧ k e st' = some x
omit hR in
theorem ObR_ro : ∀ (ρ : Rho) (σ : Sig) (o : Nat) (x : Ob R.T), ObR (R := R) ρ σ o x → ObR (R := R) ρ σ o (.ro x) := fun _ _ _ _ h => h
theorem loopF_ok {om : Bool} {β : Type} {c : Code} {key : Nat} {sh : Shape} {outs : List (Ex × Shape)} {body : {β : Type} → MS R.T → (Ex → MS R.T → Option β) → Option β} (hb : CodeOK E om c body) {H B : MS R.T} {fr0 : Fr} {σ0 : Sig} {ρ0 : Rho} (hom : ρ0.om = om)
    (hB : ∀ (st' S' : MS R.T) (fr' : Fr) (σ' : Sig) (ρ' : Rho) (b' : Nat), ImgR ρ' b' st' fr' σ' → Kp (noRange c) (wrC c) H fr0 σ0 ρ0 S' fr' σ' ρ' → ImgR ρ' b' B fr' σ') (hro : ∀ o, RO B o) :
    ∀ (m : Nat) (p : Pay R.T sh) (o : Out R.T outs) (fr : Fr) (σ : Sig) (ρ : Rho), loopF key (wrC c) B sh outs body m p = some o → ImgR ρ σ.next (unpack R sh p) fr σ → Kp (noRange c) (wrC c) H fr0 σ0 ρ0 (B.over (unpack R sh p)) fr σ ρ →
    CW E (.loop c) fr σ fun e fr' σ' => ∃ ρ' S' st', ImgR ρ' σ'.next st' fr' σ' ∧ Kp (noRange c) (wrC c) H fr0 σ0 ρ0 S' fr' σ' ρ' ∧ (∀ o, memN o (wrC c) = false → RO H o → look st'.ob o = none) ∧ ∀ (k : Ex → MS R.T → Option β) (bs : MS R.T), unpackOut R bs k outs o = k e (bs.over st')
  | 0, p, o, fr, σ, ρ, h, _, _ => by cases h
  | m + 1, p, o, fr, σ, ρ, h, hi, hkp => by
    unfold loopF at h
    have hbase : ImgR ρ σ.next B fr σ := hB _ _ _ _ _ _ hi hkp
    refine CW.loop ((hb _ _ _ _ fr σ ρ (hkp.om.trans hom) h (hbase.over hi)).mono ?_)
    rintro e fr' σ' ⟨ρ', st', hi', hkp', hk⟩
    have hall := hkp.trans hkp'
    cases e with
    | normal =>
      dsimp only at hk
      split at hk
      · rename_i p' hp'
        obtain ⟨ρ2, S2, h1, h2, _, h3⟩ := hi'.packW hR hp'
        have hall2 := hall.trans h2
        refine loopF_ok hb hom hB hro m p' o fr' σ' ρ2 hk h1 ⟨hall2.fr, fun q hq => ⟨(hall2.ob q hq).ob, (hall2.ob q hq).ln, (hall2.ob q hq).om, (hall2.ob q hq).nx, (hall2.ob q hq).lp, (hall2.ob q hq).dp, fun hr => ⟨?_, ((hall2.ob q hq).ro hr).2⟩⟩⟩
        exact RO_over (hro q) fun x hx => (by rw [h3 q hq ((hall.ob q hq).ro hr).1] at hx; cases hx)
      · cases hk
    | exit i =>
      obtain ⟨ρ2, S2, st'', h1, h2, _, h3, h4⟩ := packOut_rl (β := β) hR hi' hk
      exact ⟨ρ2, S2, st'', h1, hall.trans h2, fun q hq hr => h3 q hq ((hall.ob q hq).ro hr).1, h4⟩
    | ret =>
      obtain ⟨ρ2, S2, st'', h1, h2, _, h3, h4⟩ := packOut_rl (β := β) hR hi' hk
      exact ⟨ρ2, S2, st'', h1, hall.trans h2, fun q hq hr => h3 q hq ((hall.ob q hq).ro hr).1, h4⟩
omit hR in
def foldK {X : Type} (key : Nat) (W : List Nat) (b : MS R.T) (sh : Shape) (outs : List (Ex × Shape)) (body : {β : Type} → X → MS R.T → (Ex → MS R.T → Option β) → Option β) (xs : List X) (e : Ex) (st : MS R.T) : Option (Out R.T outs) := match e with
    | .normal => match packW R W st.obs sh with
      | some p => foldF key W b sh outs body xs p
      | none => none
    | e => packOut R W e st.obs outs
omit hR in
def endQ (r0 : LoopRec) (l : Nat) (σ3 : Sig) (x : Ex) (bb : Bool) (σ' : Sig) : Prop := match x with
  | .normal => bb = true ∧ σ' = σ3.setLoop l { r0 with st := 0, pend := none }
  | e => bb = false ∧ σ' = σ3.setLoop l { r0 with st := 2, pend := some e }
omit hR in
mutual
theorem Rl.top {ρ : Rho} {t t' : Nat → Nat} (ht : ∀ u s, ρ.tk u = some s → t' s = t s) : ∀ (x : TV R.T) (v : V), Rl R ρ t x v → Rl R ρ t' x v
  | .lst c ty l, v, h => by
    obtain ⟨c', hv, hc⟩ := h
    refine ⟨c', hv, ?_⟩
    cases c <;> first | exact hc | skip
    rcases hc with hc | hc | ⟨s, h1, h2, h3⟩
    · exact .inl hc
    · exact .inr (.inl hc)
    · exact .inr (.inr ⟨s, h1, h2, (ht _ _ h2).trans h3⟩)
  | .agg cs, v, h => by obtain ⟨l, hv, hl⟩ := h; exact ⟨l, hv, RlL.top ht cs l hl⟩
  | .tup cs, v, h => by obtain ⟨l, hv, hl⟩ := h; exact ⟨l, hv, RlL.top ht cs l hl⟩
  | .cref cs off, v, h => by obtain ⟨l, hv, hl⟩ := h; exact ⟨l, hv, RlL.top ht cs l hl⟩
  | .fn f a b, v, h => by obtain ⟨a', b', hv, ha, hb⟩ := h; exact ⟨a', b', hv, RlL.top ht a a' ha, RlL.top ht b b' hb⟩
  | .ref _ _, _, h => h
  | .mapr _, _, h => h
  | .vw _ _, _, h => h
  | .eref _ _ _ _, _, h => h
  | .opt _ _ _, _, h => h.elim
  | .int _ _, _, h => h
  | .bool _, _, h => h
  | .blit _, _, h => h
  | .str _, _, h => h
  | .nilp, _, h => h
  | .nilf, _, h => h
  | .nilm, _, h => h
  | .nili, _, h => h
  | .nils, _, h => h
  | .mapc _ _ _, _, h => h
  | .undef, _, h => h
  | .gone, _, h => h
theorem RlL.top {ρ : Rho} {t t' : Nat → Nat} (ht : ∀ u s, ρ.tk u = some s → t' s = t s) : ∀ (x : List (TV R.T)) (v : List V), RlL R ρ t x v → RlL R ρ t' x v
  | [], _, h => h
  | x :: xs, _, ⟨v, vs, e, h1, h2⟩ => ⟨v, vs, e, Rl.top ht x v h1, RlL.top ht xs vs h2⟩
end
omit hR in
theorem RlS.top {fr : Fr} {ρ : Rho} {t t' : Nat → Nat} (ht : ∀ u s, ρ.tk u = some s → t' s = t s) {x : TV R.T} {v : V} (h : RlS fr ρ t x v) : RlS fr ρ t' x v := by
  cases x with
  | opt j w y => exact ⟨fun hc => Rl.top ht y v (h.1 hc), h.2⟩
  | _ => exact .of (Rl.top ht _ v h)
omit hR in
theorem ObR_shift {ρ : Rho} {σ σ' : Sig} {p : Nat} (hp : σ'.obj (1, p) = σ.obj (1, p)) (ht : ∀ u s, ρ.tk u = some s → σ'.top s = σ.top s) : ∀ {x : Ob R.T}, ObR ρ σ p x → ObR ρ σ' p x
  | .cells cs, h => by
    obtain ⟨s, l, h1, h2, h3⟩ := h
    exact ⟨s, l, h1, by unfold Sig.cellsAt at h2 ⊢; rw [hp]; exact h2, RlL.top ht _ _ h3⟩
  | .map k e m, h => by
    obtain ⟨s, h1, h2⟩ := h
    exact ⟨s, h1, by unfold Sig.mapAt at h2 ⊢; rw [hp]; exact h2⟩
  | .smap ks vs, h => by
    obtain ⟨s, k, l, h1, h2, h3, h4⟩ := h
    exact ⟨s, k, l, h1, by unfold Sig.mapAt at h2 ⊢; rw [hp]; exact h2, RlL.top ht _ _ h3, RlL.top ht _ _ h4⟩
  | .arr t l, h => by
    refine ⟨h.1, ?_⟩
    rcases h.2 with h | ⟨s, cs, h1, h2, h3⟩
    · exact .inl h
    · exact .inr ⟨s, cs, h1, by unfold Sig.cellsAt at h2 ⊢; rw [hp]; exact h2, flat_any l cs h3⟩
  | .gone, _ => trivial
  | .ro b, h => ObR_shift hp ht (x := b) h
omit hR in
theorem ImgR.shift {ρ : Rho} {b : Nat} {st : MS R.T} {fr : Fr} {σ σ' : Sig} (h : ImgR ρ b st fr σ) (hp : ∀ p, σ'.obj (1, p) = σ.obj (1, p)) (ht : ∀ s, s < b → σ'.top s = σ.top s) : ImgR ρ b st fr σ' := { h with
  fr := fun i v hv => (h.fr i v hv).top fun u s hu => ht s (h.lt u s hu)
  ob := fun o x hx => ObR_shift (hp o) (fun u s hu => ht s (h.lt u s hu)) (h.ob o x hx) }
omit hR in
theorem ImgR.noFr {ρ : Rho} {b : Nat} {st : MS R.T} {fr fr' : Fr} {σ : Sig} (h : ImgR ρ b st fr σ) (he : st.fr = []) (hd : fr'.d = 1) (ho : fr'.om = ρ.om) : ImgR ρ b st fr' σ := { h with
  d := hd
  om := ho
  fr := fun i v hv => by rw [he] at hv; cases hv }
omit hR in
theorem ImgR.obs {ρ : Rho} {b : Nat} {st : MS R.T} {fr : Fr} {σ : Sig} (h : ImgR ρ b st fr σ) : ImgR ρ b st.obs fr σ := { h with
  fr := fun i v hv => by cases hv
  ob := h.ob }
omit hR in
theorem KpO.weak {nr : Bool} {o : Nat} {st st' : MS R.T} {ρ ρ' : Rho} {σ σ' : Sig} (h : KpO nr o st ρ σ st' ρ' σ') : KpO false o st ρ σ st' ρ' σ' := ⟨h.ob, h.ln, h.om, h.nx, h.lp, (fun e => by cases e), h.ro⟩
omit hR in
theorem Kp.nr {nr nr' : Bool} {W : List Nat} {st st' : MS R.T} {fr fr' : Fr} {ρ ρ' : Rho} {σ σ' : Sig} (hn : nr' = true → nr = true) (h : Kp nr W st fr σ ρ st' fr' σ' ρ') : Kp nr' W st fr σ ρ st' fr' σ' ρ' := ⟨h.fr, fun o ho => ⟨(h.ob o ho).ob, (h.ob o ho).ln, (h.ob o ho).om, (h.ob o ho).nx, (h.ob o ho).lp, fun e => (h.ob o ho).dp (hn e), (h.ob o ho).ro⟩⟩
omit hR in
theorem KpO.shift {o : Nat} {st st' : MS R.T} {ρ ρ' : Rho} {σ σ' σ'' : Sig} (h : KpO false o st ρ σ st' ρ' σ') (hp : ∀ p, σ''.obj (1, p) = σ'.obj (1, p)) (hn : σ'.next ≤ σ''.next) (hl : ∀ l, l < σ.next → σ''.loops l = σ'.loops l) : KpO false o st ρ σ st' ρ' σ'' :=
  ⟨h.ob, h.ln, h.om, Nat.le_trans h.nx hn, fun l hl' => (hl l hl').trans (h.lp l hl'), (fun e => by cases e), fun hr => ⟨(h.ro hr).1, fun s => by
    have := (h.ro hr).2 s
    unfold Sig.cellsAt Sig.mapAt at this ⊢
    rw [hp]; exact this⟩⟩
omit hR in
theorem putPs_rl {ρ : Rho} {b : Nat} {σ : Sig} : ∀ {ps : List Nat} {tvs : List (TV R.T)} {vs : List V} {st st' : MS R.T} {fr : Fr}, putPs st ps tvs = some st' → RlL R ρ σ.top tvs vs → ImgR ρ b st fr σ → ps.length = vs.length ∧ ImgR ρ b st' { fr with tm := (ps.zip vs).foldl (fun tm (p, a) => upd tm p a) fr.tm } σ ∧ st'.ob = st.ob
  | [], [], vs, st, st', fr, h, hr, hi => by
    cases h; rw [hr.inv_nil]; exact ⟨rfl, hi, rfl⟩
  | [], _ :: _, _, _, _, _, h, _, _ => by cases h
  | _ :: _, [], _, _, _, _, h, _, _ => by cases h
  | i :: ps, t :: tvs, vs, st, st', fr, h, hr, hi => by
    obtain ⟨v, ws, rfl, h1, h2⟩ := hr.inv_cons
    obtain ⟨a1, a2, a3⟩ := putPs_rl (fr := fr.set i v) (show putPs (st.put i t) ps tvs = some st' from h) h2 (hi.put i (.of h1))
    exact ⟨by simp [a1], a2, a3⟩
omit hR in
theorem isRo_upO {k : ObSk} {x : PayO R.T k} : isRo (upO R k x) = false := by cases k <;> rfl
omit hR in
theorem upOs_key {o : Nat} {y : Ob R.T} {O : List Nat} : ∀ {l : List (Nat × ObSk)} {x : PayOs R.T l}, disjO O l = true → look (upOs R l x) o = some y → memN o O = false ∧ isRo y = false
  | [], x, _, h => by cases h
  | [(i, k)], x, hd, h => by
    unfold disjO at hd
    rw [Bool.and_eq_true, Bool.not_eq_true'] at hd
    have h' : look [(i, upO R k x)] o = some y := h
    by_cases e : o = i
    · subst e; rw [look_cons_eq] at h'; cases h'; exact ⟨hd.1, isRo_upO⟩
    · rw [look_cons_ne _ _ e] at h'; cases h'
  | (i, k) :: q :: l, x, hd, h => by
    unfold disjO at hd
    rw [Bool.and_eq_true, Bool.not_eq_true'] at hd
    have h' : look ((i, upO R k x.1) :: upOs R (q :: l) x.2) o = some y := h
    by_cases e : o = i
    · subst e; rw [look_cons_eq] at h'; cases h'; exact ⟨hd.1, isRo_upO⟩
    · rw [look_cons_ne _ _ e] at h'; exact upOs_key hd.2 h'
omit hR in
theorem RO_unpack {W K O : List Nat} {mark : Ob R.T → Ob R.T} {st : MS R.T} {s : Shape} {p : Pay R.T s} {o : Nat} (hd : disjO O s.ob = true) (h : RO ((base W K O mark st).over (unpack R s p)) o) : look (unpack R s p).ob o = none := by
  cases hu : look (unpack R s p).ob o with
  | none => rfl
  | some y =>
    exfalso
    have hk : memN o O = false ∧ isRo y = false := by
      obtain ⟨sl, ob⟩ := s
      cases ob with
      | nil => cases hu
      | cons a as => exact upOs_key hd hu
    have hb : look (base W K O mark st).ob o = none := by
      have : ∀ is : List Nat, memN o is = false → look (selF (fun o b => !(memN o W) && solidO W b) mark st.ob is) o = none := by
        intro is
        induction is with
        | nil => intro _; rfl
        | cons j is ih =>
          intro h
          have h' : (Nat.beq o j || memN o is) = false := h
          rw [Bool.or_eq_false_iff] at h'
          unfold selF
          split
          · rename_i x hx
            cases (!(memN j W) && solidO W x)
            · exact ih h'.2
            · rw [cond_true, look_cons_ne _ _ (nbeq_f h'.1)]; exact ih h'.2
          · exact ih h'.2
      exact this O hk.1
    have := h y (by show look ((base W K O mark st).ob ++ (unpack R s p).ob) o = some y; rw [look_append, hb]; exact hu)
    rw [hk.2] at this; cases this
def ItersOK (E : Env) (I : Nat → List (FI R)) : Prop := ∀ g, ∀ i ∈ I g, E.imp g = true ∧ ∀ pa pb xs, i.F pa pb = some xs → IterOK E g (encSL R i.a pa) (encSL R i.b pb) (xs.map (encSL R i.el))
theorem pclean_mapM {σ : Sig} {n : Nat} : ∀ cs : List V, pcleanL cs = true → cs.mapM (closeV (n + 1) σ) = some cs := by
  intro cs
  induction cs with
  | nil => intro _; rfl
  | cons a l ih =>
    intro h
    simp only [pcleanL, Bool.and_eq_true] at h
    rw [List.mapM_cons, closeV_clean h.1, ih h.2]; rfl
theorem findI_ok {I : Nat → List (FI R)} (hI : ItersOK E I) {g : Nat} {ρ : Rho} {top : Nat → Nat} {u v : List (TV R.T)} {va vb : List V} (hu : stL u = true) (hv : stL v = true) (ha : RlL R ρ top u va) (hb : RlL R ρ top v vb) : ∀ {l : List (FI R)} {el : List Sk} {o : Option (List (PayL R.T el))}, (∀ i ∈ l, i ∈ I g) → findI u v l = some ⟨el, o⟩ →
    E.imp g = true ∧ cSkL el = true ∧ ∀ xs, o = some xs → IterOK E g va vb (xs.map (encSL R el))
  | [], el, o, _, h => by cases h
  | i :: l, el, o, hl, h => by
    unfold findI at h
    split at h
    · rename_i pa pb hpa hpb
      obtain ⟨hc, h⟩ := bifs h
      simp only [Bool.and_eq_true] at hc
      obtain ⟨⟨⟨⟨c1, c2⟩, c3⟩, c4⟩, c5⟩ := hc
      cases h
      obtain ⟨h1, h2⟩ := hI g i (hl i (by simp))
      refine ⟨h1, c3, fun xs hx => ?_⟩
      have e1 := pkL_cl hR i.a pa u va c1 hpa ha 19 Sig.init (by have := Nat.le_of_ble_eq_true c4; omega)
      have e2 := pkL_cl hR i.b pb v vb c2 hpb hb 19 Sig.init (by have := Nat.le_of_ble_eq_true c5; omega)
      rw [pclean_mapM hR va (stL_rl hR u va hu ha)] at e1
      rw [pclean_mapM hR vb (stL_rl hR v vb hv hb)] at e2
      cases e1; cases e2
      exact h2 pa pb xs hx
    · exact findI_ok hI hu hv ha hb (fun x hx => hl x (by simp [hx])) h
theorem codeM_ok {n : Nat} {om : Bool} {F : Nat → List (FR R)} {I : Nat → List (FI R)} (hF : RegsOK E F) (hI : ItersOK E I) {A : Ann} : ∀ c : Code, CodeOK E om c fun st k => codeM E R n om F I A c st k
  | .skip => fun _ st k x fr σ ρ _ h hi => CW.skip ⟨ρ, st, hi, .refl, h⟩
  | .exit i => fun _ st k x fr σ ρ _ h hi => CW.exit ⟨ρ, st, hi, .refl, h⟩
  | .ret => fun _ st k x fr σ ρ _ h hi => CW.ret ⟨ρ, st, hi, .refl, h⟩
  | .region id ops dr => fun β st k x fr σ ρ hom h hi => by
    have h' : (bif dr then (bif edgesOK ops.toList then opsDM E R om F (preM ops.toList) ops.toList ops.toList st [] (fun st => k .normal st) else none) else opsM E R om F ops.toList ops.toList st (fun st => k .normal st)) = some x := h
    have hbump : ∀ {W : List Nat} {st' : MS R.T} {fr' : Fr} {σ' : Sig} {ρ' : Rho} {j : Nat}, Kp true W st fr (σ.bump j) ρ st' fr' σ' ρ' → Kp true W st fr σ ρ st' fr' σ' ρ' := fun h => ⟨h.fr, fun o ho => ⟨(h.ob o ho).ob, (h.ob o ho).ln, (h.ob o ho).om, Nat.le_trans (Nat.le_add_right _ _) (h.ob o ho).nx, fun l hl => (h.ob o ho).lp l (Nat.lt_of_lt_of_le hl (Nat.le_add_right _ _)), (h.ob o ho).dp, fun hr => ⟨((h.ob o ho).ro hr).1, ((h.ob o ho).ro hr).2⟩⟩⟩
    cases dr with
    | true =>
      rw [cond_true] at h'
      obtain ⟨he, h'⟩ := bifs h'
      refine CW.draw he (opsDM_ok hR hF _ σ.next ρ st fr _ [] hom (hi.next _) h' ?_)
      intro ρ' st' fr' σ' hi' hn hkp hk
      exact ⟨ρ', st', by rw [hn]; exact hi', hbump hkp, hk⟩
    | false =>
      rw [cond_false] at h'
      refine CW.region (opsM_ok hR hF _ σ.next ρ st fr _ hom (hi.next _) h' ?_)
      intro ρ' st' fr' σ' hi' hn hkp hk
      exact ⟨ρ', st', by rw [hn]; exact hi', hbump hkp, hk⟩
  | .seq a b => fun β st k x fr σ ρ hom h hi => by
    have h' : (match look A.joins (firstId' b) with
      | none => codeM E R n om F I A a st fun e st => match e with
        | .normal => codeM E R n om F I A b st k
        | e => k e st
      | some q => (codeM E R n om F I A (β := Out R.T q.outs) a ((base (wrC a) q.K q.O .ro st).over st) fun e st => packOut R (wrC a) e st q.outs).bind (unpackOut R (base (wrC a) q.K q.O (fun b => b) st) (fun e st => match e with
        | .normal => codeM E R n om F I A b st k
        | e => k e st) q.outs)) = some x := h
    have hl : ∀ i, memN i (wrC (.seq a b)) = false → memN i (wrC a) = false ∧ memN i (wrC b) = false := fun i hi => by
      have hi' : memN i (wrC a ++ wrC b) = false := hi
      rw [memN_app, Bool.or_eq_false_iff] at hi'; exact hi'
    have fin : ∀ (e : Ex) (st' : MS R.T) (fr' : Fr) (σ' : Sig) (ρ' : Rho), ImgR ρ' σ'.next st' fr' σ' → Kp (noRange a) (wrC a) st fr σ ρ st' fr' σ' ρ' → (match e with
        | .normal => codeM E R n om F I A b st' k
        | e => k e st') = some x → SeqQ E b (fun e fr' σ' => ∃ ρ' st', ImgR ρ' σ'.next st' fr' σ' ∧ Kp (noRange (.seq a b)) (wrC (.seq a b)) st fr σ ρ st' fr' σ' ρ' ∧ k e st' = some x) e fr' σ' := by
      intro e st' fr' σ' ρ' hi' hkp hk
      have hkp1 := (hkp.mono (W' := wrC (.seq a b)) fun i hi => (hl i hi).1).nr (nr' := noRange (.seq a b)) (fun e => by simp only [noRange, Bool.and_eq_true] at e; exact e.1)
      cases e with
      | normal =>
        refine (codeM_ok hF hI b _ st' k x fr' σ' ρ' (hkp.om.trans hom) hk hi').mono ?_
        rintro e fr'' σ'' ⟨ρ'', st'', h1, h2, h3⟩
        exact ⟨ρ'', st'', h1, hkp1.trans ((h2.mono fun i hi => (hl i hi).2).nr (fun e => by simp only [noRange, Bool.and_eq_true] at e; exact e.2)), h3⟩
      | exit i => exact ⟨ρ', st', hi', hkp1, hk⟩
      | ret => exact ⟨ρ', st', hi', hkp1, hk⟩
    split at h'
    · refine CW.seq ((codeM_ok hF hI a _ st _ x fr σ ρ hom h' hi).mono ?_)
      rintro e fr' σ' ⟨ρ', st', hi', hkp, hk⟩
      exact fin e st' fr' σ' ρ' hi' hkp hk
    · rename_i q _
      obtain ⟨o, ho, h'⟩ := Option.bind_eq_some_iff.1 h'
      have hro : ∀ o x, look st.ob o = some x → memN o (wrC a) = false → memN o q.O = true → solidO (wrC a) x = true → RO ((base (wrC a) q.K q.O .ro st).over st) o := fun o x h1 h2 h3 h4 => RO_over_base h1 h2 h3 h4
      have hH : ∀ o, memN o (wrC a) = false → RO st o → RO ((base (wrC a) q.K q.O .ro st).over st) o := fun o _ h => RO_over (RO_base_of (fun _ _ => rfl) h) h
      have hbase : ImgR ρ σ.next (base (wrC a) q.K q.O .ro st) fr σ := hi.base (st0 := (base (wrC a) q.K q.O .ro st).over st) ObR_ro (Kp.refl (nr := false)) hi hro
      refine CW.seq ((codeM_ok hF hI a _ _ _ o fr σ ρ hom ho (hbase.over hi)).mono ?_)
      rintro e fr' σ' ⟨ρ', st', hi', hkp, hk⟩
      obtain ⟨ρ2, S2, st'', h1, g1, _, h3, h2⟩ := packOut_rl (β := β) hR hi' hk
      rw [h2] at h'
      obtain ⟨f1, f2⟩ := finish (K := q.K) hi hH hro (hkp.trans g1) h1 fun o ho hr => h3 o ho ((hkp.ob o ho).ro hr).1
      exact fin e _ fr' σ' ρ2 f1 f2 h'
  | .cond c a b => fun β st k x fr σ ρ hom h hi => by
    have h' : (match evM [] st c with
      | some (.blit t) => bif t then codeM E R n om F I A a st k else codeM E R n om F I A b st k
      | some (.bool t) => bif t then codeM E R n om F I A a (st.learnO c true) k else codeM E R n om F I A b (st.learnO c false) k
      | _ => none) = some x := h
    have hl : ∀ i, memN i (wrC (.cond c a b)) = false → memN i (wrC a) = false ∧ memN i (wrC b) = false := fun i hi => by
      have hi' : memN i (wrC a ++ wrC b) = false := hi
      rw [memN_app, Bool.or_eq_false_iff] at hi'; exact hi'
    have ha : ∀ st' : MS R.T, st'.ob = st.ob → ImgR ρ σ.next st' fr σ → codeM E R n om F I A a st' k = some x → CW E a fr σ fun e fr' σ' => ∃ ρ' st', ImgR ρ' σ'.next st' fr' σ' ∧ Kp (noRange (.cond c a b)) (wrC (.cond c a b)) st fr σ ρ st' fr' σ' ρ' ∧ k e st' = some x := fun st' hs hi' hk => by
      refine (codeM_ok hF hI a _ st' k x fr σ ρ hom hk hi').mono ?_
      rintro e fr'' σ'' ⟨ρ'', st'', h1, h2, h3⟩
      exact ⟨ρ'', st'', h1, ((⟨h2.fr, fun o ho => (h2.ob o ho).from hs⟩ : Kp (noRange a) (wrC a) st fr σ ρ st'' fr'' σ'' ρ'').mono fun i hi => (hl i hi).1).nr (fun e => by simp only [noRange, Bool.and_eq_true] at e; exact e.1), h3⟩
    have hb : ∀ st' : MS R.T, st'.ob = st.ob → ImgR ρ σ.next st' fr σ → codeM E R n om F I A b st' k = some x → CW E b fr σ fun e fr' σ' => ∃ ρ' st', ImgR ρ' σ'.next st' fr' σ' ∧ Kp (noRange (.cond c a b)) (wrC (.cond c a b)) st fr σ ρ st' fr' σ' ρ' ∧ k e st' = some x := fun st' hs hi' hk => by
      refine (codeM_ok hF hI b _ st' k x fr σ ρ hom hk hi').mono ?_
      rintro e fr'' σ'' ⟨ρ'', st'', h1, h2, h3⟩
      exact ⟨ρ'', st'', h1, ((⟨h2.fr, fun o ho => (h2.ob o ho).from hs⟩ : Kp (noRange b) (wrC b) st fr σ ρ st'' fr'' σ'' ρ'').mono fun i hi => (hl i hi).2).nr (fun e => by simp only [noRange, Bool.and_eq_true] at e; exact e.2), h3⟩
    split at h'
    · rename_i t hc
      refine CW.cond (evM_rl (E := E) hi .nil hc).inv_blit (fun e => ?_) (fun e => ?_)
      · subst e; exact ha st rfl hi h'
      · subst e; exact hb st rfl hi h'
    · rename_i t hc
      have hl : ImgR ρ σ.next (st.learnO c t) fr σ ∧ (st.learnO c t).ob = st.ob := by
        cases c with
        | tmp j => exact ⟨hi.learn (show Rl R ρ σ.top (.bool t) (fr.tm j) from hi.fr _ _ (evM_bool hc)).inv_bool, rfl⟩
        | _ => exact ⟨hi, rfl⟩
      refine CW.cond (evM_rl (E := E) hi .nil hc).inv_bool (fun e => ?_) (fun e => ?_)
      · subst e; exact ha _ hl.2 hl.1 h'
      · subst e; exact hb _ hl.2 hl.1 h'
    · cases h'
  | .block id c => fun β st k x fr σ ρ hom h hi => by
    have h' : (codeM E R n om F I A c st fun e st => match e with
      | .exit i => bif Nat.beq i id then k .normal st else k (.exit i) st
      | e => k e st) = some x := h
    refine CW.block ((codeM_ok hF hI c _ st _ x fr σ ρ hom h' hi).mono ?_)
    rintro e fr' σ' ⟨ρ', st', hi', hkp, hk⟩
    cases e with
    | normal => exact ⟨ρ', st', hi', hkp, hk⟩
    | ret => exact ⟨ρ', st', hi', hkp, hk⟩
    | exit i =>
      dsimp only at hk
      unfold BlkQ
      dsimp only
      cases hb : Nat.beq i id
      · rw [hb] at hk
        rw [if_neg (nbeq_f hb)]
        exact ⟨ρ', st', hi', hkp, hk⟩
      · rw [hb] at hk
        rw [if_pos (nbeq_t hb)]
        exact ⟨ρ', st', hi', hkp, hk⟩
  | .loop c => fun β st k x fr σ ρ hom h hi => by
    have h' : (match look A.loops (firstId' c) with
      | some q => match packW R (wrC c) st q.sh with
        | some p => (loopF (firstId' c) (wrC c) (base (wrC c) q.K q.O .ro st) q.sh q.outs (fun st k => codeM E R n om F I A c st k) n p).bind (unpackOut R (base (wrC c) q.K q.O (fun b => b) st) k q.outs)
        | none => none
      | none => none) = some x := h
    split at h'
    · rename_i q _
      split at h'
      · rename_i p hp
        obtain ⟨o, ho, h'⟩ := Option.bind_eq_some_iff.1 h'
        obtain ⟨ρ1, S1, p1, p2, _, p3⟩ := hi.packW (nr := noRange c) hR hp
        have hro : ∀ o x, look st.ob o = some x → memN o (wrC c) = false → memN o q.O = true → solidO (wrC c) x = true → RO ((base (wrC c) q.K q.O .ro st).over (unpack R q.sh p)) o := fun o x h1 h2 h3 h4 => RO_over_base h1 h2 h3 h4
        have hH : ∀ o, memN o (wrC c) = false → RO st o → RO ((base (wrC c) q.K q.O .ro st).over (unpack R q.sh p)) o := fun o ho h => RO_base (p3 o ho h)
        have hB : ∀ (st' S' : MS R.T) (fr' : Fr) (σ' : Sig) (ρ' : Rho) (b' : Nat), ImgR ρ' b' st' fr' σ' → Kp (noRange c) (wrC c) ((base (wrC c) q.K q.O .ro st).over (unpack R q.sh p)) fr σ ρ S' fr' σ' ρ' → ImgR ρ' b' (base (wrC c) q.K q.O .ro st) fr' σ' :=
          fun st' S' fr' σ' ρ' b' h1 h2 => hi.base ObR_ro h2 h1 hro
        have hk0 : Kp (noRange c) (wrC c) ((base (wrC c) q.K q.O .ro st).over (unpack R q.sh p)) fr σ ρ ((base (wrC c) q.K q.O .ro st).over (unpack R q.sh p)) fr σ ρ1 := ⟨fun _ _ => rfl, fun q hq => ⟨(p2.ob q hq).ob, (p2.ob q hq).ln, (p2.ob q hq).om, Nat.le_refl _, fun _ _ => rfl, fun _ _ _ _ => rfl, fun hr => ⟨hr, fun _ => ⟨rfl, rfl⟩⟩⟩⟩
        refine (loopF_ok (β := β) hR (codeM_ok hF hI c) hom hB (fun o => fun y hy => by obtain ⟨z, _, _, rfl⟩ := look_selF hy; rfl) n p o fr σ ρ1 ho p1 hk0).mono ?_
        rintro e fr' σ' ⟨ρ', S', st', hi', hkp, hn, hk⟩
        obtain ⟨f1, f2⟩ := finish (K := q.K) hi hH hro hkp hi' hn
        exact ⟨ρ', _, f1, f2, by rw [← hk k]; exact h'⟩
      · cases h'
    · cases h'
  | .rangeFunc f ps a c => fun β st k x fr σ ρ hom h hi => by
    have h' : (match look A.loops (firstId' c) with
      | some q => match evM [] st f with
        | some (.fn g u v) => bif stL u && stL v && disjO q.O q.sh.ob && noRange a && noRange c then (match findI u v (I g) with
          | some ⟨el, xs⟩ => match packW R (ps.toList ++ wrC a ++ wrC c) st.obs q.sh with
            | some p => (xs.bind fun xs => foldF (firstId' c) (ps.toList ++ wrC a ++ wrC c) (base (ps.toList ++ wrC a ++ wrC c) q.K q.O .ro st) q.sh q.outs (fun x st k => match putPs st ps.toList (upL R .sh el x) with
                | some st => codeM E R n om F I A a st fun e st => match e with
                  | .normal => codeM E R n om F I A c st k
                  | _ => none
                | none => none) xs p).bind (unpackOut R (base (ps.toList ++ wrC a ++ wrC c) q.K q.O (fun b => b) st) k q.outs)
            | none => none
          | none => none) else none
        | _ => none
      | none => none) = some x := h
    split at h'
    · rename_i q _
      split at h'
      · rename_i g u v hf
        obtain ⟨hst, h'⟩ := bifs h'
        simp only [Bool.and_eq_true] at hst
        obtain ⟨⟨hst, hna⟩, hnc⟩ := hst
        split at h'
        · rename_i el xs hfi
          split at h'
          · rename_i p hp
            obtain ⟨o, ho, h'⟩ := Option.bind_eq_some_iff.1 h'
            obtain ⟨ys, hys, ho⟩ := Option.bind_eq_some_iff.1 ho
            obtain ⟨va, vb, hfv, hva, hvb⟩ := (evM_rl (E := E) hi .nil hf).inv_fn
            obtain ⟨himp, hel, hit⟩ := findI_ok hR hI hst.1.1 hst.1.2 hva hvb (fun _ h => h) hfi
            have hit := hit ys hys
            obtain ⟨ρ1, S1, p1, p2, p0, p3⟩ := hi.obs.packW (nr := false) hR hp
            generalize hW : ps.toList ++ wrC a ++ wrC c = W at *
            have hl : ∀ i, memN i W = false → memN i ps.toList = false ∧ memN i (wrC a) = false ∧ memN i (wrC c) = false := fun i hi => by
              rw [← hW, memN_app, memN_app, Bool.or_eq_false_iff, Bool.or_eq_false_iff] at hi; exact ⟨hi.1.1, hi.1.2, hi.2⟩
            have hro : ∀ o x, look st.ob o = some x → memN o W = false → memN o q.O = true → solidO W x = true → RO ((base W q.K q.O .ro st).over (unpack R q.sh p)) o := fun o x h1 h2 h3 h4 => RO_over_base h1 h2 h3 h4
            have hH : ∀ o, memN o W = false → RO st o → RO ((base W q.K q.O .ro st).over (unpack R q.sh p)) o := fun o ho h => RO_base (p3 o ho h)
            generalize hHe : (base W q.K q.O .ro st).over (unpack R q.sh p) = H at *
            have hB : ∀ (st' S' : MS R.T) (σ' : Sig) (ρ' : Rho) (b' : Nat), ImgR ρ' b' st' fr σ' → Kp false W H fr σ ρ S' fr σ' ρ' → ImgR ρ' b' (base W q.K q.O .ro st) fr σ' :=
              fun st' S' σ' ρ' b' h1 h2 => hi.base ObR_ro h2 h1 hro
            have hroB : ∀ o, RO (base W q.K q.O .ro st) o := fun o => fun y hy => by obtain ⟨z, _, _, rfl⟩ := look_selF hy; rfl
            let r0 : LoopRec := { st := 0, pend := none, fr := fr, ps := ps.toList, asg := a, body := c }
            -- rounds to come, and the end
            let body : {β : Type} → PayL R.T el → MS R.T → (Ex → MS R.T → Option β) → Option β := fun x st k => match putPs st ps.toList (upL R .sh el x) with
                | some st => codeM E R n om F I A a st fun e st => match e with
                  | .normal => codeM E R n om F I A c st k
                  | _ => none
                | none => none
            let J : List (List V) → Sig → Prop := fun L σ' => ∃ (zs : List (PayL R.T el)) (p' : Pay R.T q.sh) (ρ' : Rho), L = zs.map (encSL R el) ∧ foldF (firstId' c) W (base W q.K q.O .ro st) q.sh q.outs body zs p' = some o ∧ ImgR ρ' σ'.next (unpack R q.sh p') fr σ' ∧ (unpack R q.sh p').fr = [] ∧
              Kp false W H fr σ ρ ((base W q.K q.O .ro st).over (unpack R q.sh p')) fr σ' ρ' ∧ σ'.loops σ.next = some r0
            let Fin : Ex → Sig → Prop := fun e σ' => ∃ (ρ' : Rho) (S' st' : MS R.T), ImgR ρ' σ'.next st' fr σ' ∧ Kp false W H fr σ ρ S' fr σ' ρ' ∧ (∀ o, memN o W = false → RO H o → look st'.ob o = none) ∧ ∀ (k : Ex → MS R.T → Option β) (bs : MS R.T), unpackOut R bs k q.outs o = k e (bs.over st')
            let D : Sig → Prop := fun σ' => ∃ e, Fin e σ' ∧ σ'.loops σ.next = some { r0 with st := 2, pend := some e }
            have shJ : ∀ L σ1 σ2, σ.next < σ1.next → J L σ1 → Shift 1 σ1 σ2 → J L σ2 := by
              rintro L σ1 σ2 hlt ⟨zs, p', ρ', e1, e2, e3, e4, e5, e6⟩ hs
              exact ⟨zs, p', ρ', e1, e2, (e3.shift (fun p => hs.obj 1 p (Nat.le_refl _)) hs.top).le hs.next, e4, ⟨e5.fr, fun o ho => (e5.ob o ho).shift (fun p => hs.obj 1 p (Nat.le_refl _)) hs.next fun l hl => hs.loops l (by omega)⟩, (hs.loops _ hlt).trans e6⟩
            have shD : ∀ σ1 σ2, σ.next < σ1.next → D σ1 → Shift 1 σ1 σ2 → D σ2 := by
              rintro σ1 σ2 hlt ⟨e, ⟨ρ', S', st', e1, e2, e3, e4⟩, e5⟩ hs
              exact ⟨e, ⟨ρ', S', st', (e1.shift (fun p => hs.obj 1 p (Nat.le_refl _)) hs.top).le hs.next, ⟨e2.fr, fun o ho => (e2.ob o ho).shift (fun p => hs.obj 1 p (Nat.le_refl _)) hs.next fun l hl => hs.loops l (by omega)⟩, e3, e4⟩, (hs.loops _ hlt).trans e5⟩
            have fin : ∀ (σ2 : Sig) (r : LoopRec) (e : Ex), Fin e σ2 → ∃ ρ' st', ImgR ρ' (σ2.delLoop σ.next).next st' fr (σ2.delLoop σ.next) ∧ Kp false (wrC (.rangeFunc f ps a c)) st fr σ ρ st' fr (σ2.delLoop σ.next) ρ' ∧ k e st' = some x := by
              rintro σ2 r e ⟨ρ', S', st', e1, e2, e3, e4⟩
              have e1' : ImgR ρ' σ2.next st' fr (σ2.delLoop σ.next) := e1.shift (fun _ => rfl) (fun _ _ => rfl)
              have e2' : Kp false W H fr σ ρ S' fr (σ2.delLoop σ.next) ρ' := ⟨e2.fr, fun o ho => (e2.ob o ho).shift (fun _ => rfl) (Nat.le_refl _) fun l hl => by
                show upd σ2.loops σ.next none l = _
                unfold upd; rw [if_neg (by omega)]⟩
              obtain ⟨f1, f2⟩ := finish (K := q.K) hi hH hro e2' e1' e3
              refine ⟨ρ', _, f1, ?_, by rw [← e4 k]; exact h'⟩
              show Kp false (ps.toList ++ wrC a ++ wrC c) _ _ _ _ _ _ _ _
              rw [hW]; exact f2
            refine CW.range hfv himp ?_
            rw [hi.d]
            have hent : (σ.enter fr ps a c).next = σ.next + 1 := rfl
            obtain ⟨m, w, σ2, hm, hnx, hJD⟩ := hit 1 σ.next (σ.enter fr ps a c) J D shJ shD (by
              rintro y L σ1 hlt ⟨zs, p', ρ', e1, e2, e3, e4, e5, e6⟩
              cases zs with
              | nil => cases e1
              | cons z zs =>
                simp only [List.map_cons, List.cons.injEq] at e1
                obtain ⟨rfl, rfl⟩ := e1
                have hbase := hB _ _ _ _ _ e3 e5
                have e2' : body z ((base W q.K q.O .ro st).over (unpack R q.sh p')) (foldK (firstId' c) W (base W q.K q.O .ro st) q.sh q.outs body zs) = some o := e2
                show ∃ c' σ', Rnd E σ.next (encSL R el z) σ1 c' σ' ∧ _
                generalize hkk : foldK (firstId' c) W (base W q.K q.O .ro st) q.sh q.outs body zs = kk at e2'
                dsimp only [body] at e2'
                split at e2'
                · rename_i st1 hst1
                  obtain ⟨hlen, i1, i2⟩ := putPs_rl hst1 (upL_rl hR el z hel) (hbase.over e3)
                  have hom' : ρ'.om = om := e5.om.trans hom
                  obtain ⟨m1, x1, fr1, σ2, q1, ρ2, st2, q2, q3, q4⟩ := codeM_ok hF hI a _ _ _ _ _ _ ρ' hom' e2' i1
                  cases x1 with
                  | exit i => cases q4
                  | ret => cases q4
                  | normal =>
                    dsimp only at q4
                    obtain ⟨nb, hnb⟩ := memN_big (wrC a)
                    have lp2 : σ2.loops σ.next = some r0 := ((q3.ob nb (hnb nb (Nat.le_refl _))).lp _ hlt).trans e6
                    have nx2 := (q3.ob nb (hnb nb (Nat.le_refl _))).nx
                    have q2' : ImgR ρ2 σ2.next st2 fr1 (σ2.setLoop σ.next { r0 with st := 1 }) := q2.shift (fun _ => rfl) (fun _ _ => rfl)
                    obtain ⟨m2, x2, fr2, σ3, t1, ρ3, st3, t2, t3, t4⟩ := codeM_ok hF hI c _ _ _ _ fr1 (σ2.setLoop σ.next { r0 with st := 1 }) ρ2 (q3.om.trans hom') q4 q2'
                    obtain ⟨nc, hnb'⟩ := memN_big (wrC c)
                    have lp3 : σ3.loops σ.next = some { r0 with st := 1 } := ((t3.ob nc (hnb' nc (Nat.le_refl _))).lp _ (show σ.next < σ2.next by omega)).trans (by show upd σ2.loops σ.next _ σ.next = _; unfold upd; rw [if_pos rfl])
                    have nx3 : σ2.next ≤ σ3.next := (t3.ob nc (hnb' nc (Nat.le_refl _))).nx
                    -- what is kept through the round
                    have keep : ∀ p, memN p W = false → KpO false p H ρ σ st3 ρ3 σ3 := fun p hp => by
                      have k1 := e5.ob p hp
                      have k2 : KpO false p ((base W q.K q.O .ro st).over (unpack R q.sh p')) ρ' σ1 st2 ρ2 σ2 := (q3.ob p (hl p hp).2.1).weak.from i2
                      have k3 := (t3.ob p (hl p hp).2.2).weak
                      have k12 := k1.trans k2
                      refine ⟨k3.ob.trans k12.ob, k3.ln.trans k12.ln, k3.om.trans k12.om, Nat.le_trans k12.nx nx3, fun l hl => ?_, (fun e => by cases e), fun hr => ?_⟩
                      · refine (k3.lp l (show l < σ2.next by have := k12.nx; omega)).trans (Eq.trans ?_ (k12.lp l hl))
                        show upd σ2.loops σ.next _ l = _
                        unfold upd; rw [if_neg (by omega)]
                      · have r1 := k12.ro hr
                        have r2 := k3.ro r1.1
                        exact ⟨r2.1, fun s => ⟨(r2.2 s).1.trans (r1.2 s).1, (r2.2 s).2.trans (r1.2 s).2⟩⟩
                    have fd : ∀ (r' : LoopRec), ImgR ρ3 σ3.next st3.obs fr2 (σ3.setLoop σ.next r') := fun r' => t2.obs.shift (fun _ => rfl) (fun _ _ => rfl)
                    have keep' : ∀ (r' : LoopRec), ∀ p, memN p W = false → KpO false p H ρ σ st3.obs ρ3 (σ3.setLoop σ.next r') := fun r' p hp => ((keep p hp).congr (st'' := st3.obs) rfl).shift (σ'' := σ3.setLoop σ.next r') (fun _ => rfl) (Nat.le_refl _) fun l hl => by
                      show upd σ3.loops σ.next _ l = _
                      unfold upd; rw [if_neg (by omega)]
                    have atl : ∀ (r' : LoopRec), (σ3.setLoop σ.next r').loops σ.next = some r' := fun r' => by show upd σ3.loops σ.next _ σ.next = _; unfold upd; rw [if_pos rfl]
                    have deep : ∀ (r' : LoopRec) a o, 1 < a → (σ3.setLoop σ.next r').obj (a, o) = σ1.obj (a, o) := fun r' a o ha =>
                      ((t3.ob nc (hnb' nc (Nat.le_refl _))).dp hnc a o ha).trans ((q3.ob nb (hnb nb (Nat.le_refl _))).dp hna a o ha)
                    have loops : ∀ (r' : LoopRec) s, s < σ1.next → (σ3.setLoop σ.next r').loops s = σ1.loops s ∨ s = σ.next := fun r' s hs => by
                      by_cases es : s = σ.next
                      · exact .inr es
                      · left
                        have u1 : (σ3.setLoop σ.next r').loops s = σ3.loops s := by show upd σ3.loops σ.next _ s = _; unfold upd; rw [if_neg es]
                        have u2 : (σ2.setLoop σ.next { r0 with st := 1 }).loops s = σ2.loops s := by show upd σ2.loops σ.next _ s = _; unfold upd; rw [if_neg es]
                        exact u1.trans (((t3.ob nc (hnb' nc (Nat.le_refl _))).lp s (show s < σ2.next by omega)).trans (u2.trans ((q3.ob nb (hnb nb (Nat.le_refl _))).lp s hs)))
                    have rnd : ∀ (bb : Bool) (σ' : Sig), endQ r0 σ.next σ3 x2 bb σ' → Rnd E σ.next (encSL R el z) σ1 bb σ' := fun bb σ' hbb =>
                      Rnd.of e6 rfl hlen ⟨m1, .normal, fr1, σ2, q1, rfl, r0, lp2, rfl, m2, x2, fr2, σ3, t1, _, lp3, rfl, by cases x2 <;> exact hbb⟩
                    have stop : ∀ e, endQ r0 σ.next σ3 x2 false (σ3.setLoop σ.next { r0 with st := 2, pend := some e }) → packOut R W e st3.obs q.outs = some o → ∃ c' σ', Rnd E σ.next (encSL R el z) σ1 c' σ' ∧ σ1.next ≤ σ'.next ∧ (∀ a o, 1 < a → σ'.obj (a, o) = σ1.obj (a, o)) ∧ (∀ s, s < σ1.next → σ'.loops s = σ1.loops s ∨ s = σ.next) ∧ (c' = true → J (zs.map (encSL R el)) σ') ∧ (c' = false → D σ') := by
                      intro e he hpk
                      obtain ⟨ρ4, S4, st4, g1, g2, g3, g4, g5⟩ := packOut_rl (nr := false) (β := β) hR (fd { r0 with st := 2, pend := some e }) hpk
                      refine ⟨false, σ3.setLoop σ.next { r0 with st := 2, pend := some e }, rnd _ _ he, Nat.le_trans nx2 nx3, deep _, loops _, (fun h => by cases h), fun _ => ⟨e, ⟨ρ4, S4, st4, g1.noFr (g3 rfl) hi.d (hi.om.trans ?_), ⟨fun _ _ => rfl, fun p hp => (keep' _ p hp).trans (g2.ob p hp)⟩, fun p hp hr => g4 p hp ((keep p hp).ro hr).1, g5⟩, atl _⟩⟩
                      obtain ⟨nw, hnw⟩ := memN_big W
                      have := (keep nw (hnw nw (Nat.le_refl _))).om
                      rw [g2.om, this]
                    cases x2 with
                    | normal =>
                      rw [← hkk] at t4
                      unfold foldK at t4
                      dsimp only at t4
                      split at t4
                      · rename_i p4 hp4
                        obtain ⟨ρ4, S4, g1, g2, g3, g4⟩ := (fd { r0 with st := 0, pend := none }).packW (nr := false) hR hp4
                        refine ⟨true, σ3.setLoop σ.next { r0 with st := 0, pend := none }, rnd _ _ ⟨rfl, rfl⟩, Nat.le_trans nx2 nx3, deep _, loops _, fun _ => ⟨zs, p4, ρ4, rfl, t4, g1.noFr (g3 rfl) hi.d (hi.om.trans ?_), g3 rfl, ⟨fun _ _ => rfl, fun p hp => ?_⟩, atl _⟩, fun h => by cases h⟩
                        · obtain ⟨nw, hnw⟩ := memN_big W
                          have := (keep nw (hnw nw (Nat.le_refl _))).om
                          rw [g2.om, this]
                        · have kk := (keep' { r0 with st := 0, pend := none } p hp).trans (g2.ob p hp)
                          exact ⟨kk.ob, kk.ln, kk.om, kk.nx, kk.lp, kk.dp, fun hr => ⟨RO_over (hroB p) fun y hy => (by rw [g4 p hp ((keep p hp).ro hr).1] at hy; cases hy), (kk.ro hr).2⟩⟩
                      · cases t4
                    | exit i => rw [← hkk] at t4; exact stop (.exit i) ⟨rfl, rfl⟩ t4
                    | ret => rw [← hkk] at t4; exact stop .ret ⟨rfl, rfl⟩ t4
                · cases e2') (Nat.lt_succ_self _) (by
              refine ⟨ys, p, ρ1, rfl, ho, (p1.shift (σ' := σ.enter fr ps a c) (fun _ => rfl) (fun _ _ => rfl)).le (Nat.le_succ _), p0 rfl, ⟨fun _ _ => rfl, fun o ho => ?_⟩, ?_⟩
              · rw [hHe]
                exact ⟨(p2.ob o ho).ob, (p2.ob o ho).ln, (p2.ob o ho).om, Nat.le_succ _, fun l hl => (by show upd σ.loops σ.next _ l = _; unfold upd; rw [if_neg (by omega)]), (fun e => by cases e), fun hr => ⟨hr, fun _ => ⟨rfl, rfl⟩⟩⟩
              · show upd σ.loops σ.next _ σ.next = _; unfold upd; rw [if_pos rfl])
            refine ⟨m, w, σ2, hm, ?_⟩
            rcases hJD with ⟨zs, p', ρ', e1, e2, e3, e4, e5, e6⟩ | ⟨e, hfin, e6⟩
            · cases zs with
              | cons z zs => cases e1
              | nil =>
                have e2' : packOut R W .normal (unpack R q.sh p').obs q.outs = some o := e2
                obtain ⟨ρ4, S4, st4, g1, g2, g3, g4, g5⟩ := packOut_rl (nr := false) (β := β) hR e3.obs e2'
                have hno : ∀ p, memN p W = false → RO H p → look (unpack R q.sh p').ob p = none := fun p hp hr => RO_unpack hst.2 ((e5.ob p hp).ro hr).1
                have hro2 : ∀ p, memN p W = false → RO H p → RO (unpack R q.sh p').obs p := fun p hp hr y hy => by
                  have : look (unpack R q.sh p').ob p = some y := hy
                  rw [hno p hp hr] at this; cases this
                exact ⟨_, e6, (by show (0 : Nat) ≠ 1; omega), fin σ2 r0 .normal ⟨ρ4, S4, st4, g1, ⟨fun _ _ => rfl, fun p hp => by
                  have a1 := e5.ob p hp
                  have a2 := g2.ob p hp
                  exact ⟨a2.ob.trans a1.ob, a2.ln.trans a1.ln, a2.om.trans a1.om, Nat.le_trans a1.nx a2.nx, fun l hl => (a2.lp l (Nat.lt_of_lt_of_le hl a1.nx)).trans (a1.lp l hl), (fun e => by cases e), fun hr => ⟨(a2.ro (hro2 p hp hr)).1, fun s => ⟨((a2.ro (hro2 p hp hr)).2 s).1.trans ((a1.ro hr).2 s).1, ((a2.ro (hro2 p hp hr)).2 s).2.trans ((a1.ro hr).2 s).2⟩⟩⟩⟩, fun p hp hr => g4 p hp (hro2 p hp hr), g5⟩⟩
            · exact ⟨_, e6, (by show (2 : Nat) ≠ 1; omega), fin σ2 r0 e hfin⟩
          · cases h'
        · cases h'
      · cases h'
    · cases h'
  | .scope _ => fun _ st k x fr σ ρ _ h hi => by cases h
  | .label _ => fun _ st k x fr σ ρ _ h hi => by cases h
  | .goto _ => fun _ st k x fr σ ρ _ h hi => by cases h
  | .refuse _ => fun _ st k x fr σ ρ _ h hi => by cases h
omit hR in
theorem resM_ok {ρ : Rho} {b : Nat} {st : MS R.T} {fr : Fr} {σ : Sig} (hi : ImgR ρ b st fr σ) : ∀ {rs : List ResultVar} {tvs : List (TV R.T)}, resM E st rs = some tvs → ∃ vs, rs.mapM (resV E fr σ) = some vs ∧ RlL R ρ σ.top tvs vs
  | [], tvs, h => by cases h; exact ⟨[], rfl, rfl⟩
  | .tmp t :: l, tvs, h => by
    unfold resM at h
    split at h
    · rename_i v hv
      split at h
      · rename_i vs hvs
        cases h
        obtain ⟨ws, h1, h2⟩ := resM_ok hi hvs
        have := evM_rl (E := E) hi .nil hv
        exact ⟨fr.tm t :: ws, by rw [List.mapM_cons]; simp [resV, h1], .cons' this h2⟩
      · cases h
    · cases h
  | .cell a t :: l, tvs, h => by
    unfold resM at h
    split at h
    · rename_i o off hv
      split at h
      · rename_i cs hl
        split at h
        · rename_i v hld
          split at h
          · rename_i vs hvs
            cases h
            obtain ⟨ws, h1, h2⟩ := resM_ok hi hvs
            obtain ⟨s, h3, h4⟩ := (evM_rl (E := E) hi .nil hv).inv_ref
            rw [ev_tmp] at h4
            obtain ⟨s', l', h5, h6, h7⟩ := hi.rd hl
            rw [h3] at h5; cases h5
            obtain ⟨y, hy, hr⟩ := ldM_rl h7 hld
            exact ⟨y :: ws, by rw [List.mapM_cons]; simp [resV, h4, h6, hy, h1], .cons' hr h2⟩
          · cases h
        · cases h
      · cases h
    · cases h
omit hR in
theorem initF_ok : ∀ (l : List (TV R.T)) (vs : List V) (i : Nat) (P : TV R.T → V → Prop), (∀ j v, l[j]? = some v → P v (vs.getD j undefV)) → ∀ j v, look (initF i l) j = some v → i ≤ j ∧ P v (vs.getD (j - i) undefV)
  | [], vs, i, P, _, j, v, h => by cases h
  | x :: l, vs, i, P, hp, j, v, h => by
    have h' : look ((i, x) :: initF (i + 1) l) j = some v := h
    by_cases e : j = i
    · subst e
      rw [look_cons_eq] at h'; cases h'
      exact ⟨Nat.le_refl _, by simpa using hp 0 x rfl⟩
    · rw [look_cons_ne _ _ e] at h'
      obtain ⟨h1, h2⟩ := initF_ok l vs.tail (i + 1) P (fun j v hj => by
        have := hp (j + 1) v (by simpa using hj)
        cases vs <;> simpa using this) j v h'
      refine ⟨by omega, ?_⟩
      have e2 : j - i = (j - (i + 1)) + 1 := by omega
      rw [e2]
      cases vs <;> simpa using h2
theorem funM_ok {n : Nat} {om : Bool} {F : Nat → List (FR R)} {I : Nat → List (FI R)} (hF : RegsOK E F) (hI : ItersOK E I) {A : Ann} {f : Nat} {fn : Func} {args res : List Sk} {p : PayL R.T args} {x : PayL R.T res} (h : funM E R n om F I A fn args res p = some x) (hf : E.P.funcs[f]? = some fn) (ha : cSkL args = true)
    (hlen : (encSL R args p).length = args.length) (hom : E.om f = om) (hs : E.summ f = none) (hok : (match fn.body with | some c => decide (args.length ≤ fn.ntmps) && codeOK fn.ntmps c | none => false) = true) : Pure E f (encSL R args p) (retV (encSL R res x)) := by
  unfold funM at h
  split at h
  · rename_i c hc
    rw [hc] at hok; dsimp only at hok
    refine Pure.of' fn.results.toList hf hc (fun fr σ hd ho ht => ?_) rfl (by rw [hlen]; exact hok) hs
    have hi : ImgR ⟨fun _ => none, fun _ => none, fun _ => 0, om⟩ σ.next (⟨initF 0 (upL R .sh args p), []⟩ : MS R.T) fr σ := {
      d := hd
      om := by rw [ho, hom]
      fr := fun i v hv => by
        obtain ⟨_, h2⟩ := initF_ok _ (encSL R args p) 0 (fun v w => Rl R ⟨fun _ => none, fun _ => none, fun _ => 0, om⟩ σ.top v w) (fun j v hj => by
          obtain ⟨w, h1, h2⟩ := (upL_rl hR args p ha).get hj
          rw [List.getD_eq_getElem?_getD, h1]; exact h2) i v hv
        rw [ht]
        exact .of (by simpa using h2)
      ob := fun o x hx => by cases hx
      inj := fun t u s h => by cases h
      lt := fun t s h => by cases h }
    refine (codeM_ok hR hF hI c _ _ _ x fr σ _ rfl h hi).mono ?_
    rintro e fr' σ' ⟨ρ', st', hi', _, hk⟩
    have key : (match resM E st' fn.results.toList with
      | some vs => bif cSkL res && Nat.ble (depL res) 16 then pkL R res (cloMs st' vs) else none
      | none => none) = some x → ∃ vs, fn.results.toList.mapM (resV E fr' σ') = some vs ∧ closeV 20 σ' (match vs with | [v] => v | vs => .tup vs) = some (retV (encSL R res x)) := by
      intro hk
      split at hk
      · rename_i tvs htv
        obtain ⟨hb, hk⟩ := bifs hk
        rw [Bool.and_eq_true] at hb
        obtain ⟨vs, h1, h2⟩ := resM_ok hi' htv
        refine ⟨vs, h1, ?_⟩
        have hdep := Nat.le_of_ble_eq_true hb.2
        obtain ⟨vs', v1, v2⟩ := cloMs_ok hR hi' h2
        have c1 := (v2 15).trans (pkL_cl hR res x (cloMs st' tvs) vs' hb.1 hk v1 19 σ' (by omega))
        have c2 := (v2 16).trans (pkL_cl hR res x (cloMs st' tvs) vs' hb.1 hk v1 20 σ' (by omega))
        clear v1 v2
        match vs, c1, c2 with
        | [], c1, c2 =>
          have : encSL R res x = [] := by simpa using c1.symm
          rw [this]
          show closeV 20 σ' (.tup []) = some (.tup [])
          rw [closeV_tup]; rfl
        | [v], c1, c2 =>
          rw [List.mapM_cons] at c2
          obtain ⟨w, hw, c2⟩ := Option.bind_eq_some_iff.1 c2
          have : [w] = encSL R res x := by simpa using c2
          rw [← this]; exact hw
        | v :: w :: vs, c1, c2 =>
          show closeV 20 σ' (.tup (v :: w :: vs)) = _
          rw [closeV_tup, c1, Option.map_some]
          have hl : (encSL R res x).length = (v :: w :: vs).length := by
            have : ∀ (l : List V) (m : List V), l.mapM (closeV 19 σ') = some m → m.length = l.length := by
              intro l
              induction l with
              | nil => intro m h; cases h; rfl
              | cons a l ih =>
                intro m h
                rw [List.mapM_cons] at h
                obtain ⟨b, hb, h⟩ := Option.bind_eq_some_iff.1 h
                obtain ⟨c, hc, h⟩ := Option.bind_eq_some_iff.1 h
                cases h
                simp [ih c hc]
            exact this _ _ c1
          match encSL R res x, hl with
          | a :: b :: l, _ => rfl
      · cases hk
    cases e with
    | exit i => cases hk
    | normal => exact key hk
    | ret => exact key hk
  · cases h
end
end Aq
