/- Part of the proof of a law: Pl11 Pl12 Pl13 Pl14 Pl15. -/
import Derived.Test.YteniejlbjfigdaaGreatDoorW18
set_option linter.all false
set_option linter.unusedSimpArgs false
set_option linter.unusedSectionVars false
section
open Go Go.Proofs Aq
namespace Sh
theorem bs {α β : Type} {o : Option α} {a : α} {f : α → Option β} {r : Option β} (h : o = some a) (k : f a = r) : o.bind f = r := by
  rw [h]; exact k
mutual
theorem pre_len : ∀ p : Pred, (pre p).length = szP p
  | ⟨op, name, n, m, s, subs⟩ => by simp only [pre, szP, List.length_cons, preL_len' subs]
theorem preL_len' : ∀ l : List Pred, (preL l).length = szL l
  | [] => rfl
  | p :: l => by simp only [preL, szL, List.length_append, pre_len p, preL_len' l]
end
theorem partsO_some {p : Pred} (h : szP p < 2 ^ 62) : partsO p = some (pre p) := by
  unfold partsO; rw [pre_len, if_pos h]
theorem filter_Size_R_spec {n : Nat} : ∀ (l : List Pred) (c : Nat), c < 1000 → filter_Size_R3 n l ((), (c : Int)) = some (if c + l.length < 1000 then .inl ((), ((c + l.length : Nat) : Int)) else .inr ((), (1000 : Int)))
  | [], c, hc => by
    rw [filter_Size_R3_0, if_pos (by simpa using hc)]; rfl
  | x :: l, c, hc => by
    have := filter_Size_R3_s n x l (c : Int)
    rw [show filter_Size_R3 n (x :: l) ((), (c : Int)) = _ from this, wrap_succ (by omega)]
    by_cases h : c + 1 = 1000
    · have e : ((((c + 1 : Nat) : Int)) == (1000 : Int)) = true := by rw [h]; rfl
      rw [e, cond_true, if_neg (by simp; omega), h]; rfl
    · have e : ((((c + 1 : Nat) : Int)) == (1000 : Int)) = false := by simp; omega
      rw [e, cond_false]
      have := filter_Size_R_spec (n := n) l (c + 1) (by omega)
      rw [show filter_Size_R3 n l ((), (((c + 1 : Nat) : Int))) = _ from this]
      have e2 : c + 1 + l.length = c + (x :: l).length := by simp; omega
      rw [e2]
theorem filter_Size_spec {n : Nat} {p : Pred} (h : szP p < 2 ^ 62) : filter_Size n p = some ((((pre p).take 1000).length : Nat) : Int) := by
  rw [filter_Size_eq, Pred.re_eq]
  refine bs (filter_parts_eq n p) ?_
  show ((partsO p.re).bind _).bind _ = _
  rw [Pred.re_eq]
  rw [partsO_some h, Option.bind_some]
  have := filter_Size_R_spec (n := n) (pre p) 0 (by omega)
  rw [show filter_Size_R3 n (pre p) ((), (0 : Int)) = _ from this, Nat.zero_add]
  by_cases c : (pre p).length < 1000
  · rw [if_pos c, List.take_of_length_le (by omega)]; rfl
  · rw [if_neg c, List.length_take, Nat.min_eq_left (by omega)]; rfl
theorem filter_Check_R_spec {n : Nat} {s : Schema} (hd : s.Defs.length < n) (hdb : s.Defs.length < 2 ^ 62) : ∀ l : List Pred, filter_Check_R5 n s l ((), (0 : Int)) = some (match checkL s l with | some e => .inr ((), e) | none => .inl ((), (0 : Int)))
  | [] => filter_Check_R5_0 n s 0
  | x :: l => by
    have ih := filter_Check_R_spec (n := n) (s := s) hd hdb l
    have := filter_Check_R5_s n s x l (0 : Int)
    rw [show filter_Check_R5 n s (x :: l) ((), (0 : Int)) = _ from this, Pred.re_eq]
    rw [checkL]
    unfold checkP
    by_cases c1 : x.Op < 1 ∨ x.Op > 7
    · rw [if_pos c1]
      have : (bif decide (x.Op < ((1 : Int))) then true else decide (x.Op > ((7 : Int)))) = true := by
        rcases c1 with c | c
        · rw [decide_eq_true c]; rfl
        · rw [decide_eq_true c]; cases decide (x.Op < 1) <;> rfl
      rw [this]; rfl
    · rw [if_neg c1]
      have : (bif decide (x.Op < ((1 : Int))) then true else decide (x.Op > ((7 : Int)))) = false := by
        rw [decide_eq_false (by omega), decide_eq_false (by omega)]; rfl
      rw [this, cond_false]
      refine bs (filter_form_spec n x) ?_
      cases hform : formS x
      · rw [if_pos rfl]; rfl
      · rw [if_neg (by simp)]
        show (bif decide (x.Op < ((5 : Int))) then _ else _) = _
        by_cases c2 : x.Op < 5
        · rw [if_pos c2, decide_eq_true c2, cond_true]; exact ih
        · rw [if_neg c2, decide_eq_false c2, cond_false]
          refine bs (filter_find_spec hd hdb) ?_
          cases hf : s.Defs.find? (fun d => d.Name == x.Name) with
          | none => rfl
          | some d =>
            dsimp only
            have o : x.Op = 5 ∨ x.Op = 6 ∨ x.Op = 7 := by omega
            have key : (bif bif bif x.Op == ((6 : Int)) then d.Kind != ((1 : Int)) else false then true else bif x.Op == ((7 : Int)) then d.Kind != ((2 : Int)) else false then
              some (.inr (((), (130 : Int)))) else filter_Check_R5 n s l (((), (0 : Int)))) = (if (x.Op = 6 ∧ d.Kind ≠ 1) ∨ (x.Op = 7 ∧ d.Kind ≠ 2) then some (.inr (((), (130 : Int)))) else filter_Check_R5 n s l (((), (0 : Int)))) := by
              by_cases k1 : d.Kind = 1 <;> by_cases k2 : d.Kind = 2 <;> rcases o with o | o | o <;> simp [o, k1, k2] <;> first
                | (have h1 : (d.Kind != (1 : Int)) = true := bne_iff_ne.2 (by omega); rw [h1]; rfl)
                | (have h2 : (d.Kind != (2 : Int)) = true := bne_iff_ne.2 (by omega); rw [h2]; rfl)
            rw [show filter_Check_R5 n s l (((), (0 : Int))) = _ from ih] at key ⊢
            refine key.trans ?_
            by_cases c3 : (x.Op = 6 ∧ d.Kind ≠ 1) ∨ (x.Op = 7 ∧ d.Kind ≠ 2)
            · rw [if_pos c3, if_pos c3]
            · rw [if_neg c3, if_neg c3]
theorem filter_Check_spec {n : Nat} {s : Schema} {p : Pred} (hp : szP p < 2 ^ 62) (hd : s.Defs.length < n) (hdb : s.Defs.length < 2 ^ 62) :
    filter_Check n (s, p) = some (if ((pre p).take 1000).length > 64 then 2 else (checkL s ((pre p).take 1000)).getD 0) := by
  rw [filter_Check_eq, Pred.re_eq]
  refine bs (filter_Size_spec hp) ?_
  show (bif decide ((((((pre p).take 1000).length : Nat) : Int)) > ((64 : Int))) then _ else _) = _
  by_cases c : ((pre p).take 1000).length > 64
  · rw [if_pos c, decide_eq_true (by omega)]; rfl
  · rw [if_neg c, decide_eq_false (by omega), cond_false]
    refine bs (filter_parts_eq n p) ?_
    show ((partsO p.re).bind _).bind _ = _
    rw [Pred.re_eq]
    have hlen : (pre p).length ≤ 64 := by rw [List.length_take] at c; omega
    rw [partsO_some hp, Option.bind_some, filter_Check_R_spec hd hdb, List.take_of_length_le (by omega)]
    cases checkL s (pre p) <;> rfl
end Sh
end
section
open Go Go.Proofs Aq
namespace Sh
def condE (s : Schema) (p : Pred) : Int := if ((pre p).take 1000).length > 64 then 2 else (checkL s ((pre p).take 1000)).getD 0
def badLaw (x : Law) : Bool := bif bif bif decide ((((x.Name.length : Nat) : Int)) < ((1 : Int))) then true else decide ((((x.Name.length : Nat) : Int)) > ((40 : Int))) then true else decide (x.Days < ((0 : Int))) then true else decide (x.Days > ((1048576 : Int)))
def lawsE (s : Schema) : List (List UInt8) → List Law → Option Int
  | _, [] => none
  | met, x :: l => if badLaw x = true then some 1 else if met.contains x.Name = true then some 6 else if condE s x.Where ≠ 0 then some (condE s x.Where) else lawsE s (met ++ [x.Name]) l
def lawR (o : Option Int) : Option (PUnit ⊕ Int) := some (match o with | some e => .inr e | none => .inl ())
theorem beqS (a b : List UInt8) : beqD R .str a b = (a == b) := rfl
theorem mget_mset (x y : List UInt8) : ∀ m : List (List UInt8 × Bool), mget (beqD R Ty.str) y (mset (beqD R Ty.str) x true m) = if y = x then some true else mget (beqD R Ty.str) y m
  | [] => by
    show (bif beqD R .str y x then some true else none) = _
    rw [beqS]
    by_cases e : y = x
    · rw [if_pos e, e]; simp
    · have h : (y == x) = false := by simpa using e
      rw [if_neg e, h]; rfl
  | (a, v) :: m => by
    have ih := mget_mset x y m
    show mget (beqD R Ty.str) y (bif beqD R .str x a then (x, true) :: m else (a, v) :: mset (beqD R Ty.str) x true m) = if y = x then some true else (bif beqD R .str y a then some v else mget (beqD R Ty.str) y m)
    rw [beqS, beqS]
    by_cases h : x = a
    · subst h
      rw [beq_self_eq_true, cond_true]
      show (bif beqD R .str y x then some true else mget (beqD R Ty.str) y m) = _
      rw [beqS]
      by_cases e : y = x
      · subst e; simp
      · have h : (y == x) = false := by simpa using e
        rw [if_neg e, h]; rfl
    · have hx : (x == a) = false := by simpa using h
      rw [hx, cond_false]
      show (bif beqD R .str y a then some v else mget (beqD R Ty.str) y (mset (beqD R Ty.str) x true m)) = _
      rw [ih, beqS]
      by_cases e : y = a
      · subst e
        have : ¬ y = x := fun e => h e.symm
        simp [this]
      · have h2 : (y == a) = false := by simpa using e
        rw [h2]; rfl
def MetOK (m : List (List UInt8 × Bool)) (met : List (List UInt8)) : Prop := ∀ y : List UInt8, optGet false (mget (beqD R Ty.str) y m) = met.contains y
theorem MetOK.nil : MetOK [] [] := fun _ => rfl
theorem MetOK.add {m : List (List UInt8 × Bool)} {met : List (List UInt8)} (h : MetOK m met) (x : List UInt8) : MetOK (mset (beqD R Ty.str) x true m) (met ++ [x]) := fun y => by
  have h1 : optGet false (mget (beqD R Ty.str) y (mset (beqD R Ty.str) x true m)) = optGet false (if y = x then some true else mget (beqD R Ty.str) y m) := congrArg (optGet false) (mget_mset x y m)
  have h2 : optGet false (if y = x then some true else mget (beqD R Ty.str) y m) = (met ++ [x]).contains y := by
    by_cases e : y = x
    · rw [if_pos e, e]; simp [optGet]
    · have h3 := h y
      rw [if_neg e]
      refine h3.trans ?_
      simp [e]
  exact h1.trans h2
theorem retain_Check_spec {n : Nat} {s : Schema} {l : List Law} (hl : SmallL l n) (hd : s.Defs.length < n) (hdb : s.Defs.length < 2 ^ 62) : retain_Check n (s, l) = some (if l.length > 32 then 2 else (lawsE s [] l).getD 0) := by
  have := loop_st (L := fun m (t : List (List UInt8 × Bool)) i => retain_Check_L5 n s l m (i, t)) (l := l)
    (fun x _ t k => if badLaw x = true then some (.inr 1 : PUnit ⊕ Int) else if optGet false (mget (beqD R Ty.str) x.Name t) = true then some (.inr 6) else if condE s x.Where ≠ 0 then some (Sum.inr (condE s x.Where) : PUnit ⊕ Int) else k (mset (beqD R Ty.str) x.Name true t)) (fun _ => some (.inl () : PUnit ⊕ Int))
    (fun m i x t hx => by
      have hlt := lt_of_get hx
      have hlb := hl.2.1
      have hm := hl.2.2 x (List.mem_of_getElem? hx)
      show retain_Check_L5 n s l (m + 1) ((i : Int), t) = _
      rw [retain_Check_L5_s, dec_of hx, cond_true]
      refine bs (idxL_of hx) ?_
      show (bif badLaw x then _ else _) = _
      cases hb : badLaw x
      · rw [if_neg (by simp), cond_false]
        cases hg : optGet false (mget (beqD R Ty.str) x.Name t)
        · rw [if_neg (by simp), cond_false, Pred.re_eq]
          refine bs (filter_Check_spec hm.2.1 hd hdb) ?_
          show (bif condE s x.Where != ((0 : Int)) then some (Sum.inr (condE s x.Where) : PUnit ⊕ Int) else _) = _
          by_cases hc : condE s x.Where = 0
          · rw [if_neg (by simpa using hc), hc, wrap_succ (by omega)]; rfl
          · rw [if_pos hc, bne_iff_ne.2 hc]; rfl
        · rw [if_pos rfl]; rfl
      · rw [if_pos rfl]; rfl)
    (fun m t => by
      show retain_Check_L5 n s l (m + 1) (((l.length : Nat) : Int), t) = _
      rw [retain_Check_L5_s, dec_end]; rfl) (fun x i t k k' hk => by simp only [hk]) l.length 0 n [] (by omega) hl.1
  have key : ∀ (l : List Law) (i : Nat) (t : List (List UInt8 × Bool)) (met : List (List UInt8)), MetOK t met → foldI (fun (x : Law) (_ : Nat) (t : List (List UInt8 × Bool)) (k : List (List UInt8 × Bool) → Option (PUnit ⊕ Int)) => if badLaw x = true then some (.inr 1 : PUnit ⊕ Int) else if optGet false (mget (beqD R Ty.str) x.Name t) = true then some (.inr 6) else if condE s x.Where ≠ 0 then some (Sum.inr (condE s x.Where) : PUnit ⊕ Int) else k (mset (beqD R Ty.str) x.Name true t)) (fun _ => some (.inl () : PUnit ⊕ Int)) i l t = lawR (lawsE s met l) := by
    intro l
    induction l with
    | nil => intro i t met _; rfl
    | cons x l ih =>
      intro i t met hmet
      show (if badLaw x = true then _ else _) = _
      unfold lawsE
      split
      · rfl
      · rw [hmet x.Name]
        split
        · rfl
        · split
          · rfl
          · exact ih (i + 1) _ _ (hmet.add x.Name)
  rw [List.drop_zero, key _ _ _ _ .nil] at this
  have this' : retain_Check_L5 n s l n ((0 : Int), []) = lawR (lawsE s [] l) := this
  rw [retain_Check_eq]
  by_cases c : l.length > 32
  · rw [if_pos c, decide_eq_true (by omega)]; rfl
  · rw [if_neg c, decide_eq_false (by omega), cond_false, this']
    cases lawsE s [] l <;> rfl
theorem badL (x d : Law) (c1 : Bool) (h1 : c1 = decide ((((x.Name.length : Nat) : Int)) < ((1 : Int)))) (y : Law) (hy : y = bif !c1 then x else d) (z : Law) (hz : z = bif !(bif c1 then true else decide ((((y.Name.length : Nat) : Int)) > ((40 : Int)))) then x else d) (t : Law)
    (ht : t = bif !(bif bif c1 then true else decide ((((y.Name.length : Nat) : Int)) > ((40 : Int))) then true else decide (z.Days < ((0 : Int)))) then x else d) :
    (bif bif bif c1 then true else decide ((((y.Name.length : Nat) : Int)) > ((40 : Int))) then true else decide (z.Days < ((0 : Int))) then true else decide (t.Days > ((1048576 : Int)))) = badLaw x := by
  unfold badLaw
  rw [← h1]
  cases c1
  · have hy' : y = x := hy
    subst hy'
    simp only [cond_false] at hz ht ⊢
    cases h2 : decide ((((y.Name.length : Nat) : Int)) > ((40 : Int)))
    · rw [h2] at hz ht
      have hz' : z = y := hz
      subst hz'
      simp only [cond_false] at ht ⊢
      cases h3 : decide (z.Days < ((0 : Int)))
      · rw [h3] at ht
        have ht' : t = z := ht
        subst ht'; rfl
      · rfl
    · rfl
  · rfl
theorem ref21_inner {n : Nat} {s : Schema} {l : List Law} {i : Nat} {x : Law} (hx : l[i]? = some x) (hn : l.length < n) (hb : l.length < 2 ^ 62) : ref21_Check_L9 n s l (i : Int) n (0 : Int) = some (if ((l.take i).map (·.Name)).contains x.Name = true then (.inr 6 : PUnit ⊕ Int) else .inl ()) := by
  have hlt := lt_of_get hx
  have htl : (l.take i).length = i := by rw [List.length_take]; omega
  have := loop_ix (m := n) (L := fun m k => ref21_Check_L9 n s l (i : Int) m k) (l := l.take i) (fun d _ r => bif d.Name == x.Name then some (.inr 6 : PUnit ⊕ Int) else r) (some (.inl () : PUnit ⊕ Int))
    (fun m k d hd => by
      have hk : k < i := by have := lt_of_get hd; omega
      have hd' : l[k]? = some d := by rw [List.getElem?_take] at hd; split at hd <;> first | exact hd | cases hd
      rw [ref21_Check_L9_s, decide_eq_true (by omega), cond_true]
      refine bs (idxL_of hd') (bs (idxL_of hx) ?_)
      rw [wrap_succ (i := k) (by omega)])
    (fun m => by
      rw [ref21_Check_L9_s, htl, decide_eq_false (show ¬ ((i : Int) < (i : Int)) by omega)]; rfl) (by omega)
  rw [this, foldI_find (fun d : Law => d.Name == x.Name) (fun _ => (Sum.inr (6 : Int) : PUnit ⊕ Int)) (.inl ())]
  have e : ((l.take i).map (·.Name)).contains x.Name = (l.take i).any (fun d => d.Name == x.Name) := by
    induction l.take i with
    | nil => rfl
    | cons y t ih => rw [List.map_cons, List.contains_cons, List.any_cons, ih]; congr 1; exact Bool.eq_iff_iff.2 (by rw [beq_iff_eq, beq_iff_eq]; exact eq_comm)
  rw [e]
  cases hf : (l.take i).findIdx? (fun d => d.Name == x.Name) with
  | none =>
    rw [List.findIdx?_eq_none_iff] at hf
    have : (l.take i).any (fun d => d.Name == x.Name) = false := by rw [List.any_eq_false]; intro y hy; simpa using hf y hy
    rw [this]; rfl
  | some j =>
    obtain ⟨hj, h2, _⟩ := List.findIdx?_eq_some_iff_getElem.1 hf
    have : (l.take i).any (fun d => d.Name == x.Name) = true := by rw [List.any_eq_true]; exact ⟨_, List.getElem_mem hj, h2⟩
    rw [this]; rfl
theorem ref21_Check_spec {n : Nat} {s : Schema} {l : List Law} (hl : SmallL l n) (hd : s.Defs.length < n) (hdb : s.Defs.length < 2 ^ 62) (hk : 1000 < n) : ref21_Check n (s, l) = some (if l.length > 32 then 2 else (lawsE s [] l).getD 0) := by
  have := loop_ix (L := fun m i => ref21_Check_L4 n s l m i) (l := l)
    (fun x i k => if badLaw x = true then some (.inr 1 : PUnit ⊕ Int) else if ((l.take i).map (·.Name)).contains x.Name = true then some (.inr 6) else if condE s x.Where ≠ 0 then some (Sum.inr (condE s x.Where) : PUnit ⊕ Int) else k) (some (.inl () : PUnit ⊕ Int))
    (fun m i x hx => by
      have hlt := lt_of_get hx
      have hlb := hl.2.1
      have hm := hl.2.2 x (List.mem_of_getElem? hx)
      rw [ref21_Check_L4_s, dec_of hx, cond_true]
      refine bs (idxL_of hx) ?_
      have w : ∀ (c : Bool) (d : Law), whenO c (idxL l ((i : Nat) : Int)) d = some (bif c then x else d) := fun c d => by
        rw [idxL_of hx]; cases c <;> rfl
      refine bs (w _ _) (bs (w _ _) (bs (w _ _) ?_))
      refine (congrArg (fun b => bif b then _ else _) (badL x _ _ rfl _ rfl _ rfl _ rfl)).trans ?_
      show (bif badLaw x then _ else _) = _
      cases hbl : badLaw x
      · rw [if_neg (by simp), cond_false]
        refine bs (ref21_inner hx hl.1 hl.2.1) ?_
        cases hg : ((l.take i).map (·.Name)).contains x.Name
        · rw [if_neg (by simp), if_neg (by simp)]
          show Option.bind _ _ = _
          refine bs (idxL_of hx) ?_
          rw [Pred.re_eq]
          refine bs (ref17_Check_spec hm.1 hm.2.1 hd hdb hk) ?_
          show (bif condE s x.Where != ((0 : Int)) then some (Sum.inr (condE s x.Where) : PUnit ⊕ Int) else _) = _
          by_cases hc : condE s x.Where = 0
          · rw [if_neg (by simpa using hc), hc, wrap_succ (by omega)]; rfl
          · rw [if_pos hc, bne_iff_ne.2 hc]; rfl
        · rw [if_pos rfl, if_pos rfl]; rfl
      · rw [if_pos rfl]; rfl)
    (fun m => by rw [ref21_Check_L4_s, dec_end]; rfl) hl.1
  have key : ∀ (k i : Nat), i + k = l.length → foldI (σ := Unit) (fun (x : Law) (i : Nat) _ (k : Unit → Option (PUnit ⊕ Int)) => if badLaw x = true then some (.inr 1 : PUnit ⊕ Int) else if ((l.take i).map (·.Name)).contains x.Name = true then some (.inr 6) else if condE s x.Where ≠ 0 then some (Sum.inr (condE s x.Where) : PUnit ⊕ Int) else k ()) (fun _ => some (.inl () : PUnit ⊕ Int)) i (l.drop i) () = lawR (lawsE s ((l.take i).map (·.Name)) (l.drop i)) := by
    intro k
    induction k with
    | zero => intro i hi; rw [List.drop_eq_nil_of_le (by omega)]; rfl
    | succ k ih =>
      intro i hi
      have hlt : i < l.length := by omega
      rw [List.drop_eq_getElem_cons hlt]
      have hx : l[i]? = some l[i] := List.getElem?_eq_getElem hlt
      have ht : (l.take (i + 1)).map (·.Name) = (l.take i).map (·.Name) ++ [l[i].Name] := by
        rw [List.take_add_one, hx, List.map_append]; rfl
      have ih' := ih (i + 1) (by omega)
      rw [ht] at ih'
      generalize l[i] = x at ih' ⊢
      show (if badLaw x = true then _ else _) = _
      unfold lawsE
      split
      · rfl
      · split
        · rfl
        · split
          · rfl
          · exact ih'
  have k0 := key l.length 0 (by omega)
  rw [List.drop_zero] at k0
  have this' : ref21_Check_L4 n s l n (0 : Int) = lawR (lawsE s [] l) := this.trans k0
  rw [ref21_Check_eq]
  by_cases c : l.length > 32
  · rw [if_pos c, decide_eq_true (by omega)]; rfl
  · rw [if_neg c, decide_eq_false (by omega), cond_false, this']
    cases lawsE s [] l <;> rfl
end Sh
end
section
open Go Go.Proofs Aq
namespace Sh
theorem room_small {a k : Nat} (h : a < 2 ^ 30) (hk : k ≤ 2 ^ 12) : roomOK a k = true := by
  unfold roomOK
  have h1 : a * k ≤ 2 ^ 30 * 2 ^ 12 := Nat.mul_le_mul (Nat.le_of_lt h) hk
  have e : (2 : Nat) ^ 30 * 2 ^ 12 ≤ 2 ^ 47 := by decide
  rw [Bool.and_eq_true, decide_eq_true_iff, decide_eq_true_iff]
  exact ⟨by omega, by omega⟩
theorem in_of {α : Type} {l : List α} {i : Nat} (h : i < l.length) : decide (0 ≤ (i : Int) ∧ (i : Int) < ((l.length : Nat) : Int)) = true := decide_eq_true ⟨by omega, by omega⟩
theorem whenO_some {α : Type} {c : Bool} {x d : α} : whenO c (some x) d = some (bif c then x else d) := by cases c <;> rfl
def dieF (id frm commit : Int) (r : Row) : Row := if r.Entry.ID = id ∧ r.Entry.From = frm ∧ r.Died = 0 ∧ r.Entry.Born < commit then ⟨r.Entry, commit⟩ else r
theorem set_mid {α : Type} (a : List α) (x y : α) (b : List α) : setL (a ++ x :: b) (a.length : Int) y = a ++ y :: b := by
  unfold setL
  rw [show ((a.length : Int)).toNat = a.length from rfl, List.set_append_right _ _ (Nat.le_refl _), Nat.sub_self]; rfl
theorem ref19_die_spec {n : Nat} {rows : List Row} {id frm commit : Int} (h : rows.length < n) (hb : rows.length < 2 ^ 30) : ref19_die n (rows, (id, (frm, commit))) = some (rows.map (dieF id frm commit)) := by
  have key : ∀ (b a : List Row) (m : Nat), a.length + b.length = rows.length → b.length < m → ref19_die_L3 n id frm commit m ((a.length : Int), a ++ b) = some ((), a ++ b.map (dieF id frm commit)) := by
    intro b
    induction b with
    | nil =>
      intro a m hl hm
      obtain ⟨m, rfl⟩ : ∃ m', m = m' + 1 := ⟨m - 1, by simp at hm; omega⟩
      rw [ref19_die_L3_s, List.append_nil, dec_end]; simp
    | cons x b ih =>
      intro a m hl hm
      obtain ⟨m, rfl⟩ : ∃ m', m = m' + 1 := ⟨m - 1, by simp at hm; omega⟩
      simp only [List.length_cons] at hl hm
      have hx : (a ++ x :: b)[a.length]? = some x := by simp
      have hin := in_of (lt_of_get hx)
      have ih' := fun y => ih (a ++ [y]) m (by simp; omega) (by omega)
      have e0 : ∀ y, (((a ++ [y]).length : Nat) : Int) = ((a.length + 1 : Nat) : Int) := fun y => by simp
      rw [ref19_die_L3_s, dec_of hx, cond_true, hin, cond_true]
      refine bs (idxL_of hx) ?_
      have imp : ∀ b : Bool, impB b true = true := fun b => by cases b <;> rfl
      have hw : ∀ (c : Bool) (d : Row), whenO c (idxL (a ++ x :: b) ((a.length : Nat) : Int)) d = some (bif c then x else d) := fun c d => by rw [idxL_of hx]; exact whenO_some
      rw [imp, cond_true]
      refine bs (hw _ _) ?_
      rw [imp, cond_true]
      refine bs (hw _ _) ?_
      rw [imp, cond_true]
      refine bs (hw _ _) ?_
      have hset : setL (a ++ x :: b) ((a.length : Nat) : Int) (⟨x.Entry, commit⟩ : Row) = a ++ [(⟨x.Entry, commit⟩ : Row)] ++ b := by rw [set_mid]; simp
      by_cases c1 : x.Entry.ID = id
      · have e1 : (x.Entry.ID == id) = true := by simpa using c1
        simp only [e1, cond_true]
        by_cases c2 : x.Entry.From = frm
        · have e2 : (x.Entry.From == frm) = true := by simpa using c2
          simp only [e2, cond_true]
          by_cases c3 : x.Died = 0
          · have e3 : (x.Died == (0 : Int)) = true := by simpa using c3
            simp only [e3, cond_true]
            by_cases c4 : x.Entry.Born < commit
            · rw [decide_eq_true c4, cond_true]
              refine bs (idxL_of hx) ?_
              rw [wrap_succ (by omega), hset, ← e0, ih']
              simp [dieF, c1, c2, c3, c4]
            · rw [decide_eq_false c4, cond_false, wrap_succ (by omega), show a ++ x :: b = a ++ [x] ++ b by simp, ← e0 x, ih']
              simp [dieF, c1, c2, c3, c4]
          · have e3 : (x.Died == (0 : Int)) = false := by simpa using c3
            simp only [e3, cond_false]
            rw [wrap_succ (by omega), show a ++ x :: b = a ++ [x] ++ b by simp, ← e0 x, ih']
            simp [dieF, c3]
        · have e2 : (x.Entry.From == frm) = false := by simpa using c2
          simp only [e2, cond_false]
          rw [wrap_succ (by omega), show a ++ x :: b = a ++ [x] ++ b by simp, ← e0 x, ih']
          simp [dieF, c2]
      · have e1 : (x.Entry.ID == id) = false := by simpa using c1
        simp only [e1, cond_false]
        rw [wrap_succ (by omega), show a ++ x :: b = a ++ [x] ++ b by simp, ← e0 x, ih']
        simp [dieF, c1]
  rw [ref19_die_eq, room_small hb (by omega), cond_true]
  exact bs (key rows [] n (by simp) h) rfl
theorem wrap_sub {i : Nat} (h : 0 < i) (hb : i < 2 ^ 62) : IntKind.wrap .i64 ((i : Int) - (1 : Int)) = ((i - 1 : Nat) : Int) := by
  rw [IntKind.wrap_i64]; omega
theorem mem_setL {α : Type} {l : List α} {i : Int} {x y : α} (h : y ∈ setL l i x) : y ∈ l ∨ y = x := by
  unfold setL at h
  exact List.mem_or_eq_of_mem_set h
theorem len_setL {α : Type} (l : List α) (i : Int) (x : α) : (setL l i x).length = l.length := by unfold setL; simp
theorem ref19_Live_inner {n : Nat} {b : Book} {id i : Int} {x : Row} (hx : idxL b.Rows i = some x) : ∀ (k m : Nat) (out : List Row), k < out.length → k < m → k < 2 ^ 62 → (∀ r ∈ out, r ∈ b.Rows) →
    ∃ (k' : Nat) (out' : List Row), ref19_Live_L8 n b id i m ((k : Int), out) = some ((k' : Int), out') ∧ k' < out'.length ∧ out'.length = out.length ∧ ∀ r ∈ out', r ∈ b.Rows := by
  intro k
  induction k with
  | zero =>
    intro m out hk hm hb ho
    obtain ⟨m, rfl⟩ : ∃ m', m = m' + 1 := ⟨m - 1, by omega⟩
    exact ⟨0, out, by rw [ref19_Live_L8_s]; rfl, hk, rfl, ho⟩
  | succ k ih =>
    intro m out hk hm hb ho
    obtain ⟨m, rfl⟩ : ∃ m', m = m' + 1 := ⟨m - 1, by omega⟩
    have hk1 : k < out.length := by omega
    have hy : idxL out ((k : Nat) : Int) = some out[k] := by rw [idxL_nat, List.getElem?_eq_getElem hk1]
    have hz : idxL out (((k + 1 : Nat)) : Int) = some out[k + 1] := by rw [idxL_nat, List.getElem?_eq_getElem hk]
    have hym : out[k] ∈ out := List.getElem_mem hk1
    generalize out[k] = y at hy hym
    generalize out[k + 1] = z at hz
    have hw : IntKind.wrap .i64 (((k + 1 : Nat) : Int) - (1 : Int)) = ((k : Nat) : Int) := by rw [wrap_sub (by omega) hb]; rfl
    rw [ref19_Live_L8_s, decide_eq_true (by omega), cond_true, hw, in_of hk1, cond_true]
    by_cases c : y.Entry.From > x.Entry.From
    · obtain ⟨k', out', h1, h2, h3, h4⟩ := ih m (setL out ((k + 1 : Nat) : Int) y) (by rw [len_setL]; exact hk1) (by omega) (by omega) (fun r hr => by
        rcases mem_setL hr with h | h
        · exact ho r h
        · rw [h]; exact ho y hym)
      refine ⟨k', out', ?_, h2, by rw [h3, len_setL], h4⟩
      refine bs hy (bs hx ?_)
      rw [decide_eq_true c, cond_true]
      refine bs hy ?_
      rw [in_of hk, cond_true]
      exact bs hz h1
    · refine ⟨k + 1, out, ?_, hk, rfl, ho⟩
      refine bs hy (bs hx ?_)
      rw [decide_eq_false c, cond_false]
theorem ref19_Live_total {n : Nat} {b : Book} {id : Int} (h : b.Rows.length < n) (hb : b.Rows.length < 2 ^ 29) : ∃ l : List Row, ref19_Live n (b, id) = some l ∧ l.length ≤ b.Rows.length ∧ ∀ r ∈ l, r ∈ b.Rows := by
  have key : ∀ (k i m : Nat) (out : List Row), i + k = b.Rows.length → k < m → out.length ≤ i → (∀ r ∈ out, r ∈ b.Rows) → ∃ q : PUnit × List Row, ref19_Live_L3 n b id m (((), (i : Int)), out) = some q ∧ q.2.length ≤ b.Rows.length ∧ ∀ r ∈ q.2, r ∈ b.Rows := by
    intro k
    induction k with
    | zero =>
      intro i m out hi hm ho hr
      obtain ⟨m, rfl⟩ : ∃ m', m = m' + 1 := ⟨m - 1, by omega⟩
      exact ⟨((), out), by rw [ref19_Live_L3_s, decide_eq_false (by omega)]; rfl, by show out.length ≤ _; omega, hr⟩
    | succ k ih =>
      intro i m out hi hm ho hr
      obtain ⟨m, rfl⟩ : ∃ m', m = m' + 1 := ⟨m - 1, by omega⟩
      have hlt : i < b.Rows.length := by omega
      have hx : idxL b.Rows (i : Int) = some b.Rows[i] := by rw [idxL_nat, List.getElem?_eq_getElem hlt]
      have hxm : b.Rows[i] ∈ b.Rows := List.getElem_mem hlt
      generalize b.Rows[i] = x at hx hxm
      have hw : ∀ (c : Bool) (d : Row), whenO c (idxL b.Rows ((i : Nat) : Int)) d = some (bif c then x else d) := fun c d => by rw [hx]; exact whenO_some
      have next : ∀ out' : List Row, out'.length ≤ i + 1 → (∀ r ∈ out', r ∈ b.Rows) → ∃ q : PUnit × List Row, ref19_Live_L3 n b id m (((), IntKind.wrap .i64 ((i : Int) + (1 : Int))), out') = some q ∧ q.2.length ≤ b.Rows.length ∧ ∀ r ∈ q.2, r ∈ b.Rows := fun out' h1 h2 => by
        rw [wrap_succ (by omega)]; exact ih (i + 1) m out' (by omega) (by omega) h1 h2
      rw [ref19_Live_L3_s, decide_eq_true (by omega), cond_true]
      refine bind_total ⟨x, hx, ?_⟩
      refine bind_total ⟨_, hw _ _, ?_⟩
      refine bif_total (fun _ => ?_) (fun _ => next out (by omega) hr)
      refine bind_total ⟨x, hx, ?_⟩
      rw [room_small (show out.length + [x].length < 2 ^ 30 by simp; omega) (by omega), cond_true]
      obtain ⟨k', out', h1, h2, h3, h4⟩ := ref19_Live_inner (n := n) (b := b) (id := id) hx out.length n (out ++ [x]) (by simp) (by omega) (by omega) (fun r hr' => by
        rcases List.mem_append.1 hr' with h | h
        · exact hr r h
        · simp at h; rw [h]; exact hxm)
      refine bind_total ⟨_, h1, ?_⟩
      refine bind_total ⟨x, hx, ?_⟩
      dsimp only
      rw [in_of h2, cond_true]
      refine bind_total ⟨out'[k'], by rw [idxL_nat, List.getElem?_eq_getElem h2], ?_⟩
      refine next _ (by rw [len_setL, h3]; simp; omega) (fun r hr' => ?_)
      rcases mem_setL hr' with h | h
      · exact h4 r h
      · rw [h]; exact hxm
  obtain ⟨l, h1, h2, h3⟩ := key b.Rows.length 0 n [] (by omega) h (by simp) (by simp)
  exact ⟨l.2, by rw [ref19_Live_eq]; exact bs h1 rfl, h2, h3⟩
end Sh
end
section
open Go Go.Proofs Aq
namespace Sh
def ROK (n : Nat) (c : Int) (r : Row) : Prop := (r.Died = 0 ∨ (1 ≤ r.Died ∧ r.Died ≤ c)) ∧ SmallEn r.Entry n
structure BI (n : Nat) (s : Schema) (b : Book) : Prop where
  schema : b.Schema = s
  commit : b.Commit = ((b.Days.length : Nat) : Int)
  days : b.Days.length ≤ 2 ^ 30
  rows : b.Rows.length ≤ 65536
  row : ∀ r ∈ b.Rows, ROK n b.Commit r
theorem ROK.le {n : Nat} {c c' : Int} {r : Row} (h : ROK n c r) (hc : c ≤ c') : ROK n c' r := ⟨h.1.imp id fun ⟨a, b⟩ => ⟨a, by omega⟩, h.2⟩
def SmallEv (e : Event) (n : Nat) : Prop := e.Vec.length < n ∧ e.Vec.length < 2 ^ 62 ∧ e.Attrs.length < n ∧ e.Attrs.length < 2 ^ 62
theorem ROK_die {n : Nat} {c : Int} {l : List Row} (h : ∀ r ∈ l, ROK n c r) (id frm : Int) (hc : 1 ≤ c) : ∀ r ∈ l.map (dieF id frm c), ROK n c r := by
  intro r hr
  obtain ⟨x, hx, rfl⟩ := List.mem_map.1 hr
  unfold dieF
  split
  · exact ⟨.inr ⟨hc, Int.le_refl _⟩, (h x hx).2⟩
  · exact h x hx
theorem idx_some {α : Type} {l : List α} {i : Nat} (h : i < l.length) : ∃ x, idxL l (i : Int) = some x ∧ x ∈ l := ⟨l[i], by rw [idxL_nat, List.getElem?_eq_getElem h], List.getElem_mem h⟩
theorem wrap_len {a b : Nat} (h : a + b < 2 ^ 62) : IntKind.wrap .i64 ((((a : Nat) : Int)) + (((b : Nat) : Int))) = ((a + b : Nat) : Int) := by
  rw [IntKind.wrap_i64]; omega
theorem room_total {α : Type} {P : α → Prop} {a k : Nat} {o : Option α} (ho : ∃ r, o = some r ∧ P r) (h : a < 2 ^ 31) (hk : k ≤ 2 ^ 12 := by omega) : ∃ r, (bif roomOK a k then o else none) = some r ∧ P r := by
  have : roomOK a k = true := by
    unfold roomOK
    have h1 : a * k ≤ 2 ^ 31 * 2 ^ 12 := Nat.mul_le_mul (Nat.le_of_lt h) hk
    have e : (2 : Nat) ^ 31 * 2 ^ 12 ≤ 2 ^ 47 := by decide
    rw [Bool.and_eq_true, decide_eq_true_iff, decide_eq_true_iff]
    exact ⟨by omega, by omega⟩
  rw [this]; exact ho
theorem room_eq {α : Type} {a k : Nat} {o : Option α} (h : a < 2 ^ 30) (hk : k ≤ 2 ^ 12 := by omega) : (bif roomOK a k then o else none) = o := by
  rw [room_small h hk]; rfl
def BP (n : Nat) (s : Schema) (r : ref19_Booked) : Prop := BI n s r.B
theorem change_loop {n : Nat} {b : Book} {e : Event} {l : List Row} {to : List ref19_days} {more : Entry} (hn : 2 ^ 20 < n) (hl : l.length ≤ 65536) (hlt : to.length = l.length) (hlr : ∀ r ∈ l, SmallEn r.Entry n) (hc : 1 ≤ e.Commit) :
    ∀ (k i m : Nat) (ver : Int) (rows added : List Row), i + k = l.length → k < m → rows.length ≤ 65536 → (∀ r ∈ rows, ROK n e.Commit r) → added.length ≤ i → (∀ r ∈ added, ROK n e.Commit r) →
    ∃ q : Int × (List Row) × List Row, ref19_change_L5 n b e l to more m (ver, (rows, (added, (i : Int)))) = some q ∧ q.2.1.length = rows.length ∧ (∀ r ∈ q.2.1, ROK n e.Commit r) ∧ q.2.2.length ≤ l.length ∧ ∀ r ∈ q.2.2, ROK n e.Commit r := by
  intro k
  induction k with
  | zero =>
    intro i m ver rows added hi hm h1 h2 h3 h4
    obtain ⟨m, rfl⟩ : ∃ m', m = m' + 1 := ⟨m - 1, by omega⟩
    exact ⟨_, by rw [ref19_change_L5_s, decide_eq_false (by omega)]; rfl, rfl, h2, by show added.length ≤ _; omega, h4⟩
  | succ k ih =>
    intro i m ver rows added hi hm h1 h2 h3 h4
    obtain ⟨m, rfl⟩ : ∃ m', m = m' + 1 := ⟨m - 1, by omega⟩
    obtain ⟨x, hx, hxm⟩ := idx_some (l := l) (i := i) (by omega)
    obtain ⟨d, hd, _⟩ := idx_some (l := to) (i := i) (by omega)
    have hdie := fun frm => ref19_die_spec (n := n) (rows := rows) (id := e.ID) (frm := frm) (commit := e.Commit) (by omega) (by omega)
    have nx : ∀ (ver : Int) (rows' added' : List Row), rows'.length = rows.length → (∀ r ∈ rows', ROK n e.Commit r) → added'.length ≤ i + 1 → (∀ r ∈ added', ROK n e.Commit r) →
        ∃ q : Int × (List Row) × List Row, ref19_change_L5 n b e l to more m (ver, (rows', (added', IntKind.wrap .i64 ((i : Int) + (1 : Int))))) = some q ∧ q.2.1.length = rows.length ∧ (∀ r ∈ q.2.1, ROK n e.Commit r) ∧ q.2.2.length ≤ l.length ∧ ∀ r ∈ q.2.2, ROK n e.Commit r := fun ver rows' added' k1 k2 k3 k4 => by
      rw [wrap_succ (by omega)]
      have := ih (i + 1) m ver rows' added' (by omega) (by omega) (by omega) k2 k3 k4
      rw [k1] at this; exact this
    have hadd : ∀ (y : Row), ROK n e.Commit y → ∀ r ∈ added ++ [y], ROK n e.Commit r := fun y hy r hr => by
      rcases List.mem_append.1 hr with h | h
      · exact h4 r h
      · simp at h; rw [h]; exact hy
    have grow : ∀ (c : Bool) (rows' : List Row) (ver ver' f t : Int), rows'.length = rows.length → (∀ r ∈ rows', ROK n e.Commit r) → ∃ q : Int × (List Row) × List Row, (bif c then
          (idxL to (i : Int)).bind fun (r17 : ref19_days) =>
          (idxL to (i : Int)).bind fun (r18 : ref19_days) =>
          bif roomOK (added.length + ([(⟨(⟨x.Entry.ID, ver', x.Entry.Owner, x.Entry.Filed, r17.from_, r18.to, e.Commit, x.Entry.Vec, x.Entry.Attrs⟩ : Entry), (0 : Int)⟩ : Row)].length)) 112 then
            ref19_change_L5 n b e l to more m ((ver', (rows', (added ++ [(⟨(⟨x.Entry.ID, ver', x.Entry.Owner, x.Entry.Filed, r17.from_, r18.to, e.Commit, x.Entry.Vec, x.Entry.Attrs⟩ : Entry), (0 : Int)⟩ : Row)], Go.IntKind.wrap Go.IntKind.i64 ((i : Int) + ((1 : Int)))))))
          else
            none
        else
          ref19_change_L5 n b e l to more m ((ver, (rows', (added, Go.IntKind.wrap Go.IntKind.i64 ((i : Int) + ((1 : Int)))))))) = some q ∧ q.2.1.length = rows.length ∧ (∀ r ∈ q.2.1, ROK n e.Commit r) ∧ q.2.2.length ≤ l.length ∧ ∀ r ∈ q.2.2, ROK n e.Commit r := by
      intro c rows' ver ver' f t k1 k2
      refine bif_total (fun _ => ?_) (fun _ => nx _ _ _ k1 k2 (by omega) h4)
      refine bind_total ⟨d, hd, ?_⟩
      refine bind_total ⟨d, hd, ?_⟩
      refine room_total (nx _ _ _ k1 k2 (by simp; omega) (hadd _ ⟨.inl rfl, hlr x hxm⟩)) (by simp; omega)
    rw [ref19_change_L5_s, decide_eq_true (by omega), cond_true]
    refine bind_total ⟨x, hx, ?_⟩
    refine bind_total ⟨d, hd, ?_⟩
    refine bif_total (fun _ => ?_) (fun _ => ?_)
    · refine bind_total ⟨d, hd, ?_⟩
      refine bif_total (fun _ => nx _ _ _ rfl h2 (by omega) h4) (fun _ => ?_)
      refine bind_total ⟨_, hdie _, ?_⟩
      refine bind_total ⟨d, hd, ?_⟩
      refine bind_total ⟨d, hd, ?_⟩
      exact grow _ _ _ _ 0 0 (by simp) (ROK_die h2 _ _ hc)
    · refine bind_total ⟨_, hdie _, ?_⟩
      refine bind_total ⟨d, hd, ?_⟩
      refine bind_total ⟨d, hd, ?_⟩
      exact grow _ _ _ _ 0 0 (by simp) (ROK_die h2 _ _ hc)
theorem ref19_change_total {n : Nat} {s : Schema} {b : Book} {e : Event} {l : List Row} {to : List ref19_days} {more : Entry} (hn : 2 ^ 20 < n) (hs : SmallS s n) (hb : BI n s b) (hl : l.length ≤ 65536) (hlt : to.length = l.length) (hlr : ∀ r ∈ l, SmallEn r.Entry n)
    (hm : SmallEn more n) (hc : e.Commit = b.Commit + 1) (hc2 : e.Commit ≤ 2 ^ 30) : ∃ r : ref19_Booked, ref19_change n (b, (e, (l, (to, more)))) = some r ∧ BP n s r := by
  have hcl := hb.commit
  have hr65 := hb.rows
  have hdl : b.Days.length < 2 ^ 30 := by omega
  have hc1 : 1 ≤ e.Commit := by omega
  obtain ⟨v, hv⟩ := ref19_version_total (n := n) (b := b) (d := e.ID) (by omega) (by omega)
  obtain ⟨⟨ver, rows, added⟩, h1, h2, h3, h4, h5⟩ := change_loop (b := b) (more := more) hn hl hlt hlr hc1 l.length 0 n v b.Rows [] (by omega) (by omega) hr65 (fun r hr => (hb.row r hr).le (by omega)) (by simp) (by simp)
  dsimp only at h2 h3 h4 h5
  -- the new book
  have fin : ∀ added' : List Row, added'.length ≤ 65537 → (∀ r ∈ added', ROK n e.Commit r) → ∃ r : ref19_Booked, (bif decide ((Go.IntKind.wrap Go.IntKind.i64 ((((rows.length : Nat) : Int)) + (((added'.length : Nat) : Int)))) > ((65536 : Int))) then
        some ((⟨b, (2 : Int)⟩ : ref19_Booked))
      else
        bif roomOK (((0 : Nat)) + b.Days.length) 8 then
          bif roomOK ((([] ++ b.Days).length) + ([e.Day].length)) 8 then
            bif roomOK (((0 : Nat)) + rows.length) 112 then
              bif roomOK ((([] ++ rows).length) + added'.length) 112 then
                some ((⟨(⟨b.Schema, e.Commit, e.Day, ([] ++ b.Days) ++ [e.Day], ([] ++ rows) ++ added'⟩ : Book), (0 : Int)⟩ : ref19_Booked))
              else
                none
            else
              none
          else
            none
        else
          none) = some r ∧ BP n s r := by
    intro added' k1 k2
    rw [wrap_len (by omega)]
    refine bif_total (fun _ => some_total (show BI n s b from hb)) (fun hx => ?_)
    have hx' : rows.length + added'.length ≤ 65536 := by
      have := of_decide_eq_false hx; omega
    refine room_total (room_total (room_total (room_total ?_ (by simp; omega)) (by simp; omega)) (by simp; omega)) (by simp; omega)
    refine some_total ?_
    show BI n s _
    exact ⟨hb.schema, by simp; omega, by simp; omega, by simp; omega, fun r hr => by
      simp only [List.nil_append, List.mem_append] at hr
      rcases hr with h | h
      · exact h3 r h
      · exact k2 r h⟩
  rw [ref19_change_eq]
  refine bind_total ⟨v, hv, ?_⟩
  refine bind_total ⟨_, h1, ?_⟩
  dsimp only
  refine bif_total (fun _ => ?_) (fun _ => fin added (by omega) h5)
  obtain ⟨er, her⟩ := ref13_Entry_total (n := n) (s := s) (e := ⟨more.ID, Go.IntKind.wrap Go.IntKind.i64 (ver + ((1 : Int))), more.Owner, more.Filed, more.From, more.To, more.Born, more.Vec, more.Attrs⟩) hs hm
  rw [hb.schema]
  refine bind_total ⟨er, her, ?_⟩
  refine bif_total (fun _ => some_total (show BI n s b from hb)) (fun _ => ?_)
  refine room_total ?_ (by simp; omega)
  have := fin (added ++ [(⟨(⟨more.ID, Go.IntKind.wrap Go.IntKind.i64 (ver + ((1 : Int))), more.Owner, more.Filed, more.From, more.To, more.Born, more.Vec, more.Attrs⟩ : Entry), (0 : Int)⟩ : Row)]) (by simp; omega) (fun r hr => by
    rcases List.mem_append.1 hr with h | h
    · exact h5 r h
    · simp at h; rw [h]; exact ⟨.inl rfl, hm⟩)
  rw [hb.schema] at this
  exact this
theorem ref19_file_total {n : Nat} {s : Schema} {b : Book} {e : Event} (hn : 2 ^ 20 < n) (hs : SmallS s n) (hb : BI n s b) (he : SmallEv e n) (hc : e.Commit = b.Commit + 1) (hc2 : e.Commit ≤ 2 ^ 30) : ∃ r : ref19_Booked, ref19_file n (b, e) = some r ∧ BP n s r := by
  have hr := hb.rows
  obtain ⟨h, hh⟩ := ref19_has_total (n := n) (b := b) (d := e.ID) (by omega) (by omega)
  rw [ref19_file_eq]
  refine bind_total ⟨h, hh, ?_⟩
  refine bif_total (fun _ => some_total (show BI n s b from hb)) (fun _ => ?_)
  obtain ⟨er, her⟩ := ref13_Entry_total (n := n) (s := s) (e := ⟨e.ID, (1 : Int), e.Owner, e.Day, e.Until, (1048577 : Int), e.Commit, e.Vec, e.Attrs⟩) hs he
  rw [hb.schema]
  refine bind_total ⟨er, her, ?_⟩
  refine bif_total (fun _ => some_total (show BI n s b from hb)) (fun _ => ?_)
  obtain ⟨r, h1, h2⟩ := ref19_change_total (l := []) (to := []) (more := ⟨e.ID, (1 : Int), e.Owner, e.Day, e.Until, (1048577 : Int), e.Commit, e.Vec, e.Attrs⟩) hn hs hb (by simp) rfl (by simp) he hc hc2
  exact bind_total ⟨r, h1, some_total h2⟩
theorem ref19_end_total {n : Nat} {l : List Row} (h : l ≠ []) (hb : l.length < 2 ^ 62) : ∃ x : Int, ref19_end n l = some x := by
  have hp : 0 < l.length := List.length_pos_iff.2 h
  obtain ⟨x, hx, _⟩ := idx_some (l := l) (i := l.length - 1) (by omega)
  exact ⟨x.Entry.To, by rw [ref19_end_eq, wrap_sub hp hb]; exact bs hx rfl⟩
theorem days_loop {L : Nat → List ref19_days → Int → Option (List ref19_days)} {l : List Row} (hl : l.length ≤ 65536) (hs : ∀ m (i : Nat) (acc : List ref19_days), i < l.length → acc.length = i → ∃ d, L (m + 1) acc (i : Int) = L m (acc ++ [d]) ((i + 1 : Nat) : Int)) (hf : ∀ m acc, L (m + 1) acc ((l.length : Nat) : Int) = some acc) {n : Nat} (hn : l.length < n) : ∃ to : List ref19_days, L n [] (0 : Int) = some to ∧ to.length = l.length := by
  have key : ∀ (k i m : Nat) (acc : List ref19_days), i + k = l.length → k < m → acc.length = i → ∃ to : List ref19_days, L m acc (i : Int) = some to ∧ to.length = l.length := by
    intro k
    induction k with
    | zero =>
      intro i m acc hi hm ha
      obtain ⟨m, rfl⟩ : ∃ m', m = m' + 1 := ⟨m - 1, by omega⟩
      obtain rfl : i = l.length := by omega
      exact ⟨acc, hf _ _, ha⟩
    | succ k ih =>
      intro i m acc hi hm ha
      obtain ⟨m, rfl⟩ : ∃ m', m = m' + 1 := ⟨m - 1, by omega⟩
      obtain ⟨d, hd⟩ := hs m i acc (by omega) ha
      rw [hd]
      exact ih (i + 1) m _ (by omega) (by omega) (by simp [ha])
  exact key l.length 0 n [] (by omega) hn rfl
theorem live_ok {n : Nat} {s : Schema} {b : Book} {l : List Row} (hb : BI n s b) (hl : ∀ r ∈ l, r ∈ b.Rows) : ∀ r ∈ l, SmallEn r.Entry n := fun r hr => (hb.row r (hl r hr)).2
theorem ref19_correct_total {n : Nat} {s : Schema} {b : Book} {e : Event} {l : List Row} (hn : 2 ^ 20 < n) (hs : SmallS s n) (hb : BI n s b) (he : SmallEv e n) (hc : e.Commit = b.Commit + 1) (hc2 : e.Commit ≤ 2 ^ 30) (hne : l ≠ []) (hl : l.length ≤ 65536) (hlr : ∀ r ∈ l, r ∈ b.Rows) : ∃ r : ref19_Booked, ref19_correct n (b, (e, l)) = some r ∧ BP n s r := by
  have hp : 0 < l.length := List.length_pos_iff.2 hne
  obtain ⟨x, hx, hxm⟩ := idx_some (l := l) (i := 0) hp
  obtain ⟨t, ht⟩ := ref19_end_total (n := n) hne (by omega)
  obtain ⟨t', ht'⟩ := whenO_total (c := !(decide (e.From < ((0 : Int))))) (o := ref19_end n l) (d := (0 : Int)) (fun _ => ⟨t, ht⟩)
  obtain ⟨to, h1, h2⟩ := days_loop (L := fun m acc i => ref19_correct_L6 n b e l x m (acc, i)) (n := n) hl (fun m i acc hi ha => by
    obtain ⟨y, hy, _⟩ := idx_some (l := l) (i := i) hi
    refine ⟨⟨y.Entry.From, imin y.Entry.To (imax (imax e.From x.Entry.From) y.Entry.From)⟩, ?_⟩
    show ref19_correct_L6 n b e l x (m + 1) (acc, (i : Int)) = _
    rw [ref19_correct_L6_s, decide_eq_true (by omega), cond_true]
    refine bs hy ?_
    rw [wrap_succ (by omega)]; exact room_eq (by simp; omega))
    (fun m acc => by
      show ref19_correct_L6 n b e l x (m + 1) (acc, ((l.length : Nat) : Int)) = _
      rw [ref19_correct_L6_s, dec_end]; rfl) (by omega)
  obtain ⟨r, h3, h4⟩ := ref19_change_total (l := l) (to := to) (more := ⟨x.Entry.ID, x.Entry.Ver, x.Entry.Owner, x.Entry.Filed, imax e.From x.Entry.From, t, e.Commit, e.Vec, e.Attrs⟩) hn hs hb hl h2 (live_ok hb hlr) he hc hc2
  rw [ref19_correct_eq]
  refine bind_total ⟨x, hx, ?_⟩
  refine bind_total ⟨t', ht', ?_⟩
  refine bif_total (fun _ => some_total (show BI n s b from hb)) (fun _ => ?_)
  refine bind_total ⟨to, h1, ?_⟩
  refine bind_total ⟨x, hx, ?_⟩
  refine bind_total ⟨t, ht, ?_⟩
  exact bind_total ⟨r, h3, some_total h4⟩
theorem emptyEn {n : Nat} (hn : 2 ^ 20 < n) : SmallEn (⟨(0 : Int), (0 : Int), (0 : Int), (0 : Int), (0 : Int), (0 : Int), (0 : Int), [], []⟩ : Entry) n := ⟨by simp; omega, by simp, by simp; omega, by simp⟩
theorem ref19_withdraw_total {n : Nat} {s : Schema} {b : Book} {e : Event} {l : List Row} (hn : 2 ^ 20 < n) (hs : SmallS s n) (hb : BI n s b) (hc : e.Commit = b.Commit + 1) (hc2 : e.Commit ≤ 2 ^ 30) (hne : l ≠ []) (hl : l.length ≤ 65536) (hlr : ∀ r ∈ l, r ∈ b.Rows) : ∃ r : ref19_Booked, ref19_withdraw n (b, (e, l)) = some r ∧ BP n s r := by
  obtain ⟨t, ht⟩ := ref19_end_total (n := n) hne (by omega)
  obtain ⟨to, h1, h2⟩ := days_loop (L := fun m acc i => ref19_withdraw_L5 n b e l m (acc, i)) (n := n) hl (fun m i acc hi ha => by
    obtain ⟨y, hy, _⟩ := idx_some (l := l) (i := i) hi
    refine ⟨⟨y.Entry.From, imin y.Entry.To (imax e.From y.Entry.From)⟩, ?_⟩
    show ref19_withdraw_L5 n b e l (m + 1) (acc, (i : Int)) = _
    rw [ref19_withdraw_L5_s, decide_eq_true (by omega), cond_true]
    refine bs hy ?_
    rw [wrap_succ (by omega)]; exact room_eq (by simp; omega))
    (fun m acc => by
      show ref19_withdraw_L5 n b e l (m + 1) (acc, ((l.length : Nat) : Int)) = _
      rw [ref19_withdraw_L5_s, dec_end]; rfl) (by omega)
  obtain ⟨r, h3, h4⟩ := ref19_change_total (l := l) (to := to) hn hs hb hl h2 (live_ok hb hlr) (emptyEn hn) hc hc2
  rw [ref19_withdraw_eq]
  refine bif_total (fun _ => ?_) (fun _ => some_total (show BI n s b from hb))
  refine bind_total ⟨t, ht, ?_⟩
  refine bif_total (fun _ => some_total (show BI n s b from hb)) (fun _ => ?_)
  refine bind_total ⟨to, h1, ?_⟩
  exact bind_total ⟨r, h3, some_total h4⟩
theorem ref19_embargo_total {n : Nat} {s : Schema} {b : Book} {e : Event} {l : List Row} (hn : 2 ^ 20 < n) (hs : SmallS s n) (hb : BI n s b) (hc : e.Commit = b.Commit + 1) (hc2 : e.Commit ≤ 2 ^ 30) (hne : l ≠ []) (hl : l.length ≤ 65536) (hlr : ∀ r ∈ l, r ∈ b.Rows) : ∃ r : ref19_Booked, ref19_embargo n (b, (e, l)) = some r ∧ BP n s r := by
  have hp : 0 < l.length := List.length_pos_iff.2 hne
  obtain ⟨x, hx, hxm⟩ := idx_some (l := l) (i := 0) hp
  obtain ⟨t, ht⟩ := ref19_end_total (n := n) hne (by omega)
  obtain ⟨to, h1, h2⟩ := days_loop (L := fun m acc i => ref19_embargo_L8 n b e l x m (acc, i)) (n := n) hl (fun m i acc hi ha => by
    obtain ⟨y, hy, _⟩ := idx_some (l := l) (i := i) hi
    refine ⟨bif bif (i : Int) == ((0 : Int)) then decide (e.Until < x.Entry.From) else false then ⟨e.Until, y.Entry.To⟩ else ⟨imax y.Entry.From (imin e.Until y.Entry.To), y.Entry.To⟩, ?_⟩
    show ref19_embargo_L8 n b e l x (m + 1) (acc, (i : Int)) = _
    rw [ref19_embargo_L8_s, decide_eq_true (by omega), cond_true]
    refine bs hy ?_
    cases (bif (i : Int) == ((0 : Int)) then decide (e.Until < x.Entry.From) else false)
    · rw [cond_false, cond_false, wrap_succ (by omega)]; exact room_eq (by simp; omega)
    · rw [cond_true, cond_true, wrap_succ (by omega)]; exact room_eq (by simp; omega))
    (fun m acc => by
      show ref19_embargo_L8 n b e l x (m + 1) (acc, ((l.length : Nat) : Int)) = _
      rw [ref19_embargo_L8_s, dec_end]; rfl) (by omega)
  obtain ⟨r, h3, h4⟩ := ref19_change_total (l := l) (to := to) hn hs hb hl h2 (live_ok hb hlr) (emptyEn hn) hc hc2
  rw [ref19_embargo_eq]
  refine bind_total ⟨x, hx, ?_⟩
  refine bif_total (fun _ => some_total (show BI n s b from hb)) (fun _ => ?_)
  refine bif_total (fun _ => ?_) (fun _ => some_total (show BI n s b from hb))
  refine bind_total ⟨t, ht, ?_⟩
  refine bif_total (fun _ => some_total (show BI n s b from hb)) (fun _ => ?_)
  refine bind_total ⟨to, h1, ?_⟩
  exact bind_total ⟨r, h3, some_total h4⟩
theorem ref19_Apply_total {n : Nat} {s : Schema} {b : Book} {e : Event} (hn : 2 ^ 20 < n) (hs : SmallS s n) (hb : BI n s b) (he : SmallEv e n) : ∃ r : ref19_Booked, ref19_Apply n (b, e) = some r ∧ BP n s r := by
  have hcl := hb.commit
  have hr65 := hb.rows
  have hdl := hb.days
  rw [ref19_Apply_eq]
  refine bif_total (fun _ => some_total (show BI n s b from hb)) (fun hcond => ?_)
  have hw : IntKind.wrap .i64 (b.Commit + (1 : Int)) = b.Commit + 1 := by rw [hcl, IntKind.wrap_i64]; omega
  rw [hw] at hcond
  have hc : e.Commit = b.Commit + 1 := by
    by_cases c : e.Commit = b.Commit + 1
    · exact c
    · rw [bne_iff_ne.2 c] at hcond; simp at hcond
  have hc2 : e.Commit ≤ 2 ^ 30 := by
    by_cases c : e.Commit > (1073741824 : Int)
    · rw [decide_eq_true c] at hcond
      cases h : (e.Commit != b.Commit + 1) <;> rw [h] at hcond <;> simp at hcond
    · omega
  obtain ⟨l, hl1, hl2, hl3⟩ := ref19_Live_total (n := n) (b := b) (id := e.ID) (by omega) (by omega)
  have err : ∀ k : Int, ∃ r : ref19_Booked, some ((⟨b, k⟩ : ref19_Booked)) = some r ∧ BP n s r := fun k => some_total (show BI n s b from hb)
  have live : ∃ r : ref19_Booked, ((ref19_Live n ((b, e.ID))).bind fun (r5 : List Row) =>
            bif (((r5.length : Nat) : Int)) == ((0 : Int)) then
              some ((⟨b, (5 : Int)⟩ : ref19_Booked))
            else
              bif e.Kind == ((2 : Int)) then
                (ref19_correct n ((b, (e, r5)))).bind fun (r6 : ref19_Booked) =>
                some r6
              else
                bif e.Kind == ((3 : Int)) then
                  (ref19_withdraw n ((b, (e, r5)))).bind fun (r7 : ref19_Booked) =>
                  some r7
                else
                  (ref19_embargo n ((b, (e, r5)))).bind fun (r8 : ref19_Booked) =>
                  some r8) = some r ∧ BP n s r := by
    refine bind_total ⟨l, hl1, ?_⟩
    refine bif_total (fun _ => err 5) (fun hne => ?_)
    have hne' : l ≠ [] := by rintro rfl; simp at hne
    have l65 : l.length ≤ 65536 := Nat.le_trans hl2 hr65
    refine bif_total (fun _ => ?_) (fun _ => bif_total (fun _ => ?_) (fun _ => ?_))
    · obtain ⟨r, h1, h2⟩ := ref19_correct_total hn hs hb he hc hc2 hne' l65 hl3
      exact bind_total ⟨r, h1, some_total h2⟩
    · obtain ⟨r, h1, h2⟩ := ref19_withdraw_total hn hs hb hc hc2 hne' l65 hl3
      exact bind_total ⟨r, h1, some_total h2⟩
    · obtain ⟨r, h1, h2⟩ := ref19_embargo_total hn hs hb hc hc2 hne' l65 hl3
      exact bind_total ⟨r, h1, some_total h2⟩
  refine bif_total (fun _ => ?_) (fun _ => bif_total (fun _ => ?_) (fun _ => bif_total (fun _ => live) (fun _ => bif_total (fun _ => live) (fun _ => bif_total (fun _ => live) (fun _ => err 1)))))
  · obtain ⟨r, h1, h2⟩ := ref19_file_total hn hs hb he hc hc2
    exact bind_total ⟨r, h1, some_total h2⟩
  · obtain ⟨r, h1, h2⟩ := ref19_change_total (l := []) (to := []) hn hs hb (by simp) rfl (by simp) (emptyEn hn) hc hc2
    exact bind_total ⟨r, h1, some_total h2⟩
def noSchema : Schema := ⟨0, 0, []⟩
def FI' (n : Nat) (s : Schema) (r : ref19_Folded) : Prop := BI n s r.B ∨ r.B = ⟨noSchema, 0, 0, [], []⟩
theorem ref19_Fold_total {n : Nat} {s : Schema} {l : List Event} (hn : 2 ^ 20 < n) (hs : SmallS s n) (hl : l.length < n) (hb : l.length < 2 ^ 62) (he : ∀ e ∈ l, SmallEv e n) : ∃ r : ref19_Folded, ref19_Fold n (s, l) = some r ∧ FI' n s r := by
  obtain ⟨e0, he0⟩ := ref13_Check_total hs (by omega)
  obtain ⟨nw, hnw, hnwp⟩ : ∃ b : ref19_Booked, ref19_New n s = some b ∧ (b.E = 0 → BI n s b.B) := by
    rw [ref19_New_eq]
    refine bind_total ⟨e0, he0, ?_⟩
    refine bif_total (fun h => some_total fun h2 => ?_) (fun _ => some_total fun _ => ?_)
    · have h3 : e0 = 0 := h2
      rw [h3] at h; simp at h
    · exact ⟨rfl, rfl, by simp, by simp, by simp⟩
  have key : ∀ (k i m : Nat) (f : ref19_Folded) (bk : ref19_Booked), i + k = l.length → k < m → (bk.E = 0 → BI n s bk.B) → ∃ q : (PUnit × ref19_Folded × ref19_Booked) ⊕ (PUnit × ref19_Folded), ref19_Fold_L3 n l m ((i : Int), (f, bk)) = some q ∧ (match q with
      | .inl q => q.2.2.E = 0 → BI n s q.2.2.B
      | .inr q => FI' n s q.2) := by
    intro k
    induction k with
    | zero =>
      intro i m f bk hi hm hbk
      obtain ⟨m, rfl⟩ : ∃ m', m = m' + 1 := ⟨m - 1, by omega⟩
      exact ⟨.inl ((), (f, bk)), by rw [ref19_Fold_L3_s, decide_eq_false (by omega)]; rfl, hbk⟩
    | succ k ih =>
      intro i m f bk hi hm hbk
      obtain ⟨m, rfl⟩ : ∃ m', m = m' + 1 := ⟨m - 1, by omega⟩
      obtain ⟨x, hx, hxm⟩ := idx_some (l := l) (i := i) (by omega)
      rw [ref19_Fold_L3_s, decide_eq_true (by omega), cond_true]
      refine bif_total (fun hz => ?_) (fun _ => some_total hbk)
      have hB := hbk (by simpa using hz)
      obtain ⟨r, h1, h2⟩ := ref19_Apply_total hn hs hB (he x hxm)
      refine bind_total ⟨x, hx, ?_⟩
      refine bind_total ⟨r, h1, ?_⟩
      refine bif_total (fun _ => some_total (.inl hB)) (fun _ => ?_)
      rw [wrap_succ (by omega)]
      exact ih (i + 1) m f r (by omega) (by omega) fun _ => h2
  obtain ⟨q, h1, h2⟩ := key l.length 0 n ⟨⟨noSchema, 0, 0, [], []⟩, 0, 0⟩ nw (by omega) hl hnwp
  rw [ref19_Fold_eq]
  refine bind_total ⟨nw, hnw, ?_⟩
  refine bind_total ⟨q, h1, ?_⟩
  cases q with
  | inl q =>
    refine bif_total (fun _ => some_total (.inr rfl)) (fun hz => some_total (.inl (h2 (by simpa using hz))))
  | inr q => exact some_total h2
end Sh
end
section
open Go Go.Proofs Aq
namespace Sh
theorem sanity_eq (n : Nat) : law21_sanity n (()) = some true := by unfold law21_sanity; rfl
theorem bookOK_of {n : Nat} {s : Schema} {r : ref19_Folded} (h : FI' n s r) : BookOK r.B ∧ r.B.Rows.length ≤ 65536 ∧ ∀ x ∈ r.B.Rows, SmallEn x.Entry n := by
  rcases h with h | h
  · refine ⟨fun x hx h1 => ?_, h.rows, fun x hx => (h.row x hx).2⟩
    rcases (h.row x hx).1 with h0 | ⟨_, h2⟩
    · omega
    · rw [h.commit] at h2
      have hd := h.days
      obtain ⟨k, hk⟩ : ∃ k : Nat, x.Died = ((k + 1 : Nat) : Int) := ⟨(x.Died - 1).toNat, by omega⟩
      obtain ⟨y, hy, _⟩ := idx_some (l := r.B.Days) (i := k) (by omega)
      refine ⟨y, ?_⟩
      rw [hk]
      have : IntKind.wrap .i64 (((k + 1 : Nat) : Int) - (1 : Int)) = ((k : Nat) : Int) := by
        have := wrap_sub (i := k + 1) (by omega) (by omega)
        simpa using this
      rw [this]
      exact hy
  · rw [h]
    refine ⟨fun x (hx : x ∈ ([] : List Row)) _ => absurd hx List.not_mem_nil, Nat.zero_le _, fun x (hx : x ∈ ([] : List Row)) => absurd hx List.not_mem_nil⟩
theorem law21_folded_total {n : Nat} {s : Schema} {l : List Event} (hn : 2 ^ 20 < n) (hs : SmallS s n) (hl : l.length < n) (hb : l.length < 2 ^ 62) (he : ∀ e ∈ l, SmallEv e n) :
    ∃ (b : Book) (ok : Bool), law21_folded n (s, l) = some (b, ok) ∧ (ok = true → BookOK b ∧ b.Rows.length ≤ 65536 ∧ ∀ x ∈ b.Rows, SmallEn x.Entry n) := by
  rw [law21_folded_eq]
  obtain ⟨f, hf⟩ := ref19_Few_total (k := 25) (show SmallE l n from ⟨hl, hb, fun x hx => ⟨(he x hx).2.2.1, (he x hx).2.2.2⟩⟩)
  obtain ⟨d, hd⟩ := ref13_FewDefs_total (k := 6) hs
  obtain ⟨r, hr, hfi⟩ := ref19_Fold_total hn hs hl hb he
  obtain ⟨c, hc⟩ := ref13_Check_total hs (by omega)
  cases f with
  | false =>
    refine ⟨_, _, bs hf (bs (a := false) (by rw [hd]; rfl) rfl), fun h => by cases h⟩
  | true =>
    cases d with
    | false => refine ⟨_, _, bs hf (bs (a := false) (by rw [hd]; rfl) rfl), fun h => by cases h⟩
    | true => exact ⟨_, _, bs hf (bs (a := true) (by rw [hd]; rfl) (bs hr (bs hc rfl))), fun _ => bookOK_of hfi⟩
theorem law21_Floors_true {n : Nat} {s : Schema} {laws : List Law} {l : List Event} (hn : 2 ^ 20 < n) (hs : SmallS s n) (hw : SmallL laws n) (hl : l.length < n) (hb : l.length < 2 ^ 62) (he : ∀ e ∈ l, SmallEv e n) :
    law21_RetainFloorsAsSpecified n (s, (laws, l)) = some true := by
  rw [law21_RetainFloorsAsSpecified_eq]
  obtain ⟨b, ok, hf, hbk⟩ := law21_folded_total hn hs hl hb he
  obtain ⟨w, hfw⟩ := ref21_Few_total hw
  have h1 := retain_Check_spec hw hs.1 hs.2.1
  have h2 := ref21_Check_spec hw hs.1 hs.2.1 (by omega)
  cases ok with
  | false => exact bs hf (bs (a := false) (by rw [hfw]; rfl) (bs (sanity_eq n) rfl))
  | true =>
    cases w with
    | false => exact bs hf (bs (a := false) (by rw [hfw]; rfl) (bs (sanity_eq n) rfl))
    | true =>
      refine bs hf (bs (a := true) (by rw [hfw]; rfl) (bs h1 (bs h2 ?_)))
      obtain ⟨k1, k2, k3⟩ := hbk rfl
      have h3 := retain_Floor_spec (n := n) (H := fun p a => holdsS a p) (laws := laws) k1 (fun r hr x hx => filter_Holds_spec (k3 r hr).2.2.1 (k3 r hr).2.2.2 (hw.2.2 x hx).2.2 (hw.2.2 x hx).2.1) hw.1 hw.2.1 (by omega) (by omega)
      have h4 := ref21_Floor_spec (n := n) (H := fun p a => holdsS a p) (laws := laws) k1 (fun r hr x hx => ref17_Holds_spec (k3 r hr).2.2.1 (k3 r hr).2.2.2 (hw.2.2 x hx).1 (hw.2.2 x hx).2.1) hw.1 hw.2.1 (by omega) (by omega)
      generalize (if laws.length > 32 then (2 : Int) else (lawsE s [] laws).getD 0) = e
      have e0 : (e != e) = false := by simp
      rw [e0]
      refine bs (sanity_eq n) ?_
      show (bif !(e != 0) then _ else _) = _
      cases (e != 0)
      · refine bs h3 (bs h4 ?_)
        show some (_ == _) = _
        simp
      · rfl
end Sh
end
