/- For every code the law FnCombos is true: the combinations of a class and those without dead cards. No conditions. -/
import Derived.Test.YtblfemlheolhoaaEvC
import Derived.Test.YtblfemlheolhoaaQFnCombosx6
import Derived.Test.YtblfemlheolhoaaEv
namespace Go.Proofs.Ytblfemlheolhoaa.Pure
open Go.RowKit Go.Proofs.Ytblfemlheolhoaa.QFnCombos Go.Proofs.YtblfemlheolhoaaW.PrintWords Go.Proofs.YtblfemlheolhoaaW.PrintLast Go.Proofs.YtblfemlheolhoaaW.PrintMore Go.Proofs.Ytblfemlheolhoaa.EvBase
set_option linter.unusedVariables false
set_option linter.unusedSimpArgs false
namespace LFnCombos
theorem l01In_eq (a lo hi : Int) : spec_l01In.f a lo hi = some (inR lo hi a) := by
  unfold spec_l01In.f inR
  by_cases h : a ≥ lo
  · rw [if_pos h]; simp [h]
  · rw [if_neg h]; simp; omega
theorem within_eq (a lo hi : Int) : impl_within.f a lo hi = some (inR lo hi a) := by
  unfold impl_within.f inR
  by_cases h : a ≥ lo
  · rw [if_pos h]; simp [h]
  · rw [if_neg h]; simp; omega
theorem l01Has_l0 : ∀ (s pre : List Int) (c : Int), pre.length + s.length ≤ 1000000000000 →
    Ev (fun k => spec_l01Has.l0 k (pre ++ s) c (pre.length : Int)) (s.contains c)
  | [], pre, c, hl => by
    refine Ev.step (fun k => spec_l01Has.l0.eq_2 _ _ _ k) ?_
    exact ev_neg (by simp) (ev_now (by simp))
  | x :: s, pre, c, hl => by
    have hl' : pre.length + (s.length + 1) ≤ 1000000000000 := hl
    refine Ev.step (fun k => spec_l01Has.l0.eq_2 _ _ _ k) ?_
    refine ev_pos (by simp; omega) (ev_pos (by omega) ?_)
    rw [rd_at]
    by_cases e : x = c
    · exact ev_pos e (ev_now (by simp [e]))
    · refine ev_neg e ?_
      rw [w64 (by omega) (by omega), len_snoc pre x, app_snoc pre s x]
      have h := l01Has_l0 s (pre ++ [x]) c (by simp; omega)
      have e2 : (x :: s).contains c = s.contains c := by simp [List.contains_cons]; omega
      rw [e2]; exact h
theorem l01Has_ev (l : List Int) (c : Int) (hl : l.length ≤ 1000000000000) : Ev (fun k => spec_l01Has.f k l c) (l.contains c) := by
  unfold spec_l01Has.f
  simpa using l01Has_l0 l [] c (by simpa using hl)
theorem slIndex_l0 : ∀ (s pre : List Int) (c : Int), pre.length + s.length ≤ 1000000000000 →
    Ev (fun k => slices_Index_int64_int64.l0 k (pre ++ s) c ((pre ++ s).length : Int) (pre.length : Int)) (if s.contains c = true then ((pre.length + s.idxOf c : Nat) : Int) else -1)
  | [], pre, c, hl => by
    refine Ev.step (fun k => slices_Index_int64_int64.l0.eq_2 _ _ _ _ k) ?_
    exact ev_neg (by simp) (ev_now (by simp))
  | x :: s, pre, c, hl => by
    have hl' : pre.length + (s.length + 1) ≤ 1000000000000 := hl
    refine Ev.step (fun k => slices_Index_int64_int64.l0.eq_2 _ _ _ _ k) ?_
    refine ev_pos (by simp; omega) (ev_pos (by omega) (ev_pos (by simp; omega) ?_))
    rw [rd_at]
    by_cases e : c = x
    · subst e; exact ev_pos rfl (ev_now (by simp [List.idxOf_cons]))
    · refine ev_neg e ?_
      rw [w64 (by omega) (by omega), len_snoc pre x, app_snoc pre s x]
      have h := slIndex_l0 s (pre ++ [x]) c (by simp; omega)
      have e2 : (x :: s).contains c = s.contains c := by simp [List.contains_cons, e]
      have e4 : ¬ x = c := fun h => e h.symm
      have e5 : (x == c) = false := by simp [e4]
      have e3 : (x :: s).idxOf c = s.idxOf c + 1 := by simp [List.idxOf_cons, e5]
      rw [e2, e3, show pre.length + (s.idxOf c + 1) = (pre ++ [x]).length + s.idxOf c by simp; omega]; exact h
theorem slIndex_ev (l : List Int) (c : Int) (hl : l.length ≤ 1000000000000) : Ev (fun k => slices_Index_int64_int64.f k l c) (if l.contains c = true then ((l.idxOf c : Nat) : Int) else -1) := by
  unfold slices_Index_int64_int64.f
  simpa using slIndex_l0 l [] c (by simpa using hl)
theorem slContains_ev (l : List Int) (c : Int) (hl : l.length ≤ 1000000000000) : Ev (fun k => slices_Contains_int64_int64.f k l c) (l.contains c) := by
  unfold slices_Contains_int64_int64.f
  refine Ev.bind (slIndex_ev l c hl) (ev_now ?_)
  by_cases h : l.contains c = true
  · rw [if_pos h, h]; simp
  · rw [if_neg h]; simp only [Bool.not_eq_true] at h; rw [h]; rfl
theorem specCard_eq (x : Int) : spec_l02Card.f x = some (inR 0 51 x) := by unfold spec_l02Card.f; rw [l01In_eq]; rfl
theorem specCards_l0 : ∀ (s pre seen : List Int) (flags : List Bool), pre.length + s.length ≤ 1000000000000 → flags.length = 52 → (∀ c : Nat, c < 52 → rdOf false flags (c : Int) = seen.contains (c : Int)) →
    Ev (fun k => spec_AreCards.l0 k (pre ++ s) flags (pre.length : Int)) (cardsB seen s)
  | [], pre, seen, flags, hl, hf, hs => by
    refine Ev.step (fun k => spec_AreCards.l0.eq_2 _ _ _ k) ?_
    exact ev_neg (by simp) (ev_now rfl)
  | x :: s, pre, seen, flags, hl, hf, hs => by
    have hl' : pre.length + (s.length + 1) ≤ 1000000000000 := hl
    refine Ev.step (fun k => spec_AreCards.l0.eq_2 _ _ _ k) ?_
    refine ev_pos (by simp; omega) (ev_pos (by omega) ?_)
    rw [rd_at]
    refine ev_bindc (specCard_eq x) ?_
    by_cases hx : inR 0 51 x = true
    rotate_left
    · exact ev_neg hx (ev_now (by simp [cardsB, hx]))
    have bx := inR_iff.1 hx
    obtain ⟨c, rfl⟩ := Int.eq_ofNat_of_zero_le bx.1
    refine ev_pos hx (ev_pos (by omega) (ev_pos (by omega) ?_))
    rw [hs c (by omega)]
    by_cases hc : seen.contains (c : Int) = true
    · exact ev_pos hc (ev_now (by rw [cardsB, hx, hc]; rfl))
    refine ev_neg hc ?_
    rw [w64 (by omega) (by omega), len_snoc pre (c : Int), app_snoc pre s]
    have h := specCards_l0 s (pre ++ [(c : Int)]) ((c : Int) :: seen) (flags.set ((c : Int)).toNat true) (by simp; omega) (by simpa using hf) (fun d hd => by
      rw [List.contains_cons, ← hs d hd]
      by_cases e : c = d
      · subst e; simp [rdOf, List.getD_eq_getElem?_getD, hf, hd]
      · have e2 : ¬ (d : Int) = (c : Int) := by omega
        simp [rdOf, List.getD_eq_getElem?_getD, List.getElem?_set, e, e2])
    simp only [Bool.not_eq_true] at hc
    simpa only [cardsB, hx, hc, Bool.not_false, Bool.true_and] using h
theorem specCards_ev (l : List Int) (hl : l.length ≤ 1000000000000) : Ev (fun k => spec_AreCards.f k l) (cardsB [] l) := by
  unfold spec_AreCards.f
  refine ev_pos (by decide) ?_
  simpa using specCards_l0 l [] [] (List.replicate 52 false) (by simpa using hl) (by simp) (fun c _ => rd_rep 52 c)
theorem implCard_eq (x : Int) : impl_isCard.f x = some (inR 0 51 x) := by unfold impl_isCard.f; rw [within_eq]; rfl
theorem implCards_l0 : ∀ (s pre seen : List Int) (b : Nat), pre.length + s.length ≤ 1000000000000 → BitsOf b seen →
    Ev (fun k => impl_AreCards.l0 k (b : Int) (pre ++ s) ((pre ++ s).length : Int) (pre.length : Int)) (cardsB seen s)
  | [], pre, seen, b, hl, hb => by
    refine Ev.step (fun k => impl_AreCards.l0.eq_2 _ _ _ _ k) ?_
    exact ev_neg (by simp) (ev_now rfl)
  | x :: s, pre, seen, b, hl, hb => by
    have hl' : pre.length + (s.length + 1) ≤ 1000000000000 := hl
    refine Ev.step (fun k => impl_AreCards.l0.eq_2 _ _ _ _ k) ?_
    refine ev_pos (by simp; omega) (ev_pos (by omega) (ev_pos (by simp; omega) ?_))
    rw [rd_at]
    refine ev_bindc (implCard_eq x) ?_
    by_cases hx : inR 0 51 x = true
    rotate_left
    · exact ev_neg hx (ev_now (by simp [cardsB, hx]))
    have bx := inR_iff.1 hx
    obtain ⟨c, rfl⟩ := Int.eq_ofNat_of_zero_le bx.1
    refine ev_pos hx (ev_pos (by omega) ?_)
    have hc52 : c < 52 := by omega
    by_cases hc : seen.contains (c : Int) = true
    · refine ev_pos ((bit_and b c hb.1 hc52).2 (by rw [hb.2 c hc52]; exact hc)) (ev_now ?_)
      rw [cardsB, hx, hc]; rfl
    refine ev_neg (fun h => hc (by rw [← hb.2 c hc52]; exact (bit_and b c hb.1 hc52).1 h)) ?_
    rw [bit_or b c hb.1 hc52, w64 (by omega) (by omega), len_snoc pre (c : Int), app_snoc pre s]
    have h := implCards_l0 s (pre ++ [(c : Int)]) ((c : Int) :: seen) (b ||| 2 ^ c) (by simp; omega) (bits_put hb c hc52)
    simp only [Bool.not_eq_true] at hc
    simpa only [cardsB, hx, hc, Bool.not_false, Bool.true_and] using h
theorem implCards_ev (l : List Int) (hl : l.length ≤ 1000000000000) : Ev (fun k => impl_AreCards.f k l) (cardsB [] l) := by
  unfold impl_AreCards.f
  simpa using implCards_l0 l [] [] 0 (by simpa using hl) bits_nil
theorem specClass_eq (a b : Nat) (ha : a < 52) (hb : b < 52) : spec_l07Class.f (a : Int) (b : Int) = some ((clsN a b : Nat) : Int) := by
  unfold spec_l07Class.f clsN
  have e1 := tdiv_nat a 4 (by omega)
  have e2 := tdiv_nat b 4 (by omega)
  have m1 := tmod_nat a 4
  have m2 := tmod_nat b 4
  simp only [Int.cast_ofNat_Int] at e1 e2 m1 m2
  simp only [e1, e2, m1, m2, mx_max, mn_min]
  by_cases h : a % 4 = b % 4
  · rw [if_pos (by omega), if_pos (.inl h), w64 (n := 13 * _) (by omega) (by omega), w64 (by omega) (by omega)]
    congr 1; omega
  rw [if_neg (by omega)]
  by_cases h2 : max (a / 4) (b / 4) = min (a / 4) (b / 4)
  · rw [if_pos (by omega), if_pos (.inr h2), w64 (n := 13 * _) (by omega) (by omega), w64 (by omega) (by omega)]
    congr 1; omega
  · rw [if_neg (by omega), if_neg (by omega), w64 (n := 13 * _) (by omega) (by omega), w64 (by omega) (by omega)]
    congr 1; omega
theorem implClass_eq (a b : Nat) (ha : a < 52) (hb : b < 52) : impl_classOf.f (a : Int) (b : Int) = some ((clsN a b : Nat) : Int) := by
  unfold impl_classOf.f clsN
  have e1 := tdiv_nat a 4 (by omega)
  have e2 := tdiv_nat b 4 (by omega)
  have m1 := tmod_nat a 4
  have m2 := tmod_nat b 4
  simp only [Int.cast_ofNat_Int] at e1 e2 m1 m2
  simp only [e1, e2, m1, m2, mx_max, mn_min]
  by_cases h : a % 4 = b % 4
  · rw [if_pos (by omega), if_pos (.inl h), w64 (n := 13 * _) (by omega) (by omega), w64 (by omega) (by omega)]
    congr 1; omega
  rw [if_neg (by omega)]
  by_cases h2 : max (a / 4) (b / 4) = min (a / 4) (b / 4)
  · rw [if_pos (.inr h2), w64 (n := 13 * _) (by omega) (by omega), w64 (by omega) (by omega)]
    congr 1; omega
  · rw [if_neg (by omega), w64 (n := 13 * _) (by omega) (by omega), w64 (by omega) (by omega)]
    congr 1; omega
theorem specCombos_l1 (c x : Nat) (hx : x < 52) (r : List (List Int)) : ∀ (d y : Nat) (acc : List (List Int)), y + d = 52 → acc.length + d ≤ 1000000 →
    Ev (fun k => spec_l07Combos.l0 k (c : Int) (acc ++ innerS c x d y) ((x + 1 : Nat) : Int)) r → Ev (fun k => spec_l07Combos.l1 k (c : Int) acc (x : Int) (y : Int)) r
  | 0, y, acc, hd, ha, h => by
    refine Ev.step (fun k => spec_l07Combos.l1.eq_2 _ _ _ _ k) (ev_neg (by omega) ?_)
    rw [w64 (by omega) (by omega)]
    simpa [innerS] using h
  | d + 1, y, acc, hd, ha, h => by
    refine Ev.step (fun k => spec_l07Combos.l1.eq_2 _ _ _ _ k) (ev_pos (by omega) (ev_bindc (specClass_eq x y hx (by omega)) ?_))
    have ey : wrap64 ((y : Int) + 1) = ((y + 1 : Nat) : Int) := by rw [w64 (by omega) (by omega)]; simp
    rw [ey]
    by_cases hc : clsN x y = c
    · refine ev_pos (by omega) (ev_pos (by omega) (specCombos_l1 c x hx r d (y + 1) _ (by omega) (by simp; omega) ?_))
      simp only [innerS, if_pos hc] at h
      simpa [pair] using h
    · refine ev_neg (by omega) (specCombos_l1 c x hx r d (y + 1) _ (by omega) (by omega) ?_)
      simpa only [innerS, if_neg hc] using h
theorem innerS_len (c x : Nat) : ∀ d y, (innerS c x d y).length ≤ d
  | 0, y => by simp [innerS]
  | d + 1, y => by
    have := innerS_len c x d (y + 1)
    simp only [innerS]; split
    · simp; omega
    · omega
theorem specCombos_l0 (c : Nat) : ∀ (d x : Nat) (acc : List (List Int)), x + d = 52 → acc.length + 60 * d ≤ 900000 →
    Ev (fun k => spec_l07Combos.l0 k (c : Int) acc (x : Int)) (acc ++ outerS c d x)
  | 0, x, acc, hd, ha => by
    refine Ev.step (fun k => spec_l07Combos.l0.eq_2 _ _ _ k) (ev_neg (by omega) (ev_now (by simp [outerS])))
  | d + 1, x, acc, hd, ha => by
    refine Ev.step (fun k => spec_l07Combos.l0.eq_2 _ _ _ k) (ev_pos (by omega) ?_)
    have ex : wrap64 ((x : Int) + 1) = ((x + 1 : Nat) : Int) := by rw [w64 (by omega) (by omega)]; simp
    rw [ex]
    refine specCombos_l1 c x (by omega) _ (51 - x) (x + 1) acc (by omega) (by omega) ?_
    have := innerS_len c x (51 - x) (x + 1)
    have h := specCombos_l0 c d (x + 1) (acc ++ innerS c x (51 - x) (x + 1)) (by omega) (by simp; omega)
    simpa [outerS] using h
theorem specCombos_ev (c : Nat) : Ev (fun k => spec_l07Combos.f k (c : Int)) (outerS c 52 0) := by
  unfold spec_l07Combos.f
  exact specCombos_l0 c 52 0 [] rfl (by simp)
theorem implCombos_l1 (c lo hi x : Nat) (dead : List Int) (hdl : dead.length ≤ 1000000000) (hhi : hi + 4 ≤ 52) (hx : x < 52) (r : List (List Int)) : ∀ (d y : Nat) (acc : List (List Int)), y + d = hi + 4 → acc.length + d ≤ 1000000 →
    Ev (fun k => impl_combosOf.l0 k (c : Int) dead (lo : Int) (hi : Int) (acc ++ innerI c dead x d y) ((x + 1 : Nat) : Int)) r → Ev (fun k => impl_combosOf.l1 k (c : Int) dead (lo : Int) (hi : Int) acc (x : Int) (y : Int)) r
  | 0, y, acc, hd, ha, h => by
    refine Ev.step (fun k => impl_combosOf.l1.eq_2 _ _ _ _ _ _ _ k) ?_
    rw [w64 (n := (hi : Int) + 4) (by omega) (by omega), w64 (n := (x : Int) + 1) (by omega) (by omega)]
    refine ev_neg (by omega) ?_
    simpa [innerI] using h
  | d + 1, y, acc, hd, ha, h => by
    refine Ev.step (fun k => impl_combosOf.l1.eq_2 _ _ _ _ _ _ _ k) ?_
    have ey : wrap64 ((y : Int) + 1) = ((y + 1 : Nat) : Int) := by rw [w64 (by omega) (by omega)]; simp
    rw [w64 (n := (hi : Int) + 4) (by omega) (by omega), ey]
    refine ev_pos (by omega) ?_
    have skip : ¬ (x < y ∧ clsN x y = c ∧ dead.contains (x : Int) = false ∧ dead.contains (y : Int) = false) → Ev (fun k => impl_combosOf.l1 k (c : Int) dead (lo : Int) (hi : Int) acc (x : Int) ((y + 1 : Nat) : Int)) r := fun hn => by
      refine implCombos_l1 c lo hi x dead hdl hhi hx r d (y + 1) acc (by omega) (by omega) ?_
      simpa only [innerI, if_neg hn] using h
    by_cases h1 : x < y
    rotate_left
    · exact ev_neg (by omega) (skip (fun g => h1 g.1))
    refine ev_pos (by omega) (ev_bindc (implClass_eq x y hx (by omega)) ?_)
    by_cases h2 : clsN x y = c
    rotate_left
    · exact ev_neg (by omega) (skip (fun g => h2 g.2.1))
    refine ev_pos (by omega) (Ev.bind (slContains_ev dead (x : Int) (by omega)) ?_)
    by_cases h3 : dead.contains (x : Int) = true
    · exact ev_pos h3 (skip (fun g => by rw [h3] at g; simp at g))
    refine ev_neg h3 (Ev.bind (slContains_ev dead (y : Int) (by omega)) ?_)
    by_cases h4 : dead.contains (y : Int) = true
    · exact ev_pos h4 (skip (fun g => by rw [h4] at g; simp at g))
    refine ev_neg h4 (ev_pos (by omega) (implCombos_l1 c lo hi x dead hdl hhi hx r d (y + 1) _ (by omega) (by simp; omega) ?_))
    simp only [Bool.not_eq_true] at h3 h4
    simp only [innerI, if_pos (show x < y ∧ clsN x y = c ∧ dead.contains (x : Int) = false ∧ dead.contains (y : Int) = false from ⟨h1, h2, h3, h4⟩)] at h
    simpa [pair] using h
theorem innerI_len (c : Nat) (dead : List Int) (x : Nat) : ∀ d y, (innerI c dead x d y).length ≤ d
  | 0, y => by simp [innerI]
  | d + 1, y => by
    have := innerI_len c dead x d (y + 1)
    simp only [innerI]; split
    · simp; omega
    · omega
theorem implCombos_l0 (c lo hi : Nat) (dead : List Int) (hdl : dead.length ≤ 1000000000) (hhi : hi + 4 ≤ 52) (hlo : lo + 4 ≤ 52) : ∀ (d x : Nat) (acc : List (List Int)), x + d = lo + 4 → acc.length + 60 * d ≤ 900000 →
    Ev (fun k => impl_combosOf.l0 k (c : Int) dead (lo : Int) (hi : Int) acc (x : Int)) (acc ++ outerI c dead hi d x)
  | 0, x, acc, hd, ha => by
    refine Ev.step (fun k => impl_combosOf.l0.eq_2 _ _ _ _ _ _ k) ?_
    rw [w64 (by omega) (by omega)]
    exact ev_neg (by omega) (ev_now (by simp [outerI]))
  | d + 1, x, acc, hd, ha => by
    refine Ev.step (fun k => impl_combosOf.l0.eq_2 _ _ _ _ _ _ k) ?_
    rw [w64 (by omega) (by omega)]
    refine ev_pos (by omega) ?_
    refine implCombos_l1 c lo hi x dead hdl hhi (by omega) _ 4 hi acc rfl (by omega) ?_
    have := innerI_len c dead x 4 hi
    have h := implCombos_l0 c lo hi dead hdl hhi hlo d (x + 1) (acc ++ innerI c dead x 4 hi) (by omega) (by simp; omega)
    simpa [outerI] using h
theorem implCombos_ev (c : Nat) (hc : c < 169) (dead : List Int) (hdl : dead.length ≤ 1000000000) : Ev (fun k => impl_combosOf.f k (c : Int) dead) (combosM c dead) := by
  unfold impl_combosOf.f
  have e1 := tdiv_nat c 13 (by omega)
  have m1 := tmod_nat c 13
  simp only [Int.cast_ofNat_Int] at e1 m1
  have hl : wrap64 (mn ((c / 13 : Nat) : Int) ((c % 13 : Nat) : Int) * 4) = ((lowOf c : Nat) : Int) := by
    rw [mn_min, w64 (by omega) (by omega)]; unfold lowOf; omega
  have hh : wrap64 (mx ((c / 13 : Nat) : Int) ((c % 13 : Nat) : Int) * 4) = ((highOf c : Nat) : Int) := by
    rw [mx_max, w64 (by omega) (by omega)]; unfold highOf; omega
  simp only [e1, m1, hl, hh]
  have h := implCombos_l0 c (lowOf c) (highOf c) dead hdl (by unfold highOf; omega) (by unfold lowOf; omega) 4 (lowOf c) [] rfl (by simp)
  rw [combos_both c hc] at h
  simpa using h
theorem specClassIs_eq (x : Int) : spec_l07Is.f x = some (inR 0 168 x) := by unfold spec_l07Is.f; rw [l01In_eq]; rfl
theorem rdl_at (pre s : List (List Int)) (x : List Int) : rd_L2 (pre ++ x :: s) (pre.length : Int) = x := by
  simp [rd_L2, List.getD_eq_getElem?_getD]
theorem specWithout_l0 (dead : List Int) (hd : dead.length ≤ 1000000000) : ∀ (s pre acc : List (List Int)), (∀ p ∈ s, p.length = 2) → pre.length + s.length ≤ 1000000 → acc.length + s.length ≤ 1000000 →
    Ev (fun k => spec_CombosWithout.l0 k dead (pre ++ s) acc (pre.length : Int)) (acc ++ s.filter (freeOf dead), 0)
  | [], pre, acc, h2, hl, ha => by
    refine Ev.step (fun k => spec_CombosWithout.l0.eq_2 _ _ _ _ k) ?_
    exact ev_neg (by simp) (ev_now (by simp))
  | x :: s, pre, acc, h2, hl, ha => by
    have hl' : pre.length + (s.length + 1) ≤ 1000000 := hl
    have ha' : acc.length + (s.length + 1) ≤ 1000000 := ha
    have hx : x.length = 2 := h2 x (by simp)
    refine Ev.step (fun k => spec_CombosWithout.l0.eq_2 _ _ _ _ k) ?_
    refine ev_pos (by simp; omega) (ev_pos (by omega) ?_)
    rw [rdl_at, w64 (by omega) (by omega), len_snoc pre x, app_snoc pre s x]
    refine ev_pos (by omega) (Ev.bind (l01Has_ev dead _ (by omega)) ?_)
    by_cases h3 : dead.contains (rd x 0) = true
    · refine ev_pos h3 ?_
      have h := specWithout_l0 dead hd s (pre ++ [x]) acc (fun p hp => h2 p (by simp [hp])) (by simp; omega) (by omega)
      have hf : freeOf dead x = false := by unfold freeOf; rw [h3]; rfl
      simpa only [List.filter_cons, hf, Bool.false_eq_true, if_false] using h
    refine ev_neg h3 (ev_pos (by omega) (Ev.bind (l01Has_ev dead _ (by omega)) ?_))
    by_cases h4 : dead.contains (rd x 1) = true
    · refine ev_pos h4 ?_
      have h := specWithout_l0 dead hd s (pre ++ [x]) acc (fun p hp => h2 p (by simp [hp])) (by simp; omega) (by omega)
      have hf : freeOf dead x = false := by unfold freeOf; rw [h4]; simp
      simpa only [List.filter_cons, hf, Bool.false_eq_true, if_false] using h
    refine ev_neg h4 (ev_pos (by omega) ?_)
    have h := specWithout_l0 dead hd s (pre ++ [x]) (acc ++ [x]) (fun p hp => h2 p (by simp [hp])) (by simp; omega) (by simp; omega)
    simp only [Bool.not_eq_true] at h3 h4
    have hf : freeOf dead x = true := by unfold freeOf; rw [h3, h4]; rfl
    simpa only [List.filter_cons, hf, if_true, List.append_assoc, List.singleton_append] using h
theorem innerS_two (c x : Nat) : ∀ d y, ∀ p ∈ innerS c x d y, p.length = 2
  | 0, y => by simp [innerS]
  | d + 1, y => by
    have ih := innerS_two c x d (y + 1)
    simp only [innerS]; split
    · intro p hp
      rcases List.mem_cons.1 hp with rfl | hp
      · rfl
      · exact ih p hp
    · exact ih
theorem outerS_two (c : Nat) : ∀ d x, ∀ p ∈ outerS c d x, p.length = 2
  | 0, x => by simp [outerS]
  | d + 1, x => by
    intro p hp
    simp only [outerS, List.mem_append] at hp
    rcases hp with hp | hp
    · exact innerS_two c x _ _ p hp
    · exact outerS_two c d (x + 1) p hp
def withoutM (c : Int) (dead : List Int) : List (List Int) × Int := if inR 0 168 c then (if cardsB [] dead then (combosM c.toNat dead, 0) else ([], 1)) else ([], 2)
theorem specWithout_ev (c : Int) (dead : List Int) (hd : dead.length ≤ 1000000000) : Ev (fun k => spec_CombosWithout.f k c dead) (withoutM c dead) := by
  unfold spec_CombosWithout.f withoutM
  refine ev_bindc (specClassIs_eq c) ?_
  by_cases h1 : inR 0 168 c = true
  rotate_left
  · rw [if_neg h1]; exact ev_neg h1 (ev_now rfl)
  rw [if_pos h1]
  refine ev_pos h1 (Ev.bind (specCards_ev dead (by omega)) ?_)
  by_cases h2 : cardsB [] dead = true
  rotate_left
  · rw [if_neg h2]; exact ev_neg h2 (ev_now rfl)
  rw [if_pos h2]
  refine ev_pos h2 ?_
  have b1 := inR_iff.1 h1
  obtain ⟨n, rfl⟩ := Int.eq_ofNat_of_zero_le b1.1
  refine Ev.bind (specCombos_ev n) ?_
  have hs : (outerS n 52 0).length ≤ 12 := by rw [combos_size n (by omega)]; exact sizeN_le n
  exact specWithout_l0 dead hd (outerS n 52 0) [] [] (outerS_two n 52 0) (by simp; omega) (by simp; omega)
theorem srcFrom_l0 (code : List Int) (hb : BytesOk code) : ∀ (s pre : List Int) (seed : Int), code = pre ++ s → 0 ≤ seed → seed < 2147483647 →
    ∃ seed', Ev (fun k => spec_l01From.l0 k code (pre.length : Int) code 0 seed) (code, 0, seed') ∧ 0 ≤ seed' ∧ seed' < 2147483647
  | [], pre, seed, hc, h0, h1 => by
    refine ⟨seed, Ev.step (fun k => spec_l01From.l0.eq_2 _ _ _ _ _ k) (ev_neg (by rw [hc]; simp) (ev_now rfl)), h0, h1⟩
  | x :: s, pre, seed, hc, h0, h1 => by
    have hl : code.length = pre.length + (s.length + 1) := by rw [hc]; simp
    have hbl := hb.1
    by_cases h64 : (pre.length : Int) < 64
    · have hx := hb.2 x (by rw [hc]; simp)
      have e : rd code (pre.length : Int) = x := by rw [hc]; exact rd_at _ _ _
      have w : wrap64 (wrap64 (seed * 61) + wrap64 x) = seed * 61 + x := by
        rw [w64 (n := seed * 61) (by omega) (by omega), w64 (n := x) (by omega) (by omega), w64 (by omega) (by omega)]
      have t := tmod_range (y := seed * 61 + x) (n := 2147483647) (by omega) (by omega)
      obtain ⟨seed', h, hs⟩ := srcFrom_l0 code hb s (pre ++ [x]) (Int.tmod (seed * 61 + x) 2147483647) (by rw [hc]; simp) t.1 t.2
      refine ⟨seed', Ev.step (fun k => spec_l01From.l0.eq_2 _ _ _ _ _ k) (ev_pos (by omega) (ev_pos h64 (ev_pos (by omega) ?_))), hs⟩
      rw [e, w, w64 (by omega) (by omega), len_snoc pre x]
      exact h
    · exact ⟨seed, Ev.step (fun k => spec_l01From.l0.eq_2 _ _ _ _ _ k) (ev_pos (by omega) (ev_neg h64 (ev_now rfl))), h0, h1⟩
theorem srcFrom_ok (code : List Int) (hb : BytesOk code) : ∃ seed, Ev (fun k => spec_l01From.f k code) (code, 0, seed) ∧ SrcOk code 0 seed := by
  unfold spec_l01From.f
  obtain ⟨seed, h, h0, h1⟩ := srcFrom_l0 code hb code [] 45007 rfl (by decide) (by decide)
  exact ⟨seed, h, Int.le_refl 0, by omega, h0, h1⟩
theorem next_ok {code : List Int} {p seed : Int} (hb : BytesOk code) (h : SrcOk code p seed) (n : Int) :
    ∃ x p' seed', spec_l01Next.f code p seed n = some (x, p', seed') ∧ SrcOk code p' seed' ∧ 0 ≤ x ∧ (1 ≤ n → x < n) := by
  obtain ⟨hp0, hp1, hs0, hs1⟩ := h
  have hbl := hb.1
  unfold spec_l01Next.f
  by_cases h1 : n ≤ 1
  · exact ⟨0, p, seed, by rw [if_pos h1], ⟨hp0, hp1, hs0, hs1⟩, Int.le_refl 0, fun _ => by omega⟩
  rw [if_neg h1]
  have w : wrap64 (wrap64 (seed * 48271) + 29) = seed * 48271 + 29 := by rw [w64 (n := seed * 48271) (by omega) (by omega), w64 (by omega) (by omega)]
  have hS := tmod_range (y := seed * 48271 + 29) (n := 2147483647) (by omega) (by omega)
  rw [w]
  generalize Int.tmod (seed * 48271 + 29) 2147483647 = S at hS ⊢
  have d31 : wrap64 (Int.tdiv S 31) = S / 31 := by rw [Int.tdiv_eq_ediv_of_nonneg hS.1]; exact w64 (by omega) (by omega)
  rw [d31]
  by_cases h2 : p < (code.length : Int)
  · have hr := hb.2 _ (rd_mem hp0 h2)
    have e1 : wrap64 (p + 1) = p + 1 := w64 (by omega) (by omega)
    have e2 : wrap64 (p + 1 - 1) = p := by rw [w64 (by omega) (by omega)]; omega
    rw [if_pos h2, if_pos hp0, e1, e2]
    generalize rd code p = c at hr ⊢
    have ec : wrap64 c = c := w64 (by omega) (by omega)
    rw [ec]
    have ed : wrap64 (S / 31 + c) = S / 31 + c := w64 (by omega) (by omega)
    rw [ed]
    have t1 := tmod_range (y := c) (n := n) hr.1 (by omega)
    have t2 := tmod_range (y := S / 31 + c) (n := n) (by omega) (by omega)
    have hok : SrcOk code (p + 1) S := ⟨by omega, by omega, hS.1, hS.2⟩
    by_cases h3 : n ≤ 256
    · rw [if_pos h3]
      by_cases h4 : Int.tmod (p + 1) 2 = 0
      · rw [if_pos h4, if_pos hp0, if_pos h2, if_neg (by omega)]
        exact ⟨_, _, _, rfl, hok, t1.1, fun _ => t1.2⟩
      · rw [if_neg h4, if_neg (by omega)]
        exact ⟨_, _, _, rfl, hok, t2.1, fun _ => t2.2⟩
    · rw [if_neg h3, if_neg (by omega)]
      exact ⟨_, _, _, rfl, hok, t2.1, fun _ => t2.2⟩
  · have ew : wrap64 (S / 31) = S / 31 := w64 (by omega) (by omega)
    have t2 := tmod_range (y := S / 31) (n := n) (by omega) (by omega)
    rw [if_neg h2, if_neg (by omega)]
    exact ⟨_, _, _, rfl, ⟨hp0, hp1, hS.1, hS.2⟩, t2.1, fun _ => t2.2⟩
theorem pick_ok {code : List Int} {p seed : Int} (hb : BytesOk code) (h : SrcOk code p seed) (l : List Int) (hl : 1 ≤ l.length) :
    ∃ x p' seed', spec_l01Pick.f code p seed l = some (x, p', seed') ∧ SrcOk code p' seed' ∧ x ∈ l := by
  obtain ⟨x, p', s', e, hok, hx0, hx1⟩ := next_ok hb h (l.length : Int)
  unfold spec_l01Pick.f
  rw [e]
  have hlt := hx1 (by omega)
  simp only [Option.bind_some, if_pos hx0, if_pos hlt]
  exact ⟨_, _, _, rfl, hok, rd_mem hx0 hlt⟩
theorem others_l0 (l : List Int) (hl : l.length ≤ 1000000) : ∀ (d c : Nat) (acc : List Int), c + d = 52 → acc.length + d ≤ 60 → ∃ r, Ev (fun k => spec_l02Others.l0 k l acc (c : Int)) r ∧ r.length ≤ acc.length + d
  | 0, c, acc, hc, ha => ⟨acc, Ev.step (fun k => spec_l02Others.l0.eq_2 _ _ _ k) (ev_neg (by omega) (ev_now rfl)), by omega⟩
  | d + 1, c, acc, hc, ha => by
    have ec : wrap64 ((c : Int) + 1) = ((c + 1 : Nat) : Int) := by rw [w64 (by omega) (by omega)]; simp
    by_cases h : l.contains (c : Int) = true
    · obtain ⟨r, hr, hlen⟩ := others_l0 l hl d (c + 1) acc (by omega) (by omega)
      refine ⟨r, Ev.step (fun k => spec_l02Others.l0.eq_2 _ _ _ k) (ev_pos (by omega) (Ev.bind (l01Has_ev l _ (by omega)) (ev_pos h ?_))), by omega⟩
      rw [ec]; exact hr
    · obtain ⟨r, hr, hlen⟩ := others_l0 l hl d (c + 1) (acc ++ [(c : Int)]) (by omega) (by simp; omega)
      refine ⟨r, Ev.step (fun k => spec_l02Others.l0.eq_2 _ _ _ k) (ev_pos (by omega) (Ev.bind (l01Has_ev l _ (by omega)) (ev_neg h (ev_pos (by omega) ?_)))), by simp at hlen; omega⟩
      rw [ec]; exact hr
theorem others_ok (l : List Int) (hl : l.length ≤ 1000000) : ∃ r, Ev (fun k => spec_l02Others.f k l) r ∧ r.length ≤ 52 := by
  unfold spec_l02Others.f
  obtain ⟨r, h, hlen⟩ := others_l0 l hl 52 0 [] rfl (by simp)
  exact ⟨r, h, by simpa using hlen⟩
theorem deal_l0 {code : List Int} (hb : BytesOk code) : ∀ (d : Nat) (n : Int) (rest out : List Int) (p seed : Int), SrcOk code p seed → rest.length ≤ d → out.length + d ≤ 100 → n ≤ 1000 →
    ∃ r p' seed', Ev (fun k => spec_l02Deal.l0 k n rest out code p seed) (r, p', seed') ∧ SrcOk code p' seed' ∧ r.length ≤ out.length + d ∧ (n ≤ 0 → r.length = out.length) := by
  intro d
  induction d with
  | zero =>
    intro n rest out p seed h hr ho hn
    refine ⟨out, p, seed, Ev.step (fun k => spec_l02Deal.l0.eq_2 _ _ _ _ _ _ k) ?_, h, by omega, fun _ => rfl⟩
    by_cases h1 : n > 0
    · exact ev_pos h1 (ev_neg (by omega) (ev_now rfl))
    · exact ev_neg h1 (ev_now rfl)
  | succ d ih =>
    intro n rest out p seed h hr ho hn
    by_cases h1 : n > 0
    rotate_left
    · exact ⟨out, p, seed, Ev.step (fun k => spec_l02Deal.l0.eq_2 _ _ _ _ _ _ k) (ev_neg h1 (ev_now rfl)), h, by omega, fun _ => rfl⟩
    by_cases h2 : (rest.length : Int) > 0
    rotate_left
    · exact ⟨out, p, seed, Ev.step (fun k => spec_l02Deal.l0.eq_2 _ _ _ _ _ _ k) (ev_pos h1 (ev_neg h2 (ev_now rfl))), h, by omega, fun _ => rfl⟩
    obtain ⟨x, p1, s1, e, hok, hx0, hx1⟩ := next_ok hb h (rest.length : Int)
    have hlt := hx1 (by omega)
    have e1 : wrap64 (x + 1) = x + 1 := w64 (by omega) (by omega)
    have e2 : wrap64 (n - 1) = n - 1 := w64 (by omega) (by omega)
    have l1 : ([] ++ rest.take x.toNat ++ rest.drop (x + 1).toNat : List Int).length ≤ d := by simp; omega
    obtain ⟨r, p2, s2, hr2, hok2, hlen, _⟩ := ih (n - 1) ([] ++ rest.take x.toNat ++ rest.drop (x + 1).toNat) (out ++ [rd rest x]) p1 s1 hok l1 (by simp; omega) (by omega)
    refine ⟨r, p2, s2, Ev.step (fun k => spec_l02Deal.l0.eq_2 _ _ _ _ _ _ k) (ev_pos h1 (ev_pos h2 (ev_bindc e ?_))), hok2, by simp at hlen; omega, fun g => by omega⟩
    simp only [e1, e2]
    refine ev_pos hx0 (ev_pos hlt (ev_pos (by omega) (ev_bindc rfl (ev_pos (by omega) (ev_bindc rfl (ev_pos (by simp; omega) (ev_bindc rfl (ev_pos (by omega) (ev_pos (by omega) (ev_bindc rfl (ev_pos (by simp; omega) ?_)))))))))))
    exact hr2
theorem deal_ok {code : List Int} {p seed : Int} (hb : BytesOk code) (h : SrcOk code p seed) (n : Int) (hn : n ≤ 1000) (l : List Int) (hl : l.length ≤ 1000000) :
    ∃ r p' seed', Ev (fun k => spec_l02Deal.f k code p seed n l) (r, p', seed') ∧ SrcOk code p' seed' ∧ r.length ≤ 52 := by
  unfold spec_l02Deal.f
  obtain ⟨rest, hr, hlen⟩ := others_ok l hl
  obtain ⟨r, p', s', h2, hok, hl2, _⟩ := deal_l0 hb 52 n rest [] p seed h hlen (by simp) hn
  exact ⟨r, p', s', Ev.bind hr h2, hok, by simpa using hl2⟩
theorem drawList_ok {code : List Int} {p seed : Int} (hb : BytesOk code) (h : SrcOk code p seed) (most : Int) (h0 : 0 ≤ most) (hm : most ≤ 100) :
    ∃ r p' seed', Ev (fun k => spec_l02DrawList.f k code p seed most) (r, p', seed') ∧ SrcOk code p' seed' ∧ r.length ≤ 53 := by
  unfold spec_l02DrawList.f
  rw [w64 (by omega) (by omega)]
  obtain ⟨x, p1, s1, e1, ok1, hx0, hx1⟩ := next_ok hb h (most + 1)
  have := hx1 (by omega)
  obtain ⟨r, p2, s2, e2, ok2, hl2⟩ := deal_ok hb ok1 x (by omega) [] (by simp)
  obtain ⟨y, p3, s3, e3, ok3, hy0, hy1⟩ := next_ok hb ok2 24
  by_cases c0 : y = 0
  · obtain ⟨z, p4, s4, e4, ok4, _⟩ := pick_ok hb ok3 [(-1), 52] (by simp)
    exact ⟨r ++ [z], p4, s4, ev_bindc e1 (Ev.bind e2 (ev_bindc e3 (ev_pos c0 (ev_bindc e4 (ev_pos (by simp only; omega) (ev_now rfl)))))), ok4, by simp; omega⟩
  by_cases c1 : y = 1
  · by_cases c2 : (r.length : Int) > 0
    · exact ⟨r ++ [rd r 0], p3, s3, ev_bindc e1 (Ev.bind e2 (ev_bindc e3 (ev_neg c0 (ev_pos c1 (ev_pos c2 (ev_pos (by simp only; omega) (ev_pos (by simp only; omega) (ev_now rfl)))))))), ok3, by simp; omega⟩
    · exact ⟨r, p3, s3, ev_bindc e1 (Ev.bind e2 (ev_bindc e3 (ev_neg c0 (ev_pos c1 (ev_neg c2 (ev_now rfl)))))), ok3, by omega⟩
  by_cases c2 : y = 2
  · obtain ⟨r4, p4, s4, e4, ok4, hl4⟩ := deal_ok hb ok3 52 (by omega) [] (by simp)
    exact ⟨r4, p4, s4, ev_bindc e1 (Ev.bind e2 (ev_bindc e3 (ev_neg c0 (ev_neg c1 (ev_pos c2 (Ev.bind e4 (ev_now rfl))))))), ok4, by omega⟩
  · exact ⟨r, p3, s3, ev_bindc e1 (Ev.bind e2 (ev_bindc e3 (ev_neg c0 (ev_neg c1 (ev_neg c2 (ev_now rfl)))))), ok3, by omega⟩
theorem drawClass_ok {code : List Int} {p seed : Int} (hb : BytesOk code) (h : SrcOk code p seed) : ∃ x p' seed', spec_l07DrawClass.f code p seed = some (x, p', seed') ∧ SrcOk code p' seed' := by
  unfold spec_l07DrawClass.f
  obtain ⟨x, p1, s1, e1, ok1, _, _⟩ := next_ok hb h 12
  rw [e1]
  by_cases c0 : x = 0
  · obtain ⟨z, p4, s4, e4, ok4, _⟩ := pick_ok hb ok1 [(-1), 0, 168, 169] (by simp)
    simp only [Option.bind_some, if_pos c0, e4]
    exact ⟨_, _, _, rfl, ok4⟩
  · obtain ⟨z, p4, s4, e4, ok4, _, _⟩ := next_ok hb ok1 169
    simp only [Option.bind_some, if_neg c0, e4]
    exact ⟨_, _, _, rfl, ok4⟩
theorem likeInts_l0 : ∀ (s pre : List Int), pre.length + s.length ≤ 1000000000000 →
    Ev (fun k => laws_likeInts.l0 k (pre ++ s) (pre ++ s) (pre.length : Int)) true
  | [], pre, hl => by
    refine Ev.step (fun k => laws_likeInts.l0.eq_2 _ _ _ k) ?_
    exact ev_neg (by simp) (ev_now rfl)
  | x :: s, pre, hl => by
    have hl' : pre.length + (s.length + 1) ≤ 1000000000000 := hl
    refine Ev.step (fun k => laws_likeInts.l0.eq_2 _ _ _ k) ?_
    refine ev_pos (by simp; omega) (ev_pos (by omega) (ev_pos (by simp; omega) (ev_pos rfl ?_)))
    rw [w64 (by omega) (by omega), len_snoc pre x, app_snoc pre s x]
    exact likeInts_l0 s (pre ++ [x]) (by simp; omega)
theorem likeInts_ev {a b : List Int} (e : a = b) (hl : a.length ≤ 1000000000000) : Ev (fun k => laws_likeInts.f k a b) true := by
  subst e
  unfold laws_likeInts.f
  exact ev_pos rfl (likeInts_l0 a [] (by simpa using hl))
theorem rdl_at2 (pre s : List (List Int)) (x : List Int) : rd_L2 (pre ++ x :: s) (pre.length : Int) = x := by
  simp [rd_L2, List.getD_eq_getElem?_getD]
theorem likeLists_l0 : ∀ (s pre : List (List Int)), pre.length + s.length ≤ 1000000000 → (∀ p ∈ s, p.length ≤ 1000000000) →
    Ev (fun k => laws_likeLists.l0 k (pre ++ s) (pre ++ s) (pre.length : Int)) true
  | [], pre, hl, hp => by
    refine Ev.step (fun k => laws_likeLists.l0.eq_2 _ _ _ k) ?_
    exact ev_neg (by simp) (ev_now rfl)
  | x :: s, pre, hl, hp => by
    have hl' : pre.length + (s.length + 1) ≤ 1000000000 := hl
    have hx := hp x (by simp)
    refine Ev.step (fun k => laws_likeLists.l0.eq_2 _ _ _ k) ?_
    refine ev_pos (by simp; omega) (ev_pos (by omega) (ev_pos (by simp; omega) ?_))
    rw [rdl_at2]
    refine Ev.bind (likeInts_ev rfl (by omega)) (ev_pos rfl ?_)
    rw [w64 (by omega) (by omega), len_snoc pre x, app_snoc pre s x]
    exact likeLists_l0 s (pre ++ [x]) (by simp; omega) (fun p h => hp p (by simp [h]))
theorem likeLists_ev {a b : List (List Int)} (e : a = b) (hl : a.length ≤ 1000000000) (hp : ∀ p ∈ a, p.length ≤ 1000000000) : Ev (fun k => laws_likeLists.f k a b) true := by
  subst e
  unfold laws_likeLists.f
  exact ev_pos rfl (likeLists_l0 a [] (by simpa using hl) hp)
theorem hasInt_l0 : ∀ (s pre : List Int) (c : Int), pre.length + s.length ≤ 1000000000000 →
    Ev (fun k => laws_hasInt.l0 k (pre ++ s) c (pre.length : Int)) (s.contains c)
  | [], pre, c, hl => by
    refine Ev.step (fun k => laws_hasInt.l0.eq_2 _ _ _ k) ?_
    exact ev_neg (by simp) (ev_now (by simp))
  | x :: s, pre, c, hl => by
    have hl' : pre.length + (s.length + 1) ≤ 1000000000000 := hl
    refine Ev.step (fun k => laws_hasInt.l0.eq_2 _ _ _ k) ?_
    refine ev_pos (by simp; omega) (ev_pos (by omega) ?_)
    rw [rd_at]
    by_cases e : x = c
    · exact ev_pos e (ev_now (by simp [e]))
    · refine ev_neg e ?_
      rw [w64 (by omega) (by omega), len_snoc pre x, app_snoc pre s x]
      have h := hasInt_l0 s (pre ++ [x]) c (by simp; omega)
      have e2 : (x :: s).contains c = s.contains c := by simp [List.contains_cons]; omega
      rw [e2]; exact h
theorem hasInt_ev (l : List Int) (c : Int) (hl : l.length ≤ 1000000000000) : Ev (fun k => laws_hasInt.f k l c) (l.contains c) := by
  unfold laws_hasInt.f
  simpa using hasInt_l0 l [] c (by simpa using hl)
theorem implClassIs_eq (x : Int) : impl_isClass.f x = some (inR 0 168 x) := by unfold impl_isClass.f; rw [within_eq]; rfl
theorem implWithout_ev (c : Int) (dead : List Int) (hd : dead.length ≤ 1000000000) : Ev (fun k => impl_CombosWithout.f k c dead) (withoutM c dead) := by
  unfold impl_CombosWithout.f withoutM
  refine ev_bindc (implClassIs_eq c) ?_
  by_cases h1 : inR 0 168 c = true
  rotate_left
  · rw [if_neg h1]; exact ev_neg h1 (ev_now rfl)
  rw [if_pos h1]
  refine ev_pos h1 (Ev.bind (implCards_ev dead (by omega)) ?_)
  by_cases h2 : cardsB [] dead = true
  rotate_left
  · rw [if_neg h2]; exact ev_neg h2 (ev_now rfl)
  rw [if_pos h2]
  have b1 := inR_iff.1 h1
  obtain ⟨n, rfl⟩ := Int.eq_ofNat_of_zero_le b1.1
  exact ev_pos h2 (Ev.bind (implCombos_ev n (by omega) dead hd) (ev_now rfl))
theorem specCombosOf_ev (c : Int) : Ev (fun k => spec_CombosOf.f k c) (combosOfM c) := by
  unfold spec_CombosOf.f combosOfM
  refine ev_bindc (by unfold spec_l07Is.f; rw [l01In_eq]; rfl) ?_
  by_cases h1 : inR 0 168 c = true
  rotate_left
  · rw [if_neg h1]; exact ev_neg h1 (ev_now rfl)
  rw [if_pos h1]
  have b1 := inR_iff.1 h1
  obtain ⟨n, rfl⟩ := Int.eq_ofNat_of_zero_le b1.1
  exact ev_pos h1 (Ev.bind (specCombos_ev n) (ev_now rfl))
theorem implCombosOf_ev (c : Int) : Ev (fun k => impl_CombosOf.f k c) (combosOfM c) := by
  unfold impl_CombosOf.f combosOfM
  refine ev_bindc (implClassIs_eq c) ?_
  by_cases h1 : inR 0 168 c = true
  rotate_left
  · rw [if_neg h1]; exact ev_neg h1 (ev_now rfl)
  rw [if_pos h1]
  have b1 := inR_iff.1 h1
  obtain ⟨n, rfl⟩ := Int.eq_ofNat_of_zero_le b1.1
  have h := implCombos_ev n (by omega) [] (by simp)
  rw [combos_nil] at h
  exact ev_pos h1 (Ev.bind h (ev_now rfl))
theorem likeIntsG_l0 : ∀ (s t pre1 pre2 : List Int), pre1.length = pre2.length → s.length = t.length → pre1.length + s.length ≤ 1000000000000 →
    Ev (fun k => laws_likeInts.l0 k (pre1 ++ s) (pre2 ++ t) (pre1.length : Int)) (decide (s = t))
  | [], [], pre1, pre2, h1, h2, hl => by
    refine Ev.step (fun k => laws_likeInts.l0.eq_2 _ _ _ k) ?_
    exact ev_neg (by simp) (ev_now (by simp))
  | x :: s, y :: t, pre1, pre2, h1, h2, hl => by
    have hl' : pre1.length + (s.length + 1) ≤ 1000000000000 := hl
    have h2' : s.length = t.length := by simpa using h2
    refine Ev.step (fun k => laws_likeInts.l0.eq_2 _ _ _ k) ?_
    refine ev_pos (by simp; omega) (ev_pos (by omega) (ev_pos (by simp; omega) ?_))
    have e2 : rd (pre2 ++ y :: t) (pre1.length : Int) = y := by rw [h1]; exact rd_at _ _ _
    rw [rd_at, e2]
    by_cases e : x = y
    · subst e
      refine ev_pos rfl ?_
      rw [w64 (by omega) (by omega), len_snoc pre1 x, app_snoc pre1 s x, app_snoc pre2 t x]
      have h := likeIntsG_l0 s t (pre1 ++ [x]) (pre2 ++ [x]) (by simp [h1]) h2' (by simp; omega)
      simpa using h
    · exact ev_neg e (ev_now (by simp [e]))
  | [], y :: t, pre1, pre2, h1, h2, hl => by simp at h2
  | x :: s, [], pre1, pre2, h1, h2, hl => by simp at h2
theorem likeIntsG_ev (a b : List Int) (hl : a.length ≤ 1000000000000) : Ev (fun k => laws_likeInts.f k a b) (decide (a = b)) := by
  unfold laws_likeInts.f
  by_cases h : (a.length : Int) = (b.length : Int)
  · exact ev_pos h (likeIntsG_l0 a b [] [] rfl (by omega) (by simpa using hl))
  · refine ev_neg h (ev_now ?_)
    symm
    rw [decide_eq_false_iff_not]
    intro e; subst e; exact h rfl
theorem suited_both (c : Int) : ∃ r : Bool × Bool × Int, impl_IsSuited.f c = some r ∧ spec_IsSuited.f c = some r ∧ (inR 0 168 c = true → r = (decide (wrap64 (Int.tdiv c 13) > Int.tmod c 13), (wrap64 (Int.tdiv c 13) == Int.tmod c 13), 0)) := by
  unfold impl_IsSuited.f spec_IsSuited.f spec_l07Is.f impl_isClass.f
  rw [l01In_eq, within_eq]
  simp only [Option.bind_some]
  by_cases h : inR 0 168 c = true
  · simp only [if_pos h]; exact ⟨_, rfl, rfl, fun _ => rfl⟩
  · simp only [if_neg h]; exact ⟨_, rfl, rfl, fun g => absurd g h⟩
theorem drawWithout_ok (code : List Int) (hb : BytesOk code) : ∃ c dead, Ev (fun k => spec_DrawCombosWithout.f k code) (c, dead) ∧ dead.length ≤ 53 := by
  unfold spec_DrawCombosWithout.f
  obtain ⟨s, e, ok⟩ := srcFrom_ok code hb
  obtain ⟨c, p1, s1, e1, ok1⟩ := drawClass_ok hb ok
  obtain ⟨d, p2, s2, e2, ok2, hl⟩ := drawList_ok hb ok1 9 (by decide) (by decide)
  exact ⟨c, d, Ev.bind e (ev_bindc e1 (Ev.bind e2 (ev_now rfl))), hl⟩
theorem drawOf_ok (code : List Int) (hb : BytesOk code) : ∃ c, Ev (fun k => spec_DrawCombosOf.f k code) c := by
  unfold spec_DrawCombosOf.f
  obtain ⟨s, e, ok⟩ := srcFrom_ok code hb
  obtain ⟨c, p1, s1, e1, ok1⟩ := drawClass_ok hb ok
  exact ⟨c, Ev.bind e (ev_bindc e1 (ev_now rfl))⟩
theorem loop_ok (c : Nat) (hc : c < 169) (dead : List Int) (hd : dead.length ≤ 1000000) (L : List (List Int)) (hL : L = combosM c dead) : ∀ (s pre : List (List Int)), L = pre ++ s →
    Ev (fun k => laws_FnCombos.l0 k (c : Int) dead (pre ++ s) (pre.length : Int)) true
  | [], pre, e => by
    refine Ev.step (fun k => laws_FnCombos.l0.eq_2 _ _ _ _ k) (ev_neg (by simp) (Ev.bind (implCombosOf_ev (c : Int)) ?_))
    have h : inR 0 168 (c : Int) = true := inR_iff.2 ⟨by omega, by omega⟩
    unfold combosOfM
    rw [if_pos h]
    refine ev_pos rfl (ev_now ?_)
    have hle : pre.length ≤ (outerS c 52 0).length := by
      have e1 : L = pre := by simpa using e
      rw [← e1, hL]; exact List.length_filter_le _ _
    simpa using hle
  | x :: s, pre, e => by
    have hx : x ∈ combosM c dead := by rw [← hL, e]; simp
    have h2 := combosM_pairs c dead x hx
    have hf := combosM_free c dead x hx
    have hlen := combosM_len hc dead
    have hl : pre.length + (s.length + 1) ≤ 12 := by
      have : L.length ≤ 12 := by rw [hL]; exact hlen
      rw [e] at this; simpa using this
    unfold freeOf at hf
    simp only [Bool.and_eq_true, Bool.not_eq_true'] at hf
    refine Ev.step (fun k => laws_FnCombos.l0.eq_2 _ _ _ _ k) ?_
    refine ev_pos (by simp; omega) (ev_pos (by omega) ?_)
    rw [rdl_at2]
    refine ev_pos (by omega) (Ev.bind (hasInt_ev dead _ (by omega)) (ev_neg (by rw [hf.1]; decide) (ev_pos (by omega) (Ev.bind (hasInt_ev dead _ (by omega)) (ev_neg (by rw [hf.2]; decide) ?_)))))
    rw [w64 (by omega) (by omega), len_snoc pre x, app_snoc pre s x]
    exact loop_ok c hc dead hd L hL s (pre ++ [x]) (by rw [e]; simp)
theorem j2_ok (c : Int) (dead : List Int) (hd : dead.length ≤ 1000000) : Ev (fun k => laws_FnCombos.j2 k c dead (withoutM c dead).1 (withoutM c dead).2) true := by
  refine Ev.step (fun k => laws_FnCombos.j2.eq_2 _ _ _ _ k) ?_
  unfold withoutM
  by_cases h1 : inR 0 168 c = true
  rotate_left
  · simp only [if_neg h1]; exact ev_neg (by decide) (ev_now rfl)
  by_cases h2 : cardsB [] dead = true
  rotate_left
  · simp only [if_pos h1, if_neg h2]; exact ev_neg (by decide) (ev_now rfl)
  simp only [if_pos h1, if_pos h2]
  have b1 := inR_iff.1 h1
  obtain ⟨n, rfl⟩ := Int.eq_ofNat_of_zero_le b1.1
  exact ev_pos trivial (loop_ok n (by omega) dead hd _ rfl (combosM n dead) [] rfl)
end LFnCombos
open LFnCombos
theorem FnCombos : laws_FnCombos.Pure := by
  intro code _ _ hw
  refine Ev.rounds (g := fun k => laws_FnCombos.f k code) ?_
  unfold laws_FnCombos.f
  refine ev_bindc rfl ?_
  by_cases hbig : (code.length : Int) > 4096
  · exact ev_pos (by simpa using hbig) (ev_now rfl)
  refine ev_neg (by simpa using hbig) ?_
  have hb : BytesOk code := ⟨by omega, fun x hx => byte_wf (hw x hx)⟩
  obtain ⟨c, dead, e1, hd⟩ := drawWithout_ok code hb
  obtain ⟨q, e2⟩ := drawOf_ok code hb
  obtain ⟨r, e3, e4, hr⟩ := suited_both q
  refine Ev.bind e1 (Ev.bind (implWithout_ev c dead (by omega)) (Ev.bind (specWithout_ev c dead (by omega)) (Ev.bind e2 (Ev.bind (implCombosOf_ev q) (Ev.bind (specCombosOf_ev q) (ev_bindc e3 (ev_bindc e4 ?_)))))))
  have wl : (withoutM c dead).1.length ≤ 12 ∧ ∀ p ∈ (withoutM c dead).1, p.length ≤ 1000000000 := by
    unfold withoutM
    by_cases h1 : inR 0 168 c = true
    rotate_left
    · simp [if_neg h1]
    by_cases h2 : cardsB [] dead = true
    rotate_left
    · simp [if_pos h1, if_neg h2]
    simp only [if_pos h1, if_pos h2]
    have b1 := inR_iff.1 h1
    exact ⟨combosM_len (by omega) dead, fun p hp => by rw [combosM_pairs _ _ p hp]; decide⟩
  have cl := combosOfM_len q
  refine ev_pos rfl (Ev.bind (likeLists_ev rfl (by omega) wl.2) (ev_pos rfl (ev_pos rfl (Ev.bind (likeLists_ev rfl (by omega) (fun p hp => by rw [combosOfM_pairs q p hp]; decide)) (ev_pos rfl (ev_pos rfl (ev_neg (by simp) ?_)))))))
  refine Ev.step (fun k => laws_FnCombos.j0.eq_2 _ _ _ _ _ _ _ _ _ k) (ev_neg (by simp) ?_)
  have fin := j2_ok c dead (by omega)
  by_cases hq : inR 0 168 q = true
  rotate_left
  · have : (combosOfM q).2 = 2 := by unfold combosOfM; rw [if_neg hq]
    exact ev_neg (by rw [this]; decide) fin
  have hq2 : combosOfM q = (outerS q.toNat 52 0, 0) := by unfold combosOfM; rw [if_pos hq]
  have b1 := inR_iff.1 hq
  obtain ⟨n, rfl⟩ := Int.eq_ofNat_of_zero_le b1.1
  have hsz := combos_size n (by omega)
  have e1 := tdiv_nat n 13 (by omega)
  have m1 := tmod_nat n 13
  simp only [Int.cast_ofNat_Int] at e1 m1
  rw [e1, m1] at hr
  obtain rfl := hr hq
  rw [hq2]
  refine ev_pos rfl ?_
  have lenE : ((outerS ((n : Int)).toNat 52 0).length : Int) = (sizeN n : Nat) := by rw [Int.toNat_natCast, hsz]
  by_cases hp : n / 13 = n % 13
  · have hs6 : sizeN n = 6 := by unfold sizeN; rw [if_pos hp]
    refine ev_pos (by simp; omega) (Ev.step (fun k => laws_FnCombos.j1.eq_2 _ _ _ _ _ _ _ k) (ev_neg (by simp; omega) (ev_pos ?_ fin)))
    show ((outerS ((n : Int)).toNat 52 0).length : Int) = 6
    rw [lenE, hs6]; rfl
  · refine ev_neg (by simp; omega) (Ev.step (fun k => laws_FnCombos.j1.eq_2 _ _ _ _ _ _ _ k) ?_)
    by_cases hg : n / 13 > n % 13
    · have hs4 : sizeN n = 4 := by unfold sizeN; rw [if_neg hp, if_pos hg]
      refine ev_pos (by simp; omega) (ev_pos ?_ fin)
      show ((outerS ((n : Int)).toNat 52 0).length : Int) = 4
      rw [lenE, hs4]; rfl
    · have hs12 : sizeN n = 12 := by unfold sizeN; rw [if_neg hp, if_neg hg]
      refine ev_neg (by simp; omega) (ev_pos ?_ fin)
      show ((outerS ((n : Int)).toNat 52 0).length : Int) = 12
      rw [lenE, hs12]; rfl
end Go.Proofs.Ytblfemlheolhoaa.Pure
