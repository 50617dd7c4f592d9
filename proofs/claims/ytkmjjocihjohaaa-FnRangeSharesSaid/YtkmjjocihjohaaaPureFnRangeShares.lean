/- For every code the law FnRangeShares is true: the combinations of a range and of the others are 1326, and dead cards only take some away. No conditions. -/
import Derived.Test.YtkmjjocihjohaaaEvC
import Derived.Test.YtkmjjocihjohaaaQFnRangeSharesx11
import Derived.Test.YtkmjjocihjohaaaEv
namespace Go.Proofs.Ytkmjjocihjohaaa.Pure
open Go.RowKit Go.Proofs.Ytkmjjocihjohaaa.QFnRangeShares Go.Proofs.YtkmjjocihjohaaaW.PrintWords Go.Proofs.YtkmjjocihjohaaaW.PrintLast Go.Proofs.YtkmjjocihjohaaaW.PrintMore Go.Proofs.Ytkmjjocihjohaaa.EvBase
set_option linter.unusedVariables false
set_option linter.unusedSimpArgs false
namespace LFnRangeShares
theorem l01In_eq (a lo hi : Int) : spec_l01In.f a lo hi = some (inR lo hi a) := by
  unfold spec_l01In.f inR
  by_cases h : a ≥ lo
  · rw [if_pos h]; simp [h]
  · rw [if_neg h]; simp; omega
theorem within_eq (a lo hi : Int) : impl_within.f a lo hi = some (inR lo hi a) := by
  unfold impl_within.f inR
  by_cases h : a ≥ lo
  · rw [if_pos h]; simp [h]
  · rw [if_neg h]; simp; omega
theorem l01Has_l0 : ∀ (s pre : List Int) (c : Int), pre.length + s.length ≤ 1000000000000 →
    Ev (fun k => spec_l01Has.l0 k (pre ++ s) c (pre.length : Int)) (s.contains c)
  | [], pre, c, hl => by
    refine Ev.step (fun k => spec_l01Has.l0.eq_2 _ _ _ k) ?_
    exact ev_neg (by simp) (ev_now (by simp))
  | x :: s, pre, c, hl => by
    have hl' : pre.length + (s.length + 1) ≤ 1000000000000 := hl
    refine Ev.step (fun k => spec_l01Has.l0.eq_2 _ _ _ k) ?_
    refine ev_pos (by simp; omega) (ev_pos (by omega) ?_)
    rw [rd_at]
    by_cases e : x = c
    · exact ev_pos e (ev_now (by simp [e]))
    · refine ev_neg e ?_
      rw [w64 (by omega) (by omega), len_snoc pre x, app_snoc pre s x]
      have h := l01Has_l0 s (pre ++ [x]) c (by simp; omega)
      have e2 : (x :: s).contains c = s.contains c := by simp [List.contains_cons]; omega
      rw [e2]; exact h
theorem l01Has_ev (l : List Int) (c : Int) (hl : l.length ≤ 1000000000000) : Ev (fun k => spec_l01Has.f k l c) (l.contains c) := by
  unfold spec_l01Has.f
  simpa using l01Has_l0 l [] c (by simpa using hl)
theorem slIndex_l0 : ∀ (s pre : List Int) (c : Int), pre.length + s.length ≤ 1000000000000 →
    Ev (fun k => slices_Index_int64_int64.l0 k (pre ++ s) c ((pre ++ s).length : Int) (pre.length : Int)) (if s.contains c = true then ((pre.length + s.idxOf c : Nat) : Int) else -1)
  | [], pre, c, hl => by
    refine Ev.step (fun k => slices_Index_int64_int64.l0.eq_2 _ _ _ _ k) ?_
    exact ev_neg (by simp) (ev_now (by simp))
  | x :: s, pre, c, hl => by
    have hl' : pre.length + (s.length + 1) ≤ 1000000000000 := hl
    refine Ev.step (fun k => slices_Index_int64_int64.l0.eq_2 _ _ _ _ k) ?_
    refine ev_pos (by simp; omega) (ev_pos (by omega) (ev_pos (by simp; omega) ?_))
    rw [rd_at]
    by_cases e : c = x
    · subst e; exact ev_pos rfl (ev_now (by simp [List.idxOf_cons]))
    · refine ev_neg e ?_
      rw [w64 (by omega) (by omega), len_snoc pre x, app_snoc pre s x]
      have h := slIndex_l0 s (pre ++ [x]) c (by simp; omega)
      have e2 : (x :: s).contains c = s.contains c := by simp [List.contains_cons, e]
      have e4 : ¬ x = c := fun h => e h.symm
      have e5 : (x == c) = false := by simp [e4]
      have e3 : (x :: s).idxOf c = s.idxOf c + 1 := by simp [List.idxOf_cons, e5]
      rw [e2, e3, show pre.length + (s.idxOf c + 1) = (pre ++ [x]).length + s.idxOf c by simp; omega]; exact h
theorem slIndex_ev (l : List Int) (c : Int) (hl : l.length ≤ 1000000000000) : Ev (fun k => slices_Index_int64_int64.f k l c) (if l.contains c = true then ((l.idxOf c : Nat) : Int) else -1) := by
  unfold slices_Index_int64_int64.f
  simpa using slIndex_l0 l [] c (by simpa using hl)
theorem slContains_ev (l : List Int) (c : Int) (hl : l.length ≤ 1000000000000) : Ev (fun k => slices_Contains_int64_int64.f k l c) (l.contains c) := by
  unfold slices_Contains_int64_int64.f
  refine Ev.bind (slIndex_ev l c hl) (ev_now ?_)
  by_cases h : l.contains c = true
  · rw [if_pos h, h]; simp
  · rw [if_neg h]; simp only [Bool.not_eq_true] at h; rw [h]; rfl
theorem l01Rises_l0 : ∀ (s pre : List Int), pre.length + s.length ≤ 1000000000000 →
    Ev (fun k => spec_l01Rises.l0 k (pre ++ s) 169 (pre.length : Int)) (s.all (inR 0 168) && (match pre.getLast? with | none => incB s | some p => chainB p s))
  | [], pre, hl => by
    refine Ev.step (fun k => spec_l01Rises.l0.eq_2 _ _ _ k) ?_
    refine ev_neg (by simp) (ev_now ?_)
    cases pre.getLast? <;> rfl
  | x :: s, pre, hl => by
    have hl' : pre.length + (s.length + 1) ≤ 1000000000000 := hl
    have hnext := l01Rises_l0 s (pre ++ [x]) (by simp; omega)
    rw [List.getLast?_append] at hnext
    simp only [List.getLast?_singleton, Option.some_or] at hnext
    refine Ev.step (fun k => spec_l01Rises.l0.eq_2 _ _ _ k) ?_
    refine ev_pos (by simp; omega) (ev_pos (by omega) ?_)
    rw [rd_at]
    refine ev_bindc (l01In_eq _ _ _) ?_
    have e169 : wrap64 (169 - 1) = 168 := w64 (by decide) (by decide)
    rw [e169]
    by_cases hin : inR 0 168 x = true
    · refine ev_pos hin ?_
      simp only [List.all_cons, hin, Bool.true_and]
      rcases List.eq_nil_or_concat pre with rfl | ⟨pre, p, rfl⟩
      · refine ev_neg (by simp) ?_
        rw [w64 (by simp) (by simp), len_snoc [] x, app_snoc [] s x]
        simpa [incB] using hnext
      · rw [List.concat_eq_append] at *
        have e1 : (((pre ++ [p]).length : Nat) : Int) - 1 = (pre.length : Int) := by simp
        have hpl : (pre ++ [p]).length = pre.length + 1 := by simp
        refine ev_pos (by omega) ?_
        have e2 : wrap64 ((((pre ++ [p]).length : Nat) : Int) - 1) = (pre.length : Int) := by rw [e1]; exact w64 (by omega) (by omega)
        rw [e2]
        refine ev_pos (by omega) (ev_pos (by simp; omega) ?_)
        have e3 : rd (pre ++ [p] ++ x :: s) (pre.length : Int) = p := by rw [List.append_assoc]; exact rd_at _ _ _
        rw [e3]
        rw [List.getLast?_append]
        simp only [List.getLast?_singleton, Option.some_or, chainB]
        by_cases hle : x ≤ p
        · exact ev_pos hle (ev_now (by simp; omega))
        · refine ev_neg hle ?_
          rw [w64 (by omega) (by omega), len_snoc (pre ++ [p]) x, app_snoc (pre ++ [p]) s x]
          have : decide (p < x) = true := by simp; omega
          rw [this, Bool.true_and]; exact hnext
    · refine ev_neg hin (ev_now ?_)
      simp only [Bool.not_eq_true] at hin
      simp [hin]
theorem l01Rises_ev (l : List Int) (hl : l.length ≤ 1000000000000) : Ev (fun k => spec_l01Rises.f k l 169) (isRangeB l) := by
  unfold spec_l01Rises.f
  have h := l01Rises_l0 l [] (by simpa using hl)
  exact h
theorem specIsRange_ev (l : List Int) (hl : l.length ≤ 1000000000000) : Ev (fun k => spec_IsRange.f k l) (isRangeB l) := by
  unfold spec_IsRange.f
  exact Ev.bind (l01Rises_ev l hl) (ev_now rfl)
theorem allWithin_l0 (lo hi : Int) : ∀ (s pre : List Int), pre.length + s.length ≤ 1000000000000 →
    Ev (fun k => impl_allWithin.l0 k lo hi (pre ++ s) ((pre ++ s).length : Int) (pre.length : Int)) (s.all (inR lo hi))
  | [], pre, hl => by
    refine Ev.step (fun k => impl_allWithin.l0.eq_2 _ _ _ _ _ k) ?_
    exact ev_neg (by simp) (ev_now rfl)
  | x :: s, pre, hl => by
    have hl' : pre.length + (s.length + 1) ≤ 1000000000000 := hl
    refine Ev.step (fun k => impl_allWithin.l0.eq_2 _ _ _ _ _ k) ?_
    refine ev_pos (by simp; omega) (ev_pos (by omega) (ev_pos (by simp; omega) ?_))
    rw [rd_at]
    refine ev_bindc (within_eq _ _ _) ?_
    by_cases hin : inR lo hi x = true
    · refine ev_pos hin ?_
      rw [w64 (by omega) (by omega), len_snoc pre x, app_snoc pre s x]
      have h := allWithin_l0 lo hi s (pre ++ [x]) (by simp; omega)
      simpa only [List.all_cons, hin, Bool.true_and] using h
    · refine ev_neg hin (ev_now ?_)
      simp only [Bool.not_eq_true] at hin
      simp [hin]
theorem allWithin_ev (l : List Int) (lo hi : Int) (hl : l.length ≤ 1000000000000) : Ev (fun k => impl_allWithin.f k l lo hi) (l.all (inR lo hi)) := by
  unfold impl_allWithin.f
  simpa using allWithin_l0 lo hi l [] (by simpa using hl)
theorem increasing_l0 : ∀ (s pre : List Int) (p : Int), pre.length + s.length ≤ 100000000000 →
    Ev (fun k => impl_increasing.l0 k (pre ++ p :: s) ((pre.length : Int) + 1)) (chainB p s)
  | [], pre, p, hl => by
    refine Ev.step (fun k => impl_increasing.l0.eq_2 _ _ k) ?_
    exact ev_neg (by simp) (ev_now rfl)
  | x :: s, pre, p, hl => by
    have hl' : pre.length + (s.length + 1) ≤ 100000000000 := hl
    refine Ev.step (fun k => impl_increasing.l0.eq_2 _ _ k) ?_
    refine ev_pos (by simp; omega) ?_
    have e2 : wrap64 ((pre.length : Int) + 1 - 1) = (pre.length : Int) := by rw [Int.add_sub_cancel]; exact w64 (by omega) (by omega)
    rw [e2]
    refine ev_pos (by omega) (ev_pos (by simp; omega) (ev_pos (by omega) ?_))
    rw [rd_at]
    have e3 : rd (pre ++ p :: x :: s) ((pre.length : Int) + 1) = x := by
      rw [len_snoc pre p, app_snoc pre _ p]; exact rd_at _ _ _
    rw [e3]
    by_cases hle : p ≥ x
    · exact ev_pos hle (ev_now (by simp [chainB]; omega))
    · refine ev_neg hle ?_
      rw [w64 (by omega) (by omega)]
      have h := increasing_l0 s (pre ++ [p]) x (by simp; omega)
      have : decide (p < x) = true := by simp; omega
      simp only [chainB, this, Bool.true_and]
      rw [len_snoc pre p, app_snoc pre _ p]; exact h
theorem increasing_ev (l : List Int) (hl : l.length ≤ 10000000000) : Ev (fun k => impl_increasing.f k l) (incB l) := by
  unfold impl_increasing.f
  cases l with
  | nil =>
    refine Ev.step (fun k => impl_increasing.l0.eq_2 _ _ k) ?_
    exact ev_neg (by simp) (ev_now rfl)
  | cons x s => exact increasing_l0 s [] x (by simp at hl ⊢; omega)
theorem implIsRange_ev (l : List Int) (hl : l.length ≤ 10000000000) : Ev (fun k => impl_IsRange.f k l) (isRangeB l) := by
  unfold impl_IsRange.f isRangeB
  refine Ev.bind (allWithin_ev l 0 168 (by omega)) ?_
  by_cases h : l.all (inR 0 168) = true
  · refine ev_pos h (Ev.bind (increasing_ev l hl) (ev_now ?_))
    rw [h, Bool.true_and]
  · refine ev_neg h (ev_now ?_)
    simp only [Bool.not_eq_true] at h
    rw [h, Bool.false_and]
theorem specCard_eq (x : Int) : spec_l02Card.f x = some (inR 0 51 x) := by unfold spec_l02Card.f; rw [l01In_eq]; rfl
theorem specCards_l0 : ∀ (s pre seen : List Int) (flags : List Bool), pre.length + s.length ≤ 1000000000000 → flags.length = 52 → (∀ c : Nat, c < 52 → rdOf false flags (c : Int) = seen.contains (c : Int)) →
    Ev (fun k => spec_AreCards.l0 k (pre ++ s) flags (pre.length : Int)) (cardsB seen s)
  | [], pre, seen, flags, hl, hf, hs => by
    refine Ev.step (fun k => spec_AreCards.l0.eq_2 _ _ _ k) ?_
    exact ev_neg (by simp) (ev_now rfl)
  | x :: s, pre, seen, flags, hl, hf, hs => by
    have hl' : pre.length + (s.length + 1) ≤ 1000000000000 := hl
    refine Ev.step (fun k => spec_AreCards.l0.eq_2 _ _ _ k) ?_
    refine ev_pos (by simp; omega) (ev_pos (by omega) ?_)
    rw [rd_at]
    refine ev_bindc (specCard_eq x) ?_
    by_cases hx : inR 0 51 x = true
    rotate_left
    · exact ev_neg hx (ev_now (by simp [cardsB, hx]))
    have bx := inR_iff.1 hx
    obtain ⟨c, rfl⟩ := Int.eq_ofNat_of_zero_le bx.1
    refine ev_pos hx (ev_pos (by omega) (ev_pos (by omega) ?_))
    rw [hs c (by omega)]
    by_cases hc : seen.contains (c : Int) = true
    · exact ev_pos hc (ev_now (by rw [cardsB, hx, hc]; rfl))
    refine ev_neg hc ?_
    rw [w64 (by omega) (by omega), len_snoc pre (c : Int), app_snoc pre s]
    have h := specCards_l0 s (pre ++ [(c : Int)]) ((c : Int) :: seen) (flags.set ((c : Int)).toNat true) (by simp; omega) (by simpa using hf) (fun d hd => by
      rw [List.contains_cons, ← hs d hd]
      by_cases e : c = d
      · subst e; simp [rdOf, List.getD_eq_getElem?_getD, hf, hd]
      · have e2 : ¬ (d : Int) = (c : Int) := by omega
        simp [rdOf, List.getD_eq_getElem?_getD, List.getElem?_set, e, e2])
    simp only [Bool.not_eq_true] at hc
    simpa only [cardsB, hx, hc, Bool.not_false, Bool.true_and] using h
theorem specCards_ev (l : List Int) (hl : l.length ≤ 1000000000000) : Ev (fun k => spec_AreCards.f k l) (cardsB [] l) := by
  unfold spec_AreCards.f
  refine ev_pos (by decide) ?_
  simpa using specCards_l0 l [] [] (List.replicate 52 false) (by simpa using hl) (by simp) (fun c _ => rd_rep 52 c)
theorem implCard_eq (x : Int) : impl_isCard.f x = some (inR 0 51 x) := by unfold impl_isCard.f; rw [within_eq]; rfl
theorem implCards_l0 : ∀ (s pre seen : List Int) (b : Nat), pre.length + s.length ≤ 1000000000000 → BitsOf b seen →
    Ev (fun k => impl_AreCards.l0 k (b : Int) (pre ++ s) ((pre ++ s).length : Int) (pre.length : Int)) (cardsB seen s)
  | [], pre, seen, b, hl, hb => by
    refine Ev.step (fun k => impl_AreCards.l0.eq_2 _ _ _ _ k) ?_
    exact ev_neg (by simp) (ev_now rfl)
  | x :: s, pre, seen, b, hl, hb => by
    have hl' : pre.length + (s.length + 1) ≤ 1000000000000 := hl
    refine Ev.step (fun k => impl_AreCards.l0.eq_2 _ _ _ _ k) ?_
    refine ev_pos (by simp; omega) (ev_pos (by omega) (ev_pos (by simp; omega) ?_))
    rw [rd_at]
    refine ev_bindc (implCard_eq x) ?_
    by_cases hx : inR 0 51 x = true
    rotate_left
    · exact ev_neg hx (ev_now (by simp [cardsB, hx]))
    have bx := inR_iff.1 hx
    obtain ⟨c, rfl⟩ := Int.eq_ofNat_of_zero_le bx.1
    refine ev_pos hx (ev_pos (by omega) ?_)
    have hc52 : c < 52 := by omega
    by_cases hc : seen.contains (c : Int) = true
    · refine ev_pos ((bit_and b c hb.1 hc52).2 (by rw [hb.2 c hc52]; exact hc)) (ev_now ?_)
      rw [cardsB, hx, hc]; rfl
    refine ev_neg (fun h => hc (by rw [← hb.2 c hc52]; exact (bit_and b c hb.1 hc52).1 h)) ?_
    rw [bit_or b c hb.1 hc52, w64 (by omega) (by omega), len_snoc pre (c : Int), app_snoc pre s]
    have h := implCards_l0 s (pre ++ [(c : Int)]) ((c : Int) :: seen) (b ||| 2 ^ c) (by simp; omega) (bits_put hb c hc52)
    simp only [Bool.not_eq_true] at hc
    simpa only [cardsB, hx, hc, Bool.not_false, Bool.true_and] using h
theorem implCards_ev (l : List Int) (hl : l.length ≤ 1000000000000) : Ev (fun k => impl_AreCards.f k l) (cardsB [] l) := by
  unfold impl_AreCards.f
  simpa using implCards_l0 l [] [] 0 (by simpa using hl) bits_nil
theorem specClass_eq (a b : Nat) (ha : a < 52) (hb : b < 52) : spec_l07Class.f (a : Int) (b : Int) = some ((clsN a b : Nat) : Int) := by
  unfold spec_l07Class.f clsN
  have e1 := tdiv_nat a 4 (by omega)
  have e2 := tdiv_nat b 4 (by omega)
  have m1 := tmod_nat a 4
  have m2 := tmod_nat b 4
  simp only [Int.cast_ofNat_Int] at e1 e2 m1 m2
  simp only [e1, e2, m1, m2, mx_max, mn_min]
  by_cases h : a % 4 = b % 4
  · rw [if_pos (by omega), if_pos (.inl h), w64 (n := 13 * _) (by omega) (by omega), w64 (by omega) (by omega)]
    congr 1; omega
  rw [if_neg (by omega)]
  by_cases h2 : max (a / 4) (b / 4) = min (a / 4) (b / 4)
  · rw [if_pos (by omega), if_pos (.inr h2), w64 (n := 13 * _) (by omega) (by omega), w64 (by omega) (by omega)]
    congr 1; omega
  · rw [if_neg (by omega), if_neg (by omega), w64 (n := 13 * _) (by omega) (by omega), w64 (by omega) (by omega)]
    congr 1; omega
theorem implClass_eq (a b : Nat) (ha : a < 52) (hb : b < 52) : impl_classOf.f (a : Int) (b : Int) = some ((clsN a b : Nat) : Int) := by
  unfold impl_classOf.f clsN
  have e1 := tdiv_nat a 4 (by omega)
  have e2 := tdiv_nat b 4 (by omega)
  have m1 := tmod_nat a 4
  have m2 := tmod_nat b 4
  simp only [Int.cast_ofNat_Int] at e1 e2 m1 m2
  simp only [e1, e2, m1, m2, mx_max, mn_min]
  by_cases h : a % 4 = b % 4
  · rw [if_pos (by omega), if_pos (.inl h), w64 (n := 13 * _) (by omega) (by omega), w64 (by omega) (by omega)]
    congr 1; omega
  rw [if_neg (by omega)]
  by_cases h2 : max (a / 4) (b / 4) = min (a / 4) (b / 4)
  · rw [if_pos (.inr h2), w64 (n := 13 * _) (by omega) (by omega), w64 (by omega) (by omega)]
    congr 1; omega
  · rw [if_neg (by omega), w64 (n := 13 * _) (by omega) (by omega), w64 (by omega) (by omega)]
    congr 1; omega
theorem specCombos_l1 (c x : Nat) (hx : x < 52) (r : List (List Int)) : ∀ (d y : Nat) (acc : List (List Int)), y + d = 52 → acc.length + d ≤ 1000000 →
    Ev (fun k => spec_l07Combos.l0 k (c : Int) (acc ++ innerS c x d y) ((x + 1 : Nat) : Int)) r → Ev (fun k => spec_l07Combos.l1 k (c : Int) acc (x : Int) (y : Int)) r
  | 0, y, acc, hd, ha, h => by
    refine Ev.step (fun k => spec_l07Combos.l1.eq_2 _ _ _ _ k) (ev_neg (by omega) ?_)
    rw [w64 (by omega) (by omega)]
    simpa [innerS] using h
  | d + 1, y, acc, hd, ha, h => by
    refine Ev.step (fun k => spec_l07Combos.l1.eq_2 _ _ _ _ k) (ev_pos (by omega) (ev_bindc (specClass_eq x y hx (by omega)) ?_))
    have ey : wrap64 ((y : Int) + 1) = ((y + 1 : Nat) : Int) := by rw [w64 (by omega) (by omega)]; simp
    rw [ey]
    by_cases hc : clsN x y = c
    · refine ev_pos (by omega) (ev_pos (by omega) (specCombos_l1 c x hx r d (y + 1) _ (by omega) (by simp; omega) ?_))
      simp only [innerS, if_pos hc] at h
      simpa [pair] using h
    · refine ev_neg (by omega) (specCombos_l1 c x hx r d (y + 1) _ (by omega) (by omega) ?_)
      simpa only [innerS, if_neg hc] using h
theorem innerS_len (c x : Nat) : ∀ d y, (innerS c x d y).length ≤ d
  | 0, y => by simp [innerS]
  | d + 1, y => by
    have := innerS_len c x d (y + 1)
    simp only [innerS]; split
    · simp; omega
    · omega
theorem specCombos_l0 (c : Nat) : ∀ (d x : Nat) (acc : List (List Int)), x + d = 52 → acc.length + 60 * d ≤ 900000 →
    Ev (fun k => spec_l07Combos.l0 k (c : Int) acc (x : Int)) (acc ++ outerS c d x)
  | 0, x, acc, hd, ha => by
    refine Ev.step (fun k => spec_l07Combos.l0.eq_2 _ _ _ k) (ev_neg (by omega) (ev_now (by simp [outerS])))
  | d + 1, x, acc, hd, ha => by
    refine Ev.step (fun k => spec_l07Combos.l0.eq_2 _ _ _ k) (ev_pos (by omega) ?_)
    have ex : wrap64 ((x : Int) + 1) = ((x + 1 : Nat) : Int) := by rw [w64 (by omega) (by omega)]; simp
    rw [ex]
    refine specCombos_l1 c x (by omega) _ (51 - x) (x + 1) acc (by omega) (by omega) ?_
    have := innerS_len c x (51 - x) (x + 1)
    have h := specCombos_l0 c d (x + 1) (acc ++ innerS c x (51 - x) (x + 1)) (by omega) (by simp; omega)
    simpa [outerS] using h
theorem specCombos_ev (c : Nat) : Ev (fun k => spec_l07Combos.f k (c : Int)) (outerS c 52 0) := by
  unfold spec_l07Combos.f
  exact specCombos_l0 c 52 0 [] rfl (by simp)
theorem implCombos_l1 (c lo hi x : Nat) (dead : List Int) (hdl : dead.length ≤ 1000000000) (hhi : hi + 4 ≤ 52) (hx : x < 52) (r : List (List Int)) : ∀ (d y : Nat) (acc : List (List Int)), y + d = hi + 4 → acc.length + d ≤ 1000000 →
    Ev (fun k => impl_combosOf.l0 k (c : Int) dead (lo : Int) (hi : Int) (acc ++ innerI c dead x d y) ((x + 1 : Nat) : Int)) r → Ev (fun k => impl_combosOf.l1 k (c : Int) dead (lo : Int) (hi : Int) acc (x : Int) (y : Int)) r
  | 0, y, acc, hd, ha, h => by
    refine Ev.step (fun k => impl_combosOf.l1.eq_2 _ _ _ _ _ _ _ k) ?_
    rw [w64 (n := (hi : Int) + 4) (by omega) (by omega), w64 (n := (x : Int) + 1) (by omega) (by omega)]
    refine ev_neg (by omega) ?_
    simpa [innerI] using h
  | d + 1, y, acc, hd, ha, h => by
    refine Ev.step (fun k => impl_combosOf.l1.eq_2 _ _ _ _ _ _ _ k) ?_
    have ey : wrap64 ((y : Int) + 1) = ((y + 1 : Nat) : Int) := by rw [w64 (by omega) (by omega)]; simp
    rw [w64 (n := (hi : Int) + 4) (by omega) (by omega), ey]
    refine ev_pos (by omega) ?_
    have skip : ¬ (x < y ∧ clsN x y = c ∧ dead.contains (x : Int) = false ∧ dead.contains (y : Int) = false) → Ev (fun k => impl_combosOf.l1 k (c : Int) dead (lo : Int) (hi : Int) acc (x : Int) ((y + 1 : Nat) : Int)) r := fun hn => by
      refine implCombos_l1 c lo hi x dead hdl hhi hx r d (y + 1) acc (by omega) (by omega) ?_
      simpa only [innerI, if_neg hn] using h
    by_cases h1 : x < y
    rotate_left
    · exact ev_neg (by omega) (skip (fun g => h1 g.1))
    refine ev_pos (by omega) (ev_bindc (implClass_eq x y hx (by omega)) ?_)
    by_cases h2 : clsN x y = c
    rotate_left
    · exact ev_neg (by omega) (skip (fun g => h2 g.2.1))
    refine ev_pos (by omega) (Ev.bind (slContains_ev dead (x : Int) (by omega)) ?_)
    by_cases h3 : dead.contains (x : Int) = true
    · exact ev_pos h3 (skip (fun g => by rw [h3] at g; simp at g))
    refine ev_neg h3 (Ev.bind (slContains_ev dead (y : Int) (by omega)) ?_)
    by_cases h4 : dead.contains (y : Int) = true
    · exact ev_pos h4 (skip (fun g => by rw [h4] at g; simp at g))
    refine ev_neg h4 (ev_pos (by omega) (implCombos_l1 c lo hi x dead hdl hhi hx r d (y + 1) _ (by omega) (by simp; omega) ?_))
    simp only [Bool.not_eq_true] at h3 h4
    simp only [innerI, if_pos (show x < y ∧ clsN x y = c ∧ dead.contains (x : Int) = false ∧ dead.contains (y : Int) = false from ⟨h1, h2, h3, h4⟩)] at h
    simpa [pair] using h
theorem innerI_len (c : Nat) (dead : List Int) (x : Nat) : ∀ d y, (innerI c dead x d y).length ≤ d
  | 0, y => by simp [innerI]
  | d + 1, y => by
    have := innerI_len c dead x d (y + 1)
    simp only [innerI]; split
    · simp; omega
    · omega
theorem implCombos_l0 (c lo hi : Nat) (dead : List Int) (hdl : dead.length ≤ 1000000000) (hhi : hi + 4 ≤ 52) (hlo : lo + 4 ≤ 52) : ∀ (d x : Nat) (acc : List (List Int)), x + d = lo + 4 → acc.length + 60 * d ≤ 900000 →
    Ev (fun k => impl_combosOf.l0 k (c : Int) dead (lo : Int) (hi : Int) acc (x : Int)) (acc ++ outerI c dead hi d x)
  | 0, x, acc, hd, ha => by
    refine Ev.step (fun k => impl_combosOf.l0.eq_2 _ _ _ _ _ _ k) ?_
    rw [w64 (by omega) (by omega)]
    exact ev_neg (by omega) (ev_now (by simp [outerI]))
  | d + 1, x, acc, hd, ha => by
    refine Ev.step (fun k => impl_combosOf.l0.eq_2 _ _ _ _ _ _ k) ?_
    rw [w64 (by omega) (by omega)]
    refine ev_pos (by omega) ?_
    refine implCombos_l1 c lo hi x dead hdl hhi (by omega) _ 4 hi acc rfl (by omega) ?_
    have := innerI_len c dead x 4 hi
    have h := implCombos_l0 c lo hi dead hdl hhi hlo d (x + 1) (acc ++ innerI c dead x 4 hi) (by omega) (by simp; omega)
    simpa [outerI] using h
theorem implCombos_ev (c : Nat) (hc : c < 169) (dead : List Int) (hdl : dead.length ≤ 1000000000) : Ev (fun k => impl_combosOf.f k (c : Int) dead) (combosM c dead) := by
  unfold impl_combosOf.f
  have e1 := tdiv_nat c 13 (by omega)
  have m1 := tmod_nat c 13
  simp only [Int.cast_ofNat_Int] at e1 m1
  have hl : wrap64 (mn ((c / 13 : Nat) : Int) ((c % 13 : Nat) : Int) * 4) = ((lowOf c : Nat) : Int) := by
    rw [mn_min, w64 (by omega) (by omega)]; unfold lowOf; omega
  have hh : wrap64 (mx ((c / 13 : Nat) : Int) ((c % 13 : Nat) : Int) * 4) = ((highOf c : Nat) : Int) := by
    rw [mx_max, w64 (by omega) (by omega)]; unfold highOf; omega
  simp only [e1, m1, hl, hh]
  have h := implCombos_l0 c (lowOf c) (highOf c) dead hdl (by unfold highOf; omega) (by unfold lowOf; omega) 4 (lowOf c) [] rfl (by simp)
  rw [combos_both c hc] at h
  simpa using h
theorem specClassIs_eq (x : Int) : spec_l07Is.f x = some (inR 0 168 x) := by unfold spec_l07Is.f; rw [l01In_eq]; rfl
theorem rdl_at (pre s : List (List Int)) (x : List Int) : rd_L2 (pre ++ x :: s) (pre.length : Int) = x := by
  simp [rd_L2, List.getD_eq_getElem?_getD]
theorem specWithout_l0 (dead : List Int) (hd : dead.length ≤ 1000000000) : ∀ (s pre acc : List (List Int)), (∀ p ∈ s, p.length = 2) → pre.length + s.length ≤ 1000000 → acc.length + s.length ≤ 1000000 →
    Ev (fun k => spec_CombosWithout.l0 k dead (pre ++ s) acc (pre.length : Int)) (acc ++ s.filter (freeOf dead), 0)
  | [], pre, acc, h2, hl, ha => by
    refine Ev.step (fun k => spec_CombosWithout.l0.eq_2 _ _ _ _ k) ?_
    exact ev_neg (by simp) (ev_now (by simp))
  | x :: s, pre, acc, h2, hl, ha => by
    have hl' : pre.length + (s.length + 1) ≤ 1000000 := hl
    have ha' : acc.length + (s.length + 1) ≤ 1000000 := ha
    have hx : x.length = 2 := h2 x (by simp)
    refine Ev.step (fun k => spec_CombosWithout.l0.eq_2 _ _ _ _ k) ?_
    refine ev_pos (by simp; omega) (ev_pos (by omega) ?_)
    rw [rdl_at, w64 (by omega) (by omega), len_snoc pre x, app_snoc pre s x]
    refine ev_pos (by omega) (Ev.bind (l01Has_ev dead _ (by omega)) ?_)
    by_cases h3 : dead.contains (rd x 0) = true
    · refine ev_pos h3 ?_
      have h := specWithout_l0 dead hd s (pre ++ [x]) acc (fun p hp => h2 p (by simp [hp])) (by simp; omega) (by omega)
      have hf : freeOf dead x = false := by unfold freeOf; rw [h3]; rfl
      simpa only [List.filter_cons, hf, Bool.false_eq_true, if_false] using h
    refine ev_neg h3 (ev_pos (by omega) (Ev.bind (l01Has_ev dead _ (by omega)) ?_))
    by_cases h4 : dead.contains (rd x 1) = true
    · refine ev_pos h4 ?_
      have h := specWithout_l0 dead hd s (pre ++ [x]) acc (fun p hp => h2 p (by simp [hp])) (by simp; omega) (by omega)
      have hf : freeOf dead x = false := by unfold freeOf; rw [h4]; simp
      simpa only [List.filter_cons, hf, Bool.false_eq_true, if_false] using h
    refine ev_neg h4 (ev_pos (by omega) ?_)
    have h := specWithout_l0 dead hd s (pre ++ [x]) (acc ++ [x]) (fun p hp => h2 p (by simp [hp])) (by simp; omega) (by simp; omega)
    simp only [Bool.not_eq_true] at h3 h4
    have hf : freeOf dead x = true := by unfold freeOf; rw [h3, h4]; rfl
    simpa only [List.filter_cons, hf, if_true, List.append_assoc, List.singleton_append] using h
theorem innerS_two (c x : Nat) : ∀ d y, ∀ p ∈ innerS c x d y, p.length = 2
  | 0, y => by simp [innerS]
  | d + 1, y => by
    have ih := innerS_two c x d (y + 1)
    simp only [innerS]; split
    · intro p hp
      rcases List.mem_cons.1 hp with rfl | hp
      · rfl
      · exact ih p hp
    · exact ih
theorem outerS_two (c : Nat) : ∀ d x, ∀ p ∈ outerS c d x, p.length = 2
  | 0, x => by simp [outerS]
  | d + 1, x => by
    intro p hp
    simp only [outerS, List.mem_append] at hp
    rcases hp with hp | hp
    · exact innerS_two c x _ _ p hp
    · exact outerS_two c d (x + 1) p hp
def withoutM (c : Int) (dead : List Int) : List (List Int) × Int := if inR 0 168 c then (if cardsB [] dead then (combosM c.toNat dead, 0) else ([], 1)) else ([], 2)
theorem specWithout_ev (c : Int) (dead : List Int) (hd : dead.length ≤ 1000000000) : Ev (fun k => spec_CombosWithout.f k c dead) (withoutM c dead) := by
  unfold spec_CombosWithout.f withoutM
  refine ev_bindc (specClassIs_eq c) ?_
  by_cases h1 : inR 0 168 c = true
  rotate_left
  · rw [if_neg h1]; exact ev_neg h1 (ev_now rfl)
  rw [if_pos h1]
  refine ev_pos h1 (Ev.bind (specCards_ev dead (by omega)) ?_)
  by_cases h2 : cardsB [] dead = true
  rotate_left
  · rw [if_neg h2]; exact ev_neg h2 (ev_now rfl)
  rw [if_pos h2]
  refine ev_pos h2 ?_
  have b1 := inR_iff.1 h1
  obtain ⟨n, rfl⟩ := Int.eq_ofNat_of_zero_le b1.1
  refine Ev.bind (specCombos_ev n) ?_
  have hs : (outerS n 52 0).length ≤ 12 := by rw [combos_size n (by omega)]; exact sizeN_le n
  exact specWithout_l0 dead hd (outerS n 52 0) [] [] (outerS_two n 52 0) (by simp; omega) (by simp; omega)
theorem specRange_l0 (dead : List Int) (hd : dead.length ≤ 1000000000) (hc : cardsB [] dead = true) : ∀ (s pre : List Int) (acc : List (List Int)), (∀ c ∈ s, 0 ≤ c ∧ c ≤ 168) → pre.length + s.length ≤ 10000000 → acc.length + 12 * s.length ≤ 1000000000 →
    Ev (fun k => spec_l08Combos.l0 k (pre ++ s) dead acc (pre.length : Int)) (acc ++ rangeM dead s)
  | [], pre, acc, hs, hl, ha => by
    refine Ev.step (fun k => spec_l08Combos.l0.eq_2 _ _ _ _ k) ?_
    exact ev_neg (by simp) (ev_now (by simp [rangeM]))
  | x :: s, pre, acc, hs, hl, ha => by
    have hl' : pre.length + (s.length + 1) ≤ 10000000 := hl
    have ha' : acc.length + 12 * (s.length + 1) ≤ 1000000000 := ha
    have bx := hs x (by simp)
    have hw : withoutM x dead = (combosM x.toNat dead, 0) := by unfold withoutM; rw [if_pos (inR_iff.2 bx), if_pos hc]
    have hlen := combosM_len (c := x.toNat) (by omega) dead
    refine Ev.step (fun k => spec_l08Combos.l0.eq_2 _ _ _ _ k) ?_
    refine ev_pos (by simp; omega) (ev_pos (by omega) ?_)
    rw [rd_at]
    refine Ev.bind (specWithout_ev x dead hd) ?_
    rw [hw]
    rw [w64 (by omega) (by omega), len_snoc pre x, app_snoc pre s x]
    refine ev_pos (by simp only; omega) ?_
    have h := specRange_l0 dead hd hc s (pre ++ [x]) (acc ++ combosM x.toNat dead) (fun c hc => hs c (by simp [hc])) (by simp; omega) (by simp; omega)
    simpa [rangeM] using h
theorem specRange_ev (r dead : List Int) (hr : r.length ≤ 10000000) (hd : dead.length ≤ 1000000000) (hc : cardsB [] dead = true) (hir : isRangeB r = true) : Ev (fun k => spec_l08Combos.f k r dead) (rangeM dead r) := by
  unfold spec_l08Combos.f
  exact specRange_l0 dead hd hc r [] [] (mem_isRange hir) (by simpa using hr) (by simp; omega)
theorem implRange_l0 (dead : List Int) (hd : dead.length ≤ 1000000000) : ∀ (s pre : List Int) (acc : List (List Int)), (∀ c ∈ s, 0 ≤ c ∧ c ≤ 168) → pre.length + s.length ≤ 10000000 → acc.length + 12 * s.length ≤ 1000000000 →
    Ev (fun k => impl_RangeCombos.l0 k dead acc (pre ++ s) ((pre ++ s).length : Int) (pre.length : Int)) (acc ++ rangeM dead s, 0)
  | [], pre, acc, hs, hl, ha => by
    refine Ev.step (fun k => impl_RangeCombos.l0.eq_2 _ _ _ _ _ k) ?_
    exact ev_neg (by simp) (ev_now (by simp [rangeM]))
  | x :: s, pre, acc, hs, hl, ha => by
    have hl' : pre.length + (s.length + 1) ≤ 10000000 := hl
    have ha' : acc.length + 12 * (s.length + 1) ≤ 1000000000 := ha
    have bx := hs x (by simp)
    obtain ⟨n, rfl⟩ := Int.eq_ofNat_of_zero_le bx.1
    have hlen := combosM_len (c := n) (by omega) dead
    refine Ev.step (fun k => impl_RangeCombos.l0.eq_2 _ _ _ _ _ k) ?_
    refine ev_pos (by simp; omega) (ev_pos (by omega) (ev_pos (by simp; omega) ?_))
    rw [rd_at]
    refine Ev.bind (implCombos_ev n (by omega) dead hd) ?_
    rw [w64 (by omega) (by omega), len_snoc pre (n : Int), app_snoc pre s]
    refine ev_pos (by omega) ?_
    have h := implRange_l0 dead hd s (pre ++ [(n : Int)]) (acc ++ combosM n dead) (fun c hc => hs c (by simp [hc])) (by simp; omega) (by simp; omega)
    simpa [rangeM] using h
theorem implRange_ev (r dead : List Int) (hr : r.length ≤ 10000000) (hd : dead.length ≤ 1000000000) : Ev (fun k => impl_RangeCombos.f k r dead) (rangeCombosM r dead) := by
  unfold impl_RangeCombos.f rangeCombosM
  refine Ev.bind (implIsRange_ev r (by omega)) ?_
  by_cases h1 : isRangeB r = true
  rotate_left
  · rw [if_neg h1]; exact ev_neg h1 (ev_now rfl)
  rw [if_pos h1]
  refine ev_pos h1 (Ev.bind (implCards_ev dead (by omega)) ?_)
  by_cases h2 : cardsB [] dead = true
  rotate_left
  · rw [if_neg h2]; exact ev_neg h2 (ev_now rfl)
  rw [if_pos h2]
  refine ev_pos h2 ?_
  exact implRange_l0 dead hd r [] [] (mem_isRange h1) (by simpa using hr) (by simp; omega)
theorem specCode_ev (r dead : List Int) (hr : r.length ≤ 10000000) (hd : dead.length ≤ 1000000000) : Ev (fun k => spec_l08Code.f k r dead) (if isRangeB r then (if cardsB [] dead then 0 else 2) else 1) := by
  unfold spec_l08Code.f
  refine Ev.bind (specIsRange_ev r (by omega)) ?_
  by_cases h1 : isRangeB r = true
  rotate_left
  · rw [if_neg h1]; exact ev_neg h1 (ev_now rfl)
  rw [if_pos h1]
  refine ev_pos h1 (Ev.bind (specCards_ev dead (by omega)) ?_)
  by_cases h2 : cardsB [] dead = true
  · simp only [if_pos h2]; exact ev_now rfl
  · simp only [if_neg h2]; exact ev_now rfl
def countCombosM (r dead : List Int) : Int × Int := (((rangeCombosM r dead).1.length : Int), (rangeCombosM r dead).2)
theorem specCountCombos_ev (r dead : List Int) (hr : r.length ≤ 10000000) (hd : dead.length ≤ 1000000000) : Ev (fun k => spec_CountCombos.f k r dead) (countCombosM r dead) := by
  unfold spec_CountCombos.f countCombosM rangeCombosM
  refine Ev.bind (specCode_ev r dead hr hd) ?_
  by_cases h1 : isRangeB r = true
  rotate_left
  · simp only [if_neg h1]; exact ev_neg (by decide) (ev_now rfl)
  simp only [if_pos h1]
  by_cases h2 : cardsB [] dead = true
  rotate_left
  · simp only [if_neg h2]; exact ev_neg (by decide) (ev_now rfl)
  simp only [if_pos h2]
  exact ev_pos trivial (Ev.bind (specRange_ev r dead hr hd h2 h1) (ev_now rfl))
theorem implCountCombos_ev (r dead : List Int) (hr : r.length ≤ 10000000) (hd : dead.length ≤ 1000000000) : Ev (fun k => impl_CountCombos.f k r dead) (countCombosM r dead) := by
  unfold impl_CountCombos.f countCombosM
  exact Ev.bind (implRange_ev r dead hr hd) (ev_now rfl)
theorem specGcd_ev (b : Nat) : ∀ a : Nat, Ev (fun k => spec_l01Gcd.f k (a : Int) (b : Int)) ((Nat.gcd b a : Nat) : Int) := by
  induction b using Nat.strongRecOn with
  | _ b ih =>
    intro a
    refine Ev.step (fun k => spec_l01Gcd.f.eq_2 _ _ k) ?_
    by_cases h : b = 0
    · subst h; exact ev_pos rfl (ev_now (by simp))
    · refine ev_neg (by omega) ?_
      rw [tmod_nat]
      have h2 := ih (a % b) (Nat.mod_lt _ (by omega)) b
      rw [← Nat.gcd_rec] at h2
      exact Ev.bind h2 (ev_now rfl)
theorem specAbs_eq (n : Nat) (h : n ≤ 1000000000000) : spec_l01Abs.f (n : Int) = some (n : Int) := by
  unfold spec_l01Abs.f
  rw [w64 (by omega) (by omega), mx_max]
  congr 1; omega
theorem specIsRatio_ev (a d : Nat) (ha : a ≤ 1000000000000) : Ev (fun k => spec_IsRatio.f k (a : Int) (d : Int)) (isRatioM a d) := by
  unfold spec_IsRatio.f isRatioM
  refine ev_bindc (l01In_eq _ _ _) ?_
  by_cases h1 : inR (-1000000000) 1000000000 (a : Int) = true
  rotate_left
  · exact ev_neg h1 (ev_now (by simp [h1]))
  refine ev_pos h1 (ev_bindc (l01In_eq _ _ _) ?_)
  by_cases h2 : inR 1 1000000000 (d : Int) = true
  rotate_left
  · exact ev_neg h2 (ev_now (by simp [h2]))
  refine ev_pos h2 (ev_bindc (specAbs_eq a ha) (Ev.bind (specGcd_ev d a) (ev_now ?_)))
  rw [h1, h2]; rfl
theorem specRatio_ev (n d : Nat) (hn : n ≤ 1000000000000) (hd : 0 < d) (hd2 : d ≤ 1000000000000) : Ev (fun k => spec_l01Ratio.f k (n : Int) (d : Int)) (ratioM n d) := by
  unfold spec_l01Ratio.f ratioM
  have hg : 0 < Nat.gcd d n := Nat.gcd_pos_of_pos_left _ hd
  refine ev_bindc (specAbs_eq n hn) (Ev.bind (specGcd_ev d n) (ev_neg (by omega) ?_))
  rw [tdiv_nat n _ hn, tdiv_nat d _ hd2]
  have h1 : n / Nat.gcd d n ≤ n := Nat.div_le_self _ _
  refine Ev.bind (specIsRatio_ev _ _ (by omega)) ?_
  by_cases h : isRatioM (n / Nat.gcd d n) (d / Nat.gcd d n) = true
  · simp only [if_pos h]; exact ev_now rfl
  · simp only [if_neg h]; exact ev_now rfl
theorem implGcd_l0 (b : Nat) : ∀ a : Nat, Ev (fun k => impl_divisorOf.l0 k (a : Int) (b : Int)) ((Nat.gcd b a : Nat) : Int) := by
  induction b using Nat.strongRecOn with
  | _ b ih =>
    intro a
    refine Ev.step (fun k => impl_divisorOf.l0.eq_2 _ _ k) ?_
    by_cases h : b = 0
    · subst h; exact ev_neg (by omega) (ev_now (by simp))
    · refine ev_pos (by omega) (ev_neg (by omega) ?_)
      rw [tmod_nat]
      have h2 := ih (a % b) (Nat.mod_lt _ (by omega)) b
      rw [← Nat.gcd_rec] at h2
      exact h2
theorem implGcd_ev (a b : Nat) : Ev (fun k => impl_divisorOf.f k (a : Int) (b : Int)) ((Nat.gcd b a : Nat) : Int) := by
  unfold impl_divisorOf.f; exact implGcd_l0 b a
theorem implAbs_eq (n : Nat) : impl_absOf.f (n : Int) = some (n : Int) := by
  unfold impl_absOf.f
  rw [if_neg (by omega)]
theorem implIsRatio_ev (a d : Nat) : Ev (fun k => impl_IsRatio.f k (a : Int) (d : Int)) (isRatioM a d) := by
  unfold impl_IsRatio.f isRatioM
  refine ev_bindc (within_eq _ _ _) ?_
  by_cases h1 : inR (-1000000000) 1000000000 (a : Int) = true
  rotate_left
  · exact ev_neg h1 (ev_now (by simp [h1]))
  refine ev_pos h1 (ev_bindc (within_eq _ _ _) ?_)
  by_cases h2 : inR 1 1000000000 (d : Int) = true
  rotate_left
  · exact ev_neg h2 (ev_now (by simp [h2]))
  refine ev_pos h2 (ev_bindc (implAbs_eq a) (Ev.bind (implGcd_ev a d) (ev_now ?_)))
  rw [h1, h2]; rfl
theorem implRatio_ev (n d : Nat) (hn : n ≤ 1000000000000) (hd : 0 < d) (hd2 : d ≤ 1000000000000) : Ev (fun k => impl_reduced.f k (n : Int) (d : Int)) (ratioM n d) := by
  unfold impl_reduced.f ratioM
  have hg : 0 < Nat.gcd d n := Nat.gcd_pos_of_pos_left _ hd
  refine ev_bindc (implAbs_eq n) (Ev.bind (implGcd_ev n d) (ev_neg (by omega) ?_))
  rw [tdiv_nat n _ hn, tdiv_nat d _ hd2]
  refine Ev.bind (implIsRatio_ev _ _) ?_
  by_cases h : isRatioM (n / Nat.gcd d n) (d / Nat.gcd d n) = true
  · simp only [if_pos h]; exact ev_now rfl
  · simp only [if_neg h]; exact ev_now rfl
theorem specSize_eq (n : Nat) (h : n ≤ 168) : spec_l08Size.f (n : Int) = some ((sizeN n : Nat) : Int) := by
  unfold spec_l08Size.f sizeN
  have e1 := tdiv_nat n 13 (by omega)
  have m1 := tmod_nat n 13
  simp only [Int.cast_ofNat_Int] at e1 m1
  rw [e1, m1]
  by_cases h1 : n / 13 = n % 13
  · rw [if_pos (by omega), if_pos h1]; rfl
  rw [if_neg (by omega), if_neg h1]
  by_cases h2 : n / 13 > n % 13
  · rw [if_pos (by omega), if_pos h2]; rfl
  · rw [if_neg (by omega), if_neg h2]; rfl
def shareM (r : List Int) : Int × Int × Int := if isRangeB r then ratioM (sizesM r) 1326 else (0, 0, 1)
theorem specShare_l0 : ∀ (s pre : List Int) (acc : Nat), (∀ c ∈ s, 0 ≤ c ∧ c ≤ 168) → pre.length + s.length ≤ 10000000 → acc + 12 * s.length ≤ 1000000000 →
    Ev (fun k => spec_ShareOf.l0 k (pre ++ s) (acc : Int) (pre.length : Int)) (ratioM (acc + sizesM s) 1326)
  | [], pre, acc, hs, hl, ha => by
    refine Ev.step (fun k => spec_ShareOf.l0.eq_2 _ _ _ k) ?_
    refine ev_neg (by simp) ?_
    have h := specRatio_ev acc 1326 (by omega) (by decide) (by decide)
    refine Ev.bind h (ev_now ?_)
    simp [sizesM]
  | x :: s, pre, acc, hs, hl, ha => by
    have hl' : pre.length + (s.length + 1) ≤ 10000000 := hl
    have ha' : acc + 12 * (s.length + 1) ≤ 1000000000 := ha
    have bx := hs x (by simp)
    obtain ⟨n, rfl⟩ := Int.eq_ofNat_of_zero_le bx.1
    have hn := sizeN_le n
    refine Ev.step (fun k => spec_ShareOf.l0.eq_2 _ _ _ k) ?_
    refine ev_pos (by simp; omega) (ev_pos (by omega) ?_)
    rw [rd_at]
    refine ev_bindc (specSize_eq n (by omega)) ?_
    have e : wrap64 ((acc : Int) + ((sizeN n : Nat) : Int)) = ((acc + sizeN n : Nat) : Int) := by rw [w64 (by omega) (by omega)]; simp
    rw [e, w64 (by omega) (by omega), len_snoc pre (n : Int), app_snoc pre s]
    have h := specShare_l0 s (pre ++ [(n : Int)]) (acc + sizeN n) (fun c hc => hs c (by simp [hc])) (by simp; omega) (by omega)
    have e2 : acc + sizesM ((n : Int) :: s) = acc + sizeN n + sizesM s := by simp only [sizesM, Int.toNat_natCast]; omega
    rw [e2]; exact h
theorem specShare_ev (r : List Int) (hr : r.length ≤ 10000000) : Ev (fun k => spec_ShareOf.f k r) (shareM r) := by
  unfold spec_ShareOf.f shareM
  refine Ev.bind (specIsRange_ev r (by omega)) ?_
  by_cases h1 : isRangeB r = true
  rotate_left
  · rw [if_neg h1]; exact ev_neg h1 (ev_now rfl)
  rw [if_pos h1]
  refine ev_pos h1 ?_
  have h := specShare_l0 r [] 0 (mem_isRange h1) (by simpa using hr) (by omega)
  rw [Nat.zero_add] at h
  exact h
def countCombosM' (r dead : List Int) : Int × Int := (((rangeCombosM r dead).1.length : Int), (rangeCombosM r dead).2)
theorem implCount_ev' (r dead : List Int) (hr : r.length ≤ 10000000) (hd : dead.length ≤ 1000000000) : Ev (fun k => impl_CountCombos.f k r dead) (countCombosM' r dead) := by
  unfold impl_CountCombos.f countCombosM'
  exact Ev.bind (implRange_ev r dead hr hd) (ev_now rfl)
theorem implShare_ev (r : List Int) (hr : r.length ≤ 10000000) : Ev (fun k => impl_ShareOf.f k r) (shareM r) := by
  unfold impl_ShareOf.f shareM
  refine Ev.bind (implCount_ev' r [] hr (by simp)) ?_
  unfold countCombosM' rangeCombosM
  by_cases h1 : isRangeB r = true
  rotate_left
  · simp only [if_neg h1]; exact ev_neg (by decide) (ev_now rfl)
  have h2 : cardsB [] [] = true := rfl
  simp only [if_pos h1, if_pos h2, rangeM_len r (mem_isRange h1)]
  have hb := sizesM_le r
  refine ev_pos trivial ?_
  have h := implRatio_ev (sizesM r) 1326 (by omega) (by decide) (by decide)
  exact Ev.bind h (ev_now rfl)
theorem srcFrom_l0 (code : List Int) (hb : BytesOk code) : ∀ (s pre : List Int) (seed : Int), code = pre ++ s → 0 ≤ seed → seed < 2147483647 →
    ∃ seed', Ev (fun k => spec_l01From.l0 k code (pre.length : Int) code 0 seed) (code, 0, seed') ∧ 0 ≤ seed' ∧ seed' < 2147483647
  | [], pre, seed, hc, h0, h1 => by
    refine ⟨seed, Ev.step (fun k => spec_l01From.l0.eq_2 _ _ _ _ _ k) (ev_neg (by rw [hc]; simp) (ev_now rfl)), h0, h1⟩
  | x :: s, pre, seed, hc, h0, h1 => by
    have hl : code.length = pre.length + (s.length + 1) := by rw [hc]; simp
    have hbl := hb.1
    by_cases h64 : (pre.length : Int) < 64
    · have hx := hb.2 x (by rw [hc]; simp)
      have e : rd code (pre.length : Int) = x := by rw [hc]; exact rd_at _ _ _
      have w : wrap64 (wrap64 (seed * 61) + wrap64 x) = seed * 61 + x := by
        rw [w64 (n := seed * 61) (by omega) (by omega), w64 (n := x) (by omega) (by omega), w64 (by omega) (by omega)]
      have t := tmod_range (y := seed * 61 + x) (n := 2147483647) (by omega) (by omega)
      obtain ⟨seed', h, hs⟩ := srcFrom_l0 code hb s (pre ++ [x]) (Int.tmod (seed * 61 + x) 2147483647) (by rw [hc]; simp) t.1 t.2
      refine ⟨seed', Ev.step (fun k => spec_l01From.l0.eq_2 _ _ _ _ _ k) (ev_pos (by omega) (ev_pos h64 (ev_pos (by omega) ?_))), hs⟩
      rw [e, w, w64 (by omega) (by omega), len_snoc pre x]
      exact h
    · exact ⟨seed, Ev.step (fun k => spec_l01From.l0.eq_2 _ _ _ _ _ k) (ev_pos (by omega) (ev_neg h64 (ev_now rfl))), h0, h1⟩
theorem srcFrom_ok (code : List Int) (hb : BytesOk code) : ∃ seed, Ev (fun k => spec_l01From.f k code) (code, 0, seed) ∧ SrcOk code 0 seed := by
  unfold spec_l01From.f
  obtain ⟨seed, h, h0, h1⟩ := srcFrom_l0 code hb code [] 45007 rfl (by decide) (by decide)
  exact ⟨seed, h, Int.le_refl 0, by omega, h0, h1⟩
theorem next_ok {code : List Int} {p seed : Int} (hb : BytesOk code) (h : SrcOk code p seed) (n : Int) :
    ∃ x p' seed', spec_l01Next.f code p seed n = some (x, p', seed') ∧ SrcOk code p' seed' ∧ 0 ≤ x ∧ (1 ≤ n → x < n) := by
  obtain ⟨hp0, hp1, hs0, hs1⟩ := h
  have hbl := hb.1
  unfold spec_l01Next.f
  by_cases h1 : n ≤ 1
  · exact ⟨0, p, seed, by rw [if_pos h1], ⟨hp0, hp1, hs0, hs1⟩, Int.le_refl 0, fun _ => by omega⟩
  rw [if_neg h1]
  have w : wrap64 (wrap64 (seed * 48271) + 29) = seed * 48271 + 29 := by rw [w64 (n := seed * 48271) (by omega) (by omega), w64 (by omega) (by omega)]
  have hS := tmod_range (y := seed * 48271 + 29) (n := 2147483647) (by omega) (by omega)
  rw [w]
  generalize Int.tmod (seed * 48271 + 29) 2147483647 = S at hS ⊢
  have d31 : wrap64 (Int.tdiv S 31) = S / 31 := by rw [Int.tdiv_eq_ediv_of_nonneg hS.1]; exact w64 (by omega) (by omega)
  rw [d31]
  by_cases h2 : p < (code.length : Int)
  · have hr := hb.2 _ (rd_mem hp0 h2)
    have e1 : wrap64 (p + 1) = p + 1 := w64 (by omega) (by omega)
    have e2 : wrap64 (p + 1 - 1) = p := by rw [w64 (by omega) (by omega)]; omega
    rw [if_pos h2, if_pos hp0, e1, e2]
    generalize rd code p = c at hr ⊢
    have ec : wrap64 c = c := w64 (by omega) (by omega)
    rw [ec]
    have ed : wrap64 (S / 31 + c) = S / 31 + c := w64 (by omega) (by omega)
    rw [ed]
    have t1 := tmod_range (y := c) (n := n) hr.1 (by omega)
    have t2 := tmod_range (y := S / 31 + c) (n := n) (by omega) (by omega)
    have hok : SrcOk code (p + 1) S := ⟨by omega, by omega, hS.1, hS.2⟩
    by_cases h3 : n ≤ 256
    · rw [if_pos h3]
      by_cases h4 : Int.tmod (p + 1) 2 = 0
      · rw [if_pos h4, if_pos hp0, if_pos h2, if_neg (by omega)]
        exact ⟨_, _, _, rfl, hok, t1.1, fun _ => t1.2⟩
      · rw [if_neg h4, if_neg (by omega)]
        exact ⟨_, _, _, rfl, hok, t2.1, fun _ => t2.2⟩
    · rw [if_neg h3, if_neg (by omega)]
      exact ⟨_, _, _, rfl, hok, t2.1, fun _ => t2.2⟩
  · have ew : wrap64 (S / 31) = S / 31 := w64 (by omega) (by omega)
    have t2 := tmod_range (y := S / 31) (n := n) (by omega) (by omega)
    rw [if_neg h2, if_neg (by omega)]
    exact ⟨_, _, _, rfl, ⟨hp0, hp1, hS.1, hS.2⟩, t2.1, fun _ => t2.2⟩
theorem pick_ok {code : List Int} {p seed : Int} (hb : BytesOk code) (h : SrcOk code p seed) (l : List Int) (hl : 1 ≤ l.length) :
    ∃ x p' seed', spec_l01Pick.f code p seed l = some (x, p', seed') ∧ SrcOk code p' seed' ∧ x ∈ l := by
  obtain ⟨x, p', s', e, hok, hx0, hx1⟩ := next_ok hb h (l.length : Int)
  unfold spec_l01Pick.f
  rw [e]
  have hlt := hx1 (by omega)
  simp only [Option.bind_some, if_pos hx0, if_pos hlt]
  exact ⟨_, _, _, rfl, hok, rd_mem hx0 hlt⟩
theorem others_l0 (l : List Int) (hl : l.length ≤ 1000000) : ∀ (d c : Nat) (acc : List Int), c + d = 52 → acc.length + d ≤ 60 → ∃ r, Ev (fun k => spec_l02Others.l0 k l acc (c : Int)) r ∧ r.length ≤ acc.length + d
  | 0, c, acc, hc, ha => ⟨acc, Ev.step (fun k => spec_l02Others.l0.eq_2 _ _ _ k) (ev_neg (by omega) (ev_now rfl)), by omega⟩
  | d + 1, c, acc, hc, ha => by
    have ec : wrap64 ((c : Int) + 1) = ((c + 1 : Nat) : Int) := by rw [w64 (by omega) (by omega)]; simp
    by_cases h : l.contains (c : Int) = true
    · obtain ⟨r, hr, hlen⟩ := others_l0 l hl d (c + 1) acc (by omega) (by omega)
      refine ⟨r, Ev.step (fun k => spec_l02Others.l0.eq_2 _ _ _ k) (ev_pos (by omega) (Ev.bind (l01Has_ev l _ (by omega)) (ev_pos h ?_))), by omega⟩
      rw [ec]; exact hr
    · obtain ⟨r, hr, hlen⟩ := others_l0 l hl d (c + 1) (acc ++ [(c : Int)]) (by omega) (by simp; omega)
      refine ⟨r, Ev.step (fun k => spec_l02Others.l0.eq_2 _ _ _ k) (ev_pos (by omega) (Ev.bind (l01Has_ev l _ (by omega)) (ev_neg h (ev_pos (by omega) ?_)))), by simp at hlen; omega⟩
      rw [ec]; exact hr
theorem others_ok (l : List Int) (hl : l.length ≤ 1000000) : ∃ r, Ev (fun k => spec_l02Others.f k l) r ∧ r.length ≤ 52 := by
  unfold spec_l02Others.f
  obtain ⟨r, h, hlen⟩ := others_l0 l hl 52 0 [] rfl (by simp)
  exact ⟨r, h, by simpa using hlen⟩
theorem deal_l0 {code : List Int} (hb : BytesOk code) : ∀ (d : Nat) (n : Int) (rest out : List Int) (p seed : Int), SrcOk code p seed → rest.length ≤ d → out.length + d ≤ 100 → n ≤ 1000 →
    ∃ r p' seed', Ev (fun k => spec_l02Deal.l0 k n rest out code p seed) (r, p', seed') ∧ SrcOk code p' seed' ∧ r.length ≤ out.length + d ∧ (n ≤ 0 → r.length = out.length) := by
  intro d
  induction d with
  | zero =>
    intro n rest out p seed h hr ho hn
    refine ⟨out, p, seed, Ev.step (fun k => spec_l02Deal.l0.eq_2 _ _ _ _ _ _ k) ?_, h, by omega, fun _ => rfl⟩
    by_cases h1 : n > 0
    · exact ev_pos h1 (ev_neg (by omega) (ev_now rfl))
    · exact ev_neg h1 (ev_now rfl)
  | succ d ih =>
    intro n rest out p seed h hr ho hn
    by_cases h1 : n > 0
    rotate_left
    · exact ⟨out, p, seed, Ev.step (fun k => spec_l02Deal.l0.eq_2 _ _ _ _ _ _ k) (ev_neg h1 (ev_now rfl)), h, by omega, fun _ => rfl⟩
    by_cases h2 : (rest.length : Int) > 0
    rotate_left
    · exact ⟨out, p, seed, Ev.step (fun k => spec_l02Deal.l0.eq_2 _ _ _ _ _ _ k) (ev_pos h1 (ev_neg h2 (ev_now rfl))), h, by omega, fun _ => rfl⟩
    obtain ⟨x, p1, s1, e, hok, hx0, hx1⟩ := next_ok hb h (rest.length : Int)
    have hlt := hx1 (by omega)
    have e1 : wrap64 (x + 1) = x + 1 := w64 (by omega) (by omega)
    have e2 : wrap64 (n - 1) = n - 1 := w64 (by omega) (by omega)
    have l1 : ([] ++ rest.take x.toNat ++ rest.drop (x + 1).toNat : List Int).length ≤ d := by simp; omega
    obtain ⟨r, p2, s2, hr2, hok2, hlen, _⟩ := ih (n - 1) ([] ++ rest.take x.toNat ++ rest.drop (x + 1).toNat) (out ++ [rd rest x]) p1 s1 hok l1 (by simp; omega) (by omega)
    refine ⟨r, p2, s2, Ev.step (fun k => spec_l02Deal.l0.eq_2 _ _ _ _ _ _ k) (ev_pos h1 (ev_pos h2 (ev_bindc e ?_))), hok2, by simp at hlen; omega, fun g => by omega⟩
    simp only [e1, e2]
    refine ev_pos hx0 (ev_pos hlt (ev_pos (by omega) (ev_bindc rfl (ev_pos (by omega) (ev_bindc rfl (ev_pos (by simp; omega) (ev_bindc rfl (ev_pos (by omega) (ev_pos (by omega) (ev_bindc rfl (ev_pos (by simp; omega) ?_)))))))))))
    exact hr2
theorem deal_ok {code : List Int} {p seed : Int} (hb : BytesOk code) (h : SrcOk code p seed) (n : Int) (hn : n ≤ 1000) (l : List Int) (hl : l.length ≤ 1000000) :
    ∃ r p' seed', Ev (fun k => spec_l02Deal.f k code p seed n l) (r, p', seed') ∧ SrcOk code p' seed' ∧ r.length ≤ 52 := by
  unfold spec_l02Deal.f
  obtain ⟨rest, hr, hlen⟩ := others_ok l hl
  obtain ⟨r, p', s', h2, hok, hl2, _⟩ := deal_l0 hb 52 n rest [] p seed h hlen (by simp) hn
  exact ⟨r, p', s', Ev.bind hr h2, hok, by simpa using hl2⟩
theorem drawList_ok {code : List Int} {p seed : Int} (hb : BytesOk code) (h : SrcOk code p seed) (most : Int) (h0 : 0 ≤ most) (hm : most ≤ 100) :
    ∃ r p' seed', Ev (fun k => spec_l02DrawList.f k code p seed most) (r, p', seed') ∧ SrcOk code p' seed' ∧ r.length ≤ 53 := by
  unfold spec_l02DrawList.f
  rw [w64 (by omega) (by omega)]
  obtain ⟨x, p1, s1, e1, ok1, hx0, hx1⟩ := next_ok hb h (most + 1)
  have := hx1 (by omega)
  obtain ⟨r, p2, s2, e2, ok2, hl2⟩ := deal_ok hb ok1 x (by omega) [] (by simp)
  obtain ⟨y, p3, s3, e3, ok3, hy0, hy1⟩ := next_ok hb ok2 24
  by_cases c0 : y = 0
  · obtain ⟨z, p4, s4, e4, ok4, _⟩ := pick_ok hb ok3 [(-1), 52] (by simp)
    exact ⟨r ++ [z], p4, s4, ev_bindc e1 (Ev.bind e2 (ev_bindc e3 (ev_pos c0 (ev_bindc e4 (ev_pos (by simp only; omega) (ev_now rfl)))))), ok4, by simp; omega⟩
  by_cases c1 : y = 1
  · by_cases c2 : (r.length : Int) > 0
    · exact ⟨r ++ [rd r 0], p3, s3, ev_bindc e1 (Ev.bind e2 (ev_bindc e3 (ev_neg c0 (ev_pos c1 (ev_pos c2 (ev_pos (by simp only; omega) (ev_pos (by simp only; omega) (ev_now rfl)))))))), ok3, by simp; omega⟩
    · exact ⟨r, p3, s3, ev_bindc e1 (Ev.bind e2 (ev_bindc e3 (ev_neg c0 (ev_pos c1 (ev_neg c2 (ev_now rfl)))))), ok3, by omega⟩
  by_cases c2 : y = 2
  · obtain ⟨r4, p4, s4, e4, ok4, hl4⟩ := deal_ok hb ok3 52 (by omega) [] (by simp)
    exact ⟨r4, p4, s4, ev_bindc e1 (Ev.bind e2 (ev_bindc e3 (ev_neg c0 (ev_neg c1 (ev_pos c2 (Ev.bind e4 (ev_now rfl))))))), ok4, by omega⟩
  · exact ⟨r, p3, s3, ev_bindc e1 (Ev.bind e2 (ev_bindc e3 (ev_neg c0 (ev_neg c1 (ev_neg c2 (ev_now rfl)))))), ok3, by omega⟩
theorem likeInts_l0 : ∀ (s pre : List Int), pre.length + s.length ≤ 1000000000000 →
    Ev (fun k => laws_likeInts.l0 k (pre ++ s) (pre ++ s) (pre.length : Int)) true
  | [], pre, hl => by
    refine Ev.step (fun k => laws_likeInts.l0.eq_2 _ _ _ k) ?_
    exact ev_neg (by simp) (ev_now rfl)
  | x :: s, pre, hl => by
    have hl' : pre.length + (s.length + 1) ≤ 1000000000000 := hl
    refine Ev.step (fun k => laws_likeInts.l0.eq_2 _ _ _ k) ?_
    refine ev_pos (by simp; omega) (ev_pos (by omega) (ev_pos (by simp; omega) (ev_pos rfl ?_)))
    rw [w64 (by omega) (by omega), len_snoc pre x, app_snoc pre s x]
    exact likeInts_l0 s (pre ++ [x]) (by simp; omega)
theorem likeInts_ev {a b : List Int} (e : a = b) (hl : a.length ≤ 1000000000000) : Ev (fun k => laws_likeInts.f k a b) true := by
  subst e
  unfold laws_likeInts.f
  exact ev_pos rfl (likeInts_l0 a [] (by simpa using hl))
theorem rdl_at2 (pre s : List (List Int)) (x : List Int) : rd_L2 (pre ++ x :: s) (pre.length : Int) = x := by
  simp [rd_L2, List.getD_eq_getElem?_getD]
theorem likeLists_l0 : ∀ (s pre : List (List Int)), pre.length + s.length ≤ 1000000000 → (∀ p ∈ s, p.length ≤ 1000000000) →
    Ev (fun k => laws_likeLists.l0 k (pre ++ s) (pre ++ s) (pre.length : Int)) true
  | [], pre, hl, hp => by
    refine Ev.step (fun k => laws_likeLists.l0.eq_2 _ _ _ k) ?_
    exact ev_neg (by simp) (ev_now rfl)
  | x :: s, pre, hl, hp => by
    have hl' : pre.length + (s.length + 1) ≤ 1000000000 := hl
    have hx := hp x (by simp)
    refine Ev.step (fun k => laws_likeLists.l0.eq_2 _ _ _ k) ?_
    refine ev_pos (by simp; omega) (ev_pos (by omega) (ev_pos (by simp; omega) ?_))
    rw [rdl_at2]
    refine Ev.bind (likeInts_ev rfl (by omega)) (ev_pos rfl ?_)
    rw [w64 (by omega) (by omega), len_snoc pre x, app_snoc pre s x]
    exact likeLists_l0 s (pre ++ [x]) (by simp; omega) (fun p h => hp p (by simp [h]))
theorem likeLists_ev {a b : List (List Int)} (e : a = b) (hl : a.length ≤ 1000000000) (hp : ∀ p ∈ a, p.length ≤ 1000000000) : Ev (fun k => laws_likeLists.f k a b) true := by
  subst e
  unfold laws_likeLists.f
  exact ev_pos rfl (likeLists_l0 a [] (by simpa using hl) hp)
theorem likeIntsG_l0 : ∀ (s t pre1 pre2 : List Int), pre1.length = pre2.length → s.length = t.length → pre1.length + s.length ≤ 1000000000000 →
    Ev (fun k => laws_likeInts.l0 k (pre1 ++ s) (pre2 ++ t) (pre1.length : Int)) (decide (s = t))
  | [], [], pre1, pre2, h1, h2, hl => by
    refine Ev.step (fun k => laws_likeInts.l0.eq_2 _ _ _ k) ?_
    exact ev_neg (by simp) (ev_now (by simp))
  | x :: s, y :: t, pre1, pre2, h1, h2, hl => by
    have hl' : pre1.length + (s.length + 1) ≤ 1000000000000 := hl
    have h2' : s.length = t.length := by simpa using h2
    refine Ev.step (fun k => laws_likeInts.l0.eq_2 _ _ _ k) ?_
    refine ev_pos (by simp; omega) (ev_pos (by omega) (ev_pos (by simp; omega) ?_))
    have e2 : rd (pre2 ++ y :: t) (pre1.length : Int) = y := by rw [h1]; exact rd_at _ _ _
    rw [rd_at, e2]
    by_cases e : x = y
    · subst e
      refine ev_pos rfl ?_
      rw [w64 (by omega) (by omega), len_snoc pre1 x, app_snoc pre1 s x, app_snoc pre2 t x]
      have h := likeIntsG_l0 s t (pre1 ++ [x]) (pre2 ++ [x]) (by simp [h1]) h2' (by simp; omega)
      simpa using h
    · exact ev_neg e (ev_now (by simp [e]))
  | [], y :: t, pre1, pre2, h1, h2, hl => by simp at h2
  | x :: s, [], pre1, pre2, h1, h2, hl => by simp at h2
theorem likeIntsG_ev (a b : List Int) (hl : a.length ≤ 1000000000000) : Ev (fun k => laws_likeInts.f k a b) (decide (a = b)) := by
  unfold laws_likeInts.f
  by_cases h : (a.length : Int) = (b.length : Int)
  · exact ev_pos h (likeIntsG_l0 a b [] [] rfl (by omega) (by simpa using hl))
  · refine ev_neg h (ev_now ?_)
    symm
    rw [decide_eq_false_iff_not]
    intro e; subst e; exact h rfl
theorem specOther_l0 (r : List Int) (hr : r.length ≤ 1048576) : ∀ (d : Nat) (out : List Int), d ≤ 169 → out.length + d ≤ 1000 →
    Ev (fun k => spec_OtherRange.l0 k r out (169 - (d : Int))) (out ++ othersM r d, 0)
  | 0, out, hd, ho => by
    refine Ev.step (fun k => spec_OtherRange.l0.eq_2 _ _ _ k) ?_
    exact ev_neg (by omega) (ev_now (by simp [othersM]))
  | d + 1, out, hd, ho => by
    refine Ev.step (fun k => spec_OtherRange.l0.eq_2 _ _ _ k) ?_
    refine ev_pos (by omega) (Ev.bind (l01Has_ev r _ (by omega)) ?_)
    have e : wrap64 (169 - ((d + 1 : Nat) : Int) + 1) = 169 - (d : Int) := by rw [w64 (by omega) (by omega)]; omega
    rw [othersM_succ]
    by_cases h : r.contains (169 - ((d + 1 : Nat) : Int)) = true
    · refine ev_pos h ?_
      rw [e, if_pos h, List.nil_append]
      exact specOther_l0 r hr d out (by omega) (by omega)
    · refine ev_neg h (ev_pos (by omega) ?_)
      rw [e, if_neg h, ← List.append_assoc]
      exact specOther_l0 r hr d _ (by omega) (by simp; omega)
theorem specOther_ev (r : List Int) (hr : r.length ≤ 1048576) : Ev (fun k => spec_OtherRange.f k r) (otherM r) := by
  unfold spec_OtherRange.f otherM
  refine Ev.bind (specIsRange_ev r (by omega)) ?_
  by_cases h : isRangeB r = true
  · rw [if_pos h]
    exact ev_pos h (specOther_l0 r hr 169 [] (by omega) (by simp))
  · rw [if_neg h]
    exact ev_neg h (ev_now rfl)
theorem implOther_l0 (r : List Int) (hr : r.length ≤ 1048576) : ∀ (d : Nat) (out : List Int), d ≤ 169 → out.length + d ≤ 1000 →
    Ev (fun k => impl_OtherRange.l0 k r out (169 - (d : Int))) (out ++ othersM r d, 0)
  | 0, out, hd, ho => by
    refine Ev.step (fun k => impl_OtherRange.l0.eq_2 _ _ _ k) ?_
    exact ev_neg (by omega) (ev_now (by simp [othersM]))
  | d + 1, out, hd, ho => by
    refine Ev.step (fun k => impl_OtherRange.l0.eq_2 _ _ _ k) ?_
    refine ev_pos (by omega) (Ev.bind (slContains_ev r _ (by omega)) ?_)
    have e : wrap64 (169 - ((d + 1 : Nat) : Int) + 1) = 169 - (d : Int) := by rw [w64 (by omega) (by omega)]; omega
    rw [othersM_succ]
    by_cases h : r.contains (169 - ((d + 1 : Nat) : Int)) = true
    · refine ev_pos h ?_
      rw [e, if_pos h, List.nil_append]
      exact implOther_l0 r hr d out (by omega) (by omega)
    · refine ev_neg h (ev_pos (by omega) ?_)
      rw [e, if_neg h, ← List.append_assoc]
      exact implOther_l0 r hr d _ (by omega) (by simp; omega)
theorem implOther_ev (r : List Int) (hr : r.length ≤ 1048576) : Ev (fun k => impl_OtherRange.f k r) (otherM r) := by
  unfold impl_OtherRange.f otherM
  refine Ev.bind (implIsRange_ev r (by omega)) ?_
  by_cases h : isRangeB r = true
  · rw [if_pos h]
    exact ev_pos h (implOther_l0 r hr 169 [] (by omega) (by simp))
  · rw [if_neg h]
    exact ev_neg h (ev_now rfl)
theorem range08_l0 (l : List Int) (hl : l.length ≤ 1000000) : ∀ (d : Nat) (acc : List Int), d ≤ 169 → acc.length + d ≤ 1000 → ∃ r, Ev (fun k => spec_l08Range.l0 k l acc (169 - (d : Int))) r ∧ r.length ≤ acc.length + d
  | 0, acc, hd, ha => ⟨acc, Ev.step (fun k => spec_l08Range.l0.eq_2 _ _ _ k) (ev_neg (by omega) (ev_now rfl)), by omega⟩
  | d + 1, acc, hd, ha => by
    have ec : wrap64 (169 - ((d + 1 : Nat) : Int) + 1) = 169 - (d : Int) := by rw [w64 (by omega) (by omega)]; omega
    by_cases h : l.contains (169 - ((d + 1 : Nat) : Int)) = true
    · obtain ⟨r, hr, hlen⟩ := range08_l0 l hl d (acc ++ [169 - ((d + 1 : Nat) : Int)]) (by omega) (by simp; omega)
      refine ⟨r, Ev.step (fun k => spec_l08Range.l0.eq_2 _ _ _ k) (ev_pos (by omega) (Ev.bind (l01Has_ev l _ (by omega)) (ev_pos h (ev_pos (by omega) ?_)))), by simp at hlen; omega⟩
      rw [ec]; exact hr
    · obtain ⟨r, hr, hlen⟩ := range08_l0 l hl d acc (by omega) (by omega)
      refine ⟨r, Ev.step (fun k => spec_l08Range.l0.eq_2 _ _ _ k) (ev_pos (by omega) (Ev.bind (l01Has_ev l _ (by omega)) (ev_neg h ?_))), by omega⟩
      rw [ec]; exact hr
theorem range08_ok (l : List Int) (hl : l.length ≤ 1000000) : ∃ r, Ev (fun k => spec_l08Range.f k l) r ∧ r.length ≤ 169 := by
  unfold spec_l08Range.f
  obtain ⟨r, h, hlen⟩ := range08_l0 l hl 169 [] (by omega) (by simp)
  exact ⟨r, h, by simpa using hlen⟩
theorem draw08_l0 {code : List Int} (hb : BytesOk code) : ∀ (d : Nat) (acc : List Int) (p seed : Int), SrcOk code p seed → acc.length + d ≤ 1000 → d ≤ 100 →
    ∃ r p' seed', Ev (fun k => spec_l08Draw.l0 k acc (d : Int) code p seed) (r, p', seed') ∧ SrcOk code p' seed' ∧ r.length ≤ 170
  | 0, acc, p, seed, h, ha, hd => by
    obtain ⟨q, eq, hq⟩ := range08_ok acc (by omega)
    obtain ⟨x, p1, s1, e1, ok1, _, _⟩ := next_ok hb h 20
    by_cases c0 : x = 0
    · obtain ⟨z, p2, s2, e2, ok2, _⟩ := pick_ok hb ok1 [(-1), 0, 169] (by simp)
      exact ⟨q ++ [z], p2, s2, Ev.step (fun k => spec_l08Draw.l0.eq_2 _ _ _ _ _ k) (ev_neg (by omega) (Ev.bind eq (ev_bindc e1 (ev_pos c0 (ev_bindc e2 (ev_pos (by omega) (ev_now rfl))))))), ok2, by simp; omega⟩
    by_cases c1 : x = 1
    · obtain ⟨o, eo, ho⟩ := others_ok [] (by simp)
      obtain ⟨r, er, hr⟩ := range08_ok o (by omega)
      exact ⟨r, p1, s1, Ev.step (fun k => spec_l08Draw.l0.eq_2 _ _ _ _ _ k) (ev_neg (by omega) (Ev.bind eq (ev_bindc e1 (ev_neg c0 (ev_pos c1 (Ev.bind eo (Ev.bind er (ev_now rfl)))))))), ok1, by omega⟩
    by_cases c2 : x = 2
    · have hl := otherM_len []
      exact ⟨(otherM []).1, p1, s1, Ev.step (fun k => spec_l08Draw.l0.eq_2 _ _ _ _ _ k) (ev_neg (by omega) (Ev.bind eq (ev_bindc e1 (ev_neg c0 (ev_neg c1 (ev_pos c2 (Ev.bind (specOther_ev [] (by simp)) (ev_now rfl)))))))), ok1, by omega⟩
    · exact ⟨q, p1, s1, Ev.step (fun k => spec_l08Draw.l0.eq_2 _ _ _ _ _ k) (ev_neg (by omega) (Ev.bind eq (ev_bindc e1 (ev_neg c0 (ev_neg c1 (ev_neg c2 (ev_now rfl))))))), ok1, by omega⟩
  | d + 1, acc, p, seed, h, ha, hd => by
    obtain ⟨x, p1, s1, e1, ok1, _, _⟩ := next_ok hb h 169
    obtain ⟨r, p2, s2, e2, ok2, hr⟩ := draw08_l0 hb d (acc ++ [x]) p1 s1 ok1 (by simp; omega) (by omega)
    refine ⟨r, p2, s2, Ev.step (fun k => spec_l08Draw.l0.eq_2 _ _ _ _ _ k) (ev_pos (by omega) (ev_bindc e1 (ev_pos (by omega) ?_))), ok2, hr⟩
    have e : wrap64 (((d + 1 : Nat) : Int) - 1) = (d : Int) := by rw [w64 (by omega) (by omega)]; omega
    rw [e]; exact e2
theorem draw08_ok {code : List Int} {p seed : Int} (hb : BytesOk code) (h : SrcOk code p seed) : ∃ r p' seed', Ev (fun k => spec_l08Draw.f k code p seed) (r, p', seed') ∧ SrcOk code p' seed' ∧ r.length ≤ 170 := by
  unfold spec_l08Draw.f
  obtain ⟨x, p1, s1, e1, ok1, hx0, hx1⟩ := next_ok hb h 6
  have hx := hx1 (by omega)
  obtain ⟨n, rfl⟩ := Int.eq_ofNat_of_zero_le hx0
  obtain ⟨r, p2, s2, e2, ok2, hr⟩ := draw08_l0 hb n [] p1 s1 ok1 (by simp; omega) (by omega)
  exact ⟨r, p2, s2, ev_bindc e1 e2, ok2, hr⟩
theorem specRangeCombos_ev (r dead : List Int) (hr : r.length ≤ 10000000) (hd : dead.length ≤ 1000000000) : Ev (fun k => spec_RangeCombos.f k r dead) (rangeCombosM r dead) := by
  unfold spec_RangeCombos.f
  refine Ev.bind (specCode_ev r dead hr hd) ?_
  unfold rangeCombosM
  by_cases h1 : isRangeB r = true
  rotate_left
  · simp only [if_neg h1]; exact ev_neg (by decide) (ev_now rfl)
  simp only [if_pos h1]
  by_cases h2 : cardsB [] dead = true
  rotate_left
  · simp only [if_neg h2]; exact ev_neg (by decide) (ev_now rfl)
  simp only [if_pos h2]
  exact ev_pos trivial (Ev.bind (specRange_ev r dead hr hd h2 h1) (ev_now rfl))
theorem drawCount_ok (code : List Int) (hb : BytesOk code) : ∃ r dead, Ev (fun k => spec_DrawCountCombos.f k code) (r, dead) ∧ r.length ≤ 170 ∧ dead.length ≤ 53 := by
  unfold spec_DrawCountCombos.f
  obtain ⟨s, e, ok⟩ := srcFrom_ok code hb
  obtain ⟨r, p1, s1, e1, ok1, hr⟩ := draw08_ok hb ok
  obtain ⟨d, p2, s2, e2, ok2, hl⟩ := drawList_ok hb ok1 8 (by decide) (by decide)
  exact ⟨r, d, Ev.bind e (Ev.bind e1 (Ev.bind e2 (ev_now rfl))), hr, hl⟩
theorem drawShare_ok (code : List Int) (hb : BytesOk code) : ∃ r, Ev (fun k => spec_DrawShareOf.f k code) r ∧ r.length ≤ 170 := by
  unfold spec_DrawShareOf.f
  obtain ⟨s, e, ok⟩ := srcFrom_ok code hb
  obtain ⟨r, p1, s1, e1, ok1, hr⟩ := draw08_ok hb ok
  exact ⟨r, Ev.bind e (Ev.bind e1 (ev_now rfl)), hr⟩
end LFnRangeShares
open LFnRangeShares
theorem FnRangeShares : laws_FnRangeShares.Pure := by
  intro code _ _ hw
  refine Ev.rounds (g := fun k => laws_FnRangeShares.f k code) ?_
  unfold laws_FnRangeShares.f
  refine ev_bindc rfl ?_
  by_cases hbig : (code.length : Int) > 4096
  · exact ev_pos (by simpa using hbig) (ev_now rfl)
  refine ev_neg (by simpa using hbig) ?_
  have hb : BytesOk code := ⟨by omega, fun x hx => byte_wf (hw x hx)⟩
  obtain ⟨r, dead, e1, hr, hd⟩ := drawCount_ok code hb
  obtain ⟨q, e2, hq⟩ := drawShare_ok code hb
  have hlen := rangeCombosM_len r dead (by omega)
  refine Ev.bind e1 (Ev.bind (implCountCombos_ev r dead (by omega) (by omega)) (Ev.bind (specCountCombos_ev r dead (by omega) (by omega)) (Ev.bind (implRange_ev r dead (by omega) (by omega)) (Ev.bind (specRangeCombos_ev r dead (by omega) (by omega)) (Ev.bind e2 (Ev.bind (implShare_ev q (by omega)) (Ev.bind (specShare_ev q (by omega)) ?_)))))))
  refine ev_pos rfl (ev_pos rfl (ev_pos rfl (Ev.bind (likeLists_ev rfl (by omega) (fun p hp => by rw [rangeCombosM_pairs r dead p hp]; decide)) (ev_pos rfl (ev_pos rfl ?_)))))
  refine Ev.step (fun k => laws_FnRangeShares.j0.eq_2 _ _ _ _ _ k) (ev_neg (by simp) ?_)
  by_cases h1 : isRangeB r = true
  rotate_left
  · exact ev_neg (by unfold countCombosM rangeCombosM; simp only [if_neg h1]; decide) (ev_now rfl)
  by_cases h2 : cardsB [] dead = true
  rotate_left
  · exact ev_neg (by unfold countCombosM rangeCombosM; simp only [if_pos h1, if_neg h2]; decide) (ev_now rfl)
  have n2 : cardsB [] [] = true := rfl
  have cnt : ∀ x, isRangeB x = true → countCombosM x [] = (((sizesM x : Nat) : Int), 0) := fun x hx => by
    unfold countCombosM rangeCombosM
    simp only [if_pos hx, if_pos n2, rangeM_len x (mem_isRange hx)]
  have oth : otherM r = (othersM r 169, 0) := if_pos h1
  have olen := othersM_len r 169
  have sum := sizes_both h1
  refine ev_pos (by unfold countCombosM rangeCombosM; simp only [if_pos h1, if_pos h2]) ?_
  refine Ev.bind (implCountCombos_ev r [] (by omega) (by simp)) (Ev.bind (implOther_ev r (by omega)) ?_)
  rw [oth, cnt r h1]
  refine Ev.bind (implCountCombos_ev (othersM r 169) [] (by omega) (by simp)) ?_
  rw [cnt _ (others_range r)]
  refine ev_pos rfl (ev_pos rfl (ev_pos rfl ?_))
  simp only
  rw [w64 (by omega) (by omega)]
  refine ev_pos (by omega) ?_
  have e3 : (countCombosM r dead).1 = ((rangeM dead r).length : Int) := by
    unfold countCombosM rangeCombosM; simp only [if_pos h1, if_pos h2]
  have e4 : (rangeCombosM r dead).1 = rangeM dead r := by
    unfold rangeCombosM; simp only [if_pos h1, if_pos h2]
  have hle := rangeM_le dead r
  rw [rangeM_len r (mem_isRange h1)] at hle
  rw [e3, e4]
  exact ev_pos (by omega) (ev_now (by simp))
end Go.Proofs.Ytkmjjocihjohaaa.Pure
