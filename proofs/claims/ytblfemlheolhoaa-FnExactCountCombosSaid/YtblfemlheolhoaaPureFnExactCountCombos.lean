/- For every two lists the program's CountCombos returns what the reference's returns, and leaves its arguments alone. No conditions. -/
import Derived.Test.YtblfemlheolhoaaEvC
import Derived.Test.YtblfemlheolhoaaQFnExactCountCombosx4
import Derived.Test.YtblfemlheolhoaaEv
namespace Go.Proofs.Ytblfemlheolhoaa.Pure
open Go.RowKit Go.Proofs.Ytblfemlheolhoaa.QFnExactCountCombos Go.Proofs.YtblfemlheolhoaaW.PrintWords Go.Proofs.YtblfemlheolhoaaW.PrintLast Go.Proofs.YtblfemlheolhoaaW.PrintMore Go.Proofs.Ytblfemlheolhoaa.EvBase
set_option linter.unusedVariables false
set_option linter.unusedSimpArgs false
namespace LFnExactCountCombos
theorem l01In_eq (a lo hi : Int) : spec_l01In.f a lo hi = some (inR lo hi a) := by
  unfold spec_l01In.f inR
  by_cases h : a ≥ lo
  · rw [if_pos h]; simp [h]
  · rw [if_neg h]; simp; omega
theorem within_eq (a lo hi : Int) : impl_within.f a lo hi = some (inR lo hi a) := by
  unfold impl_within.f inR
  by_cases h : a ≥ lo
  · rw [if_pos h]; simp [h]
  · rw [if_neg h]; simp; omega
theorem toInt64S_l0 : ∀ (s pre z : List Int), z.length = s.length → pre.length + s.length ≤ 1000000000000 →
    Ev (fun k => laws_toInt64S.l0 k (pre ++ s) (pre ++ z) (pre.length : Int)) (pre ++ s)
  | [], pre, z, hz, hl => by
    obtain rfl : z = [] := by simpa using hz
    refine Ev.step (fun k => laws_toInt64S.l0.eq_2 _ _ _ k) ?_
    exact ev_neg (by simp) (ev_now rfl)
  | x :: s, pre, z, hz, hl => by
    obtain ⟨y, z, rfl⟩ : ∃ y z', z = y :: z' := by cases z with
      | nil => simp at hz
      | cons y z => exact ⟨y, z, rfl⟩
    have hl' : pre.length + (s.length + 1) ≤ 1000000000000 := hl
    refine Ev.step (fun k => laws_toInt64S.l0.eq_2 _ _ _ k) ?_
    refine ev_pos (by simp; omega) (ev_pos (by omega) (ev_pos (by simp; omega) ?_))
    rw [rd_at, set_at, w64 (by omega) (by omega), len_snoc pre x, app_snoc pre s x]
    have hlen : ((pre ++ [x]).length : Int) = (pre ++ [x]).length := rfl
    exact toInt64S_l0 s (pre ++ [x]) z (by simpa using hz) (by simp; omega)
theorem toInt64S_ev (l : List Int) (hl : l.length ≤ 1000000000000) : Ev (fun k => laws_toInt64S.f k l) l := by
  unfold laws_toInt64S.f
  refine ev_pos (by omega) (ev_pos (by simp; omega) ?_)
  have h := toInt64S_l0 l [] (List.replicate l.length 0) (by simp) (by simpa using hl)
  simpa using h
theorem eqInt64S_l0 : ∀ (s pre : List Int), pre.length + s.length ≤ 1000000000000 →
    Ev (fun k => laws_eqInt64S.l0 k (pre ++ s) (pre ++ s) (pre.length : Int)) true
  | [], pre, hl => by
    refine Ev.step (fun k => laws_eqInt64S.l0.eq_2 _ _ _ k) ?_
    exact ev_neg (by simp) (ev_now rfl)
  | x :: s, pre, hl => by
    have hl' : pre.length + (s.length + 1) ≤ 1000000000000 := hl
    refine Ev.step (fun k => laws_eqInt64S.l0.eq_2 _ _ _ k) ?_
    refine ev_pos (by simp; omega) (ev_pos (by omega) (ev_pos (by simp; omega) (ev_pos rfl ?_)))
    rw [w64 (by omega) (by omega), len_snoc pre x, app_snoc pre s x]
    exact eqInt64S_l0 s (pre ++ [x]) (by simp; omega)
theorem eqInt64S_ev {a b : List Int} (e : a = b) (hl : a.length ≤ 1000000000000) : Ev (fun k => laws_eqInt64S.f k a b) true := by
  subst e
  unfold laws_eqInt64S.f
  refine ev_pos rfl ?_
  simpa using eqInt64S_l0 a [] (by simpa using hl)
theorem l01Has_l0 : ∀ (s pre : List Int) (c : Int), pre.length + s.length ≤ 1000000000000 →
    Ev (fun k => spec_l01Has.l0 k (pre ++ s) c (pre.length : Int)) (s.contains c)
  | [], pre, c, hl => by
    refine Ev.step (fun k => spec_l01Has.l0.eq_2 _ _ _ k) ?_
    exact ev_neg (by simp) (ev_now (by simp))
  | x :: s, pre, c, hl => by
    have hl' : pre.length + (s.length + 1) ≤ 1000000000000 := hl
    refine Ev.step (fun k => spec_l01Has.l0.eq_2 _ _ _ k) ?_
    refine ev_pos (by simp; omega) (ev_pos (by omega) ?_)
    rw [rd_at]
    by_cases e : x = c
    · exact ev_pos e (ev_now (by simp [e]))
    · refine ev_neg e ?_
      rw [w64 (by omega) (by omega), len_snoc pre x, app_snoc pre s x]
      have h := l01Has_l0 s (pre ++ [x]) c (by simp; omega)
      have e2 : (x :: s).contains c = s.contains c := by simp [List.contains_cons]; omega
      rw [e2]; exact h
theorem l01Has_ev (l : List Int) (c : Int) (hl : l.length ≤ 1000000000000) : Ev (fun k => spec_l01Has.f k l c) (l.contains c) := by
  unfold spec_l01Has.f
  simpa using l01Has_l0 l [] c (by simpa using hl)
theorem slIndex_l0 : ∀ (s pre : List Int) (c : Int), pre.length + s.length ≤ 1000000000000 →
    Ev (fun k => slices_Index_int64_int64.l0 k (pre ++ s) c ((pre ++ s).length : Int) (pre.length : Int)) (if s.contains c = true then ((pre.length + s.idxOf c : Nat) : Int) else -1)
  | [], pre, c, hl => by
    refine Ev.step (fun k => slices_Index_int64_int64.l0.eq_2 _ _ _ _ k) ?_
    exact ev_neg (by simp) (ev_now (by simp))
  | x :: s, pre, c, hl => by
    have hl' : pre.length + (s.length + 1) ≤ 1000000000000 := hl
    refine Ev.step (fun k => slices_Index_int64_int64.l0.eq_2 _ _ _ _ k) ?_
    refine ev_pos (by simp; omega) (ev_pos (by omega) (ev_pos (by simp; omega) ?_))
    rw [rd_at]
    by_cases e : c = x
    · subst e; exact ev_pos rfl (ev_now (by simp [List.idxOf_cons]))
    · refine ev_neg e ?_
      rw [w64 (by omega) (by omega), len_snoc pre x, app_snoc pre s x]
      have h := slIndex_l0 s (pre ++ [x]) c (by simp; omega)
      have e2 : (x :: s).contains c = s.contains c := by simp [List.contains_cons, e]
      have e4 : ¬ x = c := fun h => e h.symm
      have e5 : (x == c) = false := by simp [e4]
      have e3 : (x :: s).idxOf c = s.idxOf c + 1 := by simp [List.idxOf_cons, e5]
      rw [e2, e3, show pre.length + (s.idxOf c + 1) = (pre ++ [x]).length + s.idxOf c by simp; omega]; exact h
theorem slIndex_ev (l : List Int) (c : Int) (hl : l.length ≤ 1000000000000) : Ev (fun k => slices_Index_int64_int64.f k l c) (if l.contains c = true then ((l.idxOf c : Nat) : Int) else -1) := by
  unfold slices_Index_int64_int64.f
  simpa using slIndex_l0 l [] c (by simpa using hl)
theorem slContains_ev (l : List Int) (c : Int) (hl : l.length ≤ 1000000000000) : Ev (fun k => slices_Contains_int64_int64.f k l c) (l.contains c) := by
  unfold slices_Contains_int64_int64.f
  refine Ev.bind (slIndex_ev l c hl) (ev_now ?_)
  by_cases h : l.contains c = true
  · rw [if_pos h, h]; simp
  · rw [if_neg h]; simp only [Bool.not_eq_true] at h; rw [h]; rfl
theorem l01Rises_l0 : ∀ (s pre : List Int), pre.length + s.length ≤ 1000000000000 →
    Ev (fun k => spec_l01Rises.l0 k (pre ++ s) 169 (pre.length : Int)) (s.all (inR 0 168) && (match pre.getLast? with | none => incB s | some p => chainB p s))
  | [], pre, hl => by
    refine Ev.step (fun k => spec_l01Rises.l0.eq_2 _ _ _ k) ?_
    refine ev_neg (by simp) (ev_now ?_)
    cases pre.getLast? <;> rfl
  | x :: s, pre, hl => by
    have hl' : pre.length + (s.length + 1) ≤ 1000000000000 := hl
    have hnext := l01Rises_l0 s (pre ++ [x]) (by simp; omega)
    rw [List.getLast?_append] at hnext
    simp only [List.getLast?_singleton, Option.some_or] at hnext
    refine Ev.step (fun k => spec_l01Rises.l0.eq_2 _ _ _ k) ?_
    refine ev_pos (by simp; omega) (ev_pos (by omega) ?_)
    rw [rd_at]
    refine ev_bindc (l01In_eq _ _ _) ?_
    have e169 : wrap64 (169 - 1) = 168 := w64 (by decide) (by decide)
    rw [e169]
    by_cases hin : inR 0 168 x = true
    · refine ev_pos hin ?_
      simp only [List.all_cons, hin, Bool.true_and]
      rcases List.eq_nil_or_concat pre with rfl | ⟨pre, p, rfl⟩
      · refine ev_neg (by simp) ?_
        rw [w64 (by simp) (by simp), len_snoc [] x, app_snoc [] s x]
        simpa [incB] using hnext
      · rw [List.concat_eq_append] at *
        have e1 : (((pre ++ [p]).length : Nat) : Int) - 1 = (pre.length : Int) := by simp
        have hpl : (pre ++ [p]).length = pre.length + 1 := by simp
        refine ev_pos (by omega) ?_
        have e2 : wrap64 ((((pre ++ [p]).length : Nat) : Int) - 1) = (pre.length : Int) := by rw [e1]; exact w64 (by omega) (by omega)
        rw [e2]
        refine ev_pos (by omega) (ev_pos (by simp; omega) ?_)
        have e3 : rd (pre ++ [p] ++ x :: s) (pre.length : Int) = p := by rw [List.append_assoc]; exact rd_at _ _ _
        rw [e3]
        rw [List.getLast?_append]
        simp only [List.getLast?_singleton, Option.some_or, chainB]
        by_cases hle : x ≤ p
        · exact ev_pos hle (ev_now (by simp; omega))
        · refine ev_neg hle ?_
          rw [w64 (by omega) (by omega), len_snoc (pre ++ [p]) x, app_snoc (pre ++ [p]) s x]
          have : decide (p < x) = true := by simp; omega
          rw [this, Bool.true_and]; exact hnext
    · refine ev_neg hin (ev_now ?_)
      simp only [Bool.not_eq_true] at hin
      simp [hin]
theorem l01Rises_ev (l : List Int) (hl : l.length ≤ 1000000000000) : Ev (fun k => spec_l01Rises.f k l 169) (isRangeB l) := by
  unfold spec_l01Rises.f
  have h := l01Rises_l0 l [] (by simpa using hl)
  exact h
theorem specIsRange_ev (l : List Int) (hl : l.length ≤ 1000000000000) : Ev (fun k => spec_IsRange.f k l) (isRangeB l) := by
  unfold spec_IsRange.f
  exact Ev.bind (l01Rises_ev l hl) (ev_now rfl)
theorem allWithin_l0 (lo hi : Int) : ∀ (s pre : List Int), pre.length + s.length ≤ 1000000000000 →
    Ev (fun k => impl_allWithin.l0 k lo hi (pre ++ s) ((pre ++ s).length : Int) (pre.length : Int)) (s.all (inR lo hi))
  | [], pre, hl => by
    refine Ev.step (fun k => impl_allWithin.l0.eq_2 _ _ _ _ _ k) ?_
    exact ev_neg (by simp) (ev_now rfl)
  | x :: s, pre, hl => by
    have hl' : pre.length + (s.length + 1) ≤ 1000000000000 := hl
    refine Ev.step (fun k => impl_allWithin.l0.eq_2 _ _ _ _ _ k) ?_
    refine ev_pos (by simp; omega) (ev_pos (by omega) (ev_pos (by simp; omega) ?_))
    rw [rd_at]
    refine ev_bindc (within_eq _ _ _) ?_
    by_cases hin : inR lo hi x = true
    · refine ev_pos hin ?_
      rw [w64 (by omega) (by omega), len_snoc pre x, app_snoc pre s x]
      have h := allWithin_l0 lo hi s (pre ++ [x]) (by simp; omega)
      simpa only [List.all_cons, hin, Bool.true_and] using h
    · refine ev_neg hin (ev_now ?_)
      simp only [Bool.not_eq_true] at hin
      simp [hin]
theorem allWithin_ev (l : List Int) (lo hi : Int) (hl : l.length ≤ 1000000000000) : Ev (fun k => impl_allWithin.f k l lo hi) (l.all (inR lo hi)) := by
  unfold impl_allWithin.f
  simpa using allWithin_l0 lo hi l [] (by simpa using hl)
theorem increasing_l0 : ∀ (s pre : List Int) (p : Int), pre.length + s.length ≤ 100000000000 →
    Ev (fun k => impl_increasing.l0 k (pre ++ p :: s) ((pre.length : Int) + 1)) (chainB p s)
  | [], pre, p, hl => by
    refine Ev.step (fun k => impl_increasing.l0.eq_2 _ _ k) ?_
    exact ev_neg (by simp) (ev_now rfl)
  | x :: s, pre, p, hl => by
    have hl' : pre.length + (s.length + 1) ≤ 100000000000 := hl
    refine Ev.step (fun k => impl_increasing.l0.eq_2 _ _ k) ?_
    refine ev_pos (by simp; omega) ?_
    have e2 : wrap64 ((pre.length : Int) + 1 - 1) = (pre.length : Int) := by rw [Int.add_sub_cancel]; exact w64 (by omega) (by omega)
    rw [e2]
    refine ev_pos (by omega) (ev_pos (by simp; omega) (ev_pos (by omega) ?_))
    rw [rd_at]
    have e3 : rd (pre ++ p :: x :: s) ((pre.length : Int) + 1) = x := by
      rw [len_snoc pre p, app_snoc pre _ p]; exact rd_at _ _ _
    rw [e3]
    by_cases hle : p ≥ x
    · exact ev_pos hle (ev_now (by simp [chainB]; omega))
    · refine ev_neg hle ?_
      rw [w64 (by omega) (by omega)]
      have h := increasing_l0 s (pre ++ [p]) x (by simp; omega)
      have : decide (p < x) = true := by simp; omega
      simp only [chainB, this, Bool.true_and]
      rw [len_snoc pre p, app_snoc pre _ p]; exact h
theorem increasing_ev (l : List Int) (hl : l.length ≤ 10000000000) : Ev (fun k => impl_increasing.f k l) (incB l) := by
  unfold impl_increasing.f
  cases l with
  | nil =>
    refine Ev.step (fun k => impl_increasing.l0.eq_2 _ _ k) ?_
    exact ev_neg (by simp) (ev_now rfl)
  | cons x s => exact increasing_l0 s [] x (by simp at hl ⊢; omega)
theorem implIsRange_ev (l : List Int) (hl : l.length ≤ 10000000000) : Ev (fun k => impl_IsRange.f k l) (isRangeB l) := by
  unfold impl_IsRange.f isRangeB
  refine Ev.bind (allWithin_ev l 0 168 (by omega)) ?_
  by_cases h : l.all (inR 0 168) = true
  · refine ev_pos h (Ev.bind (increasing_ev l hl) (ev_now ?_))
    rw [h, Bool.true_and]
  · refine ev_neg h (ev_now ?_)
    simp only [Bool.not_eq_true] at h
    rw [h, Bool.false_and]
theorem specCard_eq (x : Int) : spec_l02Card.f x = some (inR 0 51 x) := by unfold spec_l02Card.f; rw [l01In_eq]; rfl
theorem specCards_l0 : ∀ (s pre seen : List Int) (flags : List Bool), pre.length + s.length ≤ 1000000000000 → flags.length = 52 → (∀ c : Nat, c < 52 → rdOf false flags (c : Int) = seen.contains (c : Int)) →
    Ev (fun k => spec_AreCards.l0 k (pre ++ s) flags (pre.length : Int)) (cardsB seen s)
  | [], pre, seen, flags, hl, hf, hs => by
    refine Ev.step (fun k => spec_AreCards.l0.eq_2 _ _ _ k) ?_
    exact ev_neg (by simp) (ev_now rfl)
  | x :: s, pre, seen, flags, hl, hf, hs => by
    have hl' : pre.length + (s.length + 1) ≤ 1000000000000 := hl
    refine Ev.step (fun k => spec_AreCards.l0.eq_2 _ _ _ k) ?_
    refine ev_pos (by simp; omega) (ev_pos (by omega) ?_)
    rw [rd_at]
    refine ev_bindc (specCard_eq x) ?_
    by_cases hx : inR 0 51 x = true
    rotate_left
    · exact ev_neg hx (ev_now (by simp [cardsB, hx]))
    have bx := inR_iff.1 hx
    obtain ⟨c, rfl⟩ := Int.eq_ofNat_of_zero_le bx.1
    refine ev_pos hx (ev_pos (by omega) (ev_pos (by omega) ?_))
    rw [hs c (by omega)]
    by_cases hc : seen.contains (c : Int) = true
    · exact ev_pos hc (ev_now (by rw [cardsB, hx, hc]; rfl))
    refine ev_neg hc ?_
    rw [w64 (by omega) (by omega), len_snoc pre (c : Int), app_snoc pre s]
    have h := specCards_l0 s (pre ++ [(c : Int)]) ((c : Int) :: seen) (flags.set ((c : Int)).toNat true) (by simp; omega) (by simpa using hf) (fun d hd => by
      rw [List.contains_cons, ← hs d hd]
      by_cases e : c = d
      · subst e; simp [rdOf, List.getD_eq_getElem?_getD, hf, hd]
      · have e2 : ¬ (d : Int) = (c : Int) := by omega
        simp [rdOf, List.getD_eq_getElem?_getD, List.getElem?_set, e, e2])
    simp only [Bool.not_eq_true] at hc
    simpa only [cardsB, hx, hc, Bool.not_false, Bool.true_and] using h
theorem specCards_ev (l : List Int) (hl : l.length ≤ 1000000000000) : Ev (fun k => spec_AreCards.f k l) (cardsB [] l) := by
  unfold spec_AreCards.f
  refine ev_pos (by decide) ?_
  simpa using specCards_l0 l [] [] (List.replicate 52 false) (by simpa using hl) (by simp) (fun c _ => rd_rep 52 c)
theorem implCard_eq (x : Int) : impl_isCard.f x = some (inR 0 51 x) := by unfold impl_isCard.f; rw [within_eq]; rfl
theorem implCards_l0 : ∀ (s pre seen : List Int) (b : Nat), pre.length + s.length ≤ 1000000000000 → BitsOf b seen →
    Ev (fun k => impl_AreCards.l0 k (b : Int) (pre ++ s) ((pre ++ s).length : Int) (pre.length : Int)) (cardsB seen s)
  | [], pre, seen, b, hl, hb => by
    refine Ev.step (fun k => impl_AreCards.l0.eq_2 _ _ _ _ k) ?_
    exact ev_neg (by simp) (ev_now rfl)
  | x :: s, pre, seen, b, hl, hb => by
    have hl' : pre.length + (s.length + 1) ≤ 1000000000000 := hl
    refine Ev.step (fun k => impl_AreCards.l0.eq_2 _ _ _ _ k) ?_
    refine ev_pos (by simp; omega) (ev_pos (by omega) (ev_pos (by simp; omega) ?_))
    rw [rd_at]
    refine ev_bindc (implCard_eq x) ?_
    by_cases hx : inR 0 51 x = true
    rotate_left
    · exact ev_neg hx (ev_now (by simp [cardsB, hx]))
    have bx := inR_iff.1 hx
    obtain ⟨c, rfl⟩ := Int.eq_ofNat_of_zero_le bx.1
    refine ev_pos hx (ev_pos (by omega) ?_)
    have hc52 : c < 52 := by omega
    by_cases hc : seen.contains (c : Int) = true
    · refine ev_pos ((bit_and b c hb.1 hc52).2 (by rw [hb.2 c hc52]; exact hc)) (ev_now ?_)
      rw [cardsB, hx, hc]; rfl
    refine ev_neg (fun h => hc (by rw [← hb.2 c hc52]; exact (bit_and b c hb.1 hc52).1 h)) ?_
    rw [bit_or b c hb.1 hc52, w64 (by omega) (by omega), len_snoc pre (c : Int), app_snoc pre s]
    have h := implCards_l0 s (pre ++ [(c : Int)]) ((c : Int) :: seen) (b ||| 2 ^ c) (by simp; omega) (bits_put hb c hc52)
    simp only [Bool.not_eq_true] at hc
    simpa only [cardsB, hx, hc, Bool.not_false, Bool.true_and] using h
theorem implCards_ev (l : List Int) (hl : l.length ≤ 1000000000000) : Ev (fun k => impl_AreCards.f k l) (cardsB [] l) := by
  unfold impl_AreCards.f
  simpa using implCards_l0 l [] [] 0 (by simpa using hl) bits_nil
theorem specClass_eq (a b : Nat) (ha : a < 52) (hb : b < 52) : spec_l07Class.f (a : Int) (b : Int) = some ((clsN a b : Nat) : Int) := by
  unfold spec_l07Class.f clsN
  have e1 := tdiv_nat a 4 (by omega)
  have e2 := tdiv_nat b 4 (by omega)
  have m1 := tmod_nat a 4
  have m2 := tmod_nat b 4
  simp only [Int.cast_ofNat_Int] at e1 e2 m1 m2
  simp only [e1, e2, m1, m2, mx_max, mn_min]
  by_cases h : a % 4 = b % 4
  · rw [if_pos (by omega), if_pos (.inl h), w64 (n := 13 * _) (by omega) (by omega), w64 (by omega) (by omega)]
    congr 1; omega
  rw [if_neg (by omega)]
  by_cases h2 : max (a / 4) (b / 4) = min (a / 4) (b / 4)
  · rw [if_pos (by omega), if_pos (.inr h2), w64 (n := 13 * _) (by omega) (by omega), w64 (by omega) (by omega)]
    congr 1; omega
  · rw [if_neg (by omega), if_neg (by omega), w64 (n := 13 * _) (by omega) (by omega), w64 (by omega) (by omega)]
    congr 1; omega
theorem implClass_eq (a b : Nat) (ha : a < 52) (hb : b < 52) : impl_classOf.f (a : Int) (b : Int) = some ((clsN a b : Nat) : Int) := by
  unfold impl_classOf.f clsN
  have e1 := tdiv_nat a 4 (by omega)
  have e2 := tdiv_nat b 4 (by omega)
  have m1 := tmod_nat a 4
  have m2 := tmod_nat b 4
  simp only [Int.cast_ofNat_Int] at e1 e2 m1 m2
  simp only [e1, e2, m1, m2, mx_max, mn_min]
  by_cases h : a % 4 = b % 4
  · rw [if_pos (by omega), if_pos (.inl h), w64 (n := 13 * _) (by omega) (by omega), w64 (by omega) (by omega)]
    congr 1; omega
  rw [if_neg (by omega)]
  by_cases h2 : max (a / 4) (b / 4) = min (a / 4) (b / 4)
  · rw [if_pos (.inr h2), w64 (n := 13 * _) (by omega) (by omega), w64 (by omega) (by omega)]
    congr 1; omega
  · rw [if_neg (by omega), w64 (n := 13 * _) (by omega) (by omega), w64 (by omega) (by omega)]
    congr 1; omega
theorem specCombos_l1 (c x : Nat) (hx : x < 52) (r : List (List Int)) : ∀ (d y : Nat) (acc : List (List Int)), y + d = 52 → acc.length + d ≤ 1000000 →
    Ev (fun k => spec_l07Combos.l0 k (c : Int) (acc ++ innerS c x d y) ((x + 1 : Nat) : Int)) r → Ev (fun k => spec_l07Combos.l1 k (c : Int) acc (x : Int) (y : Int)) r
  | 0, y, acc, hd, ha, h => by
    refine Ev.step (fun k => spec_l07Combos.l1.eq_2 _ _ _ _ k) (ev_neg (by omega) ?_)
    rw [w64 (by omega) (by omega)]
    simpa [innerS] using h
  | d + 1, y, acc, hd, ha, h => by
    refine Ev.step (fun k => spec_l07Combos.l1.eq_2 _ _ _ _ k) (ev_pos (by omega) (ev_bindc (specClass_eq x y hx (by omega)) ?_))
    have ey : wrap64 ((y : Int) + 1) = ((y + 1 : Nat) : Int) := by rw [w64 (by omega) (by omega)]; simp
    rw [ey]
    by_cases hc : clsN x y = c
    · refine ev_pos (by omega) (ev_pos (by omega) (specCombos_l1 c x hx r d (y + 1) _ (by omega) (by simp; omega) ?_))
      simp only [innerS, if_pos hc] at h
      simpa [pair] using h
    · refine ev_neg (by omega) (specCombos_l1 c x hx r d (y + 1) _ (by omega) (by omega) ?_)
      simpa only [innerS, if_neg hc] using h
theorem innerS_len (c x : Nat) : ∀ d y, (innerS c x d y).length ≤ d
  | 0, y => by simp [innerS]
  | d + 1, y => by
    have := innerS_len c x d (y + 1)
    simp only [innerS]; split
    · simp; omega
    · omega
theorem specCombos_l0 (c : Nat) : ∀ (d x : Nat) (acc : List (List Int)), x + d = 52 → acc.length + 60 * d ≤ 900000 →
    Ev (fun k => spec_l07Combos.l0 k (c : Int) acc (x : Int)) (acc ++ outerS c d x)
  | 0, x, acc, hd, ha => by
    refine Ev.step (fun k => spec_l07Combos.l0.eq_2 _ _ _ k) (ev_neg (by omega) (ev_now (by simp [outerS])))
  | d + 1, x, acc, hd, ha => by
    refine Ev.step (fun k => spec_l07Combos.l0.eq_2 _ _ _ k) (ev_pos (by omega) ?_)
    have ex : wrap64 ((x : Int) + 1) = ((x + 1 : Nat) : Int) := by rw [w64 (by omega) (by omega)]; simp
    rw [ex]
    refine specCombos_l1 c x (by omega) _ (51 - x) (x + 1) acc (by omega) (by omega) ?_
    have := innerS_len c x (51 - x) (x + 1)
    have h := specCombos_l0 c d (x + 1) (acc ++ innerS c x (51 - x) (x + 1)) (by omega) (by simp; omega)
    simpa [outerS] using h
theorem specCombos_ev (c : Nat) : Ev (fun k => spec_l07Combos.f k (c : Int)) (outerS c 52 0) := by
  unfold spec_l07Combos.f
  exact specCombos_l0 c 52 0 [] rfl (by simp)
theorem implCombos_l1 (c lo hi x : Nat) (dead : List Int) (hdl : dead.length ≤ 1000000000) (hhi : hi + 4 ≤ 52) (hx : x < 52) (r : List (List Int)) : ∀ (d y : Nat) (acc : List (List Int)), y + d = hi + 4 → acc.length + d ≤ 1000000 →
    Ev (fun k => impl_combosOf.l0 k (c : Int) dead (lo : Int) (hi : Int) (acc ++ innerI c dead x d y) ((x + 1 : Nat) : Int)) r → Ev (fun k => impl_combosOf.l1 k (c : Int) dead (lo : Int) (hi : Int) acc (x : Int) (y : Int)) r
  | 0, y, acc, hd, ha, h => by
    refine Ev.step (fun k => impl_combosOf.l1.eq_2 _ _ _ _ _ _ _ k) ?_
    rw [w64 (n := (hi : Int) + 4) (by omega) (by omega), w64 (n := (x : Int) + 1) (by omega) (by omega)]
    refine ev_neg (by omega) ?_
    simpa [innerI] using h
  | d + 1, y, acc, hd, ha, h => by
    refine Ev.step (fun k => impl_combosOf.l1.eq_2 _ _ _ _ _ _ _ k) ?_
    have ey : wrap64 ((y : Int) + 1) = ((y + 1 : Nat) : Int) := by rw [w64 (by omega) (by omega)]; simp
    rw [w64 (n := (hi : Int) + 4) (by omega) (by omega), ey]
    refine ev_pos (by omega) ?_
    have skip : ¬ (x < y ∧ clsN x y = c ∧ dead.contains (x : Int) = false ∧ dead.contains (y : Int) = false) → Ev (fun k => impl_combosOf.l1 k (c : Int) dead (lo : Int) (hi : Int) acc (x : Int) ((y + 1 : Nat) : Int)) r := fun hn => by
      refine implCombos_l1 c lo hi x dead hdl hhi hx r d (y + 1) acc (by omega) (by omega) ?_
      simpa only [innerI, if_neg hn] using h
    by_cases h1 : x < y
    rotate_left
    · exact ev_neg (by omega) (skip (fun g => h1 g.1))
    refine ev_pos (by omega) (ev_bindc (implClass_eq x y hx (by omega)) ?_)
    by_cases h2 : clsN x y = c
    rotate_left
    · exact ev_neg (by omega) (skip (fun g => h2 g.2.1))
    refine ev_pos (by omega) (Ev.bind (slContains_ev dead (x : Int) (by omega)) ?_)
    by_cases h3 : dead.contains (x : Int) = true
    · exact ev_pos h3 (skip (fun g => by rw [h3] at g; simp at g))
    refine ev_neg h3 (Ev.bind (slContains_ev dead (y : Int) (by omega)) ?_)
    by_cases h4 : dead.contains (y : Int) = true
    · exact ev_pos h4 (skip (fun g => by rw [h4] at g; simp at g))
    refine ev_neg h4 (ev_pos (by omega) (implCombos_l1 c lo hi x dead hdl hhi hx r d (y + 1) _ (by omega) (by simp; omega) ?_))
    simp only [Bool.not_eq_true] at h3 h4
    simp only [innerI, if_pos (show x < y ∧ clsN x y = c ∧ dead.contains (x : Int) = false ∧ dead.contains (y : Int) = false from ⟨h1, h2, h3, h4⟩)] at h
    simpa [pair] using h
theorem innerI_len (c : Nat) (dead : List Int) (x : Nat) : ∀ d y, (innerI c dead x d y).length ≤ d
  | 0, y => by simp [innerI]
  | d + 1, y => by
    have := innerI_len c dead x d (y + 1)
    simp only [innerI]; split
    · simp; omega
    · omega
theorem implCombos_l0 (c lo hi : Nat) (dead : List Int) (hdl : dead.length ≤ 1000000000) (hhi : hi + 4 ≤ 52) (hlo : lo + 4 ≤ 52) : ∀ (d x : Nat) (acc : List (List Int)), x + d = lo + 4 → acc.length + 60 * d ≤ 900000 →
    Ev (fun k => impl_combosOf.l0 k (c : Int) dead (lo : Int) (hi : Int) acc (x : Int)) (acc ++ outerI c dead hi d x)
  | 0, x, acc, hd, ha => by
    refine Ev.step (fun k => impl_combosOf.l0.eq_2 _ _ _ _ _ _ k) ?_
    rw [w64 (by omega) (by omega)]
    exact ev_neg (by omega) (ev_now (by simp [outerI]))
  | d + 1, x, acc, hd, ha => by
    refine Ev.step (fun k => impl_combosOf.l0.eq_2 _ _ _ _ _ _ k) ?_
    rw [w64 (by omega) (by omega)]
    refine ev_pos (by omega) ?_
    refine implCombos_l1 c lo hi x dead hdl hhi (by omega) _ 4 hi acc rfl (by omega) ?_
    have := innerI_len c dead x 4 hi
    have h := implCombos_l0 c lo hi dead hdl hhi hlo d (x + 1) (acc ++ innerI c dead x 4 hi) (by omega) (by simp; omega)
    simpa [outerI] using h
theorem implCombos_ev (c : Nat) (hc : c < 169) (dead : List Int) (hdl : dead.length ≤ 1000000000) : Ev (fun k => impl_combosOf.f k (c : Int) dead) (combosM c dead) := by
  unfold impl_combosOf.f
  have e1 := tdiv_nat c 13 (by omega)
  have m1 := tmod_nat c 13
  simp only [Int.cast_ofNat_Int] at e1 m1
  have hl : wrap64 (mn ((c / 13 : Nat) : Int) ((c % 13 : Nat) : Int) * 4) = ((lowOf c : Nat) : Int) := by
    rw [mn_min, w64 (by omega) (by omega)]; unfold lowOf; omega
  have hh : wrap64 (mx ((c / 13 : Nat) : Int) ((c % 13 : Nat) : Int) * 4) = ((highOf c : Nat) : Int) := by
    rw [mx_max, w64 (by omega) (by omega)]; unfold highOf; omega
  simp only [e1, m1, hl, hh]
  have h := implCombos_l0 c (lowOf c) (highOf c) dead hdl (by unfold highOf; omega) (by unfold lowOf; omega) 4 (lowOf c) [] rfl (by simp)
  rw [combos_both c hc] at h
  simpa using h
theorem specClassIs_eq (x : Int) : spec_l07Is.f x = some (inR 0 168 x) := by unfold spec_l07Is.f; rw [l01In_eq]; rfl
theorem rdl_at (pre s : List (List Int)) (x : List Int) : rd_L2 (pre ++ x :: s) (pre.length : Int) = x := by
  simp [rd_L2, List.getD_eq_getElem?_getD]
theorem specWithout_l0 (dead : List Int) (hd : dead.length ≤ 1000000000) : ∀ (s pre acc : List (List Int)), (∀ p ∈ s, p.length = 2) → pre.length + s.length ≤ 1000000 → acc.length + s.length ≤ 1000000 →
    Ev (fun k => spec_CombosWithout.l0 k dead (pre ++ s) acc (pre.length : Int)) (acc ++ s.filter (freeOf dead), 0)
  | [], pre, acc, h2, hl, ha => by
    refine Ev.step (fun k => spec_CombosWithout.l0.eq_2 _ _ _ _ k) ?_
    exact ev_neg (by simp) (ev_now (by simp))
  | x :: s, pre, acc, h2, hl, ha => by
    have hl' : pre.length + (s.length + 1) ≤ 1000000 := hl
    have ha' : acc.length + (s.length + 1) ≤ 1000000 := ha
    have hx : x.length = 2 := h2 x (by simp)
    refine Ev.step (fun k => spec_CombosWithout.l0.eq_2 _ _ _ _ k) ?_
    refine ev_pos (by simp; omega) (ev_pos (by omega) ?_)
    rw [rdl_at, w64 (by omega) (by omega), len_snoc pre x, app_snoc pre s x]
    refine ev_pos (by omega) (Ev.bind (l01Has_ev dead _ (by omega)) ?_)
    by_cases h3 : dead.contains (rd x 0) = true
    · refine ev_pos h3 ?_
      have h := specWithout_l0 dead hd s (pre ++ [x]) acc (fun p hp => h2 p (by simp [hp])) (by simp; omega) (by omega)
      have hf : freeOf dead x = false := by unfold freeOf; rw [h3]; rfl
      simpa only [List.filter_cons, hf, Bool.false_eq_true, if_false] using h
    refine ev_neg h3 (ev_pos (by omega) (Ev.bind (l01Has_ev dead _ (by omega)) ?_))
    by_cases h4 : dead.contains (rd x 1) = true
    · refine ev_pos h4 ?_
      have h := specWithout_l0 dead hd s (pre ++ [x]) acc (fun p hp => h2 p (by simp [hp])) (by simp; omega) (by omega)
      have hf : freeOf dead x = false := by unfold freeOf; rw [h4]; simp
      simpa only [List.filter_cons, hf, Bool.false_eq_true, if_false] using h
    refine ev_neg h4 (ev_pos (by omega) ?_)
    have h := specWithout_l0 dead hd s (pre ++ [x]) (acc ++ [x]) (fun p hp => h2 p (by simp [hp])) (by simp; omega) (by simp; omega)
    simp only [Bool.not_eq_true] at h3 h4
    have hf : freeOf dead x = true := by unfold freeOf; rw [h3, h4]; rfl
    simpa only [List.filter_cons, hf, if_true, List.append_assoc, List.singleton_append] using h
theorem innerS_two (c x : Nat) : ∀ d y, ∀ p ∈ innerS c x d y, p.length = 2
  | 0, y => by simp [innerS]
  | d + 1, y => by
    have ih := innerS_two c x d (y + 1)
    simp only [innerS]; split
    · intro p hp
      rcases List.mem_cons.1 hp with rfl | hp
      · rfl
      · exact ih p hp
    · exact ih
theorem outerS_two (c : Nat) : ∀ d x, ∀ p ∈ outerS c d x, p.length = 2
  | 0, x => by simp [outerS]
  | d + 1, x => by
    intro p hp
    simp only [outerS, List.mem_append] at hp
    rcases hp with hp | hp
    · exact innerS_two c x _ _ p hp
    · exact outerS_two c d (x + 1) p hp
def withoutM (c : Int) (dead : List Int) : List (List Int) × Int := if inR 0 168 c then (if cardsB [] dead then (combosM c.toNat dead, 0) else ([], 1)) else ([], 2)
theorem specWithout_ev (c : Int) (dead : List Int) (hd : dead.length ≤ 1000000000) : Ev (fun k => spec_CombosWithout.f k c dead) (withoutM c dead) := by
  unfold spec_CombosWithout.f withoutM
  refine ev_bindc (specClassIs_eq c) ?_
  by_cases h1 : inR 0 168 c = true
  rotate_left
  · rw [if_neg h1]; exact ev_neg h1 (ev_now rfl)
  rw [if_pos h1]
  refine ev_pos h1 (Ev.bind (specCards_ev dead (by omega)) ?_)
  by_cases h2 : cardsB [] dead = true
  rotate_left
  · rw [if_neg h2]; exact ev_neg h2 (ev_now rfl)
  rw [if_pos h2]
  refine ev_pos h2 ?_
  have b1 := inR_iff.1 h1
  obtain ⟨n, rfl⟩ := Int.eq_ofNat_of_zero_le b1.1
  refine Ev.bind (specCombos_ev n) ?_
  have hs : (outerS n 52 0).length ≤ 12 := by rw [combos_size n (by omega)]; exact sizeN_le n
  exact specWithout_l0 dead hd (outerS n 52 0) [] [] (outerS_two n 52 0) (by simp; omega) (by simp; omega)
theorem specRange_l0 (dead : List Int) (hd : dead.length ≤ 1000000000) (hc : cardsB [] dead = true) : ∀ (s pre : List Int) (acc : List (List Int)), (∀ c ∈ s, 0 ≤ c ∧ c ≤ 168) → pre.length + s.length ≤ 10000000 → acc.length + 12 * s.length ≤ 1000000000 →
    Ev (fun k => spec_l08Combos.l0 k (pre ++ s) dead acc (pre.length : Int)) (acc ++ rangeM dead s)
  | [], pre, acc, hs, hl, ha => by
    refine Ev.step (fun k => spec_l08Combos.l0.eq_2 _ _ _ _ k) ?_
    exact ev_neg (by simp) (ev_now (by simp [rangeM]))
  | x :: s, pre, acc, hs, hl, ha => by
    have hl' : pre.length + (s.length + 1) ≤ 10000000 := hl
    have ha' : acc.length + 12 * (s.length + 1) ≤ 1000000000 := ha
    have bx := hs x (by simp)
    have hw : withoutM x dead = (combosM x.toNat dead, 0) := by unfold withoutM; rw [if_pos (inR_iff.2 bx), if_pos hc]
    have hlen := combosM_len (c := x.toNat) (by omega) dead
    refine Ev.step (fun k => spec_l08Combos.l0.eq_2 _ _ _ _ k) ?_
    refine ev_pos (by simp; omega) (ev_pos (by omega) ?_)
    rw [rd_at]
    refine Ev.bind (specWithout_ev x dead hd) ?_
    rw [hw]
    rw [w64 (by omega) (by omega), len_snoc pre x, app_snoc pre s x]
    refine ev_pos (by simp only; omega) ?_
    have h := specRange_l0 dead hd hc s (pre ++ [x]) (acc ++ combosM x.toNat dead) (fun c hc => hs c (by simp [hc])) (by simp; omega) (by simp; omega)
    simpa [rangeM] using h
theorem specRange_ev (r dead : List Int) (hr : r.length ≤ 10000000) (hd : dead.length ≤ 1000000000) (hc : cardsB [] dead = true) (hir : isRangeB r = true) : Ev (fun k => spec_l08Combos.f k r dead) (rangeM dead r) := by
  unfold spec_l08Combos.f
  exact specRange_l0 dead hd hc r [] [] (mem_isRange hir) (by simpa using hr) (by simp; omega)
theorem implRange_l0 (dead : List Int) (hd : dead.length ≤ 1000000000) : ∀ (s pre : List Int) (acc : List (List Int)), (∀ c ∈ s, 0 ≤ c ∧ c ≤ 168) → pre.length + s.length ≤ 10000000 → acc.length + 12 * s.length ≤ 1000000000 →
    Ev (fun k => impl_RangeCombos.l0 k dead acc (pre ++ s) ((pre ++ s).length : Int) (pre.length : Int)) (acc ++ rangeM dead s, 0)
  | [], pre, acc, hs, hl, ha => by
    refine Ev.step (fun k => impl_RangeCombos.l0.eq_2 _ _ _ _ _ k) ?_
    exact ev_neg (by simp) (ev_now (by simp [rangeM]))
  | x :: s, pre, acc, hs, hl, ha => by
    have hl' : pre.length + (s.length + 1) ≤ 10000000 := hl
    have ha' : acc.length + 12 * (s.length + 1) ≤ 1000000000 := ha
    have bx := hs x (by simp)
    obtain ⟨n, rfl⟩ := Int.eq_ofNat_of_zero_le bx.1
    have hlen := combosM_len (c := n) (by omega) dead
    refine Ev.step (fun k => impl_RangeCombos.l0.eq_2 _ _ _ _ _ k) ?_
    refine ev_pos (by simp; omega) (ev_pos (by omega) (ev_pos (by simp; omega) ?_))
    rw [rd_at]
    refine Ev.bind (implCombos_ev n (by omega) dead hd) ?_
    rw [w64 (by omega) (by omega), len_snoc pre (n : Int), app_snoc pre s]
    refine ev_pos (by omega) ?_
    have h := implRange_l0 dead hd s (pre ++ [(n : Int)]) (acc ++ combosM n dead) (fun c hc => hs c (by simp [hc])) (by simp; omega) (by simp; omega)
    simpa [rangeM] using h
def rangeCombosM (r dead : List Int) : List (List Int) × Int := if isRangeB r then (if cardsB [] dead then (rangeM dead r, 0) else ([], 2)) else ([], 1)
theorem implRange_ev (r dead : List Int) (hr : r.length ≤ 10000000) (hd : dead.length ≤ 1000000000) : Ev (fun k => impl_RangeCombos.f k r dead) (rangeCombosM r dead) := by
  unfold impl_RangeCombos.f rangeCombosM
  refine Ev.bind (implIsRange_ev r (by omega)) ?_
  by_cases h1 : isRangeB r = true
  rotate_left
  · rw [if_neg h1]; exact ev_neg h1 (ev_now rfl)
  rw [if_pos h1]
  refine ev_pos h1 (Ev.bind (implCards_ev dead (by omega)) ?_)
  by_cases h2 : cardsB [] dead = true
  rotate_left
  · rw [if_neg h2]; exact ev_neg h2 (ev_now rfl)
  rw [if_pos h2]
  refine ev_pos h2 ?_
  exact implRange_l0 dead hd r [] [] (mem_isRange h1) (by simpa using hr) (by simp; omega)
theorem specCode_ev (r dead : List Int) (hr : r.length ≤ 10000000) (hd : dead.length ≤ 1000000000) : Ev (fun k => spec_l08Code.f k r dead) (if isRangeB r then (if cardsB [] dead then 0 else 2) else 1) := by
  unfold spec_l08Code.f
  refine Ev.bind (specIsRange_ev r (by omega)) ?_
  by_cases h1 : isRangeB r = true
  rotate_left
  · rw [if_neg h1]; exact ev_neg h1 (ev_now rfl)
  rw [if_pos h1]
  refine ev_pos h1 (Ev.bind (specCards_ev dead (by omega)) ?_)
  by_cases h2 : cardsB [] dead = true
  · simp only [if_pos h2]; exact ev_now rfl
  · simp only [if_neg h2]; exact ev_now rfl
def countCombosM (r dead : List Int) : Int × Int := (((rangeCombosM r dead).1.length : Int), (rangeCombosM r dead).2)
theorem specCountCombos_ev (r dead : List Int) (hr : r.length ≤ 10000000) (hd : dead.length ≤ 1000000000) : Ev (fun k => spec_CountCombos.f k r dead) (countCombosM r dead) := by
  unfold spec_CountCombos.f countCombosM rangeCombosM
  refine Ev.bind (specCode_ev r dead hr hd) ?_
  by_cases h1 : isRangeB r = true
  rotate_left
  · simp only [if_neg h1]; exact ev_neg (by decide) (ev_now rfl)
  simp only [if_pos h1]
  by_cases h2 : cardsB [] dead = true
  rotate_left
  · simp only [if_neg h2]; exact ev_neg (by decide) (ev_now rfl)
  simp only [if_pos h2]
  exact ev_pos trivial (Ev.bind (specRange_ev r dead hr hd h2 h1) (ev_now rfl))
theorem implCountCombos_ev (r dead : List Int) (hr : r.length ≤ 10000000) (hd : dead.length ≤ 1000000000) : Ev (fun k => impl_CountCombos.f k r dead) (countCombosM r dead) := by
  unfold impl_CountCombos.f countCombosM
  exact Ev.bind (implRange_ev r dead hr hd) (ev_now rfl)
end LFnExactCountCombos
open LFnExactCountCombos
theorem FnExactCountCombos : laws_FnExactCountCombos.Pure := by
  intro a b _ _ _ _ _ _
  refine Ev.rounds (g := fun k => laws_FnExactCountCombos.f k a b) ?_
  unfold laws_FnExactCountCombos.f
  by_cases hb : (a.length : Int) > 1048576
  · exact ev_pos hb (ev_now rfl)
  refine ev_neg hb ?_
  by_cases hc : (b.length : Int) > 1048576
  · exact ev_pos hc (ev_now rfl)
  refine ev_neg hc ?_
  refine Ev.bind (toInt64S_ev a (by omega)) (Ev.bind (toInt64S_ev b (by omega)) (Ev.bind (specCountCombos_ev a b (by omega) (by omega)) ?_))
  refine Ev.bind (toInt64S_ev a (by omega)) (Ev.bind (toInt64S_ev b (by omega)) (Ev.bind (implCountCombos_ev a b (by omega) (by omega)) ?_))
  refine ev_pos rfl (Ev.step (fun k => laws_FnExactCountCombos.j0.eq_2 _ _ _ _ _ k) (ev_neg (by simp) ?_))
  refine Ev.bind (toInt64S_ev a (by omega)) (Ev.bind (eqInt64S_ev rfl (by omega)) (ev_pos rfl ?_))
  exact Ev.bind (toInt64S_ev b (by omega)) (Ev.bind (eqInt64S_ev rfl (by omega)) (ev_pos rfl (ev_now rfl)))
end Go.Proofs.Ytblfemlheolhoaa.Pure
