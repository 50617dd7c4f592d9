/- For every list the program's IsRange returns what the reference's returns. No conditions. -/
import Derived.Test.YtfhicidkhjcjlaaQFnExactIsRangex2
import Derived.Test.YtfhicidkhjcjlaaEv
namespace Go.Proofs.Ytfhicidkhjcjlaa.Pure
open Go.RowKit Go.Proofs.Ytfhicidkhjcjlaa.QFnExactIsRange Go.Proofs.YtfhicidkhjcjlaaW.PrintWords Go.Proofs.YtfhicidkhjcjlaaW.PrintLast Go.Proofs.YtfhicidkhjcjlaaW.PrintMore Go.Proofs.Ytfhicidkhjcjlaa.EvBase
set_option linter.unusedVariables false
set_option linter.unusedSimpArgs false
namespace LFnExactIsRange
theorem l01In_eq (a lo hi : Int) : spec_l01In.f a lo hi = some (inR lo hi a) := by
  unfold spec_l01In.f inR
  by_cases h : a ≥ lo
  · rw [if_pos h]; simp [h]
  · rw [if_neg h]; simp; omega
theorem within_eq (a lo hi : Int) : impl_within.f a lo hi = some (inR lo hi a) := by
  unfold impl_within.f inR
  by_cases h : a ≥ lo
  · rw [if_pos h]; simp [h]
  · rw [if_neg h]; simp; omega
theorem toInt64S_l0 : ∀ (s pre z : List Int), z.length = s.length → pre.length + s.length ≤ 1000000000000 →
    Ev (fun k => laws_toInt64S.l0 k (pre ++ s) (pre ++ z) (pre.length : Int)) (pre ++ s)
  | [], pre, z, hz, hl => by
    obtain rfl : z = [] := by simpa using hz
    refine Ev.step (fun k => laws_toInt64S.l0.eq_2 _ _ _ k) ?_
    exact ev_neg (by simp) (ev_now rfl)
  | x :: s, pre, z, hz, hl => by
    obtain ⟨y, z, rfl⟩ : ∃ y z', z = y :: z' := by cases z with
      | nil => simp at hz
      | cons y z => exact ⟨y, z, rfl⟩
    have hl' : pre.length + (s.length + 1) ≤ 1000000000000 := hl
    refine Ev.step (fun k => laws_toInt64S.l0.eq_2 _ _ _ k) ?_
    refine ev_pos (by simp; omega) (ev_pos (by omega) (ev_pos (by simp; omega) ?_))
    rw [rd_at, set_at, w64 (by omega) (by omega), len_snoc pre x, app_snoc pre s x]
    have hlen : ((pre ++ [x]).length : Int) = (pre ++ [x]).length := rfl
    exact toInt64S_l0 s (pre ++ [x]) z (by simpa using hz) (by simp; omega)
theorem toInt64S_ev (l : List Int) (hl : l.length ≤ 1000000000000) : Ev (fun k => laws_toInt64S.f k l) l := by
  unfold laws_toInt64S.f
  refine ev_pos (by omega) (ev_pos (by simp; omega) ?_)
  have h := toInt64S_l0 l [] (List.replicate l.length 0) (by simp) (by simpa using hl)
  simpa using h
theorem eqInt64S_l0 : ∀ (s pre : List Int), pre.length + s.length ≤ 1000000000000 →
    Ev (fun k => laws_eqInt64S.l0 k (pre ++ s) (pre ++ s) (pre.length : Int)) true
  | [], pre, hl => by
    refine Ev.step (fun k => laws_eqInt64S.l0.eq_2 _ _ _ k) ?_
    exact ev_neg (by simp) (ev_now rfl)
  | x :: s, pre, hl => by
    have hl' : pre.length + (s.length + 1) ≤ 1000000000000 := hl
    refine Ev.step (fun k => laws_eqInt64S.l0.eq_2 _ _ _ k) ?_
    refine ev_pos (by simp; omega) (ev_pos (by omega) (ev_pos (by simp; omega) (ev_pos rfl ?_)))
    rw [w64 (by omega) (by omega), len_snoc pre x, app_snoc pre s x]
    exact eqInt64S_l0 s (pre ++ [x]) (by simp; omega)
theorem eqInt64S_ev {a b : List Int} (e : a = b) (hl : a.length ≤ 1000000000000) : Ev (fun k => laws_eqInt64S.f k a b) true := by
  subst e
  unfold laws_eqInt64S.f
  refine ev_pos rfl ?_
  simpa using eqInt64S_l0 a [] (by simpa using hl)
theorem l01Rises_l0 : ∀ (s pre : List Int), pre.length + s.length ≤ 1000000000000 →
    Ev (fun k => spec_l01Rises.l0 k (pre ++ s) 169 (pre.length : Int)) (s.all (inR 0 168) && (match pre.getLast? with | none => incB s | some p => chainB p s))
  | [], pre, hl => by
    refine Ev.step (fun k => spec_l01Rises.l0.eq_2 _ _ _ k) ?_
    refine ev_neg (by simp) (ev_now ?_)
    cases pre.getLast? <;> rfl
  | x :: s, pre, hl => by
    have hl' : pre.length + (s.length + 1) ≤ 1000000000000 := hl
    have hnext := l01Rises_l0 s (pre ++ [x]) (by simp; omega)
    rw [List.getLast?_append] at hnext
    simp only [List.getLast?_singleton, Option.some_or] at hnext
    refine Ev.step (fun k => spec_l01Rises.l0.eq_2 _ _ _ k) ?_
    refine ev_pos (by simp; omega) (ev_pos (by omega) ?_)
    rw [rd_at]
    refine ev_bindc (l01In_eq _ _ _) ?_
    have e169 : wrap64 (169 - 1) = 168 := w64 (by decide) (by decide)
    rw [e169]
    by_cases hin : inR 0 168 x = true
    · refine ev_pos hin ?_
      simp only [List.all_cons, hin, Bool.true_and]
      rcases List.eq_nil_or_concat pre with rfl | ⟨pre, p, rfl⟩
      · refine ev_neg (by simp) ?_
        rw [w64 (by simp) (by simp), len_snoc [] x, app_snoc [] s x]
        simpa [incB] using hnext
      · rw [List.concat_eq_append] at *
        have e1 : (((pre ++ [p]).length : Nat) : Int) - 1 = (pre.length : Int) := by simp
        have hpl : (pre ++ [p]).length = pre.length + 1 := by simp
        refine ev_pos (by omega) ?_
        have e2 : wrap64 ((((pre ++ [p]).length : Nat) : Int) - 1) = (pre.length : Int) := by rw [e1]; exact w64 (by omega) (by omega)
        rw [e2]
        refine ev_pos (by omega) (ev_pos (by simp; omega) ?_)
        have e3 : rd (pre ++ [p] ++ x :: s) (pre.length : Int) = p := by rw [List.append_assoc]; exact rd_at _ _ _
        rw [e3]
        rw [List.getLast?_append]
        simp only [List.getLast?_singleton, Option.some_or, chainB]
        by_cases hle : x ≤ p
        · exact ev_pos hle (ev_now (by simp; omega))
        · refine ev_neg hle ?_
          rw [w64 (by omega) (by omega), len_snoc (pre ++ [p]) x, app_snoc (pre ++ [p]) s x]
          have : decide (p < x) = true := by simp; omega
          rw [this, Bool.true_and]; exact hnext
    · refine ev_neg hin (ev_now ?_)
      simp only [Bool.not_eq_true] at hin
      simp [hin]
theorem l01Rises_ev (l : List Int) (hl : l.length ≤ 1000000000000) : Ev (fun k => spec_l01Rises.f k l 169) (isRangeB l) := by
  unfold spec_l01Rises.f
  have h := l01Rises_l0 l [] (by simpa using hl)
  exact h
theorem specIsRange_ev (l : List Int) (hl : l.length ≤ 1000000000000) : Ev (fun k => spec_IsRange.f k l) (isRangeB l) := by
  unfold spec_IsRange.f
  exact Ev.bind (l01Rises_ev l hl) (ev_now rfl)
theorem allWithin_l0 (lo hi : Int) : ∀ (s pre : List Int), pre.length + s.length ≤ 1000000000000 →
    Ev (fun k => impl_allWithin.l0 k lo hi (pre ++ s) ((pre ++ s).length : Int) (pre.length : Int)) (s.all (inR lo hi))
  | [], pre, hl => by
    refine Ev.step (fun k => impl_allWithin.l0.eq_2 _ _ _ _ _ k) ?_
    exact ev_neg (by simp) (ev_now rfl)
  | x :: s, pre, hl => by
    have hl' : pre.length + (s.length + 1) ≤ 1000000000000 := hl
    refine Ev.step (fun k => impl_allWithin.l0.eq_2 _ _ _ _ _ k) ?_
    refine ev_pos (by simp; omega) (ev_pos (by omega) (ev_pos (by simp; omega) ?_))
    rw [rd_at]
    refine ev_bindc (within_eq _ _ _) ?_
    by_cases hin : inR lo hi x = true
    · refine ev_pos hin ?_
      rw [w64 (by omega) (by omega), len_snoc pre x, app_snoc pre s x]
      have h := allWithin_l0 lo hi s (pre ++ [x]) (by simp; omega)
      simpa only [List.all_cons, hin, Bool.true_and] using h
    · refine ev_neg hin (ev_now ?_)
      simp only [Bool.not_eq_true] at hin
      simp [hin]
theorem allWithin_ev (l : List Int) (lo hi : Int) (hl : l.length ≤ 1000000000000) : Ev (fun k => impl_allWithin.f k l lo hi) (l.all (inR lo hi)) := by
  unfold impl_allWithin.f
  simpa using allWithin_l0 lo hi l [] (by simpa using hl)
theorem increasing_l0 : ∀ (s pre : List Int) (p : Int), pre.length + s.length ≤ 100000000000 →
    Ev (fun k => impl_increasing.l0 k (pre ++ p :: s) ((pre.length : Int) + 1)) (chainB p s)
  | [], pre, p, hl => by
    refine Ev.step (fun k => impl_increasing.l0.eq_2 _ _ k) ?_
    exact ev_neg (by simp) (ev_now rfl)
  | x :: s, pre, p, hl => by
    have hl' : pre.length + (s.length + 1) ≤ 100000000000 := hl
    refine Ev.step (fun k => impl_increasing.l0.eq_2 _ _ k) ?_
    refine ev_pos (by simp; omega) ?_
    have e2 : wrap64 ((pre.length : Int) + 1 - 1) = (pre.length : Int) := by rw [Int.add_sub_cancel]; exact w64 (by omega) (by omega)
    rw [e2]
    refine ev_pos (by omega) (ev_pos (by simp; omega) (ev_pos (by omega) ?_))
    rw [rd_at]
    have e3 : rd (pre ++ p :: x :: s) ((pre.length : Int) + 1) = x := by
      rw [len_snoc pre p, app_snoc pre _ p]; exact rd_at _ _ _
    rw [e3]
    by_cases hle : p ≥ x
    · exact ev_pos hle (ev_now (by simp [chainB]; omega))
    · refine ev_neg hle ?_
      rw [w64 (by omega) (by omega)]
      have h := increasing_l0 s (pre ++ [p]) x (by simp; omega)
      have : decide (p < x) = true := by simp; omega
      simp only [chainB, this, Bool.true_and]
      rw [len_snoc pre p, app_snoc pre _ p]; exact h
theorem increasing_ev (l : List Int) (hl : l.length ≤ 10000000000) : Ev (fun k => impl_increasing.f k l) (incB l) := by
  unfold impl_increasing.f
  cases l with
  | nil =>
    refine Ev.step (fun k => impl_increasing.l0.eq_2 _ _ k) ?_
    exact ev_neg (by simp) (ev_now rfl)
  | cons x s => exact increasing_l0 s [] x (by simp at hl ⊢; omega)
theorem implIsRange_ev (l : List Int) (hl : l.length ≤ 10000000000) : Ev (fun k => impl_IsRange.f k l) (isRangeB l) := by
  unfold impl_IsRange.f isRangeB
  refine Ev.bind (allWithin_ev l 0 168 (by omega)) ?_
  by_cases h : l.all (inR 0 168) = true
  · refine ev_pos h (Ev.bind (increasing_ev l hl) (ev_now ?_))
    rw [h, Bool.true_and]
  · refine ev_neg h (ev_now ?_)
    simp only [Bool.not_eq_true] at h
    rw [h, Bool.false_and]
end LFnExactIsRange
open LFnExactIsRange
theorem FnExactIsRange : laws_FnExactIsRange.Pure := by
  intro l _ _ _
  refine Ev.rounds (g := fun k => laws_FnExactIsRange.f k l) ?_
  unfold laws_FnExactIsRange.f
  by_cases hb : (l.length : Int) > 1048576
  · exact ev_pos hb (ev_now rfl)
  have hl : l.length ≤ 1048576 := by omega
  refine ev_neg hb ?_
  refine Ev.bind (toInt64S_ev l (by omega)) (Ev.bind (specIsRange_ev l (by omega)) ?_)
  refine Ev.bind (toInt64S_ev l (by omega)) (Ev.bind (implIsRange_ev l (by omega)) ?_)
  refine ev_neg (by simp) ?_
  refine Ev.bind (toInt64S_ev l (by omega)) (Ev.bind (eqInt64S_ev rfl (by omega)) ?_)
  exact ev_pos rfl (ev_now rfl)
end Go.Proofs.Ytfhicidkhjcjlaa.Pure
