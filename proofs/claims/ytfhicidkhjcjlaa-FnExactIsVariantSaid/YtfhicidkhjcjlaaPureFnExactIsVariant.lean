/- For every variant the program's IsVariant returns what the reference's returns. No conditions. -/
import Derived.Test.YtfhicidkhjcjlaaQFnExactIsVariantx1
import Derived.Test.YtfhicidkhjcjlaaEv
namespace Go.Proofs.Ytfhicidkhjcjlaa.Pure
open Go.RowKit Go.Proofs.Ytfhicidkhjcjlaa.QFnExactIsVariant Go.Proofs.YtfhicidkhjcjlaaW.PrintWords Go.Proofs.YtfhicidkhjcjlaaW.PrintLast Go.Proofs.YtfhicidkhjcjlaaW.PrintMore Go.Proofs.Ytfhicidkhjcjlaa.EvBase
set_option linter.unusedVariables false
set_option linter.unusedSimpArgs false
namespace LFnExactIsVariant
theorem l01In_eq (a lo hi : Int) : spec_l01In.f a lo hi = some (inR lo hi a) := by
  unfold spec_l01In.f inR
  by_cases h : a ≥ lo
  · rw [if_pos h]; simp [h]
  · rw [if_neg h]; simp; omega
theorem within_eq (a lo hi : Int) : impl_within.f a lo hi = some (inR lo hi a) := by
  unfold impl_within.f inR
  by_cases h : a ≥ lo
  · rw [if_pos h]; simp [h]
  · rw [if_neg h]; simp; omega
theorem specVariant_ev (h l m b : Int) (hi : Bool) (lo : Int) : Ev (fun k => spec_IsVariant.f k h l m b hi lo) (variantB h l m b hi lo) := by
  unfold spec_IsVariant.f variantB
  refine ev_bindc (l01In_eq _ _ _) ?_
  by_cases h1 : inR 1 7 h = true
  rotate_left
  · exact ev_neg h1 (Ev.step (fun k => spec_IsVariant.j0.eq_2 _ _ _ _ _ _ _ k) (ev_pos rfl (ev_now (by simp [h1]))))
  refine ev_pos h1 (ev_bindc (l01In_eq _ _ _) ?_)
  by_cases h2 : inR 0 5 b = true
  rotate_left
  · exact ev_neg h2 (Ev.step (fun k => spec_IsVariant.j0.eq_2 _ _ _ _ _ _ _ k) (ev_pos rfl (ev_now (by simp [h2]))))
  refine ev_pos h2 (ev_bindc (l01In_eq _ _ _) ?_)
  by_cases h3 : inR 0 3 lo = true
  rotate_left
  · exact ev_neg h3 (Ev.step (fun k => spec_IsVariant.j0.eq_2 _ _ _ _ _ _ _ k) (ev_pos rfl (ev_now (by simp [h3]))))
  refine ev_pos h3 (ev_bindc (l01In_eq _ _ _) ?_)
  rw [mn_min]
  by_cases h4 : inR 0 (min h 5) m = true
  rotate_left
  · exact ev_neg h4 (Ev.step (fun k => spec_IsVariant.j0.eq_2 _ _ _ _ _ _ _ k) (ev_pos rfl (ev_now (by simp [h4]))))
  refine ev_pos h4 (ev_bindc (l01In_eq _ _ _) ?_)
  by_cases h5 : inR 0 m l = true
  rotate_left
  · exact ev_neg h5 (Ev.step (fun k => spec_IsVariant.j0.eq_2 _ _ _ _ _ _ _ k) (ev_pos rfl (ev_now (by simp [h5]))))
  refine ev_pos h5 (Ev.step (fun k => spec_IsVariant.j0.eq_2 _ _ _ _ _ _ _ k) ?_)
  have b4 := inR_iff.1 h4
  rw [w64 (by omega) (by omega)]
  by_cases h6 : 5 - m > b
  · exact ev_pos (by simpa using h6) (ev_now (by simp; omega))
  refine ev_neg (by simpa using h6) ?_
  have h6' : decide (5 - m ≤ b) = true := by simp; omega
  simp only [h1, h2, h3, h4, h5, h6', Bool.true_and]
  by_cases e0 : lo = 0
  · subst e0
    refine ev_pos rfl ?_
    rw [if_pos rfl]
    cases hi
    · exact ev_neg (by simp) (ev_now rfl)
    · exact ev_pos rfl (ev_now rfl)
  refine ev_neg e0 ?_
  rw [if_neg e0]
  by_cases e1 : lo = 1
  · subst e1
    refine ev_pos rfl ?_
    rw [if_pos rfl]
    cases hi
    · exact ev_neg (by simp) (ev_now rfl)
    · exact ev_pos rfl (ev_now rfl)
  refine ev_neg e1 ?_
  rw [if_neg e1]
  exact ev_now rfl
theorem implVariant_eq (h l m b : Int) (hi : Bool) (lo : Int) : impl_IsVariant.f h l m b hi lo = some (variantB h l m b hi lo) := by
  unfold impl_IsVariant.f variantB
  simp only [within_eq, Option.bind_some, mn_min]
  by_cases h1 : inR 1 7 h = true
  rotate_left
  · simp [h1]
  by_cases h2 : inR 0 5 b = true
  rotate_left
  · simp [h1, h2]
  by_cases h3 : inR 0 3 lo = true
  rotate_left
  · simp [h1, h2, h3]
  simp only [h1, h2, h3, if_true, Bool.true_and]
  have b1 := inR_iff.1 h1
  have b3 := inR_iff.1 h3
  by_cases l0 : l ≥ 0
  rotate_left
  · rw [if_neg l0]
    have : inR 0 m l = false := by simp [inR]; omega
    simp [this]
  rw [if_pos l0]
  by_cases l1 : l ≤ m
  rotate_left
  · rw [if_neg l1]
    have : inR 0 m l = false := by simp [inR]; omega
    simp [this]
  rw [if_pos l1]
  by_cases m1 : m ≤ min h 5
  rotate_left
  · rw [if_neg m1]
    have : inR 0 (min h 5) m = false := by simp only [inR, decide_eq_false_iff_not]; omega
    simp [this]
  rw [if_pos m1]
  have h4 : inR 0 (min h 5) m = true := inR_iff.2 ⟨by omega, m1⟩
  have h5 : inR 0 m l = true := inR_iff.2 ⟨by omega, by omega⟩
  rw [w64 (by omega) (by omega)]
  by_cases h6 : 5 - m ≤ b
  rotate_left
  · rw [if_neg h6]; simp [h6]
  rw [if_pos h6]
  simp only [h4, h5, h6, decide_true, Bool.true_and]
  have hlo : lo = 0 ∨ lo = 1 ∨ lo = 2 ∨ lo = 3 := by omega
  rcases hlo with rfl | rfl | rfl | rfl <;> cases hi <;> decide
end LFnExactIsVariant
open LFnExactIsVariant
theorem FnExactIsVariant (a0_0 a0_1 a0_2 a0_3 : Int) (a0_4 : Bool) (a0_5 : Int) (_ : (Lit.int .i64 a0_0).wf = true) (_ : (Lit.int .i64 a0_1).wf = true) (_ : (Lit.int .i64 a0_2).wf = true) (_ : (Lit.int .i64 a0_3).wf = true) (_ : (Lit.int .i64 a0_5).wf = true) :
    ∃ k, laws_FnExactIsVariant.f k a0_0 a0_1 a0_2 a0_3 a0_4 a0_5 = some true := by
  refine Ev.rounds (g := fun k => laws_FnExactIsVariant.f k a0_0 a0_1 a0_2 a0_3 a0_4 a0_5) ?_
  unfold laws_FnExactIsVariant.f
  refine ev_bindc rfl (Ev.bind (specVariant_ev _ _ _ _ _ _) (ev_bindc rfl (ev_bindc (implVariant_eq _ _ _ _ _ _) ?_)))
  exact ev_neg (by simp) (ev_now rfl)
end Go.Proofs.Ytfhicidkhjcjlaa.Pure
