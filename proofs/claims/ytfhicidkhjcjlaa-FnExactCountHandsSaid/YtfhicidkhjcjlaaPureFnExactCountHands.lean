/- For every variant the program's CountHands returns what the reference's returns. No conditions. -/
import Derived.Test.YtfhicidkhjcjlaaQFnExactCountHandsx2
import Derived.Test.YtfhicidkhjcjlaaEv
namespace Go.Proofs.Ytfhicidkhjcjlaa.Pure
open Go.RowKit Go.Proofs.Ytfhicidkhjcjlaa.QFnExactCountHands Go.Proofs.YtfhicidkhjcjlaaW.PrintWords Go.Proofs.YtfhicidkhjcjlaaW.PrintLast Go.Proofs.YtfhicidkhjcjlaaW.PrintMore Go.Proofs.Ytfhicidkhjcjlaa.EvBase
set_option linter.unusedVariables false
set_option linter.unusedSimpArgs false
namespace LFnExactCountHands
theorem l01In_eq (a lo hi : Int) : spec_l01In.f a lo hi = some (inR lo hi a) := by
  unfold spec_l01In.f inR
  by_cases h : a ≥ lo
  · rw [if_pos h]; simp [h]
  · rw [if_neg h]; simp; omega
theorem within_eq (a lo hi : Int) : impl_within.f a lo hi = some (inR lo hi a) := by
  unfold impl_within.f inR
  by_cases h : a ≥ lo
  · rw [if_pos h]; simp [h]
  · rw [if_neg h]; simp; omega
theorem specVariant_ev (h l m b : Int) (hi : Bool) (lo : Int) : Ev (fun k => spec_IsVariant.f k h l m b hi lo) (variantB h l m b hi lo) := by
  unfold spec_IsVariant.f variantB
  refine ev_bindc (l01In_eq _ _ _) ?_
  by_cases h1 : inR 1 7 h = true
  rotate_left
  · exact ev_neg h1 (Ev.step (fun k => spec_IsVariant.j0.eq_2 _ _ _ _ _ _ _ k) (ev_pos rfl (ev_now (by simp [h1]))))
  refine ev_pos h1 (ev_bindc (l01In_eq _ _ _) ?_)
  by_cases h2 : inR 0 5 b = true
  rotate_left
  · exact ev_neg h2 (Ev.step (fun k => spec_IsVariant.j0.eq_2 _ _ _ _ _ _ _ k) (ev_pos rfl (ev_now (by simp [h2]))))
  refine ev_pos h2 (ev_bindc (l01In_eq _ _ _) ?_)
  by_cases h3 : inR 0 3 lo = true
  rotate_left
  · exact ev_neg h3 (Ev.step (fun k => spec_IsVariant.j0.eq_2 _ _ _ _ _ _ _ k) (ev_pos rfl (ev_now (by simp [h3]))))
  refine ev_pos h3 (ev_bindc (l01In_eq _ _ _) ?_)
  rw [mn_min]
  by_cases h4 : inR 0 (min h 5) m = true
  rotate_left
  · exact ev_neg h4 (Ev.step (fun k => spec_IsVariant.j0.eq_2 _ _ _ _ _ _ _ k) (ev_pos rfl (ev_now (by simp [h4]))))
  refine ev_pos h4 (ev_bindc (l01In_eq _ _ _) ?_)
  by_cases h5 : inR 0 m l = true
  rotate_left
  · exact ev_neg h5 (Ev.step (fun k => spec_IsVariant.j0.eq_2 _ _ _ _ _ _ _ k) (ev_pos rfl (ev_now (by simp [h5]))))
  refine ev_pos h5 (Ev.step (fun k => spec_IsVariant.j0.eq_2 _ _ _ _ _ _ _ k) ?_)
  have b4 := inR_iff.1 h4
  rw [w64 (by omega) (by omega)]
  by_cases h6 : 5 - m > b
  · exact ev_pos (by simpa using h6) (ev_now (by simp; omega))
  refine ev_neg (by simpa using h6) ?_
  have h6' : decide (5 - m ≤ b) = true := by simp; omega
  simp only [h1, h2, h3, h4, h5, h6', Bool.true_and]
  by_cases e0 : lo = 0
  · subst e0
    refine ev_pos rfl ?_
    rw [if_pos rfl]
    cases hi
    · exact ev_neg (by simp) (ev_now rfl)
    · exact ev_pos rfl (ev_now rfl)
  refine ev_neg e0 ?_
  rw [if_neg e0]
  by_cases e1 : lo = 1
  · subst e1
    refine ev_pos rfl ?_
    rw [if_pos rfl]
    cases hi
    · exact ev_neg (by simp) (ev_now rfl)
    · exact ev_pos rfl (ev_now rfl)
  refine ev_neg e1 ?_
  rw [if_neg e1]
  exact ev_now rfl
theorem implVariant_eq (h l m b : Int) (hi : Bool) (lo : Int) : impl_IsVariant.f h l m b hi lo = some (variantB h l m b hi lo) := by
  unfold impl_IsVariant.f variantB
  simp only [within_eq, Option.bind_some, mn_min]
  by_cases h1 : inR 1 7 h = true
  rotate_left
  · simp [h1]
  by_cases h2 : inR 0 5 b = true
  rotate_left
  · simp [h1, h2]
  by_cases h3 : inR 0 3 lo = true
  rotate_left
  · simp [h1, h2, h3]
  simp only [h1, h2, h3, if_true, Bool.true_and]
  have b1 := inR_iff.1 h1
  have b3 := inR_iff.1 h3
  by_cases l0 : l ≥ 0
  rotate_left
  · rw [if_neg l0]
    have : inR 0 m l = false := by simp [inR]; omega
    simp [this]
  rw [if_pos l0]
  by_cases l1 : l ≤ m
  rotate_left
  · rw [if_neg l1]
    have : inR 0 m l = false := by simp [inR]; omega
    simp [this]
  rw [if_pos l1]
  by_cases m1 : m ≤ min h 5
  rotate_left
  · rw [if_neg m1]
    have : inR 0 (min h 5) m = false := by simp only [inR, decide_eq_false_iff_not]; omega
    simp [this]
  rw [if_pos m1]
  have h4 : inR 0 (min h 5) m = true := inR_iff.2 ⟨by omega, m1⟩
  have h5 : inR 0 m l = true := inR_iff.2 ⟨by omega, by omega⟩
  rw [w64 (by omega) (by omega)]
  by_cases h6 : 5 - m ≤ b
  rotate_left
  · rw [if_neg h6]; simp [h6]
  rw [if_pos h6]
  simp only [h4, h5, h6, decide_true, Bool.true_and]
  have hlo : lo = 0 ∨ lo = 1 ∨ lo = 2 ∨ lo = 3 := by omega
  rcases hlo with rfl | rfl | rfl | rfl <;> cases hi <;> decide
theorem specChoose_l0 (n kk : Int) (hk : kk ≤ 100) : ∀ (d : Nat) (x i : Int), 0 ≤ i → kk = i + d → Ev (fun k => spec_l06Choose.l0 k n kk x i) (binM n d x i)
  | 0, x, i, h0, he => by
    refine Ev.step (fun k => spec_l06Choose.l0.eq_2 _ _ _ _ k) ?_
    exact ev_neg (by omega) (ev_now rfl)
  | d + 1, x, i, h0, he => by
    refine Ev.step (fun k => spec_l06Choose.l0.eq_2 _ _ _ _ k) ?_
    rw [w64 (n := i + 1) (by omega) (by omega)]
    exact ev_pos (by omega) (ev_neg (by omega) (specChoose_l0 n kk hk d _ (i + 1) (by omega) (by omega)))
theorem specChoose_ev (n kk : Int) (hk : kk ≤ 100) : Ev (fun k => spec_l06Choose.f k n kk) (chooseM n kk) := by
  unfold spec_l06Choose.f chooseM
  by_cases h : kk < 0
  · rw [if_pos (.inl h)]
    exact ev_pos h (Ev.step (fun k => spec_l06Choose.j0.eq_2 _ _ _ k) (ev_pos rfl (ev_now rfl)))
  refine ev_neg h (Ev.step (fun k => spec_l06Choose.j0.eq_2 _ _ _ k) ?_)
  by_cases h2 : kk > n
  · rw [if_pos (.inr h2)]
    exact ev_pos (by simpa using h2) (ev_now rfl)
  · rw [if_neg (by omega)]
    exact ev_neg (by simpa using h2) (specChoose_l0 n kk hk _ _ _ (by omega) (by omega))
theorem implChoose_l0 (n kk : Int) (hk : kk ≤ 100) : ∀ (d : Nat) (x i : Int), 0 ≤ i → kk = i + d → Ev (fun k => impl_binomial.l0 k n x kk i) (binM n d x i)
  | 0, x, i, h0, he => by
    refine Ev.step (fun k => impl_binomial.l0.eq_2 _ _ _ _ k) ?_
    exact ev_neg (by omega) (ev_now rfl)
  | d + 1, x, i, h0, he => by
    refine Ev.step (fun k => impl_binomial.l0.eq_2 _ _ _ _ k) ?_
    rw [w64 (n := i + 1) (by omega) (by omega)]
    exact ev_pos (by omega) (ev_neg (by omega) (implChoose_l0 n kk hk d _ (i + 1) (by omega) (by omega)))
theorem implChoose_ev (n kk : Int) (hk : kk ≤ 100) : Ev (fun k => impl_binomial.f k n kk) (chooseM n kk) := by
  unfold impl_binomial.f chooseM
  by_cases h : kk < 0
  · rw [if_pos (.inl h)]
    exact ev_pos h (Ev.step (fun k => impl_binomial.j0.eq_2 _ _ _ k) (ev_pos rfl (ev_now rfl)))
  refine ev_neg h (Ev.step (fun k => impl_binomial.j0.eq_2 _ _ _ k) ?_)
  by_cases h2 : kk > n
  · rw [if_pos (.inr h2)]
    exact ev_pos (by simpa using h2) (ev_now rfl)
  · rw [if_neg (by omega)]
    exact ev_neg (by simpa using h2) (implChoose_l0 n kk hk _ _ _ (by omega) (by omega))
def countM (h l m b : Int) (hi : Bool) (lo : Int) : Int × Int := if variantB h l m b hi lo then (cntM h b (m + 1 - l).toNat 0 l, 0) else (0, 1)
theorem variant_bounds {h l m b : Int} {hi : Bool} {lo : Int} (hv : variantB h l m b hi lo = true) : 1 ≤ h ∧ h ≤ 7 ∧ 0 ≤ b ∧ b ≤ 5 ∧ 0 ≤ lo ∧ lo ≤ 3 ∧ 0 ≤ l ∧ l ≤ m ∧ m ≤ 5 ∧ m ≤ h ∧ 5 - m ≤ b := by
  simp only [variantB, Bool.and_eq_true, inR_iff, decide_eq_true_eq] at hv
  obtain ⟨h1, h2, h3, h4, h5, h6, _⟩ := hv
  refine ⟨h1.1, h1.2, h2.1, h2.2, h3.1, h3.2, h5.1, h5.2, by omega, by omega, h6⟩
theorem specCount_l0 (h l m b : Int) (hi : Bool) (lo : Int) (hm : m ≤ 5) : ∀ (d : Nat) (acc k : Int), 0 ≤ k → m + 1 = k + d →
    Ev (fun n => spec_CountHands.l0 n acc k h l m b hi lo) (cntM h b d acc k, 0)
  | 0, acc, k, h0, he => by
    refine Ev.step (fun n => spec_CountHands.l0.eq_2 _ _ _ _ _ _ _ _ n) ?_
    exact ev_neg (by omega) (ev_now rfl)
  | d + 1, acc, k, h0, he => by
    refine Ev.step (fun n => spec_CountHands.l0.eq_2 _ _ _ _ _ _ _ _ n) ?_
    rw [w64 (n := k + 1) (by omega) (by omega), w64 (n := 5 - k) (by omega) (by omega)]
    refine ev_pos (by omega) (Ev.bind (specChoose_ev h k (by omega)) (Ev.bind (specChoose_ev b (5 - k) (by omega)) ?_))
    exact specCount_l0 h l m b hi lo hm d _ (k + 1) (by omega) (by omega)
theorem specCount_ev (h l m b : Int) (hi : Bool) (lo : Int) : Ev (fun n => spec_CountHands.f n h l m b hi lo) (countM h l m b hi lo) := by
  unfold spec_CountHands.f countM
  refine Ev.bind (specVariant_ev h l m b hi lo) ?_
  by_cases hv : variantB h l m b hi lo = true
  · have bd := variant_bounds hv
    rw [if_pos hv]
    exact ev_pos hv (specCount_l0 h l m b hi lo (by omega) _ 0 l (by omega) (by omega))
  · rw [if_neg hv]
    exact ev_neg hv (ev_now rfl)
theorem implCount_l0 (h l m b : Int) (hi : Bool) (lo : Int) (hm : m ≤ 5) : ∀ (d : Nat) (acc k : Int), 0 ≤ k → m + 1 = k + d →
    Ev (fun n => impl_CountHands.l0 n acc k h l m b hi lo) (cntM h b d acc k, 0)
  | 0, acc, k, h0, he => by
    refine Ev.step (fun n => impl_CountHands.l0.eq_2 _ _ _ _ _ _ _ _ n) ?_
    exact ev_neg (by omega) (ev_now rfl)
  | d + 1, acc, k, h0, he => by
    refine Ev.step (fun n => impl_CountHands.l0.eq_2 _ _ _ _ _ _ _ _ n) ?_
    rw [w64 (n := k + 1) (by omega) (by omega), w64 (n := 5 - k) (by omega) (by omega)]
    refine ev_pos (by omega) (Ev.bind (implChoose_ev h k (by omega)) (Ev.bind (implChoose_ev b (5 - k) (by omega)) ?_))
    exact implCount_l0 h l m b hi lo hm d _ (k + 1) (by omega) (by omega)
theorem implCount_ev (h l m b : Int) (hi : Bool) (lo : Int) : Ev (fun n => impl_CountHands.f n h l m b hi lo) (countM h l m b hi lo) := by
  unfold impl_CountHands.f countM
  refine ev_bindc (implVariant_eq h l m b hi lo) ?_
  by_cases hv : variantB h l m b hi lo = true
  · have bd := variant_bounds hv
    rw [if_pos hv]
    exact ev_pos hv (implCount_l0 h l m b hi lo (by omega) _ 0 l (by omega) (by omega))
  · rw [if_neg hv]
    exact ev_neg hv (ev_now rfl)
end LFnExactCountHands
open LFnExactCountHands
theorem FnExactCountHands (a0_0 a0_1 a0_2 a0_3 : Int) (a0_4 : Bool) (a0_5 : Int) (_ : (Lit.int .i64 a0_0).wf = true) (_ : (Lit.int .i64 a0_1).wf = true) (_ : (Lit.int .i64 a0_2).wf = true) (_ : (Lit.int .i64 a0_3).wf = true) (_ : (Lit.int .i64 a0_5).wf = true) :
    ∃ k, laws_FnExactCountHands.f k a0_0 a0_1 a0_2 a0_3 a0_4 a0_5 = some true := by
  refine Ev.rounds (g := fun k => laws_FnExactCountHands.f k a0_0 a0_1 a0_2 a0_3 a0_4 a0_5) ?_
  unfold laws_FnExactCountHands.f
  refine ev_bindc rfl (Ev.bind (specCount_ev _ _ _ _ _ _) (ev_bindc rfl (Ev.bind (implCount_ev _ _ _ _ _ _) ?_)))
  exact ev_pos rfl (ev_pos rfl (ev_now rfl))
end Go.Proofs.Ytfhicidkhjcjlaa.Pure
