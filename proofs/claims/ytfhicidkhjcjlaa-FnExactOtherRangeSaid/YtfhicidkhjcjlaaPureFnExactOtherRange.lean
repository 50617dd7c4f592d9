/- For every list the program's OtherRange returns what the reference's returns, leaves its argument alone, and its result is memory of its own. No conditions. -/
import Derived.Test.YtfhicidkhjcjlaaQFnExactOtherRangex3
import Derived.Test.YtfhicidkhjcjlaaEv
namespace Go.Proofs.Ytfhicidkhjcjlaa.Pure
open Go.RowKit Go.Proofs.Ytfhicidkhjcjlaa.QFnExactOtherRange Go.Proofs.YtfhicidkhjcjlaaW.PrintWords Go.Proofs.YtfhicidkhjcjlaaW.PrintLast Go.Proofs.YtfhicidkhjcjlaaW.PrintMore Go.Proofs.Ytfhicidkhjcjlaa.EvBase
set_option linter.unusedVariables false
set_option linter.unusedSimpArgs false
namespace LFnExactOtherRange
theorem l01In_eq (a lo hi : Int) : spec_l01In.f a lo hi = some (inR lo hi a) := by
  unfold spec_l01In.f inR
  by_cases h : a ≥ lo
  · rw [if_pos h]; simp [h]
  · rw [if_neg h]; simp; omega
theorem within_eq (a lo hi : Int) : impl_within.f a lo hi = some (inR lo hi a) := by
  unfold impl_within.f inR
  by_cases h : a ≥ lo
  · rw [if_pos h]; simp [h]
  · rw [if_neg h]; simp; omega
theorem toInt64S_l0 : ∀ (s pre z : List Int), z.length = s.length → pre.length + s.length ≤ 1000000000000 →
    Ev (fun k => laws_toInt64S.l0 k (pre ++ s) (pre ++ z) (pre.length : Int)) (pre ++ s)
  | [], pre, z, hz, hl => by
    obtain rfl : z = [] := by simpa using hz
    refine Ev.step (fun k => laws_toInt64S.l0.eq_2 _ _ _ k) ?_
    exact ev_neg (by simp) (ev_now rfl)
  | x :: s, pre, z, hz, hl => by
    obtain ⟨y, z, rfl⟩ : ∃ y z', z = y :: z' := by cases z with
      | nil => simp at hz
      | cons y z => exact ⟨y, z, rfl⟩
    have hl' : pre.length + (s.length + 1) ≤ 1000000000000 := hl
    refine Ev.step (fun k => laws_toInt64S.l0.eq_2 _ _ _ k) ?_
    refine ev_pos (by simp; omega) (ev_pos (by omega) (ev_pos (by simp; omega) ?_))
    rw [rd_at, set_at, w64 (by omega) (by omega), len_snoc pre x, app_snoc pre s x]
    have hlen : ((pre ++ [x]).length : Int) = (pre ++ [x]).length := rfl
    exact toInt64S_l0 s (pre ++ [x]) z (by simpa using hz) (by simp; omega)
theorem toInt64S_ev (l : List Int) (hl : l.length ≤ 1000000000000) : Ev (fun k => laws_toInt64S.f k l) l := by
  unfold laws_toInt64S.f
  refine ev_pos (by omega) (ev_pos (by simp; omega) ?_)
  have h := toInt64S_l0 l [] (List.replicate l.length 0) (by simp) (by simpa using hl)
  simpa using h
theorem eqInt64S_l0 : ∀ (s pre : List Int), pre.length + s.length ≤ 1000000000000 →
    Ev (fun k => laws_eqInt64S.l0 k (pre ++ s) (pre ++ s) (pre.length : Int)) true
  | [], pre, hl => by
    refine Ev.step (fun k => laws_eqInt64S.l0.eq_2 _ _ _ k) ?_
    exact ev_neg (by simp) (ev_now rfl)
  | x :: s, pre, hl => by
    have hl' : pre.length + (s.length + 1) ≤ 1000000000000 := hl
    refine Ev.step (fun k => laws_eqInt64S.l0.eq_2 _ _ _ k) ?_
    refine ev_pos (by simp; omega) (ev_pos (by omega) (ev_pos (by simp; omega) (ev_pos rfl ?_)))
    rw [w64 (by omega) (by omega), len_snoc pre x, app_snoc pre s x]
    exact eqInt64S_l0 s (pre ++ [x]) (by simp; omega)
theorem eqInt64S_ev {a b : List Int} (e : a = b) (hl : a.length ≤ 1000000000000) : Ev (fun k => laws_eqInt64S.f k a b) true := by
  subst e
  unfold laws_eqInt64S.f
  refine ev_pos rfl ?_
  simpa using eqInt64S_l0 a [] (by simpa using hl)
theorem markInt64S_l0 : ∀ (s pre : List Int) (m : Int), pre.length + s.length ≤ 1000000000000 → 0 ≤ m → m + s.length ≤ 1000000000000000 →
    Ev (fun k => laws_markInt64S.l0 k (pre ++ s) m (pre.length : Int)) (m + s.length, pre ++ marks m s)
  | [], pre, m, hl, h0, hm => by
    refine Ev.step (fun k => laws_markInt64S.l0.eq_2 _ _ _ k) ?_
    exact ev_neg (by simp) (ev_now (by simp [marks]))
  | x :: s, pre, m, hl, h0, hm => by
    have hl' : pre.length + (s.length + 1) ≤ 1000000000000 := hl
    have hm' : m + ((s.length : Int) + 1) ≤ 1000000000000000 := by simpa using hm
    refine Ev.step (fun k => laws_markInt64S.l0.eq_2 _ _ _ k) ?_
    refine ev_pos (by simp; omega) (ev_pos (by omega) ?_)
    rw [set_at, w64 (by omega) (by omega), w64 (by omega) (by omega), len_snoc pre m]
    have h := markInt64S_l0 s (pre ++ [m]) (m + 1) (by simp; omega) (by omega) (by omega)
    have e : (m + ((x :: s).length : Int), pre ++ marks m (x :: s)) = (m + 1 + (s.length : Int), pre ++ [m] ++ marks (m + 1) s) := by
      simp [marks]; omega
    rw [e]; exact h
theorem markInt64S_ev (l : List Int) (m : Int) (hl : l.length ≤ 1000000000000) (h0 : 0 ≤ m) (hm : m + l.length ≤ 1000000000000000) :
    Ev (fun k => laws_markInt64S.f k l m) (m + l.length, marks m l) := by
  unfold laws_markInt64S.f
  simpa using markInt64S_l0 l [] m (by simpa using hl) h0 hm
theorem heldInt64S_l0 : ∀ (s pre : List Int) (m : Int), pre.length + s.length ≤ 1000000000000 → 0 ≤ m → m + s.length ≤ 1000000000000000 →
    Ev (fun k => laws_heldInt64S.l0 k (pre ++ marks m s) m (pre.length : Int)) (m + s.length)
  | [], pre, m, hl, h0, hm => by
    refine Ev.step (fun k => laws_heldInt64S.l0.eq_2 _ _ _ k) ?_
    exact ev_neg (by simp [marks]) (ev_now (by simp))
  | x :: s, pre, m, hl, h0, hm => by
    have hl' : pre.length + (s.length + 1) ≤ 1000000000000 := hl
    have hm' : m + ((s.length : Int) + 1) ≤ 1000000000000000 := by simpa using hm
    refine Ev.step (fun k => laws_heldInt64S.l0.eq_2 _ _ _ k) ?_
    show Ev (fun k => if (pre.length : Int) < (((pre ++ m :: marks (m + 1) s).length : Nat) : Int) then _ else _) _
    refine ev_pos (by simp; omega) (ev_pos (by omega) (ev_pos (rd_at _ _ _) ?_))
    show Ev (fun k => laws_heldInt64S.l0 k (pre ++ m :: marks (m + 1) s) _ _) _
    rw [w64 (by omega) (by omega), w64 (by omega) (by omega), len_snoc pre m, app_snoc pre _ m]
    have h := heldInt64S_l0 s (pre ++ [m]) (m + 1) (by simp; omega) (by omega) (by omega)
    have e : m + ((x :: s).length : Int) = m + 1 + (s.length : Int) := by simp; omega
    rw [e]; exact h
theorem heldInt64S_ev (l : List Int) (m : Int) (hl : l.length ≤ 1000000000000) (h0 : 0 ≤ m) (hm : m + l.length ≤ 1000000000000000) :
    Ev (fun k => laws_heldInt64S.f k (marks m l) m) (m + l.length) := by
  unfold laws_heldInt64S.f
  simpa using heldInt64S_l0 l [] m (by simpa using hl) h0 hm
theorem l01Has_l0 : ∀ (s pre : List Int) (c : Int), pre.length + s.length ≤ 1000000000000 →
    Ev (fun k => spec_l01Has.l0 k (pre ++ s) c (pre.length : Int)) (s.contains c)
  | [], pre, c, hl => by
    refine Ev.step (fun k => spec_l01Has.l0.eq_2 _ _ _ k) ?_
    exact ev_neg (by simp) (ev_now (by simp))
  | x :: s, pre, c, hl => by
    have hl' : pre.length + (s.length + 1) ≤ 1000000000000 := hl
    refine Ev.step (fun k => spec_l01Has.l0.eq_2 _ _ _ k) ?_
    refine ev_pos (by simp; omega) (ev_pos (by omega) ?_)
    rw [rd_at]
    by_cases e : x = c
    · exact ev_pos e (ev_now (by simp [e]))
    · refine ev_neg e ?_
      rw [w64 (by omega) (by omega), len_snoc pre x, app_snoc pre s x]
      have h := l01Has_l0 s (pre ++ [x]) c (by simp; omega)
      have e2 : (x :: s).contains c = s.contains c := by simp [List.contains_cons]; omega
      rw [e2]; exact h
theorem l01Has_ev (l : List Int) (c : Int) (hl : l.length ≤ 1000000000000) : Ev (fun k => spec_l01Has.f k l c) (l.contains c) := by
  unfold spec_l01Has.f
  simpa using l01Has_l0 l [] c (by simpa using hl)
theorem slIndex_l0 : ∀ (s pre : List Int) (c : Int), pre.length + s.length ≤ 1000000000000 →
    Ev (fun k => slices_Index_int64_int64.l0 k (pre ++ s) c ((pre ++ s).length : Int) (pre.length : Int)) (if s.contains c = true then ((pre.length + s.idxOf c : Nat) : Int) else -1)
  | [], pre, c, hl => by
    refine Ev.step (fun k => slices_Index_int64_int64.l0.eq_2 _ _ _ _ k) ?_
    exact ev_neg (by simp) (ev_now (by simp))
  | x :: s, pre, c, hl => by
    have hl' : pre.length + (s.length + 1) ≤ 1000000000000 := hl
    refine Ev.step (fun k => slices_Index_int64_int64.l0.eq_2 _ _ _ _ k) ?_
    refine ev_pos (by simp; omega) (ev_pos (by omega) (ev_pos (by simp; omega) ?_))
    rw [rd_at]
    by_cases e : c = x
    · subst e; exact ev_pos rfl (ev_now (by simp [List.idxOf_cons]))
    · refine ev_neg e ?_
      rw [w64 (by omega) (by omega), len_snoc pre x, app_snoc pre s x]
      have h := slIndex_l0 s (pre ++ [x]) c (by simp; omega)
      have e2 : (x :: s).contains c = s.contains c := by simp [List.contains_cons, e]
      have e4 : ¬ x = c := fun h => e h.symm
      have e5 : (x == c) = false := by simp [e4]
      have e3 : (x :: s).idxOf c = s.idxOf c + 1 := by simp [List.idxOf_cons, e5]
      rw [e2, e3, show pre.length + (s.idxOf c + 1) = (pre ++ [x]).length + s.idxOf c by simp; omega]; exact h
theorem slIndex_ev (l : List Int) (c : Int) (hl : l.length ≤ 1000000000000) : Ev (fun k => slices_Index_int64_int64.f k l c) (if l.contains c = true then ((l.idxOf c : Nat) : Int) else -1) := by
  unfold slices_Index_int64_int64.f
  simpa using slIndex_l0 l [] c (by simpa using hl)
theorem slContains_ev (l : List Int) (c : Int) (hl : l.length ≤ 1000000000000) : Ev (fun k => slices_Contains_int64_int64.f k l c) (l.contains c) := by
  unfold slices_Contains_int64_int64.f
  refine Ev.bind (slIndex_ev l c hl) (ev_now ?_)
  by_cases h : l.contains c = true
  · rw [if_pos h, h]; simp
  · rw [if_neg h]; simp only [Bool.not_eq_true] at h; rw [h]; rfl
theorem l01Rises_l0 : ∀ (s pre : List Int), pre.length + s.length ≤ 1000000000000 →
    Ev (fun k => spec_l01Rises.l0 k (pre ++ s) 169 (pre.length : Int)) (s.all (inR 0 168) && (match pre.getLast? with | none => incB s | some p => chainB p s))
  | [], pre, hl => by
    refine Ev.step (fun k => spec_l01Rises.l0.eq_2 _ _ _ k) ?_
    refine ev_neg (by simp) (ev_now ?_)
    cases pre.getLast? <;> rfl
  | x :: s, pre, hl => by
    have hl' : pre.length + (s.length + 1) ≤ 1000000000000 := hl
    have hnext := l01Rises_l0 s (pre ++ [x]) (by simp; omega)
    rw [List.getLast?_append] at hnext
    simp only [List.getLast?_singleton, Option.some_or] at hnext
    refine Ev.step (fun k => spec_l01Rises.l0.eq_2 _ _ _ k) ?_
    refine ev_pos (by simp; omega) (ev_pos (by omega) ?_)
    rw [rd_at]
    refine ev_bindc (l01In_eq _ _ _) ?_
    have e169 : wrap64 (169 - 1) = 168 := w64 (by decide) (by decide)
    rw [e169]
    by_cases hin : inR 0 168 x = true
    · refine ev_pos hin ?_
      simp only [List.all_cons, hin, Bool.true_and]
      rcases List.eq_nil_or_concat pre with rfl | ⟨pre, p, rfl⟩
      · refine ev_neg (by simp) ?_
        rw [w64 (by simp) (by simp), len_snoc [] x, app_snoc [] s x]
        simpa [incB] using hnext
      · rw [List.concat_eq_append] at *
        have e1 : (((pre ++ [p]).length : Nat) : Int) - 1 = (pre.length : Int) := by simp
        have hpl : (pre ++ [p]).length = pre.length + 1 := by simp
        refine ev_pos (by omega) ?_
        have e2 : wrap64 ((((pre ++ [p]).length : Nat) : Int) - 1) = (pre.length : Int) := by rw [e1]; exact w64 (by omega) (by omega)
        rw [e2]
        refine ev_pos (by omega) (ev_pos (by simp; omega) ?_)
        have e3 : rd (pre ++ [p] ++ x :: s) (pre.length : Int) = p := by rw [List.append_assoc]; exact rd_at _ _ _
        rw [e3]
        rw [List.getLast?_append]
        simp only [List.getLast?_singleton, Option.some_or, chainB]
        by_cases hle : x ≤ p
        · exact ev_pos hle (ev_now (by simp; omega))
        · refine ev_neg hle ?_
          rw [w64 (by omega) (by omega), len_snoc (pre ++ [p]) x, app_snoc (pre ++ [p]) s x]
          have : decide (p < x) = true := by simp; omega
          rw [this, Bool.true_and]; exact hnext
    · refine ev_neg hin (ev_now ?_)
      simp only [Bool.not_eq_true] at hin
      simp [hin]
theorem l01Rises_ev (l : List Int) (hl : l.length ≤ 1000000000000) : Ev (fun k => spec_l01Rises.f k l 169) (isRangeB l) := by
  unfold spec_l01Rises.f
  have h := l01Rises_l0 l [] (by simpa using hl)
  exact h
theorem specIsRange_ev (l : List Int) (hl : l.length ≤ 1000000000000) : Ev (fun k => spec_IsRange.f k l) (isRangeB l) := by
  unfold spec_IsRange.f
  exact Ev.bind (l01Rises_ev l hl) (ev_now rfl)
theorem allWithin_l0 (lo hi : Int) : ∀ (s pre : List Int), pre.length + s.length ≤ 1000000000000 →
    Ev (fun k => impl_allWithin.l0 k lo hi (pre ++ s) ((pre ++ s).length : Int) (pre.length : Int)) (s.all (inR lo hi))
  | [], pre, hl => by
    refine Ev.step (fun k => impl_allWithin.l0.eq_2 _ _ _ _ _ k) ?_
    exact ev_neg (by simp) (ev_now rfl)
  | x :: s, pre, hl => by
    have hl' : pre.length + (s.length + 1) ≤ 1000000000000 := hl
    refine Ev.step (fun k => impl_allWithin.l0.eq_2 _ _ _ _ _ k) ?_
    refine ev_pos (by simp; omega) (ev_pos (by omega) (ev_pos (by simp; omega) ?_))
    rw [rd_at]
    refine ev_bindc (within_eq _ _ _) ?_
    by_cases hin : inR lo hi x = true
    · refine ev_pos hin ?_
      rw [w64 (by omega) (by omega), len_snoc pre x, app_snoc pre s x]
      have h := allWithin_l0 lo hi s (pre ++ [x]) (by simp; omega)
      simpa only [List.all_cons, hin, Bool.true_and] using h
    · refine ev_neg hin (ev_now ?_)
      simp only [Bool.not_eq_true] at hin
      simp [hin]
theorem allWithin_ev (l : List Int) (lo hi : Int) (hl : l.length ≤ 1000000000000) : Ev (fun k => impl_allWithin.f k l lo hi) (l.all (inR lo hi)) := by
  unfold impl_allWithin.f
  simpa using allWithin_l0 lo hi l [] (by simpa using hl)
theorem increasing_l0 : ∀ (s pre : List Int) (p : Int), pre.length + s.length ≤ 100000000000 →
    Ev (fun k => impl_increasing.l0 k (pre ++ p :: s) ((pre.length : Int) + 1)) (chainB p s)
  | [], pre, p, hl => by
    refine Ev.step (fun k => impl_increasing.l0.eq_2 _ _ k) ?_
    exact ev_neg (by simp) (ev_now rfl)
  | x :: s, pre, p, hl => by
    have hl' : pre.length + (s.length + 1) ≤ 100000000000 := hl
    refine Ev.step (fun k => impl_increasing.l0.eq_2 _ _ k) ?_
    refine ev_pos (by simp; omega) ?_
    have e2 : wrap64 ((pre.length : Int) + 1 - 1) = (pre.length : Int) := by rw [Int.add_sub_cancel]; exact w64 (by omega) (by omega)
    rw [e2]
    refine ev_pos (by omega) (ev_pos (by simp; omega) (ev_pos (by omega) ?_))
    rw [rd_at]
    have e3 : rd (pre ++ p :: x :: s) ((pre.length : Int) + 1) = x := by
      rw [len_snoc pre p, app_snoc pre _ p]; exact rd_at _ _ _
    rw [e3]
    by_cases hle : p ≥ x
    · exact ev_pos hle (ev_now (by simp [chainB]; omega))
    · refine ev_neg hle ?_
      rw [w64 (by omega) (by omega)]
      have h := increasing_l0 s (pre ++ [p]) x (by simp; omega)
      have : decide (p < x) = true := by simp; omega
      simp only [chainB, this, Bool.true_and]
      rw [len_snoc pre p, app_snoc pre _ p]; exact h
theorem increasing_ev (l : List Int) (hl : l.length ≤ 10000000000) : Ev (fun k => impl_increasing.f k l) (incB l) := by
  unfold impl_increasing.f
  cases l with
  | nil =>
    refine Ev.step (fun k => impl_increasing.l0.eq_2 _ _ k) ?_
    exact ev_neg (by simp) (ev_now rfl)
  | cons x s => exact increasing_l0 s [] x (by simp at hl ⊢; omega)
theorem implIsRange_ev (l : List Int) (hl : l.length ≤ 10000000000) : Ev (fun k => impl_IsRange.f k l) (isRangeB l) := by
  unfold impl_IsRange.f isRangeB
  refine Ev.bind (allWithin_ev l 0 168 (by omega)) ?_
  by_cases h : l.all (inR 0 168) = true
  · refine ev_pos h (Ev.bind (increasing_ev l hl) (ev_now ?_))
    rw [h, Bool.true_and]
  · refine ev_neg h (ev_now ?_)
    simp only [Bool.not_eq_true] at h
    rw [h, Bool.false_and]
def othersM (r : List Int) : Nat → List Int
  | 0 => []
  | d + 1 => (if r.contains (169 - ((d + 1 : Nat) : Int)) = true then [] else [169 - ((d + 1 : Nat) : Int)]) ++ othersM r d
theorem othersM_succ (r : List Int) (d : Nat) : othersM r (d + 1) = (if r.contains (169 - ((d + 1 : Nat) : Int)) = true then [] else [169 - ((d + 1 : Nat) : Int)]) ++ othersM r d := rfl
theorem othersM_len (r : List Int) : ∀ d : Nat, (othersM r d).length ≤ d
  | 0 => Nat.le_refl 0
  | d + 1 => by
    have := othersM_len r d
    rw [othersM_succ, List.length_append]
    split <;> simp <;> omega
theorem specOther_l0 (r : List Int) (hr : r.length ≤ 1048576) : ∀ (d : Nat) (out : List Int), d ≤ 169 → out.length + d ≤ 1000 →
    Ev (fun k => spec_OtherRange.l0 k r out (169 - (d : Int))) (out ++ othersM r d, 0)
  | 0, out, hd, ho => by
    refine Ev.step (fun k => spec_OtherRange.l0.eq_2 _ _ _ k) ?_
    exact ev_neg (by omega) (ev_now (by simp [othersM]))
  | d + 1, out, hd, ho => by
    refine Ev.step (fun k => spec_OtherRange.l0.eq_2 _ _ _ k) ?_
    refine ev_pos (by omega) (Ev.bind (l01Has_ev r _ (by omega)) ?_)
    have e : wrap64 (169 - ((d + 1 : Nat) : Int) + 1) = 169 - (d : Int) := by rw [w64 (by omega) (by omega)]; omega
    rw [othersM_succ]
    by_cases h : r.contains (169 - ((d + 1 : Nat) : Int)) = true
    · refine ev_pos h ?_
      rw [e, if_pos h, List.nil_append]
      exact specOther_l0 r hr d out (by omega) (by omega)
    · refine ev_neg h (ev_pos (by omega) ?_)
      rw [e, if_neg h, ← List.append_assoc]
      exact specOther_l0 r hr d _ (by omega) (by simp; omega)
theorem implOther_l0 (r : List Int) (hr : r.length ≤ 1048576) : ∀ (d : Nat) (out : List Int), d ≤ 169 → out.length + d ≤ 1000 →
    Ev (fun k => impl_OtherRange.l0 k r out (169 - (d : Int))) (out ++ othersM r d, 0)
  | 0, out, hd, ho => by
    refine Ev.step (fun k => impl_OtherRange.l0.eq_2 _ _ _ k) ?_
    exact ev_neg (by omega) (ev_now (by simp [othersM]))
  | d + 1, out, hd, ho => by
    refine Ev.step (fun k => impl_OtherRange.l0.eq_2 _ _ _ k) ?_
    refine ev_pos (by omega) (Ev.bind (slContains_ev r _ (by omega)) ?_)
    have e : wrap64 (169 - ((d + 1 : Nat) : Int) + 1) = 169 - (d : Int) := by rw [w64 (by omega) (by omega)]; omega
    rw [othersM_succ]
    by_cases h : r.contains (169 - ((d + 1 : Nat) : Int)) = true
    · refine ev_pos h ?_
      rw [e, if_pos h, List.nil_append]
      exact implOther_l0 r hr d out (by omega) (by omega)
    · refine ev_neg h (ev_pos (by omega) ?_)
      rw [e, if_neg h, ← List.append_assoc]
      exact implOther_l0 r hr d _ (by omega) (by simp; omega)
def otherM (r : List Int) : List Int × Int := if isRangeB r then (othersM r 169, 0) else ([], 1)
theorem otherM_len (r : List Int) : (otherM r).1.length ≤ 169 := by
  unfold otherM; split
  · exact othersM_len r 169
  · simp
theorem specOther_ev (r : List Int) (hr : r.length ≤ 1048576) : Ev (fun k => spec_OtherRange.f k r) (otherM r) := by
  unfold spec_OtherRange.f otherM
  refine Ev.bind (specIsRange_ev r (by omega)) ?_
  by_cases h : isRangeB r = true
  · rw [if_pos h]
    exact ev_pos h (specOther_l0 r hr 169 [] (by omega) (by simp))
  · rw [if_neg h]
    exact ev_neg h (ev_now rfl)
theorem implOther_ev (r : List Int) (hr : r.length ≤ 1048576) : Ev (fun k => impl_OtherRange.f k r) (otherM r) := by
  unfold impl_OtherRange.f otherM
  refine Ev.bind (implIsRange_ev r (by omega)) ?_
  by_cases h : isRangeB r = true
  · rw [if_pos h]
    exact ev_pos h (implOther_l0 r hr 169 [] (by omega) (by simp))
  · rw [if_neg h]
    exact ev_neg h (ev_now rfl)
end LFnExactOtherRange
open LFnExactOtherRange
theorem FnExactOtherRange : laws_FnExactOtherRange.Pure := by
  intro a _ _ _
  refine Ev.rounds (g := fun k => laws_FnExactOtherRange.f k a) ?_
  unfold laws_FnExactOtherRange.f
  by_cases hb : (a.length : Int) > 1048576
  · exact ev_pos hb (ev_now rfl)
  refine ev_neg hb ?_
  have ha : a.length ≤ 1048576 := by omega
  have hq := otherM_len a
  refine Ev.bind (toInt64S_ev a (by omega)) (Ev.bind (specOther_ev a ha) (Ev.bind (toInt64S_ev a (by omega)) (Ev.bind (implOther_ev a ha) ?_)))
  refine Ev.bind (eqInt64S_ev rfl (by omega)) (ev_pos rfl (Ev.step (fun k => laws_FnExactOtherRange.j0.eq_2 _ _ _ _ _ _ _ k) (ev_neg (by simp) ?_)))
  refine Ev.bind (toInt64S_ev a (by omega)) (Ev.bind (eqInt64S_ev rfl (by omega)) (ev_pos rfl ?_))
  refine Ev.bind (markInt64S_ev a 1 (by omega) (by omega) (by omega)) (ev_neg (by simp; omega) ?_)
  refine Ev.bind (eqInt64S_ev rfl (by omega)) (ev_pos rfl (Ev.step (fun k => laws_FnExactOtherRange.j1.eq_2 _ _ _ _ _ k) (ev_neg (by simp) ?_)))
  refine Ev.bind (markInt64S_ev _ 1 (by omega) (by omega) (by omega)) (Ev.bind (heldInt64S_ev _ 1 (by omega) (by omega) (by omega)) (ev_neg (by simp; omega) (ev_pos rfl ?_)))
  refine Ev.bind (toInt64S_ev a (by omega)) (Ev.bind (implOther_ev a ha) ?_)
  refine Ev.bind (eqInt64S_ev rfl (by omega)) (ev_pos rfl (Ev.step (fun k => laws_FnExactOtherRange.j2.eq_2 _ _ _ k) (ev_neg (by simp) ?_)))
  exact Ev.bind (heldInt64S_ev _ 1 (by omega) (by omega) (by omega)) (ev_neg (by simp; omega) (ev_pos rfl (ev_now rfl)))
end Go.Proofs.Ytfhicidkhjcjlaa.Pure
