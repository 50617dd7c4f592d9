/- For every table the program's BlindsOf returns what the reference's returns, leaves its argument alone, and its result is memory of its own. No conditions. -/
import Derived.Test.YtdagljakajpdjaaPFnExactBlindsOfx5
import Derived.Test.YtdagljakajpdjaaEv
namespace Go.Proofs.Ytdagljakajpdjaa.Pure
open Go.RowKit Go.Proofs.Ytdagljakajpdjaa.PFnExactBlindsOf Go.Proofs.YtdagljakajpdjaaW.PrintWords Go.Proofs.YtdagljakajpdjaaW.PrintLast Go.Proofs.YtdagljakajpdjaaW.PrintMore Go.Proofs.Ytdagljakajpdjaa.EvBase
set_option linter.unusedVariables false
set_option linter.unusedSimpArgs false
namespace LFnExactBlindsOf
theorem l01In_eq (a lo hi : Int) : spec_l01In.f a lo hi = some (inR lo hi a) := by
  unfold spec_l01In.f inR
  by_cases h : a ≥ lo
  · rw [if_pos h]; simp [h]
  · rw [if_neg h]; simp; omega
theorem within_eq (a lo hi : Int) : impl_within.f a lo hi = some (inR lo hi a) := by
  unfold impl_within.f inR
  by_cases h : a ≥ lo
  · rw [if_pos h]; simp [h]
  · rw [if_neg h]; simp; omega
theorem toInt64S_l0 : ∀ (s pre z : List Int), z.length = s.length → pre.length + s.length ≤ 1000000000000 →
    Ev (fun k => laws_toInt64S.l0 k (pre ++ s) (pre ++ z) (pre.length : Int)) (pre ++ s)
  | [], pre, z, hz, hl => by
    obtain rfl : z = [] := by simpa using hz
    refine Ev.step (fun k => laws_toInt64S.l0.eq_2 _ _ _ k) ?_
    exact ev_neg (by simp) (ev_now rfl)
  | x :: s, pre, z, hz, hl => by
    obtain ⟨y, z, rfl⟩ : ∃ y z', z = y :: z' := by cases z with
      | nil => simp at hz
      | cons y z => exact ⟨y, z, rfl⟩
    have hl' : pre.length + (s.length + 1) ≤ 1000000000000 := hl
    refine Ev.step (fun k => laws_toInt64S.l0.eq_2 _ _ _ k) ?_
    refine ev_pos (by simp; omega) (ev_pos (by omega) (ev_pos (by simp; omega) ?_))
    rw [rd_at, set_at, w64 (by omega) (by omega), len_snoc pre x, app_snoc pre s x]
    have hlen : ((pre ++ [x]).length : Int) = (pre ++ [x]).length := rfl
    exact toInt64S_l0 s (pre ++ [x]) z (by simpa using hz) (by simp; omega)
theorem toInt64S_ev (l : List Int) (hl : l.length ≤ 1000000000000) : Ev (fun k => laws_toInt64S.f k l) l := by
  unfold laws_toInt64S.f
  refine ev_pos (by omega) (ev_pos (by simp; omega) ?_)
  have h := toInt64S_l0 l [] (List.replicate l.length 0) (by simp) (by simpa using hl)
  simpa using h
theorem eqInt64S_l0 : ∀ (s pre : List Int), pre.length + s.length ≤ 1000000000000 →
    Ev (fun k => laws_eqInt64S.l0 k (pre ++ s) (pre ++ s) (pre.length : Int)) true
  | [], pre, hl => by
    refine Ev.step (fun k => laws_eqInt64S.l0.eq_2 _ _ _ k) ?_
    exact ev_neg (by simp) (ev_now rfl)
  | x :: s, pre, hl => by
    have hl' : pre.length + (s.length + 1) ≤ 1000000000000 := hl
    refine Ev.step (fun k => laws_eqInt64S.l0.eq_2 _ _ _ k) ?_
    refine ev_pos (by simp; omega) (ev_pos (by omega) (ev_pos (by simp; omega) (ev_pos rfl ?_)))
    rw [w64 (by omega) (by omega), len_snoc pre x, app_snoc pre s x]
    exact eqInt64S_l0 s (pre ++ [x]) (by simp; omega)
theorem eqInt64S_ev {a b : List Int} (e : a = b) (hl : a.length ≤ 1000000000000) : Ev (fun k => laws_eqInt64S.f k a b) true := by
  subst e
  unfold laws_eqInt64S.f
  refine ev_pos rfl ?_
  simpa using eqInt64S_l0 a [] (by simpa using hl)
theorem markInt64S_l0 : ∀ (s pre : List Int) (m : Int), pre.length + s.length ≤ 1000000000000 → 0 ≤ m → m + s.length ≤ 1000000000000000 →
    Ev (fun k => laws_markInt64S.l0 k (pre ++ s) m (pre.length : Int)) (m + s.length, pre ++ marks m s)
  | [], pre, m, hl, h0, hm => by
    refine Ev.step (fun k => laws_markInt64S.l0.eq_2 _ _ _ k) ?_
    exact ev_neg (by simp) (ev_now (by simp [marks]))
  | x :: s, pre, m, hl, h0, hm => by
    have hl' : pre.length + (s.length + 1) ≤ 1000000000000 := hl
    have hm' : m + ((s.length : Int) + 1) ≤ 1000000000000000 := by simpa using hm
    refine Ev.step (fun k => laws_markInt64S.l0.eq_2 _ _ _ k) ?_
    refine ev_pos (by simp; omega) (ev_pos (by omega) ?_)
    rw [set_at, w64 (by omega) (by omega), w64 (by omega) (by omega), len_snoc pre m]
    have h := markInt64S_l0 s (pre ++ [m]) (m + 1) (by simp; omega) (by omega) (by omega)
    have e : (m + ((x :: s).length : Int), pre ++ marks m (x :: s)) = (m + 1 + (s.length : Int), pre ++ [m] ++ marks (m + 1) s) := by
      simp [marks]; omega
    rw [e]; exact h
theorem markInt64S_ev (l : List Int) (m : Int) (hl : l.length ≤ 1000000000000) (h0 : 0 ≤ m) (hm : m + l.length ≤ 1000000000000000) :
    Ev (fun k => laws_markInt64S.f k l m) (m + l.length, marks m l) := by
  unfold laws_markInt64S.f
  simpa using markInt64S_l0 l [] m (by simpa using hl) h0 hm
theorem heldInt64S_l0 : ∀ (s pre : List Int) (m : Int), pre.length + s.length ≤ 1000000000000 → 0 ≤ m → m + s.length ≤ 1000000000000000 →
    Ev (fun k => laws_heldInt64S.l0 k (pre ++ marks m s) m (pre.length : Int)) (m + s.length)
  | [], pre, m, hl, h0, hm => by
    refine Ev.step (fun k => laws_heldInt64S.l0.eq_2 _ _ _ k) ?_
    exact ev_neg (by simp [marks]) (ev_now (by simp))
  | x :: s, pre, m, hl, h0, hm => by
    have hl' : pre.length + (s.length + 1) ≤ 1000000000000 := hl
    have hm' : m + ((s.length : Int) + 1) ≤ 1000000000000000 := by simpa using hm
    refine Ev.step (fun k => laws_heldInt64S.l0.eq_2 _ _ _ k) ?_
    show Ev (fun k => if (pre.length : Int) < (((pre ++ m :: marks (m + 1) s).length : Nat) : Int) then _ else _) _
    refine ev_pos (by simp; omega) (ev_pos (by omega) (ev_pos (rd_at _ _ _) ?_))
    show Ev (fun k => laws_heldInt64S.l0 k (pre ++ m :: marks (m + 1) s) _ _) _
    rw [w64 (by omega) (by omega), w64 (by omega) (by omega), len_snoc pre m, app_snoc pre _ m]
    have h := heldInt64S_l0 s (pre ++ [m]) (m + 1) (by simp; omega) (by omega) (by omega)
    have e : m + ((x :: s).length : Int) = m + 1 + (s.length : Int) := by simp; omega
    rw [e]; exact h
theorem heldInt64S_ev (l : List Int) (m : Int) (hl : l.length ≤ 1000000000000) (h0 : 0 ≤ m) (hm : m + l.length ≤ 1000000000000000) :
    Ev (fun k => laws_heldInt64S.f k (marks m l) m) (m + l.length) := by
  unfold laws_heldInt64S.f
  simpa using heldInt64S_l0 l [] m (by simpa using hl) h0 hm
theorem allWithin_l0 (lo hi : Int) : ∀ (s pre : List Int), pre.length + s.length ≤ 1000000000000 →
    Ev (fun k => impl_allWithin.l0 k lo hi (pre ++ s) ((pre ++ s).length : Int) (pre.length : Int)) (s.all (inR lo hi))
  | [], pre, hl => by
    refine Ev.step (fun k => impl_allWithin.l0.eq_2 _ _ _ _ _ k) ?_
    exact ev_neg (by simp) (ev_now rfl)
  | x :: s, pre, hl => by
    have hl' : pre.length + (s.length + 1) ≤ 1000000000000 := hl
    refine Ev.step (fun k => impl_allWithin.l0.eq_2 _ _ _ _ _ k) ?_
    refine ev_pos (by simp; omega) (ev_pos (by omega) (ev_pos (by simp; omega) ?_))
    rw [rd_at]
    refine ev_bindc (within_eq _ _ _) ?_
    by_cases hin : inR lo hi x = true
    · refine ev_pos hin ?_
      rw [w64 (by omega) (by omega), len_snoc pre x, app_snoc pre s x]
      have h := allWithin_l0 lo hi s (pre ++ [x]) (by simp; omega)
      simpa only [List.all_cons, hin, Bool.true_and] using h
    · refine ev_neg hin (ev_now ?_)
      simp only [Bool.not_eq_true] at hin
      simp [hin]
theorem allWithin_ev (l : List Int) (lo hi : Int) (hl : l.length ≤ 1000000000000) : Ev (fun k => impl_allWithin.f k l lo hi) (l.all (inR lo hi)) := by
  unfold impl_allWithin.f
  simpa using allWithin_l0 lo hi l [] (by simpa using hl)
theorem szInt64S_eq (l : List Int) (a : Int) (h0 : 0 ≤ a) (h1 : a ≤ 1048576) (hl : l.length ≤ maxLen) : laws_szInt64S.f l a = some (if a - l.length < 0 then -1 else a - l.length) := by
  unfold maxLen at hl
  unfold laws_szInt64S.f
  rw [w64 (by omega) (by omega)]
  split <;> rfl
theorem szTable_eq (l : List Int) (a1 a2 a3 a4 a5 a : Int) (h0 : 0 ≤ a) (h1 : a ≤ 1048576) (hl : l.length ≤ maxLen) : laws_szTable.f l a1 a2 a3 a4 a5 a = some (if a - l.length < 0 then -1 else a - l.length) := by
  unfold laws_szTable.f
  rw [szInt64S_eq l a h0 h1 hl]
  simp only [Option.bind_some]
  by_cases h : a - l.length < 0
  · simp [h]
  · simp only [if_neg h]
theorem toTable_ev (l : List Int) (a1 a2 a3 a4 a5 : Int) (hl : l.length ≤ 1000000000000) : Ev (fun k => laws_toTable.f k l a1 a2 a3 a4 a5) (l, a1, a2, a3, a4, a5) := by
  unfold laws_toTable.f
  exact Ev.bind (toInt64S_ev l hl) (ev_now rfl)
theorem eqTable_ev (l : List Int) (a1 a2 a3 a4 a5 : Int) (hl : l.length ≤ 1000000000000) : Ev (fun k => laws_eqTable.f k l a1 a2 a3 a4 a5 l a1 a2 a3 a4 a5) true := by
  unfold laws_eqTable.f
  exact Ev.bind (eqInt64S_ev rfl hl) (ev_pos rfl (ev_pos rfl (ev_pos rfl (ev_pos rfl (ev_pos rfl (ev_pos rfl (ev_now rfl)))))))
theorem markTable_ev (l : List Int) (a1 a2 a3 a4 a5 m : Int) (hl : l.length ≤ 1000000000000) (h0 : 0 ≤ m) (hm : m + l.length ≤ 1000000000000000) : Ev (fun k => laws_markTable.f k l a1 a2 a3 a4 a5 m) (m + l.length, marks m l) := by
  unfold laws_markTable.f
  exact Ev.bind (markInt64S_ev l m hl h0 hm) (ev_now rfl)
theorem specTable_l0 (b s g a m : Int) : ∀ (t pre : List Int), pre.length + t.length ≤ 1000000000000 →
    Ev (fun k => spec_IsTable.l0 k (pre.length : Int) (pre ++ t) b s g a m) (t.all (inR 1 100000))
  | [], pre, hl => by
    refine Ev.step (fun k => spec_IsTable.l0.eq_2 _ _ _ _ _ _ _ k) ?_
    exact ev_neg (by simp) (ev_now rfl)
  | x :: t, pre, hl => by
    have hl' : pre.length + (t.length + 1) ≤ 1000000000000 := hl
    refine Ev.step (fun k => spec_IsTable.l0.eq_2 _ _ _ _ _ _ _ k) ?_
    refine ev_pos (by simp; omega) (ev_pos (by omega) ?_)
    rw [rd_at]
    refine ev_bindc (l01In_eq _ _ _) ?_
    by_cases hin : inR 1 100000 x = true
    · refine ev_pos hin ?_
      rw [w64 (by omega) (by omega), len_snoc pre x, app_snoc pre t x]
      have h := specTable_l0 b s g a m t (pre ++ [x]) (by simp; omega)
      simpa only [List.all_cons, hin, Bool.true_and] using h
    · refine ev_neg hin (ev_now ?_)
      simp only [Bool.not_eq_true] at hin
      simp [hin]
theorem specTable_ev (l : List Int) (b s g a m : Int) (hl : l.length ≤ 1000000000000) : Ev (fun k => spec_IsTable.f k l b s g a m) (tableB l b s g a m) := by
  unfold spec_IsTable.f tableB
  refine ev_bindc (l01In_eq _ _ _) ?_
  by_cases h1 : inR 2 6 (l.length : Int) = true
  rotate_left
  · exact ev_neg h1 (Ev.step (fun k => spec_IsTable.j0.eq_2 _ _ _ _ _ _ _ k) (ev_pos rfl (ev_now (by simp [h1]))))
  rw [w64 (by omega) (by omega)]
  refine ev_pos h1 (ev_bindc (l01In_eq _ _ _) ?_)
  by_cases h2 : inR 0 ((l.length : Int) - 1) b = true
  rotate_left
  · exact ev_neg h2 (Ev.step (fun k => spec_IsTable.j0.eq_2 _ _ _ _ _ _ _ k) (ev_pos rfl (ev_now (by simp [h2]))))
  refine ev_pos h2 (ev_bindc (l01In_eq _ _ _) ?_)
  by_cases h3 : inR 1 100000 g = true
  rotate_left
  · exact ev_neg h3 (Ev.step (fun k => spec_IsTable.j0.eq_2 _ _ _ _ _ _ _ k) (ev_pos rfl (ev_now (by simp [h3]))))
  refine ev_pos h3 (ev_bindc (l01In_eq _ _ _) ?_)
  by_cases h4 : inR 0 g s = true
  rotate_left
  · exact ev_neg h4 (Ev.step (fun k => spec_IsTable.j0.eq_2 _ _ _ _ _ _ _ k) (ev_pos rfl (ev_now (by simp [h4]))))
  refine ev_pos h4 (ev_bindc (l01In_eq _ _ _) ?_)
  by_cases h5 : inR 0 100000 a = true
  rotate_left
  · exact ev_neg h5 (Ev.step (fun k => spec_IsTable.j0.eq_2 _ _ _ _ _ _ _ k) (ev_pos rfl (ev_now (by simp [h5]))))
  refine ev_pos h5 (ev_bindc (l01In_eq _ _ _) (Ev.step (fun k => spec_IsTable.j0.eq_2 _ _ _ _ _ _ _ k) ?_))
  by_cases h6 : inR 0 2 m = true
  rotate_left
  · exact ev_pos (by simpa using h6) (ev_now (by simp [h6]))
  refine ev_neg (by simp [h6]) ?_
  simp only [h1, h2, h3, h4, h5, h6, Bool.true_and]
  exact specTable_l0 b s g a m l [] (by simpa using hl)
theorem implTable_ev (l : List Int) (b s g a m : Int) (hl : l.length ≤ 1000000000000) : Ev (fun k => impl_IsTable.f k l b s g a m) (tableB l b s g a m) := by
  unfold impl_IsTable.f tableB
  refine ev_bindc (within_eq _ _ _) ?_
  by_cases h1 : inR 2 6 (l.length : Int) = true
  rotate_left
  · exact ev_neg h1 (ev_now (by simp [h1]))
  rw [w64 (by omega) (by omega)]
  refine ev_pos h1 (Ev.bind (allWithin_ev l 1 100000 hl) ?_)
  by_cases h7 : l.all (inR 1 100000) = true
  rotate_left
  · simp only [Bool.not_eq_true] at h7
    exact ev_neg (by simp [h7]) (ev_now (by simp only [h7, Bool.and_false]))
  refine ev_pos h7 (ev_bindc (within_eq _ _ _) ?_)
  by_cases h2 : inR 0 ((l.length : Int) - 1) b = true
  rotate_left
  · exact ev_neg h2 (ev_now (by simp [h2]))
  refine ev_pos h2 (ev_bindc (within_eq _ _ _) ?_)
  by_cases h3 : inR 1 100000 g = true
  rotate_left
  · exact ev_neg h3 (ev_now (by simp [h3]))
  refine ev_pos h3 (ev_bindc (within_eq _ _ _) ?_)
  by_cases h4 : inR 0 g s = true
  rotate_left
  · exact ev_neg h4 (ev_now (by simp [h4]))
  refine ev_pos h4 (ev_bindc (within_eq _ _ _) ?_)
  by_cases h5 : inR 0 100000 a = true
  rotate_left
  · exact ev_neg h5 (ev_now (by simp [h5]))
  refine ev_pos h5 (ev_bindc (within_eq _ _ _) (ev_now ?_))
  simp only [h1, h2, h3, h4, h5, h7, Bool.true_and, Bool.and_true]
theorem specLeft_eq (s n : Int) (h : n ≠ 0) : spec_l09Left.f s n = some (leftM s n) := by unfold spec_l09Left.f; rw [if_neg h]; rfl
theorem implLeft_eq (s n : Int) (h : n ≠ 0) : impl_leftOf.f s n = some (leftM s n) := by unfold impl_leftOf.f; rw [if_neg h]; rfl
theorem specBlinds_eq (l : List Int) (b s g a m : Int) (h : (l.length : Int) ≠ 0) : spec_l09Blinds.f l b s g a m = some (blindsAt l.length b) := by
  unfold spec_l09Blinds.f blindsAt
  simp only [specLeft_eq _ _ h, Option.bind_some]
  split <;> rfl
theorem implBlinds_eq (l : List Int) (b s g a m : Int) (h : (l.length : Int) ≠ 0) : impl_blindSeats.f l b s g a m = some (blindsAt l.length b) := by
  unfold impl_blindSeats.f blindsAt
  simp only [implLeft_eq _ _ h, Option.bind_some]
  split <;> rfl
theorem specAntes_l0 (b s g a m : Int) : ∀ (t pre : List Int), pre.length + t.length ≤ 1000000000 →
    Ev (fun k => spec_l09Antes.l0 k (antesM pre a) (pre.length : Int) (pre ++ t) b s g a m) (antesM (pre ++ t) a)
  | [], pre, hl => by
    refine Ev.step (fun k => spec_l09Antes.l0.eq_2 _ _ _ _ _ _ _ _ k) ?_
    exact ev_neg (by simp) (ev_now (by simp))
  | x :: t, pre, hl => by
    have hl' : pre.length + (t.length + 1) ≤ 1000000000 := hl
    refine Ev.step (fun k => spec_l09Antes.l0.eq_2 _ _ _ _ _ _ _ _ k) ?_
    refine ev_pos (by simp; omega) (ev_pos (by omega) (ev_pos (by simp [antesM]; omega) ?_))
    have h := specAntes_l0 b s g a m t (pre ++ [x]) (by simp; omega)
    rw [rd_at, w64 (by omega) (by omega), len_snoc pre x, app_snoc pre t x, mn_min]
    have e : antesM pre a ++ [min a x] = antesM (pre ++ [x]) a := by simp [antesM, Int.min_comm]
    rw [e]; exact h
theorem specAntes_ev (l : List Int) (b s g a m : Int) (hl : l.length ≤ 1000000000) : Ev (fun k => spec_l09Antes.f k l b s g a m) (antesM l a) := by
  unfold spec_l09Antes.f
  exact specAntes_l0 b s g a m l [] (by simpa using hl)
theorem implAntes_l0 (L : List Int) (b s g a m : Int) : ∀ (t pre z : List Int), z.length = t.length → pre.length + t.length ≤ 1000000000 →
    Ev (fun k => impl_antesOf.l0 k (antesM pre a ++ z) (pre ++ t) ((pre ++ t).length : Int) (pre.length : Int) L b s g a m) (antesM (pre ++ t) a)
  | [], pre, z, hz, hl => by
    obtain rfl : z = [] := by simpa using hz
    refine Ev.step (fun k => impl_antesOf.l0.eq_2 _ _ _ _ _ _ _ _ _ _ k) ?_
    exact ev_neg (by simp) (ev_now (by simp))
  | x :: t, pre, z, hz, hl => by
    obtain ⟨y, z, rfl⟩ : ∃ y z', z = y :: z' := by cases z with
      | nil => simp at hz
      | cons y z => exact ⟨y, z, rfl⟩
    have hl' : pre.length + (t.length + 1) ≤ 1000000000 := hl
    refine Ev.step (fun k => impl_antesOf.l0.eq_2 _ _ _ _ _ _ _ _ _ _ k) ?_
    refine ev_pos (by simp; omega) (ev_pos (by omega) (ev_pos (by simp; omega) (ev_pos (by simp [antesM]; omega) ?_)))
    have h := implAntes_l0 L b s g a m t (pre ++ [x]) z (by simpa using hz) (by simp; omega)
    have e : (antesM pre a ++ y :: z).set ((pre.length : Int)).toNat (mn x a) = antesM (pre ++ [x]) a ++ z := by
      have := set_at (antesM pre a) z y (mn x a)
      simp only [antesM, List.length_map] at this
      simp only [antesM]
      rw [this, mn_min]; simp
    rw [rd_at, e, w64 (by omega) (by omega), len_snoc pre x, app_snoc pre t x]
    exact h
theorem implAntes_ev (l : List Int) (b s g a m : Int) (hl : l.length ≤ 1000000000) : Ev (fun k => impl_antesOf.f k l b s g a m) (antesM l a) := by
  unfold impl_antesOf.f
  refine ev_pos (by omega) (ev_pos (by simp; omega) ?_)
  have h := implAntes_l0 l b s g a m l [] (List.replicate l.length 0) (by simp) (by simpa using hl)
  simpa [antesM] using h
theorem specBets_ev (l : List Int) (b s g a m : Int) (hl : l.length ≤ 1000) (h0 : 0 ≤ b) (h1 : b < l.length) : Ev (fun k => spec_l09Bets.f k l b s g a m) (betsM l b s g a) := by
  unfold spec_l09Bets.f betsM
  have r := blindsAt_range h0 h1 (by omega)
  have ea : (antesM l a).length = l.length := by simp [antesM]
  refine Ev.bind (specAntes_ev l b s g a m (by omega)) (ev_pos (by omega) (ev_pos (by simp; omega) (ev_bindc rfl (ev_bindc (specBlinds_eq _ _ _ _ _ _ (by omega)) ?_))))
  refine ev_pos r.1 (ev_pos r.2.1 (ev_pos (by omega) (ev_pos (by simp; omega) (ev_pos r.2.2.1 (ev_pos r.2.2.2 (ev_pos (by omega) (ev_pos (by simp; omega) (ev_now ?_))))))))
  simp
theorem implBets_ev (l : List Int) (b s g a m : Int) (hl : l.length ≤ 1000) (h0 : 0 ≤ b) (h1 : b < l.length) : Ev (fun k => impl_blindsOf.f k l b s g a m) (betsM l b s g a) := by
  unfold impl_blindsOf.f betsM
  have r := blindsAt_range h0 h1 (by omega)
  have ea : (antesM l a).length = l.length := by simp [antesM]
  refine ev_pos (by omega) (ev_pos (by simp; omega) (ev_bindc rfl (Ev.bind (implAntes_ev l b s g a m (by omega)) (ev_bindc (implBlinds_eq _ _ _ _ _ _ (by omega)) ?_))))
  refine ev_pos r.1 (ev_pos r.2.1 (ev_pos (by omega) (ev_pos (by simp; omega) (ev_pos r.2.2.1 (ev_pos r.2.2.2 (ev_pos (by omega) (ev_pos (by simp; omega) (ev_now ?_))))))))
  simp
def BlindsOfM (l : List Int) (b s g a m : Int) : List Int × Int := if tableB l b s g a m then (betsM l b s g a, 0) else ([], 1)
theorem specBlindsOf_ev (l : List Int) (b s g a m : Int) (hl : l.length ≤ 1048576) : Ev (fun k => spec_BlindsOf.f k l b s g a m) (BlindsOfM l b s g a m) := by
  unfold spec_BlindsOf.f
  refine Ev.bind (specTable_ev l b s g a m (by omega)) ?_
  by_cases h : tableB l b s g a m = true
  · have bd := table_bounds h
    have e : BlindsOfM l b s g a m = (betsM l b s g a, 0) := if_pos h
    rw [e]
    refine ev_pos h ?_
    exact Ev.bind (specBets_ev l b s g a m (by omega) (by omega) (by omega)) (ev_now rfl)
  · have e : BlindsOfM l b s g a m = ([], 1) := if_neg h
    rw [e]
    exact ev_neg h (ev_now rfl)
theorem implBlindsOf_ev (l : List Int) (b s g a m : Int) (hl : l.length ≤ 1048576) : Ev (fun k => impl_BlindsOf.f k l b s g a m) (BlindsOfM l b s g a m) := by
  unfold impl_BlindsOf.f
  refine Ev.bind (implTable_ev l b s g a m (by omega)) ?_
  by_cases h : tableB l b s g a m = true
  · have bd := table_bounds h
    have e : BlindsOfM l b s g a m = (betsM l b s g a, 0) := if_pos h
    rw [e]
    refine ev_pos h ?_
    exact Ev.bind (implBets_ev l b s g a m (by omega) (by omega) (by omega)) (ev_now rfl)
  · have e : BlindsOfM l b s g a m = ([], 1) := if_neg h
    rw [e]
    exact ev_neg h (ev_now rfl)
theorem BlindsOfM_len (l : List Int) (b s g a m : Int) (hl : l.length ≤ 1048576) : (BlindsOfM l b s g a m).1.length ≤ 1048576 := by
  unfold BlindsOfM
  split
  · simpa [betsM_len] using hl
  · simp
end LFnExactBlindsOf
open LFnExactBlindsOf
theorem FnExactBlindsOf (l0_0 : List Int) (a0_1 a0_2 a0_3 a0_4 a0_5 : Int) (hm0_0 : l0_0.length ≤ maxLen) (w0_0 : ∀ x ∈ l0_0, (Lit.int .i64 x).wf = true) (w0_1 : (Lit.int .i64 a0_1).wf = true) (w0_2 : (Lit.int .i64 a0_2).wf = true) (w0_3 : (Lit.int .i64 a0_3).wf = true) (w0_4 : (Lit.int .i64 a0_4).wf = true) (w0_5 : (Lit.int .i64 a0_5).wf = true) :
    ∃ k, laws_FnExactBlindsOf.f k l0_0 a0_1 a0_2 a0_3 a0_4 a0_5 = some true := by
  refine Ev.rounds (g := fun k => laws_FnExactBlindsOf.f k l0_0 a0_1 a0_2 a0_3 a0_4 a0_5) ?_
  unfold laws_FnExactBlindsOf.f
  refine ev_bindc (szTable_eq l0_0 a0_1 a0_2 a0_3 a0_4 a0_5 1048576 (by decide) (by decide) hm0_0) ?_
  by_cases hs : (1048576 : Int) - l0_0.length < 0
  · rw [if_pos hs]; exact ev_pos (by decide) (ev_now rfl)
  rw [if_neg hs]
  refine ev_neg hs ?_
  have hl : l0_0.length ≤ 1048576 := by omega
  have hq := BlindsOfM_len l0_0 a0_1 a0_2 a0_3 a0_4 a0_5 hl
  refine Ev.bind (toTable_ev l0_0 a0_1 a0_2 a0_3 a0_4 a0_5 (by omega)) (Ev.bind (specBlindsOf_ev l0_0 a0_1 a0_2 a0_3 a0_4 a0_5 hl) (Ev.bind (toTable_ev l0_0 a0_1 a0_2 a0_3 a0_4 a0_5 (by omega)) (Ev.bind (implBlindsOf_ev l0_0 a0_1 a0_2 a0_3 a0_4 a0_5 hl) ?_)))
  refine Ev.bind (eqInt64S_ev rfl (by omega)) (ev_pos rfl (Ev.step (fun k => laws_FnExactBlindsOf.j0.eq_2 _ _ _ _ _ _ _ _ _ _ _ _ _ _ _ _ _  k) (ev_neg (by simp) ?_)))
  refine Ev.bind (toTable_ev l0_0 a0_1 a0_2 a0_3 a0_4 a0_5 (by omega)) (Ev.bind (eqTable_ev l0_0 a0_1 a0_2 a0_3 a0_4 a0_5 (by omega)) (ev_pos rfl ?_))
  refine Ev.bind (markTable_ev l0_0 a0_1 a0_2 a0_3 a0_4 a0_5 1 (by omega) (by omega) (by omega)) (ev_neg (by simp; omega) ?_)
  refine Ev.bind (eqInt64S_ev rfl (by omega)) (ev_pos rfl (Ev.step (fun k => laws_FnExactBlindsOf.j1.eq_2 _ _ _ _ _ _ _ _ _ _  k) (ev_neg (by simp) ?_)))
  refine Ev.bind (markInt64S_ev _ 1 (by omega) (by omega) (by omega)) (Ev.bind (heldInt64S_ev _ 1 (by omega) (by omega) (by omega)) (ev_neg (by simp; omega) (ev_pos rfl ?_)))
  refine Ev.bind (toTable_ev l0_0 a0_1 a0_2 a0_3 a0_4 a0_5 (by omega)) (Ev.bind (implBlindsOf_ev l0_0 a0_1 a0_2 a0_3 a0_4 a0_5 hl) ?_)
  refine Ev.bind (eqInt64S_ev rfl (by omega)) (ev_pos rfl (Ev.step (fun k => laws_FnExactBlindsOf.j2.eq_2 _ _ _ k) (ev_neg (by simp) ?_)))
  exact Ev.bind (heldInt64S_ev _ 1 (by omega) (by omega) (by omega)) (ev_neg (by simp; omega) (ev_pos rfl (ev_now rfl)))
end Go.Proofs.Ytdagljakajpdjaa.Pure
