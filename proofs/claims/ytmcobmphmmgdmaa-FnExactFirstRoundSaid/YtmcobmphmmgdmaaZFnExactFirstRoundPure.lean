/- For every table the program's FirstRound returns what the reference's returns, leaves its argument alone, and its result is memory of its own. No conditions. -/
import Derived.Test.YtmcobmphmmgdmaaZFnExactFirstRoundx14
import Derived.Test.YtmcobmphmmgdmaaZFnExactFirstRoundEv
namespace Go.Proofs.Ytmcobmphmmgdmaa.Pure
open Go.RowKit Go.Proofs.Ytmcobmphmmgdmaa.QFnExactFirstRound Go.Proofs.YtmcobmphmmgdmaaW.PrintWords Go.Proofs.YtmcobmphmmgdmaaW.PrintLast Go.Proofs.YtmcobmphmmgdmaaW.PrintMore Go.Proofs.Ytmcobmphmmgdmaa.EvBase
set_option linter.unusedVariables false
set_option linter.unusedSimpArgs false
namespace LFnExactFirstRound
theorem l01In_eq (a lo hi : Int) : spec_l01In.f a lo hi = some (inR lo hi a) := by
  unfold spec_l01In.f inR
  by_cases h : a ≥ lo
  · rw [if_pos h]; simp [h]
  · rw [if_neg h]; simp; omega
theorem within_eq (a lo hi : Int) : impl_within.f a lo hi = some (inR lo hi a) := by
  unfold impl_within.f inR
  by_cases h : a ≥ lo
  · rw [if_pos h]; simp [h]
  · rw [if_neg h]; simp; omega
theorem toInt64S_l0 : ∀ (s pre z : List Int), z.length = s.length → pre.length + s.length ≤ 1000000000000 →
    Ev (fun k => laws_toInt64S.l0 k (pre ++ s) (pre ++ z) (pre.length : Int)) (pre ++ s)
  | [], pre, z, hz, hl => by
    obtain rfl : z = [] := by simpa using hz
    refine Ev.step (fun k => laws_toInt64S.l0.eq_2 _ _ _ k) ?_
    exact ev_neg (by simp) (ev_now rfl)
  | x :: s, pre, z, hz, hl => by
    obtain ⟨y, z, rfl⟩ : ∃ y z', z = y :: z' := by cases z with
      | nil => simp at hz
      | cons y z => exact ⟨y, z, rfl⟩
    have hl' : pre.length + (s.length + 1) ≤ 1000000000000 := hl
    refine Ev.step (fun k => laws_toInt64S.l0.eq_2 _ _ _ k) ?_
    refine ev_pos (by simp; omega) (ev_pos (by omega) (ev_pos (by simp; omega) ?_))
    rw [rd_at, set_at, w64 (by omega) (by omega), len_snoc pre x, app_snoc pre s x]
    have hlen : ((pre ++ [x]).length : Int) = (pre ++ [x]).length := rfl
    exact toInt64S_l0 s (pre ++ [x]) z (by simpa using hz) (by simp; omega)
theorem toInt64S_ev (l : List Int) (hl : l.length ≤ 1000000000000) : Ev (fun k => laws_toInt64S.f k l) l := by
  unfold laws_toInt64S.f
  refine ev_pos (by omega) (ev_pos (by simp; omega) ?_)
  have h := toInt64S_l0 l [] (List.replicate l.length 0) (by simp) (by simpa using hl)
  simpa using h
theorem eqInt64S_l0 : ∀ (s pre : List Int), pre.length + s.length ≤ 1000000000000 →
    Ev (fun k => laws_eqInt64S.l0 k (pre ++ s) (pre ++ s) (pre.length : Int)) true
  | [], pre, hl => by
    refine Ev.step (fun k => laws_eqInt64S.l0.eq_2 _ _ _ k) ?_
    exact ev_neg (by simp) (ev_now rfl)
  | x :: s, pre, hl => by
    have hl' : pre.length + (s.length + 1) ≤ 1000000000000 := hl
    refine Ev.step (fun k => laws_eqInt64S.l0.eq_2 _ _ _ k) ?_
    refine ev_pos (by simp; omega) (ev_pos (by omega) (ev_pos (by simp; omega) (ev_pos rfl ?_)))
    rw [w64 (by omega) (by omega), len_snoc pre x, app_snoc pre s x]
    exact eqInt64S_l0 s (pre ++ [x]) (by simp; omega)
theorem eqInt64S_ev {a b : List Int} (e : a = b) (hl : a.length ≤ 1000000000000) : Ev (fun k => laws_eqInt64S.f k a b) true := by
  subst e
  unfold laws_eqInt64S.f
  refine ev_pos rfl ?_
  simpa using eqInt64S_l0 a [] (by simpa using hl)
theorem markInt64S_l0 : ∀ (s pre : List Int) (m : Int), pre.length + s.length ≤ 1000000000000 → 0 ≤ m → m + s.length ≤ 1000000000000000 →
    Ev (fun k => laws_markInt64S.l0 k (pre ++ s) m (pre.length : Int)) (m + s.length, pre ++ marks m s)
  | [], pre, m, hl, h0, hm => by
    refine Ev.step (fun k => laws_markInt64S.l0.eq_2 _ _ _ k) ?_
    exact ev_neg (by simp) (ev_now (by simp [marks]))
  | x :: s, pre, m, hl, h0, hm => by
    have hl' : pre.length + (s.length + 1) ≤ 1000000000000 := hl
    have hm' : m + ((s.length : Int) + 1) ≤ 1000000000000000 := by simpa using hm
    refine Ev.step (fun k => laws_markInt64S.l0.eq_2 _ _ _ k) ?_
    refine ev_pos (by simp; omega) (ev_pos (by omega) ?_)
    rw [set_at, w64 (by omega) (by omega), w64 (by omega) (by omega), len_snoc pre m]
    have h := markInt64S_l0 s (pre ++ [m]) (m + 1) (by simp; omega) (by omega) (by omega)
    have e : (m + ((x :: s).length : Int), pre ++ marks m (x :: s)) = (m + 1 + (s.length : Int), pre ++ [m] ++ marks (m + 1) s) := by
      simp [marks]; omega
    rw [e]; exact h
theorem markInt64S_ev (l : List Int) (m : Int) (hl : l.length ≤ 1000000000000) (h0 : 0 ≤ m) (hm : m + l.length ≤ 1000000000000000) :
    Ev (fun k => laws_markInt64S.f k l m) (m + l.length, marks m l) := by
  unfold laws_markInt64S.f
  simpa using markInt64S_l0 l [] m (by simpa using hl) h0 hm
theorem heldInt64S_l0 : ∀ (s pre : List Int) (m : Int), pre.length + s.length ≤ 1000000000000 → 0 ≤ m → m + s.length ≤ 1000000000000000 →
    Ev (fun k => laws_heldInt64S.l0 k (pre ++ marks m s) m (pre.length : Int)) (m + s.length)
  | [], pre, m, hl, h0, hm => by
    refine Ev.step (fun k => laws_heldInt64S.l0.eq_2 _ _ _ k) ?_
    exact ev_neg (by simp [marks]) (ev_now (by simp))
  | x :: s, pre, m, hl, h0, hm => by
    have hl' : pre.length + (s.length + 1) ≤ 1000000000000 := hl
    have hm' : m + ((s.length : Int) + 1) ≤ 1000000000000000 := by simpa using hm
    refine Ev.step (fun k => laws_heldInt64S.l0.eq_2 _ _ _ k) ?_
    show Ev (fun k => if (pre.length : Int) < (((pre ++ m :: marks (m + 1) s).length : Nat) : Int) then _ else _) _
    refine ev_pos (by simp; omega) (ev_pos (by omega) (ev_pos (rd_at _ _ _) ?_))
    show Ev (fun k => laws_heldInt64S.l0 k (pre ++ m :: marks (m + 1) s) _ _) _
    rw [w64 (by omega) (by omega), w64 (by omega) (by omega), len_snoc pre m, app_snoc pre _ m]
    have h := heldInt64S_l0 s (pre ++ [m]) (m + 1) (by simp; omega) (by omega) (by omega)
    have e : m + ((x :: s).length : Int) = m + 1 + (s.length : Int) := by simp; omega
    rw [e]; exact h
theorem heldInt64S_ev (l : List Int) (m : Int) (hl : l.length ≤ 1000000000000) (h0 : 0 ≤ m) (hm : m + l.length ≤ 1000000000000000) :
    Ev (fun k => laws_heldInt64S.f k (marks m l) m) (m + l.length) := by
  unfold laws_heldInt64S.f
  simpa using heldInt64S_l0 l [] m (by simpa using hl) h0 hm
theorem allWithin_l0 (lo hi : Int) : ∀ (s pre : List Int), pre.length + s.length ≤ 1000000000000 →
    Ev (fun k => impl_allWithin.l0 k lo hi (pre ++ s) ((pre ++ s).length : Int) (pre.length : Int)) (s.all (inR lo hi))
  | [], pre, hl => by
    refine Ev.step (fun k => impl_allWithin.l0.eq_2 _ _ _ _ _ k) ?_
    exact ev_neg (by simp) (ev_now rfl)
  | x :: s, pre, hl => by
    have hl' : pre.length + (s.length + 1) ≤ 1000000000000 := hl
    refine Ev.step (fun k => impl_allWithin.l0.eq_2 _ _ _ _ _ k) ?_
    refine ev_pos (by simp; omega) (ev_pos (by omega) (ev_pos (by simp; omega) ?_))
    rw [rd_at]
    refine ev_bindc (within_eq _ _ _) ?_
    by_cases hin : inR lo hi x = true
    · refine ev_pos hin ?_
      rw [w64 (by omega) (by omega), len_snoc pre x, app_snoc pre s x]
      have h := allWithin_l0 lo hi s (pre ++ [x]) (by simp; omega)
      simpa only [List.all_cons, hin, Bool.true_and] using h
    · refine ev_neg hin (ev_now ?_)
      simp only [Bool.not_eq_true] at hin
      simp [hin]
theorem allWithin_ev (l : List Int) (lo hi : Int) (hl : l.length ≤ 1000000000000) : Ev (fun k => impl_allWithin.f k l lo hi) (l.all (inR lo hi)) := by
  unfold impl_allWithin.f
  simpa using allWithin_l0 lo hi l [] (by simpa using hl)
theorem szInt64S_eq (l : List Int) (a : Int) (h0 : 0 ≤ a) (h1 : a ≤ 1048576) (hl : l.length ≤ maxLen) : laws_szInt64S.f l a = some (if a - l.length < 0 then -1 else a - l.length) := by
  unfold maxLen at hl
  unfold laws_szInt64S.f
  rw [w64 (by omega) (by omega)]
  split <;> rfl
theorem szTable_eq (l : List Int) (a1 a2 a3 a4 a5 a : Int) (h0 : 0 ≤ a) (h1 : a ≤ 1048576) (hl : l.length ≤ maxLen) : laws_szTable.f l a1 a2 a3 a4 a5 a = some (if a - l.length < 0 then -1 else a - l.length) := by
  unfold laws_szTable.f
  rw [szInt64S_eq l a h0 h1 hl]
  simp only [Option.bind_some]
  by_cases h : a - l.length < 0
  · simp [h]
  · simp only [if_neg h]
theorem toTable_ev (l : List Int) (a1 a2 a3 a4 a5 : Int) (hl : l.length ≤ 1000000000000) : Ev (fun k => laws_toTable.f k l a1 a2 a3 a4 a5) (l, a1, a2, a3, a4, a5) := by
  unfold laws_toTable.f
  exact Ev.bind (toInt64S_ev l hl) (ev_now rfl)
theorem eqTable_ev (l : List Int) (a1 a2 a3 a4 a5 : Int) (hl : l.length ≤ 1000000000000) : Ev (fun k => laws_eqTable.f k l a1 a2 a3 a4 a5 l a1 a2 a3 a4 a5) true := by
  unfold laws_eqTable.f
  exact Ev.bind (eqInt64S_ev rfl hl) (ev_pos rfl (ev_pos rfl (ev_pos rfl (ev_pos rfl (ev_pos rfl (ev_pos rfl (ev_now rfl)))))))
theorem markTable_ev (l : List Int) (a1 a2 a3 a4 a5 m : Int) (hl : l.length ≤ 1000000000000) (h0 : 0 ≤ m) (hm : m + l.length ≤ 1000000000000000) : Ev (fun k => laws_markTable.f k l a1 a2 a3 a4 a5 m) (m + l.length, marks m l) := by
  unfold laws_markTable.f
  exact Ev.bind (markInt64S_ev l m hl h0 hm) (ev_now rfl)
theorem specTable_l0 (b s g a m : Int) : ∀ (t pre : List Int), pre.length + t.length ≤ 1000000000000 →
    Ev (fun k => spec_IsTable.l0 k (pre.length : Int) (pre ++ t) b s g a m) (t.all (inR 1 100000))
  | [], pre, hl => by
    refine Ev.step (fun k => spec_IsTable.l0.eq_2 _ _ _ _ _ _ _ k) ?_
    exact ev_neg (by simp) (ev_now rfl)
  | x :: t, pre, hl => by
    have hl' : pre.length + (t.length + 1) ≤ 1000000000000 := hl
    refine Ev.step (fun k => spec_IsTable.l0.eq_2 _ _ _ _ _ _ _ k) ?_
    refine ev_pos (by simp; omega) (ev_pos (by omega) ?_)
    rw [rd_at]
    refine ev_bindc (l01In_eq _ _ _) ?_
    by_cases hin : inR 1 100000 x = true
    · refine ev_pos hin ?_
      rw [w64 (by omega) (by omega), len_snoc pre x, app_snoc pre t x]
      have h := specTable_l0 b s g a m t (pre ++ [x]) (by simp; omega)
      simpa only [List.all_cons, hin, Bool.true_and] using h
    · refine ev_neg hin (ev_now ?_)
      simp only [Bool.not_eq_true] at hin
      simp [hin]
theorem specTable_ev (l : List Int) (b s g a m : Int) (hl : l.length ≤ 1000000000000) : Ev (fun k => spec_IsTable.f k l b s g a m) (tableB l b s g a m) := by
  unfold spec_IsTable.f tableB
  refine ev_bindc (l01In_eq _ _ _) ?_
  by_cases h1 : inR 2 6 (l.length : Int) = true
  rotate_left
  · exact ev_neg h1 (Ev.step (fun k => spec_IsTable.j0.eq_2 _ _ _ _ _ _ _ k) (ev_pos rfl (ev_now (by simp [h1]))))
  rw [w64 (by omega) (by omega)]
  refine ev_pos h1 (ev_bindc (l01In_eq _ _ _) ?_)
  by_cases h2 : inR 0 ((l.length : Int) - 1) b = true
  rotate_left
  · exact ev_neg h2 (Ev.step (fun k => spec_IsTable.j0.eq_2 _ _ _ _ _ _ _ k) (ev_pos rfl (ev_now (by simp [h2]))))
  refine ev_pos h2 (ev_bindc (l01In_eq _ _ _) ?_)
  by_cases h3 : inR 1 100000 g = true
  rotate_left
  · exact ev_neg h3 (Ev.step (fun k => spec_IsTable.j0.eq_2 _ _ _ _ _ _ _ k) (ev_pos rfl (ev_now (by simp [h3]))))
  refine ev_pos h3 (ev_bindc (l01In_eq _ _ _) ?_)
  by_cases h4 : inR 0 g s = true
  rotate_left
  · exact ev_neg h4 (Ev.step (fun k => spec_IsTable.j0.eq_2 _ _ _ _ _ _ _ k) (ev_pos rfl (ev_now (by simp [h4]))))
  refine ev_pos h4 (ev_bindc (l01In_eq _ _ _) ?_)
  by_cases h5 : inR 0 100000 a = true
  rotate_left
  · exact ev_neg h5 (Ev.step (fun k => spec_IsTable.j0.eq_2 _ _ _ _ _ _ _ k) (ev_pos rfl (ev_now (by simp [h5]))))
  refine ev_pos h5 (ev_bindc (l01In_eq _ _ _) (Ev.step (fun k => spec_IsTable.j0.eq_2 _ _ _ _ _ _ _ k) ?_))
  by_cases h6 : inR 0 2 m = true
  rotate_left
  · exact ev_pos (by simpa using h6) (ev_now (by simp [h6]))
  refine ev_neg (by simp [h6]) ?_
  simp only [h1, h2, h3, h4, h5, h6, Bool.true_and]
  exact specTable_l0 b s g a m l [] (by simpa using hl)
theorem implTable_ev (l : List Int) (b s g a m : Int) (hl : l.length ≤ 1000000000000) : Ev (fun k => impl_IsTable.f k l b s g a m) (tableB l b s g a m) := by
  unfold impl_IsTable.f tableB
  refine ev_bindc (within_eq _ _ _) ?_
  by_cases h1 : inR 2 6 (l.length : Int) = true
  rotate_left
  · exact ev_neg h1 (ev_now (by simp [h1]))
  rw [w64 (by omega) (by omega)]
  refine ev_pos h1 (Ev.bind (allWithin_ev l 1 100000 hl) ?_)
  by_cases h7 : l.all (inR 1 100000) = true
  rotate_left
  · simp only [Bool.not_eq_true] at h7
    exact ev_neg (by simp [h7]) (ev_now (by simp only [h7, Bool.and_false]))
  refine ev_pos h7 (ev_bindc (within_eq _ _ _) ?_)
  by_cases h2 : inR 0 ((l.length : Int) - 1) b = true
  rotate_left
  · exact ev_neg h2 (ev_now (by simp [h2]))
  refine ev_pos h2 (ev_bindc (within_eq _ _ _) ?_)
  by_cases h3 : inR 1 100000 g = true
  rotate_left
  · exact ev_neg h3 (ev_now (by simp [h3]))
  refine ev_pos h3 (ev_bindc (within_eq _ _ _) ?_)
  by_cases h4 : inR 0 g s = true
  rotate_left
  · exact ev_neg h4 (ev_now (by simp [h4]))
  refine ev_pos h4 (ev_bindc (within_eq _ _ _) ?_)
  by_cases h5 : inR 0 100000 a = true
  rotate_left
  · exact ev_neg h5 (ev_now (by simp [h5]))
  refine ev_pos h5 (ev_bindc (within_eq _ _ _) (ev_now ?_))
  simp only [h1, h2, h3, h4, h5, h7, Bool.true_and, Bool.and_true]
theorem specLeft_eq (s n : Int) (h : n ≠ 0) : spec_l09Left.f s n = some (leftM s n) := by unfold spec_l09Left.f; rw [if_neg h]; rfl
theorem implLeft_eq (s n : Int) (h : n ≠ 0) : impl_leftOf.f s n = some (leftM s n) := by unfold impl_leftOf.f; rw [if_neg h]; rfl
theorem specBlinds_eq (l : List Int) (b s g a m : Int) (h : (l.length : Int) ≠ 0) : spec_l09Blinds.f l b s g a m = some (blindsAt l.length b) := by
  unfold spec_l09Blinds.f blindsAt
  simp only [specLeft_eq _ _ h, Option.bind_some]
  split <;> rfl
theorem implBlinds_eq (l : List Int) (b s g a m : Int) (h : (l.length : Int) ≠ 0) : impl_blindSeats.f l b s g a m = some (blindsAt l.length b) := by
  unfold impl_blindSeats.f blindsAt
  simp only [implLeft_eq _ _ h, Option.bind_some]
  split <;> rfl
theorem specFirst_eq (l : List Int) (b s g a m street : Int) (h : (l.length : Int) ≠ 0) : spec_l09First.f l b s g a m street = some (firstM l.length b street) := by
  unfold spec_l09First.f firstM
  simp only [specBlinds_eq _ _ _ _ _ _ h, specLeft_eq _ _ h, Option.bind_some]
  split <;> rfl
theorem implFirst_eq (l : List Int) (b s g a m street : Int) (h : (l.length : Int) ≠ 0) : impl_firstSeat.f l b s g a m street = some (firstM l.length b street) := by
  unfold impl_firstSeat.f firstM
  simp only [implBlinds_eq _ _ _ _ _ _ h, implLeft_eq _ _ h, Option.bind_some]
  split <;> rfl
theorem specAntes_l0 (b s g a m : Int) : ∀ (t pre : List Int), pre.length + t.length ≤ 1000000000 →
    Ev (fun k => spec_l09Antes.l0 k (antesM pre a) (pre.length : Int) (pre ++ t) b s g a m) (antesM (pre ++ t) a)
  | [], pre, hl => by
    refine Ev.step (fun k => spec_l09Antes.l0.eq_2 _ _ _ _ _ _ _ _ k) ?_
    exact ev_neg (by simp) (ev_now (by simp))
  | x :: t, pre, hl => by
    have hl' : pre.length + (t.length + 1) ≤ 1000000000 := hl
    refine Ev.step (fun k => spec_l09Antes.l0.eq_2 _ _ _ _ _ _ _ _ k) ?_
    refine ev_pos (by simp; omega) (ev_pos (by omega) (ev_pos (by simp [antesM]; omega) ?_))
    have h := specAntes_l0 b s g a m t (pre ++ [x]) (by simp; omega)
    rw [rd_at, w64 (by omega) (by omega), len_snoc pre x, app_snoc pre t x, mn_min]
    have e : antesM pre a ++ [min a x] = antesM (pre ++ [x]) a := by simp [antesM, Int.min_comm]
    rw [e]; exact h
theorem specAntes_ev (l : List Int) (b s g a m : Int) (hl : l.length ≤ 1000000000) : Ev (fun k => spec_l09Antes.f k l b s g a m) (antesM l a) := by
  unfold spec_l09Antes.f
  exact specAntes_l0 b s g a m l [] (by simpa using hl)
theorem implAntes_l0 (L : List Int) (b s g a m : Int) : ∀ (t pre z : List Int), z.length = t.length → pre.length + t.length ≤ 1000000000 →
    Ev (fun k => impl_antesOf.l0 k (antesM pre a ++ z) (pre ++ t) ((pre ++ t).length : Int) (pre.length : Int) L b s g a m) (antesM (pre ++ t) a)
  | [], pre, z, hz, hl => by
    obtain rfl : z = [] := by simpa using hz
    refine Ev.step (fun k => impl_antesOf.l0.eq_2 _ _ _ _ _ _ _ _ _ _ k) ?_
    exact ev_neg (by simp) (ev_now (by simp))
  | x :: t, pre, z, hz, hl => by
    obtain ⟨y, z, rfl⟩ : ∃ y z', z = y :: z' := by cases z with
      | nil => simp at hz
      | cons y z => exact ⟨y, z, rfl⟩
    have hl' : pre.length + (t.length + 1) ≤ 1000000000 := hl
    refine Ev.step (fun k => impl_antesOf.l0.eq_2 _ _ _ _ _ _ _ _ _ _ k) ?_
    refine ev_pos (by simp; omega) (ev_pos (by omega) (ev_pos (by simp; omega) (ev_pos (by simp [antesM]; omega) ?_)))
    have h := implAntes_l0 L b s g a m t (pre ++ [x]) z (by simpa using hz) (by simp; omega)
    have e : (antesM pre a ++ y :: z).set ((pre.length : Int)).toNat (mn x a) = antesM (pre ++ [x]) a ++ z := by
      have := set_at (antesM pre a) z y (mn x a)
      simp only [antesM, List.length_map] at this
      simp only [antesM]
      rw [this, mn_min]; simp
    rw [rd_at, e, w64 (by omega) (by omega), len_snoc pre x, app_snoc pre t x]
    exact h
theorem implAntes_ev (l : List Int) (b s g a m : Int) (hl : l.length ≤ 1000000000) : Ev (fun k => impl_antesOf.f k l b s g a m) (antesM l a) := by
  unfold impl_antesOf.f
  refine ev_pos (by omega) (ev_pos (by simp; omega) ?_)
  have h := implAntes_l0 l b s g a m l [] (List.replicate l.length 0) (by simp) (by simpa using hl)
  simpa [antesM] using h
theorem specBets_ev (l : List Int) (b s g a m : Int) (hl : l.length ≤ 1000) (h0 : 0 ≤ b) (h1 : b < l.length) : Ev (fun k => spec_l09Bets.f k l b s g a m) (betsM l b s g a) := by
  unfold spec_l09Bets.f betsM
  have r := blindsAt_range h0 h1 (by omega)
  have ea : (antesM l a).length = l.length := by simp [antesM]
  refine Ev.bind (specAntes_ev l b s g a m (by omega)) (ev_pos (by omega) (ev_pos (by simp; omega) (ev_bindc rfl (ev_bindc (specBlinds_eq _ _ _ _ _ _ (by omega)) ?_))))
  refine ev_pos r.1 (ev_pos r.2.1 (ev_pos (by omega) (ev_pos (by simp; omega) (ev_pos r.2.2.1 (ev_pos r.2.2.2 (ev_pos (by omega) (ev_pos (by simp; omega) (ev_now ?_))))))))
  simp
theorem implBets_ev (l : List Int) (b s g a m : Int) (hl : l.length ≤ 1000) (h0 : 0 ≤ b) (h1 : b < l.length) : Ev (fun k => impl_blindsOf.f k l b s g a m) (betsM l b s g a) := by
  unfold impl_blindsOf.f betsM
  have r := blindsAt_range h0 h1 (by omega)
  have ea : (antesM l a).length = l.length := by simp [antesM]
  refine ev_pos (by omega) (ev_pos (by simp; omega) (ev_bindc rfl (Ev.bind (implAntes_ev l b s g a m (by omega)) (ev_bindc (implBlinds_eq _ _ _ _ _ _ (by omega)) ?_))))
  refine ev_pos r.1 (ev_pos r.2.1 (ev_pos (by omega) (ev_pos (by simp; omega) (ev_pos r.2.2.1 (ev_pos r.2.2.2 (ev_pos (by omega) (ev_pos (by simp; omega) (ev_now ?_))))))))
  simp
theorem eqBoolS_l0 : ∀ (s pre : List Bool), pre.length + s.length ≤ 1000000000000 →
    Ev (fun k => laws_eqBoolS.l0 k (pre ++ s) (pre ++ s) (pre.length : Int)) true
  | [], pre, hl => by
    refine Ev.step (fun k => laws_eqBoolS.l0.eq_2 _ _ _ k) ?_
    exact ev_neg (by simp) (ev_now rfl)
  | x :: s, pre, hl => by
    have hl' : pre.length + (s.length + 1) ≤ 1000000000000 := hl
    refine Ev.step (fun k => laws_eqBoolS.l0.eq_2 _ _ _ k) ?_
    refine ev_pos (by simp; omega) (ev_pos (by omega) (ev_pos (by simp; omega) (ev_neg (by simp) ?_)))
    rw [w64 (by omega) (by omega), len_snoc pre x, app_snoc pre s x]
    exact eqBoolS_l0 s (pre ++ [x]) (by simp; omega)
theorem eqBoolS_ev {a b : List Bool} (e : a = b) (hl : a.length ≤ 1000000000000) : Ev (fun k => laws_eqBoolS.f k a b) true := by
  subst e
  unfold laws_eqBoolS.f
  refine ev_pos rfl ?_
  simpa using eqBoolS_l0 a [] (by simpa using hl)
theorem eqBetting_ev (l0 l1 l2 : List Int) (l3 l4 : List Bool) (t u ra li : Int) (hl : l0.length + l1.length + l2.length + l3.length + l4.length ≤ 1048576) :
    Ev (fun k => laws_eqBetting.f k l0 l1 l2 l3 l4 t u ra li l0 l1 l2 l3 l4 t u ra li) true := by
  unfold laws_eqBetting.f
  exact Ev.bind (eqInt64S_ev rfl (by omega)) (ev_pos rfl (Ev.bind (eqInt64S_ev rfl (by omega)) (ev_pos rfl (Ev.bind (eqInt64S_ev rfl (by omega)) (ev_pos rfl (Ev.bind (eqBoolS_ev rfl (by omega)) (ev_pos rfl (Ev.bind (eqBoolS_ev rfl (by omega)) (ev_pos rfl (ev_pos rfl (ev_pos rfl (ev_pos rfl (ev_pos rfl (ev_now rfl))))))))))))))
def bettingB (l0 l1 l2 : List Int) (l3 l4 : List Bool) (t u ra li : Int) : Bool :=
  inR 2 6 (l0.length : Int) && (decide (l1.length = l0.length) && (decide (l2.length = l0.length) && (decide (l3.length = l0.length) && (decide (l4.length = l0.length) && (l0.all (inR 0 600000) && (l1.all (inR 0 600000) && (l2.all (inR 0 600000) &&
  (decide (sumM 0 l0 + sumM 0 l1 + sumM 0 l2 ≤ 600000) && (l3.contains false && (inR 0 ((l0.length : Int) - 1) t && (inR 1 100000 u && (inR 0 4 ra && inR 0 2 li))))))))))))
theorem sum_bound : ∀ (l : List Int) (acc : Int), l.all (inR 0 600000) = true → 0 ≤ acc → acc + 600000 * (l.length : Int) ≤ 1000000000000 → 0 ≤ sumM acc l ∧ sumM acc l ≤ acc + 600000 * (l.length : Int)
  | [], acc, h, h0, h1 => by simp [sumM]; omega
  | x :: l, acc, h, h0, h1 => by
    simp only [List.all_cons, Bool.and_eq_true, inR_iff] at h
    have h1' : acc + 600000 * ((l.length : Int) + 1) ≤ 1000000000000 := by simpa using h1
    have ih := sum_bound l (acc + x) h.2 (by omega) (by omega)
    have e : wrap64 (acc + x) = acc + x := w64 (by omega) (by omega)
    simp only [sumM, e, List.length_cons]
    omega
theorem betting_bounds {l0 l1 l2 : List Int} {l3 l4 : List Bool} {t u ra li : Int} (h : bettingB l0 l1 l2 l3 l4 t u ra li = true) :
    2 ≤ l0.length ∧ l0.length ≤ 6 ∧ l1.length = l0.length ∧ l2.length = l0.length ∧ l3.length = l0.length ∧ l4.length = l0.length ∧ l0.all (inR 0 600000) = true ∧ l1.all (inR 0 600000) = true ∧ l2.all (inR 0 600000) = true ∧
    sumM 0 l0 + sumM 0 l1 + sumM 0 l2 ≤ 600000 ∧ l3.contains false = true ∧ 0 ≤ t ∧ t < l0.length ∧ 1 ≤ u ∧ u ≤ 100000 ∧ 0 ≤ ra ∧ ra ≤ 4 ∧ 0 ≤ li ∧ li ≤ 2 := by
  simp only [bettingB, Bool.and_eq_true, inR_iff, decide_eq_true_eq] at h
  obtain ⟨h1, n1, n2, n3, n4, a0, a1, a2, s, c, d1, d2, d3, d4⟩ := h
  exact ⟨by omega, by omega, n1, n2, n3, n4, a0, a1, a2, s, c, by omega, by omega, by omega, by omega, by omega, by omega, by omega, by omega⟩
def ChipsInM (l0 l1 l2 : List Int) (l3 l4 : List Bool) (t u ra li : Int) : Int × Int := if bettingB l0 l1 l2 l3 l4 t u ra li = true then (sumM 0 l0 + sumM 0 l1 + sumM 0 l2, 0) else (0, 1)
def PotInM (l0 l1 l2 : List Int) (l3 l4 : List Bool) (t u ra li : Int) : Int × Int := if bettingB l0 l1 l2 l3 l4 t u ra li = true then (sumM 0 l1 + sumM 0 l2, 0) else (0, 1)
def liveM : Int → List Bool → List Int
  | _, [] => []
  | i, x :: s => if x = true then liveM (i + 1) s else i :: liveM (i + 1) s
theorem liveM_len : ∀ (s : List Bool) (i : Int), (liveM i s).length ≤ s.length
  | [], i => by simp [liveM]
  | x :: s, i => by
    have := liveM_len s (i + 1)
    unfold liveM
    split <;> simp <;> omega
theorem liveM_pos : ∀ (s : List Bool) (i : Int), s.contains false = true → 1 ≤ (liveM i s).length
  | [], i, h => by simp at h
  | x :: s, i, h => by
    unfold liveM
    cases x with
    | true => simp only [if_true]; exact liveM_pos s (i + 1) (by simpa [List.contains_cons] using h)
    | false => simp
def WinnerM (l0 l1 l2 : List Int) (l3 l4 : List Bool) (t u ra li : Int) : Int × Int := if bettingB l0 l1 l2 l3 l4 t u ra li = true then (if ((liveM 0 l3).length : Int) > 1 then (0, 5) else (rd (liveM 0 l3) 0, 0)) else (0, 1)
def LiveSeatsM (l0 l1 l2 : List Int) (l3 l4 : List Bool) (t u ra li : Int) : List Int × Int := if bettingB l0 l1 l2 l3 l4 t u ra li = true then (liveM 0 l3, 0) else ([], 1)
theorem LiveSeatsM_len (l0 l1 l2 : List Int) (l3 l4 : List Bool) (t u ra li : Int) (hl : l0.length + l1.length + l2.length + l3.length + l4.length ≤ 1048576) : (LiveSeatsM l0 l1 l2 l3 l4 t u ra li).1.length ≤ 1048576 := by
  have := liveM_len l3 0
  unfold LiveSeatsM
  split
  · simp only; omega
  · simp
def canM (l0 : List Int) (l3 : List Bool) (i : Int) : Bool := !(rdOf false l3 i) && decide (rd l0 i > 0)
def cntB (l0 : List Int) (l3 : List Bool) : Nat → Int → Int
  | 0, _ => 0
  | d + 1, i => (if canM l0 l3 i = true then 1 else 0) + cntB l0 l3 d (i + 1)
def othB (l0 : List Int) (l3 : List Bool) (seat : Int) : Nat → Int → Bool
  | 0, _ => false
  | d + 1, i => if i = seat then othB l0 l3 seat d (i + 1) else if canM l0 l3 i = true then true else othB l0 l3 seat d (i + 1)
theorem cntB_nonneg (l0 : List Int) (l3 : List Bool) : ∀ (d : Nat) (i : Int), 0 ≤ cntB l0 l3 d i ∧ cntB l0 l3 d i ≤ d
  | 0, i => by simp [cntB]
  | d + 1, i => by
    have := cntB_nonneg l0 l3 d (i + 1)
    unfold cntB
    split <;> omega
theorem oth_past (l0 : List Int) (l3 : List Bool) (seat : Int) : ∀ (d : Nat) (i : Int), seat < i → othB l0 l3 seat d i = decide (cntB l0 l3 d i > 0)
  | 0, i, h => by simp [othB, cntB]
  | d + 1, i, h => by
    have hn := cntB_nonneg l0 l3 d (i + 1)
    unfold othB cntB
    rw [if_neg (by omega)]
    by_cases c : canM l0 l3 i = true
    · rw [if_pos c, if_pos c]; simp; omega
    · rw [if_neg c, if_neg c, oth_past l0 l3 seat d (i + 1) (by omega)]; simp
theorem oth_cnt (l0 : List Int) (l3 : List Bool) (seat : Int) (hs : canM l0 l3 seat = true) : ∀ (d : Nat) (i : Int), i ≤ seat → seat < i + d → othB l0 l3 seat d i = decide (cntB l0 l3 d i > 1)
  | 0, i, h, h2 => by omega
  | d + 1, i, h, h2 => by
    unfold othB cntB
    by_cases e : i = seat
    · subst e
      rw [if_pos rfl, if_pos hs, oth_past l0 l3 i d (i + 1) (by omega)]
      congr 1; simp; omega
    · rw [if_neg e]
      have ih := oth_cnt l0 l3 seat hs d (i + 1) (by omega) (by omega)
      have pos : 1 ≤ cntB l0 l3 d (i + 1) := cnt_pos l0 l3 seat hs d (i + 1) (by omega) (by omega)
      by_cases c : canM l0 l3 i = true
      · rw [if_pos c, if_pos c]; simp; omega
      · rw [if_neg c, if_neg c, ih]; simp
where cnt_pos (l0 : List Int) (l3 : List Bool) (seat : Int) (hs : canM l0 l3 seat = true) : ∀ (d : Nat) (i : Int), i ≤ seat → seat < i + d → 1 ≤ cntB l0 l3 d i
  | 0, i, h, h2 => by omega
  | d + 1, i, h, h2 => by
    have hn := cntB_nonneg l0 l3 d (i + 1)
    unfold cntB
    by_cases e : i = seat
    · subst e; rw [if_pos hs]; omega
    · have := cnt_pos l0 l3 seat hs d (i + 1) (by omega) (by omega)
      split <;> omega
def maxM : Int → List Int → Int
  | a, [] => a
  | a, x :: s => maxM (mx a x) s
def hasM (l0 l1 : List Int) (l3 l4 : List Bool) (seat : Int) : Bool :=
  canM l0 l3 seat && (decide (rd l1 seat < maxM 0 l1) || (!(rdOf false l4 seat) && othB l0 l3 seat l0.length 0))
def isOpenB (l0 l1 l2 : List Int) (l3 l4 : List Bool) (t u ra li : Int) : Bool := bettingB l0 l1 l2 l3 l4 t u ra li && hasM l0 l1 l3 l4 t
def isSettledB (l0 l1 l2 : List Int) (l3 l4 : List Bool) (t u ra li : Int) : Bool :=
  bettingB l0 l1 l2 l3 l4 t u ra li && (!(hasM l0 l1 l3 l4 t) && (decide (cntB l0 l3 l0.length 0 < 2) || decide (((liveM 0 l3).length : Int) < 2)))
def marksB : Int → List Bool → List Bool
  | _, [] => []
  | m, _ :: s => ((Int.tmod m 3) == 0) :: marksB (m + 1) s
theorem markBoolS_l0 : ∀ (s pre : List Bool) (m : Int), pre.length + s.length ≤ 1000000000000 → 0 ≤ m → m + s.length ≤ 1000000000000000 →
    Ev (fun k => laws_markBoolS.l0 k (pre ++ s) m (pre.length : Int)) (m + s.length, pre ++ marksB m s)
  | [], pre, m, hl, h0, hm => by
    refine Ev.step (fun k => laws_markBoolS.l0.eq_2 _ _ _ k) ?_
    exact ev_neg (by simp) (ev_now (by simp [marksB]))
  | x :: s, pre, m, hl, h0, hm => by
    have hl' : pre.length + (s.length + 1) ≤ 1000000000000 := hl
    have hm' : m + ((s.length : Int) + 1) ≤ 1000000000000000 := by simpa using hm
    refine Ev.step (fun k => laws_markBoolS.l0.eq_2 _ _ _ k) ?_
    refine ev_pos (by simp; omega) (ev_pos (by omega) ?_)
    rw [set_at, w64 (by omega) (by omega), w64 (by omega) (by omega), len_snoc pre ((Int.tmod m 3) == 0)]
    have h := markBoolS_l0 s (pre ++ [(Int.tmod m 3) == 0]) (m + 1) (by simp; omega) (by omega) (by omega)
    have e : (m + ((x :: s).length : Int), pre ++ marksB m (x :: s)) = (m + 1 + (s.length : Int), pre ++ [(Int.tmod m 3) == 0] ++ marksB (m + 1) s) := by
      simp [marksB]; omega
    rw [e]; exact h
theorem markBoolS_ev (l : List Bool) (m : Int) (hl : l.length ≤ 1000000000000) (h0 : 0 ≤ m) (hm : m + l.length ≤ 1000000000000000) :
    Ev (fun k => laws_markBoolS.f k l m) (m + l.length, marksB m l) := by
  unfold laws_markBoolS.f
  simpa using markBoolS_l0 l [] m (by simpa using hl) h0 hm
theorem markBetting_ev (l0 l1 l2 : List Int) (l3 l4 : List Bool) (t u ra li : Int) (hl : l0.length + l1.length + l2.length + l3.length + l4.length ≤ 1048576) :
    ∃ r : Int × List Int × List Int × List Int × List Bool × List Bool, 0 ≤ r.1 ∧ Ev (fun k => laws_markBetting.f k l0 l1 l2 l3 l4 t u ra li 1) r := by
  unfold laws_markBetting.f
  exact ⟨(1 + (l0.length : Int) + (l1.length : Int) + (l2.length : Int) + (l3.length : Int) + (l4.length : Int), _), by simp only; omega,
    Ev.bind (markInt64S_ev l0 1 (by omega) (by omega) (by omega)) (Ev.bind (markInt64S_ev l1 _ (by omega) (by simp only; omega) (by simp only; omega)) (Ev.bind (markInt64S_ev l2 _ (by omega) (by simp only; omega) (by simp only; omega)) (Ev.bind (markBoolS_ev l3 _ (by omega) (by simp only; omega) (by simp only; omega)) (Ev.bind (markBoolS_ev l4 _ (by omega) (by simp only; omega) (by simp only; omega)) (ev_now rfl)))))⟩
theorem implCan_eq (l0 l1 l2 : List Int) (l3 l4 : List Bool) (t u ra li i : Int) (h0 : 0 ≤ i) (h3 : i < l3.length) (hl : i < l0.length) : impl_canAct.f l0 l1 l2 l3 l4 t u ra li i = some (canM l0 l3 i) := by
  unfold impl_canAct.f canM
  rw [if_pos h0, if_pos h3, if_pos hl]
  cases rdOf false l3 i <;> simp
theorem specCan_eq (l0 l1 l2 : List Int) (l3 l4 : List Bool) (t u ra li i : Int) (h0 : 0 ≤ i) (h3 : i < l3.length) (hl : i < l0.length) : spec_l10Can.f l0 l1 l2 l3 l4 t u ra li i = some (canM l0 l3 i) := by
  unfold spec_l10Can.f canM
  rw [if_pos h0, if_pos h3, if_pos hl]
  cases rdOf false l3 i <;> simp
theorem slMax_l0 : ∀ (s pre : List Int) (a : Int), pre.length + s.length ≤ 1000000000 →
    Ev (fun k => slices_Max_int64_int64.l0 k (pre ++ s) a (pre.length : Int)) (maxM a s)
  | [], pre, a, hl => Ev.step (fun k => slices_Max_int64_int64.l0.eq_2 _ _ _ k) (ev_neg (by simp) (ev_now rfl))
  | x :: s, pre, a, hl => by
    have hl' : pre.length + (s.length + 1) ≤ 1000000000 := hl
    refine Ev.step (fun k => slices_Max_int64_int64.l0.eq_2 _ _ _ k) (ev_pos (by simp; omega) (ev_pos (by omega) ?_))
    rw [rd_at, w64 (by omega) (by omega), len_snoc pre x, app_snoc pre s x]
    exact slMax_l0 s (pre ++ [x]) (mx a x) (by simp; omega)
theorem slMax_ev (l : List Int) (h1 : 1 ≤ l.length) (hl : l.length ≤ 1000000) (hp : l.all (inR 0 600000) = true) : Ev (fun k => slices_Max_int64_int64.f k l) (maxM 0 l) := by
  cases l with
  | nil => simp at h1
  | cons x s =>
    simp only [List.all_cons, Bool.and_eq_true, inR_iff] at hp
    unfold slices_Max_int64_int64.f
    refine ev_neg (by simp; omega) (ev_pos (by simp) ?_)
    have e : maxM 0 (x :: s) = maxM x s := by
      show maxM (mx 0 x) s = _
      rw [mx_max, Int.max_eq_right (by omega)]
    have er : rd (x :: s) 0 = x := by simp [rd]
    rw [e, er]
    have hl' : s.length + 1 ≤ 1000000 := hl
    exact slMax_l0 s [x] x (by simp; omega)
theorem implOth_l0 (l0 l1 l2 : List Int) (l3 l4 : List Bool) (t u ra li seat : Int) (n : Int) (h3 : l3.length = l0.length) (hn : n = l0.length) (hb : n ≤ 1000000) : ∀ (d : Nat) (i : Int), 0 ≤ i → i + d = n →
    Ev (fun k => impl_othersCanAct.l0 k seat n i l0 l1 l2 l3 l4 t u ra li) (othB l0 l3 seat d i)
  | 0, i, h0, h => Ev.step (fun k => impl_othersCanAct.l0.eq_2 _ _ _ _ _ _ _ _ _ _ _ _ k) (ev_neg (by omega) (ev_now rfl))
  | d + 1, i, h0, h => by
    refine Ev.step (fun k => impl_othersCanAct.l0.eq_2 _ _ _ _ _ _ _ _ _ _ _ _ k) (ev_pos (by omega) ?_)
    rw [w64 (by omega) (by omega)]
    have ih := implOth_l0 l0 l1 l2 l3 l4 t u ra li seat n h3 hn hb d (i + 1) (by omega) (by omega)
    unfold othB
    by_cases e : i = seat
    · rw [if_pos e]; exact ev_pos e ih
    · rw [if_neg e]
      refine ev_neg e (ev_bindc (implCan_eq l0 l1 l2 l3 l4 t u ra li i h0 (by omega) (by omega)) ?_)
      by_cases c : canM l0 l3 i = true
      · rw [if_pos c]; exact ev_pos c (ev_now rfl)
      · rw [if_neg c]; exact ev_neg c ih
theorem specCount_l0 (l0 l1 l2 : List Int) (l3 l4 : List Bool) (t u ra li : Int) (h3 : l3.length = l0.length) (hb : l0.length ≤ 1000000) : ∀ (d : Nat) (i acc : Int), 0 ≤ i → i + d = l0.length → 0 ≤ acc → acc ≤ i →
    Ev (fun k => spec_l10Count.l0 k acc i l0 l1 l2 l3 l4 t u ra li) (acc + cntB l0 l3 d i)
  | 0, i, acc, h0, h, a0, a1 => Ev.step (fun k => spec_l10Count.l0.eq_2 _ _ _ _ _ _ _ _ _ _ _ k) (ev_neg (by omega) (ev_now (by simp [cntB])))
  | d + 1, i, acc, h0, h, a0, a1 => by
    refine Ev.step (fun k => spec_l10Count.l0.eq_2 _ _ _ _ _ _ _ _ _ _ _ k) (ev_pos (by omega) (ev_bindc (specCan_eq l0 l1 l2 l3 l4 t u ra li i h0 (by omega) (by omega)) ?_))
    rw [w64 (n := i + 1) (by omega) (by omega), w64 (n := acc + 1) (by omega) (by omega)]
    unfold cntB
    by_cases c : canM l0 l3 i = true
    · rw [if_pos c]
      have ih := specCount_l0 l0 l1 l2 l3 l4 t u ra li h3 hb d (i + 1) (acc + 1) (by omega) (by omega) (by omega) (by omega)
      have e : acc + (1 + cntB l0 l3 d (i + 1)) = acc + 1 + cntB l0 l3 d (i + 1) := by omega
      rw [e]; exact ev_pos c ih
    · rw [if_neg c]
      have ih := specCount_l0 l0 l1 l2 l3 l4 t u ra li h3 hb d (i + 1) acc (by omega) (by omega) (by omega) (by omega)
      simp only [Int.zero_add]; exact ev_neg c ih
theorem specMatch_l0 (l0 l1 l2 : List Int) (l3 l4 : List Bool) (t u ra li : Int) (hl : l1.length ≤ 1000000) : ∀ (s pre : List Int) (a : Int), l1 = pre ++ s →
    Ev (fun k => spec_l10Match.l0 k a (pre.length : Int) l0 l1 l2 l3 l4 t u ra li) (maxM a s)
  | [], pre, a, h => by
    have hp : l1.length = pre.length := by rw [h]; simp
    exact Ev.step (fun k => spec_l10Match.l0.eq_2 _ _ _ _ _ _ _ _ _ _ _ k) (ev_neg (by omega) (ev_now rfl))
  | x :: s, pre, a, h => by
    have hp : l1.length = pre.length + (s.length + 1) := by rw [h]; simp
    have h2 : l1 = (pre ++ [x]) ++ s := by rw [h]; simp
    have er : rd l1 (pre.length : Int) = x := by rw [h]; exact rd_at _ _ _
    refine Ev.step (fun k => spec_l10Match.l0.eq_2 _ _ _ _ _ _ _ _ _ _ _ k) (ev_pos (by omega) (ev_pos (by omega) ?_))
    rw [er, w64 (by omega) (by omega), len_snoc pre x]
    exact specMatch_l0 l0 l1 l2 l3 l4 t u ra li hl s (pre ++ [x]) (mx a x) h2
theorem implHas_ev (l0 l1 l2 : List Int) (l3 l4 : List Bool) (t u ra li seat : Int) (hb : bettingB l0 l1 l2 l3 l4 t u ra li = true) (h0 : 0 ≤ seat) (h1 : seat < l0.length) :
    Ev (fun k => impl_hasToAct.f k l0 l1 l2 l3 l4 t u ra li seat) (hasM l0 l1 l3 l4 seat) := by
  obtain ⟨n2, n6, e1, e2, e3, e4, a0, a1, a2, _⟩ := betting_bounds hb
  unfold impl_hasToAct.f hasM
  refine ev_bindc (implCan_eq l0 l1 l2 l3 l4 t u ra li seat h0 (by omega) (by omega)) ?_
  by_cases c : canM l0 l3 seat = true
  rotate_left
  · exact ev_neg c (ev_now (by simp only [Bool.not_eq_true] at c; simp [c]))
  refine ev_pos c (ev_pos h0 (ev_pos (by omega) (Ev.bind (slMax_ev l1 (by omega) (by omega) a1) ?_)))
  by_cases m : rd l1 seat < maxM 0 l1
  · exact ev_pos m (ev_now (by simp [c, m]))
  refine ev_neg m (ev_pos (by omega) ?_)
  by_cases p : rdOf false l4 seat = true
  · exact ev_pos p (ev_now (by simp [c, m, p]))
  refine ev_neg p (Ev.bind (a := othB l0 l3 seat l0.length 0) ?_ (ev_now (by simp only [Bool.not_eq_true] at p; simp [c, m, p])))
  unfold impl_othersCanAct.f
  exact implOth_l0 l0 l1 l2 l3 l4 t u ra li seat _ e3 rfl (by omega) l0.length 0 (by omega) (by omega)
theorem specHas_ev (l0 l1 l2 : List Int) (l3 l4 : List Bool) (t u ra li seat : Int) (hb : bettingB l0 l1 l2 l3 l4 t u ra li = true) (h0 : 0 ≤ seat) (h1 : seat < l0.length) :
    Ev (fun k => spec_l10Has.f k l0 l1 l2 l3 l4 t u ra li seat) (hasM l0 l1 l3 l4 seat) := by
  obtain ⟨n2, n6, e1, e2, e3, e4, a0, a1, a2, _⟩ := betting_bounds hb
  unfold spec_l10Has.f hasM
  refine ev_pos h0 (ev_pos (by omega) (Ev.bind (a := maxM 0 l1) ?_ (ev_bindc (specCan_eq l0 l1 l2 l3 l4 t u ra li seat h0 (by omega) (by omega)) ?_)))
  · unfold spec_l10Match.f
    exact specMatch_l0 l0 l1 l2 l3 l4 t u ra li (by omega) l1 [] 0 rfl
  by_cases c : canM l0 l3 seat = true
  rotate_left
  · exact ev_neg c (ev_now (by simp only [Bool.not_eq_true] at c; simp [c]))
  refine ev_pos c ?_
  by_cases m : rd l1 seat < maxM 0 l1
  · exact ev_pos m (ev_now (by simp [c, m]))
  refine ev_neg m (ev_pos (by omega) ?_)
  by_cases p : rdOf false l4 seat = true
  · exact ev_pos p (ev_now (by simp [c, m, p]))
  refine ev_neg p (Ev.bind (a := cntB l0 l3 l0.length 0) ?_ (ev_now ?_))
  · unfold spec_l10Count.f
    simpa using specCount_l0 l0 l1 l2 l3 l4 t u ra li e3 (by omega) l0.length 0 0 (by omega) (by omega) (by omega) (by omega)
  · simp only [Bool.not_eq_true] at p
    rw [oth_cnt l0 l3 seat c l0.length 0 (by omega) (by omega)]
    simp [c, m, p]
theorem clone_eq (l : List Int) (hl : l.length ≤ 1000000000) : slices_Clone_int64_int64.f l = some l := by
  unfold slices_Clone_int64_int64.f
  simp only [Option.bind_some, List.length_nil, List.nil_append]
  rw [if_pos (by omega)]
theorem heldBoolS_l0 : ∀ (s pre : List Bool) (m : Int), pre.length + s.length ≤ 1000000000000 → 0 ≤ m → m + s.length ≤ 1000000000000000 →
    Ev (fun k => laws_heldBoolS.l0 k (pre ++ marksB m s) m (pre.length : Int)) (m + s.length)
  | [], pre, m, hl, h0, hm => by
    refine Ev.step (fun k => laws_heldBoolS.l0.eq_2 _ _ _ k) ?_
    exact ev_neg (by simp [marksB]) (ev_now (by simp))
  | x :: s, pre, m, hl, h0, hm => by
    have hl' : pre.length + (s.length + 1) ≤ 1000000000000 := hl
    have hm' : m + ((s.length : Int) + 1) ≤ 1000000000000000 := by simpa using hm
    refine Ev.step (fun k => laws_heldBoolS.l0.eq_2 _ _ _ k) ?_
    show Ev (fun k => if (pre.length : Int) < (((pre ++ ((Int.tmod m 3) == 0) :: marksB (m + 1) s).length : Nat) : Int) then _ else _) _
    have er : rdOf false (pre ++ ((Int.tmod m 3) == 0) :: marksB (m + 1) s) (pre.length : Int) = ((Int.tmod m 3) == 0) := rd_at' _ _ _ _
    refine ev_pos (by simp; omega) (ev_pos (by omega) (ev_neg (by show ¬ ((rdOf false (pre ++ ((Int.tmod m 3) == 0) :: marksB (m + 1) s) (pre.length : Int)) != _) = true; rw [er]; simp) ?_))
    show Ev (fun k => laws_heldBoolS.l0 k (pre ++ ((Int.tmod m 3) == 0) :: marksB (m + 1) s) _ _) _
    rw [w64 (by omega) (by omega), w64 (by omega) (by omega), len_snoc pre ((Int.tmod m 3) == 0), app_snoc pre _ ((Int.tmod m 3) == 0)]
    have h := heldBoolS_l0 s (pre ++ [(Int.tmod m 3) == 0]) (m + 1) (by simp; omega) (by omega) (by omega)
    have e : m + ((x :: s).length : Int) = m + 1 + (s.length : Int) := by simp; omega
    rw [e]; exact h
theorem heldBoolS_ev (l : List Bool) (m : Int) (hl : l.length ≤ 1000000000000) (h0 : 0 ≤ m) (hm : m + l.length ≤ 1000000000000000) :
    Ev (fun k => laws_heldBoolS.f k (marksB m l) m) (m + l.length) := by
  unfold laws_heldBoolS.f
  simpa using heldBoolS_l0 l [] m (by simpa using hl) h0 hm
def mk5 (l0 l1 l2 : List Int) (l3 l4 : List Bool) : Int × List Int × List Int × List Int × List Bool × List Bool :=
  (1 + (l0.length : Int) + (l1.length : Int) + (l2.length : Int) + (l3.length : Int) + (l4.length : Int), marks 1 l0, marks (1 + (l0.length : Int)) l1, marks (1 + (l0.length : Int) + (l1.length : Int)) l2,
    marksB (1 + (l0.length : Int) + (l1.length : Int) + (l2.length : Int)) l3, marksB (1 + (l0.length : Int) + (l1.length : Int) + (l2.length : Int) + (l3.length : Int)) l4)
theorem mark5_ev (l0 l1 l2 : List Int) (l3 l4 : List Bool) (t u ra li : Int) (hl : l0.length + l1.length + l2.length + l3.length + l4.length ≤ 1048576) :
    Ev (fun k => laws_markBetting.f k l0 l1 l2 l3 l4 t u ra li 1) (mk5 l0 l1 l2 l3 l4) := by
  unfold laws_markBetting.f mk5
  exact Ev.bind (markInt64S_ev l0 1 (by omega) (by omega) (by omega)) (Ev.bind (markInt64S_ev l1 _ (by omega) (by simp only; omega) (by simp only; omega)) (Ev.bind (markInt64S_ev l2 _ (by omega) (by simp only; omega) (by simp only; omega)) (Ev.bind (markBoolS_ev l3 _ (by omega) (by simp only; omega) (by simp only; omega)) (Ev.bind (markBoolS_ev l4 _ (by omega) (by simp only; omega) (by simp only; omega)) (ev_now rfl)))))
theorem held5_ev (l0 l1 l2 : List Int) (l3 l4 : List Bool) (t u ra li : Int) (hl : l0.length + l1.length + l2.length + l3.length + l4.length ≤ 1048576) :
    Ev (fun k => laws_heldBetting.f k (mk5 l0 l1 l2 l3 l4).2.1 (mk5 l0 l1 l2 l3 l4).2.2.1 (mk5 l0 l1 l2 l3 l4).2.2.2.1 (mk5 l0 l1 l2 l3 l4).2.2.2.2.1 (mk5 l0 l1 l2 l3 l4).2.2.2.2.2 t u ra li 1) (mk5 l0 l1 l2 l3 l4).1 := by
  unfold laws_heldBetting.f mk5
  exact Ev.bind (heldInt64S_ev l0 1 (by omega) (by omega) (by omega)) (ev_neg (by omega) (Ev.bind (heldInt64S_ev l1 _ (by omega) (by omega) (by omega)) (ev_neg (by omega) (Ev.bind (heldInt64S_ev l2 _ (by omega) (by omega) (by omega)) (ev_neg (by omega) (Ev.bind (heldBoolS_ev l3 _ (by omega) (by omega) (by omega)) (ev_neg (by omega) (Ev.bind (heldBoolS_ev l4 _ (by omega) (by omega) (by omega)) (ev_neg (by omega) (ev_now rfl))))))))))
theorem mk5_pos (l0 l1 l2 : List Int) (l3 l4 : List Bool) : 0 ≤ (mk5 l0 l1 l2 l3 l4).1 := by unfold mk5; simp only; omega
theorem implHas_w (l0 l1 l2 : List Int) (l3 l4 : List Bool) (t u ra li seat : Int) (n1 : 1 ≤ l0.length) (n6 : l0.length ≤ 6) (e1 : l1.length = l0.length) (e3 : l3.length = l0.length) (e4 : l4.length = l0.length) (a1 : l1.all (inR 0 600000) = true) (h0 : 0 ≤ seat) (h1 : seat < l0.length) :
    Ev (fun k => impl_hasToAct.f k l0 l1 l2 l3 l4 t u ra li seat) (hasM l0 l1 l3 l4 seat) := by
  unfold impl_hasToAct.f hasM
  refine ev_bindc (implCan_eq l0 l1 l2 l3 l4 t u ra li seat h0 (by omega) (by omega)) ?_
  by_cases c : canM l0 l3 seat = true
  rotate_left
  · exact ev_neg c (ev_now (by simp only [Bool.not_eq_true] at c; simp [c]))
  refine ev_pos c (ev_pos h0 (ev_pos (by omega) (Ev.bind (slMax_ev l1 (by omega) (by omega) a1) ?_)))
  by_cases m : rd l1 seat < maxM 0 l1
  · exact ev_pos m (ev_now (by simp [c, m]))
  refine ev_neg m (ev_pos (by omega) ?_)
  by_cases p : rdOf false l4 seat = true
  · exact ev_pos p (ev_now (by simp [c, m, p]))
  refine ev_neg p (Ev.bind (a := othB l0 l3 seat l0.length 0) ?_ (ev_now (by simp only [Bool.not_eq_true] at p; simp [c, m, p])))
  unfold impl_othersCanAct.f
  exact implOth_l0 l0 l1 l2 l3 l4 t u ra li seat _ e3 rfl (by omega) l0.length 0 (by omega) (by omega)
theorem specHas_w (l0 l1 l2 : List Int) (l3 l4 : List Bool) (t u ra li seat : Int) (n1 : 1 ≤ l0.length) (n6 : l0.length ≤ 6) (e1 : l1.length = l0.length) (e3 : l3.length = l0.length) (e4 : l4.length = l0.length) (h0 : 0 ≤ seat) (h1 : seat < l0.length) :
    Ev (fun k => spec_l10Has.f k l0 l1 l2 l3 l4 t u ra li seat) (hasM l0 l1 l3 l4 seat) := by
  unfold spec_l10Has.f hasM
  refine ev_pos h0 (ev_pos (by omega) (Ev.bind (a := maxM 0 l1) ?_ (ev_bindc (specCan_eq l0 l1 l2 l3 l4 t u ra li seat h0 (by omega) (by omega)) ?_)))
  · unfold spec_l10Match.f
    exact specMatch_l0 l0 l1 l2 l3 l4 t u ra li (by omega) l1 [] 0 rfl
  by_cases c : canM l0 l3 seat = true
  rotate_left
  · exact ev_neg c (ev_now (by simp only [Bool.not_eq_true] at c; simp [c]))
  refine ev_pos c ?_
  by_cases m : rd l1 seat < maxM 0 l1
  · exact ev_pos m (ev_now (by simp [c, m]))
  refine ev_neg m (ev_pos (by omega) ?_)
  by_cases p : rdOf false l4 seat = true
  · exact ev_pos p (ev_now (by simp [c, m, p]))
  refine ev_neg p (Ev.bind (a := cntB l0 l3 l0.length 0) ?_ (ev_now ?_))
  · unfold spec_l10Count.f
    simpa using specCount_l0 l0 l1 l2 l3 l4 t u ra li e3 (by omega) l0.length 0 0 (by omega) (by omega) (by omega) (by omega)
  · simp only [Bool.not_eq_true] at p
    rw [oth_cnt l0 l3 seat c l0.length 0 (by omega) (by omega)]
    simp [c, m, p]
def scanM (l0 l1 : List Int) (l3 l4 : List Bool) (n other : Int) : Nat → Int → Int
  | 0, _ => other
  | d + 1, s => if hasM l0 l1 l3 l4 s = true then s else scanM l0 l1 l3 l4 n other d (leftM s n)
theorem scanM_range (l0 l1 : List Int) (l3 l4 : List Bool) (n other : Int) (hn : n ≤ 1000) (o0 : 0 ≤ other) (o1 : other < n) : ∀ (d : Nat) (s : Int), 0 ≤ s → s < n → 0 ≤ scanM l0 l1 l3 l4 n other d s ∧ scanM l0 l1 l3 l4 n other d s < n
  | 0, s, _, _ => ⟨o0, o1⟩
  | d + 1, s, h0, h1 => by
    unfold scanM
    split
    · exact ⟨h0, h1⟩
    · have r := leftM_range h0 h1 hn
      exact scanM_range l0 l1 l3 l4 n other hn o0 o1 d _ r.1 r.2
theorem implTurn_l0 (l0 l1 l2 : List Int) (l3 l4 : List Bool) (t u ra li other : Int) (n1 : 1 ≤ l0.length) (n6 : l0.length ≤ 6) (e1 : l1.length = l0.length) (e3 : l3.length = l0.length) (e4 : l4.length = l0.length) (a1 : l1.all (inR 0 600000) = true) :
    ∀ (d : Nat) (s x : Int), 0 ≤ s → s < l0.length → 0 ≤ x → x + d = l0.length → Ev (fun k => impl_turnFrom.l0 k s other (l0.length : Int) (l0.length : Int) x l0 l1 l2 l3 l4 t u ra li) (scanM l0 l1 l3 l4 l0.length other d s)
  | 0, s, x, h0, h1, x0, h => Ev.step (fun k => impl_turnFrom.l0.eq_2 _ _ _ _ _ _ _ _ _ _ _ _ _ _ k) (ev_neg (by omega) (ev_now rfl))
  | d + 1, s, x, h0, h1, x0, h => by
    refine Ev.step (fun k => impl_turnFrom.l0.eq_2 _ _ _ _ _ _ _ _ _ _ _ _ _ _ k) (ev_pos (by omega) (Ev.bind (implHas_w l0 l1 l2 l3 l4 t u ra li s n1 n6 e1 e3 e4 a1 h0 h1) ?_))
    unfold scanM
    by_cases q : hasM l0 l1 l3 l4 s = true
    · simp only [if_pos q]; exact ev_now rfl
    · simp only [if_neg q]
      have r := leftM_range h0 h1 (by omega)
      refine ev_bindc (implLeft_eq _ _ (by omega)) ?_
      rw [w64 (n := x + 1) (by omega) (by omega)]
      exact implTurn_l0 l0 l1 l2 l3 l4 t u ra li other n1 n6 e1 e3 e4 a1 d _ _ r.1 r.2 (by omega) (by omega)
theorem implTurn_ev (l0 l1 l2 : List Int) (l3 l4 : List Bool) (t u ra li s other : Int) (n1 : 1 ≤ l0.length) (n6 : l0.length ≤ 6) (e1 : l1.length = l0.length) (e3 : l3.length = l0.length) (e4 : l4.length = l0.length) (a1 : l1.all (inR 0 600000) = true) (h0 : 0 ≤ s) (h1 : s < l0.length) :
    Ev (fun k => impl_turnFrom.f k l0 l1 l2 l3 l4 t u ra li s other) (scanM l0 l1 l3 l4 l0.length other l0.length s) := by
  unfold impl_turnFrom.f
  exact implTurn_l0 l0 l1 l2 l3 l4 t u ra li other n1 n6 e1 e3 e4 a1 l0.length s 0 h0 h1 (by omega) (by omega)
theorem specNext10_l0 (l0 l1 l2 : List Int) (l3 l4 : List Bool) (t u ra li q : Int) (n1 : 1 ≤ l0.length) (n6 : l0.length ≤ 6) (e1 : l1.length = l0.length) (e3 : l3.length = l0.length) (e4 : l4.length = l0.length) (q0 : 0 ≤ q) (q1 : q < l0.length) :
    ∀ (d : Nat) (s x : Int), 1 ≤ x → x + d = (l0.length : Int) + 1 → s = (q + x) % (l0.length : Int) → Ev (fun k => spec_l10Next.l0 k q (l0.length : Int) x l0 l1 l2 l3 l4 t u ra li) (scanM l0 l1 l3 l4 l0.length t d s)
  | 0, s, x, h0, h, hs => Ev.step (fun k => spec_l10Next.l0.eq_2 _ _ _ _ _ _ _ _ _ _ _ _ k) (ev_neg (by omega) (ev_now rfl))
  | d + 1, s, x, h0, h, hs => by
    have s0 : 0 ≤ s := by rw [hs]; exact Int.emod_nonneg _ (by omega)
    have s1 : s < l0.length := by rw [hs]; exact Int.emod_lt_of_pos _ (by omega)
    have es : Int.tmod (wrap64 (q + x)) (l0.length : Int) = s := by rw [w64 (n := q + x) (by omega) (by omega), Int.tmod_eq_emod_of_nonneg (by omega), hs]
    refine Ev.step (fun k => spec_l10Next.l0.eq_2 _ _ _ _ _ _ _ _ _ _ _ _ k) (ev_pos (by omega) (ev_neg (by omega) ?_))
    rw [es]
    refine Ev.bind (specHas_w l0 l1 l2 l3 l4 t u ra li s n1 n6 e1 e3 e4 s0 s1) ?_
    unfold scanM
    by_cases z : hasM l0 l1 l3 l4 s = true
    · simp only [if_pos z]; exact ev_now rfl
    · simp only [if_neg z]
      rw [w64 (n := x + 1) (by omega) (by omega)]
      refine specNext10_l0 l0 l1 l2 l3 l4 t u ra li q n1 n6 e1 e3 e4 q0 q1 d _ _ (by omega) (by omega) ?_
      rw [leftM_eq s0 s1 (by omega), hs, Int.emod_add_emod]
      congr 1; omega
theorem specNext10_ev (l0 l1 l2 : List Int) (l3 l4 : List Bool) (t u ra li q : Int) (n1 : 1 ≤ l0.length) (n6 : l0.length ≤ 6) (e1 : l1.length = l0.length) (e3 : l3.length = l0.length) (e4 : l4.length = l0.length) (q0 : 0 ≤ q) (q1 : q < l0.length) :
    Ev (fun k => spec_l10Next.f k l0 l1 l2 l3 l4 t u ra li q) (scanM l0 l1 l3 l4 l0.length t l0.length (leftM q l0.length)) := by
  unfold spec_l10Next.f
  refine specNext10_l0 l0 l1 l2 l3 l4 t u ra li q n1 n6 e1 e3 e4 q0 q1 l0.length _ 1 (by omega) (by omega) ?_
  exact leftM_eq q0 q1 (by omega)
def addM' (a b : List Int) : List Int := List.zipWith (fun p q => p + q) a b
def subM (a b : List Int) : List Int := List.zipWith (fun p q => p - q) a b
theorem antesM_len (l : List Int) (a : Int) : (antesM l a).length = l.length := by simp [antesM]
theorem antesM_in (l : List Int) (a : Int) (h : l.all (inR 1 100000) = true) (a0 : 0 ≤ a) (a1 : a ≤ 100000) : (antesM l a).all (inR 0 100000) = true := by
  rw [List.all_eq_true] at h ⊢
  intro x hx
  simp only [antesM, List.mem_map] at hx
  obtain ⟨y, hy, rfl⟩ := hx
  have := inR_iff.1 (h y hy)
  rw [inR_iff]; omega
theorem betsM_in (l : List Int) (b s g a m : Int) (h : tableB l b s g a m = true) : (betsM l b s g a).all (inR 0 100000) = true := by
  have bd := table_bounds h
  obtain ⟨n2, n6, b0, b1, g1, g2, s0, s1, a0, a1, m0, m1, hall⟩ := bd
  have r := blindsAt_range (n := l.length) (b := b) (by omega) (by omega) (by omega)
  have hst : ∀ j : Int, 0 ≤ j → j < l.length → 1 ≤ rd l j ∧ rd l j ≤ 100000 := fun j j0 j1 => inR_iff.1 (List.all_eq_true.1 hall _ (rd_mem j0 j1))
  have han : ∀ j : Int, 0 ≤ j → j < l.length → rd (antesM l a) j = min (rd l j) a := fun j j0 j1 => by
    obtain ⟨n, rfl⟩ := Int.eq_ofNat_of_zero_le j0
    have hn : n < l.length := by omega
    simp only [rd, antesM, Int.toNat_natCast, List.getD_eq_getElem?_getD, List.getElem?_map, List.getElem?_eq_getElem hn, Option.map_some, Option.getD_some]
  have h1 := hst _ r.1 r.2.1
  have h2 := hst _ r.2.2.1 r.2.2.2
  have k1 := han _ r.1 r.2.1
  have k2 := han _ r.2.2.1 r.2.2.2
  rw [List.all_eq_true]
  intro x hx
  unfold betsM at hx
  rw [k1, k2, w64 (by omega) (by omega), w64 (by omega) (by omega), mn_min, mn_min] at hx
  rw [inR_iff]
  rcases List.mem_or_eq_of_mem_set hx with hx | rfl
  · rcases List.mem_or_eq_of_mem_set hx with hx | rfl
    · have := List.eq_of_mem_replicate hx; omega
    · omega
  · omega
theorem all_wide {l : List Int} (h : l.all (inR 0 100000) = true) : l.all (inR 0 600000) = true := by
  rw [List.all_eq_true] at h ⊢
  intro x hx
  have := inR_iff.1 (h x hx)
  rw [inR_iff]; omega
def startM (l : List Int) (b s g a m : Int) : List Int × List Int × List Int × List Bool × List Bool × Int × Int × Int × Int :=
  (subM l (addM' (betsM l b s g a) (antesM l a)), betsM l b s g a, antesM l a, List.replicate l.length false, List.replicate l.length false,
    scanM (subM l (addM' (betsM l b s g a) (antesM l a))) (betsM l b s g a) (List.replicate l.length false) (List.replicate l.length false) l.length (firstM l.length b 0) l.length (firstM l.length b 0), g, 0, m)
def FirstRoundM (l : List Int) (b s g a m : Int) : List Int × List Int × List Int × List Bool × List Bool × Int × Int × Int × Int × Int :=
  if tableB l b s g a m = true then ((startM l b s g a m).1, (startM l b s g a m).2.1, (startM l b s g a m).2.2.1, (startM l b s g a m).2.2.2.1, (startM l b s g a m).2.2.2.2.1, (startM l b s g a m).2.2.2.2.2.1, (startM l b s g a m).2.2.2.2.2.2.1, (startM l b s g a m).2.2.2.2.2.2.2.1, (startM l b s g a m).2.2.2.2.2.2.2.2, 0)
  else ([], [], [], [], [], 0, 0, 0, 0, 1)
theorem FirstRoundM_len (l : List Int) (b s g a m : Int) : (FirstRoundM l b s g a m).1.length + (FirstRoundM l b s g a m).2.1.length + (FirstRoundM l b s g a m).2.2.1.length + (FirstRoundM l b s g a m).2.2.2.1.length + (FirstRoundM l b s g a m).2.2.2.2.1.length ≤ 1000 := by
  unfold FirstRoundM
  split
  · rename_i h
    have bd := table_bounds h
    simp [startM, subM, addM', betsM_len, antesM_len]; omega
  · simp
theorem subM_cons (x y z : Int) (l p q : List Int) : subM (x :: l) (addM' (y :: p) (z :: q)) = (x - (y + z)) :: subM l (addM' p q) := rfl
theorem firstM_range {n b : Int} (h0 : 0 ≤ b) (h1 : b < n) (h2 : n ≤ 1000) : 0 ≤ firstM n b 0 ∧ firstM n b 0 < n := by
  have r := blindsAt_range h0 h1 h2
  unfold firstM
  rw [if_pos rfl]
  exact leftM_range r.2.2.1 r.2.2.2 h2
theorem specStart_l0 (b s g a m : Int) (R : List Int × List Int × List Int × List Bool × List Bool × Int × Int × Int × Int) (L bets antes : List Int) (n : Int) (hn : n = L.length) (hL : L.length ≤ 6) (n0 : 1 ≤ L.length)
    : ∀ (s0 s1 s2 p0 p1 p2 acc : List Int), L = p0 ++ s0 → bets = p1 ++ s1 → antes = p2 ++ s2 → s1.length = s0.length → s2.length = s0.length → p1.length = p0.length → p2.length = p0.length → acc.length = p0.length → s0.all (inR 1 100000) = true → s1.all (inR 0 100000) = true → s2.all (inR 0 100000) = true →
    Ev (fun k => (spec_l09First.f L b s g a m 0).bind fun t207 => (if n = 0 then none else ((spec_l10Next.f k (acc ++ subM s0 (addM' s1 s2)) bets antes (List.replicate n.toNat false) (List.replicate n.toNat false) t207 g 0 m (Int.tmod (wrap64 ((wrap64 (t207 + n)) - 1)) n)).bind fun t208 => (some (acc ++ subM s0 (addM' s1 s2), bets, antes, List.replicate n.toNat false, List.replicate n.toNat false, t208, g, 0, m))))) R →
    Ev (fun k => spec_l10Start.l0 k antes bets n acc (p0.length : Int) L b s g a m) R
  | [], s1, s2, p0, p1, p2, acc, hp, hp1, hp2, e1, e2, q1, q2, q3, b0, b1, b2, he => by
    obtain rfl : s1 = [] := by simpa using e1
    obtain rfl : s2 = [] := by simpa using e2
    have hpl : L.length = p0.length := by rw [hp]; simp
    refine Ev.step (fun k => spec_l10Start.l0.eq_2 _ _ _ _ _ _ _ _ _ _ _ k) (ev_neg (by omega) (ev_pos (by omega) (ev_pos (by omega) ?_)))
    simpa [subM, addM'] using he
  | x :: s0, [], s2, p0, p1, p2, acc, hp, hp1, hp2, e1, e2, q1, q2, q3, b0, b1, b2, he => by simp at e1
  | x :: s0, y :: s1, [], p0, p1, p2, acc, hp, hp1, hp2, e1, e2, q1, q2, q3, b0, b1, b2, he => by simp at e2
  | x :: s0, y :: s1, z :: s2, p0, p1, p2, acc, hp, hp1, hp2, e1, e2, q1, q2, q3, b0, b1, b2, he => by
    simp only [List.all_cons, Bool.and_eq_true, inR_iff] at b0 b1 b2
    have hpl : L.length = p0.length + (s0.length + 1) := by rw [hp]; simp
    have l1 : bets.length = p1.length + (s1.length + 1) := by rw [hp1]; simp
    have l2 : antes.length = p2.length + (s2.length + 1) := by rw [hp2]; simp
    have ex : rd L (p0.length : Int) = x := by rw [hp]; exact rd_at _ _ _
    have ey : rd bets (p0.length : Int) = y := by rw [hp1, ← q1]; exact rd_at _ _ _
    have ez : rd antes (p0.length : Int) = z := by rw [hp2, ← q2]; exact rd_at _ _ _
    have e1' : s1.length = s0.length := by simpa using e1
    have e2' : s2.length = s0.length := by simpa using e2
    refine Ev.step (fun k => spec_l10Start.l0.eq_2 _ _ _ _ _ _ _ _ _ _ _ k) (ev_pos (by omega) (ev_pos (by omega) (ev_pos (by omega) (ev_pos (by omega) (ev_pos (by omega) (ev_pos (by omega) ?_))))))
    rw [ex, ey, ez, w64 (n := x - z) (by omega) (by omega), w64 (n := x - z - y) (by omega) (by omega), w64 (n := (p0.length : Int) + 1) (by omega) (by omega), len_snoc p0 x]
    refine specStart_l0 b s g a m R L bets antes n hn hL n0 s0 s1 s2 (p0 ++ [x]) (p1 ++ [y]) (p2 ++ [z]) (acc ++ [x - z - y]) (by rw [hp]; simp) (by rw [hp1]; simp) (by rw [hp2]; simp) e1' e2' (by simp [q1]) (by simp [q2]) (by simp [q3]) b0.2 b1.2 b2.2 ?_
    have e : acc ++ [x - z - y] ++ subM s0 (addM' s1 s2) = acc ++ subM (x :: s0) (addM' (y :: s1) (z :: s2)) := by
      rw [subM_cons]
      have : x - z - y = x - (y + z) := by omega
      rw [this]; simp
    rw [e]; exact he
theorem specStart_ev (l : List Int) (b s g a m : Int) (hv : tableB l b s g a m = true) : Ev (fun k => spec_l10Start.f k l b s g a m) (startM l b s g a m) := by
  have bd := table_bounds hv
  obtain ⟨n2, n6, b0, b1, g1, g2, s0, s1, a0, a1, m0, m1, hall⟩ := bd
  unfold spec_l10Start.f
  refine Ev.bind (specAntes_ev l b s g a m (by omega)) (Ev.bind (specBets_ev l b s g a m (by omega) (by omega) (by omega)) ?_)
  have fr := firstM_range (n := l.length) (b := b) (by omega) (by omega) (by omega)
  refine specStart_l0 b s g a m _ l (betsM l b s g a) (antesM l a) (l.length : Int) rfl (by omega) (by omega) l (betsM l b s g a) (antesM l a) [] [] [] [] rfl rfl rfl (betsM_len _ _ _ _ _) (antesM_len _ _) rfl rfl rfl hall (betsM_in l b s g a m hv) (antesM_in l a hall (by omega) (by omega)) ?_
  refine ev_bindc (specFirst_eq _ _ _ _ _ _ _ (by omega)) (ev_neg (by omega) ?_)
  have ls : (subM l (addM' (betsM l b s g a) (antesM l a))).length = l.length := by simp [subM, addM', betsM_len, antesM_len]
  have eq : Int.tmod (wrap64 (wrap64 (firstM l.length b 0 + (l.length : Int)) - 1)) (l.length : Int) = (firstM l.length b 0 + (l.length : Int) - 1) % (l.length : Int) := by
    rw [w64 (n := firstM l.length b 0 + (l.length : Int)) (by omega) (by omega), w64 (by omega) (by omega), Int.tmod_eq_emod_of_nonneg (by omega)]
  have q0 : 0 ≤ (firstM l.length b 0 + (l.length : Int) - 1) % (l.length : Int) := Int.emod_nonneg _ (by omega)
  have q1 : (firstM l.length b 0 + (l.length : Int) - 1) % (l.length : Int) < l.length := Int.emod_lt_of_pos _ (by omega)
  have ef : leftM ((firstM l.length b 0 + (l.length : Int) - 1) % (l.length : Int)) l.length = firstM l.length b 0 := by
    rw [leftM_eq q0 q1 (by omega), Int.emod_add_emod]
    have : firstM l.length b 0 + (l.length : Int) - 1 + 1 = firstM l.length b 0 + (l.length : Int) := by omega
    rw [this, Int.add_emod_right, Int.emod_eq_of_lt fr.1 fr.2]
  have k := specNext10_ev (subM l (addM' (betsM l b s g a) (antesM l a))) (betsM l b s g a) (antesM l a) (List.replicate l.length false) (List.replicate l.length false) (firstM l.length b 0) g 0 m ((firstM l.length b 0 + (l.length : Int) - 1) % (l.length : Int))
    (by omega) (by omega) (by rw [ls, betsM_len]) (by rw [ls]; simp) (by rw [ls]; simp) q0 (by rw [ls]; exact q1)
  rw [ls, ef] at k
  rw [eq]
  refine Ev.bind (a := scanM (subM l (addM' (betsM l b s g a) (antesM l a))) (betsM l b s g a) (List.replicate l.length false) (List.replicate l.length false) l.length (firstM l.length b 0) l.length (firstM l.length b 0)) ?_ (ev_now ?_)
  · simpa using k
  · simp [startM]
theorem specFirstRound_ev (l : List Int) (b s g a m : Int) (hl : l.length ≤ 1048576) : Ev (fun k => spec_FirstRound.f k l b s g a m) (FirstRoundM l b s g a m) := by
  unfold spec_FirstRound.f FirstRoundM
  refine Ev.bind (specTable_ev l b s g a m (by omega)) ?_
  by_cases h : tableB l b s g a m = true
  · simp only [if_pos h]; exact Ev.bind (specStart_ev l b s g a m h) (ev_now rfl)
  · simp only [if_neg h]; exact ev_now rfl
theorem implFirstRound_l0 (b s g a m : Int) (T : List Int) (R : List Int × List Int × List Int × List Bool × List Bool × Int × Int × Int × Int × Int) (bets antes : List Int) (l3 l4 : List Bool) (t u ra li n : Int)
    : ∀ (s0 s1 s2 p0 p1 p2 : List Int), bets = p1 ++ s1 → antes = p2 ++ s2 → s1.length = s0.length → s2.length = s0.length → p1.length = p0.length → p2.length = p0.length → p0.length + s0.length ≤ 1000 → n = ((p0 ++ s0).length : Int) → s0.all (inR 1 100000) = true → s1.all (inR 0 100000) = true → s2.all (inR 0 100000) = true →
    Ev (fun k => (impl_firstSeat.f T b s g a m 0).bind fun t327 => ((impl_turnFrom.f k (p0 ++ subM s0 (addM' s1 s2)) bets antes l3 l4 t u ra li t327 t327).bind fun t328 => (some (p0 ++ subM s0 (addM' s1 s2), bets, antes, l3, l4, t328, u, ra, li, 0)))) R →
    Ev (fun k => impl_FirstRound.l0 k n (p0.length : Int) T b s g a m (p0 ++ s0) bets antes l3 l4 t u ra li) R
  | [], s1, s2, p0, p1, p2, hp1, hp2, e1, e2, q1, q2, hl, hn, b0, b1, b2, he => by
    obtain rfl : s1 = [] := by simpa using e1
    obtain rfl : s2 = [] := by simpa using e2
    have hn' : n = (p0.length : Int) := by simpa using hn
    refine Ev.step (fun k => impl_FirstRound.l0.eq_2 _ _ _ _ _ _ _ _ _ _ _ _ _ _ _ _ _ k) (ev_neg (by omega) ?_)
    simpa [subM, addM'] using he
  | x :: s0, [], s2, p0, p1, p2, hp1, hp2, e1, e2, q1, q2, hl, hn, b0, b1, b2, he => by simp at e1
  | x :: s0, y :: s1, [], p0, p1, p2, hp1, hp2, e1, e2, q1, q2, hl, hn, b0, b1, b2, he => by simp at e2
  | x :: s0, y :: s1, z :: s2, p0, p1, p2, hp1, hp2, e1, e2, q1, q2, hl, hn, b0, b1, b2, he => by
    simp only [List.all_cons, Bool.and_eq_true, inR_iff] at b0 b1 b2
    have hl' : p0.length + (s0.length + 1) ≤ 1000 := hl
    have hn' : n = (p0.length : Int) + ((s0.length : Int) + 1) := by simpa using hn
    have l1 : bets.length = p1.length + (s1.length + 1) := by rw [hp1]; simp
    have l2 : antes.length = p2.length + (s2.length + 1) := by rw [hp2]; simp
    have ey : rd bets (p0.length : Int) = y := by rw [hp1, ← q1]; exact rd_at _ _ _
    have ez : rd antes (p0.length : Int) = z := by rw [hp2, ← q2]; exact rd_at _ _ _
    have e1' : s1.length = s0.length := by simpa using e1
    have e2' : s2.length = s0.length := by simpa using e2
    refine Ev.step (fun k => impl_FirstRound.l0.eq_2 _ _ _ _ _ _ _ _ _ _ _ _ _ _ _ _ _ k) (ev_pos (by omega) (ev_pos (by omega) (ev_pos (by simp; omega) (ev_pos (by omega) (ev_pos (by omega) ?_)))))
    rw [rd_at, ey, ez, w64 (n := y + z) (by omega) (by omega), w64 (n := x - (y + z)) (by omega) (by omega), w64 (n := (p0.length : Int) + 1) (by omega) (by omega), set_at, len_snoc p0 (x - (y + z))]
    refine implFirstRound_l0 b s g a m T R bets antes l3 l4 t u ra li n s0 s1 s2 (p0 ++ [x - (y + z)]) (p1 ++ [y]) (p2 ++ [z]) (by rw [hp1]; simp) (by rw [hp2]; simp) e1' e2' (by simp [q1]) (by simp [q2]) (by simp; omega) (by simp; omega) b0.2 b1.2 b2.2 ?_
    have e : p0 ++ [x - (y + z)] ++ subM s0 (addM' s1 s2) = p0 ++ subM (x :: s0) (addM' (y :: s1) (z :: s2)) := by rw [subM_cons]; simp
    rw [e]; exact he
theorem implFirstRound_ev (l : List Int) (b s g a m : Int) (hl : l.length ≤ 1048576) : Ev (fun k => impl_FirstRound.f k l b s g a m) (FirstRoundM l b s g a m) := by
  unfold impl_FirstRound.f FirstRoundM
  refine Ev.bind (implTable_ev l b s g a m (by omega)) ?_
  by_cases h : tableB l b s g a m = true
  rotate_left
  · simp only [if_neg h]; exact ev_now rfl
  simp only [if_pos h]
  have bd := table_bounds h
  obtain ⟨n2, n6, b0, b1, g1, g2, s0, s1, a0, a1, m0, m1, hall⟩ := bd
  have fr := firstM_range (n := l.length) (b := b) (by omega) (by omega) (by omega)
  refine ev_bindc (clone_eq l (by omega)) (Ev.bind (implBets_ev l b s g a m (by omega) (by omega) (by omega)) (Ev.bind (implAntes_ev l b s g a m (by omega)) (ev_pos (by omega) (ev_pos (by omega) ?_))))
  have ls : (subM l (addM' (betsM l b s g a) (antesM l a))).length = l.length := by simp [subM, addM', betsM_len, antesM_len]
  refine implFirstRound_l0 b s g a m l _ (betsM l b s g a) (antesM l a) _ _ 0 g 0 m (l.length : Int) l (betsM l b s g a) (antesM l a) [] [] [] rfl rfl (betsM_len _ _ _ _ _) (antesM_len _ _) rfl rfl (by simp; omega) rfl hall (betsM_in l b s g a m h) (antesM_in l a hall (by omega) (by omega)) ?_
  refine ev_bindc (implFirst_eq _ _ _ _ _ _ _ (by omega)) ?_
  have k := implTurn_ev (subM l (addM' (betsM l b s g a) (antesM l a))) (betsM l b s g a) (antesM l a) (List.replicate l.length false) (List.replicate l.length false) 0 g 0 m (firstM l.length b 0) (firstM l.length b 0)
    (by omega) (by omega) (by rw [ls, betsM_len]) (by rw [ls]; simp) (by rw [ls]; simp) (all_wide (betsM_in l b s g a m h)) fr.1 (by rw [ls]; exact fr.2)
  rw [ls] at k
  refine Ev.bind (a := scanM (subM l (addM' (betsM l b s g a) (antesM l a))) (betsM l b s g a) (List.replicate l.length false) (List.replicate l.length false) l.length (firstM l.length b 0) l.length (firstM l.length b 0)) ?_ (ev_now ?_)
  · simpa using k
  · simp [startM]
end LFnExactFirstRound
open LFnExactFirstRound
theorem FnExactFirstRound (l0_0 : List Int) (a0_1 a0_2 a0_3 a0_4 a0_5 : Int) (hm0_0 : l0_0.length ≤ maxLen) (w0_0 : ∀ x ∈ l0_0, (Lit.int .i64 x).wf = true) (w0_1 : (Lit.int .i64 a0_1).wf = true) (w0_2 : (Lit.int .i64 a0_2).wf = true) (w0_3 : (Lit.int .i64 a0_3).wf = true) (w0_4 : (Lit.int .i64 a0_4).wf = true) (w0_5 : (Lit.int .i64 a0_5).wf = true) :
    ∃ k, laws_FnExactFirstRound.f k l0_0 a0_1 a0_2 a0_3 a0_4 a0_5 = some true := by
  refine Ev.rounds (g := fun k => laws_FnExactFirstRound.f k l0_0 a0_1 a0_2 a0_3 a0_4 a0_5) ?_
  unfold laws_FnExactFirstRound.f
  refine ev_bindc (szTable_eq l0_0 a0_1 a0_2 a0_3 a0_4 a0_5 1048576 (by decide) (by decide) hm0_0) ?_
  by_cases hs : (1048576 : Int) - l0_0.length < 0
  · rw [if_pos hs]; exact ev_pos (by decide) (ev_now rfl)
  rw [if_neg hs]
  refine ev_neg hs ?_
  have hl : l0_0.length ≤ 1048576 := by omega
  have hq := FirstRoundM_len l0_0 a0_1 a0_2 a0_3 a0_4 a0_5
  refine Ev.bind (toTable_ev l0_0 a0_1 a0_2 a0_3 a0_4 a0_5 (by omega)) (Ev.bind (specFirstRound_ev l0_0 a0_1 a0_2 a0_3 a0_4 a0_5 hl) (Ev.bind (toTable_ev l0_0 a0_1 a0_2 a0_3 a0_4 a0_5 (by omega)) (Ev.bind (implFirstRound_ev l0_0 a0_1 a0_2 a0_3 a0_4 a0_5 hl) ?_)))
  have H : ∃ p, p = FirstRoundM l0_0 a0_1 a0_2 a0_3 a0_4 a0_5 := ⟨_, rfl⟩
  obtain ⟨⟨r0, r1, r2, r3, r4, t, u, ra, li, c⟩, hp⟩ := H
  have HI := implFirstRound_ev l0_0 a0_1 a0_2 a0_3 a0_4 a0_5 hl
  rw [← hp] at hq HI ⊢
  have hq' : r0.length + r1.length + r2.length + r3.length + r4.length ≤ 1000 := hq
  refine Ev.bind (eqBetting_ev r0 r1 r2 r3 r4 t u ra li (by omega)) (ev_pos rfl (Ev.step (fun k => laws_FnExactFirstRound.j0.eq_2 _ _ _ _ _ _ _ _ _ _ _ _ _ _ _ _ _ _ _ _ _ _ _ _ _ _ _ _ _ _ _ _ _ k) (ev_neg (by simp) ?_)))
  refine Ev.bind (toTable_ev l0_0 a0_1 a0_2 a0_3 a0_4 a0_5 (by omega)) (Ev.bind (eqTable_ev l0_0 a0_1 a0_2 a0_3 a0_4 a0_5 (by omega)) (ev_pos rfl ?_))
  refine Ev.bind (markTable_ev l0_0 a0_1 a0_2 a0_3 a0_4 a0_5 1 (by omega) (by omega) (by omega)) (ev_neg (by simp; omega) ?_)
  refine Ev.bind (eqBetting_ev r0 r1 r2 r3 r4 t u ra li (by omega)) (ev_pos rfl (Ev.step (fun k => laws_FnExactFirstRound.j1.eq_2 _ _ _ _ _ _ _ _ _ _ _ _ _ _ _ _ _ _ _ _ _ _ _ _ _ _ k) (ev_neg (by simp) ?_)))
  refine Ev.bind (mark5_ev r0 r1 r2 r3 r4 t u ra li (by omega)) (Ev.bind (held5_ev r0 r1 r2 r3 r4 t u ra li (by omega)) (ev_neg (by have := mk5_pos r0 r1 r2 r3 r4; omega) (ev_pos rfl ?_)))
  refine Ev.bind (toTable_ev l0_0 a0_1 a0_2 a0_3 a0_4 a0_5 (by omega)) (Ev.bind HI ?_)
  refine Ev.bind (eqBetting_ev r0 r1 r2 r3 r4 t u ra li (by omega)) (ev_pos rfl (Ev.step (fun k => laws_FnExactFirstRound.j2.eq_2 _ _ _ _ _ _ _ _ _ _ _ k) (ev_neg (by simp) ?_)))
  exact Ev.bind (held5_ev r0 r1 r2 r3 r4 t u ra li (by omega)) (ev_neg (by have := mk5_pos r0 r1 r2 r3 r4; omega) (ev_pos rfl (ev_now rfl)))
end Go.Proofs.Ytmcobmphmmgdmaa.Pure
