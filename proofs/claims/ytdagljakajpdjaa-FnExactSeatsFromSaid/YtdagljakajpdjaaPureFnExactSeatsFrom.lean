/- For every table and number the program's SeatsFrom returns what the reference's returns, leaves its argument alone, and its result is memory of its own. No conditions. -/
import Derived.Test.YtdagljakajpdjaaQFnExactSeatsFromx4
import Derived.Test.YtdagljakajpdjaaEv
namespace Go.Proofs.Ytdagljakajpdjaa.Pure
open Go.RowKit Go.Proofs.Ytdagljakajpdjaa.QFnExactSeatsFrom Go.Proofs.YtdagljakajpdjaaW.PrintWords Go.Proofs.YtdagljakajpdjaaW.PrintLast Go.Proofs.YtdagljakajpdjaaW.PrintMore Go.Proofs.Ytdagljakajpdjaa.EvBase
set_option linter.unusedVariables false
set_option linter.unusedSimpArgs false
namespace LFnExactSeatsFrom
theorem l01In_eq (a lo hi : Int) : spec_l01In.f a lo hi = some (inR lo hi a) := by
  unfold spec_l01In.f inR
  by_cases h : a ≥ lo
  · rw [if_pos h]; simp [h]
  · rw [if_neg h]; simp; omega
theorem within_eq (a lo hi : Int) : impl_within.f a lo hi = some (inR lo hi a) := by
  unfold impl_within.f inR
  by_cases h : a ≥ lo
  · rw [if_pos h]; simp [h]
  · rw [if_neg h]; simp; omega
theorem toInt64S_l0 : ∀ (s pre z : List Int), z.length = s.length → pre.length + s.length ≤ 1000000000000 →
    Ev (fun k => laws_toInt64S.l0 k (pre ++ s) (pre ++ z) (pre.length : Int)) (pre ++ s)
  | [], pre, z, hz, hl => by
    obtain rfl : z = [] := by simpa using hz
    refine Ev.step (fun k => laws_toInt64S.l0.eq_2 _ _ _ k) ?_
    exact ev_neg (by simp) (ev_now rfl)
  | x :: s, pre, z, hz, hl => by
    obtain ⟨y, z, rfl⟩ : ∃ y z', z = y :: z' := by cases z with
      | nil => simp at hz
      | cons y z => exact ⟨y, z, rfl⟩
    have hl' : pre.length + (s.length + 1) ≤ 1000000000000 := hl
    refine Ev.step (fun k => laws_toInt64S.l0.eq_2 _ _ _ k) ?_
    refine ev_pos (by simp; omega) (ev_pos (by omega) (ev_pos (by simp; omega) ?_))
    rw [rd_at, set_at, w64 (by omega) (by omega), len_snoc pre x, app_snoc pre s x]
    have hlen : ((pre ++ [x]).length : Int) = (pre ++ [x]).length := rfl
    exact toInt64S_l0 s (pre ++ [x]) z (by simpa using hz) (by simp; omega)
theorem toInt64S_ev (l : List Int) (hl : l.length ≤ 1000000000000) : Ev (fun k => laws_toInt64S.f k l) l := by
  unfold laws_toInt64S.f
  refine ev_pos (by omega) (ev_pos (by simp; omega) ?_)
  have h := toInt64S_l0 l [] (List.replicate l.length 0) (by simp) (by simpa using hl)
  simpa using h
theorem eqInt64S_l0 : ∀ (s pre : List Int), pre.length + s.length ≤ 1000000000000 →
    Ev (fun k => laws_eqInt64S.l0 k (pre ++ s) (pre ++ s) (pre.length : Int)) true
  | [], pre, hl => by
    refine Ev.step (fun k => laws_eqInt64S.l0.eq_2 _ _ _ k) ?_
    exact ev_neg (by simp) (ev_now rfl)
  | x :: s, pre, hl => by
    have hl' : pre.length + (s.length + 1) ≤ 1000000000000 := hl
    refine Ev.step (fun k => laws_eqInt64S.l0.eq_2 _ _ _ k) ?_
    refine ev_pos (by simp; omega) (ev_pos (by omega) (ev_pos (by simp; omega) (ev_pos rfl ?_)))
    rw [w64 (by omega) (by omega), len_snoc pre x, app_snoc pre s x]
    exact eqInt64S_l0 s (pre ++ [x]) (by simp; omega)
theorem eqInt64S_ev {a b : List Int} (e : a = b) (hl : a.length ≤ 1000000000000) : Ev (fun k => laws_eqInt64S.f k a b) true := by
  subst e
  unfold laws_eqInt64S.f
  refine ev_pos rfl ?_
  simpa using eqInt64S_l0 a [] (by simpa using hl)
theorem markInt64S_l0 : ∀ (s pre : List Int) (m : Int), pre.length + s.length ≤ 1000000000000 → 0 ≤ m → m + s.length ≤ 1000000000000000 →
    Ev (fun k => laws_markInt64S.l0 k (pre ++ s) m (pre.length : Int)) (m + s.length, pre ++ marks m s)
  | [], pre, m, hl, h0, hm => by
    refine Ev.step (fun k => laws_markInt64S.l0.eq_2 _ _ _ k) ?_
    exact ev_neg (by simp) (ev_now (by simp [marks]))
  | x :: s, pre, m, hl, h0, hm => by
    have hl' : pre.length + (s.length + 1) ≤ 1000000000000 := hl
    have hm' : m + ((s.length : Int) + 1) ≤ 1000000000000000 := by simpa using hm
    refine Ev.step (fun k => laws_markInt64S.l0.eq_2 _ _ _ k) ?_
    refine ev_pos (by simp; omega) (ev_pos (by omega) ?_)
    rw [set_at, w64 (by omega) (by omega), w64 (by omega) (by omega), len_snoc pre m]
    have h := markInt64S_l0 s (pre ++ [m]) (m + 1) (by simp; omega) (by omega) (by omega)
    have e : (m + ((x :: s).length : Int), pre ++ marks m (x :: s)) = (m + 1 + (s.length : Int), pre ++ [m] ++ marks (m + 1) s) := by
      simp [marks]; omega
    rw [e]; exact h
theorem markInt64S_ev (l : List Int) (m : Int) (hl : l.length ≤ 1000000000000) (h0 : 0 ≤ m) (hm : m + l.length ≤ 1000000000000000) :
    Ev (fun k => laws_markInt64S.f k l m) (m + l.length, marks m l) := by
  unfold laws_markInt64S.f
  simpa using markInt64S_l0 l [] m (by simpa using hl) h0 hm
theorem heldInt64S_l0 : ∀ (s pre : List Int) (m : Int), pre.length + s.length ≤ 1000000000000 → 0 ≤ m → m + s.length ≤ 1000000000000000 →
    Ev (fun k => laws_heldInt64S.l0 k (pre ++ marks m s) m (pre.length : Int)) (m + s.length)
  | [], pre, m, hl, h0, hm => by
    refine Ev.step (fun k => laws_heldInt64S.l0.eq_2 _ _ _ k) ?_
    exact ev_neg (by simp [marks]) (ev_now (by simp))
  | x :: s, pre, m, hl, h0, hm => by
    have hl' : pre.length + (s.length + 1) ≤ 1000000000000 := hl
    have hm' : m + ((s.length : Int) + 1) ≤ 1000000000000000 := by simpa using hm
    refine Ev.step (fun k => laws_heldInt64S.l0.eq_2 _ _ _ k) ?_
    show Ev (fun k => if (pre.length : Int) < (((pre ++ m :: marks (m + 1) s).length : Nat) : Int) then _ else _) _
    refine ev_pos (by simp; omega) (ev_pos (by omega) (ev_pos (rd_at _ _ _) ?_))
    show Ev (fun k => laws_heldInt64S.l0 k (pre ++ m :: marks (m + 1) s) _ _) _
    rw [w64 (by omega) (by omega), w64 (by omega) (by omega), len_snoc pre m, app_snoc pre _ m]
    have h := heldInt64S_l0 s (pre ++ [m]) (m + 1) (by simp; omega) (by omega) (by omega)
    have e : m + ((x :: s).length : Int) = m + 1 + (s.length : Int) := by simp; omega
    rw [e]; exact h
theorem heldInt64S_ev (l : List Int) (m : Int) (hl : l.length ≤ 1000000000000) (h0 : 0 ≤ m) (hm : m + l.length ≤ 1000000000000000) :
    Ev (fun k => laws_heldInt64S.f k (marks m l) m) (m + l.length) := by
  unfold laws_heldInt64S.f
  simpa using heldInt64S_l0 l [] m (by simpa using hl) h0 hm
theorem allWithin_l0 (lo hi : Int) : ∀ (s pre : List Int), pre.length + s.length ≤ 1000000000000 →
    Ev (fun k => impl_allWithin.l0 k lo hi (pre ++ s) ((pre ++ s).length : Int) (pre.length : Int)) (s.all (inR lo hi))
  | [], pre, hl => by
    refine Ev.step (fun k => impl_allWithin.l0.eq_2 _ _ _ _ _ k) ?_
    exact ev_neg (by simp) (ev_now rfl)
  | x :: s, pre, hl => by
    have hl' : pre.length + (s.length + 1) ≤ 1000000000000 := hl
    refine Ev.step (fun k => impl_allWithin.l0.eq_2 _ _ _ _ _ k) ?_
    refine ev_pos (by simp; omega) (ev_pos (by omega) (ev_pos (by simp; omega) ?_))
    rw [rd_at]
    refine ev_bindc (within_eq _ _ _) ?_
    by_cases hin : inR lo hi x = true
    · refine ev_pos hin ?_
      rw [w64 (by omega) (by omega), len_snoc pre x, app_snoc pre s x]
      have h := allWithin_l0 lo hi s (pre ++ [x]) (by simp; omega)
      simpa only [List.all_cons, hin, Bool.true_and] using h
    · refine ev_neg hin (ev_now ?_)
      simp only [Bool.not_eq_true] at hin
      simp [hin]
theorem allWithin_ev (l : List Int) (lo hi : Int) (hl : l.length ≤ 1000000000000) : Ev (fun k => impl_allWithin.f k l lo hi) (l.all (inR lo hi)) := by
  unfold impl_allWithin.f
  simpa using allWithin_l0 lo hi l [] (by simpa using hl)
theorem szInt64S_eq (l : List Int) (a : Int) (h0 : 0 ≤ a) (h1 : a ≤ 1048576) (hl : l.length ≤ maxLen) : laws_szInt64S.f l a = some (if a - l.length < 0 then -1 else a - l.length) := by
  unfold maxLen at hl
  unfold laws_szInt64S.f
  rw [w64 (by omega) (by omega)]
  split <;> rfl
theorem szTable_eq (l : List Int) (a1 a2 a3 a4 a5 a : Int) (h0 : 0 ≤ a) (h1 : a ≤ 1048576) (hl : l.length ≤ maxLen) : laws_szTable.f l a1 a2 a3 a4 a5 a = some (if a - l.length < 0 then -1 else a - l.length) := by
  unfold laws_szTable.f
  rw [szInt64S_eq l a h0 h1 hl]
  simp only [Option.bind_some]
  by_cases h : a - l.length < 0
  · simp [h]
  · simp only [if_neg h]
theorem toTable_ev (l : List Int) (a1 a2 a3 a4 a5 : Int) (hl : l.length ≤ 1000000000000) : Ev (fun k => laws_toTable.f k l a1 a2 a3 a4 a5) (l, a1, a2, a3, a4, a5) := by
  unfold laws_toTable.f
  exact Ev.bind (toInt64S_ev l hl) (ev_now rfl)
theorem eqTable_ev (l : List Int) (a1 a2 a3 a4 a5 : Int) (hl : l.length ≤ 1000000000000) : Ev (fun k => laws_eqTable.f k l a1 a2 a3 a4 a5 l a1 a2 a3 a4 a5) true := by
  unfold laws_eqTable.f
  exact Ev.bind (eqInt64S_ev rfl hl) (ev_pos rfl (ev_pos rfl (ev_pos rfl (ev_pos rfl (ev_pos rfl (ev_pos rfl (ev_now rfl)))))))
theorem markTable_ev (l : List Int) (a1 a2 a3 a4 a5 m : Int) (hl : l.length ≤ 1000000000000) (h0 : 0 ≤ m) (hm : m + l.length ≤ 1000000000000000) : Ev (fun k => laws_markTable.f k l a1 a2 a3 a4 a5 m) (m + l.length, marks m l) := by
  unfold laws_markTable.f
  exact Ev.bind (markInt64S_ev l m hl h0 hm) (ev_now rfl)
theorem specTable_l0 (b s g a m : Int) : ∀ (t pre : List Int), pre.length + t.length ≤ 1000000000000 →
    Ev (fun k => spec_IsTable.l0 k (pre.length : Int) (pre ++ t) b s g a m) (t.all (inR 1 100000))
  | [], pre, hl => by
    refine Ev.step (fun k => spec_IsTable.l0.eq_2 _ _ _ _ _ _ _ k) ?_
    exact ev_neg (by simp) (ev_now rfl)
  | x :: t, pre, hl => by
    have hl' : pre.length + (t.length + 1) ≤ 1000000000000 := hl
    refine Ev.step (fun k => spec_IsTable.l0.eq_2 _ _ _ _ _ _ _ k) ?_
    refine ev_pos (by simp; omega) (ev_pos (by omega) ?_)
    rw [rd_at]
    refine ev_bindc (l01In_eq _ _ _) ?_
    by_cases hin : inR 1 100000 x = true
    · refine ev_pos hin ?_
      rw [w64 (by omega) (by omega), len_snoc pre x, app_snoc pre t x]
      have h := specTable_l0 b s g a m t (pre ++ [x]) (by simp; omega)
      simpa only [List.all_cons, hin, Bool.true_and] using h
    · refine ev_neg hin (ev_now ?_)
      simp only [Bool.not_eq_true] at hin
      simp [hin]
theorem specTable_ev (l : List Int) (b s g a m : Int) (hl : l.length ≤ 1000000000000) : Ev (fun k => spec_IsTable.f k l b s g a m) (tableB l b s g a m) := by
  unfold spec_IsTable.f tableB
  refine ev_bindc (l01In_eq _ _ _) ?_
  by_cases h1 : inR 2 6 (l.length : Int) = true
  rotate_left
  · exact ev_neg h1 (Ev.step (fun k => spec_IsTable.j0.eq_2 _ _ _ _ _ _ _ k) (ev_pos rfl (ev_now (by simp [h1]))))
  rw [w64 (by omega) (by omega)]
  refine ev_pos h1 (ev_bindc (l01In_eq _ _ _) ?_)
  by_cases h2 : inR 0 ((l.length : Int) - 1) b = true
  rotate_left
  · exact ev_neg h2 (Ev.step (fun k => spec_IsTable.j0.eq_2 _ _ _ _ _ _ _ k) (ev_pos rfl (ev_now (by simp [h2]))))
  refine ev_pos h2 (ev_bindc (l01In_eq _ _ _) ?_)
  by_cases h3 : inR 1 100000 g = true
  rotate_left
  · exact ev_neg h3 (Ev.step (fun k => spec_IsTable.j0.eq_2 _ _ _ _ _ _ _ k) (ev_pos rfl (ev_now (by simp [h3]))))
  refine ev_pos h3 (ev_bindc (l01In_eq _ _ _) ?_)
  by_cases h4 : inR 0 g s = true
  rotate_left
  · exact ev_neg h4 (Ev.step (fun k => spec_IsTable.j0.eq_2 _ _ _ _ _ _ _ k) (ev_pos rfl (ev_now (by simp [h4]))))
  refine ev_pos h4 (ev_bindc (l01In_eq _ _ _) ?_)
  by_cases h5 : inR 0 100000 a = true
  rotate_left
  · exact ev_neg h5 (Ev.step (fun k => spec_IsTable.j0.eq_2 _ _ _ _ _ _ _ k) (ev_pos rfl (ev_now (by simp [h5]))))
  refine ev_pos h5 (ev_bindc (l01In_eq _ _ _) (Ev.step (fun k => spec_IsTable.j0.eq_2 _ _ _ _ _ _ _ k) ?_))
  by_cases h6 : inR 0 2 m = true
  rotate_left
  · exact ev_pos (by simpa using h6) (ev_now (by simp [h6]))
  refine ev_neg (by simp [h6]) ?_
  simp only [h1, h2, h3, h4, h5, h6, Bool.true_and]
  exact specTable_l0 b s g a m l [] (by simpa using hl)
theorem implTable_ev (l : List Int) (b s g a m : Int) (hl : l.length ≤ 1000000000000) : Ev (fun k => impl_IsTable.f k l b s g a m) (tableB l b s g a m) := by
  unfold impl_IsTable.f tableB
  refine ev_bindc (within_eq _ _ _) ?_
  by_cases h1 : inR 2 6 (l.length : Int) = true
  rotate_left
  · exact ev_neg h1 (ev_now (by simp [h1]))
  rw [w64 (by omega) (by omega)]
  refine ev_pos h1 (Ev.bind (allWithin_ev l 1 100000 hl) ?_)
  by_cases h7 : l.all (inR 1 100000) = true
  rotate_left
  · simp only [Bool.not_eq_true] at h7
    exact ev_neg (by simp [h7]) (ev_now (by simp only [h7, Bool.and_false]))
  refine ev_pos h7 (ev_bindc (within_eq _ _ _) ?_)
  by_cases h2 : inR 0 ((l.length : Int) - 1) b = true
  rotate_left
  · exact ev_neg h2 (ev_now (by simp [h2]))
  refine ev_pos h2 (ev_bindc (within_eq _ _ _) ?_)
  by_cases h3 : inR 1 100000 g = true
  rotate_left
  · exact ev_neg h3 (ev_now (by simp [h3]))
  refine ev_pos h3 (ev_bindc (within_eq _ _ _) ?_)
  by_cases h4 : inR 0 g s = true
  rotate_left
  · exact ev_neg h4 (ev_now (by simp [h4]))
  refine ev_pos h4 (ev_bindc (within_eq _ _ _) ?_)
  by_cases h5 : inR 0 100000 a = true
  rotate_left
  · exact ev_neg h5 (ev_now (by simp [h5]))
  refine ev_pos h5 (ev_bindc (within_eq _ _ _) (ev_now ?_))
  simp only [h1, h2, h3, h4, h5, h7, Bool.true_and, Bool.and_true]
theorem specFrom_l0 (n : Int) (seat : Int) (hn : n ≠ 0) (hb : n ≤ 100000) : ∀ (d : Nat) (i : Int) (acc : List Int), 0 ≤ i → n = i + d → acc.length + d ≤ 1000000 →
    Ev (fun k => spec_l09From.l0 k n seat acc i) (acc ++ fromM n seat d i)
  | 0, i, acc, h0, h1, h2 => Ev.step (fun k => spec_l09From.l0.eq_2 _ _ _ _ k) (ev_neg (by omega) (ev_now (by simp [fromM])))
  | d + 1, i, acc, h0, h1, h2 => by
    refine Ev.step (fun k => spec_l09From.l0.eq_2 _ _ _ _ k) (ev_pos (by omega) (ev_neg hn (ev_pos (by omega) ?_)))
    rw [w64 (n := i + 1) (by omega) (by omega)]
    have h := specFrom_l0 n seat hn hb d (i + 1) (acc ++ [Int.tmod (wrap64 (seat + i)) n]) (by omega) (by omega) (by simp; omega)
    simpa [fromM] using h
def SeatsFromM (l : List Int) (b s g a m a1 : Int) : List Int × Int := if tableB l b s g a m then (if inR 0 ((l.length : Int) - 1) a1 then (fromM l.length a1 l.length 0, 0) else ([], 2)) else ([], 1)
theorem SeatsFromM_len (l : List Int) (b s g a m a1 : Int) (hl : l.length ≤ 1048576) : (SeatsFromM l b s g a m a1).1.length ≤ 1048576 := by
  unfold SeatsFromM
  split
  · split
    · simpa [fromM_len] using hl
    · simp
  · simp
theorem specSeatsFrom_ev (l : List Int) (b s g a m a1 : Int) (hl : l.length ≤ 1048576) : Ev (fun k => spec_SeatsFrom.f k l b s g a m a1) (SeatsFromM l b s g a m a1) := by
  unfold spec_SeatsFrom.f
  refine Ev.bind (specTable_ev l b s g a m (by omega)) ?_
  by_cases h : tableB l b s g a m = true
  rotate_left
  · have e : SeatsFromM l b s g a m a1 = ([], 1) := if_neg h
    rw [e]; exact ev_neg h (ev_now rfl)
  have bd := table_bounds h
  rw [w64 (by omega) (by omega)]
  refine ev_pos h (ev_bindc (l01In_eq _ _ _) ?_)
  by_cases h2 : inR 0 ((l.length : Int) - 1) a1 = true
  rotate_left
  · have e : SeatsFromM l b s g a m a1 = ([], 2) := (if_pos h).trans (if_neg h2)
    rw [e]; exact ev_neg h2 (ev_now rfl)
  have e : SeatsFromM l b s g a m a1 = (fromM l.length a1 l.length 0, 0) := (if_pos h).trans (if_pos h2)
  rw [e]
  refine ev_pos h2 (Ev.bind (a := fromM l.length a1 l.length 0) ?_ (ev_now rfl))
  unfold spec_l09From.f
  exact specFrom_l0 l.length a1 (by omega) (by omega) l.length 0 [] (by omega) (by omega) (by simp; omega)
theorem implSeats_l0 (n : Nat) (seat : Int) (hn : 1 ≤ n) (hb : n ≤ 100000) : ∀ (d : Nat) (i : Nat) (acc z : List Int), acc.length = i → z.length = d → n = i + d →
    Ev (fun k => impl_SeatsFrom.l0 k seat (n : Int) (acc ++ z) (n : Int) (i : Int)) (acc ++ fromM n seat d i, 0)
  | 0, i, acc, z, ha, hz, h1 => by
    obtain rfl : z = [] := by simpa using hz
    exact Ev.step (fun k => impl_SeatsFrom.l0.eq_2 _ _ _ _ _ k) (ev_neg (by omega) (ev_now (by simp [fromM])))
  | d + 1, i, acc, z, ha, hz, h1 => by
    obtain ⟨y, z, rfl⟩ : ∃ y z', z = y :: z' := by cases z with
      | nil => simp at hz
      | cons y z => exact ⟨y, z, rfl⟩
    have hz' : z.length = d := by simpa using hz
    refine Ev.step (fun k => impl_SeatsFrom.l0.eq_2 _ _ _ _ _ k) (ev_pos (by omega) (ev_neg (by omega) (ev_pos (by omega) (ev_pos (by simp; omega) ?_))))
    have es : (acc ++ y :: z).set ((i : Int)).toNat (Int.tmod (wrap64 (seat + (i : Int))) (n : Int)) = (acc ++ [Int.tmod (wrap64 (seat + (i : Int))) (n : Int)]) ++ z := by rw [← ha]; exact set_at _ _ _ _
    have ei : wrap64 ((i : Int) + 1) = ((i + 1 : Nat) : Int) := by rw [w64 (by omega) (by omega)]; simp
    rw [es, ei]
    have h := implSeats_l0 n seat hn hb d (i + 1) (acc ++ [Int.tmod (wrap64 (seat + (i : Int))) (n : Int)]) z (by simp; omega) hz' (by omega)
    simpa [fromM] using h
theorem implSeatsFrom_ev (l : List Int) (b s g a m a1 : Int) (hl : l.length ≤ 1048576) : Ev (fun k => impl_SeatsFrom.f k l b s g a m a1) (SeatsFromM l b s g a m a1) := by
  unfold impl_SeatsFrom.f
  refine Ev.bind (implTable_ev l b s g a m (by omega)) ?_
  by_cases h : tableB l b s g a m = true
  rotate_left
  · have e : SeatsFromM l b s g a m a1 = ([], 1) := if_neg h
    rw [e]; exact ev_neg h (ev_now rfl)
  have bd := table_bounds h
  rw [w64 (by omega) (by omega)]
  refine ev_pos h (ev_bindc (within_eq _ _ _) ?_)
  by_cases h2 : inR 0 ((l.length : Int) - 1) a1 = true
  rotate_left
  · have e : SeatsFromM l b s g a m a1 = ([], 2) := (if_pos h).trans (if_neg h2)
    rw [e]; exact ev_neg h2 (ev_now rfl)
  have e : SeatsFromM l b s g a m a1 = (fromM l.length a1 l.length 0, 0) := (if_pos h).trans (if_pos h2)
  rw [e]
  refine ev_pos h2 (ev_pos (by omega) (ev_pos (by simp; omega) (ev_bindc rfl ?_)))
  have h := implSeats_l0 l.length a1 (by omega) (by omega) l.length 0 [] (List.replicate l.length 0) rfl (by simp) (by omega)
  simpa using h
end LFnExactSeatsFrom
open LFnExactSeatsFrom
theorem FnExactSeatsFrom (l0_0 : List Int) (a0_1 a0_2 a0_3 a0_4 a0_5 : Int) (a1 : Int) (hm0_0 : l0_0.length ≤ maxLen) (w0_0 : ∀ x ∈ l0_0, (Lit.int .i64 x).wf = true) (w0_1 : (Lit.int .i64 a0_1).wf = true) (w0_2 : (Lit.int .i64 a0_2).wf = true) (w0_3 : (Lit.int .i64 a0_3).wf = true) (w0_4 : (Lit.int .i64 a0_4).wf = true) (w0_5 : (Lit.int .i64 a0_5).wf = true) (w1 : (Lit.int .i64 a1).wf = true) :
    ∃ k, laws_FnExactSeatsFrom.f k l0_0 a0_1 a0_2 a0_3 a0_4 a0_5 a1 = some true := by
  refine Ev.rounds (g := fun k => laws_FnExactSeatsFrom.f k l0_0 a0_1 a0_2 a0_3 a0_4 a0_5 a1) ?_
  unfold laws_FnExactSeatsFrom.f
  refine ev_bindc (szTable_eq l0_0 a0_1 a0_2 a0_3 a0_4 a0_5 1048576 (by decide) (by decide) hm0_0) ?_
  by_cases hs : (1048576 : Int) - l0_0.length < 0
  · rw [if_pos hs]; exact ev_pos (by decide) (ev_now rfl)
  rw [if_neg hs]
  refine ev_neg hs ?_
  have hl : l0_0.length ≤ 1048576 := by omega
  have hq := SeatsFromM_len l0_0 a0_1 a0_2 a0_3 a0_4 a0_5 a1 hl
  refine Ev.bind (toTable_ev l0_0 a0_1 a0_2 a0_3 a0_4 a0_5 (by omega)) (Ev.bind (specSeatsFrom_ev l0_0 a0_1 a0_2 a0_3 a0_4 a0_5 a1 hl) (Ev.bind (toTable_ev l0_0 a0_1 a0_2 a0_3 a0_4 a0_5 (by omega)) (Ev.bind (implSeatsFrom_ev l0_0 a0_1 a0_2 a0_3 a0_4 a0_5 a1 hl) ?_)))
  refine Ev.bind (eqInt64S_ev rfl (by omega)) (ev_pos rfl (Ev.step (fun k => laws_FnExactSeatsFrom.j0.eq_2 _ _ _ _ _ _ _ _ _ _ _ _ _ _ _ _ _ _  k) (ev_neg (by simp) ?_)))
  refine Ev.bind (toTable_ev l0_0 a0_1 a0_2 a0_3 a0_4 a0_5 (by omega)) (Ev.bind (eqTable_ev l0_0 a0_1 a0_2 a0_3 a0_4 a0_5 (by omega)) (ev_pos rfl ?_))
  refine Ev.bind (markTable_ev l0_0 a0_1 a0_2 a0_3 a0_4 a0_5 1 (by omega) (by omega) (by omega)) (ev_neg (by simp; omega) ?_)
  refine Ev.bind (eqInt64S_ev rfl (by omega)) (ev_pos rfl (Ev.step (fun k => laws_FnExactSeatsFrom.j1.eq_2 _ _ _ _ _ _ _ _ _ _ _  k) (ev_neg (by simp) ?_)))
  refine Ev.bind (markInt64S_ev _ 1 (by omega) (by omega) (by omega)) (Ev.bind (heldInt64S_ev _ 1 (by omega) (by omega) (by omega)) (ev_neg (by simp; omega) (ev_pos rfl ?_)))
  refine Ev.bind (toTable_ev l0_0 a0_1 a0_2 a0_3 a0_4 a0_5 (by omega)) (Ev.bind (implSeatsFrom_ev l0_0 a0_1 a0_2 a0_3 a0_4 a0_5 a1 hl) ?_)
  refine Ev.bind (eqInt64S_ev rfl (by omega)) (ev_pos rfl (Ev.step (fun k => laws_FnExactSeatsFrom.j2.eq_2 _ _ _ k) (ev_neg (by simp) ?_)))
  exact Ev.bind (heldInt64S_ev _ 1 (by omega) (by omega) (by omega)) (ev_neg (by simp; omega) (ev_pos rfl (ev_now rfl)))
end Go.Proofs.Ytdagljakajpdjaa.Pure
