/- For every table and stacks the program's NextTable returns what the reference's returns, leaves its arguments alone, and its result is memory of its own. No conditions. -/
import Derived.Test.YtdagljakajpdjaaZFnExactNextTablex7
import Derived.Test.YtdagljakajpdjaaZFnExactNextTableEv
namespace Go.Proofs.Ytdagljakajpdjaa.Pure
open Go.RowKit Go.Proofs.Ytdagljakajpdjaa.QFnExactNextTable Go.Proofs.YtdagljakajpdjaaW.PrintWords Go.Proofs.YtdagljakajpdjaaW.PrintLast Go.Proofs.YtdagljakajpdjaaW.PrintMore Go.Proofs.Ytdagljakajpdjaa.EvBase
set_option linter.unusedVariables false
set_option linter.unusedSimpArgs false
namespace LFnExactNextTable
theorem l01In_eq (a lo hi : Int) : spec_l01In.f a lo hi = some (inR lo hi a) := by
  unfold spec_l01In.f inR
  by_cases h : a ≥ lo
  · rw [if_pos h]; simp [h]
  · rw [if_neg h]; simp; omega
theorem within_eq (a lo hi : Int) : impl_within.f a lo hi = some (inR lo hi a) := by
  unfold impl_within.f inR
  by_cases h : a ≥ lo
  · rw [if_pos h]; simp [h]
  · rw [if_neg h]; simp; omega
theorem toInt64S_l0 : ∀ (s pre z : List Int), z.length = s.length → pre.length + s.length ≤ 1000000000000 →
    Ev (fun k => laws_toInt64S.l0 k (pre ++ s) (pre ++ z) (pre.length : Int)) (pre ++ s)
  | [], pre, z, hz, hl => by
    obtain rfl : z = [] := by simpa using hz
    refine Ev.step (fun k => laws_toInt64S.l0.eq_2 _ _ _ k) ?_
    exact ev_neg (by simp) (ev_now rfl)
  | x :: s, pre, z, hz, hl => by
    obtain ⟨y, z, rfl⟩ : ∃ y z', z = y :: z' := by cases z with
      | nil => simp at hz
      | cons y z => exact ⟨y, z, rfl⟩
    have hl' : pre.length + (s.length + 1) ≤ 1000000000000 := hl
    refine Ev.step (fun k => laws_toInt64S.l0.eq_2 _ _ _ k) ?_
    refine ev_pos (by simp; omega) (ev_pos (by omega) (ev_pos (by simp; omega) ?_))
    rw [rd_at, set_at, w64 (by omega) (by omega), len_snoc pre x, app_snoc pre s x]
    have hlen : ((pre ++ [x]).length : Int) = (pre ++ [x]).length := rfl
    exact toInt64S_l0 s (pre ++ [x]) z (by simpa using hz) (by simp; omega)
theorem toInt64S_ev (l : List Int) (hl : l.length ≤ 1000000000000) : Ev (fun k => laws_toInt64S.f k l) l := by
  unfold laws_toInt64S.f
  refine ev_pos (by omega) (ev_pos (by simp; omega) ?_)
  have h := toInt64S_l0 l [] (List.replicate l.length 0) (by simp) (by simpa using hl)
  simpa using h
theorem eqInt64S_l0 : ∀ (s pre : List Int), pre.length + s.length ≤ 1000000000000 →
    Ev (fun k => laws_eqInt64S.l0 k (pre ++ s) (pre ++ s) (pre.length : Int)) true
  | [], pre, hl => by
    refine Ev.step (fun k => laws_eqInt64S.l0.eq_2 _ _ _ k) ?_
    exact ev_neg (by simp) (ev_now rfl)
  | x :: s, pre, hl => by
    have hl' : pre.length + (s.length + 1) ≤ 1000000000000 := hl
    refine Ev.step (fun k => laws_eqInt64S.l0.eq_2 _ _ _ k) ?_
    refine ev_pos (by simp; omega) (ev_pos (by omega) (ev_pos (by simp; omega) (ev_pos rfl ?_)))
    rw [w64 (by omega) (by omega), len_snoc pre x, app_snoc pre s x]
    exact eqInt64S_l0 s (pre ++ [x]) (by simp; omega)
theorem eqInt64S_ev {a b : List Int} (e : a = b) (hl : a.length ≤ 1000000000000) : Ev (fun k => laws_eqInt64S.f k a b) true := by
  subst e
  unfold laws_eqInt64S.f
  refine ev_pos rfl ?_
  simpa using eqInt64S_l0 a [] (by simpa using hl)
theorem markInt64S_l0 : ∀ (s pre : List Int) (m : Int), pre.length + s.length ≤ 1000000000000 → 0 ≤ m → m + s.length ≤ 1000000000000000 →
    Ev (fun k => laws_markInt64S.l0 k (pre ++ s) m (pre.length : Int)) (m + s.length, pre ++ marks m s)
  | [], pre, m, hl, h0, hm => by
    refine Ev.step (fun k => laws_markInt64S.l0.eq_2 _ _ _ k) ?_
    exact ev_neg (by simp) (ev_now (by simp [marks]))
  | x :: s, pre, m, hl, h0, hm => by
    have hl' : pre.length + (s.length + 1) ≤ 1000000000000 := hl
    have hm' : m + ((s.length : Int) + 1) ≤ 1000000000000000 := by simpa using hm
    refine Ev.step (fun k => laws_markInt64S.l0.eq_2 _ _ _ k) ?_
    refine ev_pos (by simp; omega) (ev_pos (by omega) ?_)
    rw [set_at, w64 (by omega) (by omega), w64 (by omega) (by omega), len_snoc pre m]
    have h := markInt64S_l0 s (pre ++ [m]) (m + 1) (by simp; omega) (by omega) (by omega)
    have e : (m + ((x :: s).length : Int), pre ++ marks m (x :: s)) = (m + 1 + (s.length : Int), pre ++ [m] ++ marks (m + 1) s) := by
      simp [marks]; omega
    rw [e]; exact h
theorem markInt64S_ev (l : List Int) (m : Int) (hl : l.length ≤ 1000000000000) (h0 : 0 ≤ m) (hm : m + l.length ≤ 1000000000000000) :
    Ev (fun k => laws_markInt64S.f k l m) (m + l.length, marks m l) := by
  unfold laws_markInt64S.f
  simpa using markInt64S_l0 l [] m (by simpa using hl) h0 hm
theorem heldInt64S_l0 : ∀ (s pre : List Int) (m : Int), pre.length + s.length ≤ 1000000000000 → 0 ≤ m → m + s.length ≤ 1000000000000000 →
    Ev (fun k => laws_heldInt64S.l0 k (pre ++ marks m s) m (pre.length : Int)) (m + s.length)
  | [], pre, m, hl, h0, hm => by
    refine Ev.step (fun k => laws_heldInt64S.l0.eq_2 _ _ _ k) ?_
    exact ev_neg (by simp [marks]) (ev_now (by simp))
  | x :: s, pre, m, hl, h0, hm => by
    have hl' : pre.length + (s.length + 1) ≤ 1000000000000 := hl
    have hm' : m + ((s.length : Int) + 1) ≤ 1000000000000000 := by simpa using hm
    refine Ev.step (fun k => laws_heldInt64S.l0.eq_2 _ _ _ k) ?_
    show Ev (fun k => if (pre.length : Int) < (((pre ++ m :: marks (m + 1) s).length : Nat) : Int) then _ else _) _
    refine ev_pos (by simp; omega) (ev_pos (by omega) (ev_pos (rd_at _ _ _) ?_))
    show Ev (fun k => laws_heldInt64S.l0 k (pre ++ m :: marks (m + 1) s) _ _) _
    rw [w64 (by omega) (by omega), w64 (by omega) (by omega), len_snoc pre m, app_snoc pre _ m]
    have h := heldInt64S_l0 s (pre ++ [m]) (m + 1) (by simp; omega) (by omega) (by omega)
    have e : m + ((x :: s).length : Int) = m + 1 + (s.length : Int) := by simp; omega
    rw [e]; exact h
theorem heldInt64S_ev (l : List Int) (m : Int) (hl : l.length ≤ 1000000000000) (h0 : 0 ≤ m) (hm : m + l.length ≤ 1000000000000000) :
    Ev (fun k => laws_heldInt64S.f k (marks m l) m) (m + l.length) := by
  unfold laws_heldInt64S.f
  simpa using heldInt64S_l0 l [] m (by simpa using hl) h0 hm
theorem allWithin_l0 (lo hi : Int) : ∀ (s pre : List Int), pre.length + s.length ≤ 1000000000000 →
    Ev (fun k => impl_allWithin.l0 k lo hi (pre ++ s) ((pre ++ s).length : Int) (pre.length : Int)) (s.all (inR lo hi))
  | [], pre, hl => by
    refine Ev.step (fun k => impl_allWithin.l0.eq_2 _ _ _ _ _ k) ?_
    exact ev_neg (by simp) (ev_now rfl)
  | x :: s, pre, hl => by
    have hl' : pre.length + (s.length + 1) ≤ 1000000000000 := hl
    refine Ev.step (fun k => impl_allWithin.l0.eq_2 _ _ _ _ _ k) ?_
    refine ev_pos (by simp; omega) (ev_pos (by omega) (ev_pos (by simp; omega) ?_))
    rw [rd_at]
    refine ev_bindc (within_eq _ _ _) ?_
    by_cases hin : inR lo hi x = true
    · refine ev_pos hin ?_
      rw [w64 (by omega) (by omega), len_snoc pre x, app_snoc pre s x]
      have h := allWithin_l0 lo hi s (pre ++ [x]) (by simp; omega)
      simpa only [List.all_cons, hin, Bool.true_and] using h
    · refine ev_neg hin (ev_now ?_)
      simp only [Bool.not_eq_true] at hin
      simp [hin]
theorem allWithin_ev (l : List Int) (lo hi : Int) (hl : l.length ≤ 1000000000000) : Ev (fun k => impl_allWithin.f k l lo hi) (l.all (inR lo hi)) := by
  unfold impl_allWithin.f
  simpa using allWithin_l0 lo hi l [] (by simpa using hl)
theorem szInt64S_eq (l : List Int) (a : Int) (h0 : 0 ≤ a) (h1 : a ≤ 1048576) (hl : l.length ≤ maxLen) : laws_szInt64S.f l a = some (if a - l.length < 0 then -1 else a - l.length) := by
  unfold maxLen at hl
  unfold laws_szInt64S.f
  rw [w64 (by omega) (by omega)]
  split <;> rfl
theorem szTable_eq (l : List Int) (a1 a2 a3 a4 a5 a : Int) (h0 : 0 ≤ a) (h1 : a ≤ 1048576) (hl : l.length ≤ maxLen) : laws_szTable.f l a1 a2 a3 a4 a5 a = some (if a - l.length < 0 then -1 else a - l.length) := by
  unfold laws_szTable.f
  rw [szInt64S_eq l a h0 h1 hl]
  simp only [Option.bind_some]
  by_cases h : a - l.length < 0
  · simp [h]
  · simp only [if_neg h]
theorem toTable_ev (l : List Int) (a1 a2 a3 a4 a5 : Int) (hl : l.length ≤ 1000000000000) : Ev (fun k => laws_toTable.f k l a1 a2 a3 a4 a5) (l, a1, a2, a3, a4, a5) := by
  unfold laws_toTable.f
  exact Ev.bind (toInt64S_ev l hl) (ev_now rfl)
theorem eqTable_ev (l : List Int) (a1 a2 a3 a4 a5 : Int) (hl : l.length ≤ 1000000000000) : Ev (fun k => laws_eqTable.f k l a1 a2 a3 a4 a5 l a1 a2 a3 a4 a5) true := by
  unfold laws_eqTable.f
  exact Ev.bind (eqInt64S_ev rfl hl) (ev_pos rfl (ev_pos rfl (ev_pos rfl (ev_pos rfl (ev_pos rfl (ev_pos rfl (ev_now rfl)))))))
theorem markTable_ev (l : List Int) (a1 a2 a3 a4 a5 m : Int) (hl : l.length ≤ 1000000000000) (h0 : 0 ≤ m) (hm : m + l.length ≤ 1000000000000000) : Ev (fun k => laws_markTable.f k l a1 a2 a3 a4 a5 m) (m + l.length, marks m l) := by
  unfold laws_markTable.f
  exact Ev.bind (markInt64S_ev l m hl h0 hm) (ev_now rfl)
theorem specTable_l0 (b s g a m : Int) : ∀ (t pre : List Int), pre.length + t.length ≤ 1000000000000 →
    Ev (fun k => spec_IsTable.l0 k (pre.length : Int) (pre ++ t) b s g a m) (t.all (inR 1 100000))
  | [], pre, hl => by
    refine Ev.step (fun k => spec_IsTable.l0.eq_2 _ _ _ _ _ _ _ k) ?_
    exact ev_neg (by simp) (ev_now rfl)
  | x :: t, pre, hl => by
    have hl' : pre.length + (t.length + 1) ≤ 1000000000000 := hl
    refine Ev.step (fun k => spec_IsTable.l0.eq_2 _ _ _ _ _ _ _ k) ?_
    refine ev_pos (by simp; omega) (ev_pos (by omega) ?_)
    rw [rd_at]
    refine ev_bindc (l01In_eq _ _ _) ?_
    by_cases hin : inR 1 100000 x = true
    · refine ev_pos hin ?_
      rw [w64 (by omega) (by omega), len_snoc pre x, app_snoc pre t x]
      have h := specTable_l0 b s g a m t (pre ++ [x]) (by simp; omega)
      simpa only [List.all_cons, hin, Bool.true_and] using h
    · refine ev_neg hin (ev_now ?_)
      simp only [Bool.not_eq_true] at hin
      simp [hin]
theorem specTable_ev (l : List Int) (b s g a m : Int) (hl : l.length ≤ 1000000000000) : Ev (fun k => spec_IsTable.f k l b s g a m) (tableB l b s g a m) := by
  unfold spec_IsTable.f tableB
  refine ev_bindc (l01In_eq _ _ _) ?_
  by_cases h1 : inR 2 6 (l.length : Int) = true
  rotate_left
  · exact ev_neg h1 (Ev.step (fun k => spec_IsTable.j0.eq_2 _ _ _ _ _ _ _ k) (ev_pos rfl (ev_now (by simp [h1]))))
  rw [w64 (by omega) (by omega)]
  refine ev_pos h1 (ev_bindc (l01In_eq _ _ _) ?_)
  by_cases h2 : inR 0 ((l.length : Int) - 1) b = true
  rotate_left
  · exact ev_neg h2 (Ev.step (fun k => spec_IsTable.j0.eq_2 _ _ _ _ _ _ _ k) (ev_pos rfl (ev_now (by simp [h2]))))
  refine ev_pos h2 (ev_bindc (l01In_eq _ _ _) ?_)
  by_cases h3 : inR 1 100000 g = true
  rotate_left
  · exact ev_neg h3 (Ev.step (fun k => spec_IsTable.j0.eq_2 _ _ _ _ _ _ _ k) (ev_pos rfl (ev_now (by simp [h3]))))
  refine ev_pos h3 (ev_bindc (l01In_eq _ _ _) ?_)
  by_cases h4 : inR 0 g s = true
  rotate_left
  · exact ev_neg h4 (Ev.step (fun k => spec_IsTable.j0.eq_2 _ _ _ _ _ _ _ k) (ev_pos rfl (ev_now (by simp [h4]))))
  refine ev_pos h4 (ev_bindc (l01In_eq _ _ _) ?_)
  by_cases h5 : inR 0 100000 a = true
  rotate_left
  · exact ev_neg h5 (Ev.step (fun k => spec_IsTable.j0.eq_2 _ _ _ _ _ _ _ k) (ev_pos rfl (ev_now (by simp [h5]))))
  refine ev_pos h5 (ev_bindc (l01In_eq _ _ _) (Ev.step (fun k => spec_IsTable.j0.eq_2 _ _ _ _ _ _ _ k) ?_))
  by_cases h6 : inR 0 2 m = true
  rotate_left
  · exact ev_pos (by simpa using h6) (ev_now (by simp [h6]))
  refine ev_neg (by simp [h6]) ?_
  simp only [h1, h2, h3, h4, h5, h6, Bool.true_and]
  exact specTable_l0 b s g a m l [] (by simpa using hl)
theorem implTable_ev (l : List Int) (b s g a m : Int) (hl : l.length ≤ 1000000000000) : Ev (fun k => impl_IsTable.f k l b s g a m) (tableB l b s g a m) := by
  unfold impl_IsTable.f tableB
  refine ev_bindc (within_eq _ _ _) ?_
  by_cases h1 : inR 2 6 (l.length : Int) = true
  rotate_left
  · exact ev_neg h1 (ev_now (by simp [h1]))
  rw [w64 (by omega) (by omega)]
  refine ev_pos h1 (Ev.bind (allWithin_ev l 1 100000 hl) ?_)
  by_cases h7 : l.all (inR 1 100000) = true
  rotate_left
  · simp only [Bool.not_eq_true] at h7
    exact ev_neg (by simp [h7]) (ev_now (by simp only [h7, Bool.and_false]))
  refine ev_pos h7 (ev_bindc (within_eq _ _ _) ?_)
  by_cases h2 : inR 0 ((l.length : Int) - 1) b = true
  rotate_left
  · exact ev_neg h2 (ev_now (by simp [h2]))
  refine ev_pos h2 (ev_bindc (within_eq _ _ _) ?_)
  by_cases h3 : inR 1 100000 g = true
  rotate_left
  · exact ev_neg h3 (ev_now (by simp [h3]))
  refine ev_pos h3 (ev_bindc (within_eq _ _ _) ?_)
  by_cases h4 : inR 0 g s = true
  rotate_left
  · exact ev_neg h4 (ev_now (by simp [h4]))
  refine ev_pos h4 (ev_bindc (within_eq _ _ _) ?_)
  by_cases h5 : inR 0 100000 a = true
  rotate_left
  · exact ev_neg h5 (ev_now (by simp [h5]))
  refine ev_pos h5 (ev_bindc (within_eq _ _ _) (ev_now ?_))
  simp only [h1, h2, h3, h4, h5, h7, Bool.true_and, Bool.and_true]
theorem specLeft_eq (s n : Int) (h : n ≠ 0) : spec_l09Left.f s n = some (leftM s n) := by unfold spec_l09Left.f; rw [if_neg h]; rfl
theorem implLeft_eq (s n : Int) (h : n ≠ 0) : impl_leftOf.f s n = some (leftM s n) := by unfold impl_leftOf.f; rw [if_neg h]; rfl
def heldL (l : List Int) : List Int := l.filter (fun x => decide (0 < x))
def numsL : Nat → List Int → List Int
  | _, [] => []
  | c, x :: s => (c : Int) :: numsL (if 0 < x then c + 1 else c) s
theorem numsL_len : ∀ (s : List Int) (c : Nat), (numsL c s).length = s.length
  | [], _ => rfl
  | x :: s, c => by simp [numsL, numsL_len s]
def seekM (st : List Int) : Nat → Int → Int
  | 0, x => x
  | d + 1, x => if rd st x = 0 then seekM st d (leftM x st.length) else x
theorem rd_cons (x : Int) (s : List Int) (j : Nat) : rd (x :: s) ((j + 1 : Nat) : Int) = rd s (j : Int) := by
  simp [rd]
theorem rd_cons0 (x : Int) (s : List Int) : rd (x :: s) ((0 : Nat) : Int) = x := by
  simp [rd]
theorem seek_range (st : List Int) (hn : st.length ≤ 1000) : ∀ (d : Nat) (x : Int), 0 ≤ x → x < st.length → 0 ≤ seekM st d x ∧ seekM st d x < st.length
  | 0, x, h0, h1 => ⟨h0, h1⟩
  | d + 1, x, h0, h1 => by
    unfold seekM
    split
    · have r := leftM_range h0 h1 (by omega)
      exact seek_range st hn d _ r.1 r.2
    · exact ⟨h0, h1⟩
theorem seek_zero (st : List Int) (hn : st.length ≤ 1000) : ∀ (d : Nat) (x : Int), 0 ≤ x → x < st.length → rd st (seekM st d x) = 0 →
    ∀ i : Nat, i ≤ d → rd st ((x + (i : Int)) % (st.length : Int)) = 0
  | 0, x, h0, h1, h, i, hi => by
    obtain rfl : i = 0 := by omega
    rw [Int.emod_eq_of_lt (by omega) (by omega)]
    simpa [seekM] using h
  | d + 1, x, h0, h1, h, i, hi => by
    unfold seekM at h
    by_cases hz : rd st x = 0
    · rw [if_pos hz] at h
      have r := leftM_range h0 h1 (by omega)
      cases i with
      | zero => rw [Int.emod_eq_of_lt (by omega) (by omega)]; simpa using hz
      | succ i =>
        have hh := seek_zero st hn d _ r.1 r.2 h i (by omega)
        rw [leftM_eq h0 h1 (by omega), Int.emod_add_emod] at hh
        have e : x + ((i + 1 : Nat) : Int) = x + 1 + (i : Int) := by omega
        rw [e]; exact hh
    · rw [if_neg hz] at h; exact absurd h hz
theorem seek_hit (st : List Int) (hn : st.length ≤ 1000) (x j : Int) (h0 : 0 ≤ x) (h1 : x < st.length) (j0 : 0 ≤ j) (j1 : j < st.length) (hj : rd st j ≠ 0) :
    rd st (seekM st (st.length - 1) x) ≠ 0 := by
  intro h
  have z := seek_zero st hn _ x h0 h1 h
  by_cases hx : x ≤ j
  · have := z (j - x).toNat (by omega)
    rw [Int.toNat_of_nonneg (by omega), Int.emod_eq_of_lt (by omega) (by omega)] at this
    exact hj (by rw [← this]; congr 1; omega)
  · have := z (j - x + st.length).toNat (by omega)
    rw [Int.toNat_of_nonneg (by omega)] at this
    have e : x + (j - x + (st.length : Int)) = j + (st.length : Int) := by omega
    rw [e, Int.add_emod_right, Int.emod_eq_of_lt (by omega) (by omega)] at this
    exact hj this
theorem held_hit (st : List Int) (h : 1 ≤ (heldL st).length) : ∃ j : Int, 0 ≤ j ∧ j < st.length ∧ rd st j ≠ 0 := by
  obtain ⟨x, hx⟩ : ∃ x, x ∈ heldL st := by
    cases e : heldL st with
    | nil => rw [e] at h; simp at h
    | cons x _ => exact ⟨x, by simp⟩
  have hx2 := List.mem_filter.1 hx
  obtain ⟨j, hj, e⟩ := List.getElem_of_mem hx2.1
  refine ⟨(j : Int), by omega, by omega, ?_⟩
  have h3 : 0 < x := by simpa using hx2.2
  simp only [rd, Int.toNat_natCast, List.getD_eq_getElem?_getD, List.getElem?_eq_getElem hj, Option.getD_some, e]
  omega
def pickM (btn : Int) : List Int → Nat → List Int → Int → List Int × Int
  | [], _, R, B => (R, B)
  | x :: t, i, R, B => if x = 0 then pickM btn t (i + 1) R B else pickM btn t (i + 1) (R ++ [x]) (if (i : Int) = btn then (R.length : Int) else B)
theorem pick_list (btn : Int) : ∀ (t : List Int) (i : Nat) (R : List Int) (B : Int), t.all (inR 0 100000) = true → (pickM btn t i R B).1 = R ++ heldL t
  | [], i, R, B, h => by simp [pickM, heldL]
  | x :: t, i, R, B, h => by
    simp only [List.all_cons, Bool.and_eq_true, inR_iff] at h
    unfold pickM
    by_cases hx : x = 0
    · rw [if_pos hx, pick_list btn t _ _ _ h.2]; simp [heldL, hx]
    · rw [if_neg hx, pick_list btn t _ _ _ h.2]
      have : 0 < x := by omega
      simp [heldL, this]
theorem pick_keep (btn : Int) : ∀ (t : List Int) (i : Nat) (R : List Int) (B : Int), btn < i → (pickM btn t i R B).2 = B
  | [], i, R, B, h => rfl
  | x :: t, i, R, B, h => by
    unfold pickM
    split
    · exact pick_keep btn t _ _ _ (by omega)
    · rw [pick_keep btn t _ _ _ (by omega), if_neg (by omega)]
theorem pick_btn (btn : Int) : ∀ (t : List Int) (i : Nat) (R : List Int) (B : Int) (j : Nat), t.all (inR 0 100000) = true → btn = (i : Int) + j → j < t.length → rd t (j : Int) ≠ 0 → (pickM btn t i R B).2 = rd (numsL R.length t) (j : Int)
  | [], i, R, B, j, h, e, hj, hz => by simp at hj
  | x :: t, i, R, B, 0, h, e, hj, hz => by
    rw [rd_cons0] at hz
    unfold pickM
    rw [if_neg hz, pick_keep btn t _ _ _ (by omega), if_pos (by omega)]
    simp only [numsL, rd_cons0]
  | x :: t, i, R, B, j + 1, h, e, hj, hz => by
    rw [rd_cons] at hz
    simp only [List.all_cons, Bool.and_eq_true, inR_iff] at h
    have hj' : j < t.length := by simpa using hj
    unfold pickM
    simp only [numsL, rd_cons]
    by_cases hx : x = 0
    · rw [if_pos hx, pick_btn btn t (i + 1) R B j h.2 (by omega) hj' hz, if_neg (by omega)]
    · rw [if_neg hx, pick_btn btn t (i + 1) (R ++ [x]) _ j h.2 (by omega) hj' hz, if_pos (by omega)]
      simp
def NextM (l : List Int) (b s g a m : Int) (st : List Int) : List Int × Int × Int × Int × Int × Int × Int :=
  if tableB l b s g a m = true then
    (if st.length = l.length then
      (if st.all (inR 0 100000) = true then
        (if ((heldL st).length : Int) < 2 then ([], 0, 0, 0, 0, 0, 5) else (heldL st, rd (numsL 0 st) (seekM st (st.length - 1) (leftM b st.length)), s, g, a, m, 0))
      else ([], 0, 0, 0, 0, 0, 2))
    else ([], 0, 0, 0, 0, 0, 2))
  else ([], 0, 0, 0, 0, 0, 1)
theorem held_len (st : List Int) : (heldL st).length ≤ st.length := List.length_filter_le _ _
theorem NextM_len (l : List Int) (b s g a m : Int) (st : List Int) (hl : l.length ≤ 1048576) : (NextM l b s g a m st).1.length ≤ 6 := by
  unfold NextM
  split
  · rename_i h
    have bd := table_bounds h
    split
    · split
      · split
        · simp
        · have := held_len st
          simp only; omega
      · simp
    · simp
  · simp
theorem specNext_l1 (st R N l : List Int) (b s g a m : Int) (hn : st.length ≤ 1000) (hN : N.length = st.length) : ∀ (d : Nat) (x : Int), 0 ≤ x → x < st.length → rd st (seekM st d x) ≠ 0 →
    Ev (fun k => spec_NextTable.l1 k st R N x l b s g a m) (R, rd N (seekM st d x), s, g, a, m, 0)
  | 0, x, h0, h1, hz => by
    simp only [seekM] at hz ⊢
    exact Ev.step (fun k => spec_NextTable.l1.eq_2 _ _ _ _ _ _ _ _ _ _ k) (ev_pos h0 (ev_pos h1 (ev_neg hz (ev_pos (by omega) (ev_now rfl)))))
  | d + 1, x, h0, h1, hz => by
    unfold seekM at hz ⊢
    refine Ev.step (fun k => spec_NextTable.l1.eq_2 _ _ _ _ _ _ _ _ _ _ k) (ev_pos h0 (ev_pos h1 ?_))
    by_cases hx : rd st x = 0
    · rw [if_pos hx] at hz; simp only [if_pos hx]
      have r := leftM_range h0 h1 (by omega)
      exact ev_bindc (specLeft_eq _ _ (by omega)) (specNext_l1 st R N l b s g a m hn hN d _ r.1 r.2 hz)
    · simp only [if_neg hx]
      exact ev_pos (by omega) (ev_now rfl)
theorem specNext_l0 (st l : List Int) (b s g a m : Int) (hn : st.length ≤ 1000000) (r : List Int × Int × Int × Int × Int × Int × Int) : ∀ (t pre R N : List Int), st = pre ++ t → R.length ≤ pre.length → N.length = pre.length →
    (t.all (inR 0 100000) = true → Ev (fun k => if ((R ++ heldL t).length : Int) < 2 then (some (([] : List Int), 0, 0, 0, 0, 0, 5)) else ((spec_l09Left.f b (st.length : Int)).bind fun x => spec_NextTable.l1 k st (R ++ heldL t) (N ++ numsL R.length t) x l b s g a m)) r) →
    (t.all (inR 0 100000) = false → r = ([], 0, 0, 0, 0, 0, 2)) →
    Ev (fun k => spec_NextTable.l0 k st R N (pre.length : Int) l b s g a m) r
  | [], pre, R, N, hst, h1, h2, ht, hf => by
    have hl : st.length = pre.length := by rw [hst]; simp
    refine Ev.step (fun k => spec_NextTable.l0.eq_2 _ _ _ _ _ _ _ _ _ _ k) (ev_neg (by omega) ?_)
    simpa [heldL, numsL] using ht rfl
  | x :: t, pre, R, N, hst, h1, h2, ht, hf => by
    have hl : st.length = pre.length + (t.length + 1) := by rw [hst]; simp
    have er : rd st (pre.length : Int) = x := by rw [hst]; exact rd_at _ _ _
    refine Ev.step (fun k => spec_NextTable.l0.eq_2 _ _ _ _ _ _ _ _ _ _ k) (ev_pos (by omega) (ev_pos (by omega) ?_))
    rw [er]
    refine ev_bindc (l01In_eq _ _ _) ?_
    by_cases hin : inR 0 100000 x = true
    rotate_left
    · simp only [Bool.not_eq_true] at hin
      exact ev_neg (by simp [hin]) (ev_now (hf (by simp [hin])).symm)
    have hx := inR_iff.1 hin
    refine ev_pos hin (ev_pos (by omega) (ev_bindc rfl ?_))
    rw [w64 (by omega) (by omega), len_snoc pre x]
    have hst2 : st = (pre ++ [x]) ++ t := by rw [hst]; simp
    by_cases hp : 0 < x
    · refine ev_pos hp (ev_pos (by omega) (specNext_l0 st l b s g a m hn r t (pre ++ [x]) (R ++ [x]) _ hst2 (by simp; omega) (by simp; omega) ?_ ?_))
      · intro h
        have := ht (by simp [hin, h])
        simpa [heldL, numsL, hp] using this
      · intro h; exact hf (by simp [h])
    · refine ev_neg hp (specNext_l0 st l b s g a m hn r t (pre ++ [x]) R _ hst2 (by simp; omega) (by simp; omega) ?_ ?_)
      · intro h
        have := ht (by simp [hin, h])
        simpa [heldL, numsL, hp] using this
      · intro h; exact hf (by simp [h])
theorem specNext_ev (l : List Int) (b s g a m : Int) (st : List Int) (hl : l.length ≤ 1048576) : Ev (fun k => spec_NextTable.f k l b s g a m st) (NextM l b s g a m st) := by
  unfold spec_NextTable.f
  refine Ev.bind (specTable_ev l b s g a m (by omega)) ?_
  by_cases h : tableB l b s g a m = true
  rotate_left
  · have e : NextM l b s g a m st = ([], 0, 0, 0, 0, 0, 1) := if_neg h
    rw [e]; exact ev_neg h (ev_now rfl)
  have bd := table_bounds h
  refine ev_pos h ?_
  by_cases hn : st.length = l.length
  rotate_left
  · have e : NextM l b s g a m st = ([], 0, 0, 0, 0, 0, 2) := (if_pos h).trans (if_neg hn)
    rw [e]; exact ev_neg (by omega) (ev_now rfl)
  refine ev_pos (by omega) (specNext_l0 st l b s g a m (by omega) _ st [] [] [] rfl (by simp) rfl ?_ ?_)
  · intro hall
    have e : NextM l b s g a m st = _ := (if_pos h).trans ((if_pos hn).trans (if_pos hall))
    rw [e]
    simp only [List.nil_append, List.length_nil]
    by_cases h2 : ((heldL st).length : Int) < 2
    · rw [if_pos h2]; exact ev_pos h2 (ev_now rfl)
    · rw [if_neg h2]
      have r := leftM_range (s := b) (n := st.length) (by omega) (by omega) (by omega)
      obtain ⟨j, j0, j1, hj⟩ := held_hit st (by omega)
      exact ev_neg h2 (ev_bindc (specLeft_eq _ _ (by omega)) (specNext_l1 st _ _ l b s g a m (by omega) (numsL_len _ _) _ _ r.1 r.2 (seek_hit st (by omega) _ j r.1 r.2 j0 j1 hj)))
  · intro hall
    exact (if_pos h).trans ((if_pos hn).trans (if_neg (by simp [hall])))
theorem implNext_l1 (st : List Int) (btn s g a m : Int) (hn : st.length ≤ 1000000) : ∀ (t pre R : List Int) (B : Int), st = pre ++ t → R.length ≤ pre.length →
    Ev (fun k => impl_NextTable.l1 k btn st (st.length : Int) (pre.length : Int) R B s g a m) (if (((pickM btn t pre.length R B).1.length : Nat) : Int) < 2 then ([], 0, 0, 0, 0, 0, 5) else ((pickM btn t pre.length R B).1, (pickM btn t pre.length R B).2, s, g, a, m, 0))
  | [], pre, R, B, hst, h1 => by
    have hl : st.length = pre.length := by rw [hst]; simp
    refine Ev.step (fun k => impl_NextTable.l1.eq_2 _ _ _ _ _ _ _ _ _ _ k) (ev_neg (by omega) ?_)
    simp only [pickM]
    by_cases h2 : (R.length : Int) < 2
    · exact ev_pos h2 (ev_now (if_pos h2).symm)
    · exact ev_neg h2 (ev_now (if_neg h2).symm)
  | x :: t, pre, R, B, hst, h1 => by
    have hl : st.length = pre.length + (t.length + 1) := by rw [hst]; simp
    have er : rd st (pre.length : Int) = x := by rw [hst]; exact rd_at _ _ _
    refine Ev.step (fun k => impl_NextTable.l1.eq_2 _ _ _ _ _ _ _ _ _ _ k) (ev_pos (by omega) (ev_pos (by omega) (ev_pos (by omega) ?_)))
    rw [er, w64 (by omega) (by omega), len_snoc pre x]
    have hst2 : st = (pre ++ [x]) ++ t := by rw [hst]; simp
    have en : pre.length + 1 = (pre ++ [x]).length := by simp
    unfold pickM
    by_cases hx : x = 0
    · simp only [if_pos hx]
      have k := implNext_l1 st btn s g a m hn t (pre ++ [x]) R B hst2 (by simp; omega)
      rw [← en] at k ⊢
      exact k
    · simp only [if_neg hx]
      by_cases hb : (pre.length : Int) = btn
      · simp only [if_pos hb]
        have k := implNext_l1 st btn s g a m hn t (pre ++ [x]) (R ++ [x]) (R.length : Int) hst2 (by simp; omega)
        rw [← en] at k ⊢
        exact ev_pos (by omega) k
      · simp only [if_neg hb]
        have k := implNext_l1 st btn s g a m hn t (pre ++ [x]) (R ++ [x]) B hst2 (by simp; omega)
        rw [← en] at k ⊢
        exact ev_pos (by omega) k
theorem implNext_l0 (st l : List Int) (b s g a m : Int) (hn : st.length ≤ 1000) (r : List Int × Int × Int × Int × Int × Int × Int) : ∀ (d : Nat) (x i : Int), 0 ≤ i → i + d = st.length → 0 ≤ x → x < st.length →
    Ev (fun k => impl_NextTable.j2 k st (seekM st d x) l b s g a m) r → Ev (fun k => impl_NextTable.l0 k st (st.length : Int) x i l b s g a m) r
  | 0, x, i, h0, hi, x0, x1, h => Ev.step (fun k => impl_NextTable.l0.eq_2 _ _ _ _ _ _ _ _ _ _ k) (ev_neg (by omega) h)
  | d + 1, x, i, h0, hi, x0, x1, h => by
    refine Ev.step (fun k => impl_NextTable.l0.eq_2 _ _ _ _ _ _ _ _ _ _ k) (ev_pos (by omega) (ev_pos x0 (ev_pos x1 ?_)))
    by_cases hx : rd st x = 0
    · have e : seekM st (d + 1) x = seekM st d (leftM x st.length) := if_pos hx
      rw [e] at h
      have r' := leftM_range x0 x1 (by omega)
      rw [w64 (by omega) (by omega)]
      exact ev_pos hx (ev_bindc (implLeft_eq _ _ (by omega)) (implNext_l0 st l b s g a m hn r d _ (i + 1) (by omega) (by omega) r'.1 r'.2 h))
    · have e : seekM st (d + 1) x = x := if_neg hx
      rw [e] at h
      exact ev_neg hx h
theorem implNext_ev (l : List Int) (b s g a m : Int) (st : List Int) (hl : l.length ≤ 1048576) (hs : st.length ≤ 1048576) : Ev (fun k => impl_NextTable.f k l b s g a m st) (NextM l b s g a m st) := by
  unfold impl_NextTable.f
  refine Ev.bind (implTable_ev l b s g a m (by omega)) ?_
  by_cases h : tableB l b s g a m = true
  rotate_left
  · have e : NextM l b s g a m st = ([], 0, 0, 0, 0, 0, 1) := if_neg h
    rw [e]; exact ev_neg h (ev_now rfl)
  have bd := table_bounds h
  refine ev_pos h ?_
  by_cases hn : st.length = l.length
  rotate_left
  · have e : NextM l b s g a m st = ([], 0, 0, 0, 0, 0, 2) := (if_pos h).trans (if_neg hn)
    rw [e]; exact ev_neg (by omega) (Ev.step (fun k => impl_NextTable.j0.eq_2 _ _ _ _ _ _ _ _ _ k) (ev_pos rfl (ev_now rfl)))
  refine ev_pos (by omega) (Ev.bind (allWithin_ev st 0 100000 (by omega)) (Ev.step (fun k => impl_NextTable.j0.eq_2 _ _ _ _ _ _ _ _ _ k) ?_))
  by_cases hall : st.all (inR 0 100000) = true
  rotate_left
  · have e : NextM l b s g a m st = ([], 0, 0, 0, 0, 0, 2) := (if_pos h).trans ((if_pos hn).trans (if_neg hall))
    simp only [Bool.not_eq_true] at hall
    rw [e]; exact ev_pos (by simp [hall]) (ev_now rfl)
  have e : NextM l b s g a m st = _ := (if_pos h).trans ((if_pos hn).trans (if_pos hall))
  rw [e, ← hn]
  have r := leftM_range (s := b) (n := st.length) (by omega) (by omega) (by omega)
  refine ev_neg (by simp [hall]) (ev_bindc (implLeft_eq _ _ (by omega)) (implNext_l0 st l b s g a m (by omega) _ (st.length - 1) _ 1 (by omega) (by omega) r.1 r.2 ?_))
  have sr := seek_range st (by omega) (st.length - 1) _ r.1 r.2
  refine Ev.step (fun k => impl_NextTable.j2.eq_2 _ _ _ _ _ _ _ _ k) ?_
  have k := implNext_l1 st (seekM st (st.length - 1) (leftM b st.length)) s g a m (by omega) st [] [] 0 rfl (by simp)
  rw [pick_list _ _ _ _ _ hall] at k
  simp only [List.nil_append, List.length_nil] at k
  by_cases h2 : ((heldL st).length : Int) < 2
  · rw [if_pos h2] at k ⊢; exact k
  · rw [if_neg h2] at k ⊢
    obtain ⟨j, j0, j1, hj⟩ := held_hit st (by omega)
    have hit := seek_hit st (by omega) _ j r.1 r.2 j0 j1 hj
    generalize seekM st (st.length - 1) (leftM b st.length) = q at *
    obtain ⟨q, rfl⟩ := Int.eq_ofNat_of_zero_le sr.1
    rw [pick_btn (q : Int) st 0 [] 0 q hall (by simp) (by omega) hit] at k
    exact k
theorem heldTable_ev (l : List Int) (a1 a2 a3 a4 a5 m : Int) (hl : l.length ≤ 1000000000000) (h0 : 0 ≤ m) (hm : m + l.length ≤ 1000000000000000) : Ev (fun k => laws_heldTable.f k (marks m l) a1 a2 a3 a4 a5 m) (m + l.length) := by
  unfold laws_heldTable.f
  exact Ev.bind (heldInt64S_ev l m hl h0 hm) (ev_neg (by omega) (ev_now rfl))
end LFnExactNextTable
open LFnExactNextTable
theorem FnExactNextTable (l0_0 : List Int) (a0_1 a0_2 a0_3 a0_4 a0_5 : Int) (l1 : List Int) (hm0_0 : l0_0.length ≤ maxLen) (w0_0 : ∀ x ∈ l0_0, (Lit.int .i64 x).wf = true) (w0_1 : (Lit.int .i64 a0_1).wf = true) (w0_2 : (Lit.int .i64 a0_2).wf = true) (w0_3 : (Lit.int .i64 a0_3).wf = true) (w0_4 : (Lit.int .i64 a0_4).wf = true) (w0_5 : (Lit.int .i64 a0_5).wf = true) (hm1 : l1.length ≤ maxLen) (w1 : ∀ x ∈ l1, (Lit.int .i64 x).wf = true) :
    ∃ k, laws_FnExactNextTable.f k l0_0 a0_1 a0_2 a0_3 a0_4 a0_5 l1 = some true := by
  refine Ev.rounds (g := fun k => laws_FnExactNextTable.f k l0_0 a0_1 a0_2 a0_3 a0_4 a0_5 l1) ?_
  unfold laws_FnExactNextTable.f
  by_cases hs1' : (l1.length : Int) > 1048576
  · exact ev_pos hs1' (ev_now rfl)
  refine ev_neg hs1' ?_
  have hs1 : l1.length ≤ 1048576 := by omega
  refine ev_bindc (szTable_eq l0_0 a0_1 a0_2 a0_3 a0_4 a0_5 1048576 (by decide) (by decide) hm0_0) ?_
  by_cases hs : (1048576 : Int) - l0_0.length < 0
  · rw [if_pos hs]; exact ev_pos (by decide) (ev_now rfl)
  rw [if_neg hs]
  refine ev_neg hs ?_
  have hl : l0_0.length ≤ 1048576 := by omega
  have hq := NextM_len l0_0 a0_1 a0_2 a0_3 a0_4 a0_5 l1 hl
  refine Ev.bind (toTable_ev l0_0 a0_1 a0_2 a0_3 a0_4 a0_5 (by omega)) (Ev.bind (toInt64S_ev l1 (by omega)) (Ev.bind (specNext_ev l0_0 a0_1 a0_2 a0_3 a0_4 a0_5 l1 hl) (Ev.bind (toTable_ev l0_0 a0_1 a0_2 a0_3 a0_4 a0_5 (by omega)) (Ev.bind (toInt64S_ev l1 (by omega)) (Ev.bind (implNext_ev l0_0 a0_1 a0_2 a0_3 a0_4 a0_5 l1 hl hs1) ?_)))))
  refine Ev.bind (eqTable_ev (NextM l0_0 a0_1 a0_2 a0_3 a0_4 a0_5 l1).1 (NextM l0_0 a0_1 a0_2 a0_3 a0_4 a0_5 l1).2.1 (NextM l0_0 a0_1 a0_2 a0_3 a0_4 a0_5 l1).2.2.1 (NextM l0_0 a0_1 a0_2 a0_3 a0_4 a0_5 l1).2.2.2.1 (NextM l0_0 a0_1 a0_2 a0_3 a0_4 a0_5 l1).2.2.2.2.1 (NextM l0_0 a0_1 a0_2 a0_3 a0_4 a0_5 l1).2.2.2.2.2.1 (by omega)) (ev_pos rfl (Ev.step (fun k => laws_FnExactNextTable.j0.eq_2 _ _ _ _ _ _ _ _ _ _ _ _ _ _ _ _ _ _ _ _ _ _ _ _ _ _ _ _ _  k) (ev_neg (by simp) ?_)))
  refine Ev.bind (toTable_ev l0_0 a0_1 a0_2 a0_3 a0_4 a0_5 (by omega)) (Ev.bind (eqTable_ev l0_0 a0_1 a0_2 a0_3 a0_4 a0_5 (by omega)) (ev_pos rfl (Ev.bind (toInt64S_ev l1 (by omega)) (Ev.bind (eqInt64S_ev rfl (by omega)) (ev_pos rfl ?_)))))
  refine Ev.bind (markTable_ev l0_0 a0_1 a0_2 a0_3 a0_4 a0_5 1 (by omega) (by omega) (by omega)) (Ev.bind (markInt64S_ev l1 _ (by omega) (by simp; omega) (by simp; omega)) (ev_neg (by simp; omega) ?_))
  refine Ev.bind (eqTable_ev (NextM l0_0 a0_1 a0_2 a0_3 a0_4 a0_5 l1).1 (NextM l0_0 a0_1 a0_2 a0_3 a0_4 a0_5 l1).2.1 (NextM l0_0 a0_1 a0_2 a0_3 a0_4 a0_5 l1).2.2.1 (NextM l0_0 a0_1 a0_2 a0_3 a0_4 a0_5 l1).2.2.2.1 (NextM l0_0 a0_1 a0_2 a0_3 a0_4 a0_5 l1).2.2.2.2.1 (NextM l0_0 a0_1 a0_2 a0_3 a0_4 a0_5 l1).2.2.2.2.2.1 (by omega)) (ev_pos rfl (Ev.step (fun k => laws_FnExactNextTable.j1.eq_2 _ _ _ _ _ _ _ _ _ _ _ _ _ _ _ _ _ _ _ _ _  k) (ev_neg (by simp) ?_)))
  refine Ev.bind (markTable_ev (NextM l0_0 a0_1 a0_2 a0_3 a0_4 a0_5 l1).1 (NextM l0_0 a0_1 a0_2 a0_3 a0_4 a0_5 l1).2.1 (NextM l0_0 a0_1 a0_2 a0_3 a0_4 a0_5 l1).2.2.1 (NextM l0_0 a0_1 a0_2 a0_3 a0_4 a0_5 l1).2.2.2.1 (NextM l0_0 a0_1 a0_2 a0_3 a0_4 a0_5 l1).2.2.2.2.1 (NextM l0_0 a0_1 a0_2 a0_3 a0_4 a0_5 l1).2.2.2.2.2.1 1 (by omega) (by omega) (by omega)) (Ev.bind (heldTable_ev (NextM l0_0 a0_1 a0_2 a0_3 a0_4 a0_5 l1).1 (NextM l0_0 a0_1 a0_2 a0_3 a0_4 a0_5 l1).2.1 (NextM l0_0 a0_1 a0_2 a0_3 a0_4 a0_5 l1).2.2.1 (NextM l0_0 a0_1 a0_2 a0_3 a0_4 a0_5 l1).2.2.2.1 (NextM l0_0 a0_1 a0_2 a0_3 a0_4 a0_5 l1).2.2.2.2.1 (NextM l0_0 a0_1 a0_2 a0_3 a0_4 a0_5 l1).2.2.2.2.2.1 1 (by omega) (by omega) (by omega)) (ev_neg (by simp; omega) (ev_pos rfl ?_)))
  refine Ev.bind (toTable_ev l0_0 a0_1 a0_2 a0_3 a0_4 a0_5 (by omega)) (Ev.bind (toInt64S_ev l1 (by omega)) (Ev.bind (implNext_ev l0_0 a0_1 a0_2 a0_3 a0_4 a0_5 l1 hl hs1) ?_))
  refine Ev.bind (eqTable_ev (NextM l0_0 a0_1 a0_2 a0_3 a0_4 a0_5 l1).1 (NextM l0_0 a0_1 a0_2 a0_3 a0_4 a0_5 l1).2.1 (NextM l0_0 a0_1 a0_2 a0_3 a0_4 a0_5 l1).2.2.1 (NextM l0_0 a0_1 a0_2 a0_3 a0_4 a0_5 l1).2.2.2.1 (NextM l0_0 a0_1 a0_2 a0_3 a0_4 a0_5 l1).2.2.2.2.1 (NextM l0_0 a0_1 a0_2 a0_3 a0_4 a0_5 l1).2.2.2.2.2.1 (by omega)) (ev_pos rfl (Ev.step (fun k => laws_FnExactNextTable.j2.eq_2 _ _ _ _ _ _ _ _  k) (ev_neg (by simp) ?_)))
  exact Ev.bind (heldTable_ev (NextM l0_0 a0_1 a0_2 a0_3 a0_4 a0_5 l1).1 (NextM l0_0 a0_1 a0_2 a0_3 a0_4 a0_5 l1).2.1 (NextM l0_0 a0_1 a0_2 a0_3 a0_4 a0_5 l1).2.2.1 (NextM l0_0 a0_1 a0_2 a0_3 a0_4 a0_5 l1).2.2.2.1 (NextM l0_0 a0_1 a0_2 a0_3 a0_4 a0_5 l1).2.2.2.2.1 (NextM l0_0 a0_1 a0_2 a0_3 a0_4 a0_5 l1).2.2.2.2.2.1 1 (by omega) (by omega) (by omega)) (ev_neg (by simp; omega) (ev_pos rfl (ev_now rfl)))
end Go.Proofs.Ytdagljakajpdjaa.Pure
