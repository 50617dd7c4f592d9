/- For every betting round the program's Contributions returns what the reference's returns, leaves its argument alone, and its result is memory of its own. No conditions. -/
import Derived.Test.YtmcobmphmmgdmaaZFnExactContributionsx7
import Derived.Test.YtmcobmphmmgdmaaZFnExactContributionsEv
namespace Go.Proofs.Ytmcobmphmmgdmaa.Pure
open Go.RowKit Go.Proofs.Ytmcobmphmmgdmaa.QFnExactContributions Go.Proofs.YtmcobmphmmgdmaaW.PrintWords Go.Proofs.YtmcobmphmmgdmaaW.PrintLast Go.Proofs.YtmcobmphmmgdmaaW.PrintMore Go.Proofs.Ytmcobmphmmgdmaa.EvBase
set_option linter.unusedVariables false
set_option linter.unusedSimpArgs false
namespace LFnExactContributions
theorem l01In_eq (a lo hi : Int) : spec_l01In.f a lo hi = some (inR lo hi a) := by
  unfold spec_l01In.f inR
  by_cases h : a ≥ lo
  · rw [if_pos h]; simp [h]
  · rw [if_neg h]; simp; omega
theorem within_eq (a lo hi : Int) : impl_within.f a lo hi = some (inR lo hi a) := by
  unfold impl_within.f inR
  by_cases h : a ≥ lo
  · rw [if_pos h]; simp [h]
  · rw [if_neg h]; simp; omega
theorem toInt64S_l0 : ∀ (s pre z : List Int), z.length = s.length → pre.length + s.length ≤ 1000000000000 →
    Ev (fun k => laws_toInt64S.l0 k (pre ++ s) (pre ++ z) (pre.length : Int)) (pre ++ s)
  | [], pre, z, hz, hl => by
    obtain rfl : z = [] := by simpa using hz
    refine Ev.step (fun k => laws_toInt64S.l0.eq_2 _ _ _ k) ?_
    exact ev_neg (by simp) (ev_now rfl)
  | x :: s, pre, z, hz, hl => by
    obtain ⟨y, z, rfl⟩ : ∃ y z', z = y :: z' := by cases z with
      | nil => simp at hz
      | cons y z => exact ⟨y, z, rfl⟩
    have hl' : pre.length + (s.length + 1) ≤ 1000000000000 := hl
    refine Ev.step (fun k => laws_toInt64S.l0.eq_2 _ _ _ k) ?_
    refine ev_pos (by simp; omega) (ev_pos (by omega) (ev_pos (by simp; omega) ?_))
    rw [rd_at, set_at, w64 (by omega) (by omega), len_snoc pre x, app_snoc pre s x]
    have hlen : ((pre ++ [x]).length : Int) = (pre ++ [x]).length := rfl
    exact toInt64S_l0 s (pre ++ [x]) z (by simpa using hz) (by simp; omega)
theorem toInt64S_ev (l : List Int) (hl : l.length ≤ 1000000000000) : Ev (fun k => laws_toInt64S.f k l) l := by
  unfold laws_toInt64S.f
  refine ev_pos (by omega) (ev_pos (by simp; omega) ?_)
  have h := toInt64S_l0 l [] (List.replicate l.length 0) (by simp) (by simpa using hl)
  simpa using h
theorem eqInt64S_l0 : ∀ (s pre : List Int), pre.length + s.length ≤ 1000000000000 →
    Ev (fun k => laws_eqInt64S.l0 k (pre ++ s) (pre ++ s) (pre.length : Int)) true
  | [], pre, hl => by
    refine Ev.step (fun k => laws_eqInt64S.l0.eq_2 _ _ _ k) ?_
    exact ev_neg (by simp) (ev_now rfl)
  | x :: s, pre, hl => by
    have hl' : pre.length + (s.length + 1) ≤ 1000000000000 := hl
    refine Ev.step (fun k => laws_eqInt64S.l0.eq_2 _ _ _ k) ?_
    refine ev_pos (by simp; omega) (ev_pos (by omega) (ev_pos (by simp; omega) (ev_pos rfl ?_)))
    rw [w64 (by omega) (by omega), len_snoc pre x, app_snoc pre s x]
    exact eqInt64S_l0 s (pre ++ [x]) (by simp; omega)
theorem eqInt64S_ev {a b : List Int} (e : a = b) (hl : a.length ≤ 1000000000000) : Ev (fun k => laws_eqInt64S.f k a b) true := by
  subst e
  unfold laws_eqInt64S.f
  refine ev_pos rfl ?_
  simpa using eqInt64S_l0 a [] (by simpa using hl)
theorem markInt64S_l0 : ∀ (s pre : List Int) (m : Int), pre.length + s.length ≤ 1000000000000 → 0 ≤ m → m + s.length ≤ 1000000000000000 →
    Ev (fun k => laws_markInt64S.l0 k (pre ++ s) m (pre.length : Int)) (m + s.length, pre ++ marks m s)
  | [], pre, m, hl, h0, hm => by
    refine Ev.step (fun k => laws_markInt64S.l0.eq_2 _ _ _ k) ?_
    exact ev_neg (by simp) (ev_now (by simp [marks]))
  | x :: s, pre, m, hl, h0, hm => by
    have hl' : pre.length + (s.length + 1) ≤ 1000000000000 := hl
    have hm' : m + ((s.length : Int) + 1) ≤ 1000000000000000 := by simpa using hm
    refine Ev.step (fun k => laws_markInt64S.l0.eq_2 _ _ _ k) ?_
    refine ev_pos (by simp; omega) (ev_pos (by omega) ?_)
    rw [set_at, w64 (by omega) (by omega), w64 (by omega) (by omega), len_snoc pre m]
    have h := markInt64S_l0 s (pre ++ [m]) (m + 1) (by simp; omega) (by omega) (by omega)
    have e : (m + ((x :: s).length : Int), pre ++ marks m (x :: s)) = (m + 1 + (s.length : Int), pre ++ [m] ++ marks (m + 1) s) := by
      simp [marks]; omega
    rw [e]; exact h
theorem markInt64S_ev (l : List Int) (m : Int) (hl : l.length ≤ 1000000000000) (h0 : 0 ≤ m) (hm : m + l.length ≤ 1000000000000000) :
    Ev (fun k => laws_markInt64S.f k l m) (m + l.length, marks m l) := by
  unfold laws_markInt64S.f
  simpa using markInt64S_l0 l [] m (by simpa using hl) h0 hm
theorem heldInt64S_l0 : ∀ (s pre : List Int) (m : Int), pre.length + s.length ≤ 1000000000000 → 0 ≤ m → m + s.length ≤ 1000000000000000 →
    Ev (fun k => laws_heldInt64S.l0 k (pre ++ marks m s) m (pre.length : Int)) (m + s.length)
  | [], pre, m, hl, h0, hm => by
    refine Ev.step (fun k => laws_heldInt64S.l0.eq_2 _ _ _ k) ?_
    exact ev_neg (by simp [marks]) (ev_now (by simp))
  | x :: s, pre, m, hl, h0, hm => by
    have hl' : pre.length + (s.length + 1) ≤ 1000000000000 := hl
    have hm' : m + ((s.length : Int) + 1) ≤ 1000000000000000 := by simpa using hm
    refine Ev.step (fun k => laws_heldInt64S.l0.eq_2 _ _ _ k) ?_
    show Ev (fun k => if (pre.length : Int) < (((pre ++ m :: marks (m + 1) s).length : Nat) : Int) then _ else _) _
    refine ev_pos (by simp; omega) (ev_pos (by omega) (ev_pos (rd_at _ _ _) ?_))
    show Ev (fun k => laws_heldInt64S.l0 k (pre ++ m :: marks (m + 1) s) _ _) _
    rw [w64 (by omega) (by omega), w64 (by omega) (by omega), len_snoc pre m, app_snoc pre _ m]
    have h := heldInt64S_l0 s (pre ++ [m]) (m + 1) (by simp; omega) (by omega) (by omega)
    have e : m + ((x :: s).length : Int) = m + 1 + (s.length : Int) := by simp; omega
    rw [e]; exact h
theorem heldInt64S_ev (l : List Int) (m : Int) (hl : l.length ≤ 1000000000000) (h0 : 0 ≤ m) (hm : m + l.length ≤ 1000000000000000) :
    Ev (fun k => laws_heldInt64S.f k (marks m l) m) (m + l.length) := by
  unfold laws_heldInt64S.f
  simpa using heldInt64S_l0 l [] m (by simpa using hl) h0 hm
theorem allWithin_l0 (lo hi : Int) : ∀ (s pre : List Int), pre.length + s.length ≤ 1000000000000 →
    Ev (fun k => impl_allWithin.l0 k lo hi (pre ++ s) ((pre ++ s).length : Int) (pre.length : Int)) (s.all (inR lo hi))
  | [], pre, hl => by
    refine Ev.step (fun k => impl_allWithin.l0.eq_2 _ _ _ _ _ k) ?_
    exact ev_neg (by simp) (ev_now rfl)
  | x :: s, pre, hl => by
    have hl' : pre.length + (s.length + 1) ≤ 1000000000000 := hl
    refine Ev.step (fun k => impl_allWithin.l0.eq_2 _ _ _ _ _ k) ?_
    refine ev_pos (by simp; omega) (ev_pos (by omega) (ev_pos (by simp; omega) ?_))
    rw [rd_at]
    refine ev_bindc (within_eq _ _ _) ?_
    by_cases hin : inR lo hi x = true
    · refine ev_pos hin ?_
      rw [w64 (by omega) (by omega), len_snoc pre x, app_snoc pre s x]
      have h := allWithin_l0 lo hi s (pre ++ [x]) (by simp; omega)
      simpa only [List.all_cons, hin, Bool.true_and] using h
    · refine ev_neg hin (ev_now ?_)
      simp only [Bool.not_eq_true] at hin
      simp [hin]
theorem allWithin_ev (l : List Int) (lo hi : Int) (hl : l.length ≤ 1000000000000) : Ev (fun k => impl_allWithin.f k l lo hi) (l.all (inR lo hi)) := by
  unfold impl_allWithin.f
  simpa using allWithin_l0 lo hi l [] (by simpa using hl)
theorem szInt64S_eq (l : List Int) (a : Int) (h0 : 0 ≤ a) (h1 : a ≤ 1048576) (hl : l.length ≤ maxLen) : laws_szInt64S.f l a = some (if a - l.length < 0 then -1 else a - l.length) := by
  unfold maxLen at hl
  unfold laws_szInt64S.f
  rw [w64 (by omega) (by omega)]
  split <;> rfl
theorem specSum_l0 : ∀ (s pre : List Int) (acc : Int), pre.length + s.length ≤ 1000000000000 →
    Ev (fun k => spec_l01Sum.l0 k (pre ++ s) acc (pre.length : Int)) (sumM acc s)
  | [], pre, acc, hl => by
    refine Ev.step (fun k => spec_l01Sum.l0.eq_2 _ _ _ k) ?_
    exact ev_neg (by simp) (ev_now rfl)
  | x :: s, pre, acc, hl => by
    have hl' : pre.length + (s.length + 1) ≤ 1000000000000 := hl
    refine Ev.step (fun k => spec_l01Sum.l0.eq_2 _ _ _ k) ?_
    refine ev_pos (by simp; omega) (ev_pos (by omega) ?_)
    rw [rd_at, w64 (n := (pre.length : Int) + 1) (by omega) (by omega), len_snoc pre x, app_snoc pre s x]
    exact specSum_l0 s (pre ++ [x]) (wrap64 (acc + x)) (by simp; omega)
theorem specSum_ev (l : List Int) (hl : l.length ≤ 1000000000000) : Ev (fun k => spec_l01Sum.f k l) (sumM 0 l) := by
  unfold spec_l01Sum.f
  exact specSum_l0 l [] 0 (by simpa using hl)
theorem implSum_l0 : ∀ (s pre : List Int) (acc : Int), pre.length + s.length ≤ 1000000000000 →
    Ev (fun k => impl_sumOf.l0 k acc (pre ++ s) ((pre ++ s).length : Int) (pre.length : Int)) (sumM acc s)
  | [], pre, acc, hl => by
    refine Ev.step (fun k => impl_sumOf.l0.eq_2 _ _ _ _ k) ?_
    exact ev_neg (by simp) (ev_now rfl)
  | x :: s, pre, acc, hl => by
    have hl' : pre.length + (s.length + 1) ≤ 1000000000000 := hl
    refine Ev.step (fun k => impl_sumOf.l0.eq_2 _ _ _ _ k) ?_
    refine ev_pos (by simp; omega) (ev_pos (by omega) (ev_pos (by simp; omega) ?_))
    rw [rd_at, w64 (n := (pre.length : Int) + 1) (by omega) (by omega), len_snoc pre x, app_snoc pre s x]
    exact implSum_l0 s (pre ++ [x]) (wrap64 (acc + x)) (by simp; omega)
theorem implSum_ev (l : List Int) (hl : l.length ≤ 1000000000000) : Ev (fun k => impl_sumOf.f k l) (sumM 0 l) := by
  unfold impl_sumOf.f
  exact implSum_l0 l [] 0 (by simpa using hl)
theorem szBoolS_eq (l : List Bool) (a : Int) (h0 : 0 ≤ a) (h1 : a ≤ 1048576) (hl : l.length ≤ maxLen) : laws_szBoolS.f l a = some (if a - l.length < 0 then -1 else a - l.length) := by
  unfold maxLen at hl
  unfold laws_szBoolS.f
  rw [w64 (by omega) (by omega)]
  split <;> rfl
theorem szBetting_ev (l0 l1 l2 : List Int) (l3 l4 : List Bool) (t u ra li : Int) (h0 : l0.length ≤ maxLen) (h1 : l1.length ≤ maxLen) (h2 : l2.length ≤ maxLen) (h3 : l3.length ≤ maxLen) (h4 : l4.length ≤ maxLen) :
    laws_szBetting.f l0 l1 l2 l3 l4 t u ra li 1048576 = some (-1) ∨
    (∃ n, 0 ≤ n ∧ laws_szBetting.f l0 l1 l2 l3 l4 t u ra li 1048576 = some n ∧ l0.length + l1.length + l2.length + l3.length + l4.length ≤ 1048576) := by
  unfold laws_szBetting.f
  rw [szInt64S_eq l0 1048576 (by omega) (by omega) h0]
  simp only [Option.bind_some]
  by_cases c0 : (1048576 : Int) - l0.length < 0
  · left; simp only [if_pos c0]; rfl
  simp only [if_neg c0]
  rw [szInt64S_eq l1 _ (by omega) (by omega) h1]
  simp only [Option.bind_some]
  by_cases c1 : (1048576 : Int) - l0.length - l1.length < 0
  · left; simp only [if_pos c1]; rfl
  simp only [if_neg c1]
  rw [szInt64S_eq l2 _ (by omega) (by omega) h2]
  simp only [Option.bind_some]
  by_cases c2 : (1048576 : Int) - l0.length - l1.length - l2.length < 0
  · left; simp only [if_pos c2]; rfl
  simp only [if_neg c2]
  rw [szBoolS_eq l3 _ (by omega) (by omega) h3]
  simp only [Option.bind_some]
  by_cases c3 : (1048576 : Int) - l0.length - l1.length - l2.length - l3.length < 0
  · left; simp only [if_pos c3]; rfl
  simp only [if_neg c3]
  rw [szBoolS_eq l4 _ (by omega) (by omega) h4]
  simp only [Option.bind_some]
  by_cases c4 : (1048576 : Int) - l0.length - l1.length - l2.length - l3.length - l4.length < 0
  · left; simp only [if_pos c4]; rfl
  · right; simp only [if_neg c4]; exact ⟨_, by omega, rfl, by omega⟩
theorem toBoolS_l0 : ∀ (s pre z : List Bool), z.length = s.length → pre.length + s.length ≤ 1000000000000 →
    Ev (fun k => laws_toBoolS.l0 k (pre ++ s) (pre ++ z) (pre.length : Int)) (pre ++ s)
  | [], pre, z, hz, hl => by
    obtain rfl : z = [] := by simpa using hz
    refine Ev.step (fun k => laws_toBoolS.l0.eq_2 _ _ _ k) ?_
    exact ev_neg (by simp) (ev_now rfl)
  | x :: s, pre, z, hz, hl => by
    obtain ⟨y, z, rfl⟩ : ∃ y z', z = y :: z' := by cases z with
      | nil => simp at hz
      | cons y z => exact ⟨y, z, rfl⟩
    have hl' : pre.length + (s.length + 1) ≤ 1000000000000 := hl
    refine Ev.step (fun k => laws_toBoolS.l0.eq_2 _ _ _ k) ?_
    refine ev_pos (by simp; omega) (ev_pos (by omega) (ev_pos (by simp; omega) ?_))
    rw [rd_at', set_at, w64 (by omega) (by omega), len_snoc pre x, app_snoc pre s x]
    exact toBoolS_l0 s (pre ++ [x]) z (by simpa using hz) (by simp; omega)
theorem toBoolS_ev (l : List Bool) (hl : l.length ≤ 1000000000000) : Ev (fun k => laws_toBoolS.f k l) l := by
  unfold laws_toBoolS.f
  refine ev_pos (by omega) (ev_pos (by simp; omega) ?_)
  have h := toBoolS_l0 l [] (List.replicate l.length false) (by simp) (by simpa using hl)
  simpa using h
theorem toBetting_ev (l0 l1 l2 : List Int) (l3 l4 : List Bool) (t u ra li : Int) (hl : l0.length + l1.length + l2.length + l3.length + l4.length ≤ 1048576) :
    Ev (fun k => laws_toBetting.f k l0 l1 l2 l3 l4 t u ra li) (l0, l1, l2, l3, l4, t, u, ra, li) := by
  unfold laws_toBetting.f
  exact Ev.bind (toInt64S_ev l0 (by omega)) (Ev.bind (toInt64S_ev l1 (by omega)) (Ev.bind (toInt64S_ev l2 (by omega)) (Ev.bind (toBoolS_ev l3 (by omega)) (Ev.bind (toBoolS_ev l4 (by omega)) (ev_now rfl)))))
theorem eqBoolS_l0 : ∀ (s pre : List Bool), pre.length + s.length ≤ 1000000000000 →
    Ev (fun k => laws_eqBoolS.l0 k (pre ++ s) (pre ++ s) (pre.length : Int)) true
  | [], pre, hl => by
    refine Ev.step (fun k => laws_eqBoolS.l0.eq_2 _ _ _ k) ?_
    exact ev_neg (by simp) (ev_now rfl)
  | x :: s, pre, hl => by
    have hl' : pre.length + (s.length + 1) ≤ 1000000000000 := hl
    refine Ev.step (fun k => laws_eqBoolS.l0.eq_2 _ _ _ k) ?_
    refine ev_pos (by simp; omega) (ev_pos (by omega) (ev_pos (by simp; omega) (ev_neg (by simp) ?_)))
    rw [w64 (by omega) (by omega), len_snoc pre x, app_snoc pre s x]
    exact eqBoolS_l0 s (pre ++ [x]) (by simp; omega)
theorem eqBoolS_ev {a b : List Bool} (e : a = b) (hl : a.length ≤ 1000000000000) : Ev (fun k => laws_eqBoolS.f k a b) true := by
  subst e
  unfold laws_eqBoolS.f
  refine ev_pos rfl ?_
  simpa using eqBoolS_l0 a [] (by simpa using hl)
theorem eqBetting_ev (l0 l1 l2 : List Int) (l3 l4 : List Bool) (t u ra li : Int) (hl : l0.length + l1.length + l2.length + l3.length + l4.length ≤ 1048576) :
    Ev (fun k => laws_eqBetting.f k l0 l1 l2 l3 l4 t u ra li l0 l1 l2 l3 l4 t u ra li) true := by
  unfold laws_eqBetting.f
  exact Ev.bind (eqInt64S_ev rfl (by omega)) (ev_pos rfl (Ev.bind (eqInt64S_ev rfl (by omega)) (ev_pos rfl (Ev.bind (eqInt64S_ev rfl (by omega)) (ev_pos rfl (Ev.bind (eqBoolS_ev rfl (by omega)) (ev_pos rfl (Ev.bind (eqBoolS_ev rfl (by omega)) (ev_pos rfl (ev_pos rfl (ev_pos rfl (ev_pos rfl (ev_pos rfl (ev_now rfl))))))))))))))
def bettingB (l0 l1 l2 : List Int) (l3 l4 : List Bool) (t u ra li : Int) : Bool :=
  inR 2 6 (l0.length : Int) && (decide (l1.length = l0.length) && (decide (l2.length = l0.length) && (decide (l3.length = l0.length) && (decide (l4.length = l0.length) && (l0.all (inR 0 600000) && (l1.all (inR 0 600000) && (l2.all (inR 0 600000) &&
  (decide (sumM 0 l0 + sumM 0 l1 + sumM 0 l2 ≤ 600000) && (l3.contains false && (inR 0 ((l0.length : Int) - 1) t && (inR 1 100000 u && (inR 0 4 ra && inR 0 2 li))))))))))))
theorem sum_bound : ∀ (l : List Int) (acc : Int), l.all (inR 0 600000) = true → 0 ≤ acc → acc + 600000 * (l.length : Int) ≤ 1000000000000 → 0 ≤ sumM acc l ∧ sumM acc l ≤ acc + 600000 * (l.length : Int)
  | [], acc, h, h0, h1 => by simp [sumM]; omega
  | x :: l, acc, h, h0, h1 => by
    simp only [List.all_cons, Bool.and_eq_true, inR_iff] at h
    have h1' : acc + 600000 * ((l.length : Int) + 1) ≤ 1000000000000 := by simpa using h1
    have ih := sum_bound l (acc + x) h.2 (by omega) (by omega)
    have e : wrap64 (acc + x) = acc + x := w64 (by omega) (by omega)
    simp only [sumM, e, List.length_cons]
    omega
theorem betting_bounds {l0 l1 l2 : List Int} {l3 l4 : List Bool} {t u ra li : Int} (h : bettingB l0 l1 l2 l3 l4 t u ra li = true) :
    2 ≤ l0.length ∧ l0.length ≤ 6 ∧ l1.length = l0.length ∧ l2.length = l0.length ∧ l3.length = l0.length ∧ l4.length = l0.length ∧ l0.all (inR 0 600000) = true ∧ l1.all (inR 0 600000) = true ∧ l2.all (inR 0 600000) = true ∧
    sumM 0 l0 + sumM 0 l1 + sumM 0 l2 ≤ 600000 ∧ l3.contains false = true ∧ 0 ≤ t ∧ t < l0.length ∧ 1 ≤ u ∧ u ≤ 100000 ∧ 0 ≤ ra ∧ ra ≤ 4 ∧ 0 ≤ li ∧ li ≤ 2 := by
  simp only [bettingB, Bool.and_eq_true, inR_iff, decide_eq_true_eq] at h
  obtain ⟨h1, n1, n2, n3, n4, a0, a1, a2, s, c, d1, d2, d3, d4⟩ := h
  exact ⟨by omega, by omega, n1, n2, n3, n4, a0, a1, a2, s, c, by omega, by omega, by omega, by omega, by omega, by omega, by omega, by omega⟩
def ChipsInM (l0 l1 l2 : List Int) (l3 l4 : List Bool) (t u ra li : Int) : Int × Int := if bettingB l0 l1 l2 l3 l4 t u ra li = true then (sumM 0 l0 + sumM 0 l1 + sumM 0 l2, 0) else (0, 1)
def PotInM (l0 l1 l2 : List Int) (l3 l4 : List Bool) (t u ra li : Int) : Int × Int := if bettingB l0 l1 l2 l3 l4 t u ra li = true then (sumM 0 l1 + sumM 0 l2, 0) else (0, 1)
def liveM : Int → List Bool → List Int
  | _, [] => []
  | i, x :: s => if x = true then liveM (i + 1) s else i :: liveM (i + 1) s
theorem liveM_len : ∀ (s : List Bool) (i : Int), (liveM i s).length ≤ s.length
  | [], i => by simp [liveM]
  | x :: s, i => by
    have := liveM_len s (i + 1)
    unfold liveM
    split <;> simp <;> omega
theorem liveM_pos : ∀ (s : List Bool) (i : Int), s.contains false = true → 1 ≤ (liveM i s).length
  | [], i, h => by simp at h
  | x :: s, i, h => by
    unfold liveM
    cases x with
    | true => simp only [if_true]; exact liveM_pos s (i + 1) (by simpa [List.contains_cons] using h)
    | false => simp
def WinnerM (l0 l1 l2 : List Int) (l3 l4 : List Bool) (t u ra li : Int) : Int × Int := if bettingB l0 l1 l2 l3 l4 t u ra li = true then (if ((liveM 0 l3).length : Int) > 1 then (0, 5) else (rd (liveM 0 l3) 0, 0)) else (0, 1)
def LiveSeatsM (l0 l1 l2 : List Int) (l3 l4 : List Bool) (t u ra li : Int) : List Int × Int := if bettingB l0 l1 l2 l3 l4 t u ra li = true then (liveM 0 l3, 0) else ([], 1)
theorem LiveSeatsM_len (l0 l1 l2 : List Int) (l3 l4 : List Bool) (t u ra li : Int) (hl : l0.length + l1.length + l2.length + l3.length + l4.length ≤ 1048576) : (LiveSeatsM l0 l1 l2 l3 l4 t u ra li).1.length ≤ 1048576 := by
  have := liveM_len l3 0
  unfold LiveSeatsM
  split
  · simp only; omega
  · simp
def canM (l0 : List Int) (l3 : List Bool) (i : Int) : Bool := !(rdOf false l3 i) && decide (rd l0 i > 0)
def cntB (l0 : List Int) (l3 : List Bool) : Nat → Int → Int
  | 0, _ => 0
  | d + 1, i => (if canM l0 l3 i = true then 1 else 0) + cntB l0 l3 d (i + 1)
def othB (l0 : List Int) (l3 : List Bool) (seat : Int) : Nat → Int → Bool
  | 0, _ => false
  | d + 1, i => if i = seat then othB l0 l3 seat d (i + 1) else if canM l0 l3 i = true then true else othB l0 l3 seat d (i + 1)
theorem cntB_nonneg (l0 : List Int) (l3 : List Bool) : ∀ (d : Nat) (i : Int), 0 ≤ cntB l0 l3 d i ∧ cntB l0 l3 d i ≤ d
  | 0, i => by simp [cntB]
  | d + 1, i => by
    have := cntB_nonneg l0 l3 d (i + 1)
    unfold cntB
    split <;> omega
theorem oth_past (l0 : List Int) (l3 : List Bool) (seat : Int) : ∀ (d : Nat) (i : Int), seat < i → othB l0 l3 seat d i = decide (cntB l0 l3 d i > 0)
  | 0, i, h => by simp [othB, cntB]
  | d + 1, i, h => by
    have hn := cntB_nonneg l0 l3 d (i + 1)
    unfold othB cntB
    rw [if_neg (by omega)]
    by_cases c : canM l0 l3 i = true
    · rw [if_pos c, if_pos c]; simp; omega
    · rw [if_neg c, if_neg c, oth_past l0 l3 seat d (i + 1) (by omega)]; simp
theorem oth_cnt (l0 : List Int) (l3 : List Bool) (seat : Int) (hs : canM l0 l3 seat = true) : ∀ (d : Nat) (i : Int), i ≤ seat → seat < i + d → othB l0 l3 seat d i = decide (cntB l0 l3 d i > 1)
  | 0, i, h, h2 => by omega
  | d + 1, i, h, h2 => by
    unfold othB cntB
    by_cases e : i = seat
    · subst e
      rw [if_pos rfl, if_pos hs, oth_past l0 l3 i d (i + 1) (by omega)]
      congr 1; simp; omega
    · rw [if_neg e]
      have ih := oth_cnt l0 l3 seat hs d (i + 1) (by omega) (by omega)
      have pos : 1 ≤ cntB l0 l3 d (i + 1) := cnt_pos l0 l3 seat hs d (i + 1) (by omega) (by omega)
      by_cases c : canM l0 l3 i = true
      · rw [if_pos c, if_pos c]; simp; omega
      · rw [if_neg c, if_neg c, ih]; simp
where cnt_pos (l0 : List Int) (l3 : List Bool) (seat : Int) (hs : canM l0 l3 seat = true) : ∀ (d : Nat) (i : Int), i ≤ seat → seat < i + d → 1 ≤ cntB l0 l3 d i
  | 0, i, h, h2 => by omega
  | d + 1, i, h, h2 => by
    have hn := cntB_nonneg l0 l3 d (i + 1)
    unfold cntB
    by_cases e : i = seat
    · subst e; rw [if_pos hs]; omega
    · have := cnt_pos l0 l3 seat hs d (i + 1) (by omega) (by omega)
      split <;> omega
def maxM : Int → List Int → Int
  | a, [] => a
  | a, x :: s => maxM (mx a x) s
def hasM (l0 l1 : List Int) (l3 l4 : List Bool) (seat : Int) : Bool :=
  canM l0 l3 seat && (decide (rd l1 seat < maxM 0 l1) || (!(rdOf false l4 seat) && othB l0 l3 seat l0.length 0))
def isOpenB (l0 l1 l2 : List Int) (l3 l4 : List Bool) (t u ra li : Int) : Bool := bettingB l0 l1 l2 l3 l4 t u ra li && hasM l0 l1 l3 l4 t
def isSettledB (l0 l1 l2 : List Int) (l3 l4 : List Bool) (t u ra li : Int) : Bool :=
  bettingB l0 l1 l2 l3 l4 t u ra li && (!(hasM l0 l1 l3 l4 t) && (decide (cntB l0 l3 l0.length 0 < 2) || decide (((liveM 0 l3).length : Int) < 2)))
theorem specChips_l0 (n : Int) : ∀ (s pre : List Int), pre.length + s.length ≤ 1000000000000 →
    Ev (fun k => spec_l10Chips.l0 k (pre ++ s) n (pre.length : Int)) (s.all (inR 0 600000) && (((pre ++ s).length : Int) == n))
  | [], pre, hl => by
    refine Ev.step (fun k => spec_l10Chips.l0.eq_2 _ _ _ k) ?_
    exact ev_neg (by simp) (ev_now (by simp))
  | x :: s, pre, hl => by
    have hl' : pre.length + (s.length + 1) ≤ 1000000000000 := hl
    refine Ev.step (fun k => spec_l10Chips.l0.eq_2 _ _ _ k) ?_
    refine ev_pos (by simp; omega) (ev_pos (by omega) ?_)
    rw [rd_at]
    refine ev_bindc (l01In_eq _ _ _) ?_
    by_cases hin : inR 0 600000 x = true
    · refine ev_pos hin ?_
      rw [w64 (by omega) (by omega), len_snoc pre x, app_snoc pre s x]
      have h := specChips_l0 n s (pre ++ [x]) (by simp; omega)
      simpa only [List.all_cons, hin, Bool.true_and] using h
    · refine ev_neg hin (ev_now ?_)
      simp only [Bool.not_eq_true] at hin
      simp [hin]
theorem specChips_ev (l : List Int) (n : Int) (hl : l.length ≤ 1000000000000) : Ev (fun k => spec_l10Chips.f k l n) (l.all (inR 0 600000) && ((l.length : Int) == n)) := by
  unfold spec_l10Chips.f
  exact specChips_l0 n l [] (by simpa using hl)
theorem implChipsIn_ev (l0 l1 l2 : List Int) (l3 l4 : List Bool) (t u ra li : Int) (h0 : l0.length ≤ 6) (h1 : l1.length ≤ 6) (h2 : l2.length ≤ 6) (a0 : l0.all (inR 0 600000) = true) (a1 : l1.all (inR 0 600000) = true) (a2 : l2.all (inR 0 600000) = true) :
    Ev (fun k => impl_chipsIn.f k l0 l1 l2 l3 l4 t u ra li) (sumM 0 l0 + sumM 0 l1 + sumM 0 l2) := by
  unfold impl_chipsIn.f
  have b0 := sum_bound l0 0 a0 (by omega) (by omega)
  have b1 := sum_bound l1 0 a1 (by omega) (by omega)
  have b2 := sum_bound l2 0 a2 (by omega) (by omega)
  exact Ev.bind (implSum_ev l0 (by omega)) (Ev.bind (implSum_ev l1 (by omega)) (Ev.bind (implSum_ev l2 (by omega)) (ev_now (by rw [w64 (n := sumM 0 l0 + sumM 0 l1) (by omega) (by omega), w64 (by omega) (by omega)]))))
theorem slIndexB_l0 (c : Bool) : ∀ (s pre : List Bool), pre.length + s.length ≤ 1000000000000 →
    Ev (fun k => slices_Index_bool_bool.l0 k (pre ++ s) c ((pre ++ s).length : Int) (pre.length : Int)) (if s.contains c = true then ((pre.length + s.idxOf c : Nat) : Int) else -1)
  | [], pre, hl => by
    refine Ev.step (fun k => slices_Index_bool_bool.l0.eq_2 _ _ _ _ k) ?_
    exact ev_neg (by simp) (ev_now (by simp))
  | x :: s, pre, hl => by
    have hl' : pre.length + (s.length + 1) ≤ 1000000000000 := hl
    refine Ev.step (fun k => slices_Index_bool_bool.l0.eq_2 _ _ _ _ k) ?_
    refine ev_pos (by simp; omega) (ev_pos (by omega) (ev_pos (by simp; omega) ?_))
    rw [rd_at']
    by_cases hx : c = x
    · subst hx
      exact ev_pos (by simp) (ev_now (by simp [List.idxOf_cons]))
    · refine ev_neg (by simpa using hx) ?_
      rw [w64 (by omega) (by omega), len_snoc pre x, app_snoc pre s x]
      have h := slIndexB_l0 c s (pre ++ [x]) (by simp; omega)
      have hx2 : ¬ x = c := fun e => hx e.symm
      have e1 : (x :: s).contains c = s.contains c := by simp [List.contains_cons, hx]
      have hb : (x == c) = false := by simpa using hx2
      have e2 : (x :: s).idxOf c = s.idxOf c + 1 := by simp [List.idxOf_cons, hb]
      rw [e1, e2]
      simp only [List.length_append, List.length_cons, List.length_nil] at h ⊢
      have e3 : pre.length + (s.idxOf c + 1) = pre.length + (0 + 1) + s.idxOf c := by omega
      rw [e3]; exact h
theorem slIndexB_ev (l : List Bool) (c : Bool) (hl : l.length ≤ 1000000000000) : Ev (fun k => slices_Index_bool_bool.f k l c) (if l.contains c = true then ((l.idxOf c : Nat) : Int) else -1) := by
  unfold slices_Index_bool_bool.f
  have h := slIndexB_l0 c l [] (by simpa using hl)
  simpa using h
theorem slContainsB_ev (l : List Bool) (c : Bool) (hl : l.length ≤ 1000000000000) : Ev (fun k => slices_Contains_bool_bool.f k l c) (l.contains c) := by
  unfold slices_Contains_bool_bool.f
  refine Ev.bind (slIndexB_ev l c hl) (ev_now ?_)
  by_cases h : l.contains c = true
  · rw [if_pos h, h]; simp
  · rw [if_neg h]; simp only [Bool.not_eq_true] at h; rw [h]; decide
theorem implBetting_ev (l0 l1 l2 : List Int) (l3 l4 : List Bool) (t u ra li : Int) (hl : l0.length + l1.length + l2.length + l3.length + l4.length ≤ 1048576) :
    Ev (fun k => impl_IsBetting.f k l0 l1 l2 l3 l4 t u ra li) (bettingB l0 l1 l2 l3 l4 t u ra li) := by
  unfold impl_IsBetting.f
  have jt : Ev (fun k => impl_IsBetting.j0 k (l0.length : Int) true l0 l1 l2 l3 l4 t u ra li) false := Ev.step (fun k => impl_IsBetting.j0.eq_2 _ _ _ _ _ _ _ _ _ _ _ k) (ev_pos rfl (ev_now rfl))
  refine ev_bindc (within_eq _ _ _) ?_
  by_cases h1 : inR 2 6 (l0.length : Int) = true
  rotate_left
  · have e : bettingB l0 l1 l2 l3 l4 t u ra li = false := by simp [bettingB, h1]
    rw [e]; exact ev_neg h1 jt
  have b1 := inR_iff.1 h1
  refine ev_pos h1 ?_
  by_cases n1 : l1.length = l0.length
  rotate_left
  · have e : bettingB l0 l1 l2 l3 l4 t u ra li = false := by simp [bettingB, n1]
    rw [e]; exact ev_neg (by omega) jt
  refine ev_pos (by omega) ?_
  by_cases n2 : l2.length = l0.length
  rotate_left
  · have e : bettingB l0 l1 l2 l3 l4 t u ra li = false := by simp [bettingB, n2]
    rw [e]; exact ev_neg (by omega) jt
  refine ev_pos (by omega) ?_
  by_cases n3 : l3.length = l0.length
  rotate_left
  · have e : bettingB l0 l1 l2 l3 l4 t u ra li = false := by simp [bettingB, n3]
    rw [e]; exact ev_neg (by omega) jt
  refine ev_pos (by omega) ?_
  by_cases n4 : l4.length = l0.length
  rotate_left
  · have e : bettingB l0 l1 l2 l3 l4 t u ra li = false := by simp [bettingB, n4]
    have e2 : ((l4.length : Int) != (l0.length : Int)) = true := by simp; omega
    rw [e]; simp only [e2]; exact jt
  have e2 : ((l4.length : Int) != (l0.length : Int)) = false := by simp; omega
  simp only [e2]
  refine Ev.step (fun k => impl_IsBetting.j0.eq_2 _ _ _ _ _ _ _ _ _ _ _ k) (ev_neg (by simp) ?_)
  refine Ev.bind (allWithin_ev l0 0 600000 (by omega)) ?_
  by_cases a0 : l0.all (inR 0 600000) = true
  rotate_left
  · have e : bettingB l0 l1 l2 l3 l4 t u ra li = false := by simp only [bettingB, a0]; simp
    rw [e]; exact ev_neg a0 (ev_now rfl)
  refine ev_pos a0 (Ev.bind (allWithin_ev l1 0 600000 (by omega)) ?_)
  by_cases a1 : l1.all (inR 0 600000) = true
  rotate_left
  · have e : bettingB l0 l1 l2 l3 l4 t u ra li = false := by simp only [bettingB, a1]; simp
    rw [e]; exact ev_neg a1 (ev_now rfl)
  refine ev_pos a1 (Ev.bind (allWithin_ev l2 0 600000 (by omega)) ?_)
  by_cases a2 : l2.all (inR 0 600000) = true
  rotate_left
  · have e : bettingB l0 l1 l2 l3 l4 t u ra li = false := by simp only [bettingB, a2]; simp
    rw [e]; exact ev_neg a2 (ev_now rfl)
  refine ev_pos a2 (Ev.bind (implChipsIn_ev l0 l1 l2 l3 l4 t u ra li (by omega) (by omega) (by omega) a0 a1 a2) ?_)
  by_cases s : sumM 0 l0 + sumM 0 l1 + sumM 0 l2 ≤ 600000
  rotate_left
  · have e : bettingB l0 l1 l2 l3 l4 t u ra li = false := by simp only [bettingB, s]; simp
    rw [e]; exact ev_neg s (ev_now rfl)
  refine ev_pos s (Ev.bind (slContainsB_ev l3 false (by omega)) ?_)
  by_cases c : l3.contains false = true
  rotate_left
  · have e : bettingB l0 l1 l2 l3 l4 t u ra li = false := by simp only [bettingB, c]; simp
    rw [e]; exact ev_neg c (ev_now rfl)
  rw [w64 (n := (l0.length : Int) - 1) (by omega) (by omega)]
  refine ev_pos c (ev_bindc (within_eq _ _ _) ?_)
  by_cases d1 : inR 0 ((l0.length : Int) - 1) t = true
  rotate_left
  · have e : bettingB l0 l1 l2 l3 l4 t u ra li = false := by simp only [bettingB, d1]; simp
    rw [e]; exact ev_neg d1 (ev_now rfl)
  refine ev_pos d1 (ev_bindc (within_eq _ _ _) ?_)
  by_cases d2 : inR 1 100000 u = true
  rotate_left
  · have e : bettingB l0 l1 l2 l3 l4 t u ra li = false := by simp only [bettingB, d2]; simp
    rw [e]; exact ev_neg d2 (ev_now rfl)
  refine ev_pos d2 (ev_bindc (within_eq _ _ _) ?_)
  by_cases d3 : inR 0 4 ra = true
  rotate_left
  · have e : bettingB l0 l1 l2 l3 l4 t u ra li = false := by simp only [bettingB, d3]; simp
    rw [e]; exact ev_neg d3 (ev_now rfl)
  refine ev_pos d3 (ev_bindc (within_eq _ _ _) (ev_now ?_))
  simp only [bettingB, h1, n1, n2, n3, n4, a0, a1, a2, s, c, d1, d2, d3, decide_true, Bool.true_and]
theorem specPot_ev (l0 l1 l2 : List Int) (l3 l4 : List Bool) (t u ra li : Int) (h1 : l1.length ≤ 6) (h2 : l2.length ≤ 6) (a1 : l1.all (inR 0 600000) = true) (a2 : l2.all (inR 0 600000) = true) :
    Ev (fun k => spec_l10Pot.f k l0 l1 l2 l3 l4 t u ra li) (sumM 0 l1 + sumM 0 l2) := by
  unfold spec_l10Pot.f
  have b1 := sum_bound l1 0 a1 (by omega) (by omega)
  have b2 := sum_bound l2 0 a2 (by omega) (by omega)
  exact Ev.bind (specSum_ev l1 (by omega)) (Ev.bind (specSum_ev l2 (by omega)) (ev_now (w64 (by omega) (by omega))))
theorem specLive (l0 l1 l2 : List Int) (l3 l4 : List Bool) (t u ra li n : Int) (r : Bool) (hn : n = l3.length) (hl : l3.length ≤ 1000000) : ∀ (s pre : List Bool) (live : Bool), l3 = pre ++ s →
    Ev (fun k => spec_IsBetting.l0 k n (live || s.contains false) n l0 l1 l2 l3 l4 t u ra li) r → Ev (fun k => spec_IsBetting.l0 k n live (pre.length : Int) l0 l1 l2 l3 l4 t u ra li) r
  | [], pre, live, h, e => by
    have : n = (pre.length : Int) := by rw [hn, h]; simp
    rw [← this]; simpa using e
  | x :: s, pre, live, h, e => by
    have hp : l3.length = pre.length + (s.length + 1) := by rw [h]; simp
    have h2 : l3 = (pre ++ [x]) ++ s := by rw [h]; simp
    have er : rdOf false l3 (pre.length : Int) = x := by rw [h]; exact rd_at' _ _ _ _
    refine Ev.step (fun k => spec_IsBetting.l0.eq_2 _ _ _ _ _ _ _ _ _ _ _ _ k) (ev_pos (by omega) ?_)
    rw [er, w64 (by omega) (by omega), len_snoc pre x]
    cases live with
    | true => exact ev_pos rfl (specLive l0 l1 l2 l3 l4 t u ra li n r hn hl s (pre ++ [x]) true h2 (by simpa using e))
    | false =>
      refine ev_neg (by simp) (ev_pos (by omega) (ev_pos (by omega) (specLive l0 l1 l2 l3 l4 t u ra li n r hn hl s (pre ++ [x]) (!x) h2 ?_)))
      cases x <;> simpa [List.contains_cons] using e
theorem specBetting_ev (l0 l1 l2 : List Int) (l3 l4 : List Bool) (t u ra li : Int) (hl : l0.length + l1.length + l2.length + l3.length + l4.length ≤ 1048576) :
    Ev (fun k => spec_IsBetting.f k l0 l1 l2 l3 l4 t u ra li) (bettingB l0 l1 l2 l3 l4 t u ra li) := by
  unfold spec_IsBetting.f
  have jt : Ev (fun k => spec_IsBetting.j0 k (l0.length : Int) true l0 l1 l2 l3 l4 t u ra li) false := Ev.step (fun k => spec_IsBetting.j0.eq_2 _ _ _ _ _ _ _ _ _ _ _ k) (ev_pos rfl (ev_now rfl))
  refine ev_bindc (l01In_eq _ _ _) ?_
  by_cases h1 : inR 2 6 (l0.length : Int) = true
  rotate_left
  · have e : bettingB l0 l1 l2 l3 l4 t u ra li = false := by simp [bettingB, h1]
    rw [e]; exact ev_neg h1 jt
  have b1 := inR_iff.1 h1
  refine ev_pos h1 (Ev.bind (specChips_ev l0 _ (by omega)) ?_)
  by_cases a0 : l0.all (inR 0 600000) = true
  rotate_left
  · have e : bettingB l0 l1 l2 l3 l4 t u ra li = false := by simp only [bettingB, a0]; simp
    rw [e]; exact ev_neg (by simp only [a0]; simp) jt
  refine ev_pos (by simp only [a0]; simp) (Ev.bind (specChips_ev l1 _ (by omega)) ?_)
  by_cases a1 : l1.all (inR 0 600000) = true
  rotate_left
  · have e : bettingB l0 l1 l2 l3 l4 t u ra li = false := by simp only [bettingB, a1]; simp
    rw [e]; exact ev_neg (by simp only [a1]; simp) jt
  by_cases n1 : l1.length = l0.length
  rotate_left
  · have e : bettingB l0 l1 l2 l3 l4 t u ra li = false := by simp [bettingB, n1]
    rw [e]; exact ev_neg (by simp only [a1]; simp; omega) jt
  refine ev_pos (by simp only [a1]; simp; omega) (Ev.bind (specChips_ev l2 _ (by omega)) ?_)
  by_cases a2 : l2.all (inR 0 600000) = true
  rotate_left
  · have e : bettingB l0 l1 l2 l3 l4 t u ra li = false := by simp only [bettingB, a2]; simp
    rw [e]; exact ev_neg (by simp only [a2]; simp) jt
  by_cases n2 : l2.length = l0.length
  rotate_left
  · have e : bettingB l0 l1 l2 l3 l4 t u ra li = false := by simp [bettingB, n2]
    rw [e]; exact ev_neg (by simp only [a2]; simp; omega) jt
  refine ev_pos (by simp only [a2]; simp; omega) ?_
  by_cases n3 : l3.length = l0.length
  rotate_left
  · have e : bettingB l0 l1 l2 l3 l4 t u ra li = false := by simp [bettingB, n3]
    rw [e]; exact ev_neg (by omega) jt
  refine ev_pos (by omega) ?_
  by_cases n4 : l4.length = l0.length
  rotate_left
  · have e : bettingB l0 l1 l2 l3 l4 t u ra li = false := by simp [bettingB, n4]
    have e2 : ((l4.length : Int) != (l0.length : Int)) = true := by simp; omega
    rw [e]; simp only [e2]; exact jt
  have e2 : ((l4.length : Int) != (l0.length : Int)) = false := by simp; omega
  simp only [e2]
  refine Ev.step (fun k => spec_IsBetting.j0.eq_2 _ _ _ _ _ _ _ _ _ _ _ k) (ev_neg (by simp) ?_)
  refine specLive l0 l1 l2 l3 l4 t u ra li (l0.length : Int) _ (by omega) (by omega) l3 [] false rfl ?_
  refine Ev.step (fun k => spec_IsBetting.l0.eq_2 _ _ _ _ _ _ _ _ _ _ _ _ k) (ev_neg (by omega) ?_)
  by_cases c : l3.contains false = true
  rotate_left
  · have e : bettingB l0 l1 l2 l3 l4 t u ra li = false := by simp only [bettingB, c]; simp
    rw [e]; exact ev_neg (by simpa using c) (ev_now rfl)
  have s0 := sum_bound l0 0 a0 (by omega) (by omega)
  have s1 := sum_bound l1 0 a1 (by omega) (by omega)
  have s2 := sum_bound l2 0 a2 (by omega) (by omega)
  refine ev_pos (by simpa using c) (Ev.bind (specPot_ev l0 l1 l2 l3 l4 t u ra li (by omega) (by omega) a1 a2) (Ev.bind (specSum_ev l0 (by omega)) ?_))
  rw [w64 (n := sumM 0 l1 + sumM 0 l2 + sumM 0 l0) (by omega) (by omega), w64 (n := (l0.length : Int) - 1) (by omega) (by omega)]
  by_cases s : sumM 0 l0 + sumM 0 l1 + sumM 0 l2 ≤ 600000
  rotate_left
  · have e : bettingB l0 l1 l2 l3 l4 t u ra li = false := by simp only [bettingB, s]; simp
    rw [e]; exact ev_neg (by omega) (ev_now rfl)
  refine ev_pos (by omega) (ev_bindc (l01In_eq _ _ _) ?_)
  by_cases d1 : inR 0 ((l0.length : Int) - 1) t = true
  rotate_left
  · have e : bettingB l0 l1 l2 l3 l4 t u ra li = false := by simp only [bettingB, d1]; simp
    rw [e]; exact ev_neg d1 (ev_now rfl)
  refine ev_pos d1 (ev_bindc (l01In_eq _ _ _) ?_)
  by_cases d2 : inR 1 100000 u = true
  rotate_left
  · have e : bettingB l0 l1 l2 l3 l4 t u ra li = false := by simp only [bettingB, d2]; simp
    rw [e]; exact ev_neg d2 (ev_now rfl)
  refine ev_pos d2 (ev_bindc (l01In_eq _ _ _) ?_)
  by_cases d3 : inR 0 4 ra = true
  rotate_left
  · have e : bettingB l0 l1 l2 l3 l4 t u ra li = false := by simp only [bettingB, d3]; simp
    rw [e]; exact ev_neg d3 (ev_now rfl)
  refine ev_pos d3 (ev_bindc (l01In_eq _ _ _) (ev_now ?_))
  simp only [bettingB, h1, n1, n2, n3, n4, a0, a1, a2, s, c, d1, d2, d3, decide_true, Bool.true_and]
def marksB : Int → List Bool → List Bool
  | _, [] => []
  | m, _ :: s => ((Int.tmod m 3) == 0) :: marksB (m + 1) s
theorem markBoolS_l0 : ∀ (s pre : List Bool) (m : Int), pre.length + s.length ≤ 1000000000000 → 0 ≤ m → m + s.length ≤ 1000000000000000 →
    Ev (fun k => laws_markBoolS.l0 k (pre ++ s) m (pre.length : Int)) (m + s.length, pre ++ marksB m s)
  | [], pre, m, hl, h0, hm => by
    refine Ev.step (fun k => laws_markBoolS.l0.eq_2 _ _ _ k) ?_
    exact ev_neg (by simp) (ev_now (by simp [marksB]))
  | x :: s, pre, m, hl, h0, hm => by
    have hl' : pre.length + (s.length + 1) ≤ 1000000000000 := hl
    have hm' : m + ((s.length : Int) + 1) ≤ 1000000000000000 := by simpa using hm
    refine Ev.step (fun k => laws_markBoolS.l0.eq_2 _ _ _ k) ?_
    refine ev_pos (by simp; omega) (ev_pos (by omega) ?_)
    rw [set_at, w64 (by omega) (by omega), w64 (by omega) (by omega), len_snoc pre ((Int.tmod m 3) == 0)]
    have h := markBoolS_l0 s (pre ++ [(Int.tmod m 3) == 0]) (m + 1) (by simp; omega) (by omega) (by omega)
    have e : (m + ((x :: s).length : Int), pre ++ marksB m (x :: s)) = (m + 1 + (s.length : Int), pre ++ [(Int.tmod m 3) == 0] ++ marksB (m + 1) s) := by
      simp [marksB]; omega
    rw [e]; exact h
theorem markBoolS_ev (l : List Bool) (m : Int) (hl : l.length ≤ 1000000000000) (h0 : 0 ≤ m) (hm : m + l.length ≤ 1000000000000000) :
    Ev (fun k => laws_markBoolS.f k l m) (m + l.length, marksB m l) := by
  unfold laws_markBoolS.f
  simpa using markBoolS_l0 l [] m (by simpa using hl) h0 hm
theorem markBetting_ev (l0 l1 l2 : List Int) (l3 l4 : List Bool) (t u ra li : Int) (hl : l0.length + l1.length + l2.length + l3.length + l4.length ≤ 1048576) :
    ∃ r : Int × List Int × List Int × List Int × List Bool × List Bool, 0 ≤ r.1 ∧ Ev (fun k => laws_markBetting.f k l0 l1 l2 l3 l4 t u ra li 1) r := by
  unfold laws_markBetting.f
  exact ⟨(1 + (l0.length : Int) + (l1.length : Int) + (l2.length : Int) + (l3.length : Int) + (l4.length : Int), _), by simp only; omega,
    Ev.bind (markInt64S_ev l0 1 (by omega) (by omega) (by omega)) (Ev.bind (markInt64S_ev l1 _ (by omega) (by simp only; omega) (by simp only; omega)) (Ev.bind (markInt64S_ev l2 _ (by omega) (by simp only; omega) (by simp only; omega)) (Ev.bind (markBoolS_ev l3 _ (by omega) (by simp only; omega) (by simp only; omega)) (Ev.bind (markBoolS_ev l4 _ (by omega) (by simp only; omega) (by simp only; omega)) (ev_now rfl)))))⟩
theorem all_rd {l : List Int} {i : Int} (a : l.all (inR 0 600000) = true) (h0 : 0 ≤ i) (h1 : i < l.length) : 0 ≤ rd l i ∧ rd l i ≤ 600000 := by
  have := List.all_eq_true.1 a _ (rd_mem h0 h1)
  rwa [inR_iff] at this
theorem maxM_in : ∀ (l : List Int) (a : Int), l.all (inR 0 600000) = true → 0 ≤ a → a ≤ 600000 → a ≤ maxM a l ∧ maxM a l ≤ 600000
  | [], a, h, h0, h1 => by simp [maxM]; omega
  | x :: l, a, h, h0, h1 => by
    simp only [List.all_cons, Bool.and_eq_true, inR_iff] at h
    have e := mx_max a x
    have := maxM_in l (mx a x) h.2 (by omega) (by omega)
    simp only [maxM]
    omega
theorem maxM_ge : ∀ (l : List Int) (a x : Int), x ∈ l → x ≤ maxM a l
  | [], a, x, h => by simp at h
  | y :: l, a, x, h => by
    have e := mx_max a y
    simp only [maxM]
    rcases List.mem_cons.1 h with rfl | h
    · have := maxM_self l (mx a x); omega
    · exact maxM_ge l _ x h
where maxM_self : ∀ (l : List Int) (a : Int), a ≤ maxM a l
  | [], a => Int.le_refl _
  | y :: l, a => by
    have e := mx_max a y
    have := maxM_self l (mx a y)
    simp only [maxM]; omega
def mostM (l0 l1 l2 : List Int) (t u li : Int) : Int :=
  if li = 1 then mn (rd l1 t + rd l0 t) (maxM 0 l1 + sumM 0 l1 + sumM 0 l2 + maxM 0 l1 - rd l1 t) else if li = 2 then mn (rd l1 t + rd l0 t) (maxM 0 l1 + u) else rd l1 t + rd l0 t
def choM (l0 l1 l2 : List Int) (t u li : Int) (stop : Bool) : Bool × Int × Int × Int :=
  if stop = true then (rd l1 t == maxM 0 l1, mn (maxM 0 l1 - rd l1 t) (rd l0 t), 0, 0)
  else (rd l1 t == maxM 0 l1, mn (maxM 0 l1 - rd l1 t) (rd l0 t), mn (mostM l0 l1 l2 t u li) (maxM 0 l1 + u), mostM l0 l1 l2 t u li)
def stopM (l0 l1 : List Int) (l3 l4 : List Bool) (t ra li : Int) : Bool :=
  rdOf false l4 t || (decide (rd l0 t ≤ maxM 0 l1 - rd l1 t) || (!(othB l0 l3 t l0.length 0) || (decide (li = 2) && decide (ra ≥ 4))))
def choicesM (l0 l1 l2 : List Int) (l3 l4 : List Bool) (t u ra li : Int) : Bool × Int × Int × Int := choM l0 l1 l2 t u li (stopM l0 l1 l3 l4 t ra li)
def codeM (l0 l1 l2 : List Int) (l3 l4 : List Bool) (t u ra li : Int) : Int := if bettingB l0 l1 l2 l3 l4 t u ra li = true then (if hasM l0 l1 l3 l4 t = true then 0 else 5) else 1
def ChoicesInM (l0 l1 l2 : List Int) (l3 l4 : List Bool) (t u ra li : Int) : Bool × Int × Int × Int × Int :=
  if codeM l0 l1 l2 l3 l4 t u ra li = 0 then ((choicesM l0 l1 l2 l3 l4 t u ra li).1, (choicesM l0 l1 l2 l3 l4 t u ra li).2.1, (choicesM l0 l1 l2 l3 l4 t u ra li).2.2.1, (choicesM l0 l1 l2 l3 l4 t u ra li).2.2.2, 0)
  else (false, 0, 0, 0, codeM l0 l1 l2 l3 l4 t u ra li)
theorem codeM_open {l0 l1 l2 : List Int} {l3 l4 : List Bool} {t u ra li : Int} (h : codeM l0 l1 l2 l3 l4 t u ra li = 0) : bettingB l0 l1 l2 l3 l4 t u ra li = true ∧ hasM l0 l1 l3 l4 t = true := by
  unfold codeM at h
  by_cases b : bettingB l0 l1 l2 l3 l4 t u ra li = true
  · rw [if_pos b] at h
    by_cases s : hasM l0 l1 l3 l4 t = true
    · exact ⟨b, s⟩
    · rw [if_neg s] at h; exact absurd h (by decide)
  · rw [if_neg b] at h; exact absurd h (by decide)
def legalM (c : Bool × Int × Int × Int) (kd am : Int) : Bool :=
  if kd = 0 then am == 0 else if kd = 1 then (am == 0 && c.1) else if kd = 2 then (am == 0 && decide (c.2.1 > 0)) else if kd = 3 then (decide (c.2.2.2 > 0) && inR c.2.2.1 c.2.2.2 am) else false
def IsLegalM (l0 l1 l2 : List Int) (l3 l4 : List Bool) (t u ra li kd am : Int) : Bool := decide (codeM l0 l1 l2 l3 l4 t u ra li = 0) && legalM (choicesM l0 l1 l2 l3 l4 t u ra li) kd am
def addM (a b : List Int) : List Int := List.zipWith (fun p q => p + q) a b
def ContributionsM (l0 l1 l2 : List Int) (l3 l4 : List Bool) (t u ra li : Int) : List Int × Int := if bettingB l0 l1 l2 l3 l4 t u ra li = true then (addM l2 l1, 0) else ([], 1)
theorem addM_len (a b : List Int) : (addM a b).length ≤ a.length := by simp [addM]; omega
theorem ContributionsM_len (l0 l1 l2 : List Int) (l3 l4 : List Bool) (t u ra li : Int) (hl : l0.length + l1.length + l2.length + l3.length + l4.length ≤ 1048576) : (ContributionsM l0 l1 l2 l3 l4 t u ra li).1.length ≤ 1048576 := by
  have := addM_len l2 l1
  unfold ContributionsM
  split
  · simp only; omega
  · simp
theorem specPaid_l0 (l0 : List Int) (l3 l4 : List Bool) (t u ra li : Int) : ∀ (s2 s1 p2 p1 acc : List Int), s1.length = s2.length → p1.length = p2.length → s1.all (inR 0 600000) = true → s2.all (inR 0 600000) = true → acc.length + s2.length ≤ 1000000 → p2.length + s2.length ≤ 1000000 →
    Ev (fun k => spec_l11Paid.l0 k acc (p2.length : Int) l0 (p1 ++ s1) (p2 ++ s2) l3 l4 t u ra li) (acc ++ addM s2 s1)
  | [], s1, p2, p1, acc, e, ep, b1, b2, hl, hp => by
    obtain rfl : s1 = [] := by simpa using e
    refine Ev.step (fun k => spec_l11Paid.l0.eq_2 _ _ _ _ _ _ _ _ _ _ _ k) ?_
    exact ev_neg (by simp) (ev_now (by simp [addM]))
  | x :: s2, [], p2, p1, acc, e, ep, b1, b2, hl, hp => by simp at e
  | x :: s2, y :: s1, p2, p1, acc, e, ep, b1, b2, hl, hp => by
    simp only [List.all_cons, Bool.and_eq_true, inR_iff] at b1 b2
    have hl' : acc.length + (s2.length + 1) ≤ 1000000 := hl
    have hp' : p2.length + (s2.length + 1) ≤ 1000000 := hp
    refine Ev.step (fun k => spec_l11Paid.l0.eq_2 _ _ _ _ _ _ _ _ _ _ _ k) ?_
    refine ev_pos (by simp; omega) (ev_pos (by omega) (ev_pos (by simp; omega) (ev_pos (by omega) ?_)))
    have ey : rd (p1 ++ y :: s1) (p2.length : Int) = y := by rw [← ep]; exact rd_at _ _ _
    rw [ey, rd_at, w64 (n := x + y) (by omega) (by omega), w64 (n := (p2.length : Int) + 1) (by omega) (by omega), len_snoc p2 x, app_snoc p2 s2 x, app_snoc p1 s1 y]
    have ih := specPaid_l0 l0 l3 l4 t u ra li s2 s1 (p2 ++ [x]) (p1 ++ [y]) (acc ++ [x + y]) (by simpa using e) (by simp [ep]) b1.2 b2.2 (by simp; omega) (by simp; omega)
    simpa [addM] using ih
theorem specPaid_ev (l0 l1 l2 : List Int) (l3 l4 : List Bool) (t u ra li : Int) (hb : bettingB l0 l1 l2 l3 l4 t u ra li = true) :
    Ev (fun k => spec_l11Paid.f k l0 l1 l2 l3 l4 t u ra li) (addM l2 l1) := by
  obtain ⟨n2, n6, e1, e2, e3, e4, a0, a1, a2, _⟩ := betting_bounds hb
  unfold spec_l11Paid.f
  simpa using specPaid_l0 l0 l3 l4 t u ra li l2 l1 [] [] [] (by omega) rfl a1 a2 (by simp; omega) (by simp; omega)
theorem specContributionsB_ev (l0 l1 l2 : List Int) (l3 l4 : List Bool) (t u ra li : Int) (hl : l0.length + l1.length + l2.length + l3.length + l4.length ≤ 1048576) :
    Ev (fun k => spec_Contributions.f k l0 l1 l2 l3 l4 t u ra li) (ContributionsM l0 l1 l2 l3 l4 t u ra li) := by
  unfold spec_Contributions.f ContributionsM
  refine Ev.bind (specBetting_ev l0 l1 l2 l3 l4 t u ra li hl) ?_
  by_cases h : bettingB l0 l1 l2 l3 l4 t u ra li = true
  · simp only [if_pos h]; exact (Ev.bind (specPaid_ev l0 l1 l2 l3 l4 t u ra li h) (ev_now rfl))
  · simp only [if_neg h]; exact ev_now rfl
theorem clone_eq (l : List Int) (hl : l.length ≤ 1000000000) : slices_Clone_int64_int64.f l = some l := by
  unfold slices_Clone_int64_int64.f
  simp only [Option.bind_some, List.length_nil, List.nil_append]
  rw [if_pos (by omega)]
theorem implContr_l0 (n : Int) : ∀ (s3 s1 p3 p1 : List Int), s1.length = s3.length → p1.length = p3.length → s1.all (inR 0 600000) = true → s3.all (inR 0 600000) = true → p3.length + s3.length ≤ 1000000 → n = ((p1 ++ s1).length : Int) →
    Ev (fun k => impl_contributions.l0 k (p3 ++ s3) (p1 ++ s1) n (p3.length : Int)) (p3 ++ addM s3 s1)
  | [], s1, p3, p1, e, ep, b1, b2, hl, hn => by
    obtain rfl : s1 = [] := by simpa using e
    refine Ev.step (fun k => impl_contributions.l0.eq_2 _ _ _ _ k) ?_
    exact ev_neg (by simp at hn; omega) (ev_now (by simp [addM]))
  | x :: s3, [], p3, p1, e, ep, b1, b2, hl, hn => by simp at e
  | x :: s3, y :: s1, p3, p1, e, ep, b1, b2, hl, hn => by
    simp only [List.all_cons, Bool.and_eq_true, inR_iff] at b1 b2
    have hl' : p3.length + (s3.length + 1) ≤ 1000000 := hl
    have hn' : n = (p1.length : Int) + ((s1.length : Int) + 1) := by simpa using hn
    refine Ev.step (fun k => impl_contributions.l0.eq_2 _ _ _ _ k) ?_
    refine ev_pos (by omega) (ev_pos (by omega) (ev_pos (by simp; omega) (ev_pos (by simp; omega) ?_)))
    have ey : rd (p1 ++ y :: s1) (p3.length : Int) = y := by rw [← ep]; exact rd_at _ _ _
    rw [ey, rd_at, set_at, w64 (n := x + y) (by omega) (by omega), w64 (n := (p3.length : Int) + 1) (by omega) (by omega), len_snoc p3 (x + y), app_snoc p1 s1 y]
    have ih := implContr_l0 n s3 s1 (p3 ++ [x + y]) (p1 ++ [y]) (by simpa using e) (by simp [ep]) b1.2 b2.2 (by simp; omega) (by simpa using hn)
    simpa [addM] using ih
theorem implContr_ev (l0 l1 l2 : List Int) (l3 l4 : List Bool) (t u ra li : Int) (hb : bettingB l0 l1 l2 l3 l4 t u ra li = true) :
    Ev (fun k => impl_contributions.f k l0 l1 l2 l3 l4 t u ra li) (addM l2 l1) := by
  obtain ⟨n2, n6, e1, e2, e3, e4, a0, a1, a2, _⟩ := betting_bounds hb
  unfold impl_contributions.f
  refine ev_bindc (clone_eq l2 (by omega)) ?_
  simpa using implContr_l0 (l1.length : Int) l2 l1 [] [] (by omega) rfl a1 a2 (by simp; omega) (by simp)
theorem implContributionsB_ev (l0 l1 l2 : List Int) (l3 l4 : List Bool) (t u ra li : Int) (hl : l0.length + l1.length + l2.length + l3.length + l4.length ≤ 1048576) :
    Ev (fun k => impl_Contributions.f k l0 l1 l2 l3 l4 t u ra li) (ContributionsM l0 l1 l2 l3 l4 t u ra li) := by
  unfold impl_Contributions.f ContributionsM
  refine Ev.bind (implBetting_ev l0 l1 l2 l3 l4 t u ra li hl) ?_
  by_cases h : bettingB l0 l1 l2 l3 l4 t u ra li = true
  · simp only [if_pos h]; exact (Ev.bind (implContr_ev l0 l1 l2 l3 l4 t u ra li h) (ev_now rfl))
  · simp only [if_neg h]; exact ev_now rfl
end LFnExactContributions
open LFnExactContributions
theorem FnExactContributions (l0_0 : List Int) (l0_1 : List Int) (l0_2 : List Int) (l0_3 : List Bool) (l0_4 : List Bool) (a0_5 : Int) (a0_6 : Int) (a0_7 : Int) (a0_8 : Int) (hm0_0 : l0_0.length ≤ maxLen) (w0_0 : ∀ x ∈ l0_0, (Lit.int .i64 x).wf = true) (hm0_1 : l0_1.length ≤ maxLen) (w0_1 : ∀ x ∈ l0_1, (Lit.int .i64 x).wf = true) (hm0_2 : l0_2.length ≤ maxLen) (w0_2 : ∀ x ∈ l0_2, (Lit.int .i64 x).wf = true) (hm0_3 : l0_3.length ≤ maxLen) (hm0_4 : l0_4.length ≤ maxLen) (w0_5 : (Lit.int .i64 a0_5).wf = true) (w0_6 : (Lit.int .i64 a0_6).wf = true) (w0_7 : (Lit.int .i64 a0_7).wf = true) (w0_8 : (Lit.int .i64 a0_8).wf = true) :
    ∃ k, laws_FnExactContributions.f k l0_0 l0_1 l0_2 l0_3 l0_4 a0_5 a0_6 a0_7 a0_8 = some true := by
  refine Ev.rounds (g := fun k => laws_FnExactContributions.f k l0_0 l0_1 l0_2 l0_3 l0_4 a0_5 a0_6 a0_7 a0_8) ?_
  unfold laws_FnExactContributions.f
  rcases szBetting_ev l0_0 l0_1 l0_2 l0_3 l0_4 a0_5 a0_6 a0_7 a0_8 hm0_0 hm0_1 hm0_2 hm0_3 hm0_4 with e | ⟨n, hn, e, hl⟩
  · exact ev_bindc e (ev_pos (by decide) (ev_now rfl))
  refine ev_bindc e (ev_neg (by omega) ?_)
  have hq := ContributionsM_len l0_0 l0_1 l0_2 l0_3 l0_4 a0_5 a0_6 a0_7 a0_8 hl
  obtain ⟨mk, hmk, emk⟩ := markBetting_ev l0_0 l0_1 l0_2 l0_3 l0_4 a0_5 a0_6 a0_7 a0_8 hl
  refine Ev.bind (toBetting_ev l0_0 l0_1 l0_2 l0_3 l0_4 a0_5 a0_6 a0_7 a0_8 hl) (Ev.bind (specContributionsB_ev l0_0 l0_1 l0_2 l0_3 l0_4 a0_5 a0_6 a0_7 a0_8 hl) (Ev.bind (toBetting_ev l0_0 l0_1 l0_2 l0_3 l0_4 a0_5 a0_6 a0_7 a0_8 hl) (Ev.bind (implContributionsB_ev l0_0 l0_1 l0_2 l0_3 l0_4 a0_5 a0_6 a0_7 a0_8 hl) (Ev.bind (eqInt64S_ev rfl (by omega)) (ev_pos rfl ?_)))))
  refine Ev.step (fun k => laws_FnExactContributions.j0.eq_2 _ _ _ _ _ _ _ _ _ _ _ _ _ _ _ _ _ _ _ _ _ _ _  k) (ev_neg (by simp) ?_)
  refine Ev.bind (toBetting_ev l0_0 l0_1 l0_2 l0_3 l0_4 a0_5 a0_6 a0_7 a0_8 hl) (Ev.bind (eqBetting_ev l0_0 l0_1 l0_2 l0_3 l0_4 a0_5 a0_6 a0_7 a0_8 hl) (ev_pos rfl (Ev.bind emk (ev_neg (by omega) (Ev.bind (eqInt64S_ev rfl (by omega)) (ev_pos rfl ?_))))))
  refine Ev.step (fun k => laws_FnExactContributions.j1.eq_2 _ _ _ _ _ _ _ _ _ _ _ _ _  k) (ev_neg (by simp) ?_)
  refine Ev.bind (markInt64S_ev _ 1 (by omega) (by omega) (by omega)) (Ev.bind (heldInt64S_ev _ 1 (by omega) (by omega) (by omega)) (ev_neg (by simp; omega) (ev_pos rfl ?_)))
  refine Ev.bind (toBetting_ev l0_0 l0_1 l0_2 l0_3 l0_4 a0_5 a0_6 a0_7 a0_8 hl) (Ev.bind (implContributionsB_ev l0_0 l0_1 l0_2 l0_3 l0_4 a0_5 a0_6 a0_7 a0_8 hl) (Ev.bind (eqInt64S_ev rfl (by omega)) (ev_pos rfl ?_)))
  refine Ev.step (fun k => laws_FnExactContributions.j2.eq_2 _ _ _ k) (ev_neg (by simp) ?_)
  exact Ev.bind (heldInt64S_ev _ 1 (by omega) (by omega) (by omega)) (ev_neg (by simp; omega) (ev_pos rfl (ev_now rfl)))
end Go.Proofs.Ytmcobmphmmgdmaa.Pure
