/- For every code the law FnNextTables is true: the next table has all chips that are left, and its button has moved on. No conditions. -/
import Derived.Test.YtdagljakajpdjaaZFnNextTablesx8
import Derived.Test.YtdagljakajpdjaaZFnNextTablesEv
namespace Go.Proofs.Ytdagljakajpdjaa.Pure
open Go.RowKit Go.Proofs.Ytdagljakajpdjaa.QFnNextTables Go.Proofs.YtdagljakajpdjaaW.PrintWords Go.Proofs.YtdagljakajpdjaaW.PrintLast Go.Proofs.YtdagljakajpdjaaW.PrintMore Go.Proofs.Ytdagljakajpdjaa.EvBase
set_option linter.unusedVariables false
set_option linter.unusedSimpArgs false
namespace LFnNextTables
theorem l01In_eq (a lo hi : Int) : spec_l01In.f a lo hi = some (inR lo hi a) := by
  unfold spec_l01In.f inR
  by_cases h : a ≥ lo
  · rw [if_pos h]; simp [h]
  · rw [if_neg h]; simp; omega
theorem within_eq (a lo hi : Int) : impl_within.f a lo hi = some (inR lo hi a) := by
  unfold impl_within.f inR
  by_cases h : a ≥ lo
  · rw [if_pos h]; simp [h]
  · rw [if_neg h]; simp; omega
theorem allWithin_l0 (lo hi : Int) : ∀ (s pre : List Int), pre.length + s.length ≤ 1000000000000 →
    Ev (fun k => impl_allWithin.l0 k lo hi (pre ++ s) ((pre ++ s).length : Int) (pre.length : Int)) (s.all (inR lo hi))
  | [], pre, hl => by
    refine Ev.step (fun k => impl_allWithin.l0.eq_2 _ _ _ _ _ k) ?_
    exact ev_neg (by simp) (ev_now rfl)
  | x :: s, pre, hl => by
    have hl' : pre.length + (s.length + 1) ≤ 1000000000000 := hl
    refine Ev.step (fun k => impl_allWithin.l0.eq_2 _ _ _ _ _ k) ?_
    refine ev_pos (by simp; omega) (ev_pos (by omega) (ev_pos (by simp; omega) ?_))
    rw [rd_at]
    refine ev_bindc (within_eq _ _ _) ?_
    by_cases hin : inR lo hi x = true
    · refine ev_pos hin ?_
      rw [w64 (by omega) (by omega), len_snoc pre x, app_snoc pre s x]
      have h := allWithin_l0 lo hi s (pre ++ [x]) (by simp; omega)
      simpa only [List.all_cons, hin, Bool.true_and] using h
    · refine ev_neg hin (ev_now ?_)
      simp only [Bool.not_eq_true] at hin
      simp [hin]
theorem allWithin_ev (l : List Int) (lo hi : Int) (hl : l.length ≤ 1000000000000) : Ev (fun k => impl_allWithin.f k l lo hi) (l.all (inR lo hi)) := by
  unfold impl_allWithin.f
  simpa using allWithin_l0 lo hi l [] (by simpa using hl)
theorem specTable_l0 (b s g a m : Int) : ∀ (t pre : List Int), pre.length + t.length ≤ 1000000000000 →
    Ev (fun k => spec_IsTable.l0 k (pre.length : Int) (pre ++ t) b s g a m) (t.all (inR 1 100000))
  | [], pre, hl => by
    refine Ev.step (fun k => spec_IsTable.l0.eq_2 _ _ _ _ _ _ _ k) ?_
    exact ev_neg (by simp) (ev_now rfl)
  | x :: t, pre, hl => by
    have hl' : pre.length + (t.length + 1) ≤ 1000000000000 := hl
    refine Ev.step (fun k => spec_IsTable.l0.eq_2 _ _ _ _ _ _ _ k) ?_
    refine ev_pos (by simp; omega) (ev_pos (by omega) ?_)
    rw [rd_at]
    refine ev_bindc (l01In_eq _ _ _) ?_
    by_cases hin : inR 1 100000 x = true
    · refine ev_pos hin ?_
      rw [w64 (by omega) (by omega), len_snoc pre x, app_snoc pre t x]
      have h := specTable_l0 b s g a m t (pre ++ [x]) (by simp; omega)
      simpa only [List.all_cons, hin, Bool.true_and] using h
    · refine ev_neg hin (ev_now ?_)
      simp only [Bool.not_eq_true] at hin
      simp [hin]
theorem specTable_ev (l : List Int) (b s g a m : Int) (hl : l.length ≤ 1000000000000) : Ev (fun k => spec_IsTable.f k l b s g a m) (tableB l b s g a m) := by
  unfold spec_IsTable.f tableB
  refine ev_bindc (l01In_eq _ _ _) ?_
  by_cases h1 : inR 2 6 (l.length : Int) = true
  rotate_left
  · exact ev_neg h1 (Ev.step (fun k => spec_IsTable.j0.eq_2 _ _ _ _ _ _ _ k) (ev_pos rfl (ev_now (by simp [h1]))))
  rw [w64 (by omega) (by omega)]
  refine ev_pos h1 (ev_bindc (l01In_eq _ _ _) ?_)
  by_cases h2 : inR 0 ((l.length : Int) - 1) b = true
  rotate_left
  · exact ev_neg h2 (Ev.step (fun k => spec_IsTable.j0.eq_2 _ _ _ _ _ _ _ k) (ev_pos rfl (ev_now (by simp [h2]))))
  refine ev_pos h2 (ev_bindc (l01In_eq _ _ _) ?_)
  by_cases h3 : inR 1 100000 g = true
  rotate_left
  · exact ev_neg h3 (Ev.step (fun k => spec_IsTable.j0.eq_2 _ _ _ _ _ _ _ k) (ev_pos rfl (ev_now (by simp [h3]))))
  refine ev_pos h3 (ev_bindc (l01In_eq _ _ _) ?_)
  by_cases h4 : inR 0 g s = true
  rotate_left
  · exact ev_neg h4 (Ev.step (fun k => spec_IsTable.j0.eq_2 _ _ _ _ _ _ _ k) (ev_pos rfl (ev_now (by simp [h4]))))
  refine ev_pos h4 (ev_bindc (l01In_eq _ _ _) ?_)
  by_cases h5 : inR 0 100000 a = true
  rotate_left
  · exact ev_neg h5 (Ev.step (fun k => spec_IsTable.j0.eq_2 _ _ _ _ _ _ _ k) (ev_pos rfl (ev_now (by simp [h5]))))
  refine ev_pos h5 (ev_bindc (l01In_eq _ _ _) (Ev.step (fun k => spec_IsTable.j0.eq_2 _ _ _ _ _ _ _ k) ?_))
  by_cases h6 : inR 0 2 m = true
  rotate_left
  · exact ev_pos (by simpa using h6) (ev_now (by simp [h6]))
  refine ev_neg (by simp [h6]) ?_
  simp only [h1, h2, h3, h4, h5, h6, Bool.true_and]
  exact specTable_l0 b s g a m l [] (by simpa using hl)
theorem implTable_ev (l : List Int) (b s g a m : Int) (hl : l.length ≤ 1000000000000) : Ev (fun k => impl_IsTable.f k l b s g a m) (tableB l b s g a m) := by
  unfold impl_IsTable.f tableB
  refine ev_bindc (within_eq _ _ _) ?_
  by_cases h1 : inR 2 6 (l.length : Int) = true
  rotate_left
  · exact ev_neg h1 (ev_now (by simp [h1]))
  rw [w64 (by omega) (by omega)]
  refine ev_pos h1 (Ev.bind (allWithin_ev l 1 100000 hl) ?_)
  by_cases h7 : l.all (inR 1 100000) = true
  rotate_left
  · simp only [Bool.not_eq_true] at h7
    exact ev_neg (by simp [h7]) (ev_now (by simp only [h7, Bool.and_false]))
  refine ev_pos h7 (ev_bindc (within_eq _ _ _) ?_)
  by_cases h2 : inR 0 ((l.length : Int) - 1) b = true
  rotate_left
  · exact ev_neg h2 (ev_now (by simp [h2]))
  refine ev_pos h2 (ev_bindc (within_eq _ _ _) ?_)
  by_cases h3 : inR 1 100000 g = true
  rotate_left
  · exact ev_neg h3 (ev_now (by simp [h3]))
  refine ev_pos h3 (ev_bindc (within_eq _ _ _) ?_)
  by_cases h4 : inR 0 g s = true
  rotate_left
  · exact ev_neg h4 (ev_now (by simp [h4]))
  refine ev_pos h4 (ev_bindc (within_eq _ _ _) ?_)
  by_cases h5 : inR 0 100000 a = true
  rotate_left
  · exact ev_neg h5 (ev_now (by simp [h5]))
  refine ev_pos h5 (ev_bindc (within_eq _ _ _) (ev_now ?_))
  simp only [h1, h2, h3, h4, h5, h7, Bool.true_and, Bool.and_true]
theorem specSum_l0 : ∀ (s pre : List Int) (acc : Int), pre.length + s.length ≤ 1000000000000 →
    Ev (fun k => spec_l01Sum.l0 k (pre ++ s) acc (pre.length : Int)) (sumM acc s)
  | [], pre, acc, hl => by
    refine Ev.step (fun k => spec_l01Sum.l0.eq_2 _ _ _ k) ?_
    exact ev_neg (by simp) (ev_now rfl)
  | x :: s, pre, acc, hl => by
    have hl' : pre.length + (s.length + 1) ≤ 1000000000000 := hl
    refine Ev.step (fun k => spec_l01Sum.l0.eq_2 _ _ _ k) ?_
    refine ev_pos (by simp; omega) (ev_pos (by omega) ?_)
    rw [rd_at, w64 (n := (pre.length : Int) + 1) (by omega) (by omega), len_snoc pre x, app_snoc pre s x]
    exact specSum_l0 s (pre ++ [x]) (wrap64 (acc + x)) (by simp; omega)
theorem specSum_ev (l : List Int) (hl : l.length ≤ 1000000000000) : Ev (fun k => spec_l01Sum.f k l) (sumM 0 l) := by
  unfold spec_l01Sum.f
  exact specSum_l0 l [] 0 (by simpa using hl)
theorem implSum_l0 : ∀ (s pre : List Int) (acc : Int), pre.length + s.length ≤ 1000000000000 →
    Ev (fun k => impl_sumOf.l0 k acc (pre ++ s) ((pre ++ s).length : Int) (pre.length : Int)) (sumM acc s)
  | [], pre, acc, hl => by
    refine Ev.step (fun k => impl_sumOf.l0.eq_2 _ _ _ _ k) ?_
    exact ev_neg (by simp) (ev_now rfl)
  | x :: s, pre, acc, hl => by
    have hl' : pre.length + (s.length + 1) ≤ 1000000000000 := hl
    refine Ev.step (fun k => impl_sumOf.l0.eq_2 _ _ _ _ k) ?_
    refine ev_pos (by simp; omega) (ev_pos (by omega) (ev_pos (by simp; omega) ?_))
    rw [rd_at, w64 (n := (pre.length : Int) + 1) (by omega) (by omega), len_snoc pre x, app_snoc pre s x]
    exact implSum_l0 s (pre ++ [x]) (wrap64 (acc + x)) (by simp; omega)
theorem implSum_ev (l : List Int) (hl : l.length ≤ 1000000000000) : Ev (fun k => impl_sumOf.f k l) (sumM 0 l) := by
  unfold impl_sumOf.f
  exact implSum_l0 l [] 0 (by simpa using hl)
theorem specLeft_eq (s n : Int) (h : n ≠ 0) : spec_l09Left.f s n = some (leftM s n) := by unfold spec_l09Left.f; rw [if_neg h]; rfl
theorem implLeft_eq (s n : Int) (h : n ≠ 0) : impl_leftOf.f s n = some (leftM s n) := by unfold impl_leftOf.f; rw [if_neg h]; rfl
theorem srcFrom_l0 (code : List Int) (hb : BytesOk code) : ∀ (s pre : List Int) (seed : Int), code = pre ++ s → 0 ≤ seed → seed < 2147483647 →
    ∃ seed', Ev (fun k => spec_l01From.l0 k code (pre.length : Int) code 0 seed) (code, 0, seed') ∧ 0 ≤ seed' ∧ seed' < 2147483647
  | [], pre, seed, hc, h0, h1 => by
    refine ⟨seed, Ev.step (fun k => spec_l01From.l0.eq_2 _ _ _ _ _ k) (ev_neg (by rw [hc]; simp) (ev_now rfl)), h0, h1⟩
  | x :: s, pre, seed, hc, h0, h1 => by
    have hl : code.length = pre.length + (s.length + 1) := by rw [hc]; simp
    have hbl := hb.1
    by_cases h64 : (pre.length : Int) < 64
    · have hx := hb.2 x (by rw [hc]; simp)
      have e : rd code (pre.length : Int) = x := by rw [hc]; exact rd_at _ _ _
      have w : wrap64 (wrap64 (seed * 61) + wrap64 x) = seed * 61 + x := by
        rw [w64 (n := seed * 61) (by omega) (by omega), w64 (n := x) (by omega) (by omega), w64 (by omega) (by omega)]
      have t := tmod_range (y := seed * 61 + x) (n := 2147483647) (by omega) (by omega)
      obtain ⟨seed', h, hs⟩ := srcFrom_l0 code hb s (pre ++ [x]) (Int.tmod (seed * 61 + x) 2147483647) (by rw [hc]; simp) t.1 t.2
      refine ⟨seed', Ev.step (fun k => spec_l01From.l0.eq_2 _ _ _ _ _ k) (ev_pos (by omega) (ev_pos h64 (ev_pos (by omega) ?_))), hs⟩
      rw [e, w, w64 (by omega) (by omega), len_snoc pre x]
      exact h
    · exact ⟨seed, Ev.step (fun k => spec_l01From.l0.eq_2 _ _ _ _ _ k) (ev_pos (by omega) (ev_neg h64 (ev_now rfl))), h0, h1⟩
theorem srcFrom_ok (code : List Int) (hb : BytesOk code) : ∃ seed, Ev (fun k => spec_l01From.f k code) (code, 0, seed) ∧ SrcOk code 0 seed := by
  unfold spec_l01From.f
  obtain ⟨seed, h, h0, h1⟩ := srcFrom_l0 code hb code [] 45007 rfl (by decide) (by decide)
  exact ⟨seed, h, Int.le_refl 0, by omega, h0, h1⟩
theorem next_ok {code : List Int} {p seed : Int} (hb : BytesOk code) (h : SrcOk code p seed) (n : Int) :
    ∃ x p' seed', spec_l01Next.f code p seed n = some (x, p', seed') ∧ SrcOk code p' seed' ∧ 0 ≤ x ∧ (1 ≤ n → x < n) := by
  obtain ⟨hp0, hp1, hs0, hs1⟩ := h
  have hbl := hb.1
  unfold spec_l01Next.f
  by_cases h1 : n ≤ 1
  · exact ⟨0, p, seed, by rw [if_pos h1], ⟨hp0, hp1, hs0, hs1⟩, Int.le_refl 0, fun _ => by omega⟩
  rw [if_neg h1]
  have w : wrap64 (wrap64 (seed * 48271) + 29) = seed * 48271 + 29 := by rw [w64 (n := seed * 48271) (by omega) (by omega), w64 (by omega) (by omega)]
  have hS := tmod_range (y := seed * 48271 + 29) (n := 2147483647) (by omega) (by omega)
  rw [w]
  generalize Int.tmod (seed * 48271 + 29) 2147483647 = S at hS ⊢
  have d31 : wrap64 (Int.tdiv S 31) = S / 31 := by rw [Int.tdiv_eq_ediv_of_nonneg hS.1]; exact w64 (by omega) (by omega)
  rw [d31]
  by_cases h2 : p < (code.length : Int)
  · have hr := hb.2 _ (rd_mem hp0 h2)
    have e1 : wrap64 (p + 1) = p + 1 := w64 (by omega) (by omega)
    have e2 : wrap64 (p + 1 - 1) = p := by rw [w64 (by omega) (by omega)]; omega
    rw [if_pos h2, if_pos hp0, e1, e2]
    generalize rd code p = c at hr ⊢
    have ec : wrap64 c = c := w64 (by omega) (by omega)
    rw [ec]
    have ed : wrap64 (S / 31 + c) = S / 31 + c := w64 (by omega) (by omega)
    rw [ed]
    have t1 := tmod_range (y := c) (n := n) hr.1 (by omega)
    have t2 := tmod_range (y := S / 31 + c) (n := n) (by omega) (by omega)
    have hok : SrcOk code (p + 1) S := ⟨by omega, by omega, hS.1, hS.2⟩
    by_cases h3 : n ≤ 256
    · rw [if_pos h3]
      by_cases h4 : Int.tmod (p + 1) 2 = 0
      · rw [if_pos h4, if_pos hp0, if_pos h2, if_neg (by omega)]
        exact ⟨_, _, _, rfl, hok, t1.1, fun _ => t1.2⟩
      · rw [if_neg h4, if_neg (by omega)]
        exact ⟨_, _, _, rfl, hok, t2.1, fun _ => t2.2⟩
    · rw [if_neg h3, if_neg (by omega)]
      exact ⟨_, _, _, rfl, hok, t2.1, fun _ => t2.2⟩
  · have ew : wrap64 (S / 31) = S / 31 := w64 (by omega) (by omega)
    have t2 := tmod_range (y := S / 31) (n := n) (by omega) (by omega)
    rw [if_neg h2, if_neg (by omega)]
    exact ⟨_, _, _, rfl, ⟨hp0, hp1, hS.1, hS.2⟩, t2.1, fun _ => t2.2⟩
theorem pick_ok {code : List Int} {p seed : Int} (hb : BytesOk code) (h : SrcOk code p seed) (l : List Int) (hl : 1 ≤ l.length) :
    ∃ x p' seed', spec_l01Pick.f code p seed l = some (x, p', seed') ∧ SrcOk code p' seed' ∧ x ∈ l := by
  obtain ⟨x, p', s', e, hok, hx0, hx1⟩ := next_ok hb h (l.length : Int)
  unfold spec_l01Pick.f
  rw [e]
  have hlt := hx1 (by omega)
  simp only [Option.bind_some, if_pos hx0, if_pos hlt]
  exact ⟨_, _, _, rfl, hok, rd_mem hx0 hlt⟩
theorem likeInts_l0 : ∀ (s pre : List Int), pre.length + s.length ≤ 1000000000000 →
    Ev (fun k => laws_likeInts.l0 k (pre ++ s) (pre ++ s) (pre.length : Int)) true
  | [], pre, hl => by
    refine Ev.step (fun k => laws_likeInts.l0.eq_2 _ _ _ k) ?_
    exact ev_neg (by simp) (ev_now rfl)
  | x :: s, pre, hl => by
    have hl' : pre.length + (s.length + 1) ≤ 1000000000000 := hl
    refine Ev.step (fun k => laws_likeInts.l0.eq_2 _ _ _ k) ?_
    refine ev_pos (by simp; omega) (ev_pos (by omega) (ev_pos (by simp; omega) (ev_pos rfl ?_)))
    rw [w64 (by omega) (by omega), len_snoc pre x, app_snoc pre s x]
    exact likeInts_l0 s (pre ++ [x]) (by simp; omega)
theorem likeInts_ev {a b : List Int} (e : a = b) (hl : a.length ≤ 1000000000000) : Ev (fun k => laws_likeInts.f k a b) true := by
  subst e
  unfold laws_likeInts.f
  exact ev_pos rfl (likeInts_l0 a [] (by simpa using hl))
theorem likeIntsG_l0 : ∀ (s t pre1 pre2 : List Int), pre1.length = pre2.length → s.length = t.length → pre1.length + s.length ≤ 1000000000000 →
    Ev (fun k => laws_likeInts.l0 k (pre1 ++ s) (pre2 ++ t) (pre1.length : Int)) (decide (s = t))
  | [], [], pre1, pre2, h1, h2, hl => by
    refine Ev.step (fun k => laws_likeInts.l0.eq_2 _ _ _ k) ?_
    exact ev_neg (by simp) (ev_now (by simp))
  | x :: s, y :: t, pre1, pre2, h1, h2, hl => by
    have hl' : pre1.length + (s.length + 1) ≤ 1000000000000 := hl
    have h2' : s.length = t.length := by simpa using h2
    refine Ev.step (fun k => laws_likeInts.l0.eq_2 _ _ _ k) ?_
    refine ev_pos (by simp; omega) (ev_pos (by omega) (ev_pos (by simp; omega) ?_))
    have e2 : rd (pre2 ++ y :: t) (pre1.length : Int) = y := by rw [h1]; exact rd_at _ _ _
    rw [rd_at, e2]
    by_cases e : x = y
    · subst e
      refine ev_pos rfl ?_
      rw [w64 (by omega) (by omega), len_snoc pre1 x, app_snoc pre1 s x, app_snoc pre2 t x]
      have h := likeIntsG_l0 s t (pre1 ++ [x]) (pre2 ++ [x]) (by simp [h1]) h2' (by simp; omega)
      simpa using h
    · exact ev_neg e (ev_now (by simp [e]))
  | [], y :: t, pre1, pre2, h1, h2, hl => by simp at h2
  | x :: s, [], pre1, pre2, h1, h2, hl => by simp at h2
theorem likeIntsG_ev (a b : List Int) (hl : a.length ≤ 1000000000000) : Ev (fun k => laws_likeInts.f k a b) (decide (a = b)) := by
  unfold laws_likeInts.f
  by_cases h : (a.length : Int) = (b.length : Int)
  · exact ev_pos h (likeIntsG_l0 a b [] [] rfl (by omega) (by simpa using hl))
  · refine ev_neg h (ev_now ?_)
    symm
    rw [decide_eq_false_iff_not]
    intro e; subst e; exact h rfl
theorem valid09_l0 {code : List Int} (hb : BytesOk code) (n : Nat) (hn : 1 ≤ n) (hn2 : n ≤ 100) : ∀ (d i : Nat) (acc : List Int) (p seed : Int), SrcOk code p seed → i + d = n → acc.length = i →
    ∃ (l : List Int) (b s g a m p' seed' : Int), Ev (fun k => spec_l09Valid.l0 k (n : Int) acc (i : Int) code p seed) (l, b, s, g, a, m, p', seed') ∧ SrcOk code p' seed' ∧ l.length = n
  | 0, i, acc, p, seed, h, hi, hl => by
    obtain ⟨g, p1, s1, e1, ok1, _⟩ := pick_ok hb h [1, 2, 2, 4, 10] (by simp)
    obtain ⟨b, p2, s2, e2, ok2, _, _⟩ := next_ok hb ok1 (n : Int)
    obtain ⟨a, p3, s3, e3, ok3, _⟩ := pick_ok hb ok2 [0, 0, 1, 3] (by simp)
    obtain ⟨m, p4, s4, e4, ok4, _, _⟩ := next_ok hb ok3 3
    exact ⟨acc, b, _, g, a, m, p4, s4, Ev.step (fun k => spec_l09Valid.l0.eq_2 _ _ _ _ _ _ k) (ev_neg (by omega) (ev_bindc e1 (ev_bindc e2 (ev_bindc e3 (ev_bindc e4 (ev_now rfl)))))), ok4, by omega⟩
  | d + 1, i, acc, p, seed, h, hi, hl => by
    obtain ⟨x, p1, s1, e1, ok1, _, _⟩ := next_ok hb h 5
    obtain ⟨y, p2, s2, e2, ok2, _, _⟩ := next_ok hb ok1 30
    obtain ⟨z, p3, s3, e3, ok3, _, _⟩ := next_ok hb ok2 160
    obtain ⟨w, p4, s4, e4, ok4, _⟩ := pick_ok hb ok3 [1, wrap64 (2 + x), wrap64 (10 + y), wrap64 (40 + z), 100] (by simp)
    obtain ⟨l, b, s, g, a, m, p5, s5, e5, ok5, hlen⟩ := valid09_l0 hb n hn hn2 d (i + 1) (acc ++ [w]) p4 s4 ok4 (by omega) (by simp; omega)
    have ei : wrap64 ((i : Int) + 1) = ((i + 1 : Nat) : Int) := by rw [w64 (by omega) (by omega)]; simp
    refine ⟨l, b, s, g, a, m, p5, s5, Ev.step (fun k => spec_l09Valid.l0.eq_2 _ _ _ _ _ _ k) (ev_pos (by omega) (ev_bindc e1 (ev_bindc e2 (ev_bindc e3 (ev_bindc e4 (ev_pos (by omega) ?_)))))), ok5, hlen⟩
    rw [ei]; exact e5
theorem valid09_ok {code : List Int} {p seed : Int} (hb : BytesOk code) (h : SrcOk code p seed) :
    ∃ (l : List Int) (b s g a m p' seed' : Int), Ev (fun k => spec_l09Valid.f k code p seed) (l, b, s, g, a, m, p', seed') ∧ SrcOk code p' seed' ∧ 2 ≤ l.length ∧ l.length ≤ 6 := by
  unfold spec_l09Valid.f
  obtain ⟨x, p1, s1, e1, ok1, hx0, hx1⟩ := next_ok hb h 5
  have hx := hx1 (by omega)
  obtain ⟨n, rfl⟩ := Int.eq_ofNat_of_zero_le hx0
  have en : wrap64 (2 + ((n : Nat) : Int)) = ((2 + n : Nat) : Int) := by rw [w64 (by omega) (by omega)]; simp
  obtain ⟨l, b, s, g, a, m, p5, s5, e5, ok5, hlen⟩ := valid09_l0 hb (2 + n) (by omega) (by omega) (2 + n) 0 [] p1 s1 ok1 (by omega) rfl
  refine ⟨l, b, s, g, a, m, p5, s5, ev_bindc e1 ?_, ok5, by omega, by omega⟩
  show Ev (fun k => spec_l09Valid.l0 k (wrap64 (2 + ((n : Nat) : Int))) [] 0 code p1 s1) _
  rw [en]; exact e5
theorem own01_eq (l : List Int) (hl : l.length ≤ 1000000) : spec_l01Own.f l = some l := by
  unfold spec_l01Own.f
  simp only [Option.bind_some, List.length_nil, List.nil_append, Nat.zero_add]
  rw [if_pos (by omega)]
theorem draw09_ok {code : List Int} {p seed : Int} (hb : BytesOk code) (h : SrcOk code p seed) :
    ∃ (l : List Int) (b s g a m p' seed' : Int), Ev (fun k => spec_l09Draw.f k code p seed) (l, b, s, g, a, m, p', seed') ∧ SrcOk code p' seed' ∧ l.length ≤ 11 := by
  unfold spec_l09Draw.f
  obtain ⟨l, b, s, g, a, m, p1, s1, e1, ok1, h2, h6⟩ := valid09_ok hb h
  obtain ⟨x, p2, s2, e2, ok2, _, _⟩ := next_ok hb ok1 30
  by_cases c0 : x = 0
  · obtain ⟨z, p3, s3, e3, ok3, _⟩ := pick_ok hb ok2 [0, 100000, 100001] (by simp)
    exact ⟨_, _, _, _, _, _, _, _, Ev.bind e1 (ev_bindc e2 (ev_pos c0 (ev_bindc e3 (ev_pos (by simp only; omega) (ev_now rfl))))), ok3, by simp; omega⟩
  by_cases c1 : x = 1
  · obtain ⟨z, p3, s3, e3, ok3, _⟩ := pick_ok hb ok2 [(-1), (l.length : Int)] (by simp)
    exact ⟨_, _, _, _, _, _, _, _, Ev.bind e1 (ev_bindc e2 (ev_neg c0 (ev_pos c1 (ev_bindc e3 (ev_now rfl))))), ok3, by simp only; omega⟩
  by_cases c2 : x = 2
  · obtain ⟨z, p3, s3, e3, ok3, _⟩ := pick_ok hb ok2 [(-1), g, wrap64 (g + 1)] (by simp)
    exact ⟨_, _, _, _, _, _, _, _, Ev.bind e1 (ev_bindc e2 (ev_neg c0 (ev_neg c1 (ev_pos c2 (ev_bindc e3 (ev_now rfl)))))), ok3, by simp only; omega⟩
  by_cases c3 : x = 3
  · obtain ⟨z, p3, s3, e3, ok3, _⟩ := pick_ok hb ok2 [0, 100000, 100001] (by simp)
    exact ⟨_, _, _, _, _, _, _, _, Ev.bind e1 (ev_bindc e2 (ev_neg c0 (ev_neg c1 (ev_neg c2 (ev_pos c3 (ev_bindc e3 (ev_now rfl))))))), ok3, by simp only; omega⟩
  by_cases c4 : x = 4
  · obtain ⟨z, p3, s3, e3, ok3, _⟩ := pick_ok hb ok2 [(-1), 100000, 100001] (by simp)
    exact ⟨_, _, _, _, _, _, _, _, Ev.bind e1 (ev_bindc e2 (ev_neg c0 (ev_neg c1 (ev_neg c2 (ev_neg c3 (ev_pos c4 (ev_bindc e3 (ev_now rfl)))))))), ok3, by simp only; omega⟩
  by_cases c5 : x = 5
  · obtain ⟨z, p3, s3, e3, ok3, _⟩ := pick_ok hb ok2 [(-1), 3] (by simp)
    exact ⟨_, _, _, _, _, _, _, _, Ev.bind e1 (ev_bindc e2 (ev_neg c0 (ev_neg c1 (ev_neg c2 (ev_neg c3 (ev_neg c4 (ev_pos c5 (ev_bindc e3 (ev_now rfl))))))))), ok3, by simp only; omega⟩
  by_cases c6 : x = 6
  · exact ⟨_, _, _, _, _, _, _, _, Ev.bind e1 (ev_bindc e2 (ev_neg c0 (ev_neg c1 (ev_neg c2 (ev_neg c3 (ev_neg c4 (ev_neg c5 (ev_pos c6 (ev_bindc (own01_eq l (by omega)) (ev_bindc rfl (ev_pos (by simp; omega) (ev_now rfl)))))))))))), ok2, by simp; omega⟩
  · exact ⟨_, _, _, _, _, _, _, _, Ev.bind e1 (ev_bindc e2 (ev_neg c0 (ev_neg c1 (ev_neg c2 (ev_neg c3 (ev_neg c4 (ev_neg c5 (ev_neg c6 (ev_now rfl))))))))), ok2, by simp only; omega⟩
theorem specChipsAt_ev (l : List Int) (b s g a m : Int) (hl : l.length ≤ 1048576) : Ev (fun k => spec_ChipsAt.f k l b s g a m) (ChipsAtM l b s g a m) := by
  unfold spec_ChipsAt.f
  refine Ev.bind (specTable_ev l b s g a m (by omega)) ?_
  by_cases h : tableB l b s g a m = true
  · have bd := table_bounds h
    have e : ChipsAtM l b s g a m = (sumM 0 l, 0) := if_pos h
    rw [e]
    refine ev_pos h ?_
    exact Ev.bind (specSum_ev l (by omega)) (ev_now rfl)
  · have e : ChipsAtM l b s g a m = (0, 1) := if_neg h
    rw [e]
    exact ev_neg h (ev_now rfl)
theorem implChipsAt_ev (l : List Int) (b s g a m : Int) (hl : l.length ≤ 1048576) : Ev (fun k => impl_ChipsAt.f k l b s g a m) (ChipsAtM l b s g a m) := by
  unfold impl_ChipsAt.f
  refine Ev.bind (implTable_ev l b s g a m (by omega)) ?_
  by_cases h : tableB l b s g a m = true
  · have bd := table_bounds h
    have e : ChipsAtM l b s g a m = (sumM 0 l, 0) := if_pos h
    rw [e]
    refine ev_pos h ?_
    exact Ev.bind (implSum_ev l (by omega)) (ev_now rfl)
  · have e : ChipsAtM l b s g a m = (0, 1) := if_neg h
    rw [e]
    exact ev_neg h (ev_now rfl)
def heldL (l : List Int) : List Int := l.filter (fun x => decide (0 < x))
def numsL : Nat → List Int → List Int
  | _, [] => []
  | c, x :: s => (c : Int) :: numsL (if 0 < x then c + 1 else c) s
theorem numsL_len : ∀ (s : List Int) (c : Nat), (numsL c s).length = s.length
  | [], _ => rfl
  | x :: s, c => by simp [numsL, numsL_len s]
def seekM (st : List Int) : Nat → Int → Int
  | 0, x => x
  | d + 1, x => if rd st x = 0 then seekM st d (leftM x st.length) else x
theorem rd_cons (x : Int) (s : List Int) (j : Nat) : rd (x :: s) ((j + 1 : Nat) : Int) = rd s (j : Int) := by
  simp [rd]
theorem rd_cons0 (x : Int) (s : List Int) : rd (x :: s) ((0 : Nat) : Int) = x := by
  simp [rd]
theorem seek_range (st : List Int) (hn : st.length ≤ 1000) : ∀ (d : Nat) (x : Int), 0 ≤ x → x < st.length → 0 ≤ seekM st d x ∧ seekM st d x < st.length
  | 0, x, h0, h1 => ⟨h0, h1⟩
  | d + 1, x, h0, h1 => by
    unfold seekM
    split
    · have r := leftM_range h0 h1 (by omega)
      exact seek_range st hn d _ r.1 r.2
    · exact ⟨h0, h1⟩
theorem seek_zero (st : List Int) (hn : st.length ≤ 1000) : ∀ (d : Nat) (x : Int), 0 ≤ x → x < st.length → rd st (seekM st d x) = 0 →
    ∀ i : Nat, i ≤ d → rd st ((x + (i : Int)) % (st.length : Int)) = 0
  | 0, x, h0, h1, h, i, hi => by
    obtain rfl : i = 0 := by omega
    rw [Int.emod_eq_of_lt (by omega) (by omega)]
    simpa [seekM] using h
  | d + 1, x, h0, h1, h, i, hi => by
    unfold seekM at h
    by_cases hz : rd st x = 0
    · rw [if_pos hz] at h
      have r := leftM_range h0 h1 (by omega)
      cases i with
      | zero => rw [Int.emod_eq_of_lt (by omega) (by omega)]; simpa using hz
      | succ i =>
        have hh := seek_zero st hn d _ r.1 r.2 h i (by omega)
        rw [leftM_eq h0 h1 (by omega), Int.emod_add_emod] at hh
        have e : x + ((i + 1 : Nat) : Int) = x + 1 + (i : Int) := by omega
        rw [e]; exact hh
    · rw [if_neg hz] at h; exact absurd h hz
theorem seek_hit (st : List Int) (hn : st.length ≤ 1000) (x j : Int) (h0 : 0 ≤ x) (h1 : x < st.length) (j0 : 0 ≤ j) (j1 : j < st.length) (hj : rd st j ≠ 0) :
    rd st (seekM st (st.length - 1) x) ≠ 0 := by
  intro h
  have z := seek_zero st hn _ x h0 h1 h
  by_cases hx : x ≤ j
  · have := z (j - x).toNat (by omega)
    rw [Int.toNat_of_nonneg (by omega), Int.emod_eq_of_lt (by omega) (by omega)] at this
    exact hj (by rw [← this]; congr 1; omega)
  · have := z (j - x + st.length).toNat (by omega)
    rw [Int.toNat_of_nonneg (by omega)] at this
    have e : x + (j - x + (st.length : Int)) = j + (st.length : Int) := by omega
    rw [e, Int.add_emod_right, Int.emod_eq_of_lt (by omega) (by omega)] at this
    exact hj this
theorem held_hit (st : List Int) (h : 1 ≤ (heldL st).length) : ∃ j : Int, 0 ≤ j ∧ j < st.length ∧ rd st j ≠ 0 := by
  obtain ⟨x, hx⟩ : ∃ x, x ∈ heldL st := by
    cases e : heldL st with
    | nil => rw [e] at h; simp at h
    | cons x _ => exact ⟨x, by simp⟩
  have hx2 := List.mem_filter.1 hx
  obtain ⟨j, hj, e⟩ := List.getElem_of_mem hx2.1
  refine ⟨(j : Int), by omega, by omega, ?_⟩
  have h3 : 0 < x := by simpa using hx2.2
  simp only [rd, Int.toNat_natCast, List.getD_eq_getElem?_getD, List.getElem?_eq_getElem hj, Option.getD_some, e]
  omega
def pickM (btn : Int) : List Int → Nat → List Int → Int → List Int × Int
  | [], _, R, B => (R, B)
  | x :: t, i, R, B => if x = 0 then pickM btn t (i + 1) R B else pickM btn t (i + 1) (R ++ [x]) (if (i : Int) = btn then (R.length : Int) else B)
theorem pick_list (btn : Int) : ∀ (t : List Int) (i : Nat) (R : List Int) (B : Int), t.all (inR 0 100000) = true → (pickM btn t i R B).1 = R ++ heldL t
  | [], i, R, B, h => by simp [pickM, heldL]
  | x :: t, i, R, B, h => by
    simp only [List.all_cons, Bool.and_eq_true, inR_iff] at h
    unfold pickM
    by_cases hx : x = 0
    · rw [if_pos hx, pick_list btn t _ _ _ h.2]; simp [heldL, hx]
    · rw [if_neg hx, pick_list btn t _ _ _ h.2]
      have : 0 < x := by omega
      simp [heldL, this]
theorem pick_keep (btn : Int) : ∀ (t : List Int) (i : Nat) (R : List Int) (B : Int), btn < i → (pickM btn t i R B).2 = B
  | [], i, R, B, h => rfl
  | x :: t, i, R, B, h => by
    unfold pickM
    split
    · exact pick_keep btn t _ _ _ (by omega)
    · rw [pick_keep btn t _ _ _ (by omega), if_neg (by omega)]
theorem pick_btn (btn : Int) : ∀ (t : List Int) (i : Nat) (R : List Int) (B : Int) (j : Nat), t.all (inR 0 100000) = true → btn = (i : Int) + j → j < t.length → rd t (j : Int) ≠ 0 → (pickM btn t i R B).2 = rd (numsL R.length t) (j : Int)
  | [], i, R, B, j, h, e, hj, hz => by simp at hj
  | x :: t, i, R, B, 0, h, e, hj, hz => by
    rw [rd_cons0] at hz
    unfold pickM
    rw [if_neg hz, pick_keep btn t _ _ _ (by omega), if_pos (by omega)]
    simp only [numsL, rd_cons0]
  | x :: t, i, R, B, j + 1, h, e, hj, hz => by
    rw [rd_cons] at hz
    simp only [List.all_cons, Bool.and_eq_true, inR_iff] at h
    have hj' : j < t.length := by simpa using hj
    unfold pickM
    simp only [numsL, rd_cons]
    by_cases hx : x = 0
    · rw [if_pos hx, pick_btn btn t (i + 1) R B j h.2 (by omega) hj' hz, if_neg (by omega)]
    · rw [if_neg hx, pick_btn btn t (i + 1) (R ++ [x]) _ j h.2 (by omega) hj' hz, if_pos (by omega)]
      simp
def NextM (l : List Int) (b s g a m : Int) (st : List Int) : List Int × Int × Int × Int × Int × Int × Int :=
  if tableB l b s g a m = true then
    (if st.length = l.length then
      (if st.all (inR 0 100000) = true then
        (if ((heldL st).length : Int) < 2 then ([], 0, 0, 0, 0, 0, 5) else (heldL st, rd (numsL 0 st) (seekM st (st.length - 1) (leftM b st.length)), s, g, a, m, 0))
      else ([], 0, 0, 0, 0, 0, 2))
    else ([], 0, 0, 0, 0, 0, 2))
  else ([], 0, 0, 0, 0, 0, 1)
theorem held_len (st : List Int) : (heldL st).length ≤ st.length := List.length_filter_le _ _
theorem NextM_len (l : List Int) (b s g a m : Int) (st : List Int) (hl : l.length ≤ 1048576) : (NextM l b s g a m st).1.length ≤ 6 := by
  unfold NextM
  split
  · rename_i h
    have bd := table_bounds h
    split
    · split
      · split
        · simp
        · have := held_len st
          simp only; omega
      · simp
    · simp
  · simp
theorem specNext_l1 (st R N l : List Int) (b s g a m : Int) (hn : st.length ≤ 1000) (hN : N.length = st.length) : ∀ (d : Nat) (x : Int), 0 ≤ x → x < st.length → rd st (seekM st d x) ≠ 0 →
    Ev (fun k => spec_NextTable.l1 k st R N x l b s g a m) (R, rd N (seekM st d x), s, g, a, m, 0)
  | 0, x, h0, h1, hz => by
    simp only [seekM] at hz ⊢
    exact Ev.step (fun k => spec_NextTable.l1.eq_2 _ _ _ _ _ _ _ _ _ _ k) (ev_pos h0 (ev_pos h1 (ev_neg hz (ev_pos (by omega) (ev_now rfl)))))
  | d + 1, x, h0, h1, hz => by
    unfold seekM at hz ⊢
    refine Ev.step (fun k => spec_NextTable.l1.eq_2 _ _ _ _ _ _ _ _ _ _ k) (ev_pos h0 (ev_pos h1 ?_))
    by_cases hx : rd st x = 0
    · rw [if_pos hx] at hz; simp only [if_pos hx]
      have r := leftM_range h0 h1 (by omega)
      exact ev_bindc (specLeft_eq _ _ (by omega)) (specNext_l1 st R N l b s g a m hn hN d _ r.1 r.2 hz)
    · simp only [if_neg hx]
      exact ev_pos (by omega) (ev_now rfl)
theorem specNext_l0 (st l : List Int) (b s g a m : Int) (hn : st.length ≤ 1000000) (r : List Int × Int × Int × Int × Int × Int × Int) : ∀ (t pre R N : List Int), st = pre ++ t → R.length ≤ pre.length → N.length = pre.length →
    (t.all (inR 0 100000) = true → Ev (fun k => if ((R ++ heldL t).length : Int) < 2 then (some (([] : List Int), 0, 0, 0, 0, 0, 5)) else ((spec_l09Left.f b (st.length : Int)).bind fun x => spec_NextTable.l1 k st (R ++ heldL t) (N ++ numsL R.length t) x l b s g a m)) r) →
    (t.all (inR 0 100000) = false → r = ([], 0, 0, 0, 0, 0, 2)) →
    Ev (fun k => spec_NextTable.l0 k st R N (pre.length : Int) l b s g a m) r
  | [], pre, R, N, hst, h1, h2, ht, hf => by
    have hl : st.length = pre.length := by rw [hst]; simp
    refine Ev.step (fun k => spec_NextTable.l0.eq_2 _ _ _ _ _ _ _ _ _ _ k) (ev_neg (by omega) ?_)
    simpa [heldL, numsL] using ht rfl
  | x :: t, pre, R, N, hst, h1, h2, ht, hf => by
    have hl : st.length = pre.length + (t.length + 1) := by rw [hst]; simp
    have er : rd st (pre.length : Int) = x := by rw [hst]; exact rd_at _ _ _
    refine Ev.step (fun k => spec_NextTable.l0.eq_2 _ _ _ _ _ _ _ _ _ _ k) (ev_pos (by omega) (ev_pos (by omega) ?_))
    rw [er]
    refine ev_bindc (l01In_eq _ _ _) ?_
    by_cases hin : inR 0 100000 x = true
    rotate_left
    · simp only [Bool.not_eq_true] at hin
      exact ev_neg (by simp [hin]) (ev_now (hf (by simp [hin])).symm)
    have hx := inR_iff.1 hin
    refine ev_pos hin (ev_pos (by omega) (ev_bindc rfl ?_))
    rw [w64 (by omega) (by omega), len_snoc pre x]
    have hst2 : st = (pre ++ [x]) ++ t := by rw [hst]; simp
    by_cases hp : 0 < x
    · refine ev_pos hp (ev_pos (by omega) (specNext_l0 st l b s g a m hn r t (pre ++ [x]) (R ++ [x]) _ hst2 (by simp; omega) (by simp; omega) ?_ ?_))
      · intro h
        have := ht (by simp [hin, h])
        simpa [heldL, numsL, hp] using this
      · intro h; exact hf (by simp [h])
    · refine ev_neg hp (specNext_l0 st l b s g a m hn r t (pre ++ [x]) R _ hst2 (by simp; omega) (by simp; omega) ?_ ?_)
      · intro h
        have := ht (by simp [hin, h])
        simpa [heldL, numsL, hp] using this
      · intro h; exact hf (by simp [h])
theorem specNext_ev (l : List Int) (b s g a m : Int) (st : List Int) (hl : l.length ≤ 1048576) : Ev (fun k => spec_NextTable.f k l b s g a m st) (NextM l b s g a m st) := by
  unfold spec_NextTable.f
  refine Ev.bind (specTable_ev l b s g a m (by omega)) ?_
  by_cases h : tableB l b s g a m = true
  rotate_left
  · have e : NextM l b s g a m st = ([], 0, 0, 0, 0, 0, 1) := if_neg h
    rw [e]; exact ev_neg h (ev_now rfl)
  have bd := table_bounds h
  refine ev_pos h ?_
  by_cases hn : st.length = l.length
  rotate_left
  · have e : NextM l b s g a m st = ([], 0, 0, 0, 0, 0, 2) := (if_pos h).trans (if_neg hn)
    rw [e]; exact ev_neg (by omega) (ev_now rfl)
  refine ev_pos (by omega) (specNext_l0 st l b s g a m (by omega) _ st [] [] [] rfl (by simp) rfl ?_ ?_)
  · intro hall
    have e : NextM l b s g a m st = _ := (if_pos h).trans ((if_pos hn).trans (if_pos hall))
    rw [e]
    simp only [List.nil_append, List.length_nil]
    by_cases h2 : ((heldL st).length : Int) < 2
    · rw [if_pos h2]; exact ev_pos h2 (ev_now rfl)
    · rw [if_neg h2]
      have r := leftM_range (s := b) (n := st.length) (by omega) (by omega) (by omega)
      obtain ⟨j, j0, j1, hj⟩ := held_hit st (by omega)
      exact ev_neg h2 (ev_bindc (specLeft_eq _ _ (by omega)) (specNext_l1 st _ _ l b s g a m (by omega) (numsL_len _ _) _ _ r.1 r.2 (seek_hit st (by omega) _ j r.1 r.2 j0 j1 hj)))
  · intro hall
    exact (if_pos h).trans ((if_pos hn).trans (if_neg (by simp [hall])))
theorem implNext_l1 (st : List Int) (btn s g a m : Int) (hn : st.length ≤ 1000000) : ∀ (t pre R : List Int) (B : Int), st = pre ++ t → R.length ≤ pre.length →
    Ev (fun k => impl_NextTable.l1 k btn st (st.length : Int) (pre.length : Int) R B s g a m) (if (((pickM btn t pre.length R B).1.length : Nat) : Int) < 2 then ([], 0, 0, 0, 0, 0, 5) else ((pickM btn t pre.length R B).1, (pickM btn t pre.length R B).2, s, g, a, m, 0))
  | [], pre, R, B, hst, h1 => by
    have hl : st.length = pre.length := by rw [hst]; simp
    refine Ev.step (fun k => impl_NextTable.l1.eq_2 _ _ _ _ _ _ _ _ _ _ k) (ev_neg (by omega) ?_)
    simp only [pickM]
    by_cases h2 : (R.length : Int) < 2
    · exact ev_pos h2 (ev_now (if_pos h2).symm)
    · exact ev_neg h2 (ev_now (if_neg h2).symm)
  | x :: t, pre, R, B, hst, h1 => by
    have hl : st.length = pre.length + (t.length + 1) := by rw [hst]; simp
    have er : rd st (pre.length : Int) = x := by rw [hst]; exact rd_at _ _ _
    refine Ev.step (fun k => impl_NextTable.l1.eq_2 _ _ _ _ _ _ _ _ _ _ k) (ev_pos (by omega) (ev_pos (by omega) (ev_pos (by omega) ?_)))
    rw [er, w64 (by omega) (by omega), len_snoc pre x]
    have hst2 : st = (pre ++ [x]) ++ t := by rw [hst]; simp
    have en : pre.length + 1 = (pre ++ [x]).length := by simp
    unfold pickM
    by_cases hx : x = 0
    · simp only [if_pos hx]
      have k := implNext_l1 st btn s g a m hn t (pre ++ [x]) R B hst2 (by simp; omega)
      rw [← en] at k ⊢
      exact k
    · simp only [if_neg hx]
      by_cases hb : (pre.length : Int) = btn
      · simp only [if_pos hb]
        have k := implNext_l1 st btn s g a m hn t (pre ++ [x]) (R ++ [x]) (R.length : Int) hst2 (by simp; omega)
        rw [← en] at k ⊢
        exact ev_pos (by omega) k
      · simp only [if_neg hb]
        have k := implNext_l1 st btn s g a m hn t (pre ++ [x]) (R ++ [x]) B hst2 (by simp; omega)
        rw [← en] at k ⊢
        exact ev_pos (by omega) k
theorem implNext_l0 (st l : List Int) (b s g a m : Int) (hn : st.length ≤ 1000) (r : List Int × Int × Int × Int × Int × Int × Int) : ∀ (d : Nat) (x i : Int), 0 ≤ i → i + d = st.length → 0 ≤ x → x < st.length →
    Ev (fun k => impl_NextTable.j2 k st (seekM st d x) l b s g a m) r → Ev (fun k => impl_NextTable.l0 k st (st.length : Int) x i l b s g a m) r
  | 0, x, i, h0, hi, x0, x1, h => Ev.step (fun k => impl_NextTable.l0.eq_2 _ _ _ _ _ _ _ _ _ _ k) (ev_neg (by omega) h)
  | d + 1, x, i, h0, hi, x0, x1, h => by
    refine Ev.step (fun k => impl_NextTable.l0.eq_2 _ _ _ _ _ _ _ _ _ _ k) (ev_pos (by omega) (ev_pos x0 (ev_pos x1 ?_)))
    by_cases hx : rd st x = 0
    · have e : seekM st (d + 1) x = seekM st d (leftM x st.length) := if_pos hx
      rw [e] at h
      have r' := leftM_range x0 x1 (by omega)
      rw [w64 (by omega) (by omega)]
      exact ev_pos hx (ev_bindc (implLeft_eq _ _ (by omega)) (implNext_l0 st l b s g a m hn r d _ (i + 1) (by omega) (by omega) r'.1 r'.2 h))
    · have e : seekM st (d + 1) x = x := if_neg hx
      rw [e] at h
      exact ev_neg hx h
theorem implNext_ev (l : List Int) (b s g a m : Int) (st : List Int) (hl : l.length ≤ 1048576) (hs : st.length ≤ 1048576) : Ev (fun k => impl_NextTable.f k l b s g a m st) (NextM l b s g a m st) := by
  unfold impl_NextTable.f
  refine Ev.bind (implTable_ev l b s g a m (by omega)) ?_
  by_cases h : tableB l b s g a m = true
  rotate_left
  · have e : NextM l b s g a m st = ([], 0, 0, 0, 0, 0, 1) := if_neg h
    rw [e]; exact ev_neg h (ev_now rfl)
  have bd := table_bounds h
  refine ev_pos h ?_
  by_cases hn : st.length = l.length
  rotate_left
  · have e : NextM l b s g a m st = ([], 0, 0, 0, 0, 0, 2) := (if_pos h).trans (if_neg hn)
    rw [e]; exact ev_neg (by omega) (Ev.step (fun k => impl_NextTable.j0.eq_2 _ _ _ _ _ _ _ _ _ k) (ev_pos rfl (ev_now rfl)))
  refine ev_pos (by omega) (Ev.bind (allWithin_ev st 0 100000 (by omega)) (Ev.step (fun k => impl_NextTable.j0.eq_2 _ _ _ _ _ _ _ _ _ k) ?_))
  by_cases hall : st.all (inR 0 100000) = true
  rotate_left
  · have e : NextM l b s g a m st = ([], 0, 0, 0, 0, 0, 2) := (if_pos h).trans ((if_pos hn).trans (if_neg hall))
    simp only [Bool.not_eq_true] at hall
    rw [e]; exact ev_pos (by simp [hall]) (ev_now rfl)
  have e : NextM l b s g a m st = _ := (if_pos h).trans ((if_pos hn).trans (if_pos hall))
  rw [e, ← hn]
  have r := leftM_range (s := b) (n := st.length) (by omega) (by omega) (by omega)
  refine ev_neg (by simp [hall]) (ev_bindc (implLeft_eq _ _ (by omega)) (implNext_l0 st l b s g a m (by omega) _ (st.length - 1) _ 1 (by omega) (by omega) r.1 r.2 ?_))
  have sr := seek_range st (by omega) (st.length - 1) _ r.1 r.2
  refine Ev.step (fun k => impl_NextTable.j2.eq_2 _ _ _ _ _ _ _ _ k) ?_
  have k := implNext_l1 st (seekM st (st.length - 1) (leftM b st.length)) s g a m (by omega) st [] [] 0 rfl (by simp)
  rw [pick_list _ _ _ _ _ hall] at k
  simp only [List.nil_append, List.length_nil] at k
  by_cases h2 : ((heldL st).length : Int) < 2
  · rw [if_pos h2] at k ⊢; exact k
  · rw [if_neg h2] at k ⊢
    obtain ⟨j, j0, j1, hj⟩ := held_hit st (by omega)
    have hit := seek_hit st (by omega) _ j r.1 r.2 j0 j1 hj
    generalize seekM st (st.length - 1) (leftM b st.length) = q at *
    obtain ⟨q, rfl⟩ := Int.eq_ofNat_of_zero_le sr.1
    rw [pick_btn (q : Int) st 0 [] 0 q hall (by simp) (by omega) hit] at k
    exact k
theorem draw09_ok1 {code : List Int} {p seed : Int} (hb : BytesOk code) (h : SrcOk code p seed) :
    ∃ (l : List Int) (b s g a m p' seed' : Int), Ev (fun k => spec_l09Draw.f k code p seed) (l, b, s, g, a, m, p', seed') ∧ SrcOk code p' seed' ∧ (1 ≤ l.length ∧ l.length ≤ 11) := by
  unfold spec_l09Draw.f
  obtain ⟨l, b, s, g, a, m, p1, s1, e1, ok1, h2, h6⟩ := valid09_ok hb h
  obtain ⟨x, p2, s2, e2, ok2, _, _⟩ := next_ok hb ok1 30
  by_cases c0 : x = 0
  · obtain ⟨z, p3, s3, e3, ok3, _⟩ := pick_ok hb ok2 [0, 100000, 100001] (by simp)
    exact ⟨_, _, _, _, _, _, _, _, Ev.bind e1 (ev_bindc e2 (ev_pos c0 (ev_bindc e3 (ev_pos (by simp only; omega) (ev_now rfl))))), ok3, by simp only [List.length_append, List.length_set, List.length_cons, List.length_nil]; omega⟩
  by_cases c1 : x = 1
  · obtain ⟨z, p3, s3, e3, ok3, _⟩ := pick_ok hb ok2 [(-1), (l.length : Int)] (by simp)
    exact ⟨_, _, _, _, _, _, _, _, Ev.bind e1 (ev_bindc e2 (ev_neg c0 (ev_pos c1 (ev_bindc e3 (ev_now rfl))))), ok3, by simp only; omega⟩
  by_cases c2 : x = 2
  · obtain ⟨z, p3, s3, e3, ok3, _⟩ := pick_ok hb ok2 [(-1), g, wrap64 (g + 1)] (by simp)
    exact ⟨_, _, _, _, _, _, _, _, Ev.bind e1 (ev_bindc e2 (ev_neg c0 (ev_neg c1 (ev_pos c2 (ev_bindc e3 (ev_now rfl)))))), ok3, by simp only; omega⟩
  by_cases c3 : x = 3
  · obtain ⟨z, p3, s3, e3, ok3, _⟩ := pick_ok hb ok2 [0, 100000, 100001] (by simp)
    exact ⟨_, _, _, _, _, _, _, _, Ev.bind e1 (ev_bindc e2 (ev_neg c0 (ev_neg c1 (ev_neg c2 (ev_pos c3 (ev_bindc e3 (ev_now rfl))))))), ok3, by simp only; omega⟩
  by_cases c4 : x = 4
  · obtain ⟨z, p3, s3, e3, ok3, _⟩ := pick_ok hb ok2 [(-1), 100000, 100001] (by simp)
    exact ⟨_, _, _, _, _, _, _, _, Ev.bind e1 (ev_bindc e2 (ev_neg c0 (ev_neg c1 (ev_neg c2 (ev_neg c3 (ev_pos c4 (ev_bindc e3 (ev_now rfl)))))))), ok3, by simp only; omega⟩
  by_cases c5 : x = 5
  · obtain ⟨z, p3, s3, e3, ok3, _⟩ := pick_ok hb ok2 [(-1), 3] (by simp)
    exact ⟨_, _, _, _, _, _, _, _, Ev.bind e1 (ev_bindc e2 (ev_neg c0 (ev_neg c1 (ev_neg c2 (ev_neg c3 (ev_neg c4 (ev_pos c5 (ev_bindc e3 (ev_now rfl))))))))), ok3, by simp only; omega⟩
  by_cases c6 : x = 6
  · exact ⟨_, _, _, _, _, _, _, _, Ev.bind e1 (ev_bindc e2 (ev_neg c0 (ev_neg c1 (ev_neg c2 (ev_neg c3 (ev_neg c4 (ev_neg c5 (ev_pos c6 (ev_bindc (own01_eq l (by omega)) (ev_bindc rfl (ev_pos (by simp; omega) (ev_now rfl)))))))))))), ok2, by simp only [List.length_append, List.length_set, List.length_cons, List.length_nil]; omega⟩
  · exact ⟨_, _, _, _, _, _, _, _, Ev.bind e1 (ev_bindc e2 (ev_neg c0 (ev_neg c1 (ev_neg c2 (ev_neg c3 (ev_neg c4 (ev_neg c5 (ev_neg c6 (ev_now rfl))))))))), ok2, by simp only; omega⟩
theorem drawNext_l0 {code : List Int} (hb : BytesOk code) (l : List Int) (b s g a m : Int) (h1 : 1 ≤ l.length) (h11 : l.length ≤ 11) : ∀ (d i : Nat) (acc : List Int) (p seed : Int), SrcOk code p seed → i + d = l.length → acc.length = i →
    ∃ (st : List Int), Ev (fun k => spec_DrawNextTable.l0 k acc (i : Int) code p seed l b s g a m) (l, b, s, g, a, m, st) ∧ st.length ≤ 12
  | 0, i, acc, p, seed, h, hi, ha => by
    obtain ⟨x, p1, s1, e1, ok1, _, _⟩ := next_ok hb h 20
    by_cases c0 : x = 0
    · exact ⟨acc ++ [1], Ev.step (fun k => spec_DrawNextTable.l0.eq_2 _ _ _ _ _ _ _ _ _ _ _ k) (ev_neg (by omega) (ev_bindc e1 (ev_pos c0 (ev_pos (by omega) (ev_now rfl))))), by simp; omega⟩
    by_cases c1 : x = 1
    · obtain ⟨z, p2, s2, e2, ok2, _⟩ := pick_ok hb ok1 [(-1), 100000, 100001] (by simp)
      exact ⟨acc.set (0 : Int).toNat z, Ev.step (fun k => spec_DrawNextTable.l0.eq_2 _ _ _ _ _ _ _ _ _ _ _ k) (ev_neg (by omega) (ev_bindc e1 (ev_neg c0 (ev_pos c1 (ev_bindc e2 (ev_pos (by omega) (ev_now rfl))))))), by simp; omega⟩
    · exact ⟨acc, Ev.step (fun k => spec_DrawNextTable.l0.eq_2 _ _ _ _ _ _ _ _ _ _ _ k) (ev_neg (by omega) (ev_bindc e1 (ev_neg c0 (ev_neg c1 (ev_now rfl))))), by omega⟩
  | d + 1, i, acc, p, seed, h, hi, ha => by
    obtain ⟨x, p1, s1, e1, ok1, _⟩ := pick_ok hb h [0, 0, 5, 100] (by simp)
    obtain ⟨st, e, hst⟩ := drawNext_l0 hb l b s g a m h1 h11 d (i + 1) (acc ++ [x]) p1 s1 ok1 (by omega) (by simp; omega)
    have ei : wrap64 ((i : Int) + 1) = ((i + 1 : Nat) : Int) := by rw [w64 (by omega) (by omega)]; simp
    refine ⟨st, Ev.step (fun k => spec_DrawNextTable.l0.eq_2 _ _ _ _ _ _ _ _ _ _ _ k) (ev_pos (by omega) (ev_bindc e1 (ev_pos (by omega) ?_))), hst⟩
    rw [ei]; exact e
theorem drawNext_ok (code : List Int) (hb : BytesOk code) : ∃ (l : List Int) (b s g a m : Int) (st : List Int), Ev (fun k => spec_DrawNextTable.f k code) (l, b, s, g, a, m, st) ∧ l.length ≤ 11 ∧ st.length ≤ 12 := by
  unfold spec_DrawNextTable.f
  obtain ⟨s0, e, ok⟩ := srcFrom_ok code hb
  obtain ⟨l, b, s, g, a, m, p1, s1, e1, ok1, hl1, hl⟩ := draw09_ok1 hb ok
  obtain ⟨st, e2, hst⟩ := drawNext_l0 hb l b s g a m hl1 hl l.length 0 [] p1 s1 ok1 (by omega) rfl
  exact ⟨l, b, s, g, a, m, st, Ev.bind e (Ev.bind e1 e2), hl, hst⟩
theorem drawChips_ok (code : List Int) (hb : BytesOk code) : ∃ (l : List Int) (b s g a m : Int), Ev (fun k => spec_DrawChipsAt.f k code) (l, b, s, g, a, m) ∧ l.length ≤ 11 := by
  unfold spec_DrawChipsAt.f
  obtain ⟨s0, e, ok⟩ := srcFrom_ok code hb
  obtain ⟨l, b, s, g, a, m, p1, s1, e1, ok1, hl⟩ := draw09_ok hb ok
  exact ⟨l, b, s, g, a, m, Ev.bind e (Ev.bind e1 (ev_now rfl)), hl⟩
theorem lawSum_l0 : ∀ (s pre : List Int) (acc : Int), pre.length + s.length ≤ 1000000000000 →
    Ev (fun k => laws_sum.l0 k (pre ++ s) acc (pre.length : Int)) (sumM acc s)
  | [], pre, acc, hl => by
    refine Ev.step (fun k => laws_sum.l0.eq_2 _ _ _ k) ?_
    exact ev_neg (by simp) (ev_now rfl)
  | x :: s, pre, acc, hl => by
    have hl' : pre.length + (s.length + 1) ≤ 1000000000000 := hl
    refine Ev.step (fun k => laws_sum.l0.eq_2 _ _ _ k) ?_
    refine ev_pos (by simp; omega) (ev_pos (by omega) ?_)
    rw [rd_at, w64 (n := (pre.length : Int) + 1) (by omega) (by omega), len_snoc pre x, app_snoc pre s x]
    exact lawSum_l0 s (pre ++ [x]) (wrap64 (acc + x)) (by simp; omega)
theorem lawSum_ev (l : List Int) (hl : l.length ≤ 1000000000000) : Ev (fun k => laws_sum.f k l) (sumM 0 l) := by
  unfold laws_sum.f
  exact lawSum_l0 l [] 0 (by simpa using hl)
theorem likeTables_ev (l : List Int) (a1 a2 a3 a4 a5 : Int) (hl : l.length ≤ 1000000000000) : Ev (fun k => laws_likeTables.f k l a1 a2 a3 a4 a5 l a1 a2 a3 a4 a5) true := by
  unfold laws_likeTables.f
  exact Ev.bind (likeInts_ev rfl hl) (ev_pos rfl (ev_pos rfl (ev_pos rfl (ev_pos rfl (ev_pos rfl (ev_now (by simp)))))))
theorem sum_held : ∀ (t : List Int) (acc : Int), t.all (inR 0 100000) = true → 0 ≤ acc → acc + 100000 * (t.length : Int) ≤ 1000000000000000 → sumM acc (heldL t) = sumM acc t
  | [], acc, h, h0, h1 => rfl
  | x :: t, acc, h, h0, h1 => by
    simp only [List.all_cons, Bool.and_eq_true, inR_iff] at h
    have h1' : acc + 100000 * ((t.length : Int) + 1) ≤ 1000000000000000 := by simpa using h1
    have e : wrap64 (acc + x) = acc + x := w64 (by omega) (by omega)
    have ih := sum_held t (acc + x) h.2 (by omega) (by omega)
    by_cases hp : 0 < x
    · have eh : heldL (x :: t) = x :: heldL t := by simp [heldL, hp]
      rw [eh]; simp only [sumM, e]; exact ih
    · have hx : x = 0 := by omega
      have eh : heldL (x :: t) = heldL t := by simp [heldL, hp]
      rw [eh]; simp only [sumM, e]
      rw [← ih, hx]; simp
theorem nums_bound : ∀ (t : List Int) (c j : Nat), t.all (inR 0 100000) = true → j < t.length → rd t (j : Int) ≠ 0 → (c : Int) ≤ rd (numsL c t) (j : Int) ∧ rd (numsL c t) (j : Int) < (c : Int) + (heldL t).length
  | [], c, j, h, hj, hz => by simp at hj
  | x :: t, c, 0, h, hj, hz => by
    simp only [List.all_cons, Bool.and_eq_true, inR_iff] at h
    rw [rd_cons0] at hz
    have hp : 0 < x := by omega
    have eh : heldL (x :: t) = x :: heldL t := by simp [heldL, hp]
    simp only [numsL, rd_cons0, eh, List.length_cons]
    omega
  | x :: t, c, j + 1, h, hj, hz => by
    simp only [List.all_cons, Bool.and_eq_true, inR_iff] at h
    rw [rd_cons] at hz
    have hj' : j < t.length := by simpa using hj
    simp only [numsL, rd_cons]
    by_cases hp : 0 < x
    · have eh : heldL (x :: t) = x :: heldL t := by simp [heldL, hp]
      rw [if_pos hp, eh]
      have ih := nums_bound t (c + 1) j h.2 hj' hz
      simp only [List.length_cons]; omega
    · have eh : heldL (x :: t) = heldL t := by simp [heldL, hp]
      rw [if_neg hp, eh]
      exact nums_bound t c j h.2 hj' hz
theorem next_table (l : List Int) (b s g a m : Int) (st : List Int) (h : tableB l b s g a m = true) (hn : st.length = l.length) (hall : st.all (inR 0 100000) = true) (h2 : ¬ ((heldL st).length : Int) < 2) :
    tableB (heldL st) (rd (numsL 0 st) (seekM st (st.length - 1) (leftM b st.length))) s g a m = true := by
  have bd := table_bounds h
  have r := leftM_range (s := b) (n := st.length) (by omega) (by omega) (by omega)
  have sr := seek_range st (by omega) (st.length - 1) _ r.1 r.2
  obtain ⟨j, j0, j1, hj⟩ := held_hit st (by omega)
  have hit := seek_hit st (by omega) _ j r.1 r.2 j0 j1 hj
  have hlen := held_len st
  generalize seekM st (st.length - 1) (leftM b st.length) = q at *
  obtain ⟨q, rfl⟩ := Int.eq_ofNat_of_zero_le sr.1
  have nb := nums_bound st 0 q hall (by omega) hit
  have ha : (heldL st).all (inR 1 100000) = true := by
    refine List.all_eq_true.2 (fun x hx => ?_)
    have hx2 := List.mem_filter.1 hx
    have h3 : 0 < x := by simpa using hx2.2
    have h4 := inR_iff.1 (List.all_eq_true.1 hall x hx2.1)
    exact inR_iff.2 (by omega)
  simp only [tableB, Bool.and_eq_true, inR_iff]
  exact ⟨by omega, by omega, by omega, by omega, by omega, by omega, ha⟩
theorem nextLaw_j0 (l : List Int) (b s g a m : Int) (st : List Int) (hl : l.length ≤ 11) (hs : st.length ≤ 12) :
    Ev (fun k => laws_FnNextTables.j0 k st (NextM l b s g a m st).2.2.2.2.2.2 false l b s g a m (NextM l b s g a m st).1 (NextM l b s g a m st).2.1 (NextM l b s g a m st).2.2.1 (NextM l b s g a m st).2.2.2.1 (NextM l b s g a m st).2.2.2.2.1 (NextM l b s g a m st).2.2.2.2.2.1) true := by
  refine Ev.step (fun k => laws_FnNextTables.j0.eq_2 _ _ _ _ _ _ _ _ _ _ _ _ _ _ _ k) (ev_neg (by simp) ?_)
  by_cases h : tableB l b s g a m = true
  rotate_left
  · have e : NextM l b s g a m st = ([], 0, 0, 0, 0, 0, 1) := if_neg h
    rw [e]; exact ev_neg (by decide) (ev_now rfl)
  by_cases hn : st.length = l.length
  rotate_left
  · have e : NextM l b s g a m st = ([], 0, 0, 0, 0, 0, 2) := (if_pos h).trans (if_neg hn)
    rw [e]; exact ev_neg (by decide) (ev_now rfl)
  by_cases hall : st.all (inR 0 100000) = true
  rotate_left
  · have e : NextM l b s g a m st = ([], 0, 0, 0, 0, 0, 2) := (if_pos h).trans ((if_pos hn).trans (if_neg hall))
    rw [e]; exact ev_neg (by decide) (ev_now rfl)
  by_cases h2 : ((heldL st).length : Int) < 2
  · have e : NextM l b s g a m st = ([], 0, 0, 0, 0, 0, 5) := (if_pos h).trans ((if_pos hn).trans ((if_pos hall).trans (if_pos h2)))
    rw [e]; exact ev_neg (by decide) (ev_now rfl)
  have e : NextM l b s g a m st = _ := (if_pos h).trans ((if_pos hn).trans ((if_pos hall).trans (if_neg h2)))
  have ht := next_table l b s g a m st h hn hall h2
  have hlen := held_len st
  rw [e]
  have ec : ChipsAtM (heldL st) (rd (numsL 0 st) (seekM st (st.length - 1) (leftM b st.length))) s g a m = (sumM 0 (heldL st), 0) := if_pos ht
  have c := implChipsAt_ev (heldL st) (rd (numsL 0 st) (seekM st (st.length - 1) (leftM b st.length))) s g a m (by omega)
  rw [ec] at c
  have i := implTable_ev (heldL st) (rd (numsL 0 st) (seekM st (st.length - 1) (leftM b st.length))) s g a m (by omega)
  rw [ht] at i
  exact ev_pos rfl (Ev.bind c (ev_pos rfl (Ev.bind (lawSum_ev st (by omega)) (ev_pos (sum_held st 0 hall (by omega) (by omega)) (Ev.bind i (ev_pos rfl (ev_pos rfl (ev_now (by simp)))))))))
end LFnNextTables
open LFnNextTables
theorem FnNextTables : laws_FnNextTables.Pure := by
  intro code _ _ hw
  refine Ev.rounds (g := fun k => laws_FnNextTables.f k code) ?_
  unfold laws_FnNextTables.f
  refine ev_bindc rfl ?_
  by_cases hbig : (code.length : Int) > 4096
  · exact ev_pos (by simpa using hbig) (ev_now rfl)
  refine ev_neg (by simpa using hbig) ?_
  have hb : BytesOk code := ⟨by omega, fun x hx => byte_wf (hw x hx)⟩
  obtain ⟨l, b, s, g, a, m, st, e1, hl, hst⟩ := drawNext_ok code hb
  obtain ⟨l', b', s', g', a', m', e2, hl'⟩ := drawChips_ok code hb
  have hq := NextM_len l b s g a m st (by omega)
  have fin := nextLaw_j0 l b s g a m st hl hst
  refine Ev.bind e1 (Ev.bind (implNext_ev l b s g a m st (by omega) (by omega)) (Ev.bind (specNext_ev l b s g a m st (by omega)) (Ev.bind e2 (Ev.bind (implChipsAt_ev l' b' s' g' a' m' (by omega)) (Ev.bind (specChipsAt_ev l' b' s' g' a' m' (by omega)) ?_)))))
  refine ev_pos rfl (Ev.bind (likeTables_ev (NextM l b s g a m st).1 (NextM l b s g a m st).2.1 (NextM l b s g a m st).2.2.1 (NextM l b s g a m st).2.2.2.1 (NextM l b s g a m st).2.2.2.2.1 (NextM l b s g a m st).2.2.2.2.2.1 (by omega)) (ev_pos rfl (ev_pos rfl ?_)))
  simp only [bne_self_eq_false]
  exact fin
end Go.Proofs.Ytdagljakajpdjaa.Pure
