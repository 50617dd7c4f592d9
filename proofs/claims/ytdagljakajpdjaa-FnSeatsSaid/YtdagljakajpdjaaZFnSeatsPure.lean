/- For every code the law FnSeats is true: all seats follow one another from a seat on, and the first seat to act is one of them. No conditions. -/
import Derived.Test.YtdagljakajpdjaaZFnSeatsx6
import Derived.Test.YtdagljakajpdjaaZFnSeatsEv
namespace Go.Proofs.Ytdagljakajpdjaa.Pure
open Go.RowKit Go.Proofs.Ytdagljakajpdjaa.QFnSeats Go.Proofs.YtdagljakajpdjaaW.PrintWords Go.Proofs.YtdagljakajpdjaaW.PrintLast Go.Proofs.YtdagljakajpdjaaW.PrintMore Go.Proofs.Ytdagljakajpdjaa.EvBase
set_option linter.unusedVariables false
set_option linter.unusedSimpArgs false
namespace LFnSeats
theorem l01In_eq (a lo hi : Int) : spec_l01In.f a lo hi = some (inR lo hi a) := by
  unfold spec_l01In.f inR
  by_cases h : a ≥ lo
  · rw [if_pos h]; simp [h]
  · rw [if_neg h]; simp; omega
theorem within_eq (a lo hi : Int) : impl_within.f a lo hi = some (inR lo hi a) := by
  unfold impl_within.f inR
  by_cases h : a ≥ lo
  · rw [if_pos h]; simp [h]
  · rw [if_neg h]; simp; omega
theorem allWithin_l0 (lo hi : Int) : ∀ (s pre : List Int), pre.length + s.length ≤ 1000000000000 →
    Ev (fun k => impl_allWithin.l0 k lo hi (pre ++ s) ((pre ++ s).length : Int) (pre.length : Int)) (s.all (inR lo hi))
  | [], pre, hl => by
    refine Ev.step (fun k => impl_allWithin.l0.eq_2 _ _ _ _ _ k) ?_
    exact ev_neg (by simp) (ev_now rfl)
  | x :: s, pre, hl => by
    have hl' : pre.length + (s.length + 1) ≤ 1000000000000 := hl
    refine Ev.step (fun k => impl_allWithin.l0.eq_2 _ _ _ _ _ k) ?_
    refine ev_pos (by simp; omega) (ev_pos (by omega) (ev_pos (by simp; omega) ?_))
    rw [rd_at]
    refine ev_bindc (within_eq _ _ _) ?_
    by_cases hin : inR lo hi x = true
    · refine ev_pos hin ?_
      rw [w64 (by omega) (by omega), len_snoc pre x, app_snoc pre s x]
      have h := allWithin_l0 lo hi s (pre ++ [x]) (by simp; omega)
      simpa only [List.all_cons, hin, Bool.true_and] using h
    · refine ev_neg hin (ev_now ?_)
      simp only [Bool.not_eq_true] at hin
      simp [hin]
theorem allWithin_ev (l : List Int) (lo hi : Int) (hl : l.length ≤ 1000000000000) : Ev (fun k => impl_allWithin.f k l lo hi) (l.all (inR lo hi)) := by
  unfold impl_allWithin.f
  simpa using allWithin_l0 lo hi l [] (by simpa using hl)
theorem specTable_l0 (b s g a m : Int) : ∀ (t pre : List Int), pre.length + t.length ≤ 1000000000000 →
    Ev (fun k => spec_IsTable.l0 k (pre.length : Int) (pre ++ t) b s g a m) (t.all (inR 1 100000))
  | [], pre, hl => by
    refine Ev.step (fun k => spec_IsTable.l0.eq_2 _ _ _ _ _ _ _ k) ?_
    exact ev_neg (by simp) (ev_now rfl)
  | x :: t, pre, hl => by
    have hl' : pre.length + (t.length + 1) ≤ 1000000000000 := hl
    refine Ev.step (fun k => spec_IsTable.l0.eq_2 _ _ _ _ _ _ _ k) ?_
    refine ev_pos (by simp; omega) (ev_pos (by omega) ?_)
    rw [rd_at]
    refine ev_bindc (l01In_eq _ _ _) ?_
    by_cases hin : inR 1 100000 x = true
    · refine ev_pos hin ?_
      rw [w64 (by omega) (by omega), len_snoc pre x, app_snoc pre t x]
      have h := specTable_l0 b s g a m t (pre ++ [x]) (by simp; omega)
      simpa only [List.all_cons, hin, Bool.true_and] using h
    · refine ev_neg hin (ev_now ?_)
      simp only [Bool.not_eq_true] at hin
      simp [hin]
theorem specTable_ev (l : List Int) (b s g a m : Int) (hl : l.length ≤ 1000000000000) : Ev (fun k => spec_IsTable.f k l b s g a m) (tableB l b s g a m) := by
  unfold spec_IsTable.f tableB
  refine ev_bindc (l01In_eq _ _ _) ?_
  by_cases h1 : inR 2 6 (l.length : Int) = true
  rotate_left
  · exact ev_neg h1 (Ev.step (fun k => spec_IsTable.j0.eq_2 _ _ _ _ _ _ _ k) (ev_pos rfl (ev_now (by simp [h1]))))
  rw [w64 (by omega) (by omega)]
  refine ev_pos h1 (ev_bindc (l01In_eq _ _ _) ?_)
  by_cases h2 : inR 0 ((l.length : Int) - 1) b = true
  rotate_left
  · exact ev_neg h2 (Ev.step (fun k => spec_IsTable.j0.eq_2 _ _ _ _ _ _ _ k) (ev_pos rfl (ev_now (by simp [h2]))))
  refine ev_pos h2 (ev_bindc (l01In_eq _ _ _) ?_)
  by_cases h3 : inR 1 100000 g = true
  rotate_left
  · exact ev_neg h3 (Ev.step (fun k => spec_IsTable.j0.eq_2 _ _ _ _ _ _ _ k) (ev_pos rfl (ev_now (by simp [h3]))))
  refine ev_pos h3 (ev_bindc (l01In_eq _ _ _) ?_)
  by_cases h4 : inR 0 g s = true
  rotate_left
  · exact ev_neg h4 (Ev.step (fun k => spec_IsTable.j0.eq_2 _ _ _ _ _ _ _ k) (ev_pos rfl (ev_now (by simp [h4]))))
  refine ev_pos h4 (ev_bindc (l01In_eq _ _ _) ?_)
  by_cases h5 : inR 0 100000 a = true
  rotate_left
  · exact ev_neg h5 (Ev.step (fun k => spec_IsTable.j0.eq_2 _ _ _ _ _ _ _ k) (ev_pos rfl (ev_now (by simp [h5]))))
  refine ev_pos h5 (ev_bindc (l01In_eq _ _ _) (Ev.step (fun k => spec_IsTable.j0.eq_2 _ _ _ _ _ _ _ k) ?_))
  by_cases h6 : inR 0 2 m = true
  rotate_left
  · exact ev_pos (by simpa using h6) (ev_now (by simp [h6]))
  refine ev_neg (by simp [h6]) ?_
  simp only [h1, h2, h3, h4, h5, h6, Bool.true_and]
  exact specTable_l0 b s g a m l [] (by simpa using hl)
theorem implTable_ev (l : List Int) (b s g a m : Int) (hl : l.length ≤ 1000000000000) : Ev (fun k => impl_IsTable.f k l b s g a m) (tableB l b s g a m) := by
  unfold impl_IsTable.f tableB
  refine ev_bindc (within_eq _ _ _) ?_
  by_cases h1 : inR 2 6 (l.length : Int) = true
  rotate_left
  · exact ev_neg h1 (ev_now (by simp [h1]))
  rw [w64 (by omega) (by omega)]
  refine ev_pos h1 (Ev.bind (allWithin_ev l 1 100000 hl) ?_)
  by_cases h7 : l.all (inR 1 100000) = true
  rotate_left
  · simp only [Bool.not_eq_true] at h7
    exact ev_neg (by simp [h7]) (ev_now (by simp only [h7, Bool.and_false]))
  refine ev_pos h7 (ev_bindc (within_eq _ _ _) ?_)
  by_cases h2 : inR 0 ((l.length : Int) - 1) b = true
  rotate_left
  · exact ev_neg h2 (ev_now (by simp [h2]))
  refine ev_pos h2 (ev_bindc (within_eq _ _ _) ?_)
  by_cases h3 : inR 1 100000 g = true
  rotate_left
  · exact ev_neg h3 (ev_now (by simp [h3]))
  refine ev_pos h3 (ev_bindc (within_eq _ _ _) ?_)
  by_cases h4 : inR 0 g s = true
  rotate_left
  · exact ev_neg h4 (ev_now (by simp [h4]))
  refine ev_pos h4 (ev_bindc (within_eq _ _ _) ?_)
  by_cases h5 : inR 0 100000 a = true
  rotate_left
  · exact ev_neg h5 (ev_now (by simp [h5]))
  refine ev_pos h5 (ev_bindc (within_eq _ _ _) (ev_now ?_))
  simp only [h1, h2, h3, h4, h5, h7, Bool.true_and, Bool.and_true]
theorem specLeft_eq (s n : Int) (h : n ≠ 0) : spec_l09Left.f s n = some (leftM s n) := by unfold spec_l09Left.f; rw [if_neg h]; rfl
theorem implLeft_eq (s n : Int) (h : n ≠ 0) : impl_leftOf.f s n = some (leftM s n) := by unfold impl_leftOf.f; rw [if_neg h]; rfl
theorem specBlinds_eq (l : List Int) (b s g a m : Int) (h : (l.length : Int) ≠ 0) : spec_l09Blinds.f l b s g a m = some (blindsAt l.length b) := by
  unfold spec_l09Blinds.f blindsAt
  simp only [specLeft_eq _ _ h, Option.bind_some]
  split <;> rfl
theorem implBlinds_eq (l : List Int) (b s g a m : Int) (h : (l.length : Int) ≠ 0) : impl_blindSeats.f l b s g a m = some (blindsAt l.length b) := by
  unfold impl_blindSeats.f blindsAt
  simp only [implLeft_eq _ _ h, Option.bind_some]
  split <;> rfl
theorem specFirst_eq (l : List Int) (b s g a m street : Int) (h : (l.length : Int) ≠ 0) : spec_l09First.f l b s g a m street = some (firstM l.length b street) := by
  unfold spec_l09First.f firstM
  simp only [specBlinds_eq _ _ _ _ _ _ h, specLeft_eq _ _ h, Option.bind_some]
  split <;> rfl
theorem implFirst_eq (l : List Int) (b s g a m street : Int) (h : (l.length : Int) ≠ 0) : impl_firstSeat.f l b s g a m street = some (firstM l.length b street) := by
  unfold impl_firstSeat.f firstM
  simp only [implBlinds_eq _ _ _ _ _ _ h, implLeft_eq _ _ h, Option.bind_some]
  split <;> rfl
theorem srcFrom_l0 (code : List Int) (hb : BytesOk code) : ∀ (s pre : List Int) (seed : Int), code = pre ++ s → 0 ≤ seed → seed < 2147483647 →
    ∃ seed', Ev (fun k => spec_l01From.l0 k code (pre.length : Int) code 0 seed) (code, 0, seed') ∧ 0 ≤ seed' ∧ seed' < 2147483647
  | [], pre, seed, hc, h0, h1 => by
    refine ⟨seed, Ev.step (fun k => spec_l01From.l0.eq_2 _ _ _ _ _ k) (ev_neg (by rw [hc]; simp) (ev_now rfl)), h0, h1⟩
  | x :: s, pre, seed, hc, h0, h1 => by
    have hl : code.length = pre.length + (s.length + 1) := by rw [hc]; simp
    have hbl := hb.1
    by_cases h64 : (pre.length : Int) < 64
    · have hx := hb.2 x (by rw [hc]; simp)
      have e : rd code (pre.length : Int) = x := by rw [hc]; exact rd_at _ _ _
      have w : wrap64 (wrap64 (seed * 61) + wrap64 x) = seed * 61 + x := by
        rw [w64 (n := seed * 61) (by omega) (by omega), w64 (n := x) (by omega) (by omega), w64 (by omega) (by omega)]
      have t := tmod_range (y := seed * 61 + x) (n := 2147483647) (by omega) (by omega)
      obtain ⟨seed', h, hs⟩ := srcFrom_l0 code hb s (pre ++ [x]) (Int.tmod (seed * 61 + x) 2147483647) (by rw [hc]; simp) t.1 t.2
      refine ⟨seed', Ev.step (fun k => spec_l01From.l0.eq_2 _ _ _ _ _ k) (ev_pos (by omega) (ev_pos h64 (ev_pos (by omega) ?_))), hs⟩
      rw [e, w, w64 (by omega) (by omega), len_snoc pre x]
      exact h
    · exact ⟨seed, Ev.step (fun k => spec_l01From.l0.eq_2 _ _ _ _ _ k) (ev_pos (by omega) (ev_neg h64 (ev_now rfl))), h0, h1⟩
theorem srcFrom_ok (code : List Int) (hb : BytesOk code) : ∃ seed, Ev (fun k => spec_l01From.f k code) (code, 0, seed) ∧ SrcOk code 0 seed := by
  unfold spec_l01From.f
  obtain ⟨seed, h, h0, h1⟩ := srcFrom_l0 code hb code [] 45007 rfl (by decide) (by decide)
  exact ⟨seed, h, Int.le_refl 0, by omega, h0, h1⟩
theorem next_ok {code : List Int} {p seed : Int} (hb : BytesOk code) (h : SrcOk code p seed) (n : Int) :
    ∃ x p' seed', spec_l01Next.f code p seed n = some (x, p', seed') ∧ SrcOk code p' seed' ∧ 0 ≤ x ∧ (1 ≤ n → x < n) := by
  obtain ⟨hp0, hp1, hs0, hs1⟩ := h
  have hbl := hb.1
  unfold spec_l01Next.f
  by_cases h1 : n ≤ 1
  · exact ⟨0, p, seed, by rw [if_pos h1], ⟨hp0, hp1, hs0, hs1⟩, Int.le_refl 0, fun _ => by omega⟩
  rw [if_neg h1]
  have w : wrap64 (wrap64 (seed * 48271) + 29) = seed * 48271 + 29 := by rw [w64 (n := seed * 48271) (by omega) (by omega), w64 (by omega) (by omega)]
  have hS := tmod_range (y := seed * 48271 + 29) (n := 2147483647) (by omega) (by omega)
  rw [w]
  generalize Int.tmod (seed * 48271 + 29) 2147483647 = S at hS ⊢
  have d31 : wrap64 (Int.tdiv S 31) = S / 31 := by rw [Int.tdiv_eq_ediv_of_nonneg hS.1]; exact w64 (by omega) (by omega)
  rw [d31]
  by_cases h2 : p < (code.length : Int)
  · have hr := hb.2 _ (rd_mem hp0 h2)
    have e1 : wrap64 (p + 1) = p + 1 := w64 (by omega) (by omega)
    have e2 : wrap64 (p + 1 - 1) = p := by rw [w64 (by omega) (by omega)]; omega
    rw [if_pos h2, if_pos hp0, e1, e2]
    generalize rd code p = c at hr ⊢
    have ec : wrap64 c = c := w64 (by omega) (by omega)
    rw [ec]
    have ed : wrap64 (S / 31 + c) = S / 31 + c := w64 (by omega) (by omega)
    rw [ed]
    have t1 := tmod_range (y := c) (n := n) hr.1 (by omega)
    have t2 := tmod_range (y := S / 31 + c) (n := n) (by omega) (by omega)
    have hok : SrcOk code (p + 1) S := ⟨by omega, by omega, hS.1, hS.2⟩
    by_cases h3 : n ≤ 256
    · rw [if_pos h3]
      by_cases h4 : Int.tmod (p + 1) 2 = 0
      · rw [if_pos h4, if_pos hp0, if_pos h2, if_neg (by omega)]
        exact ⟨_, _, _, rfl, hok, t1.1, fun _ => t1.2⟩
      · rw [if_neg h4, if_neg (by omega)]
        exact ⟨_, _, _, rfl, hok, t2.1, fun _ => t2.2⟩
    · rw [if_neg h3, if_neg (by omega)]
      exact ⟨_, _, _, rfl, hok, t2.1, fun _ => t2.2⟩
  · have ew : wrap64 (S / 31) = S / 31 := w64 (by omega) (by omega)
    have t2 := tmod_range (y := S / 31) (n := n) (by omega) (by omega)
    rw [if_neg h2, if_neg (by omega)]
    exact ⟨_, _, _, rfl, ⟨hp0, hp1, hS.1, hS.2⟩, t2.1, fun _ => t2.2⟩
theorem pick_ok {code : List Int} {p seed : Int} (hb : BytesOk code) (h : SrcOk code p seed) (l : List Int) (hl : 1 ≤ l.length) :
    ∃ x p' seed', spec_l01Pick.f code p seed l = some (x, p', seed') ∧ SrcOk code p' seed' ∧ x ∈ l := by
  obtain ⟨x, p', s', e, hok, hx0, hx1⟩ := next_ok hb h (l.length : Int)
  unfold spec_l01Pick.f
  rw [e]
  have hlt := hx1 (by omega)
  simp only [Option.bind_some, if_pos hx0, if_pos hlt]
  exact ⟨_, _, _, rfl, hok, rd_mem hx0 hlt⟩
theorem likeInts_l0 : ∀ (s pre : List Int), pre.length + s.length ≤ 1000000000000 →
    Ev (fun k => laws_likeInts.l0 k (pre ++ s) (pre ++ s) (pre.length : Int)) true
  | [], pre, hl => by
    refine Ev.step (fun k => laws_likeInts.l0.eq_2 _ _ _ k) ?_
    exact ev_neg (by simp) (ev_now rfl)
  | x :: s, pre, hl => by
    have hl' : pre.length + (s.length + 1) ≤ 1000000000000 := hl
    refine Ev.step (fun k => laws_likeInts.l0.eq_2 _ _ _ k) ?_
    refine ev_pos (by simp; omega) (ev_pos (by omega) (ev_pos (by simp; omega) (ev_pos rfl ?_)))
    rw [w64 (by omega) (by omega), len_snoc pre x, app_snoc pre s x]
    exact likeInts_l0 s (pre ++ [x]) (by simp; omega)
theorem likeInts_ev {a b : List Int} (e : a = b) (hl : a.length ≤ 1000000000000) : Ev (fun k => laws_likeInts.f k a b) true := by
  subst e
  unfold laws_likeInts.f
  exact ev_pos rfl (likeInts_l0 a [] (by simpa using hl))
theorem likeIntsG_l0 : ∀ (s t pre1 pre2 : List Int), pre1.length = pre2.length → s.length = t.length → pre1.length + s.length ≤ 1000000000000 →
    Ev (fun k => laws_likeInts.l0 k (pre1 ++ s) (pre2 ++ t) (pre1.length : Int)) (decide (s = t))
  | [], [], pre1, pre2, h1, h2, hl => by
    refine Ev.step (fun k => laws_likeInts.l0.eq_2 _ _ _ k) ?_
    exact ev_neg (by simp) (ev_now (by simp))
  | x :: s, y :: t, pre1, pre2, h1, h2, hl => by
    have hl' : pre1.length + (s.length + 1) ≤ 1000000000000 := hl
    have h2' : s.length = t.length := by simpa using h2
    refine Ev.step (fun k => laws_likeInts.l0.eq_2 _ _ _ k) ?_
    refine ev_pos (by simp; omega) (ev_pos (by omega) (ev_pos (by simp; omega) ?_))
    have e2 : rd (pre2 ++ y :: t) (pre1.length : Int) = y := by rw [h1]; exact rd_at _ _ _
    rw [rd_at, e2]
    by_cases e : x = y
    · subst e
      refine ev_pos rfl ?_
      rw [w64 (by omega) (by omega), len_snoc pre1 x, app_snoc pre1 s x, app_snoc pre2 t x]
      have h := likeIntsG_l0 s t (pre1 ++ [x]) (pre2 ++ [x]) (by simp [h1]) h2' (by simp; omega)
      simpa using h
    · exact ev_neg e (ev_now (by simp [e]))
  | [], y :: t, pre1, pre2, h1, h2, hl => by simp at h2
  | x :: s, [], pre1, pre2, h1, h2, hl => by simp at h2
theorem likeIntsG_ev (a b : List Int) (hl : a.length ≤ 1000000000000) : Ev (fun k => laws_likeInts.f k a b) (decide (a = b)) := by
  unfold laws_likeInts.f
  by_cases h : (a.length : Int) = (b.length : Int)
  · exact ev_pos h (likeIntsG_l0 a b [] [] rfl (by omega) (by simpa using hl))
  · refine ev_neg h (ev_now ?_)
    symm
    rw [decide_eq_false_iff_not]
    intro e; subst e; exact h rfl
theorem valid09_l0 {code : List Int} (hb : BytesOk code) (n : Nat) (hn : 1 ≤ n) (hn2 : n ≤ 100) : ∀ (d i : Nat) (acc : List Int) (p seed : Int), SrcOk code p seed → i + d = n → acc.length = i →
    ∃ (l : List Int) (b s g a m p' seed' : Int), Ev (fun k => spec_l09Valid.l0 k (n : Int) acc (i : Int) code p seed) (l, b, s, g, a, m, p', seed') ∧ SrcOk code p' seed' ∧ l.length = n
  | 0, i, acc, p, seed, h, hi, hl => by
    obtain ⟨g, p1, s1, e1, ok1, _⟩ := pick_ok hb h [1, 2, 2, 4, 10] (by simp)
    obtain ⟨b, p2, s2, e2, ok2, _, _⟩ := next_ok hb ok1 (n : Int)
    obtain ⟨a, p3, s3, e3, ok3, _⟩ := pick_ok hb ok2 [0, 0, 1, 3] (by simp)
    obtain ⟨m, p4, s4, e4, ok4, _, _⟩ := next_ok hb ok3 3
    exact ⟨acc, b, _, g, a, m, p4, s4, Ev.step (fun k => spec_l09Valid.l0.eq_2 _ _ _ _ _ _ k) (ev_neg (by omega) (ev_bindc e1 (ev_bindc e2 (ev_bindc e3 (ev_bindc e4 (ev_now rfl)))))), ok4, by omega⟩
  | d + 1, i, acc, p, seed, h, hi, hl => by
    obtain ⟨x, p1, s1, e1, ok1, _, _⟩ := next_ok hb h 5
    obtain ⟨y, p2, s2, e2, ok2, _, _⟩ := next_ok hb ok1 30
    obtain ⟨z, p3, s3, e3, ok3, _, _⟩ := next_ok hb ok2 160
    obtain ⟨w, p4, s4, e4, ok4, _⟩ := pick_ok hb ok3 [1, wrap64 (2 + x), wrap64 (10 + y), wrap64 (40 + z), 100] (by simp)
    obtain ⟨l, b, s, g, a, m, p5, s5, e5, ok5, hlen⟩ := valid09_l0 hb n hn hn2 d (i + 1) (acc ++ [w]) p4 s4 ok4 (by omega) (by simp; omega)
    have ei : wrap64 ((i : Int) + 1) = ((i + 1 : Nat) : Int) := by rw [w64 (by omega) (by omega)]; simp
    refine ⟨l, b, s, g, a, m, p5, s5, Ev.step (fun k => spec_l09Valid.l0.eq_2 _ _ _ _ _ _ k) (ev_pos (by omega) (ev_bindc e1 (ev_bindc e2 (ev_bindc e3 (ev_bindc e4 (ev_pos (by omega) ?_)))))), ok5, hlen⟩
    rw [ei]; exact e5
theorem valid09_ok {code : List Int} {p seed : Int} (hb : BytesOk code) (h : SrcOk code p seed) :
    ∃ (l : List Int) (b s g a m p' seed' : Int), Ev (fun k => spec_l09Valid.f k code p seed) (l, b, s, g, a, m, p', seed') ∧ SrcOk code p' seed' ∧ 2 ≤ l.length ∧ l.length ≤ 6 := by
  unfold spec_l09Valid.f
  obtain ⟨x, p1, s1, e1, ok1, hx0, hx1⟩ := next_ok hb h 5
  have hx := hx1 (by omega)
  obtain ⟨n, rfl⟩ := Int.eq_ofNat_of_zero_le hx0
  have en : wrap64 (2 + ((n : Nat) : Int)) = ((2 + n : Nat) : Int) := by rw [w64 (by omega) (by omega)]; simp
  obtain ⟨l, b, s, g, a, m, p5, s5, e5, ok5, hlen⟩ := valid09_l0 hb (2 + n) (by omega) (by omega) (2 + n) 0 [] p1 s1 ok1 (by omega) rfl
  refine ⟨l, b, s, g, a, m, p5, s5, ev_bindc e1 ?_, ok5, by omega, by omega⟩
  show Ev (fun k => spec_l09Valid.l0 k (wrap64 (2 + ((n : Nat) : Int))) [] 0 code p1 s1) _
  rw [en]; exact e5
theorem own01_eq (l : List Int) (hl : l.length ≤ 1000000) : spec_l01Own.f l = some l := by
  unfold spec_l01Own.f
  simp only [Option.bind_some, List.length_nil, List.nil_append, Nat.zero_add]
  rw [if_pos (by omega)]
theorem draw09_ok {code : List Int} {p seed : Int} (hb : BytesOk code) (h : SrcOk code p seed) :
    ∃ (l : List Int) (b s g a m p' seed' : Int), Ev (fun k => spec_l09Draw.f k code p seed) (l, b, s, g, a, m, p', seed') ∧ SrcOk code p' seed' ∧ l.length ≤ 11 := by
  unfold spec_l09Draw.f
  obtain ⟨l, b, s, g, a, m, p1, s1, e1, ok1, h2, h6⟩ := valid09_ok hb h
  obtain ⟨x, p2, s2, e2, ok2, _, _⟩ := next_ok hb ok1 30
  by_cases c0 : x = 0
  · obtain ⟨z, p3, s3, e3, ok3, _⟩ := pick_ok hb ok2 [0, 100000, 100001] (by simp)
    exact ⟨_, _, _, _, _, _, _, _, Ev.bind e1 (ev_bindc e2 (ev_pos c0 (ev_bindc e3 (ev_pos (by simp only; omega) (ev_now rfl))))), ok3, by simp; omega⟩
  by_cases c1 : x = 1
  · obtain ⟨z, p3, s3, e3, ok3, _⟩ := pick_ok hb ok2 [(-1), (l.length : Int)] (by simp)
    exact ⟨_, _, _, _, _, _, _, _, Ev.bind e1 (ev_bindc e2 (ev_neg c0 (ev_pos c1 (ev_bindc e3 (ev_now rfl))))), ok3, by simp only; omega⟩
  by_cases c2 : x = 2
  · obtain ⟨z, p3, s3, e3, ok3, _⟩ := pick_ok hb ok2 [(-1), g, wrap64 (g + 1)] (by simp)
    exact ⟨_, _, _, _, _, _, _, _, Ev.bind e1 (ev_bindc e2 (ev_neg c0 (ev_neg c1 (ev_pos c2 (ev_bindc e3 (ev_now rfl)))))), ok3, by simp only; omega⟩
  by_cases c3 : x = 3
  · obtain ⟨z, p3, s3, e3, ok3, _⟩ := pick_ok hb ok2 [0, 100000, 100001] (by simp)
    exact ⟨_, _, _, _, _, _, _, _, Ev.bind e1 (ev_bindc e2 (ev_neg c0 (ev_neg c1 (ev_neg c2 (ev_pos c3 (ev_bindc e3 (ev_now rfl))))))), ok3, by simp only; omega⟩
  by_cases c4 : x = 4
  · obtain ⟨z, p3, s3, e3, ok3, _⟩ := pick_ok hb ok2 [(-1), 100000, 100001] (by simp)
    exact ⟨_, _, _, _, _, _, _, _, Ev.bind e1 (ev_bindc e2 (ev_neg c0 (ev_neg c1 (ev_neg c2 (ev_neg c3 (ev_pos c4 (ev_bindc e3 (ev_now rfl)))))))), ok3, by simp only; omega⟩
  by_cases c5 : x = 5
  · obtain ⟨z, p3, s3, e3, ok3, _⟩ := pick_ok hb ok2 [(-1), 3] (by simp)
    exact ⟨_, _, _, _, _, _, _, _, Ev.bind e1 (ev_bindc e2 (ev_neg c0 (ev_neg c1 (ev_neg c2 (ev_neg c3 (ev_neg c4 (ev_pos c5 (ev_bindc e3 (ev_now rfl))))))))), ok3, by simp only; omega⟩
  by_cases c6 : x = 6
  · exact ⟨_, _, _, _, _, _, _, _, Ev.bind e1 (ev_bindc e2 (ev_neg c0 (ev_neg c1 (ev_neg c2 (ev_neg c3 (ev_neg c4 (ev_neg c5 (ev_pos c6 (ev_bindc (own01_eq l (by omega)) (ev_bindc rfl (ev_pos (by simp; omega) (ev_now rfl)))))))))))), ok2, by simp; omega⟩
  · exact ⟨_, _, _, _, _, _, _, _, Ev.bind e1 (ev_bindc e2 (ev_neg c0 (ev_neg c1 (ev_neg c2 (ev_neg c3 (ev_neg c4 (ev_neg c5 (ev_neg c6 (ev_now rfl))))))))), ok2, by simp only; omega⟩
theorem specFirstSeat_ev (l : List Int) (b s g a m a1 : Int) (hl : l.length ≤ 1048576) : Ev (fun k => spec_FirstSeat.f k l b s g a m a1) (FirstSeatM l b s g a m a1) := by
  unfold spec_FirstSeat.f
  refine Ev.bind (specTable_ev l b s g a m (by omega)) ?_
  by_cases h : tableB l b s g a m = true
  · have bd := table_bounds h
    have e : FirstSeatM l b s g a m a1 = (if inR 0 3 a1 then (firstM l.length b a1, 0) else (0, 2)) := if_pos h
    rw [e]
    refine ev_pos h ?_
    refine ev_bindc (l01In_eq _ _ _) ?_
    by_cases h2 : inR 0 3 a1 = true
    · simp only [if_pos h2]; exact (ev_bindc (specFirst_eq _ _ _ _ _ _ _ (by omega)) (ev_now rfl))
    · simp only [if_neg h2]; exact (ev_now rfl)
  · have e : FirstSeatM l b s g a m a1 = (0, 1) := if_neg h
    rw [e]
    exact ev_neg h (ev_now rfl)
theorem implFirstSeat_ev (l : List Int) (b s g a m a1 : Int) (hl : l.length ≤ 1048576) : Ev (fun k => impl_FirstSeat.f k l b s g a m a1) (FirstSeatM l b s g a m a1) := by
  unfold impl_FirstSeat.f
  refine Ev.bind (implTable_ev l b s g a m (by omega)) ?_
  by_cases h : tableB l b s g a m = true
  · have bd := table_bounds h
    have e : FirstSeatM l b s g a m a1 = (if inR 0 3 a1 then (firstM l.length b a1, 0) else (0, 2)) := if_pos h
    rw [e]
    refine ev_pos h ?_
    refine ev_bindc (within_eq _ _ _) ?_
    by_cases h2 : inR 0 3 a1 = true
    · simp only [if_pos h2]; exact (ev_bindc (implFirst_eq _ _ _ _ _ _ _ (by omega)) (ev_now rfl))
    · simp only [if_neg h2]; exact (ev_now rfl)
  · have e : FirstSeatM l b s g a m a1 = (0, 1) := if_neg h
    rw [e]
    exact ev_neg h (ev_now rfl)
theorem specFrom_l0 (n : Int) (seat : Int) (hn : n ≠ 0) (hb : n ≤ 100000) : ∀ (d : Nat) (i : Int) (acc : List Int), 0 ≤ i → n = i + d → acc.length + d ≤ 1000000 →
    Ev (fun k => spec_l09From.l0 k n seat acc i) (acc ++ fromM n seat d i)
  | 0, i, acc, h0, h1, h2 => Ev.step (fun k => spec_l09From.l0.eq_2 _ _ _ _ k) (ev_neg (by omega) (ev_now (by simp [fromM])))
  | d + 1, i, acc, h0, h1, h2 => by
    refine Ev.step (fun k => spec_l09From.l0.eq_2 _ _ _ _ k) (ev_pos (by omega) (ev_neg hn (ev_pos (by omega) ?_)))
    rw [w64 (n := i + 1) (by omega) (by omega)]
    have h := specFrom_l0 n seat hn hb d (i + 1) (acc ++ [Int.tmod (wrap64 (seat + i)) n]) (by omega) (by omega) (by simp; omega)
    simpa [fromM] using h
def SeatsFromM (l : List Int) (b s g a m a1 : Int) : List Int × Int := if tableB l b s g a m then (if inR 0 ((l.length : Int) - 1) a1 then (fromM l.length a1 l.length 0, 0) else ([], 2)) else ([], 1)
theorem SeatsFromM_len (l : List Int) (b s g a m a1 : Int) (hl : l.length ≤ 1048576) : (SeatsFromM l b s g a m a1).1.length ≤ 1048576 := by
  unfold SeatsFromM
  split
  · split
    · simpa [fromM_len] using hl
    · simp
  · simp
theorem specSeatsFrom_ev (l : List Int) (b s g a m a1 : Int) (hl : l.length ≤ 1048576) : Ev (fun k => spec_SeatsFrom.f k l b s g a m a1) (SeatsFromM l b s g a m a1) := by
  unfold spec_SeatsFrom.f
  refine Ev.bind (specTable_ev l b s g a m (by omega)) ?_
  by_cases h : tableB l b s g a m = true
  rotate_left
  · have e : SeatsFromM l b s g a m a1 = ([], 1) := if_neg h
    rw [e]; exact ev_neg h (ev_now rfl)
  have bd := table_bounds h
  rw [w64 (by omega) (by omega)]
  refine ev_pos h (ev_bindc (l01In_eq _ _ _) ?_)
  by_cases h2 : inR 0 ((l.length : Int) - 1) a1 = true
  rotate_left
  · have e : SeatsFromM l b s g a m a1 = ([], 2) := (if_pos h).trans (if_neg h2)
    rw [e]; exact ev_neg h2 (ev_now rfl)
  have e : SeatsFromM l b s g a m a1 = (fromM l.length a1 l.length 0, 0) := (if_pos h).trans (if_pos h2)
  rw [e]
  refine ev_pos h2 (Ev.bind (a := fromM l.length a1 l.length 0) ?_ (ev_now rfl))
  unfold spec_l09From.f
  exact specFrom_l0 l.length a1 (by omega) (by omega) l.length 0 [] (by omega) (by omega) (by simp; omega)
theorem implSeats_l0 (n : Nat) (seat : Int) (hn : 1 ≤ n) (hb : n ≤ 100000) : ∀ (d : Nat) (i : Nat) (acc z : List Int), acc.length = i → z.length = d → n = i + d →
    Ev (fun k => impl_SeatsFrom.l0 k seat (n : Int) (acc ++ z) (n : Int) (i : Int)) (acc ++ fromM n seat d i, 0)
  | 0, i, acc, z, ha, hz, h1 => by
    obtain rfl : z = [] := by simpa using hz
    exact Ev.step (fun k => impl_SeatsFrom.l0.eq_2 _ _ _ _ _ k) (ev_neg (by omega) (ev_now (by simp [fromM])))
  | d + 1, i, acc, z, ha, hz, h1 => by
    obtain ⟨y, z, rfl⟩ : ∃ y z', z = y :: z' := by cases z with
      | nil => simp at hz
      | cons y z => exact ⟨y, z, rfl⟩
    have hz' : z.length = d := by simpa using hz
    refine Ev.step (fun k => impl_SeatsFrom.l0.eq_2 _ _ _ _ _ k) (ev_pos (by omega) (ev_neg (by omega) (ev_pos (by omega) (ev_pos (by simp; omega) ?_))))
    have es : (acc ++ y :: z).set ((i : Int)).toNat (Int.tmod (wrap64 (seat + (i : Int))) (n : Int)) = (acc ++ [Int.tmod (wrap64 (seat + (i : Int))) (n : Int)]) ++ z := by rw [← ha]; exact set_at _ _ _ _
    have ei : wrap64 ((i : Int) + 1) = ((i + 1 : Nat) : Int) := by rw [w64 (by omega) (by omega)]; simp
    rw [es, ei]
    have h := implSeats_l0 n seat hn hb d (i + 1) (acc ++ [Int.tmod (wrap64 (seat + (i : Int))) (n : Int)]) z (by simp; omega) hz' (by omega)
    simpa [fromM] using h
theorem implSeatsFrom_ev (l : List Int) (b s g a m a1 : Int) (hl : l.length ≤ 1048576) : Ev (fun k => impl_SeatsFrom.f k l b s g a m a1) (SeatsFromM l b s g a m a1) := by
  unfold impl_SeatsFrom.f
  refine Ev.bind (implTable_ev l b s g a m (by omega)) ?_
  by_cases h : tableB l b s g a m = true
  rotate_left
  · have e : SeatsFromM l b s g a m a1 = ([], 1) := if_neg h
    rw [e]; exact ev_neg h (ev_now rfl)
  have bd := table_bounds h
  rw [w64 (by omega) (by omega)]
  refine ev_pos h (ev_bindc (within_eq _ _ _) ?_)
  by_cases h2 : inR 0 ((l.length : Int) - 1) a1 = true
  rotate_left
  · have e : SeatsFromM l b s g a m a1 = ([], 2) := (if_pos h).trans (if_neg h2)
    rw [e]; exact ev_neg h2 (ev_now rfl)
  have e : SeatsFromM l b s g a m a1 = (fromM l.length a1 l.length 0, 0) := (if_pos h).trans (if_pos h2)
  rw [e]
  refine ev_pos h2 (ev_pos (by omega) (ev_pos (by simp; omega) (ev_bindc rfl ?_)))
  have h := implSeats_l0 l.length a1 (by omega) (by omega) l.length 0 [] (List.replicate l.length 0) rfl (by simp) (by omega)
  simpa using h
theorem drawSeats_ok (code : List Int) (hb : BytesOk code) : ∃ (l : List Int) (b s g a m x : Int), Ev (fun k => spec_DrawSeatsFrom.f k code) (l, b, s, g, a, m, x) ∧ l.length ≤ 11 := by
  unfold spec_DrawSeatsFrom.f
  obtain ⟨s0, e, ok⟩ := srcFrom_ok code hb
  obtain ⟨l, b, s, g, a, m, p1, s1, e1, ok1, hl⟩ := draw09_ok hb ok
  obtain ⟨x, p2, s2, e2, _⟩ := next_ok hb ok1 8
  exact ⟨l, b, s, g, a, m, _, Ev.bind e (Ev.bind e1 (ev_bindc e2 (ev_now rfl))), hl⟩
theorem drawFirst_ok (code : List Int) (hb : BytesOk code) : ∃ (l : List Int) (b s g a m x : Int), Ev (fun k => spec_DrawFirstSeat.f k code) (l, b, s, g, a, m, x) ∧ l.length ≤ 11 := by
  unfold spec_DrawFirstSeat.f
  obtain ⟨s0, e, ok⟩ := srcFrom_ok code hb
  obtain ⟨l, b, s, g, a, m, p1, s1, e1, ok1, hl⟩ := draw09_ok hb ok
  obtain ⟨x, p2, s2, e2, _⟩ := next_ok hb ok1 6
  exact ⟨l, b, s, g, a, m, _, Ev.bind e (Ev.bind e1 (ev_bindc e2 (ev_now rfl))), hl⟩
theorem seats_loop (l : List Int) (b s g a m seat : Int) (hl : 1 ≤ l.length) (h6 : l.length ≤ 1000) : ∀ (d i : Nat) (pre : List Int), pre.length = i → i + d = l.length →
    Ev (fun k => laws_FnSeats.l0 k seat (pre ++ fromM l.length seat d i) (i : Int) l b s g a m) true
  | 0, i, pre, hp, h => by
    refine Ev.step (fun k => laws_FnSeats.l0.eq_2 _ _ _ _ _ _ _ _ _ k) (ev_neg (by simp [fromM]; omega) (ev_now ?_))
    simp [fromM]; omega
  | d + 1, i, pre, hp, h => by
    refine Ev.step (fun k => laws_FnSeats.l0.eq_2 _ _ _ _ _ _ _ _ _ k) (ev_pos (by simp [fromM, fromM_len]; omega) (ev_pos (by omega) (ev_neg (by omega) ?_)))
    have e : rd (pre ++ fromM l.length seat (d + 1) i) (i : Int) = Int.tmod (wrap64 (seat + (i : Int))) (l.length : Int) := by rw [← hp]; exact rd_at _ _ _
    rw [e]
    refine ev_pos rfl ?_
    have ei : wrap64 ((i : Int) + 1) = ((i + 1 : Nat) : Int) := by rw [w64 (by omega) (by omega)]; simp
    rw [ei]
    have ih := seats_loop l b s g a m seat hl h6 d (i + 1) (pre ++ [Int.tmod (wrap64 (seat + (i : Int))) (l.length : Int)]) (by simp; omega) (by omega)
    simpa [fromM] using ih
theorem seats_j1 (l : List Int) (b s g a m seat : Int) (hl : l.length ≤ 1000) : Ev (fun k => laws_FnSeats.j1 k seat (SeatsFromM l b s g a m seat).1 (SeatsFromM l b s g a m seat).2 false l b s g a m) true := by
  refine Ev.step (fun k => laws_FnSeats.j1.eq_2 _ _ _ _ _ _ _ _ _ _ k) (ev_neg (by simp) ?_)
  by_cases h : tableB l b s g a m = true
  rotate_left
  · have e : SeatsFromM l b s g a m seat = ([], 1) := if_neg h
    rw [e]; exact ev_neg (by simp) (ev_now rfl)
  by_cases h2 : inR 0 ((l.length : Int) - 1) seat = true
  rotate_left
  · have e : SeatsFromM l b s g a m seat = ([], 2) := (if_pos h).trans (if_neg h2)
    rw [e]; exact ev_neg (by simp) (ev_now rfl)
  have e : SeatsFromM l b s g a m seat = (fromM l.length seat l.length 0, 0) := (if_pos h).trans (if_pos h2)
  rw [e]
  have bd := table_bounds h
  exact ev_pos rfl (seats_loop l b s g a m seat (by omega) (by omega) l.length 0 [] rfl (by omega))
end LFnSeats
open LFnSeats
theorem FnSeats : laws_FnSeats.Pure := by
  intro code _ _ hw
  refine Ev.rounds (g := fun k => laws_FnSeats.f k code) ?_
  unfold laws_FnSeats.f
  refine ev_bindc rfl ?_
  by_cases hbig : (code.length : Int) > 4096
  · exact ev_pos (by simpa using hbig) (ev_now rfl)
  refine ev_neg (by simpa using hbig) ?_
  have hb : BytesOk code := ⟨by omega, fun x hx => byte_wf (hw x hx)⟩
  obtain ⟨l, b, s, g, a, m, seat, e1, hl⟩ := drawSeats_ok code hb
  obtain ⟨l', b', s', g', a', m', street, e2, hl'⟩ := drawFirst_ok code hb
  have q1 := SeatsFromM_len l b s g a m seat (by omega)
  have fin := seats_j1 l b s g a m seat (by omega)
  refine Ev.bind e1 (Ev.bind (implSeatsFrom_ev l b s g a m seat (by omega)) (Ev.bind (specSeatsFrom_ev l b s g a m seat (by omega)) (Ev.bind e2 (Ev.bind (implFirstSeat_ev l' b' s' g' a' m' street (by omega)) (Ev.bind (specFirstSeat_ev l' b' s' g' a' m' street (by omega)) ?_)))))
  refine ev_pos rfl (Ev.bind (likeInts_ev rfl (by omega)) (ev_pos rfl (ev_pos rfl ?_)))
  refine Ev.step (fun k => laws_FnSeats.j0.eq_2 _ _ _ _ _ _ _ _ _ _ _ _ _ _ _ _ _ _ _ k) (ev_neg (by simp) ?_)
  by_cases hone : (FirstSeatM l' b' s' g' a' m' street).2 = 0
  rotate_left
  · exact ev_neg hone fin
  refine ev_pos hone ?_
  by_cases hst : street > 0
  rotate_left
  · exact ev_neg hst fin
  refine ev_pos hst ?_
  by_cases h : tableB l' b' s' g' a' m' = true
  rotate_left
  · have e : FirstSeatM l' b' s' g' a' m' street = (0, 1) := if_neg h
    rw [e] at hone; simp at hone
  by_cases h2 : inR 0 3 street = true
  rotate_left
  · have e : FirstSeatM l' b' s' g' a' m' street = (0, 2) := (if_pos h).trans (if_neg h2)
    rw [e] at hone; simp at hone
  have e : FirstSeatM l' b' s' g' a' m' street = (firstM l'.length b' street, 0) := (if_pos h).trans (if_pos h2)
  have bd := table_bounds h
  refine ev_neg (by show ¬ ((l'.length : Int) = 0); omega) ?_
  have ef : (FirstSeatM l' b' s' g' a' m' street).1 = Int.tmod (wrap64 (b' + 1)) (l'.length : Int) := by
    rw [e]; unfold firstM leftM; rw [if_neg (by omega)]
  have eb : ((FirstSeatM l' b' s' g' a' m' street).1 != Int.tmod (wrap64 (b' + 1)) (l'.length : Int)) = false := by rw [ef]; simp
  simp only [eb]
  exact fin
end Go.Proofs.Ytdagljakajpdjaa.Pure
