/- For every code the law FnClasses is true: two cards are a combination of their class, and a class is recovered from its text. No conditions. -/
import Derived.Test.YtblfemlheolhoaaEvC
import Derived.Test.YtblfemlheolhoaaQFnClassesx8
import Derived.Test.YtblfemlheolhoaaEv
namespace Go.Proofs.Ytblfemlheolhoaa.Pure
open Go.RowKit Go.Proofs.Ytblfemlheolhoaa.QFnClasses Go.Proofs.YtblfemlheolhoaaW.PrintWords Go.Proofs.YtblfemlheolhoaaW.PrintLast Go.Proofs.YtblfemlheolhoaaW.PrintMore Go.Proofs.Ytblfemlheolhoaa.EvBase
set_option linter.unusedVariables false
set_option linter.unusedSimpArgs false
namespace LFnClasses
theorem l01In_eq (a lo hi : Int) : spec_l01In.f a lo hi = some (inR lo hi a) := by
  unfold spec_l01In.f inR
  by_cases h : a ≥ lo
  · rw [if_pos h]; simp [h]
  · rw [if_neg h]; simp; omega
theorem within_eq (a lo hi : Int) : impl_within.f a lo hi = some (inR lo hi a) := by
  unfold impl_within.f inR
  by_cases h : a ≥ lo
  · rw [if_pos h]; simp [h]
  · rw [if_neg h]; simp; omega
theorem l01Has_l0 : ∀ (s pre : List Int) (c : Int), pre.length + s.length ≤ 1000000000000 →
    Ev (fun k => spec_l01Has.l0 k (pre ++ s) c (pre.length : Int)) (s.contains c)
  | [], pre, c, hl => by
    refine Ev.step (fun k => spec_l01Has.l0.eq_2 _ _ _ k) ?_
    exact ev_neg (by simp) (ev_now (by simp))
  | x :: s, pre, c, hl => by
    have hl' : pre.length + (s.length + 1) ≤ 1000000000000 := hl
    refine Ev.step (fun k => spec_l01Has.l0.eq_2 _ _ _ k) ?_
    refine ev_pos (by simp; omega) (ev_pos (by omega) ?_)
    rw [rd_at]
    by_cases e : x = c
    · exact ev_pos e (ev_now (by simp [e]))
    · refine ev_neg e ?_
      rw [w64 (by omega) (by omega), len_snoc pre x, app_snoc pre s x]
      have h := l01Has_l0 s (pre ++ [x]) c (by simp; omega)
      have e2 : (x :: s).contains c = s.contains c := by simp [List.contains_cons]; omega
      rw [e2]; exact h
theorem l01Has_ev (l : List Int) (c : Int) (hl : l.length ≤ 1000000000000) : Ev (fun k => spec_l01Has.f k l c) (l.contains c) := by
  unfold spec_l01Has.f
  simpa using l01Has_l0 l [] c (by simpa using hl)
theorem slIndex_l0 : ∀ (s pre : List Int) (c : Int), pre.length + s.length ≤ 1000000000000 →
    Ev (fun k => slices_Index_int64_int64.l0 k (pre ++ s) c ((pre ++ s).length : Int) (pre.length : Int)) (if s.contains c = true then ((pre.length + s.idxOf c : Nat) : Int) else -1)
  | [], pre, c, hl => by
    refine Ev.step (fun k => slices_Index_int64_int64.l0.eq_2 _ _ _ _ k) ?_
    exact ev_neg (by simp) (ev_now (by simp))
  | x :: s, pre, c, hl => by
    have hl' : pre.length + (s.length + 1) ≤ 1000000000000 := hl
    refine Ev.step (fun k => slices_Index_int64_int64.l0.eq_2 _ _ _ _ k) ?_
    refine ev_pos (by simp; omega) (ev_pos (by omega) (ev_pos (by simp; omega) ?_))
    rw [rd_at]
    by_cases e : c = x
    · subst e; exact ev_pos rfl (ev_now (by simp [List.idxOf_cons]))
    · refine ev_neg e ?_
      rw [w64 (by omega) (by omega), len_snoc pre x, app_snoc pre s x]
      have h := slIndex_l0 s (pre ++ [x]) c (by simp; omega)
      have e2 : (x :: s).contains c = s.contains c := by simp [List.contains_cons, e]
      have e4 : ¬ x = c := fun h => e h.symm
      have e5 : (x == c) = false := by simp [e4]
      have e3 : (x :: s).idxOf c = s.idxOf c + 1 := by simp [List.idxOf_cons, e5]
      rw [e2, e3, show pre.length + (s.idxOf c + 1) = (pre ++ [x]).length + s.idxOf c by simp; omega]; exact h
theorem slIndex_ev (l : List Int) (c : Int) (hl : l.length ≤ 1000000000000) : Ev (fun k => slices_Index_int64_int64.f k l c) (if l.contains c = true then ((l.idxOf c : Nat) : Int) else -1) := by
  unfold slices_Index_int64_int64.f
  simpa using slIndex_l0 l [] c (by simpa using hl)
theorem slContains_ev (l : List Int) (c : Int) (hl : l.length ≤ 1000000000000) : Ev (fun k => slices_Contains_int64_int64.f k l c) (l.contains c) := by
  unfold slices_Contains_int64_int64.f
  refine Ev.bind (slIndex_ev l c hl) (ev_now ?_)
  by_cases h : l.contains c = true
  · rw [if_pos h, h]; simp
  · rw [if_neg h]; simp only [Bool.not_eq_true] at h; rw [h]; rfl
theorem specCard_eq (x : Int) : spec_l02Card.f x = some (inR 0 51 x) := by unfold spec_l02Card.f; rw [l01In_eq]; rfl
theorem specCards_l0 : ∀ (s pre seen : List Int) (flags : List Bool), pre.length + s.length ≤ 1000000000000 → flags.length = 52 → (∀ c : Nat, c < 52 → rdOf false flags (c : Int) = seen.contains (c : Int)) →
    Ev (fun k => spec_AreCards.l0 k (pre ++ s) flags (pre.length : Int)) (cardsB seen s)
  | [], pre, seen, flags, hl, hf, hs => by
    refine Ev.step (fun k => spec_AreCards.l0.eq_2 _ _ _ k) ?_
    exact ev_neg (by simp) (ev_now rfl)
  | x :: s, pre, seen, flags, hl, hf, hs => by
    have hl' : pre.length + (s.length + 1) ≤ 1000000000000 := hl
    refine Ev.step (fun k => spec_AreCards.l0.eq_2 _ _ _ k) ?_
    refine ev_pos (by simp; omega) (ev_pos (by omega) ?_)
    rw [rd_at]
    refine ev_bindc (specCard_eq x) ?_
    by_cases hx : inR 0 51 x = true
    rotate_left
    · exact ev_neg hx (ev_now (by simp [cardsB, hx]))
    have bx := inR_iff.1 hx
    obtain ⟨c, rfl⟩ := Int.eq_ofNat_of_zero_le bx.1
    refine ev_pos hx (ev_pos (by omega) (ev_pos (by omega) ?_))
    rw [hs c (by omega)]
    by_cases hc : seen.contains (c : Int) = true
    · exact ev_pos hc (ev_now (by rw [cardsB, hx, hc]; rfl))
    refine ev_neg hc ?_
    rw [w64 (by omega) (by omega), len_snoc pre (c : Int), app_snoc pre s]
    have h := specCards_l0 s (pre ++ [(c : Int)]) ((c : Int) :: seen) (flags.set ((c : Int)).toNat true) (by simp; omega) (by simpa using hf) (fun d hd => by
      rw [List.contains_cons, ← hs d hd]
      by_cases e : c = d
      · subst e; simp [rdOf, List.getD_eq_getElem?_getD, hf, hd]
      · have e2 : ¬ (d : Int) = (c : Int) := by omega
        simp [rdOf, List.getD_eq_getElem?_getD, List.getElem?_set, e, e2])
    simp only [Bool.not_eq_true] at hc
    simpa only [cardsB, hx, hc, Bool.not_false, Bool.true_and] using h
theorem specCards_ev (l : List Int) (hl : l.length ≤ 1000000000000) : Ev (fun k => spec_AreCards.f k l) (cardsB [] l) := by
  unfold spec_AreCards.f
  refine ev_pos (by decide) ?_
  simpa using specCards_l0 l [] [] (List.replicate 52 false) (by simpa using hl) (by simp) (fun c _ => rd_rep 52 c)
theorem implCard_eq (x : Int) : impl_isCard.f x = some (inR 0 51 x) := by unfold impl_isCard.f; rw [within_eq]; rfl
theorem implCards_l0 : ∀ (s pre seen : List Int) (b : Nat), pre.length + s.length ≤ 1000000000000 → BitsOf b seen →
    Ev (fun k => impl_AreCards.l0 k (b : Int) (pre ++ s) ((pre ++ s).length : Int) (pre.length : Int)) (cardsB seen s)
  | [], pre, seen, b, hl, hb => by
    refine Ev.step (fun k => impl_AreCards.l0.eq_2 _ _ _ _ k) ?_
    exact ev_neg (by simp) (ev_now rfl)
  | x :: s, pre, seen, b, hl, hb => by
    have hl' : pre.length + (s.length + 1) ≤ 1000000000000 := hl
    refine Ev.step (fun k => impl_AreCards.l0.eq_2 _ _ _ _ k) ?_
    refine ev_pos (by simp; omega) (ev_pos (by omega) (ev_pos (by simp; omega) ?_))
    rw [rd_at]
    refine ev_bindc (implCard_eq x) ?_
    by_cases hx : inR 0 51 x = true
    rotate_left
    · exact ev_neg hx (ev_now (by simp [cardsB, hx]))
    have bx := inR_iff.1 hx
    obtain ⟨c, rfl⟩ := Int.eq_ofNat_of_zero_le bx.1
    refine ev_pos hx (ev_pos (by omega) ?_)
    have hc52 : c < 52 := by omega
    by_cases hc : seen.contains (c : Int) = true
    · refine ev_pos ((bit_and b c hb.1 hc52).2 (by rw [hb.2 c hc52]; exact hc)) (ev_now ?_)
      rw [cardsB, hx, hc]; rfl
    refine ev_neg (fun h => hc (by rw [← hb.2 c hc52]; exact (bit_and b c hb.1 hc52).1 h)) ?_
    rw [bit_or b c hb.1 hc52, w64 (by omega) (by omega), len_snoc pre (c : Int), app_snoc pre s]
    have h := implCards_l0 s (pre ++ [(c : Int)]) ((c : Int) :: seen) (b ||| 2 ^ c) (by simp; omega) (bits_put hb c hc52)
    simp only [Bool.not_eq_true] at hc
    simpa only [cardsB, hx, hc, Bool.not_false, Bool.true_and] using h
theorem implCards_ev (l : List Int) (hl : l.length ≤ 1000000000000) : Ev (fun k => impl_AreCards.f k l) (cardsB [] l) := by
  unfold impl_AreCards.f
  simpa using implCards_l0 l [] [] 0 (by simpa using hl) bits_nil
theorem sized_ev (l : List Int) (lo hi : Int) (hl : l.length ≤ 1000000000000) : Ev (fun k => spec_l04Sized.f k l lo hi) (inR lo hi (l.length : Int) && cardsB [] l) := by
  unfold spec_l04Sized.f
  by_cases h1 : (l.length : Int) ≥ lo
  rotate_left
  · have : inR lo hi (l.length : Int) = false := by simp only [inR, decide_eq_false_iff_not]; omega
    exact ev_neg h1 (ev_now (by simp [this]))
  by_cases h2 : (l.length : Int) ≤ hi
  rotate_left
  · have : inR lo hi (l.length : Int) = false := by simp only [inR, decide_eq_false_iff_not]; omega
    exact ev_pos h1 (ev_neg h2 (ev_now (by simp [this])))
  have : inR lo hi (l.length : Int) = true := inR_iff.2 ⟨h1, h2⟩
  rw [this, Bool.true_and]
  exact ev_pos h1 (ev_pos h2 (Ev.bind (specCards_ev l hl) (ev_now rfl)))
theorem specClass_eq (a b : Nat) (ha : a < 52) (hb : b < 52) : spec_l07Class.f (a : Int) (b : Int) = some ((clsN a b : Nat) : Int) := by
  unfold spec_l07Class.f clsN
  have e1 := tdiv_nat a 4 (by omega)
  have e2 := tdiv_nat b 4 (by omega)
  have m1 := tmod_nat a 4
  have m2 := tmod_nat b 4
  simp only [Int.cast_ofNat_Int] at e1 e2 m1 m2
  simp only [e1, e2, m1, m2, mx_max, mn_min]
  by_cases h : a % 4 = b % 4
  · rw [if_pos (by omega), if_pos (.inl h), w64 (n := 13 * _) (by omega) (by omega), w64 (by omega) (by omega)]
    congr 1; omega
  rw [if_neg (by omega)]
  by_cases h2 : max (a / 4) (b / 4) = min (a / 4) (b / 4)
  · rw [if_pos (by omega), if_pos (.inr h2), w64 (n := 13 * _) (by omega) (by omega), w64 (by omega) (by omega)]
    congr 1; omega
  · rw [if_neg (by omega), if_neg (by omega), w64 (n := 13 * _) (by omega) (by omega), w64 (by omega) (by omega)]
    congr 1; omega
theorem implClass_eq (a b : Nat) (ha : a < 52) (hb : b < 52) : impl_classOf.f (a : Int) (b : Int) = some ((clsN a b : Nat) : Int) := by
  unfold impl_classOf.f clsN
  have e1 := tdiv_nat a 4 (by omega)
  have e2 := tdiv_nat b 4 (by omega)
  have m1 := tmod_nat a 4
  have m2 := tmod_nat b 4
  simp only [Int.cast_ofNat_Int] at e1 e2 m1 m2
  simp only [e1, e2, m1, m2, mx_max, mn_min]
  by_cases h : a % 4 = b % 4
  · rw [if_pos (by omega), if_pos (.inl h), w64 (n := 13 * _) (by omega) (by omega), w64 (by omega) (by omega)]
    congr 1; omega
  rw [if_neg (by omega)]
  by_cases h2 : max (a / 4) (b / 4) = min (a / 4) (b / 4)
  · rw [if_pos (.inr h2), w64 (n := 13 * _) (by omega) (by omega), w64 (by omega) (by omega)]
    congr 1; omega
  · rw [if_neg (by omega), w64 (n := 13 * _) (by omega) (by omega), w64 (by omega) (by omega)]
    congr 1; omega
theorem implCombos_l1 (c lo hi x : Nat) (dead : List Int) (hdl : dead.length ≤ 1000000000) (hhi : hi + 4 ≤ 52) (hx : x < 52) (r : List (List Int)) : ∀ (d y : Nat) (acc : List (List Int)), y + d = hi + 4 → acc.length + d ≤ 1000000 →
    Ev (fun k => impl_combosOf.l0 k (c : Int) dead (lo : Int) (hi : Int) (acc ++ innerI c dead x d y) ((x + 1 : Nat) : Int)) r → Ev (fun k => impl_combosOf.l1 k (c : Int) dead (lo : Int) (hi : Int) acc (x : Int) (y : Int)) r
  | 0, y, acc, hd, ha, h => by
    refine Ev.step (fun k => impl_combosOf.l1.eq_2 _ _ _ _ _ _ _ k) ?_
    rw [w64 (n := (hi : Int) + 4) (by omega) (by omega), w64 (n := (x : Int) + 1) (by omega) (by omega)]
    refine ev_neg (by omega) ?_
    simpa [innerI] using h
  | d + 1, y, acc, hd, ha, h => by
    refine Ev.step (fun k => impl_combosOf.l1.eq_2 _ _ _ _ _ _ _ k) ?_
    have ey : wrap64 ((y : Int) + 1) = ((y + 1 : Nat) : Int) := by rw [w64 (by omega) (by omega)]; simp
    rw [w64 (n := (hi : Int) + 4) (by omega) (by omega), ey]
    refine ev_pos (by omega) ?_
    have skip : ¬ (x < y ∧ clsN x y = c ∧ dead.contains (x : Int) = false ∧ dead.contains (y : Int) = false) → Ev (fun k => impl_combosOf.l1 k (c : Int) dead (lo : Int) (hi : Int) acc (x : Int) ((y + 1 : Nat) : Int)) r := fun hn => by
      refine implCombos_l1 c lo hi x dead hdl hhi hx r d (y + 1) acc (by omega) (by omega) ?_
      simpa only [innerI, if_neg hn] using h
    by_cases h1 : x < y
    rotate_left
    · exact ev_neg (by omega) (skip (fun g => h1 g.1))
    refine ev_pos (by omega) (ev_bindc (implClass_eq x y hx (by omega)) ?_)
    by_cases h2 : clsN x y = c
    rotate_left
    · exact ev_neg (by omega) (skip (fun g => h2 g.2.1))
    refine ev_pos (by omega) (Ev.bind (slContains_ev dead (x : Int) (by omega)) ?_)
    by_cases h3 : dead.contains (x : Int) = true
    · exact ev_pos h3 (skip (fun g => by rw [h3] at g; simp at g))
    refine ev_neg h3 (Ev.bind (slContains_ev dead (y : Int) (by omega)) ?_)
    by_cases h4 : dead.contains (y : Int) = true
    · exact ev_pos h4 (skip (fun g => by rw [h4] at g; simp at g))
    refine ev_neg h4 (ev_pos (by omega) (implCombos_l1 c lo hi x dead hdl hhi hx r d (y + 1) _ (by omega) (by simp; omega) ?_))
    simp only [Bool.not_eq_true] at h3 h4
    simp only [innerI, if_pos (show x < y ∧ clsN x y = c ∧ dead.contains (x : Int) = false ∧ dead.contains (y : Int) = false from ⟨h1, h2, h3, h4⟩)] at h
    simpa [pair] using h
theorem innerI_len (c : Nat) (dead : List Int) (x : Nat) : ∀ d y, (innerI c dead x d y).length ≤ d
  | 0, y => by simp [innerI]
  | d + 1, y => by
    have := innerI_len c dead x d (y + 1)
    simp only [innerI]; split
    · simp; omega
    · omega
theorem implCombos_l0 (c lo hi : Nat) (dead : List Int) (hdl : dead.length ≤ 1000000000) (hhi : hi + 4 ≤ 52) (hlo : lo + 4 ≤ 52) : ∀ (d x : Nat) (acc : List (List Int)), x + d = lo + 4 → acc.length + 60 * d ≤ 900000 →
    Ev (fun k => impl_combosOf.l0 k (c : Int) dead (lo : Int) (hi : Int) acc (x : Int)) (acc ++ outerI c dead hi d x)
  | 0, x, acc, hd, ha => by
    refine Ev.step (fun k => impl_combosOf.l0.eq_2 _ _ _ _ _ _ k) ?_
    rw [w64 (by omega) (by omega)]
    exact ev_neg (by omega) (ev_now (by simp [outerI]))
  | d + 1, x, acc, hd, ha => by
    refine Ev.step (fun k => impl_combosOf.l0.eq_2 _ _ _ _ _ _ k) ?_
    rw [w64 (by omega) (by omega)]
    refine ev_pos (by omega) ?_
    refine implCombos_l1 c lo hi x dead hdl hhi (by omega) _ 4 hi acc rfl (by omega) ?_
    have := innerI_len c dead x 4 hi
    have h := implCombos_l0 c lo hi dead hdl hhi hlo d (x + 1) (acc ++ innerI c dead x 4 hi) (by omega) (by simp; omega)
    simpa [outerI] using h
theorem implCombos_ev (c : Nat) (hc : c < 169) (dead : List Int) (hdl : dead.length ≤ 1000000000) : Ev (fun k => impl_combosOf.f k (c : Int) dead) (combosM c dead) := by
  unfold impl_combosOf.f
  have e1 := tdiv_nat c 13 (by omega)
  have m1 := tmod_nat c 13
  simp only [Int.cast_ofNat_Int] at e1 m1
  have hl : wrap64 (mn ((c / 13 : Nat) : Int) ((c % 13 : Nat) : Int) * 4) = ((lowOf c : Nat) : Int) := by
    rw [mn_min, w64 (by omega) (by omega)]; unfold lowOf; omega
  have hh : wrap64 (mx ((c / 13 : Nat) : Int) ((c % 13 : Nat) : Int) * 4) = ((highOf c : Nat) : Int) := by
    rw [mx_max, w64 (by omega) (by omega)]; unfold highOf; omega
  simp only [e1, m1, hl, hh]
  have h := implCombos_l0 c (lowOf c) (highOf c) dead hdl (by unfold highOf; omega) (by unfold lowOf; omega) 4 (lowOf c) [] rfl (by simp)
  rw [combos_both c hc] at h
  simpa using h
theorem srcFrom_l0 (code : List Int) (hb : BytesOk code) : ∀ (s pre : List Int) (seed : Int), code = pre ++ s → 0 ≤ seed → seed < 2147483647 →
    ∃ seed', Ev (fun k => spec_l01From.l0 k code (pre.length : Int) code 0 seed) (code, 0, seed') ∧ 0 ≤ seed' ∧ seed' < 2147483647
  | [], pre, seed, hc, h0, h1 => by
    refine ⟨seed, Ev.step (fun k => spec_l01From.l0.eq_2 _ _ _ _ _ k) (ev_neg (by rw [hc]; simp) (ev_now rfl)), h0, h1⟩
  | x :: s, pre, seed, hc, h0, h1 => by
    have hl : code.length = pre.length + (s.length + 1) := by rw [hc]; simp
    have hbl := hb.1
    by_cases h64 : (pre.length : Int) < 64
    · have hx := hb.2 x (by rw [hc]; simp)
      have e : rd code (pre.length : Int) = x := by rw [hc]; exact rd_at _ _ _
      have w : wrap64 (wrap64 (seed * 61) + wrap64 x) = seed * 61 + x := by
        rw [w64 (n := seed * 61) (by omega) (by omega), w64 (n := x) (by omega) (by omega), w64 (by omega) (by omega)]
      have t := tmod_range (y := seed * 61 + x) (n := 2147483647) (by omega) (by omega)
      obtain ⟨seed', h, hs⟩ := srcFrom_l0 code hb s (pre ++ [x]) (Int.tmod (seed * 61 + x) 2147483647) (by rw [hc]; simp) t.1 t.2
      refine ⟨seed', Ev.step (fun k => spec_l01From.l0.eq_2 _ _ _ _ _ k) (ev_pos (by omega) (ev_pos h64 (ev_pos (by omega) ?_))), hs⟩
      rw [e, w, w64 (by omega) (by omega), len_snoc pre x]
      exact h
    · exact ⟨seed, Ev.step (fun k => spec_l01From.l0.eq_2 _ _ _ _ _ k) (ev_pos (by omega) (ev_neg h64 (ev_now rfl))), h0, h1⟩
theorem srcFrom_ok (code : List Int) (hb : BytesOk code) : ∃ seed, Ev (fun k => spec_l01From.f k code) (code, 0, seed) ∧ SrcOk code 0 seed := by
  unfold spec_l01From.f
  obtain ⟨seed, h, h0, h1⟩ := srcFrom_l0 code hb code [] 45007 rfl (by decide) (by decide)
  exact ⟨seed, h, Int.le_refl 0, by omega, h0, h1⟩
theorem next_ok {code : List Int} {p seed : Int} (hb : BytesOk code) (h : SrcOk code p seed) (n : Int) :
    ∃ x p' seed', spec_l01Next.f code p seed n = some (x, p', seed') ∧ SrcOk code p' seed' ∧ 0 ≤ x ∧ (1 ≤ n → x < n) := by
  obtain ⟨hp0, hp1, hs0, hs1⟩ := h
  have hbl := hb.1
  unfold spec_l01Next.f
  by_cases h1 : n ≤ 1
  · exact ⟨0, p, seed, by rw [if_pos h1], ⟨hp0, hp1, hs0, hs1⟩, Int.le_refl 0, fun _ => by omega⟩
  rw [if_neg h1]
  have w : wrap64 (wrap64 (seed * 48271) + 29) = seed * 48271 + 29 := by rw [w64 (n := seed * 48271) (by omega) (by omega), w64 (by omega) (by omega)]
  have hS := tmod_range (y := seed * 48271 + 29) (n := 2147483647) (by omega) (by omega)
  rw [w]
  generalize Int.tmod (seed * 48271 + 29) 2147483647 = S at hS ⊢
  have d31 : wrap64 (Int.tdiv S 31) = S / 31 := by rw [Int.tdiv_eq_ediv_of_nonneg hS.1]; exact w64 (by omega) (by omega)
  rw [d31]
  by_cases h2 : p < (code.length : Int)
  · have hr := hb.2 _ (rd_mem hp0 h2)
    have e1 : wrap64 (p + 1) = p + 1 := w64 (by omega) (by omega)
    have e2 : wrap64 (p + 1 - 1) = p := by rw [w64 (by omega) (by omega)]; omega
    rw [if_pos h2, if_pos hp0, e1, e2]
    generalize rd code p = c at hr ⊢
    have ec : wrap64 c = c := w64 (by omega) (by omega)
    rw [ec]
    have ed : wrap64 (S / 31 + c) = S / 31 + c := w64 (by omega) (by omega)
    rw [ed]
    have t1 := tmod_range (y := c) (n := n) hr.1 (by omega)
    have t2 := tmod_range (y := S / 31 + c) (n := n) (by omega) (by omega)
    have hok : SrcOk code (p + 1) S := ⟨by omega, by omega, hS.1, hS.2⟩
    by_cases h3 : n ≤ 256
    · rw [if_pos h3]
      by_cases h4 : Int.tmod (p + 1) 2 = 0
      · rw [if_pos h4, if_pos hp0, if_pos h2, if_neg (by omega)]
        exact ⟨_, _, _, rfl, hok, t1.1, fun _ => t1.2⟩
      · rw [if_neg h4, if_neg (by omega)]
        exact ⟨_, _, _, rfl, hok, t2.1, fun _ => t2.2⟩
    · rw [if_neg h3, if_neg (by omega)]
      exact ⟨_, _, _, rfl, hok, t2.1, fun _ => t2.2⟩
  · have ew : wrap64 (S / 31) = S / 31 := w64 (by omega) (by omega)
    have t2 := tmod_range (y := S / 31) (n := n) (by omega) (by omega)
    rw [if_neg h2, if_neg (by omega)]
    exact ⟨_, _, _, rfl, ⟨hp0, hp1, hS.1, hS.2⟩, t2.1, fun _ => t2.2⟩
theorem pick_ok {code : List Int} {p seed : Int} (hb : BytesOk code) (h : SrcOk code p seed) (l : List Int) (hl : 1 ≤ l.length) :
    ∃ x p' seed', spec_l01Pick.f code p seed l = some (x, p', seed') ∧ SrcOk code p' seed' ∧ x ∈ l := by
  obtain ⟨x, p', s', e, hok, hx0, hx1⟩ := next_ok hb h (l.length : Int)
  unfold spec_l01Pick.f
  rw [e]
  have hlt := hx1 (by omega)
  simp only [Option.bind_some, if_pos hx0, if_pos hlt]
  exact ⟨_, _, _, rfl, hok, rd_mem hx0 hlt⟩
theorem others_l0 (l : List Int) (hl : l.length ≤ 1000000) : ∀ (d c : Nat) (acc : List Int), c + d = 52 → acc.length + d ≤ 60 → ∃ r, Ev (fun k => spec_l02Others.l0 k l acc (c : Int)) r ∧ r.length ≤ acc.length + d
  | 0, c, acc, hc, ha => ⟨acc, Ev.step (fun k => spec_l02Others.l0.eq_2 _ _ _ k) (ev_neg (by omega) (ev_now rfl)), by omega⟩
  | d + 1, c, acc, hc, ha => by
    have ec : wrap64 ((c : Int) + 1) = ((c + 1 : Nat) : Int) := by rw [w64 (by omega) (by omega)]; simp
    by_cases h : l.contains (c : Int) = true
    · obtain ⟨r, hr, hlen⟩ := others_l0 l hl d (c + 1) acc (by omega) (by omega)
      refine ⟨r, Ev.step (fun k => spec_l02Others.l0.eq_2 _ _ _ k) (ev_pos (by omega) (Ev.bind (l01Has_ev l _ (by omega)) (ev_pos h ?_))), by omega⟩
      rw [ec]; exact hr
    · obtain ⟨r, hr, hlen⟩ := others_l0 l hl d (c + 1) (acc ++ [(c : Int)]) (by omega) (by simp; omega)
      refine ⟨r, Ev.step (fun k => spec_l02Others.l0.eq_2 _ _ _ k) (ev_pos (by omega) (Ev.bind (l01Has_ev l _ (by omega)) (ev_neg h (ev_pos (by omega) ?_)))), by simp at hlen; omega⟩
      rw [ec]; exact hr
theorem others_ok (l : List Int) (hl : l.length ≤ 1000000) : ∃ r, Ev (fun k => spec_l02Others.f k l) r ∧ r.length ≤ 52 := by
  unfold spec_l02Others.f
  obtain ⟨r, h, hlen⟩ := others_l0 l hl 52 0 [] rfl (by simp)
  exact ⟨r, h, by simpa using hlen⟩
theorem deal_l0 {code : List Int} (hb : BytesOk code) : ∀ (d : Nat) (n : Int) (rest out : List Int) (p seed : Int), SrcOk code p seed → rest.length ≤ d → out.length + d ≤ 100 → n ≤ 1000 →
    ∃ r p' seed', Ev (fun k => spec_l02Deal.l0 k n rest out code p seed) (r, p', seed') ∧ SrcOk code p' seed' ∧ r.length ≤ out.length + d ∧ (n ≤ 0 → r.length = out.length) := by
  intro d
  induction d with
  | zero =>
    intro n rest out p seed h hr ho hn
    refine ⟨out, p, seed, Ev.step (fun k => spec_l02Deal.l0.eq_2 _ _ _ _ _ _ k) ?_, h, by omega, fun _ => rfl⟩
    by_cases h1 : n > 0
    · exact ev_pos h1 (ev_neg (by omega) (ev_now rfl))
    · exact ev_neg h1 (ev_now rfl)
  | succ d ih =>
    intro n rest out p seed h hr ho hn
    by_cases h1 : n > 0
    rotate_left
    · exact ⟨out, p, seed, Ev.step (fun k => spec_l02Deal.l0.eq_2 _ _ _ _ _ _ k) (ev_neg h1 (ev_now rfl)), h, by omega, fun _ => rfl⟩
    by_cases h2 : (rest.length : Int) > 0
    rotate_left
    · exact ⟨out, p, seed, Ev.step (fun k => spec_l02Deal.l0.eq_2 _ _ _ _ _ _ k) (ev_pos h1 (ev_neg h2 (ev_now rfl))), h, by omega, fun _ => rfl⟩
    obtain ⟨x, p1, s1, e, hok, hx0, hx1⟩ := next_ok hb h (rest.length : Int)
    have hlt := hx1 (by omega)
    have e1 : wrap64 (x + 1) = x + 1 := w64 (by omega) (by omega)
    have e2 : wrap64 (n - 1) = n - 1 := w64 (by omega) (by omega)
    have l1 : ([] ++ rest.take x.toNat ++ rest.drop (x + 1).toNat : List Int).length ≤ d := by simp; omega
    obtain ⟨r, p2, s2, hr2, hok2, hlen, _⟩ := ih (n - 1) ([] ++ rest.take x.toNat ++ rest.drop (x + 1).toNat) (out ++ [rd rest x]) p1 s1 hok l1 (by simp; omega) (by omega)
    refine ⟨r, p2, s2, Ev.step (fun k => spec_l02Deal.l0.eq_2 _ _ _ _ _ _ k) (ev_pos h1 (ev_pos h2 (ev_bindc e ?_))), hok2, by simp at hlen; omega, fun g => by omega⟩
    simp only [e1, e2]
    refine ev_pos hx0 (ev_pos hlt (ev_pos (by omega) (ev_bindc rfl (ev_pos (by omega) (ev_bindc rfl (ev_pos (by simp; omega) (ev_bindc rfl (ev_pos (by omega) (ev_pos (by omega) (ev_bindc rfl (ev_pos (by simp; omega) ?_)))))))))))
    exact hr2
theorem deal_ok {code : List Int} {p seed : Int} (hb : BytesOk code) (h : SrcOk code p seed) (n : Int) (hn : n ≤ 1000) (l : List Int) (hl : l.length ≤ 1000000) :
    ∃ r p' seed', Ev (fun k => spec_l02Deal.f k code p seed n l) (r, p', seed') ∧ SrcOk code p' seed' ∧ r.length ≤ 52 := by
  unfold spec_l02Deal.f
  obtain ⟨rest, hr, hlen⟩ := others_ok l hl
  obtain ⟨r, p', s', h2, hok, hl2, _⟩ := deal_l0 hb 52 n rest [] p seed h hlen (by simp) hn
  exact ⟨r, p', s', Ev.bind hr h2, hok, by simpa using hl2⟩
theorem drawList_ok {code : List Int} {p seed : Int} (hb : BytesOk code) (h : SrcOk code p seed) (most : Int) (h0 : 0 ≤ most) (hm : most ≤ 100) :
    ∃ r p' seed', Ev (fun k => spec_l02DrawList.f k code p seed most) (r, p', seed') ∧ SrcOk code p' seed' ∧ r.length ≤ 53 := by
  unfold spec_l02DrawList.f
  rw [w64 (by omega) (by omega)]
  obtain ⟨x, p1, s1, e1, ok1, hx0, hx1⟩ := next_ok hb h (most + 1)
  have := hx1 (by omega)
  obtain ⟨r, p2, s2, e2, ok2, hl2⟩ := deal_ok hb ok1 x (by omega) [] (by simp)
  obtain ⟨y, p3, s3, e3, ok3, hy0, hy1⟩ := next_ok hb ok2 24
  by_cases c0 : y = 0
  · obtain ⟨z, p4, s4, e4, ok4, _⟩ := pick_ok hb ok3 [(-1), 52] (by simp)
    exact ⟨r ++ [z], p4, s4, ev_bindc e1 (Ev.bind e2 (ev_bindc e3 (ev_pos c0 (ev_bindc e4 (ev_pos (by simp only; omega) (ev_now rfl)))))), ok4, by simp; omega⟩
  by_cases c1 : y = 1
  · by_cases c2 : (r.length : Int) > 0
    · exact ⟨r ++ [rd r 0], p3, s3, ev_bindc e1 (Ev.bind e2 (ev_bindc e3 (ev_neg c0 (ev_pos c1 (ev_pos c2 (ev_pos (by simp only; omega) (ev_pos (by simp only; omega) (ev_now rfl)))))))), ok3, by simp; omega⟩
    · exact ⟨r, p3, s3, ev_bindc e1 (Ev.bind e2 (ev_bindc e3 (ev_neg c0 (ev_pos c1 (ev_neg c2 (ev_now rfl)))))), ok3, by omega⟩
  by_cases c2 : y = 2
  · obtain ⟨r4, p4, s4, e4, ok4, hl4⟩ := deal_ok hb ok3 52 (by omega) [] (by simp)
    exact ⟨r4, p4, s4, ev_bindc e1 (Ev.bind e2 (ev_bindc e3 (ev_neg c0 (ev_neg c1 (ev_pos c2 (Ev.bind e4 (ev_now rfl))))))), ok4, by omega⟩
  · exact ⟨r, p3, s3, ev_bindc e1 (Ev.bind e2 (ev_bindc e3 (ev_neg c0 (ev_neg c1 (ev_neg c2 (ev_now rfl)))))), ok3, by omega⟩
theorem drawClass_ok {code : List Int} {p seed : Int} (hb : BytesOk code) (h : SrcOk code p seed) : ∃ x p' seed', spec_l07DrawClass.f code p seed = some (x, p', seed') ∧ SrcOk code p' seed' := by
  unfold spec_l07DrawClass.f
  obtain ⟨x, p1, s1, e1, ok1, _, _⟩ := next_ok hb h 12
  rw [e1]
  by_cases c0 : x = 0
  · obtain ⟨z, p4, s4, e4, ok4, _⟩ := pick_ok hb ok1 [(-1), 0, 168, 169] (by simp)
    simp only [Option.bind_some, if_pos c0, e4]
    exact ⟨_, _, _, rfl, ok4⟩
  · obtain ⟨z, p4, s4, e4, ok4, _, _⟩ := next_ok hb ok1 169
    simp only [Option.bind_some, if_neg c0, e4]
    exact ⟨_, _, _, rfl, ok4⟩
theorem likeInts_l0 : ∀ (s pre : List Int), pre.length + s.length ≤ 1000000000000 →
    Ev (fun k => laws_likeInts.l0 k (pre ++ s) (pre ++ s) (pre.length : Int)) true
  | [], pre, hl => by
    refine Ev.step (fun k => laws_likeInts.l0.eq_2 _ _ _ k) ?_
    exact ev_neg (by simp) (ev_now rfl)
  | x :: s, pre, hl => by
    have hl' : pre.length + (s.length + 1) ≤ 1000000000000 := hl
    refine Ev.step (fun k => laws_likeInts.l0.eq_2 _ _ _ k) ?_
    refine ev_pos (by simp; omega) (ev_pos (by omega) (ev_pos (by simp; omega) (ev_pos rfl ?_)))
    rw [w64 (by omega) (by omega), len_snoc pre x, app_snoc pre s x]
    exact likeInts_l0 s (pre ++ [x]) (by simp; omega)
theorem likeInts_ev {a b : List Int} (e : a = b) (hl : a.length ≤ 1000000000000) : Ev (fun k => laws_likeInts.f k a b) true := by
  subst e
  unfold laws_likeInts.f
  exact ev_pos rfl (likeInts_l0 a [] (by simpa using hl))
theorem rdl_at2 (pre s : List (List Int)) (x : List Int) : rd_L2 (pre ++ x :: s) (pre.length : Int) = x := by
  simp [rd_L2, List.getD_eq_getElem?_getD]
theorem implClassIs_eq (x : Int) : impl_isClass.f x = some (inR 0 168 x) := by unfold impl_isClass.f; rw [within_eq]; rfl
theorem implCombosOf_ev (c : Int) : Ev (fun k => impl_CombosOf.f k c) (combosOfM c) := by
  unfold impl_CombosOf.f combosOfM
  refine ev_bindc (implClassIs_eq c) ?_
  by_cases h1 : inR 0 168 c = true
  rotate_left
  · rw [if_neg h1]; exact ev_neg h1 (ev_now rfl)
  rw [if_pos h1]
  have b1 := inR_iff.1 h1
  obtain ⟨n, rfl⟩ := Int.eq_ofNat_of_zero_le b1.1
  have h := implCombos_ev n (by omega) [] (by simp)
  rw [combos_nil] at h
  exact ev_pos h1 (Ev.bind h (ev_now rfl))
theorem text_at : ∀ c : Nat, c < 169 → (spec_l07Text.f (c : Int)).map ByteArray.toList = (impl_classText.f (c : Int)).map ByteArray.toList ∧ (spec_l07Text.f (c : Int)).isSome = true := by decide +kernel
theorem text_both (c : Nat) (hc : c < 169) : ∃ x y, spec_l07Text.f (c : Int) = some x ∧ impl_classText.f (c : Int) = some y ∧ y.toList = x.toList := by
  obtain ⟨h1, h2⟩ := text_at c hc
  obtain ⟨x, hx⟩ := Option.isSome_iff_exists.1 h2
  rw [hx] at h1
  cases hy : impl_classText.f (c : Int) with
  | none => rw [hy] at h1; simp at h1
  | some y =>
    rw [hy] at h1
    simp only [Option.map_some, Option.some.injEq] at h1
    exact ⟨x, y, hx, rfl, h1.symm⟩
theorem read_both (s : ByteArray) : ∀ (d c : Nat), c + d = 169 → ∃ r : Int, Ev (fun k => spec_l07Read.l0 k s (c : Int)) r ∧ Ev (fun k => impl_ReadClass.l0 k s (c : Int)) (if r < 0 then (0, 6) else (r, 0))
  | 0, c, h => by
    refine ⟨-1, ?_, ?_⟩
    · exact Ev.step (fun k => spec_l07Read.l0.eq_2 _ _ k) (ev_neg (by omega) (ev_now rfl))
    · exact Ev.step (fun k => impl_ReadClass.l0.eq_2 _ _ k) (ev_neg (by omega) (ev_now rfl))
  | d + 1, c, h => by
    obtain ⟨x, y, hx, hy, e⟩ := text_both c (by omega)
    by_cases ht : x.toList = s.toList
    · refine ⟨(c : Int), ?_, ?_⟩
      · exact Ev.step (fun k => spec_l07Read.l0.eq_2 _ _ k) (ev_pos (by omega) (ev_bindc hx (ev_pos ht (ev_now rfl))))
      · rw [if_neg (by omega)]
        exact Ev.step (fun k => impl_ReadClass.l0.eq_2 _ _ k) (ev_pos (by omega) (ev_bindc hy (ev_pos (e.trans ht) (ev_now rfl))))
    · obtain ⟨r, h1, h2⟩ := read_both s d (c + 1) (by omega)
      have ew : wrap64 ((c : Int) + 1) = ((c + 1 : Nat) : Int) := by rw [w64 (by omega) (by omega)]; simp
      refine ⟨r, ?_, ?_⟩
      · refine Ev.step (fun k => spec_l07Read.l0.eq_2 _ _ k) (ev_pos (by omega) (ev_bindc hx (ev_neg ht ?_)))
        rw [ew]; exact h1
      · refine Ev.step (fun k => impl_ReadClass.l0.eq_2 _ _ k) (ev_pos (by omega) (ev_bindc hy (ev_neg (fun h => ht (e.symm.trans h)) ?_)))
        rw [ew]; exact h2
theorem readClass_both (s : ByteArray) : ∃ q : Int × Int, Ev (fun k => spec_ReadClass.f k s) q ∧ Ev (fun k => impl_ReadClass.f k s) q := by
  obtain ⟨r, h1, h2⟩ := read_both s 169 0 rfl
  refine ⟨if r < 0 then (0, 6) else (r, 0), ?_, ?_⟩
  · unfold spec_ReadClass.f spec_l07Read.f
    refine Ev.bind h1 ?_
    by_cases hr : r < 0
    · simp only [if_pos hr]; exact ev_now rfl
    · simp only [if_neg hr]; exact ev_now rfl
  · unfold impl_ReadClass.f; exact h2
theorem specClassOf_ev (l : List Int) (hl : l.length ≤ 1000000000000) : Ev (fun k => spec_ClassOf.f k l) (classOfM l) := by
  unfold spec_ClassOf.f
  refine Ev.bind (sized_ev l 2 2 hl) ?_
  by_cases h : (inR 2 2 (l.length : Int) && cardsB [] l) = true
  rotate_left
  · have e : classOfM l = (0, 1) := if_neg h
    rw [e]; exact ev_neg h (ev_now rfl)
  have e : classOfM l = (((clsN (rd l 0).toNat (rd l 1).toNat : Nat) : Int), 0) := if_pos h
  rw [e]
  refine ev_pos h ?_
  simp only [Bool.and_eq_true] at h
  have h2 := inR_iff.1 h.1
  obtain ⟨a, b, rfl, ha, hb, _⟩ := two_cards (by omega) h.2
  exact ev_pos (by simp) (ev_pos (by simp) (ev_bindc (specClass_eq a b ha hb) (ev_now rfl)))
theorem implClassOf_ev (l : List Int) (hl : l.length ≤ 1000000000000) : Ev (fun k => impl_ClassOf.f k l) (classOfM l) := by
  unfold impl_ClassOf.f
  by_cases h2 : l.length = 2
  rotate_left
  · have hi : inR 2 2 (l.length : Int) = false := by simp only [inR, decide_eq_false_iff_not]; omega
    have e : classOfM l = (0, 1) := if_neg (by rw [hi]; simp)
    rw [e]
    exact ev_neg (by omega) (ev_now rfl)
  have hi : inR 2 2 (l.length : Int) = true := inR_iff.2 ⟨by omega, by omega⟩
  refine ev_pos (by omega) (Ev.bind (implCards_ev l hl) ?_)
  by_cases h : cardsB [] l = true
  rotate_left
  · have e : classOfM l = (0, 1) := if_neg (by rw [hi]; simpa using h)
    rw [e]; exact ev_neg h (ev_now rfl)
  have e : classOfM l = (((clsN (rd l 0).toNat (rd l 1).toNat : Nat) : Int), 0) := if_pos (by rw [hi, h]; rfl)
  rw [e]
  refine ev_pos h ?_
  obtain ⟨a, b, rfl, ha, hb, _⟩ := two_cards h2 h
  exact ev_pos (by simp) (ev_pos (by simp) (ev_bindc (implClass_eq a b ha hb) (ev_now rfl)))
theorem damage_ok {code : List Int} {p seed : Int} (hb : BytesOk code) (h : SrcOk code p seed) (t : ByteArray) (ht : t.size ≤ 1000000) :
    ∃ r p' seed', spec_l01Damage.f code p seed t = some (r, p', seed') ∧ SrcOk code p' seed' ∧ r.size ≤ t.size + 1 := by
  unfold spec_l01Damage.f
  rw [w64 (n := (t.size : Int) + 1) (by omega) (by omega)]
  obtain ⟨x, p1, s1, e1, ok1, hx0, hx1⟩ := next_ok hb h ((t.size : Int) + 1)
  have hx := hx1 (by omega)
  obtain ⟨y, p2, s2, e2, ok2, _, _⟩ := next_ok hb ok1 8
  simp only [e1, e2, Option.bind_some]
  have hxn : x.toNat ≤ t.size := by omega
  by_cases c0 : y = 0
  · rw [if_pos c0, if_pos hx0, if_pos (by omega)]
    exact ⟨_, _, _, rfl, ok2, by rw [ByteArray.size_extract]; omega⟩
  rw [if_neg c0]
  by_cases c1 : y = 1
  · rw [if_pos c1, if_pos hx0, if_pos (by omega)]
    obtain ⟨z, p3, s3, e3, ok3, hz0, hz1⟩ := next_ok hb ok2 8
    have hz := hz1 (by omega)
    simp only [e3, Option.bind_some]
    have hone : ∀ n : Nat, n < 8 → (rdOf ByteArray.empty [(⟨#[48]⟩ : ByteArray), (⟨#[35]⟩ : ByteArray), (⟨#[46]⟩ : ByteArray), (⟨#[47]⟩ : ByteArray), (⟨#[32]⟩ : ByteArray), (⟨#[97]⟩ : ByteArray), (⟨#[45]⟩ : ByteArray), (⟨#[10]⟩ : ByteArray)] (n : Int)).size = 1 := by decide
    obtain ⟨n, rfl⟩ := Int.eq_ofNat_of_zero_le hz0
    have h1 := hone n (by omega)
    rw [if_pos hz0, if_pos (by simp; omega)]
    have g1 : (t.extract 0 x.toNat).size = x.toNat := by rw [ByteArray.size_extract]; omega
    have g2 : (t.extract x.toNat t.size).size = t.size - x.toNat := by rw [ByteArray.size_extract]; omega
    rw [if_pos (by rw [g1]; omega), if_pos (by rw [ByteArray.size_append, g1, g2]; omega)]
    refine ⟨_, _, _, rfl, ok3, ?_⟩
    rw [ByteArray.size_append, ByteArray.size_append, g1, g2]
    omega
  rw [if_neg c1]
  by_cases c2 : y = 2
  · rw [if_pos c2]
    by_cases c3 : x < (t.size : Int)
    · have e5 : wrap64 (x + 1) = x + 1 := w64 (by omega) (by omega)
      have g1 : (t.extract 0 x.toNat).size = x.toNat := by rw [ByteArray.size_extract]; omega
      have g2 : (t.extract (x + 1).toNat t.size).size = t.size - (x + 1).toNat := by rw [ByteArray.size_extract]; omega
      rw [if_pos c3, if_pos hx0, if_pos (by omega), e5, if_pos (by omega), if_pos (by omega), if_pos (by rw [g1, g2]; omega)]
      exact ⟨_, _, _, rfl, ok2, by rw [ByteArray.size_append, g1, g2]; omega⟩
    · rw [if_neg c3]
      exact ⟨_, _, _, rfl, ok2, by omega⟩
  · rw [if_neg c2]
    exact ⟨_, _, _, rfl, ok2, by omega⟩
theorem likeIntsG_l0 : ∀ (s t pre1 pre2 : List Int), pre1.length = pre2.length → s.length = t.length → pre1.length + s.length ≤ 1000000000000 →
    Ev (fun k => laws_likeInts.l0 k (pre1 ++ s) (pre2 ++ t) (pre1.length : Int)) (decide (s = t))
  | [], [], pre1, pre2, h1, h2, hl => by
    refine Ev.step (fun k => laws_likeInts.l0.eq_2 _ _ _ k) ?_
    exact ev_neg (by simp) (ev_now (by simp))
  | x :: s, y :: t, pre1, pre2, h1, h2, hl => by
    have hl' : pre1.length + (s.length + 1) ≤ 1000000000000 := hl
    have h2' : s.length = t.length := by simpa using h2
    refine Ev.step (fun k => laws_likeInts.l0.eq_2 _ _ _ k) ?_
    refine ev_pos (by simp; omega) (ev_pos (by omega) (ev_pos (by simp; omega) ?_))
    have e2 : rd (pre2 ++ y :: t) (pre1.length : Int) = y := by rw [h1]; exact rd_at _ _ _
    rw [rd_at, e2]
    by_cases e : x = y
    · subst e
      refine ev_pos rfl ?_
      rw [w64 (by omega) (by omega), len_snoc pre1 x, app_snoc pre1 s x, app_snoc pre2 t x]
      have h := likeIntsG_l0 s t (pre1 ++ [x]) (pre2 ++ [x]) (by simp [h1]) h2' (by simp; omega)
      simpa using h
    · exact ev_neg e (ev_now (by simp [e]))
  | [], y :: t, pre1, pre2, h1, h2, hl => by simp at h2
  | x :: s, [], pre1, pre2, h1, h2, hl => by simp at h2
theorem likeIntsG_ev (a b : List Int) (hl : a.length ≤ 1000000000000) : Ev (fun k => laws_likeInts.f k a b) (decide (a = b)) := by
  unfold laws_likeInts.f
  by_cases h : (a.length : Int) = (b.length : Int)
  · exact ev_pos h (likeIntsG_l0 a b [] [] rfl (by omega) (by simpa using hl))
  · refine ev_neg h (ev_now ?_)
    symm
    rw [decide_eq_false_iff_not]
    intro e; subst e; exact h rfl
def idxT (x : UInt8) : Nat := ([50, 51, 52, 53, 54, 55, 56, 57, 84, 74, 81, 75, 65] : List UInt8).idxOf x
def decodeT : List UInt8 → Nat
  | [x, y] => 13 * idxT x + idxT y
  | [x, y, k] => if k = 115 then 13 * idxT x + idxT y else 13 * idxT y + idxT x
  | _ => 1000
theorem decode_ok : ∀ c : Nat, c < 169 → (impl_classText.f (c : Int)).map (fun s => decodeT s.toList) = some c := by decide +kernel
theorem text_size : ∀ c : Nat, c < 169 → ((spec_l07Text.f (c : Int)).map (fun s => decide (s.size ≤ 3))) = some true := by decide +kernel
theorem text_apart {c d : Nat} (hc : c < 169) (hd : d < 169) {y z : ByteArray} (hy : impl_classText.f (c : Int) = some y) (hz : impl_classText.f (d : Int) = some z) (e : z.toList = y.toList) : d = c := by
  have h1 := decode_ok c hc
  have h2 := decode_ok d hd
  rw [hy, Option.map_some, Option.some.injEq] at h1
  rw [hz, Option.map_some, Option.some.injEq] at h2
  rw [← h1, ← h2, e]
theorem readBack (c : Nat) (hc : c < 169) (y : ByteArray) (hy : impl_classText.f (c : Int) = some y) : ∀ d n : Nat, n + d = c → Ev (fun k => impl_ReadClass.l0 k y (n : Int)) ((c : Int), 0)
  | 0, n, h => by
    obtain rfl : n = c := by omega
    exact Ev.step (fun k => impl_ReadClass.l0.eq_2 _ _ k) (ev_pos (by omega) (ev_bindc hy (ev_pos rfl (ev_now rfl))))
  | d + 1, n, h => by
    obtain ⟨x, z, _, hz, _⟩ := text_both n (by omega)
    refine Ev.step (fun k => impl_ReadClass.l0.eq_2 _ _ k) (ev_pos (by omega) (ev_bindc hz (ev_neg (fun e => ?_) ?_)))
    · have := text_apart hc (by omega) hy hz e; omega
    · have ew : wrap64 ((n : Int) + 1) = ((n + 1 : Nat) : Int) := by rw [w64 (by omega) (by omega)]; simp
      rw [ew]
      exact readBack c hc y hy d (n + 1) (by omega)
theorem classText_both (c : Int) : ∃ (x y : ByteArray) (q : Int), spec_ClassText.f c = some (x, q) ∧ impl_ClassText.f c = some (y, q) ∧ y.toList = x.toList ∧ (q = 0 → ∃ n : Nat, c = n ∧ n < 169 ∧ impl_classText.f (n : Int) = some y) := by
  unfold spec_ClassText.f impl_ClassText.f spec_l07Is.f
  rw [implClassIs_eq, l01In_eq]
  simp only [Option.bind_some]
  by_cases h : inR 0 168 c = true
  · have b := inR_iff.1 h
    obtain ⟨n, rfl⟩ := Int.eq_ofNat_of_zero_le b.1
    obtain ⟨x, y, hx, hy, e⟩ := text_both n (by omega)
    refine ⟨x, y, 0, ?_, ?_, e, fun _ => ⟨n, rfl, by omega, hy⟩⟩
    · rw [if_pos h, hx]; rfl
    · rw [if_pos h, hy]; rfl
  · exact ⟨_, _, 2, by rw [if_neg h], by rw [if_neg h], rfl, fun g => by simp at g⟩
theorem drawClassOf_ok (code : List Int) (hb : BytesOk code) : ∃ l, Ev (fun k => spec_DrawClassOf.f k code) l ∧ l.length ≤ 53 := by
  unfold spec_DrawClassOf.f
  obtain ⟨s, e, ok⟩ := srcFrom_ok code hb
  obtain ⟨x, p1, s1, e1, ok1, _, _⟩ := next_ok hb ok 10
  by_cases c0 : x = 0
  · obtain ⟨r, p2, s2, e2, _, hl⟩ := drawList_ok hb ok1 3 (by decide) (by decide)
    exact ⟨r, Ev.bind e (ev_bindc e1 (ev_pos c0 (Ev.bind e2 (ev_now rfl)))), hl⟩
  · obtain ⟨r, p2, s2, e2, _, hl⟩ := deal_ok hb ok1 2 (by decide) [] (by simp)
    exact ⟨r, Ev.bind e (ev_bindc e1 (ev_neg c0 (Ev.bind e2 (ev_now rfl)))), by omega⟩
theorem drawClassText_ok (code : List Int) (hb : BytesOk code) : ∃ c, Ev (fun k => spec_DrawClassText.f k code) c := by
  unfold spec_DrawClassText.f
  obtain ⟨s, e, ok⟩ := srcFrom_ok code hb
  obtain ⟨c, p1, s1, e1, ok1⟩ := drawClass_ok hb ok
  exact ⟨c, Ev.bind e (ev_bindc e1 (ev_now rfl))⟩
theorem drawReadClass_ok (code : List Int) (hb : BytesOk code) : ∃ t, Ev (fun k => spec_DrawReadClass.f k code) t := by
  unfold spec_DrawReadClass.f
  obtain ⟨s, e, ok⟩ := srcFrom_ok code hb
  obtain ⟨x, p1, s1, e1, ok1, hx0, hx1⟩ := next_ok hb ok 169
  have hx := hx1 (by decide)
  obtain ⟨n, rfl⟩ := Int.eq_ofNat_of_zero_le hx0
  obtain ⟨t, _, ht, _, _⟩ := text_both n (by omega)
  have hs := text_size n (by omega)
  rw [ht, Option.map_some, Option.some.injEq, decide_eq_true_eq] at hs
  obtain ⟨z, p2, s2, e2, ok2, _, _⟩ := next_ok hb ok1 3
  by_cases c0 : z = 0
  · obtain ⟨r, p3, s3, e3, _, _⟩ := damage_ok hb ok2 t (by omega)
    exact ⟨r, Ev.bind e (ev_bindc e1 (ev_bindc ht (ev_bindc e2 (ev_pos c0 (ev_bindc e3 (ev_now rfl))))))⟩
  · exact ⟨t, Ev.bind e (ev_bindc e1 (ev_bindc ht (ev_bindc e2 (ev_neg c0 (ev_now rfl)))))⟩
theorem found_ok (a b : Nat) (T : List Int) (hT : T = [mn (rd [(a : Int), (b : Int)] 0) (rd [(a : Int), (b : Int)] 1), mx (rd [(a : Int), (b : Int)] 0) (rd [(a : Int), (b : Int)] 1)]) :
    ∀ (s pre : List (List Int)) (fnd : Bool), (∀ p ∈ s, p.length = 2) → pre.length + s.length ≤ 1000 →
    Ev (fun k => laws_FnClasses.l0 k [(a : Int), (b : Int)] (pre ++ s) 0 fnd (pre.length : Int)) (fnd || s.contains T)
  | [], pre, fnd, h2, hl => by
    refine Ev.step (fun k => laws_FnClasses.l0.eq_2 _ _ _ _ _ k) (ev_neg (by simp) (ev_pos rfl (ev_now (by simp))))
  | x :: s, pre, fnd, h2, hl => by
    have hl' : pre.length + (s.length + 1) ≤ 1000 := hl
    have hx := h2 x (by simp)
    refine Ev.step (fun k => laws_FnClasses.l0.eq_2 _ _ _ _ _ k) (ev_pos (by simp; omega) ?_)
    rw [w64 (by omega) (by omega), len_snoc pre x, app_snoc pre s x]
    cases fnd with
    | true =>
      refine ev_pos rfl ?_
      have h := found_ok a b T hT s (pre ++ [x]) true (fun p hp => h2 p (by simp [hp])) (by simp; omega)
      simpa using h
    | false =>
      refine ev_neg (by simp) (ev_pos (by omega) (ev_pos (by simp) (ev_pos (by simp) ?_)))
      have e : rd_L2 (pre ++ [x] ++ s) (pre.length : Int) = x := by rw [← app_snoc]; exact rdl_at2 _ _ _
      rw [e, ← hT]
      refine Ev.bind (likeIntsG_ev x T (by omega)) ?_
      have h := found_ok a b T hT s (pre ++ [x]) (decide (x = T)) (fun p hp => h2 p (by simp [hp])) (by simp; omega)
      have e2 : (false || (x :: s).contains T) = (decide (x = T) || s.contains T) := by
        rw [List.contains_cons, Bool.false_or]
        by_cases e3 : x = T
        · rw [e3]; simp
        · have e4 : (T == x) = false := by simp; exact fun h => e3 h.symm
          have e5 : decide (x = T) = false := by simp [e3]
          rw [e4, e5]
      rw [e2]; exact h
theorem j1_ok (l : List Int) (hl : l.length ≤ 1000) : Ev (fun k => laws_FnClasses.j1 k l (classOfM l).1 (classOfM l).2) true := by
  refine Ev.step (fun k => laws_FnClasses.j1.eq_2 _ _ _ k) ?_
  unfold classOfM
  by_cases h : (inR 2 2 (l.length : Int) && cardsB [] l) = true
  rotate_left
  · simp only [if_neg h]; exact ev_neg (by decide) (ev_now rfl)
  simp only [if_pos h]
  simp only [Bool.and_eq_true] at h
  have h2 := inR_iff.1 h.1
  obtain ⟨a, b, rfl, ha, hb, hab⟩ := two_cards (by omega) h.2
  refine ev_pos trivial ?_
  have ea : (rd [(a : Int), (b : Int)] 0).toNat = a := rfl
  have eb : (rd [(a : Int), (b : Int)] 1).toNat = b := rfl
  rw [ea, eb]
  have hc := clsN_lt ha hb
  refine Ev.bind (implCombosOf_ev _) ?_
  have hr : inR 0 168 ((clsN a b : Nat) : Int) = true := inR_iff.2 ⟨by omega, by omega⟩
  unfold combosOfM
  rw [if_pos hr]
  have hlen := combos_size (clsN a b) hc
  have hs := sizeN_le (clsN a b)
  have hf := found_ok a b _ rfl (outerS (clsN a b) 52 0) [] false (outerS_pairs _ _ _) (by simp; omega)
  have hm : (outerS (clsN a b) 52 0).contains [mn (rd [(a : Int), (b : Int)] 0) (rd [(a : Int), (b : Int)] 1), mx (rd [(a : Int), (b : Int)] 0) (rd [(a : Int), (b : Int)] 1)] = true := by
    have e : [mn (rd [(a : Int), (b : Int)] 0) (rd [(a : Int), (b : Int)] 1), mx (rd [(a : Int), (b : Int)] 0) (rd [(a : Int), (b : Int)] 1)] = pair (min a b) (max a b) := by
      show [mn (a : Int) (b : Int), mx (a : Int) (b : Int)] = pair (min a b) (max a b)
      rw [mn_min, mx_max]; unfold pair
      congr 1
      · omega
      · congr 1; omega
    rw [e, List.contains_iff_mem]
    rcases Nat.lt_or_ge a b with hlt | hge
    · rw [Nat.min_eq_left (by omega), Nat.max_eq_right (by omega)]
      exact mem_outerS _ a b rfl hlt (by omega) 52 0 rfl (by omega)
    · rw [Nat.min_eq_right (by omega), Nat.max_eq_left (by omega)]
      exact mem_outerS _ b a (clsN_comm b a) (by omega) (by omega) 52 0 rfl (by omega)
  rw [hm] at hf
  simpa using hf
end LFnClasses
open LFnClasses
theorem FnClasses : laws_FnClasses.Pure := by
  intro code _ _ hw
  refine Ev.rounds (g := fun k => laws_FnClasses.f k code) ?_
  unfold laws_FnClasses.f
  refine ev_bindc rfl ?_
  by_cases hbig : (code.length : Int) > 4096
  · exact ev_pos (by simpa using hbig) (ev_now rfl)
  refine ev_neg (by simpa using hbig) ?_
  have hb : BytesOk code := ⟨by omega, fun x hx => byte_wf (hw x hx)⟩
  obtain ⟨l, e1, hl⟩ := drawClassOf_ok code hb
  obtain ⟨c, e2⟩ := drawClassText_ok code hb
  obtain ⟨t, e3⟩ := drawReadClass_ok code hb
  obtain ⟨x, y, q, ex, ey, exy, hq⟩ := classText_both c
  obtain ⟨r, r1, r2⟩ := readClass_both t
  refine Ev.bind e1 (Ev.bind (implClassOf_ev l (by omega)) (Ev.bind (specClassOf_ev l (by omega)) (Ev.bind e2 (ev_bindc ey (ev_bindc ex (Ev.bind e3 (Ev.bind r2 (Ev.bind r1 ?_))))))))
  refine ev_pos rfl (ev_pos rfl (ev_pos rfl (ev_pos exy (ev_pos rfl ?_))))
  refine Ev.step (fun k => laws_FnClasses.j0.eq_2 _ _ _ _ _ _ _ k) (ev_neg (by simp) ?_)
  have fin := j1_ok l (by omega)
  by_cases h0 : q = 0
  rotate_left
  · exact ev_neg h0 fin
  obtain ⟨n, rfl, hn, hy⟩ := hq h0
  have hback := readBack n hn y hy n 0 (by omega)
  refine ev_pos h0 (Ev.bind (a := ((n : Int), 0)) ?_ (ev_pos rfl (ev_pos rfl fin)))
  unfold impl_ReadClass.f
  exact hback
end Go.Proofs.Ytblfemlheolhoaa.Pure
