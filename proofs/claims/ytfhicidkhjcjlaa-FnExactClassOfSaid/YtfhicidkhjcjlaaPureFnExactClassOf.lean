/- For every list the program's ClassOf returns what the reference's returns. No conditions. -/
import Derived.Test.YtfhicidkhjcjlaaQFnExactClassOfx2
import Derived.Test.YtfhicidkhjcjlaaEv
namespace Go.Proofs.Ytfhicidkhjcjlaa.Pure
open Go.RowKit Go.Proofs.Ytfhicidkhjcjlaa.QFnExactClassOf Go.Proofs.YtfhicidkhjcjlaaW.PrintWords Go.Proofs.YtfhicidkhjcjlaaW.PrintLast Go.Proofs.YtfhicidkhjcjlaaW.PrintMore Go.Proofs.Ytfhicidkhjcjlaa.EvBase
set_option linter.unusedVariables false
set_option linter.unusedSimpArgs false
namespace LFnExactClassOf
theorem l01In_eq (a lo hi : Int) : spec_l01In.f a lo hi = some (inR lo hi a) := by
  unfold spec_l01In.f inR
  by_cases h : a ≥ lo
  · rw [if_pos h]; simp [h]
  · rw [if_neg h]; simp; omega
theorem within_eq (a lo hi : Int) : impl_within.f a lo hi = some (inR lo hi a) := by
  unfold impl_within.f inR
  by_cases h : a ≥ lo
  · rw [if_pos h]; simp [h]
  · rw [if_neg h]; simp; omega
theorem toInt64S_l0 : ∀ (s pre z : List Int), z.length = s.length → pre.length + s.length ≤ 1000000000000 →
    Ev (fun k => laws_toInt64S.l0 k (pre ++ s) (pre ++ z) (pre.length : Int)) (pre ++ s)
  | [], pre, z, hz, hl => by
    obtain rfl : z = [] := by simpa using hz
    refine Ev.step (fun k => laws_toInt64S.l0.eq_2 _ _ _ k) ?_
    exact ev_neg (by simp) (ev_now rfl)
  | x :: s, pre, z, hz, hl => by
    obtain ⟨y, z, rfl⟩ : ∃ y z', z = y :: z' := by cases z with
      | nil => simp at hz
      | cons y z => exact ⟨y, z, rfl⟩
    have hl' : pre.length + (s.length + 1) ≤ 1000000000000 := hl
    refine Ev.step (fun k => laws_toInt64S.l0.eq_2 _ _ _ k) ?_
    refine ev_pos (by simp; omega) (ev_pos (by omega) (ev_pos (by simp; omega) ?_))
    rw [rd_at, set_at, w64 (by omega) (by omega), len_snoc pre x, app_snoc pre s x]
    have hlen : ((pre ++ [x]).length : Int) = (pre ++ [x]).length := rfl
    exact toInt64S_l0 s (pre ++ [x]) z (by simpa using hz) (by simp; omega)
theorem toInt64S_ev (l : List Int) (hl : l.length ≤ 1000000000000) : Ev (fun k => laws_toInt64S.f k l) l := by
  unfold laws_toInt64S.f
  refine ev_pos (by omega) (ev_pos (by simp; omega) ?_)
  have h := toInt64S_l0 l [] (List.replicate l.length 0) (by simp) (by simpa using hl)
  simpa using h
theorem eqInt64S_l0 : ∀ (s pre : List Int), pre.length + s.length ≤ 1000000000000 →
    Ev (fun k => laws_eqInt64S.l0 k (pre ++ s) (pre ++ s) (pre.length : Int)) true
  | [], pre, hl => by
    refine Ev.step (fun k => laws_eqInt64S.l0.eq_2 _ _ _ k) ?_
    exact ev_neg (by simp) (ev_now rfl)
  | x :: s, pre, hl => by
    have hl' : pre.length + (s.length + 1) ≤ 1000000000000 := hl
    refine Ev.step (fun k => laws_eqInt64S.l0.eq_2 _ _ _ k) ?_
    refine ev_pos (by simp; omega) (ev_pos (by omega) (ev_pos (by simp; omega) (ev_pos rfl ?_)))
    rw [w64 (by omega) (by omega), len_snoc pre x, app_snoc pre s x]
    exact eqInt64S_l0 s (pre ++ [x]) (by simp; omega)
theorem eqInt64S_ev {a b : List Int} (e : a = b) (hl : a.length ≤ 1000000000000) : Ev (fun k => laws_eqInt64S.f k a b) true := by
  subst e
  unfold laws_eqInt64S.f
  refine ev_pos rfl ?_
  simpa using eqInt64S_l0 a [] (by simpa using hl)
theorem specCard_eq (x : Int) : spec_l02Card.f x = some (inR 0 51 x) := by unfold spec_l02Card.f; rw [l01In_eq]; rfl
theorem specCards_l0 : ∀ (s pre seen : List Int) (flags : List Bool), pre.length + s.length ≤ 1000000000000 → flags.length = 52 → (∀ c : Nat, c < 52 → rdOf false flags (c : Int) = seen.contains (c : Int)) →
    Ev (fun k => spec_AreCards.l0 k (pre ++ s) flags (pre.length : Int)) (cardsB seen s)
  | [], pre, seen, flags, hl, hf, hs => by
    refine Ev.step (fun k => spec_AreCards.l0.eq_2 _ _ _ k) ?_
    exact ev_neg (by simp) (ev_now rfl)
  | x :: s, pre, seen, flags, hl, hf, hs => by
    have hl' : pre.length + (s.length + 1) ≤ 1000000000000 := hl
    refine Ev.step (fun k => spec_AreCards.l0.eq_2 _ _ _ k) ?_
    refine ev_pos (by simp; omega) (ev_pos (by omega) ?_)
    rw [rd_at]
    refine ev_bindc (specCard_eq x) ?_
    by_cases hx : inR 0 51 x = true
    rotate_left
    · exact ev_neg hx (ev_now (by simp [cardsB, hx]))
    have bx := inR_iff.1 hx
    obtain ⟨c, rfl⟩ := Int.eq_ofNat_of_zero_le bx.1
    refine ev_pos hx (ev_pos (by omega) (ev_pos (by omega) ?_))
    rw [hs c (by omega)]
    by_cases hc : seen.contains (c : Int) = true
    · exact ev_pos hc (ev_now (by rw [cardsB, hx, hc]; rfl))
    refine ev_neg hc ?_
    rw [w64 (by omega) (by omega), len_snoc pre (c : Int), app_snoc pre s]
    have h := specCards_l0 s (pre ++ [(c : Int)]) ((c : Int) :: seen) (flags.set ((c : Int)).toNat true) (by simp; omega) (by simpa using hf) (fun d hd => by
      rw [List.contains_cons, ← hs d hd]
      by_cases e : c = d
      · subst e; simp [rdOf, List.getD_eq_getElem?_getD, hf, hd]
      · have e2 : ¬ (d : Int) = (c : Int) := by omega
        simp [rdOf, List.getD_eq_getElem?_getD, List.getElem?_set, e, e2])
    simp only [Bool.not_eq_true] at hc
    simpa only [cardsB, hx, hc, Bool.not_false, Bool.true_and] using h
theorem specCards_ev (l : List Int) (hl : l.length ≤ 1000000000000) : Ev (fun k => spec_AreCards.f k l) (cardsB [] l) := by
  unfold spec_AreCards.f
  refine ev_pos (by decide) ?_
  simpa using specCards_l0 l [] [] (List.replicate 52 false) (by simpa using hl) (by simp) (fun c _ => rd_rep 52 c)
theorem implCard_eq (x : Int) : impl_isCard.f x = some (inR 0 51 x) := by unfold impl_isCard.f; rw [within_eq]; rfl
theorem implCards_l0 : ∀ (s pre seen : List Int) (b : Nat), pre.length + s.length ≤ 1000000000000 → BitsOf b seen →
    Ev (fun k => impl_AreCards.l0 k (b : Int) (pre ++ s) ((pre ++ s).length : Int) (pre.length : Int)) (cardsB seen s)
  | [], pre, seen, b, hl, hb => by
    refine Ev.step (fun k => impl_AreCards.l0.eq_2 _ _ _ _ k) ?_
    exact ev_neg (by simp) (ev_now rfl)
  | x :: s, pre, seen, b, hl, hb => by
    have hl' : pre.length + (s.length + 1) ≤ 1000000000000 := hl
    refine Ev.step (fun k => impl_AreCards.l0.eq_2 _ _ _ _ k) ?_
    refine ev_pos (by simp; omega) (ev_pos (by omega) (ev_pos (by simp; omega) ?_))
    rw [rd_at]
    refine ev_bindc (implCard_eq x) ?_
    by_cases hx : inR 0 51 x = true
    rotate_left
    · exact ev_neg hx (ev_now (by simp [cardsB, hx]))
    have bx := inR_iff.1 hx
    obtain ⟨c, rfl⟩ := Int.eq_ofNat_of_zero_le bx.1
    refine ev_pos hx (ev_pos (by omega) ?_)
    have hc52 : c < 52 := by omega
    by_cases hc : seen.contains (c : Int) = true
    · refine ev_pos ((bit_and b c hb.1 hc52).2 (by rw [hb.2 c hc52]; exact hc)) (ev_now ?_)
      rw [cardsB, hx, hc]; rfl
    refine ev_neg (fun h => hc (by rw [← hb.2 c hc52]; exact (bit_and b c hb.1 hc52).1 h)) ?_
    rw [bit_or b c hb.1 hc52, w64 (by omega) (by omega), len_snoc pre (c : Int), app_snoc pre s]
    have h := implCards_l0 s (pre ++ [(c : Int)]) ((c : Int) :: seen) (b ||| 2 ^ c) (by simp; omega) (bits_put hb c hc52)
    simp only [Bool.not_eq_true] at hc
    simpa only [cardsB, hx, hc, Bool.not_false, Bool.true_and] using h
theorem implCards_ev (l : List Int) (hl : l.length ≤ 1000000000000) : Ev (fun k => impl_AreCards.f k l) (cardsB [] l) := by
  unfold impl_AreCards.f
  simpa using implCards_l0 l [] [] 0 (by simpa using hl) bits_nil
theorem sized_ev (l : List Int) (lo hi : Int) (hl : l.length ≤ 1000000000000) : Ev (fun k => spec_l04Sized.f k l lo hi) (inR lo hi (l.length : Int) && cardsB [] l) := by
  unfold spec_l04Sized.f
  by_cases h1 : (l.length : Int) ≥ lo
  rotate_left
  · have : inR lo hi (l.length : Int) = false := by simp only [inR, decide_eq_false_iff_not]; omega
    exact ev_neg h1 (ev_now (by simp [this]))
  by_cases h2 : (l.length : Int) ≤ hi
  rotate_left
  · have : inR lo hi (l.length : Int) = false := by simp only [inR, decide_eq_false_iff_not]; omega
    exact ev_pos h1 (ev_neg h2 (ev_now (by simp [this])))
  have : inR lo hi (l.length : Int) = true := inR_iff.2 ⟨h1, h2⟩
  rw [this, Bool.true_and]
  exact ev_pos h1 (ev_pos h2 (Ev.bind (specCards_ev l hl) (ev_now rfl)))
theorem class_eq {a b : Int} (ha : inR 0 51 a = true) (hb : inR 0 51 b = true) : ∃ c, spec_l07Class.f a b = some c ∧ impl_classOf.f a b = some c := by
  have ba := inR_iff.1 ha
  have bb := inR_iff.1 hb
  obtain ⟨a, rfl⟩ := Int.eq_ofNat_of_zero_le ba.1
  obtain ⟨b, rfl⟩ := Int.eq_ofNat_of_zero_le bb.1
  have e1 : wrap64 (Int.tdiv (a : Int) 4) = ((a / 4 : Nat) : Int) := by
    rw [show Int.tdiv (a : Int) 4 = ((a / 4 : Nat) : Int) from rfl]; exact w64 (by omega) (by omega)
  have e2 : wrap64 (Int.tdiv (b : Int) 4) = ((b / 4 : Nat) : Int) := by
    rw [show Int.tdiv (b : Int) 4 = ((b / 4 : Nat) : Int) from rfl]; exact w64 (by omega) (by omega)
  unfold spec_l07Class.f impl_classOf.f
  simp only [e1, e2, mx_max, mn_min]
  by_cases h : Int.tmod (a : Int) 4 = Int.tmod (b : Int) 4
  · simp only [if_pos h]; exact ⟨_, rfl, rfl⟩
  · simp only [if_neg h]
    by_cases h2 : max ((a / 4 : Nat) : Int) ((b / 4 : Nat) : Int) = min ((a / 4 : Nat) : Int) ((b / 4 : Nat) : Int)
    · simp only [if_pos h2]; exact ⟨_, rfl, by rw [h2]⟩
    · simp only [if_neg h2]; exact ⟨_, rfl, rfl⟩
theorem classOf_ev (l : List Int) (hl : l.length ≤ 1000000000000) : ∃ r, Ev (fun k => spec_ClassOf.f k l) r ∧ Ev (fun k => impl_ClassOf.f k l) r := by
  unfold spec_ClassOf.f impl_ClassOf.f
  by_cases h2 : l.length = 2
  · have hi : inR 2 2 (l.length : Int) = true := inR_iff.2 ⟨by omega, by omega⟩
    have hs := sized_ev l 2 2 hl
    rw [hi, Bool.true_and] at hs
    by_cases hc : cardsB [] l = true
    · obtain ⟨a, b, rfl⟩ : ∃ a b, l = [a, b] := by
        match l, h2 with
        | [a, b], _ => exact ⟨a, b, rfl⟩
      simp only [cardsB, Bool.and_eq_true] at hc
      obtain ⟨c, e1, e2⟩ := class_eq hc.1 hc.2.2.1
      have hc' : cardsB [] [a, b] = true := by simp only [cardsB, Bool.and_eq_true]; exact hc
      refine ⟨(c, 0), ?_, ?_⟩
      · refine Ev.bind hs (ev_pos hc' (ev_pos (by simp) (ev_pos (by simp) (ev_bindc ?_ (ev_now rfl)))))
        exact e1
      · refine ev_pos (by simp) (Ev.bind (implCards_ev _ hl) (ev_pos hc' (ev_pos (by simp) (ev_pos (by simp) (ev_bindc ?_ (ev_now rfl))))))
        exact e2
    · refine ⟨(0, 1), Ev.bind hs (ev_neg hc (ev_now rfl)), ?_⟩
      exact ev_pos (by omega) (Ev.bind (implCards_ev _ hl) (ev_neg hc (ev_now rfl)))
  · have hi : inR 2 2 (l.length : Int) = false := by simp only [inR, decide_eq_false_iff_not]; omega
    have hs := sized_ev l 2 2 hl
    rw [hi, Bool.false_and] at hs
    exact ⟨(0, 1), Ev.bind hs (ev_neg (by simp) (ev_now rfl)), ev_neg (by omega) (ev_now rfl)⟩
end LFnExactClassOf
open LFnExactClassOf
theorem FnExactClassOf : laws_FnExactClassOf.Pure := by
  intro l _ _ _
  refine Ev.rounds (g := fun k => laws_FnExactClassOf.f k l) ?_
  unfold laws_FnExactClassOf.f
  by_cases hb : (l.length : Int) > 1048576
  · exact ev_pos hb (ev_now rfl)
  have hl : l.length ≤ 1048576 := by omega
  refine ev_neg hb ?_
  obtain ⟨r, h1, h2⟩ := classOf_ev l (by omega)
  refine Ev.bind (toInt64S_ev l (by omega)) (Ev.bind h1 (Ev.bind (toInt64S_ev l (by omega)) (Ev.bind h2 (ev_pos rfl (Ev.step (fun k => laws_FnExactClassOf.j0.eq_2 _ _ _ k) (ev_neg (by simp) ?_))))))
  refine Ev.bind (toInt64S_ev l (by omega)) (Ev.bind (eqInt64S_ev rfl (by omega)) ?_)
  exact ev_pos rfl (ev_now rfl)
end Go.Proofs.Ytfhicidkhjcjlaa.Pure
