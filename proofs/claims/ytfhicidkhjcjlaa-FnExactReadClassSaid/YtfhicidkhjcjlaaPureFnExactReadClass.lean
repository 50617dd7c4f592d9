/- For every string the program's ReadClass returns what the reference's returns. No conditions. -/
import Derived.Test.YtfhicidkhjcjlaaPFnExactReadClassx2
import Derived.Test.YtfhicidkhjcjlaaEv
namespace Go.Proofs.Ytfhicidkhjcjlaa.Pure
open Go.RowKit Go.Proofs.Ytfhicidkhjcjlaa.PFnExactReadClass Go.Proofs.YtfhicidkhjcjlaaW.PrintWords Go.Proofs.YtfhicidkhjcjlaaW.PrintLast Go.Proofs.YtfhicidkhjcjlaaW.PrintMore Go.Proofs.Ytfhicidkhjcjlaa.EvBase
set_option linter.unusedVariables false
set_option linter.unusedSimpArgs false
namespace LFnExactReadClass
theorem text_at : ∀ c : Nat, c < 169 → (spec_l07Text.f (c : Int)).map ByteArray.toList = (impl_classText.f (c : Int)).map ByteArray.toList ∧ (spec_l07Text.f (c : Int)).isSome = true := by decide +kernel
theorem text_both (c : Nat) (hc : c < 169) : ∃ x y, spec_l07Text.f (c : Int) = some x ∧ impl_classText.f (c : Int) = some y ∧ y.toList = x.toList := by
  obtain ⟨h1, h2⟩ := text_at c hc
  obtain ⟨x, hx⟩ := Option.isSome_iff_exists.1 h2
  rw [hx] at h1
  cases hy : impl_classText.f (c : Int) with
  | none => rw [hy] at h1; simp at h1
  | some y =>
    rw [hy] at h1
    simp only [Option.map_some, Option.some.injEq] at h1
    exact ⟨x, y, hx, rfl, h1.symm⟩
theorem read_both (s : ByteArray) : ∀ (d c : Nat), c + d = 169 → ∃ r : Int, Ev (fun k => spec_l07Read.l0 k s (c : Int)) r ∧ Ev (fun k => impl_ReadClass.l0 k s (c : Int)) (if r < 0 then (0, 6) else (r, 0))
  | 0, c, h => by
    refine ⟨-1, ?_, ?_⟩
    · exact Ev.step (fun k => spec_l07Read.l0.eq_2 _ _ k) (ev_neg (by omega) (ev_now rfl))
    · exact Ev.step (fun k => impl_ReadClass.l0.eq_2 _ _ k) (ev_neg (by omega) (ev_now rfl))
  | d + 1, c, h => by
    obtain ⟨x, y, hx, hy, e⟩ := text_both c (by omega)
    by_cases ht : x.toList = s.toList
    · refine ⟨(c : Int), ?_, ?_⟩
      · exact Ev.step (fun k => spec_l07Read.l0.eq_2 _ _ k) (ev_pos (by omega) (ev_bindc hx (ev_pos ht (ev_now rfl))))
      · rw [if_neg (by omega)]
        exact Ev.step (fun k => impl_ReadClass.l0.eq_2 _ _ k) (ev_pos (by omega) (ev_bindc hy (ev_pos (e.trans ht) (ev_now rfl))))
    · obtain ⟨r, h1, h2⟩ := read_both s d (c + 1) (by omega)
      have ew : wrap64 ((c : Int) + 1) = ((c + 1 : Nat) : Int) := by rw [w64 (by omega) (by omega)]; simp
      refine ⟨r, ?_, ?_⟩
      · refine Ev.step (fun k => spec_l07Read.l0.eq_2 _ _ k) (ev_pos (by omega) (ev_bindc hx (ev_neg ht ?_)))
        rw [ew]; exact h1
      · refine Ev.step (fun k => impl_ReadClass.l0.eq_2 _ _ k) (ev_pos (by omega) (ev_bindc hy (ev_neg (fun h => ht (e.symm.trans h)) ?_)))
        rw [ew]; exact h2
end LFnExactReadClass
open LFnExactReadClass
theorem FnExactReadClass : laws_FnExactReadClass.Pure := by
  intro s _
  refine Ev.rounds (g := fun k => laws_FnExactReadClass.f k s) ?_
  unfold laws_FnExactReadClass.f
  by_cases hb : (s.size : Int) > 1048576
  · exact ev_pos hb (ev_now rfl)
  refine ev_neg hb ?_
  obtain ⟨r, h1, h2⟩ := read_both s 169 0 rfl
  have hs : Ev (fun k => spec_ReadClass.f k s) (if r < 0 then (0, 6) else (r, 0)) := by
    unfold spec_ReadClass.f spec_l07Read.f
    refine Ev.bind h1 ?_
    by_cases hr : r < 0
    · simp only [if_pos hr]; exact ev_now rfl
    · simp only [if_neg hr]; exact ev_now rfl
  have hi : Ev (fun k => impl_ReadClass.f k s) (if r < 0 then (0, 6) else (r, 0)) := by
    unfold impl_ReadClass.f; exact h2
  exact Ev.bind hs (Ev.bind hi (ev_pos rfl (ev_pos rfl (ev_now rfl))))
end Go.Proofs.Ytfhicidkhjcjlaa.Pure
