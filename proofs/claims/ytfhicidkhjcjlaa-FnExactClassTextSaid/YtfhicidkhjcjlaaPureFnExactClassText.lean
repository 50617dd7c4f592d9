/- For every class the program's ClassText returns what the reference's returns. No conditions. -/
import Derived.Test.YtfhicidkhjcjlaaPFnExactClassTextx2
import Derived.Test.YtfhicidkhjcjlaaEv
namespace Go.Proofs.Ytfhicidkhjcjlaa.Pure
open Go.RowKit Go.Proofs.Ytfhicidkhjcjlaa.PFnExactClassText Go.Proofs.YtfhicidkhjcjlaaW.PrintWords Go.Proofs.YtfhicidkhjcjlaaW.PrintLast Go.Proofs.YtfhicidkhjcjlaaW.PrintMore Go.Proofs.Ytfhicidkhjcjlaa.EvBase
set_option linter.unusedVariables false
set_option linter.unusedSimpArgs false
namespace LFnExactClassText
theorem l01In_eq (a lo hi : Int) : spec_l01In.f a lo hi = some (inR lo hi a) := by
  unfold spec_l01In.f inR
  by_cases h : a ≥ lo
  · rw [if_pos h]; simp [h]
  · rw [if_neg h]; simp; omega
theorem within_eq (a lo hi : Int) : impl_within.f a lo hi = some (inR lo hi a) := by
  unfold impl_within.f inR
  by_cases h : a ≥ lo
  · rw [if_pos h]; simp [h]
  · rw [if_neg h]; simp; omega
theorem text_at : ∀ c : Nat, c < 169 → (spec_l07Text.f (c : Int)).map ByteArray.toList = (impl_classText.f (c : Int)).map ByteArray.toList ∧ (spec_l07Text.f (c : Int)).isSome = true := by decide +kernel
end LFnExactClassText
open LFnExactClassText
theorem FnExactClassText : laws_FnExactClassText.Pure := by
  intro a w
  unfold laws_FnExactClassText.f spec_ClassText.f impl_ClassText.f spec_l07Is.f impl_isClass.f
  simp only [Option.bind_some, l01In_eq, within_eq]
  by_cases h : inR 0 168 a = true
  rotate_left
  · simp only [Bool.not_eq_true] at h; simp [h]
  have b := inR_iff.1 h
  obtain ⟨c, rfl⟩ := Int.eq_ofNat_of_zero_le b.1
  obtain ⟨h1, h2⟩ := text_at c (by omega)
  obtain ⟨x, hx⟩ := Option.isSome_iff_exists.1 h2
  rw [hx] at h1
  cases hy : impl_classText.f (c : Int) with
  | none => rw [hy] at h1; simp at h1
  | some y =>
    rw [hy] at h1
    simp only [Option.map_some, Option.some.injEq] at h1
    simp [h, hx, h1]
end Go.Proofs.Ytfhicidkhjcjlaa.Pure
