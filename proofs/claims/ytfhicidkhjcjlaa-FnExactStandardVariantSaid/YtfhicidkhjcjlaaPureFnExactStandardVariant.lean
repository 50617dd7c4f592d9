/- For every number the program's StandardVariant returns what the reference's returns. No conditions. -/
import Derived.Test.YtfhicidkhjcjlaaPFnExactStandardVariantx1
import Derived.Test.YtfhicidkhjcjlaaEv
namespace Go.Proofs.Ytfhicidkhjcjlaa.Pure
open Go.RowKit Go.Proofs.Ytfhicidkhjcjlaa.PFnExactStandardVariant Go.Proofs.YtfhicidkhjcjlaaW.PrintWords Go.Proofs.YtfhicidkhjcjlaaW.PrintLast Go.Proofs.YtfhicidkhjcjlaaW.PrintMore Go.Proofs.Ytfhicidkhjcjlaa.EvBase
set_option linter.unusedVariables false
set_option linter.unusedSimpArgs false
namespace LFnExactStandardVariant
theorem l01In_eq (a lo hi : Int) : spec_l01In.f a lo hi = some (inR lo hi a) := by
  unfold spec_l01In.f inR
  by_cases h : a ≥ lo
  · rw [if_pos h]; simp [h]
  · rw [if_neg h]; simp; omega
theorem within_eq (a lo hi : Int) : impl_within.f a lo hi = some (inR lo hi a) := by
  unfold impl_within.f inR
  by_cases h : a ≥ lo
  · rw [if_pos h]; simp [h]
  · rw [if_neg h]; simp; omega
end LFnExactStandardVariant
open LFnExactStandardVariant
theorem FnExactStandardVariant : laws_FnExactStandardVariant.Pure := by
  intro a w
  unfold laws_FnExactStandardVariant.f spec_StandardVariant.f impl_StandardVariant.f spec_l06Standard.f
  simp only [Option.bind_some, l01In_eq, within_eq]
  have e7 : wrap64 ((([(⟨2, 0, 2, 5, true, 0⟩ : S28), (⟨4, 2, 2, 5, true, 0⟩ : S28), (⟨4, 2, 2, 5, true, 1⟩ : S28), (⟨7, 5, 5, 0, true, 0⟩ : S28), (⟨7, 5, 5, 0, true, 1⟩ : S28), (⟨7, 5, 5, 0, false, 2⟩ : S28), (⟨5, 5, 5, 0, true, 0⟩ : S28), (⟨5, 5, 5, 0, false, 3⟩ : S28)] : List S28).length : Int) - 1) = 7 := (w64 (by decide) (by decide)).trans rfl
  simp only [e7]
  by_cases h : inR 0 7 a = true
  rotate_left
  · simp only [Bool.not_eq_true] at h; simp [h, laws_eqVariant.f]
  have b := inR_iff.1 h
  have ha : a = 0 ∨ a = 1 ∨ a = 2 ∨ a = 3 ∨ a = 4 ∨ a = 5 ∨ a = 6 ∨ a = 7 := by omega
  rcases ha with rfl | rfl | rfl | rfl | rfl | rfl | rfl | rfl <;> decide
end Go.Proofs.Ytfhicidkhjcjlaa.Pure
