/- For every class the program's IsSuited returns what the reference's returns. No conditions. -/
import Derived.Test.YtfhicidkhjcjlaaPFnExactIsSuitedx1
import Derived.Test.YtfhicidkhjcjlaaEv
namespace Go.Proofs.Ytfhicidkhjcjlaa.Pure
open Go.RowKit Go.Proofs.Ytfhicidkhjcjlaa.PFnExactIsSuited Go.Proofs.YtfhicidkhjcjlaaW.PrintWords Go.Proofs.YtfhicidkhjcjlaaW.PrintLast Go.Proofs.YtfhicidkhjcjlaaW.PrintMore Go.Proofs.Ytfhicidkhjcjlaa.EvBase
set_option linter.unusedVariables false
set_option linter.unusedSimpArgs false
namespace LFnExactIsSuited
theorem l01In_eq (a lo hi : Int) : spec_l01In.f a lo hi = some (inR lo hi a) := by
  unfold spec_l01In.f inR
  by_cases h : a ≥ lo
  · rw [if_pos h]; simp [h]
  · rw [if_neg h]; simp; omega
theorem within_eq (a lo hi : Int) : impl_within.f a lo hi = some (inR lo hi a) := by
  unfold impl_within.f inR
  by_cases h : a ≥ lo
  · rw [if_pos h]; simp [h]
  · rw [if_neg h]; simp; omega
end LFnExactIsSuited
open LFnExactIsSuited
theorem FnExactIsSuited : laws_FnExactIsSuited.Pure := by
  intro a w
  unfold laws_FnExactIsSuited.f spec_IsSuited.f impl_IsSuited.f spec_l07Is.f impl_isClass.f
  rw [l01In_eq, within_eq]
  simp only [Option.bind_some]
  by_cases h : inR 0 168 a = true <;> simp [h]
end Go.Proofs.Ytfhicidkhjcjlaa.Pure
