/- For every betting round the program's Contributions returns what the reference's returns, leaves its argument alone, and its result is memory of its own. No conditions. -/
import Derived.Test.YtmcobmphmmgdmaaRows
import Derived.Test.YtmcobmphmmgdmaaZFnExactContributionsx7
import Derived.Test.YtmcobmphmmgdmaaZFnExactContributionsPure
import Derived.Test.YtmcobmphmmgdmaaZFnExactContributionsOpen
import Derived.WalkKit
import Derived.ProofKit
import Derived.OpenShut
import Derived.ShutString
import Derived.ChangeOld
import Derived.Below
import Derived.SizedLaws
namespace Go.Proofs.Ytmcobmphmmgdmaa.fnExactContributions
open Go.ChangeShapes Go.WideShapes Go.ChangeAt Go.RowKit
set_option linter.unusedVariables false
theorem own : ownKnob Try.prog.godebug = none := by kernel_rfl
theorem laidOut : laidOutB Try.prog = true := by kernel_rfl
set_option maxRecDepth 100000 in
theorem lifted (os : Os) (started : os.Started) (H : Type) (enc : TypeId × Value → H) :
    ReturnsInHanded {} Try.checked os 9 .any (Rows.fnExactContributionsSpec.pre6 enc Try.prog Try.f9 Rows.fnExactContributionsRow.domain false) (Rows.fnExactContributionsSpec.post enc Try.prog Try.f9 false true false false) := by
  refine returnsInHanded_of_change_sized (C := Try.checked) own started (by kernel_rfl) Try.func9
    (ChangeSpec.witness6 (enc := enc) (C := Try.checked) false ⟨#[], #[.agg #[.slice none 0 0, .slice none 0 0, .slice none 0 0, .slice none 0 0, .slice none 0 0, .int .i64 0, .int .i64 0, .int .i64 0, .int .i64 0]], []⟩ 8 (by kernel_rfl) (by kernel_rfl) (by kernel_rfl) (by kernel_rfl)) ?_
  intro W base args ds gs before hval0 hW hcnd hsz0 _
  have hval : ∀ (j : Nat) t v, Try.f9.params[j]? = some t → args[j]? = some v → Value.okWide Try.prog W .any base t v := hval0
  have hW' := hW
  obtain ⟨p, q, hA0, hV, rfl, hfz, hnd⟩ := hW
  have hA : DataW.TrodAll enc Try.prog W 0 (fun _ => true) true Try.f9.params.toList args.toList ds p := hA0
  rw [Try.params9] at hA hval
  obtain ⟨v0, vs0, d0, ds0, p0, q0, hargs0, rfl, rfl, h0, r0⟩ := trodAll_cons hA
  obtain ⟨hlast, rfl, rfl⟩ := trodAll_nil r0
  subst hlast
  obtain rfl : args = #[v0] := by cases args; simp_all
  obtain ⟨rfl, rfl⟩ := trodVars_none hV
  have k0 := h0
  have lt0 : ∀ x ∈ p0, x.block < W.heap.size := by obtain ⟨m, hm⟩ := k0; exact DataW.trod_lt m _ _ _ hm
  obtain ⟨v0_0, v0_1, v0_2, v0_3, v0_4, v0_5, v0_6, v0_7, v0_8, n0, rfl, g0_0, g0_1, g0_2, g0_3, g0_4, g0_5, g0_6, g0_7, g0_8⟩ := Opened.open_fields9 Try.underlying25 (by kernel_rfl) (by kernel_rfl) (hval 0 25 v0 rfl rfl) h0
  obtain ⟨A0_0, c0_0, l0_0, rfl, hr0_0, hc0_0, hm0_0, w0_0⟩ := Opened.field_ints Try.underlying22 Try.underlying2 (by kernel_rfl) g0_0
  obtain ⟨A0_1, c0_1, l0_1, rfl, hr0_1, hc0_1, hm0_1, w0_1⟩ := Opened.field_ints Try.underlying22 Try.underlying2 (by kernel_rfl) g0_1
  obtain ⟨A0_2, c0_2, l0_2, rfl, hr0_2, hc0_2, hm0_2, w0_2⟩ := Opened.field_ints Try.underlying22 Try.underlying2 (by kernel_rfl) g0_2
  obtain ⟨A0_3, c0_3, l0_3, rfl, hr0_3, hc0_3, hm0_3⟩ := Opened.field_bools Try.underlying23 Try.underlying4 (by kernel_rfl) g0_3
  obtain ⟨A0_4, c0_4, l0_4, rfl, hr0_4, hc0_4, hm0_4⟩ := Opened.field_bools Try.underlying23 Try.underlying4 (by kernel_rfl) g0_4
  obtain ⟨a0_5, rfl, w0_5⟩ := Opened.field_int Try.underlying2 g0_5
  obtain ⟨a0_6, rfl, w0_6⟩ := Opened.field_int Try.underlying2 g0_6
  obtain ⟨a0_7, rfl, w0_7⟩ := Opened.field_int Try.underlying2 g0_7
  obtain ⟨a0_8, rfl, w0_8⟩ := Opened.field_int Try.underlying2 g0_8
  clear hA0 hval0 hsz0
  obtain ⟨k, hp⟩ := Pure.FnExactContributions l0_0 l0_1 l0_2 l0_3 l0_4 a0_5 a0_6 a0_7 a0_8 hm0_0 w0_0 hm0_1 w0_1 hm0_2 w0_2 hm0_3 hm0_4 w0_5 w0_6 w0_7 w0_8
  refine (QFnExactContributions.laws_FnExactContributions.calls k A0_0 c0_0 l0_0 A0_1 c0_1 l0_1 A0_2 c0_2 l0_2 A0_3 c0_3 l0_3 A0_4 c0_4 l0_4 a0_5 a0_6 a0_7 a0_8 true W hr0_0 hc0_0 hr0_1 hc0_1 hr0_2 hc0_2 hr0_3 hc0_3 hr0_4 hc0_4 hp).mono fun e W' ⟨he, bel⟩ => ?_
  subst he
  exact ⟨_, rfl, _, _, _, [], _, [], hW', trodAll_mk1 (shut_bool Try.underlying4 _), (trodAll_cons_mk (Below.trod laidOut (by kernel_rfl) (of_decide_eq_true (by kernel_rfl)) k0 bel lt0) trodAll_mk0), rfl, bel.frame _, fun h => by cases h⟩
theorem over : Rows.fnExactContributionsRow.holds Try.pinned (OpenSpec.ofChange Rows.fnExactContributionsSpec) :=
  OpenClaim.holds_of_wide 9 Try.f9 rfl rfl rfl rfl rfl rfl rfl ⟨rfl, rfl, rfl, rfl, rfl⟩ rfl rfl rfl rfl rfl (by kernel_rfl) Try.func9 (by kernel_rfl)
    (of_decide_eq_true (by kernel_rfl)) (by unfold Func.isWrapper; first | (rw [if_pos (by decide +kernel)]; kernel_rfl) | (rw [if_neg (by decide +kernel)]; exact ⟨rfl, rfl⟩))
    (fun os started H enc _ => lifted os started H enc)
theorem proved : Rows.FnExactContributionsSaid := over
#print axioms proved
end Go.Proofs.Ytmcobmphmmgdmaa.fnExactContributions
namespace Go.Proofs.Ytmcobmphmmgdmaa
theorem fnExactContributions_holds : Rows.FnExactContributionsSaid := fnExactContributions.proved
end Go.Proofs.Ytmcobmphmmgdmaa
