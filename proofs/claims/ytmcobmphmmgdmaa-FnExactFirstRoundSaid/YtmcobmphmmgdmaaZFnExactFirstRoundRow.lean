/- For every table the program's FirstRound returns what the reference's returns, leaves its argument alone, and its result is memory of its own. No conditions. -/
import Derived.Test.YtmcobmphmmgdmaaRows
import Derived.Test.YtmcobmphmmgdmaaZFnExactFirstRoundx14
import Derived.Test.YtmcobmphmmgdmaaZFnExactFirstRoundPure
import Derived.Test.YtmcobmphmmgdmaaZFnExactFirstRoundOpen
import Derived.WalkKit
import Derived.ProofKit
import Derived.OpenShut
import Derived.ShutString
import Derived.ChangeOld
import Derived.Below
import Derived.SizedLaws
namespace Go.Proofs.Ytmcobmphmmgdmaa.fnExactFirstRound
open Go.ChangeShapes Go.WideShapes Go.ChangeAt Go.RowKit
set_option linter.unusedVariables false
theorem own : ownKnob Try.prog.godebug = none := by kernel_rfl
theorem laidOut : laidOutB Try.prog = true := by kernel_rfl
set_option maxRecDepth 100000 in
theorem lifted (os : Os) (started : os.Started) (H : Type) (enc : TypeId × Value → H) :
    ReturnsInHanded {} Try.checked os 14 .any (Rows.fnExactFirstRoundSpec.pre6 enc Try.prog Try.f14 Rows.fnExactFirstRoundRow.domain false) (Rows.fnExactFirstRoundSpec.post enc Try.prog Try.f14 false true false false) := by
  refine returnsInHanded_of_change_sized (C := Try.checked) own started (by kernel_rfl) Try.func14
    (ChangeSpec.witness6 (enc := enc) (C := Try.checked) false ⟨#[], #[.agg #[.slice none 0 0, .int .i64 0, .int .i64 0, .int .i64 0, .int .i64 0, .int .i64 0]], []⟩ 8 (by kernel_rfl) (by kernel_rfl) (by kernel_rfl) (by kernel_rfl)) ?_
  intro W base args ds gs before hval0 hW hcnd hsz0 _
  have hval : ∀ (j : Nat) t v, Try.f14.params[j]? = some t → args[j]? = some v → Value.okWide Try.prog W .any base t v := hval0
  have hW' := hW
  obtain ⟨p, q, hA0, hV, rfl, hfz, hnd⟩ := hW
  have hA : DataW.TrodAll enc Try.prog W 0 (fun _ => true) true Try.f14.params.toList args.toList ds p := hA0
  rw [Try.params14] at hA hval
  obtain ⟨v0, vs0, d0, ds0, p0, q0, hargs0, rfl, rfl, h0, r0⟩ := trodAll_cons hA
  obtain ⟨hlast, rfl, rfl⟩ := trodAll_nil r0
  subst hlast
  obtain rfl : args = #[v0] := by cases args; simp_all
  obtain ⟨rfl, rfl⟩ := trodVars_none hV
  have k0 := h0
  have lt0 : ∀ x ∈ p0, x.block < W.heap.size := by obtain ⟨m, hm⟩ := k0; exact DataW.trod_lt m _ _ _ hm
  obtain ⟨v0_0, v0_1, v0_2, v0_3, v0_4, v0_5, n0, rfl, g0_0, g0_1, g0_2, g0_3, g0_4, g0_5⟩ := Opened.open_fields6 Try.underlying55 (by kernel_rfl) (by kernel_rfl) (hval 0 55 v0 rfl rfl) h0
  obtain ⟨A0_0, c0_0, l0_0, rfl, hr0_0, hc0_0, hm0_0, w0_0⟩ := Opened.field_ints Try.underlying22 Try.underlying2 (by kernel_rfl) g0_0
  obtain ⟨a0_1, rfl, w0_1⟩ := Opened.field_int Try.underlying2 g0_1
  obtain ⟨a0_2, rfl, w0_2⟩ := Opened.field_int Try.underlying2 g0_2
  obtain ⟨a0_3, rfl, w0_3⟩ := Opened.field_int Try.underlying2 g0_3
  obtain ⟨a0_4, rfl, w0_4⟩ := Opened.field_int Try.underlying2 g0_4
  obtain ⟨a0_5, rfl, w0_5⟩ := Opened.field_int Try.underlying2 g0_5
  clear hA0 hval0 hsz0
  obtain ⟨k, hp⟩ := Pure.FnExactFirstRound l0_0 a0_1 a0_2 a0_3 a0_4 a0_5 hm0_0 w0_0 w0_1 w0_2 w0_3 w0_4 w0_5
  refine (QFnExactFirstRound.laws_FnExactFirstRound.calls k A0_0 c0_0 l0_0 a0_1 a0_2 a0_3 a0_4 a0_5 true W hr0_0 hc0_0 hp).mono fun e W' ⟨he, bel⟩ => ?_
  subst he
  exact ⟨_, rfl, _, _, _, [], _, [], hW', trodAll_mk1 (shut_bool Try.underlying4 _), (trodAll_cons_mk (Below.trod laidOut (by kernel_rfl) (of_decide_eq_true (by kernel_rfl)) k0 bel lt0) trodAll_mk0), rfl, bel.frame _, fun h => by cases h⟩
theorem over : Rows.fnExactFirstRoundRow.holds Try.pinned (OpenSpec.ofChange Rows.fnExactFirstRoundSpec) :=
  OpenClaim.holds_of_wide 14 Try.f14 rfl rfl rfl rfl rfl rfl rfl ⟨rfl, rfl, rfl, rfl, rfl⟩ rfl rfl rfl rfl rfl (by kernel_rfl) Try.func14 (by kernel_rfl)
    (of_decide_eq_true (by kernel_rfl)) (by unfold Func.isWrapper; first | (rw [if_pos (by decide +kernel)]; kernel_rfl) | (rw [if_neg (by decide +kernel)]; exact ⟨rfl, rfl⟩))
    (fun os started H enc _ => lifted os started H enc)
theorem proved : Rows.FnExactFirstRoundSaid := over
#print axioms proved
end Go.Proofs.Ytmcobmphmmgdmaa.fnExactFirstRound
namespace Go.Proofs.Ytmcobmphmmgdmaa
theorem fnExactFirstRound_holds : Rows.FnExactFirstRoundSaid := fnExactFirstRound.proved
end Go.Proofs.Ytmcobmphmmgdmaa
