/- For every table and stacks the program's NextTable returns what the reference's returns, leaves its arguments alone, and its result is memory of its own. No conditions. -/
import Derived.Test.YtdagljakajpdjaaRows
import Derived.Test.YtdagljakajpdjaaZFnExactNextTablex7
import Derived.Test.YtdagljakajpdjaaZFnExactNextTablePure
import Derived.Test.YtdagljakajpdjaaZFnExactNextTableOpen
import Derived.WalkKit
import Derived.ProofKit
import Derived.OpenShut
import Derived.ShutString
import Derived.ChangeOld
import Derived.Below
import Derived.SizedLaws
namespace Go.Proofs.Ytdagljakajpdjaa.fnExactNextTable
open Go.ChangeShapes Go.WideShapes Go.ChangeAt Go.RowKit
set_option linter.unusedVariables false
theorem own : ownKnob Try.prog.godebug = none := by kernel_rfl
theorem laidOut : laidOutB Try.prog = true := by kernel_rfl
set_option maxRecDepth 100000 in
theorem lifted (os : Os) (started : os.Started) (H : Type) (enc : TypeId × Value → H) :
    ReturnsInHanded {} Try.checked os 10 .any (Rows.fnExactNextTableSpec.pre6 enc Try.prog Try.f10 Rows.fnExactNextTableRow.domain false) (Rows.fnExactNextTableSpec.post enc Try.prog Try.f10 false true false false) := by
  refine returnsInHanded_of_change_sized (C := Try.checked) own started (by kernel_rfl) Try.func10
    (ChangeSpec.witness6 (enc := enc) (C := Try.checked) false ⟨#[], #[.agg #[.slice none 0 0, .int .i64 0, .int .i64 0, .int .i64 0, .int .i64 0, .int .i64 0], .slice none 0 0], []⟩ 8 (by kernel_rfl) (by kernel_rfl) (by kernel_rfl) (by kernel_rfl)) ?_
  intro W base args ds gs before hval0 hW hcnd hsz0 _
  have hval : ∀ (j : Nat) t v, Try.f10.params[j]? = some t → args[j]? = some v → Value.okWide Try.prog W .any base t v := hval0
  have hW' := hW
  obtain ⟨p, q, hA0, hV, rfl, hfz, hnd⟩ := hW
  have hA : DataW.TrodAll enc Try.prog W 0 (fun _ => true) true Try.f10.params.toList args.toList ds p := hA0
  rw [Try.params10] at hA hval
  obtain ⟨v0, vs0, d0, ds0, p0, q0, hargs0, rfl, rfl, h0, r0⟩ := trodAll_cons hA
  obtain ⟨v1, vs1, d1, ds1, p1, q1, hargs1, rfl, rfl, h1, r1⟩ := trodAll_cons r0
  obtain ⟨hlast, rfl, rfl⟩ := trodAll_nil r1
  subst hlast
  subst hargs1
  obtain rfl : args = #[v0, v1] := by cases args; simp_all
  obtain ⟨rfl, rfl⟩ := trodVars_none hV
  have k0 := h0
  have lt0 : ∀ x ∈ p0, x.block < W.heap.size := by obtain ⟨m, hm⟩ := k0; exact DataW.trod_lt m _ _ _ hm
  obtain ⟨v0_0, v0_1, v0_2, v0_3, v0_4, v0_5, n0, rfl, g0_0, g0_1, g0_2, g0_3, g0_4, g0_5⟩ := Opened.open_fields6 Try.underlying24 (by kernel_rfl) (by kernel_rfl) (hval 0 24 v0 rfl rfl) h0
  obtain ⟨A0_0, c0_0, l0_0, rfl, hr0_0, hc0_0, hm0_0, w0_0⟩ := Opened.field_ints Try.underlying22 Try.underlying2 (by kernel_rfl) g0_0
  obtain ⟨a0_1, rfl, w0_1⟩ := Opened.field_int Try.underlying2 g0_1
  obtain ⟨a0_2, rfl, w0_2⟩ := Opened.field_int Try.underlying2 g0_2
  obtain ⟨a0_3, rfl, w0_3⟩ := Opened.field_int Try.underlying2 g0_3
  obtain ⟨a0_4, rfl, w0_4⟩ := Opened.field_int Try.underlying2 g0_4
  obtain ⟨a0_5, rfl, w0_5⟩ := Opened.field_int Try.underlying2 g0_5
  have k1 := h1
  have lt1 : ∀ x ∈ p1, x.block < W.heap.size := by obtain ⟨m, hm⟩ := k1; exact DataW.trod_lt m _ _ _ hm
  obtain ⟨a1_, len1_, cap1_, rfl⟩ := okWide_slice Try.underlying22 (hval 1 22 v1 rfl rfl)
  obtain ⟨fuel1, hf1⟩ := h1
  obtain ⟨A1, c1, l1, e1, hr1, hc1, hm1, w1⟩ := Opened.field_ints Try.underlying22 Try.underlying2 (by kernel_rfl) ⟨_, by simpa [Value.cells] using hf1⟩
  cases e1
  clear hA0 hval0 hsz0
  obtain ⟨k, hp⟩ := Pure.FnExactNextTable l0_0 a0_1 a0_2 a0_3 a0_4 a0_5 l1 hm0_0 w0_0 w0_1 w0_2 w0_3 w0_4 w0_5 hm1 w1
  refine (QFnExactNextTable.laws_FnExactNextTable.calls k A0_0 c0_0 l0_0 a0_1 a0_2 a0_3 a0_4 a0_5 a1_ cap1_ l1 true W hr0_0 hc0_0 hr1 hc1 hp).mono fun e W' ⟨he, bel⟩ => ?_
  subst he
  exact ⟨_, rfl, _, _, _, [], _, [], hW', trodAll_mk1 (shut_bool Try.underlying4 _), (trodAll_cons_mk (Below.trod laidOut (by kernel_rfl) (of_decide_eq_true (by kernel_rfl)) k0 bel lt0) (trodAll_cons_mk (Below.trod laidOut (by kernel_rfl) (of_decide_eq_true (by kernel_rfl)) k1 bel lt1) trodAll_mk0)), rfl, bel.frame _, fun h => by cases h⟩
theorem over : Rows.fnExactNextTableRow.holds Try.pinned (OpenSpec.ofChange Rows.fnExactNextTableSpec) :=
  OpenClaim.holds_of_wide 10 Try.f10 rfl rfl rfl rfl rfl rfl rfl ⟨rfl, rfl, rfl, rfl, rfl⟩ rfl rfl rfl rfl rfl (by kernel_rfl) Try.func10 (by kernel_rfl)
    (of_decide_eq_true (by kernel_rfl)) (by unfold Func.isWrapper; first | (rw [if_pos (by decide +kernel)]; kernel_rfl) | (rw [if_neg (by decide +kernel)]; exact ⟨rfl, rfl⟩))
    (fun os started H enc _ => lifted os started H enc)
theorem proved : Rows.FnExactNextTableSaid := over
#print axioms proved
end Go.Proofs.Ytdagljakajpdjaa.fnExactNextTable
namespace Go.Proofs.Ytdagljakajpdjaa
theorem fnExactNextTable_holds : Rows.FnExactNextTableSaid := fnExactNextTable.proved
end Go.Proofs.Ytdagljakajpdjaa
