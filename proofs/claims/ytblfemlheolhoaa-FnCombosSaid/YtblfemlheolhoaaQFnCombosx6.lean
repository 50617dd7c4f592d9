import Derived.Test.YtblfemlheolhoaaQFnCombosx0
import Derived.Test.YtblfemlheolhoaaQFnCombosx1
import Derived.Test.YtblfemlheolhoaaQFnCombosx2
import Derived.Test.YtblfemlheolhoaaQFnCombosx4
import Derived.Test.YtblfemlheolhoaaQFnCombosx5
namespace Go.Proofs.Ytblfemlheolhoaa.QFnCombos
open Go.RowKit Go.Proofs.YtblfemlheolhoaaW.PrintWords Go.Proofs.YtblfemlheolhoaaW.PrintLast Go.Proofs.YtblfemlheolhoaaW.PrintMore
attribute [local go_sem] max2_int min2_int max_two min_two max_three min_three max_four min_four   -- for this text's walks alone
set_option linter.unusedVariables false
set_option linter.unusedSimpArgs false

/-! ### laws_FnCombos: function 13 -/
mutual
def laws_FnCombos.j0 : Nat → Int → List Int → List (List Int) → Int → List (List Int) → Int → Bool → Bool → Bool → Option (Bool)
  | 0, _, _, _, _, _, _, _, _, _ => none
  | k + 1, x3, x4, x5, x6, x10, x11, x14, x15, x101 => if x101 = true then (some false) else (if x11 = 0 then (if x15 = true then (laws_FnCombos.j1 k x3 x4 x5 x6 x10 x14 6) else (laws_FnCombos.j1 k x3 x4 x5 x6 x10 x14 12)) else (laws_FnCombos.j2 k x3 x4 x5 x6))
def laws_FnCombos.j2 : Nat → Int → List Int → List (List Int) → Int → Option (Bool)
  | 0, _, _, _, _ => none
  | k + 1, x3, x4, x5, x6 => if x6 = 0 then (laws_FnCombos.l0 k x3 x4 x5 0) else (some true)
def laws_FnCombos.l0 : Nat → Int → List Int → List (List Int) → Int → Option (Bool)
  | 0, _, _, _, _ => none
  | k + 1, x3, x4, x5, x21 => if x21 < (x5.length : Int) then (if 0 ≤ x21 then (if 0 < ((rd_L2 x5 x21).length : Int) then ((laws_hasInt.f k x4 (rd (rd_L2 x5 x21) 0)).bind fun t318 => (if t318 = true then (some false) else (if 1 < ((rd_L2 x5 x21).length : Int) then ((laws_hasInt.f k x4 (rd (rd_L2 x5 x21) 1)).bind fun t321 => (if t321 = true then (some false) else (laws_FnCombos.l0 k x3 x4 x5 (wrap64 (x21 + 1))))) else (none)))) else (none)) else (none)) else ((impl_CombosOf.f k x3).bind fun bt312 => (if bt312.2 = 0 then (some (decide ((x5.length : Int) ≤ (bt312.1.length : Int)))) else (some false)))
def laws_FnCombos.j1 : Nat → Int → List Int → List (List Int) → Int → List (List Int) → Bool → Int → Option (Bool)
  | 0, _, _, _, _, _, _, _ => none
  | k + 1, x3, x4, x5, x6, x10, x14, x20 => if x14 = true then (if (x10.length : Int) = 4 then (laws_FnCombos.j2 k x3 x4 x5 x6) else (some false)) else (if (x10.length : Int) = x20 then (laws_FnCombos.j2 k x3 x4 x5 x6) else (some false))
end
def laws_FnCombos.f (k : Nat) (l0 : List Int) : Option (Bool) := (laws_big.f l0).bind fun t282 => (if t282 = true then (some true) else ((spec_DrawCombosWithout.f k l0).bind fun bt283 => ((impl_CombosWithout.f k bt283.1 bt283.2).bind fun bt287 => ((spec_CombosWithout.f k bt283.1 bt283.2).bind fun bt291 => ((spec_DrawCombosOf.f k l0).bind fun t295 => ((impl_CombosOf.f k t295).bind fun bt296 => ((spec_CombosOf.f k t295).bind fun bt300 => ((impl_IsSuited.f t295).bind fun bt304 => ((spec_IsSuited.f t295).bind fun bt307 => (if bt287.2 = bt291.2 then ((laws_likeLists.f k bt287.1 bt291.1).bind fun t310 => (if t310 = true then (if bt296.2 = bt300.2 then ((laws_likeLists.f k bt296.1 bt300.1).bind fun t311 => (if t311 = true then (if bt304.2.2 = bt307.2.2 then (if (bt304.1 != bt307.1) = true then (laws_FnCombos.j0 k bt283.1 bt283.2 bt287.1 bt287.2 bt296.1 bt296.2 bt304.1 bt304.2.1 true) else (laws_FnCombos.j0 k bt283.1 bt283.2 bt287.1 bt287.2 bt296.1 bt296.2 bt304.1 bt304.2.1 (bt304.2.1 != bt307.2.1))) else (laws_FnCombos.j0 k bt283.1 bt283.2 bt287.1 bt287.2 bt296.1 bt296.2 bt304.1 bt304.2.1 true)) else (laws_FnCombos.j0 k bt283.1 bt283.2 bt287.1 bt287.2 bt296.1 bt296.2 bt304.1 bt304.2.1 true))) else (laws_FnCombos.j0 k bt283.1 bt283.2 bt287.1 bt287.2 bt296.1 bt296.2 bt304.1 bt304.2.1 true)) else (laws_FnCombos.j0 k bt283.1 bt283.2 bt287.1 bt287.2 bt296.1 bt296.2 bt304.1 bt304.2.1 true))) else (laws_FnCombos.j0 k bt283.1 bt283.2 bt287.1 bt287.2 bt296.1 bt296.2 bt304.1 bt304.2.1 true)))))))))))
theorem laws_FnCombos.mono_l : ∀ k, (∀ y0 y1 y2 y3 y4 y5 y6 y7 y8, LeO (laws_FnCombos.j0 k y0 y1 y2 y3 y4 y5 y6 y7 y8) (laws_FnCombos.j0 (k + 1) y0 y1 y2 y3 y4 y5 y6 y7 y8)) ∧ (∀ y0 y1 y2 y3, LeO (laws_FnCombos.j2 k y0 y1 y2 y3) (laws_FnCombos.j2 (k + 1) y0 y1 y2 y3)) ∧ (∀ y0 y1 y2 y3, LeO (laws_FnCombos.l0 k y0 y1 y2 y3) (laws_FnCombos.l0 (k + 1) y0 y1 y2 y3)) ∧ (∀ y0 y1 y2 y3 y4 y5 y6, LeO (laws_FnCombos.j1 k y0 y1 y2 y3 y4 y5 y6) (laws_FnCombos.j1 (k + 1) y0 y1 y2 y3 y4 y5 y6))
  | 0 => ⟨fun _ _ _ _ _ _ _ _ _ r h => by simp [laws_FnCombos.j0] at h, fun _ _ _ _ r h => by simp [laws_FnCombos.j2] at h, fun _ _ _ _ r h => by simp [laws_FnCombos.l0] at h, fun _ _ _ _ _ _ _ r h => by simp [laws_FnCombos.j1] at h⟩
  | k + 1 => by
    obtain ⟨ih0, ih1, ih2, ih3⟩ := laws_FnCombos.mono_l k
    refine ⟨?_, ?_, ?_, ?_⟩
    · intro y0 y1 y2 y3 y4 y5 y6 y7 y8
      unfold laws_FnCombos.j0
      repeat' first
      | (with_reducible exact ih0 _ _ _ _ _ _ _ _ _)
      | (with_reducible exact ih1 _ _ _ _)
      | (with_reducible exact ih2 _ _ _ _)
      | (with_reducible exact ih3 _ _ _ _ _ _ _)
      | (with_reducible exact impl_CombosOf.mono _ _)
      | (with_reducible exact impl_CombosWithout.mono _ _ _)
      | (with_reducible exact laws_hasInt.mono _ _ _)
      | (with_reducible exact laws_likeLists.mono _ _ _)
      | (with_reducible exact spec_CombosOf.mono _ _)
      | (with_reducible exact spec_CombosWithout.mono _ _ _)
      | (with_reducible exact spec_DrawCombosOf.mono _ _)
      | (with_reducible exact spec_DrawCombosWithout.mono _ _)
      | (with_reducible exact LeO.refl _)
      | (with_reducible exact LeO.none _)
      | (with_reducible refine LeO.ite ?_ ?_)
      | (with_reducible refine LeO.bind ?_ (fun _ => ?_))
      | exact ih0 _ _ _ _ _ _ _ _ _
      | exact ih1 _ _ _ _
      | exact ih2 _ _ _ _
      | exact ih3 _ _ _ _ _ _ _
      | exact impl_CombosOf.mono _ _
      | exact impl_CombosWithout.mono _ _ _
      | exact laws_hasInt.mono _ _ _
      | exact laws_likeLists.mono _ _ _
      | exact spec_CombosOf.mono _ _
      | exact spec_CombosWithout.mono _ _ _
      | exact spec_DrawCombosOf.mono _ _
      | exact spec_DrawCombosWithout.mono _ _
      | exact LeO.none _
      | refine LeO.ite ?_ ?_
      | refine LeO.bind ?_ (fun _ => ?_)
    · intro y0 y1 y2 y3
      unfold laws_FnCombos.j2
      repeat' first
      | (with_reducible exact ih0 _ _ _ _ _ _ _ _ _)
      | (with_reducible exact ih1 _ _ _ _)
      | (with_reducible exact ih2 _ _ _ _)
      | (with_reducible exact ih3 _ _ _ _ _ _ _)
      | (with_reducible exact impl_CombosOf.mono _ _)
      | (with_reducible exact impl_CombosWithout.mono _ _ _)
      | (with_reducible exact laws_hasInt.mono _ _ _)
      | (with_reducible exact laws_likeLists.mono _ _ _)
      | (with_reducible exact spec_CombosOf.mono _ _)
      | (with_reducible exact spec_CombosWithout.mono _ _ _)
      | (with_reducible exact spec_DrawCombosOf.mono _ _)
      | (with_reducible exact spec_DrawCombosWithout.mono _ _)
      | (with_reducible exact LeO.refl _)
      | (with_reducible exact LeO.none _)
      | (with_reducible refine LeO.ite ?_ ?_)
      | (with_reducible refine LeO.bind ?_ (fun _ => ?_))
      | exact ih0 _ _ _ _ _ _ _ _ _
      | exact ih1 _ _ _ _
      | exact ih2 _ _ _ _
      | exact ih3 _ _ _ _ _ _ _
      | exact impl_CombosOf.mono _ _
      | exact impl_CombosWithout.mono _ _ _
      | exact laws_hasInt.mono _ _ _
      | exact laws_likeLists.mono _ _ _
      | exact spec_CombosOf.mono _ _
      | exact spec_CombosWithout.mono _ _ _
      | exact spec_DrawCombosOf.mono _ _
      | exact spec_DrawCombosWithout.mono _ _
      | exact LeO.none _
      | refine LeO.ite ?_ ?_
      | refine LeO.bind ?_ (fun _ => ?_)
    · intro y0 y1 y2 y3
      unfold laws_FnCombos.l0
      repeat' first
      | (with_reducible exact ih0 _ _ _ _ _ _ _ _ _)
      | (with_reducible exact ih1 _ _ _ _)
      | (with_reducible exact ih2 _ _ _ _)
      | (with_reducible exact ih3 _ _ _ _ _ _ _)
      | (with_reducible exact impl_CombosOf.mono _ _)
      | (with_reducible exact impl_CombosWithout.mono _ _ _)
      | (with_reducible exact laws_hasInt.mono _ _ _)
      | (with_reducible exact laws_likeLists.mono _ _ _)
      | (with_reducible exact spec_CombosOf.mono _ _)
      | (with_reducible exact spec_CombosWithout.mono _ _ _)
      | (with_reducible exact spec_DrawCombosOf.mono _ _)
      | (with_reducible exact spec_DrawCombosWithout.mono _ _)
      | (with_reducible exact LeO.refl _)
      | (with_reducible exact LeO.none _)
      | (with_reducible refine LeO.ite ?_ ?_)
      | (with_reducible refine LeO.bind ?_ (fun _ => ?_))
      | exact ih0 _ _ _ _ _ _ _ _ _
      | exact ih1 _ _ _ _
      | exact ih2 _ _ _ _
      | exact ih3 _ _ _ _ _ _ _
      | exact impl_CombosOf.mono _ _
      | exact impl_CombosWithout.mono _ _ _
      | exact laws_hasInt.mono _ _ _
      | exact laws_likeLists.mono _ _ _
      | exact spec_CombosOf.mono _ _
      | exact spec_CombosWithout.mono _ _ _
      | exact spec_DrawCombosOf.mono _ _
      | exact spec_DrawCombosWithout.mono _ _
      | exact LeO.none _
      | refine LeO.ite ?_ ?_
      | refine LeO.bind ?_ (fun _ => ?_)
    · intro y0 y1 y2 y3 y4 y5 y6
      unfold laws_FnCombos.j1
      repeat' first
      | (with_reducible exact ih0 _ _ _ _ _ _ _ _ _)
      | (with_reducible exact ih1 _ _ _ _)
      | (with_reducible exact ih2 _ _ _ _)
      | (with_reducible exact ih3 _ _ _ _ _ _ _)
      | (with_reducible exact impl_CombosOf.mono _ _)
      | (with_reducible exact impl_CombosWithout.mono _ _ _)
      | (with_reducible exact laws_hasInt.mono _ _ _)
      | (with_reducible exact laws_likeLists.mono _ _ _)
      | (with_reducible exact spec_CombosOf.mono _ _)
      | (with_reducible exact spec_CombosWithout.mono _ _ _)
      | (with_reducible exact spec_DrawCombosOf.mono _ _)
      | (with_reducible exact spec_DrawCombosWithout.mono _ _)
      | (with_reducible exact LeO.refl _)
      | (with_reducible exact LeO.none _)
      | (with_reducible refine LeO.ite ?_ ?_)
      | (with_reducible refine LeO.bind ?_ (fun _ => ?_))
      | exact ih0 _ _ _ _ _ _ _ _ _
      | exact ih1 _ _ _ _
      | exact ih2 _ _ _ _
      | exact ih3 _ _ _ _ _ _ _
      | exact impl_CombosOf.mono _ _
      | exact impl_CombosWithout.mono _ _ _
      | exact laws_hasInt.mono _ _ _
      | exact laws_likeLists.mono _ _ _
      | exact spec_CombosOf.mono _ _
      | exact spec_CombosWithout.mono _ _ _
      | exact spec_DrawCombosOf.mono _ _
      | exact spec_DrawCombosWithout.mono _ _
      | exact LeO.none _
      | refine LeO.ite ?_ ?_
      | refine LeO.bind ?_ (fun _ => ?_)
theorem laws_FnCombos.mono : ∀ a0 k, LeO (laws_FnCombos.f k a0) (laws_FnCombos.f (k + 1) a0) := by
  intro a0 k
  obtain ⟨ih0, ih1, ih2, ih3⟩ := laws_FnCombos.mono_l k
  unfold laws_FnCombos.f
  repeat' first
      | (with_reducible exact ih0 _ _ _ _ _ _ _ _ _)
      | (with_reducible exact ih1 _ _ _ _)
      | (with_reducible exact ih2 _ _ _ _)
      | (with_reducible exact ih3 _ _ _ _ _ _ _)
      | (with_reducible exact impl_CombosOf.mono _ _)
      | (with_reducible exact impl_CombosWithout.mono _ _ _)
      | (with_reducible exact laws_hasInt.mono _ _ _)
      | (with_reducible exact laws_likeLists.mono _ _ _)
      | (with_reducible exact spec_CombosOf.mono _ _)
      | (with_reducible exact spec_CombosWithout.mono _ _ _)
      | (with_reducible exact spec_DrawCombosOf.mono _ _)
      | (with_reducible exact spec_DrawCombosWithout.mono _ _)
      | (with_reducible exact LeO.refl _)
      | (with_reducible exact LeO.none _)
      | (with_reducible refine LeO.ite ?_ ?_)
      | (with_reducible refine LeO.bind ?_ (fun _ => ?_))
      | exact ih0 _ _ _ _ _ _ _ _ _
      | exact ih1 _ _ _ _
      | exact ih2 _ _ _ _
      | exact ih3 _ _ _ _ _ _ _
      | exact impl_CombosOf.mono _ _
      | exact impl_CombosWithout.mono _ _ _
      | exact laws_hasInt.mono _ _ _
      | exact laws_likeLists.mono _ _ _
      | exact spec_CombosOf.mono _ _
      | exact spec_CombosWithout.mono _ _ _
      | exact spec_DrawCombosOf.mono _ _
      | exact spec_DrawCombosWithout.mono _ _
      | exact LeO.none _
      | refine LeO.ite ?_ ?_
      | refine LeO.bind ?_ (fun _ => ?_)
set_option maxHeartbeats 8000000 in
set_option maxRecDepth 100000 in
theorem laws_FnCombos.calls (k : Nat) (A0 : Option Addr) (c0 : Nat) (l0 : List Int) (r : Bool) (w : World) (hr0 : Kd.C (Kd.int .u8) w A0 l0.length l0) (hc0 : l0.length ≤ c0) (h : laws_FnCombos.f k l0 = some r) :
    Calls Try.prog 13 #[.slice A0 l0.length c0] w fun e w' => e = .returned (.bool r) ∧ Below w.heap.size w w' := by
  have HR0 := Aside0.mk hr0
  have HC0 := Aside0.mk hc0
  clear hr0 hc0
  have HB := Aside0.mk (Below.refl w.heap.size w)
  have H : ((laws_big.f l0).bind fun t282 => (if t282 = true then (some true) else ((spec_DrawCombosWithout.f k l0).bind fun bt283 => ((impl_CombosWithout.f k bt283.1 bt283.2).bind fun bt287 => ((spec_CombosWithout.f k bt283.1 bt283.2).bind fun bt291 => ((spec_DrawCombosOf.f k l0).bind fun t295 => ((impl_CombosOf.f k t295).bind fun bt296 => ((spec_CombosOf.f k t295).bind fun bt300 => ((impl_IsSuited.f t295).bind fun bt304 => ((spec_IsSuited.f t295).bind fun bt307 => (if bt287.2 = bt291.2 then ((laws_likeLists.f k bt287.1 bt291.1).bind fun t310 => (if t310 = true then (if bt296.2 = bt300.2 then ((laws_likeLists.f k bt296.1 bt300.1).bind fun t311 => (if t311 = true then (if bt304.2.2 = bt307.2.2 then (if (bt304.1 != bt307.1) = true then (laws_FnCombos.j0 k bt283.1 bt283.2 bt287.1 bt287.2 bt296.1 bt296.2 bt304.1 bt304.2.1 true) else (laws_FnCombos.j0 k bt283.1 bt283.2 bt287.1 bt287.2 bt296.1 bt296.2 bt304.1 bt304.2.1 (bt304.2.1 != bt307.2.1))) else (laws_FnCombos.j0 k bt283.1 bt283.2 bt287.1 bt287.2 bt296.1 bt296.2 bt304.1 bt304.2.1 true)) else (laws_FnCombos.j0 k bt283.1 bt283.2 bt287.1 bt287.2 bt296.1 bt296.2 bt304.1 bt304.2.1 true))) else (laws_FnCombos.j0 k bt283.1 bt283.2 bt287.1 bt287.2 bt296.1 bt296.2 bt304.1 bt304.2.1 true)) else (laws_FnCombos.j0 k bt283.1 bt283.2 bt287.1 bt287.2 bt296.1 bt296.2 bt304.1 bt304.2.1 true))) else (laws_FnCombos.j0 k bt283.1 bt283.2 bt287.1 bt287.2 bt296.1 bt296.2 bt304.1 bt304.2.1 true)))))))))))) = some r := h
  clear h
  replace H := Option.bind_eq_some_iff.mp H
  obtain ⟨t282, A20, H⟩ := H
  replace H : (if t282 = true then (some true) else ((spec_DrawCombosWithout.f k l0).bind fun bt283 => ((impl_CombosWithout.f k bt283.1 bt283.2).bind fun bt287 => ((spec_CombosWithout.f k bt283.1 bt283.2).bind fun bt291 => ((spec_DrawCombosOf.f k l0).bind fun t295 => ((impl_CombosOf.f k t295).bind fun bt296 => ((spec_CombosOf.f k t295).bind fun bt300 => ((impl_IsSuited.f t295).bind fun bt304 => ((spec_IsSuited.f t295).bind fun bt307 => (if bt287.2 = bt291.2 then ((laws_likeLists.f k bt287.1 bt291.1).bind fun t310 => (if t310 = true then (if bt296.2 = bt300.2 then ((laws_likeLists.f k bt296.1 bt300.1).bind fun t311 => (if t311 = true then (if bt304.2.2 = bt307.2.2 then (if (bt304.1 != bt307.1) = true then (laws_FnCombos.j0 k bt283.1 bt283.2 bt287.1 bt287.2 bt296.1 bt296.2 bt304.1 bt304.2.1 true) else (laws_FnCombos.j0 k bt283.1 bt283.2 bt287.1 bt287.2 bt296.1 bt296.2 bt304.1 bt304.2.1 (bt304.2.1 != bt307.2.1))) else (laws_FnCombos.j0 k bt283.1 bt283.2 bt287.1 bt287.2 bt296.1 bt296.2 bt304.1 bt304.2.1 true)) else (laws_FnCombos.j0 k bt283.1 bt283.2 bt287.1 bt287.2 bt296.1 bt296.2 bt304.1 bt304.2.1 true))) else (laws_FnCombos.j0 k bt283.1 bt283.2 bt287.1 bt287.2 bt296.1 bt296.2 bt304.1 bt304.2.1 true)) else (laws_FnCombos.j0 k bt283.1 bt283.2 bt287.1 bt287.2 bt296.1 bt296.2 bt304.1 bt304.2.1 true))) else (laws_FnCombos.j0 k bt283.1 bt283.2 bt287.1 bt287.2 bt296.1 bt296.2 bt304.1 bt304.2.1 true))))))))))) = some r := H
  have A2 := Aside0.mk A20
  clear A20
  by_cases c3 : t282 = true
  · subst c3
    have H1 : (some true) = some r := by rw [if_pos rfl] at H; exact H
    clear H
    have H := H1
    clear H1
    obtain rfl := Option.some.inj H
    go_enter Try.func13, Try.ntmps13
    go_wp2_with (first | ((with_reducible refine gate_callee (f := 44) rfl ?_); refine goesL_ (some 25) rfl rfl Try.func44 (by kernel_rfl) rfl #[.slice A0 l0.length c0] rfl (by (try simp only [List.map_toArray, List.map_cons, List.map_nil]); first | done | rfl | (simp only [List.length_drop, List.length_take]; rfl)) ?_; (with_reducible refine (laws_big.calls _ _ l0 true _ ?side1 ?side2 A2.out).mono ?_); (case side1 => repeat (first | exact HR0.out | (with_reducible refine Kd.C_alloc ?_ _) | (with_reducible refine Kd.C_drewN ?_ _) | (with_reducible refine Kd.C_drew ?_))); (case side2 => exact HC0.out); rintro e w' ⟨rfl, ⟨nd, rfl⟩⟩; refine ⟨_, rfl, ?_⟩))
    go_ret
    exact ⟨by first | rfl | (simp [errW_none, errW_some] <;> rfl) | (simp [*, errW_none, errW_some] <;> rfl), by repeat (first | (with_reducible first | exact HB.out | apply below_alloc | apply pw_below_drewN | apply below_drew1) | exact HB.out)⟩
  · replace c3 := Bool.eq_false_iff.mpr c3
    subst c3
    have H1 : ((spec_DrawCombosWithout.f k l0).bind fun bt283 => ((impl_CombosWithout.f k bt283.1 bt283.2).bind fun bt287 => ((spec_CombosWithout.f k bt283.1 bt283.2).bind fun bt291 => ((spec_DrawCombosOf.f k l0).bind fun t295 => ((impl_CombosOf.f k t295).bind fun bt296 => ((spec_CombosOf.f k t295).bind fun bt300 => ((impl_IsSuited.f t295).bind fun bt304 => ((spec_IsSuited.f t295).bind fun bt307 => (if bt287.2 = bt291.2 then ((laws_likeLists.f k bt287.1 bt291.1).bind fun t310 => (if t310 = true then (if bt296.2 = bt300.2 then ((laws_likeLists.f k bt296.1 bt300.1).bind fun t311 => (if t311 = true then (if bt304.2.2 = bt307.2.2 then (if (bt304.1 != bt307.1) = true then (laws_FnCombos.j0 k bt283.1 bt283.2 bt287.1 bt287.2 bt296.1 bt296.2 bt304.1 bt304.2.1 true) else (laws_FnCombos.j0 k bt283.1 bt283.2 bt287.1 bt287.2 bt296.1 bt296.2 bt304.1 bt304.2.1 (bt304.2.1 != bt307.2.1))) else (laws_FnCombos.j0 k bt283.1 bt283.2 bt287.1 bt287.2 bt296.1 bt296.2 bt304.1 bt304.2.1 true)) else (laws_FnCombos.j0 k bt283.1 bt283.2 bt287.1 bt287.2 bt296.1 bt296.2 bt304.1 bt304.2.1 true))) else (laws_FnCombos.j0 k bt283.1 bt283.2 bt287.1 bt287.2 bt296.1 bt296.2 bt304.1 bt304.2.1 true)) else (laws_FnCombos.j0 k bt283.1 bt283.2 bt287.1 bt287.2 bt296.1 bt296.2 bt304.1 bt304.2.1 true))) else (laws_FnCombos.j0 k bt283.1 bt283.2 bt287.1 bt287.2 bt296.1 bt296.2 bt304.1 bt304.2.1 true)))))))))) = some r := by rw [if_neg (show ¬ (false = true) by decide)] at H; exact H
    clear H
    have H := H1
    clear H1
    replace H := Option.bind_eq_some_iff.mp H
    obtain ⟨⟨t283, t284⟩, A40, H⟩ := H
    replace H : ((impl_CombosWithout.f k t283 t284).bind fun bt287 => ((spec_CombosWithout.f k t283 t284).bind fun bt291 => ((spec_DrawCombosOf.f k l0).bind fun t295 => ((impl_CombosOf.f k t295).bind fun bt296 => ((spec_CombosOf.f k t295).bind fun bt300 => ((impl_IsSuited.f t295).bind fun bt304 => ((spec_IsSuited.f t295).bind fun bt307 => (if bt287.2 = bt291.2 then ((laws_likeLists.f k bt287.1 bt291.1).bind fun t310 => (if t310 = true then (if bt296.2 = bt300.2 then ((laws_likeLists.f k bt296.1 bt300.1).bind fun t311 => (if t311 = true then (if bt304.2.2 = bt307.2.2 then (if (bt304.1 != bt307.1) = true then (laws_FnCombos.j0 k t283 t284 bt287.1 bt287.2 bt296.1 bt296.2 bt304.1 bt304.2.1 true) else (laws_FnCombos.j0 k t283 t284 bt287.1 bt287.2 bt296.1 bt296.2 bt304.1 bt304.2.1 (bt304.2.1 != bt307.2.1))) else (laws_FnCombos.j0 k t283 t284 bt287.1 bt287.2 bt296.1 bt296.2 bt304.1 bt304.2.1 true)) else (laws_FnCombos.j0 k t283 t284 bt287.1 bt287.2 bt296.1 bt296.2 bt304.1 bt304.2.1 true))) else (laws_FnCombos.j0 k t283 t284 bt287.1 bt287.2 bt296.1 bt296.2 bt304.1 bt304.2.1 true)) else (laws_FnCombos.j0 k t283 t284 bt287.1 bt287.2 bt296.1 bt296.2 bt304.1 bt304.2.1 true))) else (laws_FnCombos.j0 k t283 t284 bt287.1 bt287.2 bt296.1 bt296.2 bt304.1 bt304.2.1 true))))))))) = some r := H
    have A4 := Aside0.mk A40
    clear A40
    replace H := Option.bind_eq_some_iff.mp H
    obtain ⟨⟨t287, t288⟩, A50, H⟩ := H
    replace H : ((spec_CombosWithout.f k t283 t284).bind fun bt291 => ((spec_DrawCombosOf.f k l0).bind fun t295 => ((impl_CombosOf.f k t295).bind fun bt296 => ((spec_CombosOf.f k t295).bind fun bt300 => ((impl_IsSuited.f t295).bind fun bt304 => ((spec_IsSuited.f t295).bind fun bt307 => (if t288 = bt291.2 then ((laws_likeLists.f k t287 bt291.1).bind fun t310 => (if t310 = true then (if bt296.2 = bt300.2 then ((laws_likeLists.f k bt296.1 bt300.1).bind fun t311 => (if t311 = true then (if bt304.2.2 = bt307.2.2 then (if (bt304.1 != bt307.1) = true then (laws_FnCombos.j0 k t283 t284 t287 t288 bt296.1 bt296.2 bt304.1 bt304.2.1 true) else (laws_FnCombos.j0 k t283 t284 t287 t288 bt296.1 bt296.2 bt304.1 bt304.2.1 (bt304.2.1 != bt307.2.1))) else (laws_FnCombos.j0 k t283 t284 t287 t288 bt296.1 bt296.2 bt304.1 bt304.2.1 true)) else (laws_FnCombos.j0 k t283 t284 t287 t288 bt296.1 bt296.2 bt304.1 bt304.2.1 true))) else (laws_FnCombos.j0 k t283 t284 t287 t288 bt296.1 bt296.2 bt304.1 bt304.2.1 true)) else (laws_FnCombos.j0 k t283 t284 t287 t288 bt296.1 bt296.2 bt304.1 bt304.2.1 true))) else (laws_FnCombos.j0 k t283 t284 t287 t288 bt296.1 bt296.2 bt304.1 bt304.2.1 true)))))))) = some r := H
    have A5 := Aside0.mk A50
    clear A50
    replace H := Option.bind_eq_some_iff.mp H
    obtain ⟨⟨t291, t294⟩, A60, H⟩ := H
    replace H : ((spec_DrawCombosOf.f k l0).bind fun t295 => ((impl_CombosOf.f k t295).bind fun bt296 => ((spec_CombosOf.f k t295).bind fun bt300 => ((impl_IsSuited.f t295).bind fun bt304 => ((spec_IsSuited.f t295).bind fun bt307 => (if t288 = t294 then ((laws_likeLists.f k t287 t291).bind fun t310 => (if t310 = true then (if bt296.2 = bt300.2 then ((laws_likeLists.f k bt296.1 bt300.1).bind fun t311 => (if t311 = true then (if bt304.2.2 = bt307.2.2 then (if (bt304.1 != bt307.1) = true then (laws_FnCombos.j0 k t283 t284 t287 t288 bt296.1 bt296.2 bt304.1 bt304.2.1 true) else (laws_FnCombos.j0 k t283 t284 t287 t288 bt296.1 bt296.2 bt304.1 bt304.2.1 (bt304.2.1 != bt307.2.1))) else (laws_FnCombos.j0 k t283 t284 t287 t288 bt296.1 bt296.2 bt304.1 bt304.2.1 true)) else (laws_FnCombos.j0 k t283 t284 t287 t288 bt296.1 bt296.2 bt304.1 bt304.2.1 true))) else (laws_FnCombos.j0 k t283 t284 t287 t288 bt296.1 bt296.2 bt304.1 bt304.2.1 true)) else (laws_FnCombos.j0 k t283 t284 t287 t288 bt296.1 bt296.2 bt304.1 bt304.2.1 true))) else (laws_FnCombos.j0 k t283 t284 t287 t288 bt296.1 bt296.2 bt304.1 bt304.2.1 true))))))) = some r := H
    have A6 := Aside0.mk A60
    clear A60
    replace H := Option.bind_eq_some_iff.mp H
    obtain ⟨t295, A70, H⟩ := H
    replace H : ((impl_CombosOf.f k t295).bind fun bt296 => ((spec_CombosOf.f k t295).bind fun bt300 => ((impl_IsSuited.f t295).bind fun bt304 => ((spec_IsSuited.f t295).bind fun bt307 => (if t288 = t294 then ((laws_likeLists.f k t287 t291).bind fun t310 => (if t310 = true then (if bt296.2 = bt300.2 then ((laws_likeLists.f k bt296.1 bt300.1).bind fun t311 => (if t311 = true then (if bt304.2.2 = bt307.2.2 then (if (bt304.1 != bt307.1) = true then (laws_FnCombos.j0 k t283 t284 t287 t288 bt296.1 bt296.2 bt304.1 bt304.2.1 true) else (laws_FnCombos.j0 k t283 t284 t287 t288 bt296.1 bt296.2 bt304.1 bt304.2.1 (bt304.2.1 != bt307.2.1))) else (laws_FnCombos.j0 k t283 t284 t287 t288 bt296.1 bt296.2 bt304.1 bt304.2.1 true)) else (laws_FnCombos.j0 k t283 t284 t287 t288 bt296.1 bt296.2 bt304.1 bt304.2.1 true))) else (laws_FnCombos.j0 k t283 t284 t287 t288 bt296.1 bt296.2 bt304.1 bt304.2.1 true)) else (laws_FnCombos.j0 k t283 t284 t287 t288 bt296.1 bt296.2 bt304.1 bt304.2.1 true))) else (laws_FnCombos.j0 k t283 t284 t287 t288 bt296.1 bt296.2 bt304.1 bt304.2.1 true)))))) = some r := H
    have A7 := Aside0.mk A70
    clear A70
    replace H := Option.bind_eq_some_iff.mp H
    obtain ⟨⟨t296, t297⟩, A80, H⟩ := H
    replace H : ((spec_CombosOf.f k t295).bind fun bt300 => ((impl_IsSuited.f t295).bind fun bt304 => ((spec_IsSuited.f t295).bind fun bt307 => (if t288 = t294 then ((laws_likeLists.f k t287 t291).bind fun t310 => (if t310 = true then (if t297 = bt300.2 then ((laws_likeLists.f k t296 bt300.1).bind fun t311 => (if t311 = true then (if bt304.2.2 = bt307.2.2 then (if (bt304.1 != bt307.1) = true then (laws_FnCombos.j0 k t283 t284 t287 t288 t296 t297 bt304.1 bt304.2.1 true) else (laws_FnCombos.j0 k t283 t284 t287 t288 t296 t297 bt304.1 bt304.2.1 (bt304.2.1 != bt307.2.1))) else (laws_FnCombos.j0 k t283 t284 t287 t288 t296 t297 bt304.1 bt304.2.1 true)) else (laws_FnCombos.j0 k t283 t284 t287 t288 t296 t297 bt304.1 bt304.2.1 true))) else (laws_FnCombos.j0 k t283 t284 t287 t288 t296 t297 bt304.1 bt304.2.1 true)) else (laws_FnCombos.j0 k t283 t284 t287 t288 t296 t297 bt304.1 bt304.2.1 true))) else (laws_FnCombos.j0 k t283 t284 t287 t288 t296 t297 bt304.1 bt304.2.1 true))))) = some r := H
    have A8 := Aside0.mk A80
    clear A80
    replace H := Option.bind_eq_some_iff.mp H
    obtain ⟨⟨t300, t301⟩, A90, H⟩ := H
    replace H : ((impl_IsSuited.f t295).bind fun bt304 => ((spec_IsSuited.f t295).bind fun bt307 => (if t288 = t294 then ((laws_likeLists.f k t287 t291).bind fun t310 => (if t310 = true then (if t297 = t301 then ((laws_likeLists.f k t296 t300).bind fun t311 => (if t311 = true then (if bt304.2.2 = bt307.2.2 then (if (bt304.1 != bt307.1) = true then (laws_FnCombos.j0 k t283 t284 t287 t288 t296 t297 bt304.1 bt304.2.1 true) else (laws_FnCombos.j0 k t283 t284 t287 t288 t296 t297 bt304.1 bt304.2.1 (bt304.2.1 != bt307.2.1))) else (laws_FnCombos.j0 k t283 t284 t287 t288 t296 t297 bt304.1 bt304.2.1 true)) else (laws_FnCombos.j0 k t283 t284 t287 t288 t296 t297 bt304.1 bt304.2.1 true))) else (laws_FnCombos.j0 k t283 t284 t287 t288 t296 t297 bt304.1 bt304.2.1 true)) else (laws_FnCombos.j0 k t283 t284 t287 t288 t296 t297 bt304.1 bt304.2.1 true))) else (laws_FnCombos.j0 k t283 t284 t287 t288 t296 t297 bt304.1 bt304.2.1 true)))) = some r := H
    have A9 := Aside0.mk A90
    clear A90
    replace H := Option.bind_eq_some_iff.mp H
    obtain ⟨⟨t304, t305, t306⟩, A100, H⟩ := H
    replace H : ((spec_IsSuited.f t295).bind fun bt307 => (if t288 = t294 then ((laws_likeLists.f k t287 t291).bind fun t310 => (if t310 = true then (if t297 = t301 then ((laws_likeLists.f k t296 t300).bind fun t311 => (if t311 = true then (if t306 = bt307.2.2 then (if (t304 != bt307.1) = true then (laws_FnCombos.j0 k t283 t284 t287 t288 t296 t297 t304 t305 true) else (laws_FnCombos.j0 k t283 t284 t287 t288 t296 t297 t304 t305 (t305 != bt307.2.1))) else (laws_FnCombos.j0 k t283 t284 t287 t288 t296 t297 t304 t305 true)) else (laws_FnCombos.j0 k t283 t284 t287 t288 t296 t297 t304 t305 true))) else (laws_FnCombos.j0 k t283 t284 t287 t288 t296 t297 t304 t305 true)) else (laws_FnCombos.j0 k t283 t284 t287 t288 t296 t297 t304 t305 true))) else (laws_FnCombos.j0 k t283 t284 t287 t288 t296 t297 t304 t305 true))) = some r := H
    have A10 := Aside0.mk A100
    clear A100
    replace H := Option.bind_eq_some_iff.mp H
    obtain ⟨⟨t307, t308, t309⟩, A110, H⟩ := H
    replace H : (if t288 = t294 then ((laws_likeLists.f k t287 t291).bind fun t310 => (if t310 = true then (if t297 = t301 then ((laws_likeLists.f k t296 t300).bind fun t311 => (if t311 = true then (if t306 = t309 then (if (t304 != t307) = true then (laws_FnCombos.j0 k t283 t284 t287 t288 t296 t297 t304 t305 true) else (laws_FnCombos.j0 k t283 t284 t287 t288 t296 t297 t304 t305 (t305 != t308))) else (laws_FnCombos.j0 k t283 t284 t287 t288 t296 t297 t304 t305 true)) else (laws_FnCombos.j0 k t283 t284 t287 t288 t296 t297 t304 t305 true))) else (laws_FnCombos.j0 k t283 t284 t287 t288 t296 t297 t304 t305 true)) else (laws_FnCombos.j0 k t283 t284 t287 t288 t296 t297 t304 t305 true))) else (laws_FnCombos.j0 k t283 t284 t287 t288 t296 t297 t304 t305 true)) = some r := H
    have A11 := Aside0.mk A110
    clear A110
    have HC12 := Aside0.mk H
    clear H
    go_enter Try.func13, Try.ntmps13
    go_upto_region 11 with (first | ((with_reducible refine gate_callee (f := 44) rfl ?_); refine goesL_ (some 25) rfl rfl Try.func44 (by kernel_rfl) rfl #[.slice A0 l0.length c0] rfl (by (try simp only [List.map_toArray, List.map_cons, List.map_nil]); first | done | rfl | (simp only [List.length_drop, List.length_take]; rfl)) ?_; (with_reducible refine (laws_big.calls _ _ l0 false _ ?side1 ?side2 A2.out).mono ?_); (case side1 => repeat (first | exact HR0.out | (with_reducible refine Kd.C_alloc ?_ _) | (with_reducible refine Kd.C_drewN ?_ _) | (with_reducible refine Kd.C_drew ?_))); (case side2 => exact HC0.out); rintro e w' ⟨rfl, ⟨nd, rfl⟩⟩; refine ⟨_, rfl, ?_⟩) | ((with_reducible refine gate_callee (f := 45) rfl ?_); refine goesL_ (some 28) rfl rfl Try.func45 (by kernel_rfl) rfl #[.slice A0 l0.length c0] rfl (by (try simp only [List.map_toArray, List.map_cons, List.map_nil]); first | done | rfl | (simp only [List.length_drop, List.length_take]; rfl)) ?_; (with_reducible refine (spec_DrawCombosWithout.calls k _ _ l0 t283 t284 _ ?side1 ?side2 A4.out).mono ?_); (case side1 => repeat (first | exact HR0.out | (with_reducible refine Kd.C_alloc ?_ _) | (with_reducible refine Kd.C_drewN ?_ _) | (with_reducible refine Kd.C_drew ?_))); (case side2 => exact HC0.out); rintro e w13 ⟨v285, rfl, ho0, hb⟩; refine ⟨_, rfl, ?_⟩; have n0_ := Aside0.mk (Kd.R_lower ho0 (below_size (by repeat (first | (with_reducible first | exact HB.out | apply below_alloc | apply pw_below_drewN | apply below_drew1) | exact HB.out)))); have n1_ := Aside0.mk (below_step (by repeat (first | (with_reducible first | exact HB.out | apply below_alloc | apply pw_below_drewN | apply below_drew1) | exact HB.out)) hb); clear HB; have HO286 := n0_; have HB := n1_; clear n0_ n1_; (try clear hb); (try clear hb2); (try clear hk); (try clear hi); (try clear ho0); obtain ⟨Ao14, co14, eo14⟩ := Kd.R_slice HO286.out; subst eo14) | ((with_reducible refine gate_callee (f := 17) rfl ?_); refine goesL_ (some 34) rfl rfl Try.func17 (by kernel_rfl) rfl #[.int .i64 t283, .slice Ao14 t284.length co14] rfl (by (try simp only [List.map_toArray, List.map_cons, List.map_nil]); first | done | rfl | (simp only [List.length_drop, List.length_take]; rfl)) ?_; (with_reducible refine (impl_CombosWithout.calls k t283 _ _ t284 t287 t288 _ ?side1 ?side2 A5.out).mono ?_); (case side1 => repeat (first | exact (Kd.R_reads' HO286.out).2.2 | (with_reducible refine Kd.C_alloc ?_ _) | (with_reducible refine Kd.C_drewN ?_ _) | (with_reducible refine Kd.C_drew ?_))); (case side2 => exact (Kd.R_reads' HO286.out).2.1); rintro e w15 ⟨v289, rfl, ho0, hb⟩; refine ⟨_, rfl, ?_⟩; have n0_ := Aside0.mk (Kd.R_below (by (with_reducible repeat (first | apply Kd.R_alloc | apply Kd.R_drewN | apply Kd.R_drew)); exact HO286.out) hb); have n1_ := Aside0.mk (Kd.N_lower (Kd.N_mono (ok' := fun k_ => some k_ ≠ (.slice Ao14 t284.length co14 : Value).ownBlock) (Kd.S_N (Kd.S_bound ho0)) (fun k_ hk_ => (Kd.fresh' (Kd.R_lt (by (with_reducible repeat (first | apply Kd.R_alloc | apply Kd.R_drewN | apply Kd.R_drew)); exact HO286.out)) k_ hk_.2.1))) (below_size (by repeat (first | (with_reducible first | exact HB.out | apply below_alloc | apply pw_below_drewN | apply below_drew1) | exact HB.out)))); have n2_ := Aside0.mk (below_step (by repeat (first | (with_reducible first | exact HB.out | apply below_alloc | apply pw_below_drewN | apply below_drew1) | exact HB.out)) hb); clear HO286; clear HB; have HO286 := n0_; have HO290 := n1_; have HB := n2_; clear n0_ n1_ n2_; (try clear hb); (try clear hb2); (try clear hk); (try clear hi); (try clear ho0)) | ((with_reducible refine gate_callee (f := 15) rfl ?_); refine goesL_ (some 40) rfl rfl Try.func15 (by kernel_rfl) rfl #[.int .i64 t283, .slice Ao14 t284.length co14] rfl (by (try simp only [List.map_toArray, List.map_cons, List.map_nil]); first | done | rfl | (simp only [List.length_drop, List.length_take]; rfl)) ?_; (with_reducible refine (spec_CombosWithout.calls k t283 _ _ t284 t291 t294 _ ?side1 ?side2 A6.out).mono ?_); (case side1 => repeat (first | exact (Kd.R_reads' HO286.out).2.2 | (with_reducible refine Kd.C_alloc ?_ _) | (with_reducible refine Kd.C_drewN ?_ _) | (with_reducible refine Kd.C_drew ?_))); (case side2 => exact (Kd.R_reads' HO286.out).2.1); rintro e w16 ⟨v292, rfl, ho0, hb⟩; refine ⟨_, rfl, ?_⟩; have n0_ := Aside0.mk (Kd.R_below (by (with_reducible repeat (first | apply Kd.R_alloc | apply Kd.R_drewN | apply Kd.R_drew)); exact HO286.out) hb); have n1_ := Aside0.mk (Kd.N_elder' (by (with_reducible repeat (first | apply Kd.N_alloc | apply Kd.N_drewN | apply Kd.N_drew)); exact HO290.out) (by first | exact Kd.N_base ho0 | exact Kd.N_base (Kd.S_N ho0)) hb); have n2_ := Aside0.mk (Kd.N_lower (Kd.N_mono (ok' := fun k_ => some k_ ≠ (.slice Ao14 t284.length co14 : Value).ownBlock ∧ some k_ ≠ (v289 : Value).ownBlock) ho0 (fun k_ hk_ => ⟨(Kd.fresh' (Kd.R_lt (by (with_reducible repeat (first | apply Kd.R_alloc | apply Kd.R_drewN | apply Kd.R_drew)); exact HO286.out)) k_ hk_), (Kd.fresh' (Kd.N_lt (by (with_reducible repeat (first | apply Kd.N_alloc | apply Kd.N_drewN | apply Kd.N_drew)); exact HO290.out)) k_ hk_)⟩)) (below_size (by repeat (first | (with_reducible first | exact HB.out | apply below_alloc | apply pw_below_drewN | apply below_drew1) | exact HB.out)))); have n3_ := Aside0.mk (below_step (by repeat (first | (with_reducible first | exact HB.out | apply below_alloc | apply pw_below_drewN | apply below_drew1) | exact HB.out)) hb); clear HO286; clear HO290; clear HB; have HO286 := n0_; have HO290 := n1_; have HO293 := n2_; have HB := n3_; clear n0_ n1_ n2_ n3_; (try clear hb); (try clear hb2); (try clear hk); (try clear hi); (try clear ho0)) | ((with_reducible refine gate_callee (f := 46) rfl ?_); refine goesL_ (some 44) rfl rfl Try.func46 (by kernel_rfl) rfl #[.slice A0 l0.length c0] rfl (by (try simp only [List.map_toArray, List.map_cons, List.map_nil]); first | done | rfl | (simp only [List.length_drop, List.length_take]; rfl)) ?_; (with_reducible refine (spec_DrawCombosOf.calls k _ _ l0 t295 _ ?side1 ?side2 A7.out).mono ?_); (case side1 => repeat (first | exact (Kd.C_below HR0.out HB.out) | (with_reducible refine Kd.C_alloc ?_ _) | (with_reducible refine Kd.C_drewN ?_ _) | (with_reducible refine Kd.C_drew ?_))); (case side2 => exact HC0.out); rintro e w17 ⟨rfl, hb⟩; refine ⟨_, rfl, ?_⟩; have n0_ := Aside0.mk (Kd.R_below (by (with_reducible repeat (first | apply Kd.R_alloc | apply Kd.R_drewN | apply Kd.R_drew)); exact HO286.out) hb); have n1_ := Aside0.mk (Kd.N_below (by (with_reducible repeat (first | apply Kd.N_alloc | apply Kd.N_drewN | apply Kd.N_drew)); exact HO290.out) hb); have n2_ := Aside0.mk (Kd.N_below (by (with_reducible repeat (first | apply Kd.N_alloc | apply Kd.N_drewN | apply Kd.N_drew)); exact HO293.out) hb); have n3_ := Aside0.mk (below_step (by repeat (first | (with_reducible first | exact HB.out | apply below_alloc | apply pw_below_drewN | apply below_drew1) | exact HB.out)) hb); clear HO286; clear HO290; clear HO293; clear HB; have HO286 := n0_; have HO290 := n1_; have HO293 := n2_; have HB := n3_; clear n0_ n1_ n2_ n3_; (try clear hb); (try clear hb2); (try clear hk); (try clear hi)) | ((with_reducible refine gate_callee (f := 47) rfl ?_); refine goesL_ (some 47) rfl rfl Try.func47 (by kernel_rfl) rfl #[.int .i64 t295] rfl (by (try simp only [List.map_toArray, List.map_cons, List.map_nil]); first | done | rfl | (simp only [List.length_drop, List.length_take]; rfl)) ?_; (with_reducible refine (impl_CombosOf.calls k t295 t296 t297 _ A8.out).mono ?_); rintro e w18 ⟨v298, rfl, ho0, hb⟩; refine ⟨_, rfl, ?_⟩; have n0_ := Aside0.mk (Kd.R_below (by (with_reducible repeat (first | apply Kd.R_alloc | apply Kd.R_drewN | apply Kd.R_drew)); exact HO286.out) hb); have n1_ := Aside0.mk (Kd.N_elder' (by (with_reducible repeat (first | apply Kd.N_alloc | apply Kd.N_drewN | apply Kd.N_drew)); exact HO290.out) (by first | exact Kd.N_base ho0 | exact Kd.N_base (Kd.S_N ho0)) hb); have n2_ := Aside0.mk (Kd.N_elder' (by (with_reducible repeat (first | apply Kd.N_alloc | apply Kd.N_drewN | apply Kd.N_drew)); exact HO293.out) (by first | exact Kd.N_base ho0 | exact Kd.N_base (Kd.S_N ho0)) hb); have n3_ := Aside0.mk (Kd.N_lower (Kd.N_mono (ok' := fun k_ => some k_ ≠ (.slice Ao14 t284.length co14 : Value).ownBlock ∧ some k_ ≠ (v289 : Value).ownBlock ∧ some k_ ≠ (v292 : Value).ownBlock) (Kd.S_N (Kd.S_bound ho0)) (fun k_ hk_ => ⟨(Kd.fresh' (Kd.R_lt (by (with_reducible repeat (first | apply Kd.R_alloc | apply Kd.R_drewN | apply Kd.R_drew)); exact HO286.out)) k_ hk_.2.1), (Kd.fresh' (Kd.N_lt (by (with_reducible repeat (first | apply Kd.N_alloc | apply Kd.N_drewN | apply Kd.N_drew)); exact HO290.out)) k_ hk_.2.1), (Kd.fresh' (Kd.N_lt (by (with_reducible repeat (first | apply Kd.N_alloc | apply Kd.N_drewN | apply Kd.N_drew)); exact HO293.out)) k_ hk_.2.1)⟩)) (below_size (by repeat (first | (with_reducible first | exact HB.out | apply below_alloc | apply pw_below_drewN | apply below_drew1) | exact HB.out)))); have n4_ := Aside0.mk (below_step (by repeat (first | (with_reducible first | exact HB.out | apply below_alloc | apply pw_below_drewN | apply below_drew1) | exact HB.out)) hb); clear HO286; clear HO290; clear HO293; clear HB; have HO286 := n0_; have HO290 := n1_; have HO293 := n2_; have HO299 := n3_; have HB := n4_; clear n0_ n1_ n2_ n3_ n4_; (try clear hb); (try clear hb2); (try clear hk); (try clear hi); (try clear ho0)) | ((with_reducible refine gate_callee (f := 48) rfl ?_); refine goesL_ (some 52) rfl rfl Try.func48 (by kernel_rfl) rfl #[.int .i64 t295] rfl (by (try simp only [List.map_toArray, List.map_cons, List.map_nil]); first | done | rfl | (simp only [List.length_drop, List.length_take]; rfl)) ?_; (with_reducible refine (spec_CombosOf.calls k t295 t300 t301 _ A9.out).mono ?_); rintro e w19 ⟨v302, rfl, ho0, hb⟩; refine ⟨_, rfl, ?_⟩; have n0_ := Aside0.mk (Kd.R_below (by (with_reducible repeat (first | apply Kd.R_alloc | apply Kd.R_drewN | apply Kd.R_drew)); exact HO286.out) hb); have n1_ := Aside0.mk (Kd.N_elder' (by (with_reducible repeat (first | apply Kd.N_alloc | apply Kd.N_drewN | apply Kd.N_drew)); exact HO290.out) (by first | exact Kd.N_base ho0 | exact Kd.N_base (Kd.S_N ho0)) hb); have n2_ := Aside0.mk (Kd.N_elder' (by (with_reducible repeat (first | apply Kd.N_alloc | apply Kd.N_drewN | apply Kd.N_drew)); exact HO293.out) (by first | exact Kd.N_base ho0 | exact Kd.N_base (Kd.S_N ho0)) hb); have n3_ := Aside0.mk (Kd.N_elder' (by (with_reducible repeat (first | apply Kd.N_alloc | apply Kd.N_drewN | apply Kd.N_drew)); exact HO299.out) (by first | exact Kd.N_base ho0 | exact Kd.N_base (Kd.S_N ho0)) hb); have n4_ := Aside0.mk (Kd.N_lower (Kd.N_mono (ok' := fun k_ => some k_ ≠ (.slice Ao14 t284.length co14 : Value).ownBlock ∧ some k_ ≠ (v289 : Value).ownBlock ∧ some k_ ≠ (v292 : Value).ownBlock ∧ some k_ ≠ (v298 : Value).ownBlock) (Kd.S_N (Kd.S_bound ho0)) (fun k_ hk_ => ⟨(Kd.fresh' (Kd.R_lt (by (with_reducible repeat (first | apply Kd.R_alloc | apply Kd.R_drewN | apply Kd.R_drew)); exact HO286.out)) k_ hk_.2.1), (Kd.fresh' (Kd.N_lt (by (with_reducible repeat (first | apply Kd.N_alloc | apply Kd.N_drewN | apply Kd.N_drew)); exact HO290.out)) k_ hk_.2.1), (Kd.fresh' (Kd.N_lt (by (with_reducible repeat (first | apply Kd.N_alloc | apply Kd.N_drewN | apply Kd.N_drew)); exact HO293.out)) k_ hk_.2.1), (Kd.fresh' (Kd.N_lt (by (with_reducible repeat (first | apply Kd.N_alloc | apply Kd.N_drewN | apply Kd.N_drew)); exact HO299.out)) k_ hk_.2.1)⟩)) (below_size (by repeat (first | (with_reducible first | exact HB.out | apply below_alloc | apply pw_below_drewN | apply below_drew1) | exact HB.out)))); have n5_ := Aside0.mk (below_step (by repeat (first | (with_reducible first | exact HB.out | apply below_alloc | apply pw_below_drewN | apply below_drew1) | exact HB.out)) hb); clear HO286; clear HO290; clear HO293; clear HO299; clear HB; have HO286 := n0_; have HO290 := n1_; have HO293 := n2_; have HO299 := n3_; have HO303 := n4_; have HB := n5_; clear n0_ n1_ n2_ n3_ n4_ n5_; (try clear hb); (try clear hb2); (try clear hk); (try clear hi); (try clear ho0)) | ((with_reducible refine gate_callee (f := 49) rfl ?_); refine goesL_ (some 57) rfl rfl Try.func49 (by kernel_rfl) rfl #[.int .i64 t295] rfl (by (try simp only [List.map_toArray, List.map_cons, List.map_nil]); first | done | rfl | (simp only [List.length_drop, List.length_take]; rfl)) ?_; (with_reducible refine (impl_IsSuited.calls t295 t304 t305 t306 _ A10.out).mono ?_); rintro e w' ⟨rfl, ⟨nd, rfl⟩⟩; refine ⟨_, rfl, ?_⟩) | ((with_reducible refine gate_callee (f := 50) rfl ?_); refine goesL_ (some 63) rfl rfl Try.func50 (by kernel_rfl) rfl #[.int .i64 t295] rfl (by (try simp only [List.map_toArray, List.map_cons, List.map_nil]); first | done | rfl | (simp only [List.length_drop, List.length_take]; rfl)) ?_; (with_reducible refine (spec_IsSuited.calls t295 t307 t308 t309 _ A11.out).mono ?_); rintro e w' ⟨rfl, ⟨nd, rfl⟩⟩; refine ⟨_, rfl, ?_⟩))
    (try simp only [Act.put, List.setIfInBounds_toArray, List.set_cons_zero, List.set_cons_succ])
    go_cut [101] (fun v101 wc => ∃ (kq : Nat) (x101_11 : Bool), v101 = .bool x101_11 ∧ Aside0 (laws_FnCombos.j0 kq t283 t284 t287 t288 t296 t297 t304 t305 x101_11 = some r) ∧ Aside0 (kq ≤ k) ∧ Aside0 (Kd.R (Kd.int .i64) 2 wc w.heap.size (fun _ => True) (.slice Ao14 t284.length co14) t284) ∧ Aside0 (Kd.N (Kd.slice 2 (Kd.int .i64)) 22 wc w.heap.size (fun k_ => some k_ ≠ ((.slice Ao14 t284.length co14) : Value).ownBlock ∧ some k_ ≠ (v298 : Value).ownBlock) v289 t287) ∧ Aside0 (Kd.N (Kd.slice 2 (Kd.int .i64)) 22 wc w.heap.size (fun k_ => some k_ ≠ ((.slice Ao14 t284.length co14) : Value).ownBlock ∧ some k_ ≠ (v289 : Value).ownBlock) v298 t296) ∧ Aside0 (Below w.heap.size w wc))
    case first =>
      have H := HC12.out
      clear HC12
      by_cases c20 : t288 = t294
      · rw [if_pos c20] at H
        have c20b0 : (t288 == t294) = true := beq_iff_eq.mpr c20
        have c20b1 : (t288 != t294) = false := bne_eq_false_iff_eq.mpr c20
        clear c20
        (first | rw [c20b0] | (simp only [i64_w, i32_w]; rw [c20b0]) | skip)
        replace H := Option.bind_eq_some_iff.mp H
        obtain ⟨t310, A210, H⟩ := H
        replace H : (if t310 = true then (if t297 = t301 then ((laws_likeLists.f k t296 t300).bind fun t311 => (if t311 = true then (if t306 = t309 then (if (t304 != t307) = true then (laws_FnCombos.j0 k t283 t284 t287 t288 t296 t297 t304 t305 true) else (laws_FnCombos.j0 k t283 t284 t287 t288 t296 t297 t304 t305 (t305 != t308))) else (laws_FnCombos.j0 k t283 t284 t287 t288 t296 t297 t304 t305 true)) else (laws_FnCombos.j0 k t283 t284 t287 t288 t296 t297 t304 t305 true))) else (laws_FnCombos.j0 k t283 t284 t287 t288 t296 t297 t304 t305 true)) else (laws_FnCombos.j0 k t283 t284 t287 t288 t296 t297 t304 t305 true)) = some r := H
        have A21 := Aside0.mk A210
        clear A210
        by_cases c22 : t310 = true
        · subst c22
          have H1 : (if t297 = t301 then ((laws_likeLists.f k t296 t300).bind fun t311 => (if t311 = true then (if t306 = t309 then (if (t304 != t307) = true then (laws_FnCombos.j0 k t283 t284 t287 t288 t296 t297 t304 t305 true) else (laws_FnCombos.j0 k t283 t284 t287 t288 t296 t297 t304 t305 (t305 != t308))) else (laws_FnCombos.j0 k t283 t284 t287 t288 t296 t297 t304 t305 true)) else (laws_FnCombos.j0 k t283 t284 t287 t288 t296 t297 t304 t305 true))) else (laws_FnCombos.j0 k t283 t284 t287 t288 t296 t297 t304 t305 true)) = some r := by rw [if_pos rfl] at H; exact H
          clear H
          have H := H1
          clear H1
          by_cases c23 : t297 = t301
          · rw [if_pos c23] at H
            have c23b0 : (t297 == t301) = true := beq_iff_eq.mpr c23
            have c23b1 : (t297 != t301) = false := bne_eq_false_iff_eq.mpr c23
            clear c23
            replace H := Option.bind_eq_some_iff.mp H
            obtain ⟨t311, A240, H⟩ := H
            replace H : (if t311 = true then (if t306 = t309 then (if (t304 != t307) = true then (laws_FnCombos.j0 k t283 t284 t287 t288 t296 t297 t304 t305 true) else (laws_FnCombos.j0 k t283 t284 t287 t288 t296 t297 t304 t305 (t305 != t308))) else (laws_FnCombos.j0 k t283 t284 t287 t288 t296 t297 t304 t305 true)) else (laws_FnCombos.j0 k t283 t284 t287 t288 t296 t297 t304 t305 true)) = some r := H
            have A24 := Aside0.mk A240
            clear A240
            by_cases c25 : t311 = true
            · subst c25
              have H1 : (if t306 = t309 then (if (t304 != t307) = true then (laws_FnCombos.j0 k t283 t284 t287 t288 t296 t297 t304 t305 true) else (laws_FnCombos.j0 k t283 t284 t287 t288 t296 t297 t304 t305 (t305 != t308))) else (laws_FnCombos.j0 k t283 t284 t287 t288 t296 t297 t304 t305 true)) = some r := by rw [if_pos rfl] at H; exact H
              clear H
              have H := H1
              clear H1
              by_cases c26 : t306 = t309
              · rw [if_pos c26] at H
                have c26b0 : (t306 == t309) = true := beq_iff_eq.mpr c26
                have c26b1 : (t306 != t309) = false := bne_eq_false_iff_eq.mpr c26
                clear c26
                by_cases c27 : (t304 != t307) = true
                · rw [if_pos c27] at H
                  have c27b0 : (t304 != t307) = true := c27
                  (try (have c27b1 : decide (t304 = t307) = false := by simpa using c27))
                  (try (have c27b2 : (t304 == t307) = false := by simpa using c27))
                  (try (have c27b3 : ¬ (t304 = t307) := by simpa using c27))
                  clear c27
                  have H' := Aside0.mk H
                  clear H
                  obtain ⟨Ao28, co28, eo28⟩ := Kd.N_slice HO290.out
                  subst eo28
                  obtain ⟨Ao29, co29, eo29⟩ := Kd.N_slice HO293.out
                  subst eo29
                  go_wp2_with (first | (go_at_call 51; (with_reducible refine (laws_likeLists.calls k _ _ t287 _ _ t291 true _ ?side1 ?side2 ?side3 ?side4 A21.out).mono ?_); (case side1 => repeat (first | exact (Kd.N_reads' HO290.out).2.2 | (with_reducible refine Kd.C_alloc ?_ _) | (with_reducible refine Kd.C_drewN ?_ _) | (with_reducible refine Kd.C_drew ?_))); (case side2 => exact (Kd.N_reads' HO290.out).2.1); (case side3 => repeat (first | exact (Kd.N_reads' HO293.out).2.2 | (with_reducible refine Kd.C_alloc ?_ _) | (with_reducible refine Kd.C_drewN ?_ _) | (with_reducible refine Kd.C_drew ?_))); (case side4 => exact (Kd.N_reads' HO293.out).2.1); rintro e w' ⟨rfl, ⟨nd, rfl⟩⟩; obtain ⟨Ao30, co30, eo30⟩ := Kd.N_slice HO299.out; subst eo30; obtain ⟨Ao31, co31, eo31⟩ := Kd.N_slice HO303.out; subst eo31) | (go_at_call 51; (with_reducible refine (laws_likeLists.calls k _ _ t296 _ _ t300 true _ ?side1 ?side2 ?side3 ?side4 A24.out).mono ?_); (case side1 => repeat (first | exact (Kd.N_reads' HO299.out).2.2 | (with_reducible refine Kd.C_alloc ?_ _) | (with_reducible refine Kd.C_drewN ?_ _) | (with_reducible refine Kd.C_drew ?_))); (case side2 => exact (Kd.N_reads' HO299.out).2.1); (case side3 => repeat (first | exact (Kd.N_reads' HO303.out).2.2 | (with_reducible refine Kd.C_alloc ?_ _) | (with_reducible refine Kd.C_drewN ?_ _) | (with_reducible refine Kd.C_drew ?_))); (case side4 => exact (Kd.N_reads' HO303.out).2.1); rintro e w' ⟨rfl, ⟨nd, rfl⟩⟩))
                  go_meet
                  case rel => exact ⟨_, (true), (by first | rfl | (simp; done) | (simp [*]; done)), H', ⟨by first | omega | exact Nat.le_refl _⟩, ⟨by (with_reducible repeat (first | apply Kd.R_alloc | apply Kd.R_drewN | apply Kd.R_drew)); exact HO286.out⟩, ⟨by (with_reducible repeat (first | apply Kd.N_alloc | apply Kd.N_drewN | apply Kd.N_drew)); exact Kd.N_mono HO290.out (fun _ hk => ⟨hk.1.1.1, hk.1.2⟩)⟩, ⟨by (with_reducible repeat (first | apply Kd.N_alloc | apply Kd.N_drewN | apply Kd.N_drew)); exact Kd.N_mono HO299.out (fun _ hk => ⟨hk.1.1, hk.1.2.1⟩)⟩, ⟨by repeat (first | (with_reducible first | exact HB.out | apply below_alloc | apply pw_below_drewN | apply below_drew1) | exact HB.out)⟩⟩
                · rw [if_neg c27] at H
                  have c27b0 : (t304 != t307) = false := by simpa using c27
                  (try (have c27b1 : decide (t304 = t307) = true := by simpa using c27))
                  (try (have c27b2 : (t304 == t307) = true := by simpa using c27))
                  clear c27
                  have H' := Aside0.mk H
                  clear H
                  obtain ⟨Ao32, co32, eo32⟩ := Kd.N_slice HO290.out
                  subst eo32
                  obtain ⟨Ao33, co33, eo33⟩ := Kd.N_slice HO293.out
                  subst eo33
                  go_wp2_with (first | (go_at_call 51; (with_reducible refine (laws_likeLists.calls k _ _ t287 _ _ t291 true _ ?side1 ?side2 ?side3 ?side4 A21.out).mono ?_); (case side1 => repeat (first | exact (Kd.N_reads' HO290.out).2.2 | (with_reducible refine Kd.C_alloc ?_ _) | (with_reducible refine Kd.C_drewN ?_ _) | (with_reducible refine Kd.C_drew ?_))); (case side2 => exact (Kd.N_reads' HO290.out).2.1); (case side3 => repeat (first | exact (Kd.N_reads' HO293.out).2.2 | (with_reducible refine Kd.C_alloc ?_ _) | (with_reducible refine Kd.C_drewN ?_ _) | (with_reducible refine Kd.C_drew ?_))); (case side4 => exact (Kd.N_reads' HO293.out).2.1); rintro e w' ⟨rfl, ⟨nd, rfl⟩⟩; obtain ⟨Ao34, co34, eo34⟩ := Kd.N_slice HO299.out; subst eo34; obtain ⟨Ao35, co35, eo35⟩ := Kd.N_slice HO303.out; subst eo35) | (go_at_call 51; (with_reducible refine (laws_likeLists.calls k _ _ t296 _ _ t300 true _ ?side1 ?side2 ?side3 ?side4 A24.out).mono ?_); (case side1 => repeat (first | exact (Kd.N_reads' HO299.out).2.2 | (with_reducible refine Kd.C_alloc ?_ _) | (with_reducible refine Kd.C_drewN ?_ _) | (with_reducible refine Kd.C_drew ?_))); (case side2 => exact (Kd.N_reads' HO299.out).2.1); (case side3 => repeat (first | exact (Kd.N_reads' HO303.out).2.2 | (with_reducible refine Kd.C_alloc ?_ _) | (with_reducible refine Kd.C_drewN ?_ _) | (with_reducible refine Kd.C_drew ?_))); (case side4 => exact (Kd.N_reads' HO303.out).2.1); rintro e w' ⟨rfl, ⟨nd, rfl⟩⟩))
                  go_meet
                  case rel => exact ⟨_, ((t305 != t308)), (by first | rfl | (simp; done) | (simp [*]; done)), H', ⟨by first | omega | exact Nat.le_refl _⟩, ⟨by (with_reducible repeat (first | apply Kd.R_alloc | apply Kd.R_drewN | apply Kd.R_drew)); exact HO286.out⟩, ⟨by (with_reducible repeat (first | apply Kd.N_alloc | apply Kd.N_drewN | apply Kd.N_drew)); exact Kd.N_mono HO290.out (fun _ hk => ⟨hk.1.1.1, hk.1.2⟩)⟩, ⟨by (with_reducible repeat (first | apply Kd.N_alloc | apply Kd.N_drewN | apply Kd.N_drew)); exact Kd.N_mono HO299.out (fun _ hk => ⟨hk.1.1, hk.1.2.1⟩)⟩, ⟨by repeat (first | (with_reducible first | exact HB.out | apply below_alloc | apply pw_below_drewN | apply below_drew1) | exact HB.out)⟩⟩
              · rw [if_neg c26] at H
                have c26b0 : (t306 == t309) = false := beq_eq_false_iff_ne.mpr c26
                have c26b1 : (t306 != t309) = true := bne_iff_ne.mpr c26
                have H' := Aside0.mk H
                clear H
                obtain ⟨Ao36, co36, eo36⟩ := Kd.N_slice HO290.out
                subst eo36
                obtain ⟨Ao37, co37, eo37⟩ := Kd.N_slice HO293.out
                subst eo37
                go_wp2_with (first | (go_at_call 51; (with_reducible refine (laws_likeLists.calls k _ _ t287 _ _ t291 true _ ?side1 ?side2 ?side3 ?side4 A21.out).mono ?_); (case side1 => repeat (first | exact (Kd.N_reads' HO290.out).2.2 | (with_reducible refine Kd.C_alloc ?_ _) | (with_reducible refine Kd.C_drewN ?_ _) | (with_reducible refine Kd.C_drew ?_))); (case side2 => exact (Kd.N_reads' HO290.out).2.1); (case side3 => repeat (first | exact (Kd.N_reads' HO293.out).2.2 | (with_reducible refine Kd.C_alloc ?_ _) | (with_reducible refine Kd.C_drewN ?_ _) | (with_reducible refine Kd.C_drew ?_))); (case side4 => exact (Kd.N_reads' HO293.out).2.1); rintro e w' ⟨rfl, ⟨nd, rfl⟩⟩; obtain ⟨Ao38, co38, eo38⟩ := Kd.N_slice HO299.out; subst eo38; obtain ⟨Ao39, co39, eo39⟩ := Kd.N_slice HO303.out; subst eo39) | (go_at_call 51; (with_reducible refine (laws_likeLists.calls k _ _ t296 _ _ t300 true _ ?side1 ?side2 ?side3 ?side4 A24.out).mono ?_); (case side1 => repeat (first | exact (Kd.N_reads' HO299.out).2.2 | (with_reducible refine Kd.C_alloc ?_ _) | (with_reducible refine Kd.C_drewN ?_ _) | (with_reducible refine Kd.C_drew ?_))); (case side2 => exact (Kd.N_reads' HO299.out).2.1); (case side3 => repeat (first | exact (Kd.N_reads' HO303.out).2.2 | (with_reducible refine Kd.C_alloc ?_ _) | (with_reducible refine Kd.C_drewN ?_ _) | (with_reducible refine Kd.C_drew ?_))); (case side4 => exact (Kd.N_reads' HO303.out).2.1); rintro e w' ⟨rfl, ⟨nd, rfl⟩⟩))
                go_meet
                case rel => exact ⟨_, (true), (by first | rfl | (simp; done) | (simp [*]; done)), H', ⟨by first | omega | exact Nat.le_refl _⟩, ⟨by (with_reducible repeat (first | apply Kd.R_alloc | apply Kd.R_drewN | apply Kd.R_drew)); exact HO286.out⟩, ⟨by (with_reducible repeat (first | apply Kd.N_alloc | apply Kd.N_drewN | apply Kd.N_drew)); exact Kd.N_mono HO290.out (fun _ hk => ⟨hk.1.1.1, hk.1.2⟩)⟩, ⟨by (with_reducible repeat (first | apply Kd.N_alloc | apply Kd.N_drewN | apply Kd.N_drew)); exact Kd.N_mono HO299.out (fun _ hk => ⟨hk.1.1, hk.1.2.1⟩)⟩, ⟨by repeat (first | (with_reducible first | exact HB.out | apply below_alloc | apply pw_below_drewN | apply below_drew1) | exact HB.out)⟩⟩
            · replace c25 := Bool.eq_false_iff.mpr c25
              subst c25
              have H1 : (laws_FnCombos.j0 k t283 t284 t287 t288 t296 t297 t304 t305 true) = some r := by rw [if_neg (show ¬ (false = true) by decide)] at H; exact H
              clear H
              have H := H1
              clear H1
              have H' := Aside0.mk H
              clear H
              obtain ⟨Ao40, co40, eo40⟩ := Kd.N_slice HO290.out
              subst eo40
              obtain ⟨Ao41, co41, eo41⟩ := Kd.N_slice HO293.out
              subst eo41
              go_wp2_with (first | (go_at_call 51; (with_reducible refine (laws_likeLists.calls k _ _ t287 _ _ t291 true _ ?side1 ?side2 ?side3 ?side4 A21.out).mono ?_); (case side1 => repeat (first | exact (Kd.N_reads' HO290.out).2.2 | (with_reducible refine Kd.C_alloc ?_ _) | (with_reducible refine Kd.C_drewN ?_ _) | (with_reducible refine Kd.C_drew ?_))); (case side2 => exact (Kd.N_reads' HO290.out).2.1); (case side3 => repeat (first | exact (Kd.N_reads' HO293.out).2.2 | (with_reducible refine Kd.C_alloc ?_ _) | (with_reducible refine Kd.C_drewN ?_ _) | (with_reducible refine Kd.C_drew ?_))); (case side4 => exact (Kd.N_reads' HO293.out).2.1); rintro e w' ⟨rfl, ⟨nd, rfl⟩⟩; obtain ⟨Ao42, co42, eo42⟩ := Kd.N_slice HO299.out; subst eo42; obtain ⟨Ao43, co43, eo43⟩ := Kd.N_slice HO303.out; subst eo43) | (go_at_call 51; (with_reducible refine (laws_likeLists.calls k _ _ t296 _ _ t300 false _ ?side1 ?side2 ?side3 ?side4 A24.out).mono ?_); (case side1 => repeat (first | exact (Kd.N_reads' HO299.out).2.2 | (with_reducible refine Kd.C_alloc ?_ _) | (with_reducible refine Kd.C_drewN ?_ _) | (with_reducible refine Kd.C_drew ?_))); (case side2 => exact (Kd.N_reads' HO299.out).2.1); (case side3 => repeat (first | exact (Kd.N_reads' HO303.out).2.2 | (with_reducible refine Kd.C_alloc ?_ _) | (with_reducible refine Kd.C_drewN ?_ _) | (with_reducible refine Kd.C_drew ?_))); (case side4 => exact (Kd.N_reads' HO303.out).2.1); rintro e w' ⟨rfl, ⟨nd, rfl⟩⟩))
              go_meet
              case rel => exact ⟨_, (true), (by first | rfl | (simp; done) | (simp [*]; done)), H', ⟨by first | omega | exact Nat.le_refl _⟩, ⟨by (with_reducible repeat (first | apply Kd.R_alloc | apply Kd.R_drewN | apply Kd.R_drew)); exact HO286.out⟩, ⟨by (with_reducible repeat (first | apply Kd.N_alloc | apply Kd.N_drewN | apply Kd.N_drew)); exact Kd.N_mono HO290.out (fun _ hk => ⟨hk.1.1.1, hk.1.2⟩)⟩, ⟨by (with_reducible repeat (first | apply Kd.N_alloc | apply Kd.N_drewN | apply Kd.N_drew)); exact Kd.N_mono HO299.out (fun _ hk => ⟨hk.1.1, hk.1.2.1⟩)⟩, ⟨by repeat (first | (with_reducible first | exact HB.out | apply below_alloc | apply pw_below_drewN | apply below_drew1) | exact HB.out)⟩⟩
          · rw [if_neg c23] at H
            have c23b0 : (t297 == t301) = false := beq_eq_false_iff_ne.mpr c23
            have c23b1 : (t297 != t301) = true := bne_iff_ne.mpr c23
            have H' := Aside0.mk H
            clear H
            obtain ⟨Ao44, co44, eo44⟩ := Kd.N_slice HO290.out
            subst eo44
            obtain ⟨Ao45, co45, eo45⟩ := Kd.N_slice HO293.out
            subst eo45
            go_wp2_with (first | (go_at_call 51; (with_reducible refine (laws_likeLists.calls k _ _ t287 _ _ t291 true _ ?side1 ?side2 ?side3 ?side4 A21.out).mono ?_); (case side1 => repeat (first | exact (Kd.N_reads' HO290.out).2.2 | (with_reducible refine Kd.C_alloc ?_ _) | (with_reducible refine Kd.C_drewN ?_ _) | (with_reducible refine Kd.C_drew ?_))); (case side2 => exact (Kd.N_reads' HO290.out).2.1); (case side3 => repeat (first | exact (Kd.N_reads' HO293.out).2.2 | (with_reducible refine Kd.C_alloc ?_ _) | (with_reducible refine Kd.C_drewN ?_ _) | (with_reducible refine Kd.C_drew ?_))); (case side4 => exact (Kd.N_reads' HO293.out).2.1); rintro e w' ⟨rfl, ⟨nd, rfl⟩⟩))
            go_meet
            case rel => exact ⟨_, (true), (by first | rfl | (simp; done) | (simp [*]; done)), H', ⟨by first | omega | exact Nat.le_refl _⟩, ⟨by (with_reducible repeat (first | apply Kd.R_alloc | apply Kd.R_drewN | apply Kd.R_drew)); exact HO286.out⟩, ⟨by (with_reducible repeat (first | apply Kd.N_alloc | apply Kd.N_drewN | apply Kd.N_drew)); exact Kd.N_mono HO290.out (fun _ hk => ⟨hk.1.1.1, hk.1.2⟩)⟩, ⟨by (with_reducible repeat (first | apply Kd.N_alloc | apply Kd.N_drewN | apply Kd.N_drew)); exact Kd.N_mono HO299.out (fun _ hk => ⟨hk.1.1, hk.1.2.1⟩)⟩, ⟨by repeat (first | (with_reducible first | exact HB.out | apply below_alloc | apply pw_below_drewN | apply below_drew1) | exact HB.out)⟩⟩
        · replace c22 := Bool.eq_false_iff.mpr c22
          subst c22
          have H1 : (laws_FnCombos.j0 k t283 t284 t287 t288 t296 t297 t304 t305 true) = some r := by rw [if_neg (show ¬ (false = true) by decide)] at H; exact H
          clear H
          have H := H1
          clear H1
          have H' := Aside0.mk H
          clear H
          obtain ⟨Ao46, co46, eo46⟩ := Kd.N_slice HO290.out
          subst eo46
          obtain ⟨Ao47, co47, eo47⟩ := Kd.N_slice HO293.out
          subst eo47
          go_wp2_with (first | (go_at_call 51; (with_reducible refine (laws_likeLists.calls k _ _ t287 _ _ t291 false _ ?side1 ?side2 ?side3 ?side4 A21.out).mono ?_); (case side1 => repeat (first | exact (Kd.N_reads' HO290.out).2.2 | (with_reducible refine Kd.C_alloc ?_ _) | (with_reducible refine Kd.C_drewN ?_ _) | (with_reducible refine Kd.C_drew ?_))); (case side2 => exact (Kd.N_reads' HO290.out).2.1); (case side3 => repeat (first | exact (Kd.N_reads' HO293.out).2.2 | (with_reducible refine Kd.C_alloc ?_ _) | (with_reducible refine Kd.C_drewN ?_ _) | (with_reducible refine Kd.C_drew ?_))); (case side4 => exact (Kd.N_reads' HO293.out).2.1); rintro e w' ⟨rfl, ⟨nd, rfl⟩⟩))
          go_meet
          case rel => exact ⟨_, (true), (by first | rfl | (simp; done) | (simp [*]; done)), H', ⟨by first | omega | exact Nat.le_refl _⟩, ⟨by (with_reducible repeat (first | apply Kd.R_alloc | apply Kd.R_drewN | apply Kd.R_drew)); exact HO286.out⟩, ⟨by (with_reducible repeat (first | apply Kd.N_alloc | apply Kd.N_drewN | apply Kd.N_drew)); exact Kd.N_mono HO290.out (fun _ hk => ⟨hk.1.1.1, hk.1.2⟩)⟩, ⟨by (with_reducible repeat (first | apply Kd.N_alloc | apply Kd.N_drewN | apply Kd.N_drew)); exact Kd.N_mono HO299.out (fun _ hk => ⟨hk.1.1, hk.1.2.1⟩)⟩, ⟨by repeat (first | (with_reducible first | exact HB.out | apply below_alloc | apply pw_below_drewN | apply below_drew1) | exact HB.out)⟩⟩
      · rw [if_neg c20] at H
        have c20b0 : (t288 == t294) = false := beq_eq_false_iff_ne.mpr c20
        have c20b1 : (t288 != t294) = true := bne_iff_ne.mpr c20
        (first | rw [c20b0] | (simp only [i64_w, i32_w]; rw [c20b0]) | skip)
        have H' := Aside0.mk H
        clear H
        go_wp2
        go_meet
        case rel => exact ⟨_, (true), (by first | rfl | (simp; done) | (simp [*]; done)), H', ⟨by first | omega | exact Nat.le_refl _⟩, ⟨by (with_reducible repeat (first | apply Kd.R_alloc | apply Kd.R_drewN | apply Kd.R_drew)); exact HO286.out⟩, ⟨by (with_reducible repeat (first | apply Kd.N_alloc | apply Kd.N_drewN | apply Kd.N_drew)); exact Kd.N_mono HO290.out (fun _ hk => ⟨hk.1.1.1, hk.1.2⟩)⟩, ⟨by (with_reducible repeat (first | apply Kd.N_alloc | apply Kd.N_drewN | apply Kd.N_drew)); exact Kd.N_mono HO299.out (fun _ hk => ⟨hk.1.1, hk.1.2.1⟩)⟩, ⟨by repeat (first | (with_reducible first | exact HB.out | apply below_alloc | apply pw_below_drewN | apply below_drew1) | exact HB.out)⟩⟩
    case rest =>
      clear HC12
      try clear c1
      try clear c2
      try clear p2
      try clear c3
      try clear c4
      try clear c5
      try clear c13
      try clear c15
      try clear c17
      try clear c20
      try clear c20b0
      try clear c20b1
      try clear c22
      try clear c23
      try clear c23b0
      try clear c23b1
      try clear c25
      try clear c26
      try clear c26b0
      try clear c26b1
      try clear c27
      try clear c27b0
      try clear c27b1
      try clear c27b2
      try clear c44
      try clear c45
      try clear c46
      try clear c47
      obtain ⟨kq, x101_11, rfl, HA, HJ11, HO_4, HO_5, HO_10, HB⟩ := hcut
      cases kq with
      | zero => exact absurd HA.out (by simp [laws_FnCombos.j0])
      | succ kj11 =>
        have H := HA.out
        clear HA
        simp only [laws_FnCombos.j0] at H
        by_cases c48 : x101_11 = true
        · subst c48
          have H1 : (some false) = some r := by rw [if_pos rfl] at H; exact H
          clear H
          have H := H1
          clear H1
          obtain rfl := Option.some.inj H
          go_wp2
          go_ret
          exact ⟨by first | rfl | (simp [errW_none, errW_some] <;> rfl) | (simp [*, errW_none, errW_some] <;> rfl), by repeat (first | (with_reducible first | exact HB.out | apply below_alloc | apply pw_below_drewN | apply below_drew1) | exact HB.out)⟩
        · replace c48 := Bool.eq_false_iff.mpr c48
          subst c48
          have H1 : (if t297 = 0 then (if t305 = true then (laws_FnCombos.j1 kj11 t283 t284 t287 t288 t296 t304 6) else (laws_FnCombos.j1 kj11 t283 t284 t287 t288 t296 t304 12)) else (laws_FnCombos.j2 kj11 t283 t284 t287 t288)) = some r := by rw [if_neg (show ¬ (false = true) by decide)] at H; exact H
          clear H
          have H := H1
          clear H1
          have HC49 := Aside0.mk H
          clear H
          go_upto_if 103 with (fail)
          go_cut [] (fun wc => ∃ (kq : Nat), Aside0 (laws_FnCombos.j2 kq t283 t284 t287 t288 = some r) ∧ Aside0 (kq ≤ kj11) ∧ Aside0 (Kd.R (Kd.int .i64) 2 wc w.heap.size (fun _ => True) (.slice Ao14 t284.length co14) t284) ∧ Aside0 (Kd.N (Kd.slice 2 (Kd.int .i64)) 22 wc w.heap.size (fun k_ => some k_ ≠ ((.slice Ao14 t284.length co14) : Value).ownBlock) v289 t287) ∧ Aside0 (Below w.heap.size w wc))
          case first =>
            have H := HC49.out
            clear HC49
            by_cases c50 : t297 = 0
            · rw [if_pos c50] at H
              have c50b0 : (t297 == 0) = true := beq_iff_eq.mpr c50
              have c50b1 : (t297 != 0) = false := bne_eq_false_iff_eq.mpr c50
              clear c50
              (first | rw [c50b0] | (simp only [i64_w, i32_w]; rw [c50b0]) | skip)
              have HC51 := Aside0.mk H
              clear H
              go_upto_if 104 with (fail)
              go_cut [20] (fun v20 wc => ∃ (kq : Nat) (x20_50 : Int), v20 = .int .i64 x20_50 ∧ Aside0 (laws_FnCombos.j1 kq t283 t284 t287 t288 t296 t304 x20_50 = some r) ∧ Aside0 (kq ≤ kj11) ∧ Aside0 (Kd.R (Kd.int .i64) 2 wc w.heap.size (fun _ => True) (.slice Ao14 t284.length co14) t284) ∧ Aside0 (Kd.N (Kd.slice 2 (Kd.int .i64)) 22 wc w.heap.size (fun k_ => some k_ ≠ ((.slice Ao14 t284.length co14) : Value).ownBlock ∧ some k_ ≠ (v298 : Value).ownBlock) v289 t287) ∧ Aside0 (Kd.N (Kd.slice 2 (Kd.int .i64)) 22 wc w.heap.size (fun k_ => some k_ ≠ ((.slice Ao14 t284.length co14) : Value).ownBlock ∧ some k_ ≠ (v289 : Value).ownBlock) v298 t296) ∧ Aside0 (Below w.heap.size w wc))
              case first =>
                have H := HC51.out
                clear HC51
                by_cases c52 : t305 = true
                · subst c52
                  have H1 : (laws_FnCombos.j1 kj11 t283 t284 t287 t288 t296 t304 6) = some r := by rw [if_pos rfl] at H; exact H
                  clear H
                  have H := H1
                  clear H1
                  have H' := Aside0.mk H
                  clear H
                  go_wp2
                  go_meet
                  case rel => exact ⟨_, (6), (by first | rfl | (simp; done) | (simp [*]; done)), H', ⟨by have := HJ11.out; first | omega | exact Nat.le_refl _⟩, ⟨by (with_reducible repeat (first | apply Kd.R_alloc | apply Kd.R_drewN | apply Kd.R_drew)); exact HO_4.out⟩, ⟨by (with_reducible repeat (first | apply Kd.N_alloc | apply Kd.N_drewN | apply Kd.N_drew)); exact HO_5.out⟩, ⟨by (with_reducible repeat (first | apply Kd.N_alloc | apply Kd.N_drewN | apply Kd.N_drew)); exact HO_10.out⟩, ⟨by repeat (first | (with_reducible first | exact HB.out | apply below_alloc | apply pw_below_drewN | apply below_drew1) | exact HB.out)⟩⟩
                · replace c52 := Bool.eq_false_iff.mpr c52
                  subst c52
                  have H1 : (laws_FnCombos.j1 kj11 t283 t284 t287 t288 t296 t304 12) = some r := by rw [if_neg (show ¬ (false = true) by decide)] at H; exact H
                  clear H
                  have H := H1
                  clear H1
                  have H' := Aside0.mk H
                  clear H
                  go_wp2
                  go_meet
                  case rel => exact ⟨_, (12), (by first | rfl | (simp; done) | (simp [*]; done)), H', ⟨by have := HJ11.out; first | omega | exact Nat.le_refl _⟩, ⟨by (with_reducible repeat (first | apply Kd.R_alloc | apply Kd.R_drewN | apply Kd.R_drew)); exact HO_4.out⟩, ⟨by (with_reducible repeat (first | apply Kd.N_alloc | apply Kd.N_drewN | apply Kd.N_drew)); exact HO_5.out⟩, ⟨by (with_reducible repeat (first | apply Kd.N_alloc | apply Kd.N_drewN | apply Kd.N_drew)); exact HO_10.out⟩, ⟨by repeat (first | (with_reducible first | exact HB.out | apply below_alloc | apply pw_below_drewN | apply below_drew1) | exact HB.out)⟩⟩
              case rest =>
                clear HC51
                try clear c1
                try clear c2
                try clear p2
                try clear c3
                try clear c4
                try clear c5
                try clear c13
                try clear c15
                try clear c17
                try clear c20
                try clear c20b0
                try clear c20b1
                try clear c22
                try clear c23
                try clear c23b0
                try clear c23b1
                try clear c25
                try clear c26
                try clear c26b0
                try clear c26b1
                try clear c27
                try clear c27b0
                try clear c27b1
                try clear c27b2
                try clear c44
                try clear c45
                try clear c46
                try clear c47
                try clear c48
                try clear c49
                try clear c50
                try clear c50b0
                try clear c50b1
                try clear c52
                try clear p2
                obtain ⟨kq, x20_50, rfl, HA, HJ50, HO_4, HO_5, HO_10, HB⟩ := hcut
                cases kq with
                | zero => exact absurd HA.out (by simp [laws_FnCombos.j1])
                | succ kj50 =>
                  have H := HA.out
                  clear HA
                  simp only [laws_FnCombos.j1] at H
                  by_cases c53 : t304 = true
                  · subst c53
                    have H1 : (if (t296.length : Int) = 4 then (laws_FnCombos.j2 kj50 t283 t284 t287 t288) else (some false)) = some r := by rw [if_pos rfl] at H; exact H
                    clear H
                    have H := H1
                    clear H1
                    by_cases c54 : (t296.length : Int) = 4
                    · rw [if_pos c54] at H
                      have c54b0 : ((t296.length : Int) == 4) = true := beq_iff_eq.mpr c54
                      have c54b1 : ((t296.length : Int) != 4) = false := bne_eq_false_iff_eq.mpr c54
                      clear c54
                      have H' := Aside0.mk H
                      clear H
                      obtain ⟨Ao55, co55, eo55⟩ := Kd.N_slice HO_10.out
                      subst eo55
                      go_wp2
                      go_meet
                      case rel => exact ⟨_, H', ⟨by have := HJ11.out; have := HJ50.out; first | omega | exact Nat.le_refl _⟩, ⟨by (with_reducible repeat (first | apply Kd.R_alloc | apply Kd.R_drewN | apply Kd.R_drew)); exact HO_4.out⟩, ⟨by (with_reducible repeat (first | apply Kd.N_alloc | apply Kd.N_drewN | apply Kd.N_drew)); exact Kd.N_mono HO_5.out (fun _ hk => hk.1)⟩, ⟨by repeat (first | (with_reducible first | exact HB.out | apply below_alloc | apply pw_below_drewN | apply below_drew1) | exact HB.out)⟩⟩
                    · rw [if_neg c54] at H
                      have c54b0 : ((t296.length : Int) == 4) = false := beq_eq_false_iff_ne.mpr c54
                      have c54b1 : ((t296.length : Int) != 4) = true := bne_iff_ne.mpr c54
                      obtain rfl := Option.some.inj H
                      obtain ⟨Ao56, co56, eo56⟩ := Kd.N_slice HO_10.out
                      subst eo56
                      go_wp2
                      go_ret
                      exact ⟨by first | rfl | (simp [errW_none, errW_some] <;> rfl) | (simp [*, errW_none, errW_some] <;> rfl), by repeat (first | (with_reducible first | exact HB.out | apply below_alloc | apply pw_below_drewN | apply below_drew1) | exact HB.out)⟩
                  · replace c53 := Bool.eq_false_iff.mpr c53
                    subst c53
                    have H1 : (if (t296.length : Int) = x20_50 then (laws_FnCombos.j2 kj50 t283 t284 t287 t288) else (some false)) = some r := by rw [if_neg (show ¬ (false = true) by decide)] at H; exact H
                    clear H
                    have H := H1
                    clear H1
                    by_cases c57 : (t296.length : Int) = x20_50
                    · rw [if_pos c57] at H
                      have c57b0 : ((t296.length : Int) == x20_50) = true := beq_iff_eq.mpr c57
                      have c57b1 : ((t296.length : Int) != x20_50) = false := bne_eq_false_iff_eq.mpr c57
                      clear c57
                      have H' := Aside0.mk H
                      clear H
                      obtain ⟨Ao58, co58, eo58⟩ := Kd.N_slice HO_10.out
                      subst eo58
                      go_wp2
                      go_meet
                      case rel => exact ⟨_, H', ⟨by have := HJ11.out; have := HJ50.out; first | omega | exact Nat.le_refl _⟩, ⟨by (with_reducible repeat (first | apply Kd.R_alloc | apply Kd.R_drewN | apply Kd.R_drew)); exact HO_4.out⟩, ⟨by (with_reducible repeat (first | apply Kd.N_alloc | apply Kd.N_drewN | apply Kd.N_drew)); exact Kd.N_mono HO_5.out (fun _ hk => hk.1)⟩, ⟨by repeat (first | (with_reducible first | exact HB.out | apply below_alloc | apply pw_below_drewN | apply below_drew1) | exact HB.out)⟩⟩
                    · rw [if_neg c57] at H
                      have c57b0 : ((t296.length : Int) == x20_50) = false := beq_eq_false_iff_ne.mpr c57
                      have c57b1 : ((t296.length : Int) != x20_50) = true := bne_iff_ne.mpr c57
                      obtain rfl := Option.some.inj H
                      obtain ⟨Ao59, co59, eo59⟩ := Kd.N_slice HO_10.out
                      subst eo59
                      go_wp2
                      go_ret
                      exact ⟨by first | rfl | (simp [errW_none, errW_some] <;> rfl) | (simp [*, errW_none, errW_some] <;> rfl), by repeat (first | (with_reducible first | exact HB.out | apply below_alloc | apply pw_below_drewN | apply below_drew1) | exact HB.out)⟩
            · rw [if_neg c50] at H
              have c50b0 : (t297 == 0) = false := beq_eq_false_iff_ne.mpr c50
              have c50b1 : (t297 != 0) = true := bne_iff_ne.mpr c50
              (first | rw [c50b0] | (simp only [i64_w, i32_w]; rw [c50b0]) | skip)
              have H' := Aside0.mk H
              clear H
              go_wp2
              go_meet
              case rel => exact ⟨_, H', ⟨by have := HJ11.out; first | omega | exact Nat.le_refl _⟩, ⟨by (with_reducible repeat (first | apply Kd.R_alloc | apply Kd.R_drewN | apply Kd.R_drew)); exact HO_4.out⟩, ⟨by (with_reducible repeat (first | apply Kd.N_alloc | apply Kd.N_drewN | apply Kd.N_drew)); exact Kd.N_mono HO_5.out (fun _ hk => hk.1)⟩, ⟨by repeat (first | (with_reducible first | exact HB.out | apply below_alloc | apply pw_below_drewN | apply below_drew1) | exact HB.out)⟩⟩
          case rest =>
            clear HC49
            try clear c1
            try clear c2
            try clear p2
            try clear c3
            try clear c4
            try clear c5
            try clear c13
            try clear c15
            try clear c17
            try clear c20
            try clear c20b0
            try clear c20b1
            try clear c22
            try clear c23
            try clear c23b0
            try clear c23b1
            try clear c25
            try clear c26
            try clear c26b0
            try clear c26b1
            try clear c27
            try clear c27b0
            try clear c27b1
            try clear c27b2
            try clear c44
            try clear c45
            try clear c46
            try clear c47
            try clear c48
            try clear c49
            try clear c50
            try clear c50b0
            try clear c50b1
            try clear c52
            try clear c53
            try clear c54
            try clear c54b0
            try clear c54b1
            try clear c57
            try clear c57b0
            try clear c57b1
            try clear p2
            obtain ⟨kq, HA, HJ48, HO_4, HO_5, HB⟩ := hcut
            cases kq with
            | zero => exact absurd HA.out (by simp [laws_FnCombos.j2])
            | succ kj48 =>
              have H := HA.out
              clear HA
              simp only [laws_FnCombos.j2] at H
              by_cases c60 : t288 = 0
              · rw [if_pos c60] at H
                have c60b0 : (t288 == 0) = true := beq_iff_eq.mpr c60
                have c60b1 : (t288 != 0) = false := bne_eq_false_iff_eq.mpr c60
                clear c60
                have H' := Aside0.mk H
                clear H
                go_wp2
                go_loopg [21] kj48 (fun kq v21 w' => ∃ (x21_3 : Int), v21 = .int .i64 x21_3 ∧ Aside0 (laws_FnCombos.l0 kq t283 t284 t287 x21_3 = some r) ∧ Aside0 (kq ≤ kj48) ∧ Aside0 (Kd.R (Kd.int .i64) 2 w' w.heap.size (fun _ => True) (.slice Ao14 t284.length co14) t284) ∧ Aside0 (Kd.N (Kd.slice 2 (Kd.int .i64)) 22 w' w.heap.size (fun k_ => some k_ ≠ ((.slice Ao14 t284.length co14) : Value).ownBlock) v289 t287) ∧ Aside0 (Below w.heap.size w w'))
                case atStart => exact ⟨(0), (by first | rfl | (simp; done) | (simp [*]; done)), H', ⟨Nat.le_refl _⟩, ⟨by (with_reducible repeat (first | apply Kd.R_alloc | apply Kd.R_drewN | apply Kd.R_drew)); exact HO_4.out⟩, ⟨by (with_reducible repeat (first | apply Kd.N_alloc | apply Kd.N_drewN | apply Kd.N_drew)); exact HO_5.out⟩, ⟨by repeat (first | (with_reducible first | exact HB.out | apply below_alloc | apply pw_below_drewN | apply below_drew1) | exact HB.out)⟩⟩
                case round =>
                  clear H'
                  try clear c1
                  try clear c2
                  try clear p2
                  try clear c3
                  try clear c4
                  try clear c5
                  try clear c6
                  try clear c13
                  try clear c15
                  try clear c17
                  try clear c20
                  try clear c20b0
                  try clear c20b1
                  try clear c22
                  try clear c23
                  try clear c23b0
                  try clear c23b1
                  try clear c25
                  try clear c26
                  try clear c26b0
                  try clear c26b1
                  try clear c27
                  try clear c27b0
                  try clear c27b1
                  try clear c27b2
                  try clear c44
                  try clear c45
                  try clear c46
                  try clear c47
                  try clear c48
                  try clear c49
                  try clear c50
                  try clear c50b0
                  try clear c50b1
                  try clear c52
                  try clear c53
                  try clear c54
                  try clear c54b0
                  try clear c54b1
                  try clear c57
                  try clear c57b0
                  try clear c57b1
                  try clear c60
                  try clear c60b0
                  try clear c60b1
                  try clear p2
                  obtain ⟨x21_3, rfl, HA, HK3, HO_4, HO_5, HB⟩ := hrel
                  cases gk with
                  | zero => exact absurd HA.out (by simp [laws_FnCombos.l0])
                  | succ k3 =>
                    have H := HA.out
                    clear HA
                    simp only [laws_FnCombos.l0] at H
                    by_cases c61 : x21_3 < (t287.length : Int)
                    · rw [if_pos c61] at H
                      have c61b0 : decide (x21_3 < (t287.length : Int)) = true := decide_eq_true c61
                      clear c61
                      by_cases c62 : 0 ≤ x21_3
                      · rw [if_pos c62] at H
                        have c62b0 : decide (0 ≤ x21_3) = true := decide_eq_true c62
                        clear c62
                        by_cases c63 : 0 < ((rd_L2 t287 x21_3).length : Int)
                        · rw [if_pos c63] at H
                          have c63b0 : decide (0 < ((rd_L2 t287 x21_3).length : Int)) = true := decide_eq_true c63
                          have c63b1 : decide (0 < (rd_L2 t287 x21_3).length) = true := decide_eq_true (by omega)
                          clear c63
                          replace H := Option.bind_eq_some_iff.mp H
                          obtain ⟨t318, A640, H⟩ := H
                          replace H : (if t318 = true then (some false) else (if 1 < ((rd_L2 t287 x21_3).length : Int) then ((laws_hasInt.f k3 t284 (rd (rd_L2 t287 x21_3) 1)).bind fun t321 => (if t321 = true then (some false) else (laws_FnCombos.l0 k3 t283 t284 t287 (wrap64 (x21_3 + 1))))) else (none))) = some r := H
                          have A64 := Aside0.mk A640
                          clear A640
                          by_cases c65 : t318 = true
                          · subst c65
                            have H1 : (some false) = some r := by rw [if_pos rfl] at H; exact H
                            clear H
                            have H := H1
                            clear H1
                            obtain rfl := Option.some.inj H
                            obtain ⟨Ao66, co66, eo66⟩ := Kd.N_slice HO_5.out
                            subst eo66
                            have p316 : 0 ≤ (x21_3 : Int) := of_decide_eq_true (by first | (with_reducible assumption) | assumption)
                            have q316 : x21_3 < (t287.length : Int) := of_decide_eq_true (by first | (with_reducible assumption) | assumption)
                            obtain ⟨ad316, A316_0, c316_0, e316, hx316_0, hl316_0, hi316_0⟩ := at_L2 (Kd.N_reads' HO_5.out).2.2 x21_3 p316 q316
                            cases e316
                            obtain ⟨ce316, hce316, hMe316, hcc316⟩ := Kd.N_get HO_5.out [] x21_3 p316 (by first | exact q316 | exact of_decide_eq_true (by first | (with_reducible assumption) | assumption) | (have e_ := (Kd.N_reads' HO_5.out).1; omega))
                            obtain ⟨ua316_0, uc316_0, rfl, ul316_0, ge316_0⟩ := Kd.FK_slice_open hMe316
                            have hv316_0 := hcc316 0 _ rfl
                            rw [Nat.add_zero, show ((Kd.slice 2 (Kd.int .i64))).sz = 1 from rfl, Nat.mul_one] at hv316_0
                            replace hv316_0 := Option.some.inj (hv316_0.symm.trans hx316_0)
                            injection hv316_0 with hva_ hvn_ hvc_
                            rw [hva_] at ge316_0
                            rw [hvc_] at ul316_0
                            have HL316_0 := Aside0.mk (show Kd.V (Kd.int .i64) 2 _ w.heap.size _ _ (rd_L2 t287 x21_3) from Kd.V_mk ul316_0 ge316_0)
                            clear hva_ hvn_ hvc_ ge316_0 ul316_0
                            clear hcc316 hce316
                            have HR316_0 := Aside0.mk hi316_0
                            have HC316_0 := Aside0.mk hl316_0
                            clear hi316_0 hl316_0
                            replace p316 := eq_true p316
                            replace q316 := eq_true q316
                            have p317 : 0 ≤ (0 : Int) := (by omega)
                            have q317 : 0 < ((rd_L2 t287 x21_3).length : Int) := of_decide_eq_true (by first | (with_reducible assumption) | assumption)
                            obtain ⟨ad317, e317, hx317_0⟩ := Kd.at_int (by repeat (first | (with_reducible exact HR316_0.out) | (with_reducible refine Kd.C_alloc ?_ _) | (with_reducible refine Kd.C_drewN ?_ _) | (with_reducible refine Kd.C_drew ?_) | exact HR316_0.out)) 0 p317 q317
                            cases e317
                            have qi317 : (0 < (rd_L2 t287 x21_3).length) = True := eq_true (by omega)
                            (try rw [show ((0 : Int)).toNat = 0 from rfl] at hx317_0)
                            (try rw [Addr.add_zero'] at hx317_0)
                            replace p317 := eq_true p317
                            replace q317 := eq_true q317
                            go_wp2_with (first | ((with_reducible refine gate_callee (f := 52) rfl ?_); refine goesL_ (some 125) rfl rfl Try.func52 (by kernel_rfl) rfl #[.slice Ao14 t284.length co14, .int .i64 (rd (rd_L2 t287 x21_3) 0)] rfl (by (try simp only [List.map_toArray, List.map_cons, List.map_nil]); first | done | rfl | (simp only [List.length_drop, List.length_take]; rfl)) ?_; (with_reducible refine (laws_hasInt.calls k3 _ _ t284 (rd (rd_L2 t287 x21_3) 0) true _ ?side1 ?side2 A64.out).mono ?_); (case side1 => repeat (first | exact (Kd.R_reads' HO_4.out).2.2 | (with_reducible refine Kd.C_alloc ?_ _) | (with_reducible refine Kd.C_drewN ?_ _) | (with_reducible refine Kd.C_drew ?_))); (case side2 => exact (Kd.R_reads' HO_4.out).2.1); rintro e w' ⟨rfl, ⟨nd, rfl⟩⟩; refine ⟨_, rfl, ?_⟩))
                            go_ret
                            exact ⟨by first | rfl | (simp [errW_none, errW_some] <;> rfl) | (simp [*, errW_none, errW_some] <;> rfl), by repeat (first | (with_reducible first | exact HB.out | apply below_alloc | apply pw_below_drewN | apply below_drew1) | exact HB.out)⟩
                          · replace c65 := Bool.eq_false_iff.mpr c65
                            subst c65
                            have H1 : (if 1 < ((rd_L2 t287 x21_3).length : Int) then ((laws_hasInt.f k3 t284 (rd (rd_L2 t287 x21_3) 1)).bind fun t321 => (if t321 = true then (some false) else (laws_FnCombos.l0 k3 t283 t284 t287 (wrap64 (x21_3 + 1))))) else (none)) = some r := by rw [if_neg (show ¬ (false = true) by decide)] at H; exact H
                            clear H
                            have H := H1
                            clear H1
                            by_cases c67 : 1 < ((rd_L2 t287 x21_3).length : Int)
                            · rw [if_pos c67] at H
                              have c67b0 : decide (1 < ((rd_L2 t287 x21_3).length : Int)) = true := decide_eq_true c67
                              have c67b1 : decide (1 < (rd_L2 t287 x21_3).length) = true := decide_eq_true (by omega)
                              clear c67
                              replace H := Option.bind_eq_some_iff.mp H
                              obtain ⟨t321, A680, H⟩ := H
                              replace H : (if t321 = true then (some false) else (laws_FnCombos.l0 k3 t283 t284 t287 (wrap64 (x21_3 + 1)))) = some r := H
                              have A68 := Aside0.mk A680
                              clear A680
                              by_cases c69 : t321 = true
                              · subst c69
                                have H1 : (some false) = some r := by rw [if_pos rfl] at H; exact H
                                clear H
                                have H := H1
                                clear H1
                                obtain rfl := Option.some.inj H
                                obtain ⟨Ao70, co70, eo70⟩ := Kd.N_slice HO_5.out
                                subst eo70
                                have p316 : 0 ≤ (x21_3 : Int) := of_decide_eq_true (by first | (with_reducible assumption) | assumption)
                                have q316 : x21_3 < (t287.length : Int) := of_decide_eq_true (by first | (with_reducible assumption) | assumption)
                                obtain ⟨ad316, A316_0, c316_0, e316, hx316_0, hl316_0, hi316_0⟩ := at_L2 (Kd.N_reads' HO_5.out).2.2 x21_3 p316 q316
                                cases e316
                                obtain ⟨ce316, hce316, hMe316, hcc316⟩ := Kd.N_get HO_5.out [] x21_3 p316 (by first | exact q316 | exact of_decide_eq_true (by first | (with_reducible assumption) | assumption) | (have e_ := (Kd.N_reads' HO_5.out).1; omega))
                                obtain ⟨ua316_0, uc316_0, rfl, ul316_0, ge316_0⟩ := Kd.FK_slice_open hMe316
                                have hv316_0 := hcc316 0 _ rfl
                                rw [Nat.add_zero, show ((Kd.slice 2 (Kd.int .i64))).sz = 1 from rfl, Nat.mul_one] at hv316_0
                                replace hv316_0 := Option.some.inj (hv316_0.symm.trans hx316_0)
                                injection hv316_0 with hva_ hvn_ hvc_
                                rw [hva_] at ge316_0
                                rw [hvc_] at ul316_0
                                have HL316_0 := Aside0.mk (show Kd.V (Kd.int .i64) 2 _ w.heap.size _ _ (rd_L2 t287 x21_3) from Kd.V_mk ul316_0 ge316_0)
                                clear hva_ hvn_ hvc_ ge316_0 ul316_0
                                clear hcc316 hce316
                                have HR316_0 := Aside0.mk hi316_0
                                have HC316_0 := Aside0.mk hl316_0
                                clear hi316_0 hl316_0
                                replace p316 := eq_true p316
                                replace q316 := eq_true q316
                                have p317 : 0 ≤ (0 : Int) := (by omega)
                                have q317 : 0 < ((rd_L2 t287 x21_3).length : Int) := of_decide_eq_true (by first | (with_reducible assumption) | assumption)
                                obtain ⟨ad317, e317, hx317_0⟩ := Kd.at_int (by repeat (first | (with_reducible exact HR316_0.out) | (with_reducible refine Kd.C_alloc ?_ _) | (with_reducible refine Kd.C_drewN ?_ _) | (with_reducible refine Kd.C_drew ?_) | exact HR316_0.out)) 0 p317 q317
                                cases e317
                                have qi317 : (0 < (rd_L2 t287 x21_3).length) = True := eq_true (by omega)
                                (try rw [show ((0 : Int)).toNat = 0 from rfl] at hx317_0)
                                (try rw [Addr.add_zero'] at hx317_0)
                                replace p317 := eq_true p317
                                replace q317 := eq_true q317
                                go_wp2_with (first | ((with_reducible refine gate_callee (f := 52) rfl ?_); refine goesL_ (some 125) rfl rfl Try.func52 (by kernel_rfl) rfl #[.slice Ao14 t284.length co14, .int .i64 (rd (rd_L2 t287 x21_3) 0)] rfl (by (try simp only [List.map_toArray, List.map_cons, List.map_nil]); first | done | rfl | (simp only [List.length_drop, List.length_take]; rfl)) ?_; (with_reducible refine (laws_hasInt.calls k3 _ _ t284 (rd (rd_L2 t287 x21_3) 0) false _ ?side1 ?side2 A64.out).mono ?_); (case side1 => repeat (first | exact (Kd.R_reads' HO_4.out).2.2 | (with_reducible refine Kd.C_alloc ?_ _) | (with_reducible refine Kd.C_drewN ?_ _) | (with_reducible refine Kd.C_drew ?_))); (case side2 => exact (Kd.R_reads' HO_4.out).2.1); rintro e w' ⟨rfl, ⟨nd, rfl⟩⟩; refine ⟨_, rfl, ?_⟩; have p319 : 0 ≤ (x21_3 : Int) := of_decide_eq_true (by first | (with_reducible assumption) | assumption); have q319 : x21_3 < (t287.length : Int) := of_decide_eq_true (by first | (with_reducible assumption) | assumption); obtain ⟨ad319, A319_0, c319_0, e319, hx319_0, hl319_0, hi319_0⟩ := at_L2 (Kd.N_reads' HO_5.out).2.2 x21_3 p319 q319; obtain rfl : ad316 = ad319 := (by injection e319); obtain ⟨ce319, hce319, hMe319, hcc319⟩ := Kd.N_get HO_5.out [] x21_3 p319 (by first | exact q319 | exact of_decide_eq_true (by first | (with_reducible assumption) | assumption) | (have e_ := (Kd.N_reads' HO_5.out).1; omega)); obtain ⟨ua319_0, uc319_0, rfl, ul319_0, ge319_0⟩ := Kd.FK_slice_open hMe319; have hv319_0 := hcc319 0 _ rfl; rw [Nat.add_zero, show ((Kd.slice 2 (Kd.int .i64))).sz = 1 from rfl, Nat.mul_one] at hv319_0; replace hv319_0 := Option.some.inj (hv319_0.symm.trans hx319_0); injection hv319_0 with hva_ hvn_ hvc_; rw [hva_] at ge319_0; rw [hvc_] at ul319_0; have HL319_0 := Aside0.mk (show Kd.V (Kd.int .i64) 2 _ w.heap.size _ _ (rd_L2 t287 x21_3) from Kd.V_mk ul319_0 ge319_0); clear hva_ hvn_ hvc_ ge319_0 ul319_0; clear hcc319 hce319; have HR319_0 := Aside0.mk hi319_0; have HC319_0 := Aside0.mk hl319_0; clear hi319_0 hl319_0; replace p319 := eq_true p319; replace q319 := eq_true q319; have ea_ := Option.some.inj (hx316_0.symm.trans hx319_0); injection ea_ with ea_ en_ ec_; subst ea_; subst ec_; clear en_; have p320 : 0 ≤ (1 : Int) := (by omega); have q320 : 1 < ((rd_L2 t287 x21_3).length : Int) := of_decide_eq_true (by first | (with_reducible assumption) | assumption); obtain ⟨ad320, e320, hx320_0⟩ := Kd.at_int (by repeat (first | (with_reducible exact HR319_0.out) | (with_reducible refine Kd.C_alloc ?_ _) | (with_reducible refine Kd.C_drewN ?_ _) | (with_reducible refine Kd.C_drew ?_) | exact HR319_0.out)) 1 p320 q320; cases e320; (try simp only [show (1 : Int).toNat = 1 from rfl, Nat.reduceMul, Nat.reduceEqDiff, Go.Addr.add, ↓reduceIte] at hx320_0); have qi320 : (1 < (rd_L2 t287 x21_3).length) = True := eq_true (by omega); (try rw [show ((1 : Int)).toNat = 1 from rfl] at hx320_0); replace p320 := eq_true p320; replace q320 := eq_true q320) | (go_at_call 52; (with_reducible refine (laws_hasInt.calls k3 _ _ t284 (rd (rd_L2 t287 x21_3) 1) true _ ?side1 ?side2 A68.out).mono ?_); (case side1 => repeat (first | exact (Kd.R_reads' HO_4.out).2.2 | (with_reducible refine Kd.C_alloc ?_ _) | (with_reducible refine Kd.C_drewN ?_ _) | (with_reducible refine Kd.C_drew ?_))); (case side2 => exact (Kd.R_reads' HO_4.out).2.1); rintro e w' ⟨rfl, ⟨nd, rfl⟩⟩))
                                go_ret
                                exact ⟨by first | rfl | (simp [errW_none, errW_some] <;> rfl) | (simp [*, errW_none, errW_some] <;> rfl), by repeat (first | (with_reducible first | exact HB.out | apply below_alloc | apply pw_below_drewN | apply below_drew1) | exact HB.out)⟩
                              · replace c69 := Bool.eq_false_iff.mpr c69
                                subst c69
                                have H1 : (laws_FnCombos.l0 k3 t283 t284 t287 (wrap64 (x21_3 + 1))) = some r := by rw [if_neg (show ¬ (false = true) by decide)] at H; exact H
                                clear H
                                have H := H1
                                clear H1
                                have H' := Aside0.mk H
                                clear H
                                obtain ⟨Ao71, co71, eo71⟩ := Kd.N_slice HO_5.out
                                subst eo71
                                have p316 : 0 ≤ (x21_3 : Int) := of_decide_eq_true (by first | (with_reducible assumption) | assumption)
                                have q316 : x21_3 < (t287.length : Int) := of_decide_eq_true (by first | (with_reducible assumption) | assumption)
                                obtain ⟨ad316, A316_0, c316_0, e316, hx316_0, hl316_0, hi316_0⟩ := at_L2 (Kd.N_reads' HO_5.out).2.2 x21_3 p316 q316
                                cases e316
                                obtain ⟨ce316, hce316, hMe316, hcc316⟩ := Kd.N_get HO_5.out [] x21_3 p316 (by first | exact q316 | exact of_decide_eq_true (by first | (with_reducible assumption) | assumption) | (have e_ := (Kd.N_reads' HO_5.out).1; omega))
                                obtain ⟨ua316_0, uc316_0, rfl, ul316_0, ge316_0⟩ := Kd.FK_slice_open hMe316
                                have hv316_0 := hcc316 0 _ rfl
                                rw [Nat.add_zero, show ((Kd.slice 2 (Kd.int .i64))).sz = 1 from rfl, Nat.mul_one] at hv316_0
                                replace hv316_0 := Option.some.inj (hv316_0.symm.trans hx316_0)
                                injection hv316_0 with hva_ hvn_ hvc_
                                rw [hva_] at ge316_0
                                rw [hvc_] at ul316_0
                                have HL316_0 := Aside0.mk (show Kd.V (Kd.int .i64) 2 _ w.heap.size _ _ (rd_L2 t287 x21_3) from Kd.V_mk ul316_0 ge316_0)
                                clear hva_ hvn_ hvc_ ge316_0 ul316_0
                                clear hcc316 hce316
                                have HR316_0 := Aside0.mk hi316_0
                                have HC316_0 := Aside0.mk hl316_0
                                clear hi316_0 hl316_0
                                replace p316 := eq_true p316
                                replace q316 := eq_true q316
                                have p317 : 0 ≤ (0 : Int) := (by omega)
                                have q317 : 0 < ((rd_L2 t287 x21_3).length : Int) := of_decide_eq_true (by first | (with_reducible assumption) | assumption)
                                obtain ⟨ad317, e317, hx317_0⟩ := Kd.at_int (by repeat (first | (with_reducible exact HR316_0.out) | (with_reducible refine Kd.C_alloc ?_ _) | (with_reducible refine Kd.C_drewN ?_ _) | (with_reducible refine Kd.C_drew ?_) | exact HR316_0.out)) 0 p317 q317
                                cases e317
                                have qi317 : (0 < (rd_L2 t287 x21_3).length) = True := eq_true (by omega)
                                (try rw [show ((0 : Int)).toNat = 0 from rfl] at hx317_0)
                                (try rw [Addr.add_zero'] at hx317_0)
                                replace p317 := eq_true p317
                                replace q317 := eq_true q317
                                go_wp2_with (first | ((with_reducible refine gate_callee (f := 52) rfl ?_); refine goesL_ (some 125) rfl rfl Try.func52 (by kernel_rfl) rfl #[.slice Ao14 t284.length co14, .int .i64 (rd (rd_L2 t287 x21_3) 0)] rfl (by (try simp only [List.map_toArray, List.map_cons, List.map_nil]); first | done | rfl | (simp only [List.length_drop, List.length_take]; rfl)) ?_; (with_reducible refine (laws_hasInt.calls k3 _ _ t284 (rd (rd_L2 t287 x21_3) 0) false _ ?side1 ?side2 A64.out).mono ?_); (case side1 => repeat (first | exact (Kd.R_reads' HO_4.out).2.2 | (with_reducible refine Kd.C_alloc ?_ _) | (with_reducible refine Kd.C_drewN ?_ _) | (with_reducible refine Kd.C_drew ?_))); (case side2 => exact (Kd.R_reads' HO_4.out).2.1); rintro e w' ⟨rfl, ⟨nd, rfl⟩⟩; refine ⟨_, rfl, ?_⟩; have p319 : 0 ≤ (x21_3 : Int) := of_decide_eq_true (by first | (with_reducible assumption) | assumption); have q319 : x21_3 < (t287.length : Int) := of_decide_eq_true (by first | (with_reducible assumption) | assumption); obtain ⟨ad319, A319_0, c319_0, e319, hx319_0, hl319_0, hi319_0⟩ := at_L2 (Kd.N_reads' HO_5.out).2.2 x21_3 p319 q319; obtain rfl : ad316 = ad319 := (by injection e319); obtain ⟨ce319, hce319, hMe319, hcc319⟩ := Kd.N_get HO_5.out [] x21_3 p319 (by first | exact q319 | exact of_decide_eq_true (by first | (with_reducible assumption) | assumption) | (have e_ := (Kd.N_reads' HO_5.out).1; omega)); obtain ⟨ua319_0, uc319_0, rfl, ul319_0, ge319_0⟩ := Kd.FK_slice_open hMe319; have hv319_0 := hcc319 0 _ rfl; rw [Nat.add_zero, show ((Kd.slice 2 (Kd.int .i64))).sz = 1 from rfl, Nat.mul_one] at hv319_0; replace hv319_0 := Option.some.inj (hv319_0.symm.trans hx319_0); injection hv319_0 with hva_ hvn_ hvc_; rw [hva_] at ge319_0; rw [hvc_] at ul319_0; have HL319_0 := Aside0.mk (show Kd.V (Kd.int .i64) 2 _ w.heap.size _ _ (rd_L2 t287 x21_3) from Kd.V_mk ul319_0 ge319_0); clear hva_ hvn_ hvc_ ge319_0 ul319_0; clear hcc319 hce319; have HR319_0 := Aside0.mk hi319_0; have HC319_0 := Aside0.mk hl319_0; clear hi319_0 hl319_0; replace p319 := eq_true p319; replace q319 := eq_true q319; have ea_ := Option.some.inj (hx316_0.symm.trans hx319_0); injection ea_ with ea_ en_ ec_; subst ea_; subst ec_; clear en_; have p320 : 0 ≤ (1 : Int) := (by omega); have q320 : 1 < ((rd_L2 t287 x21_3).length : Int) := of_decide_eq_true (by first | (with_reducible assumption) | assumption); obtain ⟨ad320, e320, hx320_0⟩ := Kd.at_int (by repeat (first | (with_reducible exact HR319_0.out) | (with_reducible refine Kd.C_alloc ?_ _) | (with_reducible refine Kd.C_drewN ?_ _) | (with_reducible refine Kd.C_drew ?_) | exact HR319_0.out)) 1 p320 q320; cases e320; (try simp only [show (1 : Int).toNat = 1 from rfl, Nat.reduceMul, Nat.reduceEqDiff, Go.Addr.add, ↓reduceIte] at hx320_0); have qi320 : (1 < (rd_L2 t287 x21_3).length) = True := eq_true (by omega); (try rw [show ((1 : Int)).toNat = 1 from rfl] at hx320_0); replace p320 := eq_true p320; replace q320 := eq_true q320) | (go_at_call 52; (with_reducible refine (laws_hasInt.calls k3 _ _ t284 (rd (rd_L2 t287 x21_3) 1) false _ ?side1 ?side2 A68.out).mono ?_); (case side1 => repeat (first | exact (Kd.R_reads' HO_4.out).2.2 | (with_reducible refine Kd.C_alloc ?_ _) | (with_reducible refine Kd.C_drewN ?_ _) | (with_reducible refine Kd.C_drew ?_))); (case side2 => exact (Kd.R_reads' HO_4.out).2.1); rintro e w' ⟨rfl, ⟨nd, rfl⟩⟩))
                                go_roundg k3
                                case measure => have := HJ11.out; have := HJ48.out; have := HK3.out; omega
                                case rel => exact ⟨(wrap64 (x21_3 + 1)), (by first | rfl | (simp; done) | (simp [*]; done)), H', ⟨by have := HJ11.out; have := HJ48.out; have := HK3.out; omega⟩, ⟨by (with_reducible repeat (first | apply Kd.R_alloc | apply Kd.R_drewN | apply Kd.R_drew)); exact HO_4.out⟩, ⟨by (with_reducible repeat (first | apply Kd.N_alloc | apply Kd.N_drewN | apply Kd.N_drew)); exact HO_5.out⟩, ⟨by repeat (first | (with_reducible first | exact HB.out | apply below_alloc | apply pw_below_drewN | apply below_drew1) | exact HB.out)⟩⟩
                            · rw [if_neg c67] at H
                              exact absurd H (by simp)
                        · rw [if_neg c63] at H
                          exact absurd H (by simp)
                      · rw [if_neg c62] at H
                        exact absurd H (by simp)
                    · rw [if_neg c61] at H
                      have c61b0 : decide (x21_3 < (t287.length : Int)) = false := decide_eq_false c61
                      clear c61
                      replace H := Option.bind_eq_some_iff.mp H
                      obtain ⟨⟨t312, t313⟩, A720, H⟩ := H
                      replace H : (if t313 = 0 then (some (decide ((t287.length : Int) ≤ (t312.length : Int)))) else (some false)) = some r := H
                      have A72 := Aside0.mk A720
                      clear A720
                      by_cases c73 : t313 = 0
                      · rw [if_pos c73] at H
                        have c73b0 : (t313 == 0) = true := beq_iff_eq.mpr c73
                        have c73b1 : (t313 != 0) = false := bne_eq_false_iff_eq.mpr c73
                        clear c73
                        obtain rfl := Option.some.inj H
                        obtain ⟨Ao74, co74, eo74⟩ := Kd.N_slice HO_5.out
                        subst eo74
                        go_wp2_with (first | ((with_reducible refine gate_callee (f := 47) rfl ?_); refine goesL_ (some 138) rfl rfl Try.func47 (by kernel_rfl) rfl #[.int .i64 t283] rfl (by (try simp only [List.map_toArray, List.map_cons, List.map_nil]); first | done | rfl | (simp only [List.length_drop, List.length_take]; rfl)) ?_; (with_reducible refine (impl_CombosOf.calls k3 t283 t312 t313 _ A72.out).mono ?_); rintro e w75 ⟨v314, rfl, ho0, hb⟩; refine ⟨_, rfl, ?_⟩; have n0_ := Aside0.mk (Kd.R_below (by (with_reducible repeat (first | apply Kd.R_alloc | apply Kd.R_drewN | apply Kd.R_drew)); exact HO_4.out) hb); have n1_ := Aside0.mk (Kd.N_elder' (by (with_reducible repeat (first | apply Kd.N_alloc | apply Kd.N_drewN | apply Kd.N_drew)); exact HO_5.out) (by first | exact Kd.N_base ho0 | exact Kd.N_base (Kd.S_N ho0)) hb); have n2_ := Aside0.mk (Kd.N_lower (Kd.N_mono (ok' := fun k_ => some k_ ≠ (.slice Ao14 t284.length co14 : Value).ownBlock ∧ some k_ ≠ (.slice Ao74 t287.length co74 : Value).ownBlock) (Kd.S_N (Kd.S_bound ho0)) (fun k_ hk_ => ⟨(Kd.fresh' (Kd.R_lt (by (with_reducible repeat (first | apply Kd.R_alloc | apply Kd.R_drewN | apply Kd.R_drew)); exact HO_4.out)) k_ hk_.2.1), (Kd.fresh' (Kd.N_lt (by (with_reducible repeat (first | apply Kd.N_alloc | apply Kd.N_drewN | apply Kd.N_drew)); exact HO_5.out)) k_ hk_.2.1)⟩)) (below_size (by repeat (first | (with_reducible first | exact HB.out | apply below_alloc | apply pw_below_drewN | apply below_drew1) | exact HB.out)))); have n3_ := Aside0.mk (below_step (by repeat (first | (with_reducible first | exact HB.out | apply below_alloc | apply pw_below_drewN | apply below_drew1) | exact HB.out)) hb); clear HO_4; clear HO_5; clear HB; have HO_4 := n0_; have HO_5 := n1_; have HO315 := n2_; have HB := n3_; clear n0_ n1_ n2_ n3_; (try clear hb); (try clear hb2); (try clear hk); (try clear hi); (try clear ho0); obtain ⟨Ao76, co76, eo76⟩ := Kd.N_slice HO315.out; subst eo76))
                        go_ret
                        exact ⟨by first | rfl | (simp [errW_none, errW_some] <;> rfl) | (simp [*, errW_none, errW_some] <;> rfl), by repeat (first | (with_reducible first | exact HB.out | apply below_alloc | apply pw_below_drewN | apply below_drew1) | exact HB.out)⟩
                      · rw [if_neg c73] at H
                        have c73b0 : (t313 == 0) = false := beq_eq_false_iff_ne.mpr c73
                        have c73b1 : (t313 != 0) = true := bne_iff_ne.mpr c73
                        obtain rfl := Option.some.inj H
                        obtain ⟨Ao77, co77, eo77⟩ := Kd.N_slice HO_5.out
                        subst eo77
                        go_wp2_with (first | ((with_reducible refine gate_callee (f := 47) rfl ?_); refine goesL_ (some 138) rfl rfl Try.func47 (by kernel_rfl) rfl #[.int .i64 t283] rfl (by (try simp only [List.map_toArray, List.map_cons, List.map_nil]); first | done | rfl | (simp only [List.length_drop, List.length_take]; rfl)) ?_; (with_reducible refine (impl_CombosOf.calls k3 t283 t312 t313 _ A72.out).mono ?_); rintro e w78 ⟨v314, rfl, ho0, hb⟩; refine ⟨_, rfl, ?_⟩; have n0_ := Aside0.mk (Kd.R_below (by (with_reducible repeat (first | apply Kd.R_alloc | apply Kd.R_drewN | apply Kd.R_drew)); exact HO_4.out) hb); have n1_ := Aside0.mk (Kd.N_elder' (by (with_reducible repeat (first | apply Kd.N_alloc | apply Kd.N_drewN | apply Kd.N_drew)); exact HO_5.out) (by first | exact Kd.N_base ho0 | exact Kd.N_base (Kd.S_N ho0)) hb); have n2_ := Aside0.mk (Kd.N_lower (Kd.N_mono (ok' := fun k_ => some k_ ≠ (.slice Ao14 t284.length co14 : Value).ownBlock ∧ some k_ ≠ (.slice Ao77 t287.length co77 : Value).ownBlock) (Kd.S_N (Kd.S_bound ho0)) (fun k_ hk_ => ⟨(Kd.fresh' (Kd.R_lt (by (with_reducible repeat (first | apply Kd.R_alloc | apply Kd.R_drewN | apply Kd.R_drew)); exact HO_4.out)) k_ hk_.2.1), (Kd.fresh' (Kd.N_lt (by (with_reducible repeat (first | apply Kd.N_alloc | apply Kd.N_drewN | apply Kd.N_drew)); exact HO_5.out)) k_ hk_.2.1)⟩)) (below_size (by repeat (first | (with_reducible first | exact HB.out | apply below_alloc | apply pw_below_drewN | apply below_drew1) | exact HB.out)))); have n3_ := Aside0.mk (below_step (by repeat (first | (with_reducible first | exact HB.out | apply below_alloc | apply pw_below_drewN | apply below_drew1) | exact HB.out)) hb); clear HO_4; clear HO_5; clear HB; have HO_4 := n0_; have HO_5 := n1_; have HO315 := n2_; have HB := n3_; clear n0_ n1_ n2_ n3_; (try clear hb); (try clear hb2); (try clear hk); (try clear hi); (try clear ho0)))
                        go_ret
                        exact ⟨by first | rfl | (simp [errW_none, errW_some] <;> rfl) | (simp [*, errW_none, errW_some] <;> rfl), by repeat (first | (with_reducible first | exact HB.out | apply below_alloc | apply pw_below_drewN | apply below_drew1) | exact HB.out)⟩
              · rw [if_neg c60] at H
                have c60b0 : (t288 == 0) = false := beq_eq_false_iff_ne.mpr c60
                have c60b1 : (t288 != 0) = true := bne_iff_ne.mpr c60
                obtain rfl := Option.some.inj H
                go_wp2
                go_ret
                exact ⟨by first | rfl | (simp [errW_none, errW_some] <;> rfl) | (simp [*, errW_none, errW_some] <;> rfl), by repeat (first | (with_reducible first | exact HB.out | apply below_alloc | apply pw_below_drewN | apply below_drew1) | exact HB.out)⟩

/-- THE ONE PURE STATEMENT of laws_FnCombos: yours. -/
def laws_FnCombos.Pure : Prop := ∀ (l0 : List Int), l0.length ≤ maxLen → l0.length * 1 ≤ 140737488351232 → (∀ x ∈ l0, (Lit.int .u8 x).wf = true) → ∃ k, laws_FnCombos.f k l0 = some true
theorem laws_FnCombos.walk (P : laws_FnCombos.Pure) (a0 : Option Addr) (len0 cap0 : Nat) (z0 : List Int) (w : World) (w0 : (a0 = none ∧ len0 = 0 ∧ cap0 = 0 ∧ z0 = []) ∨ ∃ x, a0 = some x ∧ len0 ≤ cap0 ∧ cap0 ≤ maxLen ∧ z0.length = cap0 ∧ (∀ i, i < z0.length → w.cell? (x.add i) = some (.int .u8 (z0.getD i 0))) ∧ ∀ n ∈ z0, (Lit.int .u8 n).wf = true) (y0 : len0 * 1 ≤ 140737488351232) :
    Calls Try.prog 13 #[.slice a0 len0 cap0] w fun e w' => e = .returned (.bool true) ∧ Below w.heap.size w w' := by
  obtain ⟨l0, rfl, hr0, hm0, hw0, hc0⟩ := ReadsInt.ofRowC w0
  obtain ⟨k, h⟩ := P l0 hm0 y0 hw0
  refine (laws_FnCombos.calls k _ _ l0 true w (Kd.C_of_reads (d := (0 : Int)) (h1 := fun _ => rfl) hr0) hc0 h).mono ?_
  rintro e w' ⟨rfl, hd⟩
  exact ⟨rfl, hd⟩

end Go.Proofs.Ytblfemlheolhoaa.QFnCombos
