import Derived.Test.YtblfemlheolhoaaQFnClassesx0
import Derived.Test.YtblfemlheolhoaaQFnClassesx1
import Derived.Test.YtblfemlheolhoaaQFnClassesx3
import Derived.Test.YtblfemlheolhoaaQFnClassesx4
import Derived.Test.YtblfemlheolhoaaQFnClassesx5
import Derived.Test.YtblfemlheolhoaaQFnClassesx6
import Derived.Test.YtblfemlheolhoaaQFnClassesx7
namespace Go.Proofs.Ytblfemlheolhoaa.QFnClasses
open Go.RowKit Go.Proofs.YtblfemlheolhoaaW.PrintWords Go.Proofs.YtblfemlheolhoaaW.PrintLast Go.Proofs.YtblfemlheolhoaaW.PrintMore
attribute [local go_sem] max2_int min2_int max_two min_two max_three min_three max_four min_four   -- for this text's walks alone
set_option linter.unusedVariables false
set_option linter.unusedSimpArgs false

/-! ### laws_FnClasses: function 14 -/
mutual
def laws_FnClasses.j0 : Nat → List Int → Int → Int → Int → ByteArray → Int → Bool → Option (Bool)
  | 0, _, _, _, _, _, _, _ => none
  | k + 1, x3, x4, x5, x8, x9, x10, x89 => if x89 = true then (some false) else (if x10 = 0 then ((impl_ReadClass.f k x9).bind fun bt317 => (if bt317.2 = 0 then (if bt317.1 = x8 then (laws_FnClasses.j1 k x3 x4 x5) else (some false)) else (some false))) else (laws_FnClasses.j1 k x3 x4 x5))
def laws_FnClasses.j1 : Nat → List Int → Int → Int → Option (Bool)
  | 0, _, _, _ => none
  | k + 1, x3, x4, x5 => if x5 = 0 then ((impl_CombosOf.f k x4).bind fun bt319 => (laws_FnClasses.l0 k x3 bt319.1 bt319.2 false 0)) else (some true)
def laws_FnClasses.l0 : Nat → List Int → List (List Int) → Int → Bool → Int → Option (Bool)
  | 0, _, _, _, _, _ => none
  | k + 1, x3, x20, x21, x22, x23 => if x23 < (x20.length : Int) then (if x22 = true then (laws_FnClasses.l0 k x3 x20 x21 true (wrap64 (x23 + 1))) else (if 0 ≤ x23 then (if 0 < (x3.length : Int) then (if 1 < (x3.length : Int) then ((laws_likeInts.f k (rd_L2 x20 x23) (([mn (rd x3 0) (rd x3 1), mx (rd x3 0) (rd x3 1)] : List Int))).bind fun t331 => (laws_FnClasses.l0 k x3 x20 x21 t331 (wrap64 (x23 + 1)))) else (none)) else (none)) else (none))) else (if x21 = 0 then (some x22) else (some false))
end
def laws_FnClasses.f (k : Nat) (l0 : List Int) : Option (Bool) := (laws_big.f l0).bind fun t299 => (if t299 = true then (some true) else ((spec_DrawClassOf.f k l0).bind fun t300 => ((impl_ClassOf.f k t300).bind fun bt303 => ((spec_ClassOf.f k t300).bind fun bt305 => ((spec_DrawClassText.f k l0).bind fun t307 => ((impl_ClassText.f t307).bind fun bt308 => ((spec_ClassText.f t307).bind fun bt310 => ((spec_DrawReadClass.f k l0).bind fun t312 => ((impl_ReadClass.f k t312).bind fun bt313 => ((spec_ReadClass.f k t312).bind fun bt315 => (if bt303.2 = bt305.2 then (if bt303.1 = bt305.1 then (if bt308.2 = bt310.2 then (if bt308.1.toList = bt310.1.toList then (if bt313.2 = bt315.2 then (laws_FnClasses.j0 k t300 bt303.1 bt303.2 t307 bt308.1 bt308.2 (bt313.1 != bt315.1)) else (laws_FnClasses.j0 k t300 bt303.1 bt303.2 t307 bt308.1 bt308.2 true)) else (laws_FnClasses.j0 k t300 bt303.1 bt303.2 t307 bt308.1 bt308.2 true)) else (laws_FnClasses.j0 k t300 bt303.1 bt303.2 t307 bt308.1 bt308.2 true)) else (laws_FnClasses.j0 k t300 bt303.1 bt303.2 t307 bt308.1 bt308.2 true)) else (laws_FnClasses.j0 k t300 bt303.1 bt303.2 t307 bt308.1 bt308.2 true))))))))))))
theorem laws_FnClasses.mono_l : ∀ k, (∀ y0 y1 y2 y3 y4 y5 y6, LeO (laws_FnClasses.j0 k y0 y1 y2 y3 y4 y5 y6) (laws_FnClasses.j0 (k + 1) y0 y1 y2 y3 y4 y5 y6)) ∧ (∀ y0 y1 y2, LeO (laws_FnClasses.j1 k y0 y1 y2) (laws_FnClasses.j1 (k + 1) y0 y1 y2)) ∧ (∀ y0 y1 y2 y3 y4, LeO (laws_FnClasses.l0 k y0 y1 y2 y3 y4) (laws_FnClasses.l0 (k + 1) y0 y1 y2 y3 y4))
  | 0 => ⟨fun _ _ _ _ _ _ _ r h => by simp [laws_FnClasses.j0] at h, fun _ _ _ r h => by simp [laws_FnClasses.j1] at h, fun _ _ _ _ _ r h => by simp [laws_FnClasses.l0] at h⟩
  | k + 1 => by
    obtain ⟨ih0, ih1, ih2⟩ := laws_FnClasses.mono_l k
    refine ⟨?_, ?_, ?_⟩
    · intro y0 y1 y2 y3 y4 y5 y6
      unfold laws_FnClasses.j0
      repeat' first
      | (with_reducible exact ih0 _ _ _ _ _ _ _)
      | (with_reducible exact ih1 _ _ _)
      | (with_reducible exact ih2 _ _ _ _ _)
      | (with_reducible exact impl_ClassOf.mono _ _)
      | (with_reducible exact impl_CombosOf.mono _ _)
      | (with_reducible exact impl_ReadClass.mono _ _)
      | (with_reducible exact laws_likeInts.mono _ _ _)
      | (with_reducible exact spec_ClassOf.mono _ _)
      | (with_reducible exact spec_DrawClassOf.mono _ _)
      | (with_reducible exact spec_DrawClassText.mono _ _)
      | (with_reducible exact spec_DrawReadClass.mono _ _)
      | (with_reducible exact spec_ReadClass.mono _ _)
      | (with_reducible exact LeO.refl _)
      | (with_reducible exact LeO.none _)
      | (with_reducible refine LeO.ite ?_ ?_)
      | (with_reducible refine LeO.bind ?_ (fun _ => ?_))
      | exact ih0 _ _ _ _ _ _ _
      | exact ih1 _ _ _
      | exact ih2 _ _ _ _ _
      | exact impl_ClassOf.mono _ _
      | exact impl_CombosOf.mono _ _
      | exact impl_ReadClass.mono _ _
      | exact laws_likeInts.mono _ _ _
      | exact spec_ClassOf.mono _ _
      | exact spec_DrawClassOf.mono _ _
      | exact spec_DrawClassText.mono _ _
      | exact spec_DrawReadClass.mono _ _
      | exact spec_ReadClass.mono _ _
      | exact LeO.none _
      | refine LeO.ite ?_ ?_
      | refine LeO.bind ?_ (fun _ => ?_)
    · intro y0 y1 y2
      unfold laws_FnClasses.j1
      repeat' first
      | (with_reducible exact ih0 _ _ _ _ _ _ _)
      | (with_reducible exact ih1 _ _ _)
      | (with_reducible exact ih2 _ _ _ _ _)
      | (with_reducible exact impl_ClassOf.mono _ _)
      | (with_reducible exact impl_CombosOf.mono _ _)
      | (with_reducible exact impl_ReadClass.mono _ _)
      | (with_reducible exact laws_likeInts.mono _ _ _)
      | (with_reducible exact spec_ClassOf.mono _ _)
      | (with_reducible exact spec_DrawClassOf.mono _ _)
      | (with_reducible exact spec_DrawClassText.mono _ _)
      | (with_reducible exact spec_DrawReadClass.mono _ _)
      | (with_reducible exact spec_ReadClass.mono _ _)
      | (with_reducible exact LeO.refl _)
      | (with_reducible exact LeO.none _)
      | (with_reducible refine LeO.ite ?_ ?_)
      | (with_reducible refine LeO.bind ?_ (fun _ => ?_))
      | exact ih0 _ _ _ _ _ _ _
      | exact ih1 _ _ _
      | exact ih2 _ _ _ _ _
      | exact impl_ClassOf.mono _ _
      | exact impl_CombosOf.mono _ _
      | exact impl_ReadClass.mono _ _
      | exact laws_likeInts.mono _ _ _
      | exact spec_ClassOf.mono _ _
      | exact spec_DrawClassOf.mono _ _
      | exact spec_DrawClassText.mono _ _
      | exact spec_DrawReadClass.mono _ _
      | exact spec_ReadClass.mono _ _
      | exact LeO.none _
      | refine LeO.ite ?_ ?_
      | refine LeO.bind ?_ (fun _ => ?_)
    · intro y0 y1 y2 y3 y4
      unfold laws_FnClasses.l0
      repeat' first
      | (with_reducible exact ih0 _ _ _ _ _ _ _)
      | (with_reducible exact ih1 _ _ _)
      | (with_reducible exact ih2 _ _ _ _ _)
      | (with_reducible exact impl_ClassOf.mono _ _)
      | (with_reducible exact impl_CombosOf.mono _ _)
      | (with_reducible exact impl_ReadClass.mono _ _)
      | (with_reducible exact laws_likeInts.mono _ _ _)
      | (with_reducible exact spec_ClassOf.mono _ _)
      | (with_reducible exact spec_DrawClassOf.mono _ _)
      | (with_reducible exact spec_DrawClassText.mono _ _)
      | (with_reducible exact spec_DrawReadClass.mono _ _)
      | (with_reducible exact spec_ReadClass.mono _ _)
      | (with_reducible exact LeO.refl _)
      | (with_reducible exact LeO.none _)
      | (with_reducible refine LeO.ite ?_ ?_)
      | (with_reducible refine LeO.bind ?_ (fun _ => ?_))
      | exact ih0 _ _ _ _ _ _ _
      | exact ih1 _ _ _
      | exact ih2 _ _ _ _ _
      | exact impl_ClassOf.mono _ _
      | exact impl_CombosOf.mono _ _
      | exact impl_ReadClass.mono _ _
      | exact laws_likeInts.mono _ _ _
      | exact spec_ClassOf.mono _ _
      | exact spec_DrawClassOf.mono _ _
      | exact spec_DrawClassText.mono _ _
      | exact spec_DrawReadClass.mono _ _
      | exact spec_ReadClass.mono _ _
      | exact LeO.none _
      | refine LeO.ite ?_ ?_
      | refine LeO.bind ?_ (fun _ => ?_)
theorem laws_FnClasses.mono : ∀ a0 k, LeO (laws_FnClasses.f k a0) (laws_FnClasses.f (k + 1) a0) := by
  intro a0 k
  obtain ⟨ih0, ih1, ih2⟩ := laws_FnClasses.mono_l k
  unfold laws_FnClasses.f
  repeat' first
      | (with_reducible exact ih0 _ _ _ _ _ _ _)
      | (with_reducible exact ih1 _ _ _)
      | (with_reducible exact ih2 _ _ _ _ _)
      | (with_reducible exact impl_ClassOf.mono _ _)
      | (with_reducible exact impl_CombosOf.mono _ _)
      | (with_reducible exact impl_ReadClass.mono _ _)
      | (with_reducible exact laws_likeInts.mono _ _ _)
      | (with_reducible exact spec_ClassOf.mono _ _)
      | (with_reducible exact spec_DrawClassOf.mono _ _)
      | (with_reducible exact spec_DrawClassText.mono _ _)
      | (with_reducible exact spec_DrawReadClass.mono _ _)
      | (with_reducible exact spec_ReadClass.mono _ _)
      | (with_reducible exact LeO.refl _)
      | (with_reducible exact LeO.none _)
      | (with_reducible refine LeO.ite ?_ ?_)
      | (with_reducible refine LeO.bind ?_ (fun _ => ?_))
      | exact ih0 _ _ _ _ _ _ _
      | exact ih1 _ _ _
      | exact ih2 _ _ _ _ _
      | exact impl_ClassOf.mono _ _
      | exact impl_CombosOf.mono _ _
      | exact impl_ReadClass.mono _ _
      | exact laws_likeInts.mono _ _ _
      | exact spec_ClassOf.mono _ _
      | exact spec_DrawClassOf.mono _ _
      | exact spec_DrawClassText.mono _ _
      | exact spec_DrawReadClass.mono _ _
      | exact spec_ReadClass.mono _ _
      | exact LeO.none _
      | refine LeO.ite ?_ ?_
      | refine LeO.bind ?_ (fun _ => ?_)
def laws_FnClasses.T25 : Bool × List (List Nat × List Nat) := (true, [([], []), ([0], [0]), ([1], [1]), ([1], [1]), ([2, 3, 1], [1, 2, 3]), ([4, 1], [1, 4]), ([1], [1]), ([6, 1], [1, 6]), ([7, 1], [1, 7]), ([1], [1]), ([9, 1], [1, 9]), ([10, 1], [1, 10]), ([8, 11, 1], [1, 8, 11]), ([1], [1]), ([13, 1], [1, 13]), ([14, 1], [1, 14]), ([1], [1]), ([16, 1], [1, 16]), ([17, 1], [1, 17]), ([15, 18, 1], [1, 15, 18]), ([12, 19, 1], [1, 12, 19]), ([5, 20, 1, 1], [1, 5, 20]), ([1, 21], [1, 21]), ([22, 21, 0, 1, 2, 3, 4, 5, 6, 7, 8, 9, 10, 11, 12, 13, 14, 15, 16, 17, 18, 19, 20, 21, 22], [0, 22])])
def laws_FnClasses.B25 : List Nat := [0, 1, 3, 3, 15, 31, 3, 67, 195, 3, 515, 1539, 4035, 3, 8195, 24579, 3, 65539, 196611, 516099, 1048515, 2097151, 4194303, 8388607]
theorem laws_FnClasses.tab25 : rtab .any (opsOf Try.f14 25) = laws_FnClasses.T25 := by kernel_rfl
theorem laws_FnClasses.bits25 : waitsOk laws_FnClasses.T25.2 laws_FnClasses.B25 = true := by kernel_rfl
set_option maxHeartbeats 8000000 in
set_option maxRecDepth 100000 in
theorem laws_FnClasses.calls (k : Nat) (A0 : Option Addr) (c0 : Nat) (l0 : List Int) (r : Bool) (w : World) (hr0 : Kd.C (Kd.int .u8) w A0 l0.length l0) (hc0 : l0.length ≤ c0) (h : laws_FnClasses.f k l0 = some r) :
    Calls Try.prog 14 #[.slice A0 l0.length c0] w fun e w' => e = .returned (.bool r) ∧ Below w.heap.size w w' := by
  have HR0 := Aside0.mk hr0
  have HC0 := Aside0.mk hc0
  clear hr0 hc0
  have HB := Aside0.mk (Below.refl w.heap.size w)
  have H : ((laws_big.f l0).bind fun t299 => (if t299 = true then (some true) else ((spec_DrawClassOf.f k l0).bind fun t300 => ((impl_ClassOf.f k t300).bind fun bt303 => ((spec_ClassOf.f k t300).bind fun bt305 => ((spec_DrawClassText.f k l0).bind fun t307 => ((impl_ClassText.f t307).bind fun bt308 => ((spec_ClassText.f t307).bind fun bt310 => ((spec_DrawReadClass.f k l0).bind fun t312 => ((impl_ReadClass.f k t312).bind fun bt313 => ((spec_ReadClass.f k t312).bind fun bt315 => (if bt303.2 = bt305.2 then (if bt303.1 = bt305.1 then (if bt308.2 = bt310.2 then (if bt308.1.toList = bt310.1.toList then (if bt313.2 = bt315.2 then (laws_FnClasses.j0 k t300 bt303.1 bt303.2 t307 bt308.1 bt308.2 (bt313.1 != bt315.1)) else (laws_FnClasses.j0 k t300 bt303.1 bt303.2 t307 bt308.1 bt308.2 true)) else (laws_FnClasses.j0 k t300 bt303.1 bt303.2 t307 bt308.1 bt308.2 true)) else (laws_FnClasses.j0 k t300 bt303.1 bt303.2 t307 bt308.1 bt308.2 true)) else (laws_FnClasses.j0 k t300 bt303.1 bt303.2 t307 bt308.1 bt308.2 true)) else (laws_FnClasses.j0 k t300 bt303.1 bt303.2 t307 bt308.1 bt308.2 true))))))))))))) = some r := h
  clear h
  replace H := Option.bind_eq_some_iff.mp H
  obtain ⟨t299, A20, H⟩ := H
  replace H : (if t299 = true then (some true) else ((spec_DrawClassOf.f k l0).bind fun t300 => ((impl_ClassOf.f k t300).bind fun bt303 => ((spec_ClassOf.f k t300).bind fun bt305 => ((spec_DrawClassText.f k l0).bind fun t307 => ((impl_ClassText.f t307).bind fun bt308 => ((spec_ClassText.f t307).bind fun bt310 => ((spec_DrawReadClass.f k l0).bind fun t312 => ((impl_ReadClass.f k t312).bind fun bt313 => ((spec_ReadClass.f k t312).bind fun bt315 => (if bt303.2 = bt305.2 then (if bt303.1 = bt305.1 then (if bt308.2 = bt310.2 then (if bt308.1.toList = bt310.1.toList then (if bt313.2 = bt315.2 then (laws_FnClasses.j0 k t300 bt303.1 bt303.2 t307 bt308.1 bt308.2 (bt313.1 != bt315.1)) else (laws_FnClasses.j0 k t300 bt303.1 bt303.2 t307 bt308.1 bt308.2 true)) else (laws_FnClasses.j0 k t300 bt303.1 bt303.2 t307 bt308.1 bt308.2 true)) else (laws_FnClasses.j0 k t300 bt303.1 bt303.2 t307 bt308.1 bt308.2 true)) else (laws_FnClasses.j0 k t300 bt303.1 bt303.2 t307 bt308.1 bt308.2 true)) else (laws_FnClasses.j0 k t300 bt303.1 bt303.2 t307 bt308.1 bt308.2 true)))))))))))) = some r := H
  have A2 := Aside0.mk A20
  clear A20
  by_cases c3 : t299 = true
  · subst c3
    have H1 : (some true) = some r := by rw [if_pos rfl] at H; exact H
    clear H
    have H := H1
    clear H1
    obtain rfl := Option.some.inj H
    go_enter Try.func14, Try.ntmps14
    go_wp2_with (first | ((with_reducible refine gate_callee (f := 44) rfl ?_); refine goesL_ (some 25) rfl rfl Try.func44 (by kernel_rfl) rfl #[.slice A0 l0.length c0] rfl (by (try simp only [List.map_toArray, List.map_cons, List.map_nil]); first | done | rfl | (simp only [List.length_drop, List.length_take]; rfl)) ?_; (with_reducible refine (laws_big.calls _ _ l0 true _ ?side1 ?side2 A2.out).mono ?_); (case side1 => repeat (first | exact HR0.out | (with_reducible refine Kd.C_alloc ?_ _) | (with_reducible refine Kd.C_drewN ?_ _) | (with_reducible refine Kd.C_drew ?_))); (case side2 => exact HC0.out); rintro e w' ⟨rfl, ⟨nd, rfl⟩⟩; refine ⟨_, rfl, ?_⟩))
    go_ret
    exact ⟨by first | rfl | (simp [errW_none, errW_some] <;> rfl) | (simp [*, errW_none, errW_some] <;> rfl), by repeat (first | (with_reducible first | exact HB.out | apply below_alloc | apply pw_below_drewN | apply below_drew1) | exact HB.out)⟩
  · replace c3 := Bool.eq_false_iff.mpr c3
    subst c3
    have H1 : ((spec_DrawClassOf.f k l0).bind fun t300 => ((impl_ClassOf.f k t300).bind fun bt303 => ((spec_ClassOf.f k t300).bind fun bt305 => ((spec_DrawClassText.f k l0).bind fun t307 => ((impl_ClassText.f t307).bind fun bt308 => ((spec_ClassText.f t307).bind fun bt310 => ((spec_DrawReadClass.f k l0).bind fun t312 => ((impl_ReadClass.f k t312).bind fun bt313 => ((spec_ReadClass.f k t312).bind fun bt315 => (if bt303.2 = bt305.2 then (if bt303.1 = bt305.1 then (if bt308.2 = bt310.2 then (if bt308.1.toList = bt310.1.toList then (if bt313.2 = bt315.2 then (laws_FnClasses.j0 k t300 bt303.1 bt303.2 t307 bt308.1 bt308.2 (bt313.1 != bt315.1)) else (laws_FnClasses.j0 k t300 bt303.1 bt303.2 t307 bt308.1 bt308.2 true)) else (laws_FnClasses.j0 k t300 bt303.1 bt303.2 t307 bt308.1 bt308.2 true)) else (laws_FnClasses.j0 k t300 bt303.1 bt303.2 t307 bt308.1 bt308.2 true)) else (laws_FnClasses.j0 k t300 bt303.1 bt303.2 t307 bt308.1 bt308.2 true)) else (laws_FnClasses.j0 k t300 bt303.1 bt303.2 t307 bt308.1 bt308.2 true))))))))))) = some r := by rw [if_neg (show ¬ (false = true) by decide)] at H; exact H
    clear H
    have H := H1
    clear H1
    replace H := Option.bind_eq_some_iff.mp H
    obtain ⟨t300, A40, H⟩ := H
    replace H : ((impl_ClassOf.f k t300).bind fun bt303 => ((spec_ClassOf.f k t300).bind fun bt305 => ((spec_DrawClassText.f k l0).bind fun t307 => ((impl_ClassText.f t307).bind fun bt308 => ((spec_ClassText.f t307).bind fun bt310 => ((spec_DrawReadClass.f k l0).bind fun t312 => ((impl_ReadClass.f k t312).bind fun bt313 => ((spec_ReadClass.f k t312).bind fun bt315 => (if bt303.2 = bt305.2 then (if bt303.1 = bt305.1 then (if bt308.2 = bt310.2 then (if bt308.1.toList = bt310.1.toList then (if bt313.2 = bt315.2 then (laws_FnClasses.j0 k t300 bt303.1 bt303.2 t307 bt308.1 bt308.2 (bt313.1 != bt315.1)) else (laws_FnClasses.j0 k t300 bt303.1 bt303.2 t307 bt308.1 bt308.2 true)) else (laws_FnClasses.j0 k t300 bt303.1 bt303.2 t307 bt308.1 bt308.2 true)) else (laws_FnClasses.j0 k t300 bt303.1 bt303.2 t307 bt308.1 bt308.2 true)) else (laws_FnClasses.j0 k t300 bt303.1 bt303.2 t307 bt308.1 bt308.2 true)) else (laws_FnClasses.j0 k t300 bt303.1 bt303.2 t307 bt308.1 bt308.2 true)))))))))) = some r := H
    have A4 := Aside0.mk A40
    clear A40
    replace H := Option.bind_eq_some_iff.mp H
    obtain ⟨⟨t303, t304⟩, A50, H⟩ := H
    replace H : ((spec_ClassOf.f k t300).bind fun bt305 => ((spec_DrawClassText.f k l0).bind fun t307 => ((impl_ClassText.f t307).bind fun bt308 => ((spec_ClassText.f t307).bind fun bt310 => ((spec_DrawReadClass.f k l0).bind fun t312 => ((impl_ReadClass.f k t312).bind fun bt313 => ((spec_ReadClass.f k t312).bind fun bt315 => (if t304 = bt305.2 then (if t303 = bt305.1 then (if bt308.2 = bt310.2 then (if bt308.1.toList = bt310.1.toList then (if bt313.2 = bt315.2 then (laws_FnClasses.j0 k t300 t303 t304 t307 bt308.1 bt308.2 (bt313.1 != bt315.1)) else (laws_FnClasses.j0 k t300 t303 t304 t307 bt308.1 bt308.2 true)) else (laws_FnClasses.j0 k t300 t303 t304 t307 bt308.1 bt308.2 true)) else (laws_FnClasses.j0 k t300 t303 t304 t307 bt308.1 bt308.2 true)) else (laws_FnClasses.j0 k t300 t303 t304 t307 bt308.1 bt308.2 true)) else (laws_FnClasses.j0 k t300 t303 t304 t307 bt308.1 bt308.2 true))))))))) = some r := H
    have A5 := Aside0.mk A50
    clear A50
    replace H := Option.bind_eq_some_iff.mp H
    obtain ⟨⟨t305, t306⟩, A60, H⟩ := H
    replace H : ((spec_DrawClassText.f k l0).bind fun t307 => ((impl_ClassText.f t307).bind fun bt308 => ((spec_ClassText.f t307).bind fun bt310 => ((spec_DrawReadClass.f k l0).bind fun t312 => ((impl_ReadClass.f k t312).bind fun bt313 => ((spec_ReadClass.f k t312).bind fun bt315 => (if t304 = t306 then (if t303 = t305 then (if bt308.2 = bt310.2 then (if bt308.1.toList = bt310.1.toList then (if bt313.2 = bt315.2 then (laws_FnClasses.j0 k t300 t303 t304 t307 bt308.1 bt308.2 (bt313.1 != bt315.1)) else (laws_FnClasses.j0 k t300 t303 t304 t307 bt308.1 bt308.2 true)) else (laws_FnClasses.j0 k t300 t303 t304 t307 bt308.1 bt308.2 true)) else (laws_FnClasses.j0 k t300 t303 t304 t307 bt308.1 bt308.2 true)) else (laws_FnClasses.j0 k t300 t303 t304 t307 bt308.1 bt308.2 true)) else (laws_FnClasses.j0 k t300 t303 t304 t307 bt308.1 bt308.2 true)))))))) = some r := H
    have A6 := Aside0.mk A60
    clear A60
    replace H := Option.bind_eq_some_iff.mp H
    obtain ⟨t307, A70, H⟩ := H
    replace H : ((impl_ClassText.f t307).bind fun bt308 => ((spec_ClassText.f t307).bind fun bt310 => ((spec_DrawReadClass.f k l0).bind fun t312 => ((impl_ReadClass.f k t312).bind fun bt313 => ((spec_ReadClass.f k t312).bind fun bt315 => (if t304 = t306 then (if t303 = t305 then (if bt308.2 = bt310.2 then (if bt308.1.toList = bt310.1.toList then (if bt313.2 = bt315.2 then (laws_FnClasses.j0 k t300 t303 t304 t307 bt308.1 bt308.2 (bt313.1 != bt315.1)) else (laws_FnClasses.j0 k t300 t303 t304 t307 bt308.1 bt308.2 true)) else (laws_FnClasses.j0 k t300 t303 t304 t307 bt308.1 bt308.2 true)) else (laws_FnClasses.j0 k t300 t303 t304 t307 bt308.1 bt308.2 true)) else (laws_FnClasses.j0 k t300 t303 t304 t307 bt308.1 bt308.2 true)) else (laws_FnClasses.j0 k t300 t303 t304 t307 bt308.1 bt308.2 true))))))) = some r := H
    have A7 := Aside0.mk A70
    clear A70
    replace H := Option.bind_eq_some_iff.mp H
    obtain ⟨⟨t308, t309⟩, A80, H⟩ := H
    replace H : ((spec_ClassText.f t307).bind fun bt310 => ((spec_DrawReadClass.f k l0).bind fun t312 => ((impl_ReadClass.f k t312).bind fun bt313 => ((spec_ReadClass.f k t312).bind fun bt315 => (if t304 = t306 then (if t303 = t305 then (if t309 = bt310.2 then (if t308.toList = bt310.1.toList then (if bt313.2 = bt315.2 then (laws_FnClasses.j0 k t300 t303 t304 t307 t308 t309 (bt313.1 != bt315.1)) else (laws_FnClasses.j0 k t300 t303 t304 t307 t308 t309 true)) else (laws_FnClasses.j0 k t300 t303 t304 t307 t308 t309 true)) else (laws_FnClasses.j0 k t300 t303 t304 t307 t308 t309 true)) else (laws_FnClasses.j0 k t300 t303 t304 t307 t308 t309 true)) else (laws_FnClasses.j0 k t300 t303 t304 t307 t308 t309 true)))))) = some r := H
    have A8 := Aside0.mk A80
    clear A80
    replace H := Option.bind_eq_some_iff.mp H
    obtain ⟨⟨t310, t311⟩, A90, H⟩ := H
    replace H : ((spec_DrawReadClass.f k l0).bind fun t312 => ((impl_ReadClass.f k t312).bind fun bt313 => ((spec_ReadClass.f k t312).bind fun bt315 => (if t304 = t306 then (if t303 = t305 then (if t309 = t311 then (if t308.toList = t310.toList then (if bt313.2 = bt315.2 then (laws_FnClasses.j0 k t300 t303 t304 t307 t308 t309 (bt313.1 != bt315.1)) else (laws_FnClasses.j0 k t300 t303 t304 t307 t308 t309 true)) else (laws_FnClasses.j0 k t300 t303 t304 t307 t308 t309 true)) else (laws_FnClasses.j0 k t300 t303 t304 t307 t308 t309 true)) else (laws_FnClasses.j0 k t300 t303 t304 t307 t308 t309 true)) else (laws_FnClasses.j0 k t300 t303 t304 t307 t308 t309 true))))) = some r := H
    have A9 := Aside0.mk A90
    clear A90
    replace H := Option.bind_eq_some_iff.mp H
    obtain ⟨t312, A100, H⟩ := H
    replace H : ((impl_ReadClass.f k t312).bind fun bt313 => ((spec_ReadClass.f k t312).bind fun bt315 => (if t304 = t306 then (if t303 = t305 then (if t309 = t311 then (if t308.toList = t310.toList then (if bt313.2 = bt315.2 then (laws_FnClasses.j0 k t300 t303 t304 t307 t308 t309 (bt313.1 != bt315.1)) else (laws_FnClasses.j0 k t300 t303 t304 t307 t308 t309 true)) else (laws_FnClasses.j0 k t300 t303 t304 t307 t308 t309 true)) else (laws_FnClasses.j0 k t300 t303 t304 t307 t308 t309 true)) else (laws_FnClasses.j0 k t300 t303 t304 t307 t308 t309 true)) else (laws_FnClasses.j0 k t300 t303 t304 t307 t308 t309 true)))) = some r := H
    have A10 := Aside0.mk A100
    clear A100
    replace H := Option.bind_eq_some_iff.mp H
    obtain ⟨⟨t313, t314⟩, A110, H⟩ := H
    replace H : ((spec_ReadClass.f k t312).bind fun bt315 => (if t304 = t306 then (if t303 = t305 then (if t309 = t311 then (if t308.toList = t310.toList then (if t314 = bt315.2 then (laws_FnClasses.j0 k t300 t303 t304 t307 t308 t309 (t313 != bt315.1)) else (laws_FnClasses.j0 k t300 t303 t304 t307 t308 t309 true)) else (laws_FnClasses.j0 k t300 t303 t304 t307 t308 t309 true)) else (laws_FnClasses.j0 k t300 t303 t304 t307 t308 t309 true)) else (laws_FnClasses.j0 k t300 t303 t304 t307 t308 t309 true)) else (laws_FnClasses.j0 k t300 t303 t304 t307 t308 t309 true))) = some r := H
    have A11 := Aside0.mk A110
    clear A110
    replace H := Option.bind_eq_some_iff.mp H
    obtain ⟨⟨t315, t316⟩, A120, H⟩ := H
    replace H : (if t304 = t306 then (if t303 = t305 then (if t309 = t311 then (if t308.toList = t310.toList then (if t314 = t316 then (laws_FnClasses.j0 k t300 t303 t304 t307 t308 t309 (t313 != t315)) else (laws_FnClasses.j0 k t300 t303 t304 t307 t308 t309 true)) else (laws_FnClasses.j0 k t300 t303 t304 t307 t308 t309 true)) else (laws_FnClasses.j0 k t300 t303 t304 t307 t308 t309 true)) else (laws_FnClasses.j0 k t300 t303 t304 t307 t308 t309 true)) else (laws_FnClasses.j0 k t300 t303 t304 t307 t308 t309 true)) = some r := H
    have A12 := Aside0.mk A120
    clear A120
    have HC13 := Aside0.mk H
    clear H
    go_enter Try.func14, Try.ntmps14
    go_upto_region 12 with (first | ((with_reducible refine gate_callee (f := 44) rfl ?_); refine goesL_ (some 25) rfl rfl Try.func44 (by kernel_rfl) rfl #[.slice A0 l0.length c0] rfl (by (try simp only [List.map_toArray, List.map_cons, List.map_nil]); first | done | rfl | (simp only [List.length_drop, List.length_take]; rfl)) ?_; (with_reducible refine (laws_big.calls _ _ l0 false _ ?side1 ?side2 A2.out).mono ?_); (case side1 => repeat (first | exact HR0.out | (with_reducible refine Kd.C_alloc ?_ _) | (with_reducible refine Kd.C_drewN ?_ _) | (with_reducible refine Kd.C_drew ?_))); (case side2 => exact HC0.out); rintro e w' ⟨rfl, ⟨nd, rfl⟩⟩; refine ⟨_, rfl, ?_⟩) | ((with_reducible refine gate_callee (f := 53) rfl ?_); refine goesL_ (some 27) rfl rfl Try.func53 (by kernel_rfl) rfl #[.slice A0 l0.length c0] rfl (by (try simp only [List.map_toArray, List.map_cons, List.map_nil]); first | done | rfl | (simp only [List.length_drop, List.length_take]; rfl)) ?_; (with_reducible refine (spec_DrawClassOf.calls k _ _ l0 t300 _ ?side1 ?side2 A4.out).mono ?_); (case side1 => repeat (first | exact HR0.out | (with_reducible refine Kd.C_alloc ?_ _) | (with_reducible refine Kd.C_drewN ?_ _) | (with_reducible refine Kd.C_drew ?_))); (case side2 => exact HC0.out); rintro e w14 ⟨v301, rfl, ho0, hb⟩; refine ⟨_, rfl, ?_⟩; have n0_ := Aside0.mk (Kd.R_lower ho0 (below_size (by repeat (first | (with_reducible first | exact HB.out | apply below_alloc | apply pw_below_drewN | apply below_drew1) | exact HB.out)))); have n1_ := Aside0.mk (below_step (by repeat (first | (with_reducible first | exact HB.out | apply below_alloc | apply pw_below_drewN | apply below_drew1) | exact HB.out)) hb); clear HB; have HO302 := n0_; have HB := n1_; clear n0_ n1_; (try clear hb); (try clear hb2); (try clear hk); (try clear hi); (try clear ho0); obtain ⟨Ao15, co15, eo15⟩ := Kd.R_slice HO302.out; subst eo15) | ((with_reducible refine gate_callee (f := 54) rfl ?_); refine goesL_ (some 30) rfl rfl Try.func54 (by kernel_rfl) rfl #[.slice Ao15 t300.length co15] rfl (by (try simp only [List.map_toArray, List.map_cons, List.map_nil]); first | done | rfl | (simp only [List.length_drop, List.length_take]; rfl)) ?_; (with_reducible refine (impl_ClassOf.calls k _ _ t300 t303 t304 _ ?side1 ?side2 A5.out).mono ?_); (case side1 => repeat (first | exact (Kd.R_reads' HO302.out).2.2 | (with_reducible refine Kd.C_alloc ?_ _) | (with_reducible refine Kd.C_drewN ?_ _) | (with_reducible refine Kd.C_drew ?_))); (case side2 => exact (Kd.R_reads' HO302.out).2.1); rintro e w16 ⟨rfl, hb⟩; refine ⟨_, rfl, ?_⟩; have n0_ := Aside0.mk (Kd.R_below (by (with_reducible repeat (first | apply Kd.R_alloc | apply Kd.R_drewN | apply Kd.R_drew)); exact HO302.out) hb); have n1_ := Aside0.mk (below_step (by repeat (first | (with_reducible first | exact HB.out | apply below_alloc | apply pw_below_drewN | apply below_drew1) | exact HB.out)) hb); clear HO302; clear HB; have HO302 := n0_; have HB := n1_; clear n0_ n1_; (try clear hb); (try clear hb2); (try clear hk); (try clear hi)) | ((with_reducible refine gate_callee (f := 55) rfl ?_); refine goesL_ (some 35) rfl rfl Try.func55 (by kernel_rfl) rfl #[.slice Ao15 t300.length co15] rfl (by (try simp only [List.map_toArray, List.map_cons, List.map_nil]); first | done | rfl | (simp only [List.length_drop, List.length_take]; rfl)) ?_; (with_reducible refine (spec_ClassOf.calls k _ _ t300 t305 t306 _ ?side1 ?side2 A6.out).mono ?_); (case side1 => repeat (first | exact (Kd.R_reads' HO302.out).2.2 | (with_reducible refine Kd.C_alloc ?_ _) | (with_reducible refine Kd.C_drewN ?_ _) | (with_reducible refine Kd.C_drew ?_))); (case side2 => exact (Kd.R_reads' HO302.out).2.1); rintro e w17 ⟨rfl, hb⟩; refine ⟨_, rfl, ?_⟩; have n0_ := Aside0.mk (Kd.R_below (by (with_reducible repeat (first | apply Kd.R_alloc | apply Kd.R_drewN | apply Kd.R_drew)); exact HO302.out) hb); have n1_ := Aside0.mk (below_step (by repeat (first | (with_reducible first | exact HB.out | apply below_alloc | apply pw_below_drewN | apply below_drew1) | exact HB.out)) hb); clear HO302; clear HB; have HO302 := n0_; have HB := n1_; clear n0_ n1_; (try clear hb); (try clear hb2); (try clear hk); (try clear hi)) | ((with_reducible refine gate_callee (f := 56) rfl ?_); refine goesL_ (some 39) rfl rfl Try.func56 (by kernel_rfl) rfl #[.slice A0 l0.length c0] rfl (by (try simp only [List.map_toArray, List.map_cons, List.map_nil]); first | done | rfl | (simp only [List.length_drop, List.length_take]; rfl)) ?_; (with_reducible refine (spec_DrawClassText.calls k _ _ l0 t307 _ ?side1 ?side2 A7.out).mono ?_); (case side1 => repeat (first | exact (Kd.C_below HR0.out HB.out) | (with_reducible refine Kd.C_alloc ?_ _) | (with_reducible refine Kd.C_drewN ?_ _) | (with_reducible refine Kd.C_drew ?_))); (case side2 => exact HC0.out); rintro e w18 ⟨rfl, hb⟩; refine ⟨_, rfl, ?_⟩; have n0_ := Aside0.mk (Kd.R_below (by (with_reducible repeat (first | apply Kd.R_alloc | apply Kd.R_drewN | apply Kd.R_drew)); exact HO302.out) hb); have n1_ := Aside0.mk (below_step (by repeat (first | (with_reducible first | exact HB.out | apply below_alloc | apply pw_below_drewN | apply below_drew1) | exact HB.out)) hb); clear HO302; clear HB; have HO302 := n0_; have HB := n1_; clear n0_ n1_; (try clear hb); (try clear hb2); (try clear hk); (try clear hi)) | ((with_reducible refine gate_callee (f := 57) rfl ?_); refine goesL_ (some 42) rfl rfl Try.func57 (by kernel_rfl) rfl #[.int .i64 t307] rfl (by (try simp only [List.map_toArray, List.map_cons, List.map_nil]); first | done | rfl | (simp only [List.length_drop, List.length_take]; rfl)) ?_; (with_reducible refine (impl_ClassText.calls t307 t308 t309 _ A8.out).mono ?_); rintro e w19 ⟨rfl, hb⟩; refine ⟨_, rfl, ?_⟩; have n0_ := Aside0.mk (Kd.R_below (by (with_reducible repeat (first | apply Kd.R_alloc | apply Kd.R_drewN | apply Kd.R_drew)); exact HO302.out) hb); have n1_ := Aside0.mk (below_step (by repeat (first | (with_reducible first | exact HB.out | apply below_alloc | apply pw_below_drewN | apply below_drew1) | exact HB.out)) hb); clear HO302; clear HB; have HO302 := n0_; have HB := n1_; clear n0_ n1_; (try clear hb); (try clear hb2); (try clear hk); (try clear hi)) | ((with_reducible refine gate_callee (f := 58) rfl ?_); refine goesL_ (some 47) rfl rfl Try.func58 (by kernel_rfl) rfl #[.int .i64 t307] rfl (by (try simp only [List.map_toArray, List.map_cons, List.map_nil]); first | done | rfl | (simp only [List.length_drop, List.length_take]; rfl)) ?_; (with_reducible refine (spec_ClassText.calls t307 t310 t311 _ A9.out).mono ?_); rintro e w20 ⟨rfl, hb⟩; refine ⟨_, rfl, ?_⟩; have n0_ := Aside0.mk (Kd.R_below (by (with_reducible repeat (first | apply Kd.R_alloc | apply Kd.R_drewN | apply Kd.R_drew)); exact HO302.out) hb); have n1_ := Aside0.mk (below_step (by repeat (first | (with_reducible first | exact HB.out | apply below_alloc | apply pw_below_drewN | apply below_drew1) | exact HB.out)) hb); clear HO302; clear HB; have HO302 := n0_; have HB := n1_; clear n0_ n1_; (try clear hb); (try clear hb2); (try clear hk); (try clear hi)) | ((with_reducible refine gate_callee (f := 59) rfl ?_); refine goesL_ (some 51) rfl rfl Try.func59 (by kernel_rfl) rfl #[.slice A0 l0.length c0] rfl (by (try simp only [List.map_toArray, List.map_cons, List.map_nil]); first | done | rfl | (simp only [List.length_drop, List.length_take]; rfl)) ?_; (with_reducible refine (spec_DrawReadClass.calls k _ _ l0 t312 _ ?side1 ?side2 A10.out).mono ?_); (case side1 => repeat (first | exact (Kd.C_below HR0.out HB.out) | (with_reducible refine Kd.C_alloc ?_ _) | (with_reducible refine Kd.C_drewN ?_ _) | (with_reducible refine Kd.C_drew ?_))); (case side2 => exact HC0.out); rintro e w21 ⟨rfl, hb⟩; refine ⟨_, rfl, ?_⟩; have n0_ := Aside0.mk (Kd.R_below (by (with_reducible repeat (first | apply Kd.R_alloc | apply Kd.R_drewN | apply Kd.R_drew)); exact HO302.out) hb); have n1_ := Aside0.mk (below_step (by repeat (first | (with_reducible first | exact HB.out | apply below_alloc | apply pw_below_drewN | apply below_drew1) | exact HB.out)) hb); clear HO302; clear HB; have HO302 := n0_; have HB := n1_; clear n0_ n1_; (try clear hb); (try clear hb2); (try clear hk); (try clear hi)) | ((with_reducible refine gate_callee (f := 60) rfl ?_); refine goesL_ (some 54) rfl rfl Try.func60 (by kernel_rfl) rfl #[.string t312] rfl (by (try simp only [List.map_toArray, List.map_cons, List.map_nil]); first | done | rfl | (simp only [List.length_drop, List.length_take]; rfl)) ?_; (with_reducible refine (impl_ReadClass.calls k t312 t313 t314 _ A11.out).mono ?_); rintro e w22 ⟨rfl, hb⟩; refine ⟨_, rfl, ?_⟩; have n0_ := Aside0.mk (Kd.R_below (by (with_reducible repeat (first | apply Kd.R_alloc | apply Kd.R_drewN | apply Kd.R_drew)); exact HO302.out) hb); have n1_ := Aside0.mk (below_step (by repeat (first | (with_reducible first | exact HB.out | apply below_alloc | apply pw_below_drewN | apply below_drew1) | exact HB.out)) hb); clear HO302; clear HB; have HO302 := n0_; have HB := n1_; clear n0_ n1_; (try clear hb); (try clear hb2); (try clear hk); (try clear hi)) | ((with_reducible refine gate_callee (f := 61) rfl ?_); refine goesL_ (some 59) rfl rfl Try.func61 (by kernel_rfl) rfl #[.string t312] rfl (by (try simp only [List.map_toArray, List.map_cons, List.map_nil]); first | done | rfl | (simp only [List.length_drop, List.length_take]; rfl)) ?_; (with_reducible refine (spec_ReadClass.calls k t312 t315 t316 _ A12.out).mono ?_); rintro e w23 ⟨rfl, hb⟩; refine ⟨_, rfl, ?_⟩; have n0_ := Aside0.mk (Kd.R_below (by (with_reducible repeat (first | apply Kd.R_alloc | apply Kd.R_drewN | apply Kd.R_drew)); exact HO302.out) hb); have n1_ := Aside0.mk (below_step (by repeat (first | (with_reducible first | exact HB.out | apply below_alloc | apply pw_below_drewN | apply below_drew1) | exact HB.out)) hb); clear HO302; clear HB; have HO302 := n0_; have HB := n1_; clear n0_ n1_; (try clear hb); (try clear hb2); (try clear hk); (try clear hi)))
    (try simp only [Act.put, List.setIfInBounds_toArray, List.set_cons_zero, List.set_cons_succ])
    go_cut [89] (fun v89 wc => ∃ (kq : Nat) (x89_12 : Bool), v89 = .bool x89_12 ∧ Aside0 (laws_FnClasses.j0 kq t300 t303 t304 t307 t308 t309 x89_12 = some r) ∧ Aside0 (kq ≤ k) ∧ Aside0 (Kd.R (Kd.int .i64) 2 wc w.heap.size (fun _ => True) (.slice Ao15 t300.length co15) t300) ∧ Aside0 (Below w.heap.size w wc))
    case first =>
      have H := HC13.out
      clear HC13
      by_cases c24 : t304 = t306
      · rw [if_pos c24] at H
        have c24b0 : (t304 == t306) = true := beq_iff_eq.mpr c24
        have c24b1 : (t304 != t306) = false := bne_eq_false_iff_eq.mpr c24
        clear c24
        (first | rw [c24b0] | (simp only [i64_w, i32_w]; rw [c24b0]) | skip)
        by_cases c25 : t303 = t305
        · rw [if_pos c25] at H
          have c25b0 : (t303 == t305) = true := beq_iff_eq.mpr c25
          have c25b1 : (t303 != t305) = false := bne_eq_false_iff_eq.mpr c25
          clear c25
          by_cases c26 : t309 = t311
          · rw [if_pos c26] at H
            have c26b0 : (t309 == t311) = true := beq_iff_eq.mpr c26
            have c26b1 : (t309 != t311) = false := bne_eq_false_iff_eq.mpr c26
            clear c26
            by_cases c27 : t308.toList = t310.toList
            · rw [if_pos c27] at H
              have c27b0 : (t308.toList == t310.toList) = true := beq_iff_eq.mpr c27
              have c27b1 : (t308.toList != t310.toList) = false := bne_eq_false_iff_eq.mpr c27
              clear c27
              by_cases c28 : t314 = t316
              · rw [if_pos c28] at H
                have c28b0 : (t314 == t316) = true := beq_iff_eq.mpr c28
                have c28b1 : (t314 != t316) = false := bne_eq_false_iff_eq.mpr c28
                clear c28
                have H' := Aside0.mk H
                clear H
                go_wp2
                go_meet
                case rel => exact ⟨_, ((t313 != t315)), (by first | rfl | (simp; done) | (simp [*]; done)), H', ⟨by first | omega | exact Nat.le_refl _⟩, ⟨by (with_reducible repeat (first | apply Kd.R_alloc | apply Kd.R_drewN | apply Kd.R_drew)); exact HO302.out⟩, ⟨by repeat (first | (with_reducible first | exact HB.out | apply below_alloc | apply pw_below_drewN | apply below_drew1) | exact HB.out)⟩⟩
              · rw [if_neg c28] at H
                have c28b0 : (t314 == t316) = false := beq_eq_false_iff_ne.mpr c28
                have c28b1 : (t314 != t316) = true := bne_iff_ne.mpr c28
                have H' := Aside0.mk H
                clear H
                go_wp2
                go_meet
                case rel => exact ⟨_, (true), (by first | rfl | (simp; done) | (simp [*]; done)), H', ⟨by first | omega | exact Nat.le_refl _⟩, ⟨by (with_reducible repeat (first | apply Kd.R_alloc | apply Kd.R_drewN | apply Kd.R_drew)); exact HO302.out⟩, ⟨by repeat (first | (with_reducible first | exact HB.out | apply below_alloc | apply pw_below_drewN | apply below_drew1) | exact HB.out)⟩⟩
            · rw [if_neg c27] at H
              have c27b0 : (t308.toList == t310.toList) = false := beq_eq_false_iff_ne.mpr c27
              have c27b1 : (t308.toList != t310.toList) = true := bne_iff_ne.mpr c27
              have H' := Aside0.mk H
              clear H
              go_wp2
              go_meet
              case rel => exact ⟨_, (true), (by first | rfl | (simp; done) | (simp [*]; done)), H', ⟨by first | omega | exact Nat.le_refl _⟩, ⟨by (with_reducible repeat (first | apply Kd.R_alloc | apply Kd.R_drewN | apply Kd.R_drew)); exact HO302.out⟩, ⟨by repeat (first | (with_reducible first | exact HB.out | apply below_alloc | apply pw_below_drewN | apply below_drew1) | exact HB.out)⟩⟩
          · rw [if_neg c26] at H
            have c26b0 : (t309 == t311) = false := beq_eq_false_iff_ne.mpr c26
            have c26b1 : (t309 != t311) = true := bne_iff_ne.mpr c26
            have H' := Aside0.mk H
            clear H
            go_wp2
            go_meet
            case rel => exact ⟨_, (true), (by first | rfl | (simp; done) | (simp [*]; done)), H', ⟨by first | omega | exact Nat.le_refl _⟩, ⟨by (with_reducible repeat (first | apply Kd.R_alloc | apply Kd.R_drewN | apply Kd.R_drew)); exact HO302.out⟩, ⟨by repeat (first | (with_reducible first | exact HB.out | apply below_alloc | apply pw_below_drewN | apply below_drew1) | exact HB.out)⟩⟩
        · rw [if_neg c25] at H
          have c25b0 : (t303 == t305) = false := beq_eq_false_iff_ne.mpr c25
          have c25b1 : (t303 != t305) = true := bne_iff_ne.mpr c25
          have H' := Aside0.mk H
          clear H
          go_wp2
          go_meet
          case rel => exact ⟨_, (true), (by first | rfl | (simp; done) | (simp [*]; done)), H', ⟨by first | omega | exact Nat.le_refl _⟩, ⟨by (with_reducible repeat (first | apply Kd.R_alloc | apply Kd.R_drewN | apply Kd.R_drew)); exact HO302.out⟩, ⟨by repeat (first | (with_reducible first | exact HB.out | apply below_alloc | apply pw_below_drewN | apply below_drew1) | exact HB.out)⟩⟩
      · rw [if_neg c24] at H
        have c24b0 : (t304 == t306) = false := beq_eq_false_iff_ne.mpr c24
        have c24b1 : (t304 != t306) = true := bne_iff_ne.mpr c24
        (first | rw [c24b0] | (simp only [i64_w, i32_w]; rw [c24b0]) | skip)
        have H' := Aside0.mk H
        clear H
        go_wp2
        go_meet
        case rel => exact ⟨_, (true), (by first | rfl | (simp; done) | (simp [*]; done)), H', ⟨by first | omega | exact Nat.le_refl _⟩, ⟨by (with_reducible repeat (first | apply Kd.R_alloc | apply Kd.R_drewN | apply Kd.R_drew)); exact HO302.out⟩, ⟨by repeat (first | (with_reducible first | exact HB.out | apply below_alloc | apply pw_below_drewN | apply below_drew1) | exact HB.out)⟩⟩
    case rest =>
      clear HC13
      try clear c1
      try clear c2
      try clear p2
      try clear c3
      try clear c4
      try clear c5
      try clear c6
      try clear c14
      try clear c24
      try clear c24b0
      try clear c24b1
      try clear c25
      try clear c25b0
      try clear c25b1
      try clear c26
      try clear c26b0
      try clear c26b1
      try clear c27
      try clear c27b0
      try clear c27b1
      try clear c28
      try clear c28b0
      try clear c28b1
      obtain ⟨kq, x89_12, rfl, HA, HJ12, HO_3, HB⟩ := hcut
      cases kq with
      | zero => exact absurd HA.out (by simp [laws_FnClasses.j0])
      | succ kj12 =>
        have H := HA.out
        clear HA
        simp only [laws_FnClasses.j0] at H
        by_cases c29 : x89_12 = true
        · subst c29
          have H1 : (some false) = some r := by rw [if_pos rfl] at H; exact H
          clear H
          have H := H1
          clear H1
          obtain rfl := Option.some.inj H
          go_wp2
          go_ret
          exact ⟨by first | rfl | (simp [errW_none, errW_some] <;> rfl) | (simp [*, errW_none, errW_some] <;> rfl), by repeat (first | (with_reducible first | exact HB.out | apply below_alloc | apply pw_below_drewN | apply below_drew1) | exact HB.out)⟩
        · replace c29 := Bool.eq_false_iff.mpr c29
          subst c29
          have H1 : (if t309 = 0 then ((impl_ReadClass.f kj12 t308).bind fun bt317 => (if bt317.2 = 0 then (if bt317.1 = t307 then (laws_FnClasses.j1 kj12 t300 t303 t304) else (some false)) else (some false))) else (laws_FnClasses.j1 kj12 t300 t303 t304)) = some r := by rw [if_neg (show ¬ (false = true) by decide)] at H; exact H
          clear H
          have H := H1
          clear H1
          have HC30 := Aside0.mk H
          clear H
          go_upto_if 91 with (fail)
          go_cut [] (fun wc => ∃ (kq : Nat), Aside0 (laws_FnClasses.j1 kq t300 t303 t304 = some r) ∧ Aside0 (kq ≤ kj12) ∧ Aside0 (Kd.R (Kd.int .i64) 2 wc w.heap.size (fun _ => True) (.slice Ao15 t300.length co15) t300) ∧ Aside0 (Below w.heap.size w wc))
          case first =>
            have H := HC30.out
            clear HC30
            by_cases c31 : t309 = 0
            · rw [if_pos c31] at H
              have c31b0 : (t309 == 0) = true := beq_iff_eq.mpr c31
              have c31b1 : (t309 != 0) = false := bne_eq_false_iff_eq.mpr c31
              clear c31
              (first | rw [c31b0] | (simp only [i64_w, i32_w]; rw [c31b0]) | skip)
              replace H := Option.bind_eq_some_iff.mp H
              obtain ⟨⟨t317, t318⟩, A320, H⟩ := H
              replace H : (if t318 = 0 then (if t317 = t307 then (laws_FnClasses.j1 kj12 t300 t303 t304) else (some false)) else (some false)) = some r := H
              have A32 := Aside0.mk A320
              clear A320
              by_cases c33 : t318 = 0
              · rw [if_pos c33] at H
                have c33b0 : (t318 == 0) = true := beq_iff_eq.mpr c33
                have c33b1 : (t318 != 0) = false := bne_eq_false_iff_eq.mpr c33
                clear c33
                by_cases c34 : t317 = t307
                · rw [if_pos c34] at H
                  have c34b0 : (t317 == t307) = true := beq_iff_eq.mpr c34
                  have c34b1 : (t317 != t307) = false := bne_eq_false_iff_eq.mpr c34
                  clear c34
                  have H' := Aside0.mk H
                  clear H
                  go_wp2_with (first | ((with_reducible refine gate_callee (f := 60) rfl ?_); refine goesL_ (some 94) rfl rfl Try.func60 (by kernel_rfl) rfl #[.string t308] rfl (by (try simp only [List.map_toArray, List.map_cons, List.map_nil]); first | done | rfl | (simp only [List.length_drop, List.length_take]; rfl)) ?_; (with_reducible refine (impl_ReadClass.calls kj12 t308 t317 t318 _ A32.out).mono ?_); rintro e w35 ⟨rfl, hb⟩; refine ⟨_, rfl, ?_⟩; have n0_ := Aside0.mk (Kd.R_below (by (with_reducible repeat (first | apply Kd.R_alloc | apply Kd.R_drewN | apply Kd.R_drew)); exact HO_3.out) hb); have n1_ := Aside0.mk (below_step (by repeat (first | (with_reducible first | exact HB.out | apply below_alloc | apply pw_below_drewN | apply below_drew1) | exact HB.out)) hb); clear HO_3; clear HB; have HO_3 := n0_; have HB := n1_; clear n0_ n1_; (try clear hb); (try clear hb2); (try clear hk); (try clear hi)))
                  go_meet
                  case rel => exact ⟨_, H', ⟨by have := HJ12.out; first | omega | exact Nat.le_refl _⟩, ⟨by (with_reducible repeat (first | apply Kd.R_alloc | apply Kd.R_drewN | apply Kd.R_drew)); exact HO_3.out⟩, ⟨by repeat (first | (with_reducible first | exact HB.out | apply below_alloc | apply pw_below_drewN | apply below_drew1) | exact HB.out)⟩⟩
                · rw [if_neg c34] at H
                  have c34b0 : (t317 == t307) = false := beq_eq_false_iff_ne.mpr c34
                  have c34b1 : (t317 != t307) = true := bne_iff_ne.mpr c34
                  obtain rfl := Option.some.inj H
                  go_wp2_with (first | ((with_reducible refine gate_callee (f := 60) rfl ?_); refine goesL_ (some 94) rfl rfl Try.func60 (by kernel_rfl) rfl #[.string t308] rfl (by (try simp only [List.map_toArray, List.map_cons, List.map_nil]); first | done | rfl | (simp only [List.length_drop, List.length_take]; rfl)) ?_; (with_reducible refine (impl_ReadClass.calls kj12 t308 t317 t318 _ A32.out).mono ?_); rintro e w36 ⟨rfl, hb⟩; refine ⟨_, rfl, ?_⟩; have n0_ := Aside0.mk (Kd.R_below (by (with_reducible repeat (first | apply Kd.R_alloc | apply Kd.R_drewN | apply Kd.R_drew)); exact HO_3.out) hb); have n1_ := Aside0.mk (below_step (by repeat (first | (with_reducible first | exact HB.out | apply below_alloc | apply pw_below_drewN | apply below_drew1) | exact HB.out)) hb); clear HO_3; clear HB; have HO_3 := n0_; have HB := n1_; clear n0_ n1_; (try clear hb); (try clear hb2); (try clear hk); (try clear hi)))
                  go_ret
                  exact ⟨by first | rfl | (simp [errW_none, errW_some] <;> rfl) | (simp [*, errW_none, errW_some] <;> rfl), by repeat (first | (with_reducible first | exact HB.out | apply below_alloc | apply pw_below_drewN | apply below_drew1) | exact HB.out)⟩
              · rw [if_neg c33] at H
                have c33b0 : (t318 == 0) = false := beq_eq_false_iff_ne.mpr c33
                have c33b1 : (t318 != 0) = true := bne_iff_ne.mpr c33
                obtain rfl := Option.some.inj H
                go_wp2_with (first | ((with_reducible refine gate_callee (f := 60) rfl ?_); refine goesL_ (some 94) rfl rfl Try.func60 (by kernel_rfl) rfl #[.string t308] rfl (by (try simp only [List.map_toArray, List.map_cons, List.map_nil]); first | done | rfl | (simp only [List.length_drop, List.length_take]; rfl)) ?_; (with_reducible refine (impl_ReadClass.calls kj12 t308 t317 t318 _ A32.out).mono ?_); rintro e w37 ⟨rfl, hb⟩; refine ⟨_, rfl, ?_⟩; have n0_ := Aside0.mk (Kd.R_below (by (with_reducible repeat (first | apply Kd.R_alloc | apply Kd.R_drewN | apply Kd.R_drew)); exact HO_3.out) hb); have n1_ := Aside0.mk (below_step (by repeat (first | (with_reducible first | exact HB.out | apply below_alloc | apply pw_below_drewN | apply below_drew1) | exact HB.out)) hb); clear HO_3; clear HB; have HO_3 := n0_; have HB := n1_; clear n0_ n1_; (try clear hb); (try clear hb2); (try clear hk); (try clear hi)))
                go_ret
                exact ⟨by first | rfl | (simp [errW_none, errW_some] <;> rfl) | (simp [*, errW_none, errW_some] <;> rfl), by repeat (first | (with_reducible first | exact HB.out | apply below_alloc | apply pw_below_drewN | apply below_drew1) | exact HB.out)⟩
            · rw [if_neg c31] at H
              have c31b0 : (t309 == 0) = false := beq_eq_false_iff_ne.mpr c31
              have c31b1 : (t309 != 0) = true := bne_iff_ne.mpr c31
              (first | rw [c31b0] | (simp only [i64_w, i32_w]; rw [c31b0]) | skip)
              have H' := Aside0.mk H
              clear H
              go_wp2
              go_meet
              case rel => exact ⟨_, H', ⟨by have := HJ12.out; first | omega | exact Nat.le_refl _⟩, ⟨by (with_reducible repeat (first | apply Kd.R_alloc | apply Kd.R_drewN | apply Kd.R_drew)); exact HO_3.out⟩, ⟨by repeat (first | (with_reducible first | exact HB.out | apply below_alloc | apply pw_below_drewN | apply below_drew1) | exact HB.out)⟩⟩
          case rest =>
            clear HC30
            try clear c1
            try clear c2
            try clear p2
            try clear c3
            try clear c4
            try clear c5
            try clear c6
            try clear c14
            try clear c24
            try clear c24b0
            try clear c24b1
            try clear c25
            try clear c25b0
            try clear c25b1
            try clear c26
            try clear c26b0
            try clear c26b1
            try clear c27
            try clear c27b0
            try clear c27b1
            try clear c28
            try clear c28b0
            try clear c28b1
            try clear c29
            try clear c31
            try clear c31b0
            try clear c31b1
            try clear c33
            try clear c33b0
            try clear c33b1
            try clear c34
            try clear c34b0
            try clear c34b1
            try clear p2
            obtain ⟨kq, HA, HJ29, HO_3, HB⟩ := hcut
            cases kq with
            | zero => exact absurd HA.out (by simp [laws_FnClasses.j1])
            | succ kj29 =>
              have H := HA.out
              clear HA
              simp only [laws_FnClasses.j1] at H
              by_cases c38 : t304 = 0
              · rw [if_pos c38] at H
                have c38b0 : (t304 == 0) = true := beq_iff_eq.mpr c38
                have c38b1 : (t304 != 0) = false := bne_eq_false_iff_eq.mpr c38
                clear c38
                replace H := Option.bind_eq_some_iff.mp H
                obtain ⟨⟨t319, t320⟩, A390, H⟩ := H
                replace H : (laws_FnClasses.l0 kj29 t300 t319 t320 false 0) = some r := H
                have A39 := Aside0.mk A390
                clear A390
                have H' := Aside0.mk H
                clear H
                go_wp2_with (first | ((with_reducible refine gate_callee (f := 47) rfl ?_); refine goesL_ (some 108) rfl rfl Try.func47 (by kernel_rfl) rfl #[.int .i64 t303] rfl (by (try simp only [List.map_toArray, List.map_cons, List.map_nil]); first | done | rfl | (simp only [List.length_drop, List.length_take]; rfl)) ?_; (with_reducible refine (impl_CombosOf.calls kj29 t303 t319 t320 _ A39.out).mono ?_); rintro e w40 ⟨v321, rfl, ho0, hb⟩; refine ⟨_, rfl, ?_⟩; have n0_ := Aside0.mk (Kd.R_below (by (with_reducible repeat (first | apply Kd.R_alloc | apply Kd.R_drewN | apply Kd.R_drew)); exact HO_3.out) hb); have n1_ := Aside0.mk (Kd.S_lower (Kd.S_new' ho0 (Kd.R_lt (by (with_reducible repeat (first | apply Kd.R_alloc | apply Kd.R_drewN | apply Kd.R_drew)); exact HO_3.out))) (below_size (by repeat (first | (with_reducible first | exact HB.out | apply below_alloc | apply pw_below_drewN | apply below_drew1) | exact HB.out)))); have n2_ := Aside0.mk (below_step (by repeat (first | (with_reducible first | exact HB.out | apply below_alloc | apply pw_below_drewN | apply below_drew1) | exact HB.out)) hb); clear HO_3; clear HB; have HO_3 := n0_; have HO322 := n1_; have HB := n2_; clear n0_ n1_ n2_; (try clear hb); (try clear hb2); (try clear hk); (try clear hi); (try clear ho0)))
                go_loopg [22, 23] kj29 (fun kq v22 v23 w' => ∃ (x22_3 : Bool) (x23_3 : Int), v22 = .bool x22_3 ∧ v23 = .int .i64 x23_3 ∧ Aside0 (laws_FnClasses.l0 kq t300 t319 t320 x22_3 x23_3 = some r) ∧ Aside0 (kq ≤ kj29) ∧ Aside0 (Kd.R (Kd.int .i64) 2 w' w.heap.size (fun _ => True) (.slice Ao15 t300.length co15) t300) ∧ Aside0 (Kd.S (Kd.slice 2 (Kd.int .i64)) 22 w' w.heap.size (fun k_ => some k_ ≠ ((.slice Ao15 t300.length co15) : Value).ownBlock) v321 t319) ∧ Aside0 (Below w.heap.size w w'))
                case atStart => exact ⟨(false), (0), (by first | rfl | (simp; done) | (simp [*]; done)), (by first | rfl | (simp; done) | (simp [*]; done)), H', ⟨Nat.le_refl _⟩, ⟨by (with_reducible repeat (first | apply Kd.R_alloc | apply Kd.R_drewN | apply Kd.R_drew)); exact HO_3.out⟩, ⟨by (with_reducible repeat (first | apply Kd.S_alloc | apply Kd.S_drewN | apply Kd.S_drew)); exact Kd.S_mono HO322.out (fun _ hk => hk.2)⟩, ⟨by repeat (first | (with_reducible first | exact HB.out | apply below_alloc | apply pw_below_drewN | apply below_drew1) | exact HB.out)⟩⟩
                case round =>
                  clear H'
                  try clear c1
                  try clear c2
                  try clear p2
                  try clear c3
                  try clear c4
                  try clear c5
                  try clear c6
                  try clear c14
                  try clear c24
                  try clear c24b0
                  try clear c24b1
                  try clear c25
                  try clear c25b0
                  try clear c25b1
                  try clear c26
                  try clear c26b0
                  try clear c26b1
                  try clear c27
                  try clear c27b0
                  try clear c27b1
                  try clear c28
                  try clear c28b0
                  try clear c28b1
                  try clear c29
                  try clear c31
                  try clear c31b0
                  try clear c31b1
                  try clear c33
                  try clear c33b0
                  try clear c33b1
                  try clear c34
                  try clear c34b0
                  try clear c34b1
                  try clear c38
                  try clear c38b0
                  try clear c38b1
                  try clear p2
                  obtain ⟨x22_3, x23_3, rfl, rfl, HA, HK3, HO_3, HO_20, HB⟩ := hrel
                  cases gk with
                  | zero => exact absurd HA.out (by simp [laws_FnClasses.l0])
                  | succ k3 =>
                    have H := HA.out
                    clear HA
                    simp only [laws_FnClasses.l0] at H
                    by_cases c41 : x23_3 < (t319.length : Int)
                    · rw [if_pos c41] at H
                      have c41b0 : decide (x23_3 < (t319.length : Int)) = true := decide_eq_true c41
                      clear c41
                      by_cases c42 : x22_3 = true
                      · subst c42
                        have H1 : (laws_FnClasses.l0 k3 t300 t319 t320 true (wrap64 (x23_3 + 1))) = some r := by rw [if_pos rfl] at H; exact H
                        clear H
                        have H := H1
                        clear H1
                        have H' := Aside0.mk H
                        clear H
                        obtain ⟨Ao43, co43, eo43⟩ := Kd.S_slice HO_20.out
                        subst eo43
                        try go_wp2
                        have n0_ := Aside0.mk (Kd.R_drew HO_3.out)
                        have n1_ := Aside0.mk (Kd.S_drew HO_20.out)
                        have n2_ := Aside0.mk (below_drew1 HB.out)
                        clear HO_3
                        clear HO_20
                        clear HB
                        have HO_3 := n0_
                        have HO_20 := n1_
                        have HB := n2_
                        clear n0_ n1_ n2_
                        refine start_ (n := 24) (S := fun w' => True) (ds := []) #[false, false, false, false, false, false, false, false, false, false, false, false, false, false, false, false, false, false, false, false, false, false, false, false] (by kernel_rfl) rfl rfl trivial (fun hHeld => ?_); refine with_tabW laws_FnClasses.tab25 laws_FnClasses.bits25 (fun HT_ HW_ => ?_)
                        generalize wr.drew = w44 at HO_3 HO_20 HB hHeld ⊢
                        refine pure_ (i := 0) (N := some 117) (v := ?_) (a' := ?_) #[true, false, false, false, false, false, false, false, false, false, false, false, false, false, false, false, false, false, false, false, false, false, false, false] rfl rfl (any_of HT_.out (by kernel_rfl)) (fun _ _ _ h => h) (Or.inl ⟨by rfl, ?_⟩) ?_ ?_
                        rotate_left
                        · intro w'
                          go_simp
                          with_reducible rfl
                        rotate_left
                        · simp only [Act.put, List.setIfInBounds_toArray, List.set_cons_zero, List.set_cons_succ, i64_w, i32_w]
                          rfl
                        refine pure_ (i := 1) (N := some 118) (v := ?_) (a' := ?_) #[true, true, false, false, false, false, false, false, false, false, false, false, false, false, false, false, false, false, false, false, false, false, false, false] rfl rfl (any_of HT_.out (by kernel_rfl)) (fun _ _ _ h => h) (Or.inl ⟨by rfl, ?_⟩) ?_ ?_
                        rotate_left
                        · intro w'
                          go_simp
                          with_reducible rfl
                        rotate_left
                        · simp only [Act.put, List.setIfInBounds_toArray, List.set_cons_zero, List.set_cons_succ, i64_w, i32_w]
                          rfl
                        refine pure_ (i := 2) (N := some 119) (v := undef) (a' := ?_) #[true, true, true, false, false, false, false, false, false, false, false, false, false, false, false, false, false, false, false, false, false, false, false, false] rfl rfl (any_of HT_.out (by kernel_rfl)) (fun _ _ _ h => h) (Or.inr ⟨by rfl, rfl⟩) ?_ ?_
                        rotate_left
                        · simp only [Act.put, List.setIfInBounds_toArray, List.set_cons_zero, List.set_cons_succ, i64_w, i32_w]
                          rfl
                        refine pure_ (i := 3) (N := some 120) (v := undef) (a' := ?_) #[true, true, true, true, false, false, false, false, false, false, false, false, false, false, false, false, false, false, false, false, false, false, false, false] rfl rfl (any_of HT_.out (by kernel_rfl)) (fun _ _ _ h => h) (Or.inr ⟨by rfl, rfl⟩) ?_ ?_
                        rotate_left
                        · simp only [Act.put, List.setIfInBounds_toArray, List.set_cons_zero, List.set_cons_succ, i64_w, i32_w]
                          rfl
                        refine pure_ (i := 4) (N := some 121) (v := undef) (a' := ?_) #[true, true, true, true, true, false, false, false, false, false, false, false, false, false, false, false, false, false, false, false, false, false, false, false] rfl rfl (any_of HT_.out (by kernel_rfl)) (fun _ _ _ h => h) (Or.inr ⟨by rfl, rfl⟩) ?_ ?_
                        rotate_left
                        · simp only [Act.put, List.setIfInBounds_toArray, List.set_cons_zero, List.set_cons_succ, i64_w, i32_w]
                          rfl
                        refine pure_ (i := 5) (N := some 122) (v := undef) (a' := ?_) #[true, true, true, true, true, true, false, false, false, false, false, false, false, false, false, false, false, false, false, false, false, false, false, false] rfl rfl (any_of HT_.out (by kernel_rfl)) (fun _ _ _ h => h) (Or.inr ⟨by rfl, rfl⟩) ?_ ?_
                        rotate_left
                        · simp only [Act.put, List.setIfInBounds_toArray, List.set_cons_zero, List.set_cons_succ, i64_w, i32_w]
                          rfl
                        refine pure_ (i := 6) (N := some 123) (v := undef) (a' := ?_) #[true, true, true, true, true, true, true, false, false, false, false, false, false, false, false, false, false, false, false, false, false, false, false, false] rfl rfl (any_of HT_.out (by kernel_rfl)) (fun _ _ _ h => h) (Or.inr ⟨by rfl, rfl⟩) ?_ ?_
                        rotate_left
                        · simp only [Act.put, List.setIfInBounds_toArray, List.set_cons_zero, List.set_cons_succ, i64_w, i32_w]
                          rfl
                        refine pure_ (i := 7) (N := some 124) (v := undef) (a' := ?_) #[true, true, true, true, true, true, true, true, false, false, false, false, false, false, false, false, false, false, false, false, false, false, false, false] rfl rfl (any_of HT_.out (by kernel_rfl)) (fun _ _ _ h => h) (Or.inr ⟨by rfl, rfl⟩) ?_ ?_
                        rotate_left
                        · simp only [Act.put, List.setIfInBounds_toArray, List.set_cons_zero, List.set_cons_succ, i64_w, i32_w]
                          rfl
                        refine pure_ (i := 8) (N := some 125) (v := undef) (a' := ?_) #[true, true, true, true, true, true, true, true, true, false, false, false, false, false, false, false, false, false, false, false, false, false, false, false] rfl rfl (any_of HT_.out (by kernel_rfl)) (fun _ _ _ h => h) (Or.inr ⟨by rfl, rfl⟩) ?_ ?_
                        rotate_left
                        · simp only [Act.put, List.setIfInBounds_toArray, List.set_cons_zero, List.set_cons_succ, i64_w, i32_w]
                          rfl
                        refine pure_ (i := 9) (N := some 126) (v := undef) (a' := ?_) #[true, true, true, true, true, true, true, true, true, true, false, false, false, false, false, false, false, false, false, false, false, false, false, false] rfl rfl (any_of HT_.out (by kernel_rfl)) (fun _ _ _ h => h) (Or.inr ⟨by rfl, rfl⟩) ?_ ?_
                        rotate_left
                        · simp only [Act.put, List.setIfInBounds_toArray, List.set_cons_zero, List.set_cons_succ, i64_w, i32_w]
                          rfl
                        refine pure_ (i := 10) (N := some 127) (v := undef) (a' := ?_) #[true, true, true, true, true, true, true, true, true, true, true, false, false, false, false, false, false, false, false, false, false, false, false, false] rfl rfl (any_of HT_.out (by kernel_rfl)) (fun _ _ _ h => h) (Or.inr ⟨by rfl, rfl⟩) ?_ ?_
                        rotate_left
                        · simp only [Act.put, List.setIfInBounds_toArray, List.set_cons_zero, List.set_cons_succ, i64_w, i32_w]
                          rfl
                        refine pure_ (i := 11) (N := some 128) (v := undef) (a' := ?_) #[true, true, true, true, true, true, true, true, true, true, true, true, false, false, false, false, false, false, false, false, false, false, false, false] rfl rfl (any_of HT_.out (by kernel_rfl)) (fun _ _ _ h => h) (Or.inr ⟨by rfl, rfl⟩) ?_ ?_
                        rotate_left
                        · simp only [Act.put, List.setIfInBounds_toArray, List.set_cons_zero, List.set_cons_succ, i64_w, i32_w]
                          rfl
                        refine pure_ (i := 12) (N := some 129) (v := undef) (a' := ?_) #[true, true, true, true, true, true, true, true, true, true, true, true, true, false, false, false, false, false, false, false, false, false, false, false] rfl rfl (any_of HT_.out (by kernel_rfl)) (fun _ _ _ h => h) (Or.inr ⟨by rfl, rfl⟩) ?_ ?_
                        rotate_left
                        · simp only [Act.put, List.setIfInBounds_toArray, List.set_cons_zero, List.set_cons_succ, i64_w, i32_w]
                          rfl
                        refine pure_ (i := 13) (N := some 130) (v := undef) (a' := ?_) #[true, true, true, true, true, true, true, true, true, true, true, true, true, true, false, false, false, false, false, false, false, false, false, false] rfl rfl (any_of HT_.out (by kernel_rfl)) (fun _ _ _ h => h) (Or.inr ⟨by rfl, rfl⟩) ?_ ?_
                        rotate_left
                        · simp only [Act.put, List.setIfInBounds_toArray, List.set_cons_zero, List.set_cons_succ, i64_w, i32_w]
                          rfl
                        refine pure_ (i := 14) (N := some 131) (v := undef) (a' := ?_) #[true, true, true, true, true, true, true, true, true, true, true, true, true, true, true, false, false, false, false, false, false, false, false, false] rfl rfl (any_of HT_.out (by kernel_rfl)) (fun _ _ _ h => h) (Or.inr ⟨by rfl, rfl⟩) ?_ ?_
                        rotate_left
                        · simp only [Act.put, List.setIfInBounds_toArray, List.set_cons_zero, List.set_cons_succ, i64_w, i32_w]
                          rfl
                        refine pure_ (i := 15) (N := some 132) (v := undef) (a' := ?_) #[true, true, true, true, true, true, true, true, true, true, true, true, true, true, true, true, false, false, false, false, false, false, false, false] rfl rfl (any_of HT_.out (by kernel_rfl)) (fun _ _ _ h => h) (Or.inr ⟨by rfl, rfl⟩) ?_ ?_
                        rotate_left
                        · simp only [Act.put, List.setIfInBounds_toArray, List.set_cons_zero, List.set_cons_succ, i64_w, i32_w]
                          rfl
                        refine pure_ (i := 16) (N := some 133) (v := undef) (a' := ?_) #[true, true, true, true, true, true, true, true, true, true, true, true, true, true, true, true, true, false, false, false, false, false, false, false] rfl rfl (any_of HT_.out (by kernel_rfl)) (fun _ _ _ h => h) (Or.inr ⟨by rfl, rfl⟩) ?_ ?_
                        rotate_left
                        · simp only [Act.put, List.setIfInBounds_toArray, List.set_cons_zero, List.set_cons_succ, i64_w, i32_w]
                          rfl
                        refine pure_ (i := 17) (N := some 134) (v := undef) (a' := ?_) #[true, true, true, true, true, true, true, true, true, true, true, true, true, true, true, true, true, true, false, false, false, false, false, false] rfl rfl (any_of HT_.out (by kernel_rfl)) (fun _ _ _ h => h) (Or.inr ⟨by rfl, rfl⟩) ?_ ?_
                        rotate_left
                        · simp only [Act.put, List.setIfInBounds_toArray, List.set_cons_zero, List.set_cons_succ, i64_w, i32_w]
                          rfl
                        refine pure_ (i := 18) (N := some 135) (v := undef) (a' := ?_) #[true, true, true, true, true, true, true, true, true, true, true, true, true, true, true, true, true, true, true, false, false, false, false, false] rfl rfl (any_of HT_.out (by kernel_rfl)) (fun _ _ _ h => h) (Or.inr ⟨by rfl, rfl⟩) ?_ ?_
                        rotate_left
                        · simp only [Act.put, List.setIfInBounds_toArray, List.set_cons_zero, List.set_cons_succ, i64_w, i32_w]
                          rfl
                        refine pure_ (i := 19) (N := some 136) (v := undef) (a' := ?_) #[true, true, true, true, true, true, true, true, true, true, true, true, true, true, true, true, true, true, true, true, false, false, false, false] rfl rfl (any_of HT_.out (by kernel_rfl)) (fun _ _ _ h => h) (Or.inr ⟨by rfl, rfl⟩) ?_ ?_
                        rotate_left
                        · simp only [Act.put, List.setIfInBounds_toArray, List.set_cons_zero, List.set_cons_succ, i64_w, i32_w]
                          rfl
                        refine pure_ (i := 20) (N := some 137) (v := undef) (a' := ?_) #[true, true, true, true, true, true, true, true, true, true, true, true, true, true, true, true, true, true, true, true, true, false, false, false] rfl rfl (any_of HT_.out (by kernel_rfl)) (fun _ _ _ h => h) (Or.inr ⟨by rfl, rfl⟩) ?_ ?_
                        rotate_left
                        · simp only [Act.put, List.setIfInBounds_toArray, List.set_cons_zero, List.set_cons_succ, i64_w, i32_w]
                          rfl
                        refine pure_ (i := 21) (N := some 138) (v := undef) (a' := ?_) #[true, true, true, true, true, true, true, true, true, true, true, true, true, true, true, true, true, true, true, true, true, true, false, false] rfl rfl (any_of HT_.out (by kernel_rfl)) (fun _ _ _ h => h) (Or.inr ⟨by rfl, rfl⟩) ?_ ?_
                        rotate_left
                        · simp only [Act.put, List.setIfInBounds_toArray, List.set_cons_zero, List.set_cons_succ, i64_w, i32_w]
                          rfl
                        refine pure_ (i := 22) (N := some 139) (v := ?_) (a' := ?_) #[true, true, true, true, true, true, true, true, true, true, true, true, true, true, true, true, true, true, true, true, true, true, true, false] rfl rfl (any_of HT_.out (by kernel_rfl)) (fun _ _ _ h => h) (Or.inl ⟨by rfl, ?_⟩) ?_ ?_
                        rotate_left
                        · intro w'
                          go_simp
                          with_reducible rfl
                        rotate_left
                        · simp only [Act.put, List.setIfInBounds_toArray, List.set_cons_zero, List.set_cons_succ, i64_w, i32_w]
                          rfl
                        refine pure_ (i := 23) (N := some 22) (v := ?_) (a' := ?_) #[true, true, true, true, true, true, true, true, true, true, true, true, true, true, true, true, true, true, true, true, true, true, true, true] rfl rfl (any_of HT_.out (by kernel_rfl)) (fun _ _ _ h => h) (Or.inl ⟨by rfl, ?_⟩) ?_ ?_
                        rotate_left
                        · intro w'
                          go_simp
                          with_reducible rfl
                        rotate_left
                        · simp only [Act.put, List.setIfInBounds_toArray, List.set_cons_zero, List.set_cons_succ, i64_w, i32_w]
                          rfl
                        refine done_ (done_of HT_.out (by kernel_rfl)) ?_
                        try go_wp2
                        go_roundg k3
                        case measure => have := HJ12.out; have := HJ29.out; have := HK3.out; omega
                        case rel => exact ⟨(true), (wrap64 (x23_3 + 1)), (by first | rfl | (simp; done) | (simp [*]; done)), (by first | rfl | (simp; done) | (simp [*]; done)), H', ⟨by have := HJ12.out; have := HJ29.out; have := HK3.out; omega⟩, ⟨by (with_reducible repeat (first | apply Kd.R_alloc | apply Kd.R_drewN | apply Kd.R_drew)); exact HO_3.out⟩, ⟨by (with_reducible repeat (first | apply Kd.S_alloc | apply Kd.S_drewN | apply Kd.S_drew)); exact HO_20.out⟩, ⟨by repeat (first | (with_reducible first | exact HB.out | apply below_alloc | apply pw_below_drewN | apply below_drew1) | exact HB.out)⟩⟩
                      · replace c42 := Bool.eq_false_iff.mpr c42
                        subst c42
                        have H1 : (if 0 ≤ x23_3 then (if 0 < (t300.length : Int) then (if 1 < (t300.length : Int) then ((laws_likeInts.f k3 (rd_L2 t319 x23_3) (([mn (rd t300 0) (rd t300 1), mx (rd t300 0) (rd t300 1)] : List Int))).bind fun t331 => (laws_FnClasses.l0 k3 t300 t319 t320 t331 (wrap64 (x23_3 + 1)))) else (none)) else (none)) else (none)) = some r := by rw [if_neg (show ¬ (false = true) by decide)] at H; exact H
                        clear H
                        have H := H1
                        clear H1
                        by_cases c45 : 0 ≤ x23_3
                        · rw [if_pos c45] at H
                          have c45b0 : decide (0 ≤ x23_3) = true := decide_eq_true c45
                          clear c45
                          by_cases c46 : 0 < (t300.length : Int)
                          · rw [if_pos c46] at H
                            have c46b0 : decide (0 < (t300.length : Int)) = true := decide_eq_true c46
                            have c46b1 : decide (0 < t300.length) = true := decide_eq_true (by omega)
                            clear c46
                            by_cases c47 : 1 < (t300.length : Int)
                            · rw [if_pos c47] at H
                              have c47b0 : decide (1 < (t300.length : Int)) = true := decide_eq_true c47
                              have c47b1 : decide (1 < t300.length) = true := decide_eq_true (by omega)
                              clear c47
                              obtain ⟨ji48, hji48⟩ : ∃ j_ : Int, (mn (rd t300 0) (rd t300 1)) = j_ := ⟨_, rfl⟩
                              replace H : ((laws_likeInts.f k3 (rd_L2 t319 x23_3) (([ji48, mx (rd t300 0) (rd t300 1)] : List Int))).bind fun t331 => (laws_FnClasses.l0 k3 t300 t319 t320 t331 (wrap64 (x23_3 + 1)))) = some r := by first | (rw [hji48] at H; exact H) | (simp only [hji48] at H ⊢; exact H)
                              have hji48_ : (if (rd t300 1) < (rd t300 0) then (rd t300 1) else (rd t300 0)) = ji48 := hji48
                              obtain ⟨ji49, hji49⟩ : ∃ j_ : Int, (mx (rd t300 0) (rd t300 1)) = j_ := ⟨_, rfl⟩
                              replace H : ((laws_likeInts.f k3 (rd_L2 t319 x23_3) (([ji48, ji49] : List Int))).bind fun t331 => (laws_FnClasses.l0 k3 t300 t319 t320 t331 (wrap64 (x23_3 + 1)))) = some r := by first | (rw [hji49] at H; exact H) | (simp only [hji49] at H ⊢; exact H)
                              have hji49_ : (if (rd t300 0) < (rd t300 1) then (rd t300 1) else (rd t300 0)) = ji49 := hji49
                              obtain ⟨y328, hy328⟩ : ∃ y_ : List Int, y_ = (([ji48, ji49] : List Int)) := ⟨_, rfl⟩
                              replace H : ((laws_likeInts.f k3 (rd_L2 t319 x23_3) y328).bind fun t331 => (laws_FnClasses.l0 k3 t300 t319 t320 t331 (wrap64 (x23_3 + 1)))) = some r := by first | (rw [hy328]; with_reducible exact H) | (have H2_ := (Option.bind_some _ _).symm.trans H; rw [hy328]; with_reducible exact H2_) | (have H2_ := (Option.bind_some _ _).symm.trans H; with_reducible exact H2_) | with_reducible exact H | (rw [hy328]; exact H) | exact H
                              have Ny328 := Aside0.mk hy328
                              clear hy328
                              replace H := Option.bind_eq_some_iff.mp H
                              obtain ⟨t331, A500, H⟩ := H
                              replace H : (laws_FnClasses.l0 k3 t300 t319 t320 t331 (wrap64 (x23_3 + 1))) = some r := H
                              have A50 := Aside0.mk A500
                              clear A500
                              have H' := Aside0.mk H
                              clear H
                              obtain ⟨Ao51, co51, eo51⟩ := Kd.S_slice HO_20.out
                              subst eo51
                              try go_wp2
                              have n0_ := Aside0.mk (Kd.R_drew HO_3.out)
                              have n1_ := Aside0.mk (Kd.S_drew HO_20.out)
                              have n2_ := Aside0.mk (below_drew1 HB.out)
                              clear HO_3
                              clear HO_20
                              clear HB
                              have HO_3 := n0_
                              have HO_20 := n1_
                              have HB := n2_
                              clear n0_ n1_ n2_
                              have p323 : 0 ≤ (x23_3 : Int) := of_decide_eq_true (by first | (with_reducible assumption) | assumption)
                              have q323 : x23_3 < (t319.length : Int) := of_decide_eq_true (by first | (with_reducible assumption) | assumption)
                              obtain ⟨ad323, A323_0, c323_0, e323, hx323_0, hl323_0, hi323_0⟩ := at_L2 (Kd.S_reads' HO_20.out).2.2 x23_3 p323 q323
                              cases e323
                              obtain ⟨ce323, hce323, hMe323, hcc323⟩ := Kd.S_get HO_20.out [] x23_3 p323 (by first | exact q323 | exact of_decide_eq_true (by first | (with_reducible assumption) | assumption) | (have e_ := (Kd.S_reads' HO_20.out).1; omega))
                              obtain ⟨ve323_0, rfl, ge323_0⟩ := hMe323
                              have hv323_0 := hcc323 0 _ rfl
                              rw [Nat.add_zero, show ((Kd.slice 2 (Kd.int .i64))).sz = 1 from rfl, Nat.mul_one] at hv323_0
                              replace hv323_0 := Option.some.inj (hv323_0.symm.trans hx323_0)
                              rw [hv323_0] at ge323_0
                              have HL323_0 := Aside0.mk (show Kd.R (Kd.int .i64) 2 _ _ _ _ (rd_L2 t319 x23_3) from ge323_0)
                              clear hv323_0 ge323_0
                              clear hcc323 hce323
                              have HR323_0 := Aside0.mk hi323_0
                              have HC323_0 := Aside0.mk hl323_0
                              clear hi323_0 hl323_0
                              replace p323 := eq_true p323
                              replace q323 := eq_true q323
                              have p324 : 0 ≤ (0 : Int) := (by omega)
                              have q324 : 0 < (t300.length : Int) := of_decide_eq_true (by first | (with_reducible assumption) | assumption)
                              obtain ⟨ad324, e324, hx324_0⟩ := Kd.at_int (Kd.R_reads' HO_3.out).2.2 0 p324 q324
                              cases e324
                              have qi324 : (0 < t300.length) = True := eq_true (by omega)
                              (try rw [show ((0 : Int)).toNat = 0 from rfl] at hx324_0)
                              (try rw [Addr.add_zero'] at hx324_0)
                              replace p324 := eq_true p324
                              replace q324 := eq_true q324
                              have p325 : 0 ≤ (1 : Int) := (by omega)
                              have q325 : 1 < (t300.length : Int) := of_decide_eq_true (by first | (with_reducible assumption) | assumption)
                              obtain ⟨ad325, e325, hx325_0⟩ := Kd.at_int (Kd.R_reads' HO_3.out).2.2 1 p325 q325
                              obtain rfl : ad324 = ad325 := (by injection e325)
                              (try simp only [show (1 : Int).toNat = 1 from rfl, Nat.reduceMul, Nat.reduceEqDiff, Go.Addr.add, ↓reduceIte] at hx325_0)
                              have qi325 : (1 < t300.length) = True := eq_true (by omega)
                              (try rw [show ((1 : Int)).toNat = 1 from rfl] at hx325_0)
                              replace p325 := eq_true p325
                              replace q325 := eq_true q325
                              have p326 : 0 ≤ (0 : Int) := (by omega)
                              have q326 : 0 < (t300.length : Int) := of_decide_eq_true (by first | (with_reducible assumption) | assumption)
                              obtain ⟨ad326, e326, hx326_0⟩ := Kd.at_int (Kd.R_reads' HO_3.out).2.2 0 p326 q326
                              obtain rfl : ad324 = ad326 := (by injection e326)
                              have qi326 : (0 < t300.length) = True := eq_true (by omega)
                              (try rw [show ((0 : Int)).toNat = 0 from rfl] at hx326_0)
                              (try rw [Addr.add_zero'] at hx326_0)
                              replace p326 := eq_true p326
                              replace q326 := eq_true q326
                              have p327 : 0 ≤ (1 : Int) := (by omega)
                              have q327 : 1 < (t300.length : Int) := of_decide_eq_true (by first | (with_reducible assumption) | assumption)
                              obtain ⟨ad327, e327, hx327_0⟩ := Kd.at_int (Kd.R_reads' HO_3.out).2.2 1 p327 q327
                              obtain rfl : ad324 = ad327 := (by injection e327)
                              (try simp only [show (1 : Int).toNat = 1 from rfl, Nat.reduceMul, Nat.reduceEqDiff, Go.Addr.add, ↓reduceIte] at hx327_0)
                              have qi327 : (1 < t300.length) = True := eq_true (by omega)
                              (try rw [show ((1 : Int)).toNat = 1 from rfl] at hx327_0)
                              replace p327 := eq_true p327
                              replace q327 := eq_true q327
                              refine start_ (n := 24) (S := fun w' => w'.cell? (ad323.add (x23_3).toNat) = some (.slice A323_0 (rd_L2 t319 x23_3).length c323_0) ∧ w'.cell? ad324 = some (.int .i64 (rd t300 0)) ∧ w'.cell? ⟨ad324.block, ad324.off + 1, none⟩ = some (.int .i64 (rd t300 1)) ∧ w'.cell? ad324 = some (.int .i64 (rd t300 0)) ∧ w'.cell? ⟨ad324.block, ad324.off + 1, none⟩ = some (.int .i64 (rd t300 1))) (ds := []) #[false, false, false, false, false, false, false, false, false, false, false, false, false, false, false, false, false, false, false, false, false, false, false, false] (by kernel_rfl) rfl rfl ⟨hx323_0, hx324_0, hx325_0, hx326_0, hx327_0⟩ (fun hHeld => ?_); refine with_tabW laws_FnClasses.tab25 laws_FnClasses.bits25 (fun HT_ HW_ => ?_)
                              generalize wr.drew = w52 at HO_3 HO_20 HB HL323_0 HR323_0 hx323_0 hx324_0 hx325_0 hx326_0 hx327_0 hHeld ⊢
                              refine pure_ (i := 0) (N := some 117) (v := ?_) (a' := ?_) #[true, false, false, false, false, false, false, false, false, false, false, false, false, false, false, false, false, false, false, false, false, false, false, false] rfl rfl (any_of HT_.out (by kernel_rfl)) (fun _ _ _ h => h) (Or.inl ⟨by rfl, ?_⟩) ?_ ?_
                              rotate_left
                              · intro w'
                                go_simp
                                with_reducible rfl
                              rotate_left
                              · simp only [Act.put, List.setIfInBounds_toArray, List.set_cons_zero, List.set_cons_succ, i64_w, i32_w]
                                rfl
                              refine pure_ (i := 1) (N := some 118) (v := ?_) (a' := ?_) #[true, true, false, false, false, false, false, false, false, false, false, false, false, false, false, false, false, false, false, false, false, false, false, false] rfl rfl (any_of HT_.out (by kernel_rfl)) (fun _ _ _ h => h) (Or.inl ⟨by rfl, ?_⟩) ?_ ?_
                              rotate_left
                              · intro w'
                                go_simp
                                with_reducible rfl
                              rotate_left
                              · simp only [Act.put, List.setIfInBounds_toArray, List.set_cons_zero, List.set_cons_succ, i64_w, i32_w]
                                rfl
                              refine pure_ (i := 2) (N := some 119) (v := ?_) (a' := ?_) #[true, true, true, false, false, false, false, false, false, false, false, false, false, false, false, false, false, false, false, false, false, false, false, false] rfl rfl (any_of HT_.out (by kernel_rfl)) (fun _ _ _ h => h) (Or.inl ⟨by rfl, ?_⟩) ?_ ?_
                              rotate_left
                              · intro w'
                                go_simp
                                with_reducible rfl
                              rotate_left
                              · simp only [Act.put, List.setIfInBounds_toArray, List.set_cons_zero, List.set_cons_succ, i64_w, i32_w]
                                rfl
                              refine pure_ (i := 3) (N := some 120) (v := ?_) (a' := ?_) #[true, true, true, true, false, false, false, false, false, false, false, false, false, false, false, false, false, false, false, false, false, false, false, false] rfl rfl (any_of HT_.out (by kernel_rfl)) (fun _ _ _ h => h) (Or.inl ⟨by rfl, ?_⟩) ?_ ?_
                              rotate_left
                              · intro w'
                                go_simp
                                with_reducible rfl
                              rotate_left
                              · simp only [Act.put, List.setIfInBounds_toArray, List.set_cons_zero, List.set_cons_succ, i64_w, i32_w]
                                rfl
                              refine pure_ (i := 4) (N := some 121) (v := ?_) (a' := ?_) #[true, true, true, true, true, false, false, false, false, false, false, false, false, false, false, false, false, false, false, false, false, false, false, false] rfl rfl (any_of HT_.out (by kernel_rfl)) (fun _ _ _ h => h) (Or.inl ⟨by rfl, ?_⟩) ?_ ?_
                              rotate_left
                              · intro w'
                                go_simp
                                with_reducible rfl
                              rotate_left
                              · simp only [Act.put, List.setIfInBounds_toArray, List.set_cons_zero, List.set_cons_succ, i64_w, i32_w]
                                rfl
                              refine pure_ (i := 6) (N := some 123) (v := ?_) (a' := ?_) #[true, true, true, true, true, false, true, false, false, false, false, false, false, false, false, false, false, false, false, false, false, false, false, false] rfl rfl (any_of HT_.out (by kernel_rfl)) (fun _ _ _ h => h) (Or.inl ⟨by rfl, ?_⟩) ?_ ?_
                              rotate_left
                              · intro w'
                                go_simp
                                with_reducible rfl
                              rotate_left
                              · simp only [Act.put, List.setIfInBounds_toArray, List.set_cons_zero, List.set_cons_succ, i64_w, i32_w]
                                rfl
                              refine pure_ (i := 7) (N := some 124) (v := ?_) (a' := ?_) #[true, true, true, true, true, false, true, true, false, false, false, false, false, false, false, false, false, false, false, false, false, false, false, false] rfl rfl (any_of HT_.out (by kernel_rfl)) (fun _ _ _ h => h) (Or.inl ⟨by rfl, ?_⟩) ?_ ?_
                              rotate_left
                              · intro w'
                                go_simp
                                with_reducible rfl
                              rotate_left
                              · simp only [Act.put, List.setIfInBounds_toArray, List.set_cons_zero, List.set_cons_succ, i64_w, i32_w]
                                rfl
                              refine pure_ (i := 9) (N := some 126) (v := ?_) (a' := ?_) #[true, true, true, true, true, false, true, true, false, true, false, false, false, false, false, false, false, false, false, false, false, false, false, false] rfl rfl (any_of HT_.out (by kernel_rfl)) (fun _ _ _ h => h) (Or.inl ⟨by rfl, ?_⟩) ?_ ?_
                              rotate_left
                              · intro w'
                                go_simp
                                with_reducible rfl
                              rotate_left
                              · simp only [Act.put, List.setIfInBounds_toArray, List.set_cons_zero, List.set_cons_succ, i64_w, i32_w]
                                rfl
                              refine pure_ (i := 10) (N := some 127) (v := ?_) (a' := ?_) #[true, true, true, true, true, false, true, true, false, true, true, false, false, false, false, false, false, false, false, false, false, false, false, false] rfl rfl (any_of HT_.out (by kernel_rfl)) (fun _ _ _ h => h) (Or.inl ⟨by rfl, ?_⟩) ?_ ?_
                              rotate_left
                              · intro w'
                                go_simp
                                with_reducible rfl
                              rotate_left
                              · simp only [Act.put, List.setIfInBounds_toArray, List.set_cons_zero, List.set_cons_succ, i64_w, i32_w]
                                rfl
                              refine pure_ (i := 13) (N := some 130) (v := ?_) (a' := ?_) #[true, true, true, true, true, false, true, true, false, true, true, false, false, true, false, false, false, false, false, false, false, false, false, false] rfl rfl (any_of HT_.out (by kernel_rfl)) (fun _ _ _ h => h) (Or.inl ⟨by rfl, ?_⟩) ?_ ?_
                              rotate_left
                              · intro w'
                                go_simp
                                with_reducible rfl
                              rotate_left
                              · simp only [Act.put, List.setIfInBounds_toArray, List.set_cons_zero, List.set_cons_succ, i64_w, i32_w]
                                rfl
                              refine pure_ (i := 14) (N := some 131) (v := ?_) (a' := ?_) #[true, true, true, true, true, false, true, true, false, true, true, false, false, true, true, false, false, false, false, false, false, false, false, false] rfl rfl (any_of HT_.out (by kernel_rfl)) (fun _ _ _ h => h) (Or.inl ⟨by rfl, ?_⟩) ?_ ?_
                              rotate_left
                              · intro w'
                                go_simp
                                with_reducible rfl
                              rotate_left
                              · simp only [Act.put, List.setIfInBounds_toArray, List.set_cons_zero, List.set_cons_succ, i64_w, i32_w]
                                rfl
                              refine pure_ (i := 16) (N := some 133) (v := ?_) (a' := ?_) #[true, true, true, true, true, false, true, true, false, true, true, false, false, true, true, false, true, false, false, false, false, false, false, false] rfl rfl (any_of HT_.out (by kernel_rfl)) (fun _ _ _ h => h) (Or.inl ⟨by rfl, ?_⟩) ?_ ?_
                              rotate_left
                              · intro w'
                                go_simp
                                with_reducible rfl
                              rotate_left
                              · simp only [Act.put, List.setIfInBounds_toArray, List.set_cons_zero, List.set_cons_succ, i64_w, i32_w]
                                rfl
                              refine pure_ (i := 17) (N := some 134) (v := ?_) (a' := ?_) #[true, true, true, true, true, false, true, true, false, true, true, false, false, true, true, false, true, true, false, false, false, false, false, false] rfl rfl (any_of HT_.out (by kernel_rfl)) (fun _ _ _ h => h) (Or.inl ⟨by rfl, ?_⟩) ?_ ?_
                              rotate_left
                              · intro w'
                                go_simp
                                with_reducible rfl
                              rotate_left
                              · simp only [Act.put, List.setIfInBounds_toArray, List.set_cons_zero, List.set_cons_succ, i64_w, i32_w]
                                rfl
                              refine take_ (i := 5) (N := some 122) (v := ?_) (a' := ?_) #[true, true, true, true, true, true, true, true, false, true, true, false, false, true, true, false, true, true, false, false, false, false, false, false] rfl rfl (take_ofW HT_.out HW_.out (by kernel_rfl)) (fun _ _ _ h => h) (Or.inl ⟨by rfl, ?_⟩) hHeld ?_ ?_
                              rotate_left
                              · rintro w' ⟨s0, s1, s2, s3, s4⟩
                                go_simp
                                with_reducible rfl
                              rotate_left
                              · simp only [Act.put, List.setIfInBounds_toArray, List.set_cons_zero, List.set_cons_succ, i64_w, i32_w]
                                rfl
                              refine take_ (i := 8) (N := some 125) (v := ?_) (a' := ?_) #[true, true, true, true, true, true, true, true, true, true, true, false, false, true, true, false, true, true, false, false, false, false, false, false] rfl rfl (take_ofW HT_.out HW_.out (by kernel_rfl)) (fun _ _ _ h => h) (Or.inl ⟨by rfl, ?_⟩) hHeld ?_ ?_
                              rotate_left
                              · rintro w' ⟨s0, s1, s2, s3, s4⟩
                                go_simp
                                with_reducible rfl
                              rotate_left
                              · simp only [Act.put, List.setIfInBounds_toArray, List.set_cons_zero, List.set_cons_succ, i64_w, i32_w]
                                rfl
                              refine take_ (i := 11) (N := some 128) (v := ?_) (a' := ?_) #[true, true, true, true, true, true, true, true, true, true, true, true, false, true, true, false, true, true, false, false, false, false, false, false] rfl rfl (take_ofW HT_.out HW_.out (by kernel_rfl)) (fun _ _ _ h => h) (Or.inl ⟨by rfl, ?_⟩) hHeld ?_ ?_
                              rotate_left
                              · rintro w' ⟨s0, s1, s2, s3, s4⟩
                                go_simp
                                with_reducible rfl
                              rotate_left
                              · simp only [Act.put, List.setIfInBounds_toArray, List.set_cons_zero, List.set_cons_succ, i64_w, i32_w]
                                rfl
                              refine pure_ (i := 12) (N := some 129) (v := ?_) (a' := ?_) #[true, true, true, true, true, true, true, true, true, true, true, true, true, true, true, false, true, true, false, false, false, false, false, false] rfl rfl (any_of HT_.out (by kernel_rfl)) (fun _ _ _ h => h) (Or.inl ⟨by rfl, ?_⟩) ?_ ?_
                              rotate_left
                              · intro w'
                                go_simp
                                with_reducible rfl
                              rotate_left
                              · simp only [Act.put, List.setIfInBounds_toArray, List.set_cons_zero, List.set_cons_succ, i64_w, i32_w]
                                rfl
                              refine take_ (i := 15) (N := some 132) (v := ?_) (a' := ?_) #[true, true, true, true, true, true, true, true, true, true, true, true, true, true, true, true, true, true, false, false, false, false, false, false] rfl rfl (take_ofW HT_.out HW_.out (by kernel_rfl)) (fun _ _ _ h => h) (Or.inl ⟨by rfl, ?_⟩) hHeld ?_ ?_
                              rotate_left
                              · rintro w' ⟨s0, s1, s2, s3, s4⟩
                                go_simp
                                with_reducible rfl
                              rotate_left
                              · simp only [Act.put, List.setIfInBounds_toArray, List.set_cons_zero, List.set_cons_succ, i64_w, i32_w]
                                rfl
                              refine take_ (i := 18) (N := some 135) (v := ?_) (a' := ?_) #[true, true, true, true, true, true, true, true, true, true, true, true, true, true, true, true, true, true, true, false, false, false, false, false] rfl rfl (take_ofW HT_.out HW_.out (by kernel_rfl)) (fun _ _ _ h => h) (Or.inl ⟨by rfl, ?_⟩) hHeld ?_ ?_
                              rotate_left
                              · rintro w' ⟨s0, s1, s2, s3, s4⟩
                                go_simp
                                with_reducible rfl
                              rotate_left
                              · simp only [Act.put, List.setIfInBounds_toArray, List.set_cons_zero, List.set_cons_succ, i64_w, i32_w]
                                rfl
                              refine pure_ (i := 19) (N := some 136) (v := ?_) (a' := ?_) #[true, true, true, true, true, true, true, true, true, true, true, true, true, true, true, true, true, true, true, true, false, false, false, false] rfl rfl (any_of HT_.out (by kernel_rfl)) (fun _ _ _ h => h) (Or.inl ⟨by rfl, ?_⟩) ?_ ?_
                              rotate_left
                              · intro w'
                                go_simp
                                with_reducible rfl
                              rotate_left
                              · simp only [Act.put, List.setIfInBounds_toArray, List.set_cons_zero, List.set_cons_succ, i64_w, i32_w]
                                rfl
                              refine one_ (i := 20) (N := some 137) #[true, true, true, true, true, true, true, true, true, true, true, true, true, true, true, true, true, true, true, true, true, false, false, false] rfl rfl (one_of HT_.out (by kernel_rfl)) (by decide) (fun K hK => ?_)
                              refine Kd.R_lit_step (Kd.int .i64) _ 2 ?hg (N := 137) ?hd (xs := ([ji48, ji49] : List Int)) (inner := [.int .i64 ji48, .int .i64 ji49]) (ok := fun _ => True) (okp := fun _ => True) ?hr ?hp (fun _ hk => hk) trivial (Below.refl _ _) (Nat.le_refl _) (by simp) ?_; (case hd => rfl); (case hg => rfl); (case hr => first | (go_simp; done) | (go_simp; rfl)); (case hp => exact (Reps.one (show Kd.M (Kd.int .i64) _ _ _ ji48 [.int .i64 ji48] from rfl) (Reps.one (show Kd.M (Kd.int .i64) _ _ _ ji49 [.int .i64 ji49] from rfl) (Reps.none _ _))))
                              intro v329 w53 ho54 hb hg_ hnew_
                              have HS0_ := (hb.cell (World.block_lt_of_cell? _ _ (hHeld.1))).trans (hHeld.1)
                              have HS1_ := (hb.cell (World.block_lt_of_cell? _ _ (hHeld.2.1))).trans (hHeld.2.1)
                              have HS2_ := (hb.cell (World.block_lt_of_cell? _ _ (hHeld.2.2.1))).trans (hHeld.2.2.1)
                              have HS3_ := (hb.cell (World.block_lt_of_cell? _ _ (hHeld.2.2.2.1))).trans (hHeld.2.2.2.1)
                              have HS4_ := (hb.cell (World.block_lt_of_cell? _ _ (hHeld.2.2.2.2))).trans (hHeld.2.2.2.2)
                              clear hg_ hnew_
                              (first | rw [← Ny328.out] at ho54 | (simp only [Int.reduceToNat] at ho54; rw [← Ny328.out] at ho54))
                              have n0_ := Aside0.mk (Kd.R_elder' (by (with_reducible repeat (first | apply Kd.R_alloc | apply Kd.R_drewN | apply Kd.R_drew)); exact HO_3.out) (Kd.R_base ho54) hb)
                              have n1_ := Aside0.mk (Kd.S_elder' (by (with_reducible repeat (first | apply Kd.S_alloc | apply Kd.S_drewN | apply Kd.S_drew)); exact HO_20.out) (Kd.R_base ho54) hb)
                              have n2_ := Aside0.mk (Kd.R_elder' (by (with_reducible repeat (first | apply Kd.R_alloc | apply Kd.R_drewN | apply Kd.R_drew)); exact HL323_0.out) (Kd.R_base ho54) hb)
                              have n3_ := Aside0.mk (Kd.R_lower (Kd.R_new' (Kd.R_new' ho54 (Kd.R_lt (by (with_reducible repeat (first | apply Kd.R_alloc | apply Kd.R_drewN | apply Kd.R_drew)); exact HO_3.out))) (Kd.R_lt (by (with_reducible repeat (first | apply Kd.R_alloc | apply Kd.R_drewN | apply Kd.R_drew)); exact HL323_0.out))) (below_size (by repeat (first | (with_reducible first | exact HB.out | apply below_alloc | apply pw_below_drewN | apply below_drew1) | exact HB.out))))
                              have n4_ := Aside0.mk (Kd.C_below (by repeat (first | (with_reducible exact HR323_0.out) | (with_reducible refine Kd.C_alloc ?_ _) | (with_reducible refine Kd.C_drewN ?_ _) | (with_reducible refine Kd.C_drew ?_) | exact HR323_0.out)) hb)
                              have n5_ := Aside0.mk (below_step (by repeat (first | (with_reducible first | exact HB.out | apply below_alloc | apply pw_below_drewN | apply below_drew1) | exact HB.out)) hb)
                              clear HO_3
                              clear HO_20
                              clear HL323_0
                              clear HR323_0
                              clear HB
                              have HO_3 := n0_
                              have HO_20 := n1_
                              have HL323_0 := n2_
                              have HO330 := n3_
                              have HR323_0 := n4_
                              have HB := n5_
                              clear n0_ n1_ n2_ n3_ n4_ n5_
                              clear hb ho54
                              obtain ⟨Ao55, co55, eo55⟩ := Kd.R_slice HO330.out
                              (first | subst eo55 | (injection eo55 with f1_ f2_ f3_; have f4_ := f1_.symm; have f5_ := f3_.symm; clear f1_ f2_ f3_; subst f4_; subst f5_))
                              refine hK.out _ _ ⟨HS0_, HS1_, HS2_, HS3_, HS4_⟩ (fun hHeld => ?_)
                              clear hK K
                              refine norm_ (a' := ?_) ?_ ?_
                              rotate_left
                              · show Act.put _ (some 137) _ = _
                                simp only [Act.put, List.setIfInBounds_toArray, List.set_cons_zero, List.set_cons_succ, i64_w, i32_w]
                                rfl
                              refine one_ (i := 21) (N := some 138) #[true, true, true, true, true, true, true, true, true, true, true, true, true, true, true, true, true, true, true, true, true, true, false, false] rfl rfl (one_of HT_.out (by kernel_rfl)) (by decide) (fun K hK => ?_)
                              refine goes_ Try.func62 (by kernel_rfl) rfl #[.slice A323_0 (rd_L2 t319 x23_3).length c323_0, .slice Ao55 y328.length co55] (by rfl) rfl rfl (by (try simp only [List.map_toArray, List.map_cons, List.map_nil]); first | done | rfl | (simp only [List.length_drop, List.length_take]; rfl)) ?_
                              with_reducible refine (laws_likeInts.calls k3 _ _ (rd_L2 t319 x23_3) _ _ y328 t331 _ ?side1 ?side2 ?side3 ?side4 A50.out).mono ?_
                              (case side1 => repeat (first | exact (by repeat (first | (with_reducible exact HR323_0.out) | (with_reducible refine Kd.C_alloc ?_ _) | (with_reducible refine Kd.C_drewN ?_ _) | (with_reducible refine Kd.C_drew ?_) | exact HR323_0.out)) | (with_reducible refine Kd.C_alloc ?_ _) | (with_reducible refine Kd.C_drewN ?_ _) | (with_reducible refine Kd.C_drew ?_)))
                              (case side2 => exact HC323_0.out)
                              (case side3 => repeat (first | exact (Kd.R_reads' HO330.out).2.2 | (with_reducible refine Kd.C_alloc ?_ _) | (with_reducible refine Kd.C_drewN ?_ _) | (with_reducible refine Kd.C_drew ?_)))
                              (case side4 => exact (Kd.R_reads' HO330.out).2.1)
                              rintro e w' ⟨rfl, ⟨nd, rfl⟩⟩
                              refine ⟨_, rfl, ?_⟩
                              refine hK.out _ _ ⟨hHeld.1, hHeld.2.1, hHeld.2.2.1, hHeld.2.2.2.1, hHeld.2.2.2.2⟩ (fun hHeld => ?_)
                              clear hK K
                              refine norm_ (a' := ?_) ?_ ?_
                              rotate_left
                              · show Act.put _ (some 138) _ = _
                                simp only [Act.put, List.setIfInBounds_toArray, List.set_cons_zero, List.set_cons_succ, i64_w, i32_w]
                                rfl
                              refine pure_ (i := 22) (N := some 139) (v := ?_) (a' := ?_) #[true, true, true, true, true, true, true, true, true, true, true, true, true, true, true, true, true, true, true, true, true, true, true, false] rfl rfl (any_of HT_.out (by kernel_rfl)) (fun _ _ _ h => h) (Or.inl ⟨by rfl, ?_⟩) ?_ ?_
                              rotate_left
                              · intro w'
                                go_simp
                                with_reducible rfl
                              rotate_left
                              · simp only [Act.put, List.setIfInBounds_toArray, List.set_cons_zero, List.set_cons_succ, i64_w, i32_w]
                                rfl
                              refine pure_ (i := 23) (N := some 22) (v := ?_) (a' := ?_) #[true, true, true, true, true, true, true, true, true, true, true, true, true, true, true, true, true, true, true, true, true, true, true, true] rfl rfl (any_of HT_.out (by kernel_rfl)) (fun _ _ _ h => h) (Or.inl ⟨by rfl, ?_⟩) ?_ ?_
                              rotate_left
                              · intro w'
                                go_simp
                                with_reducible rfl
                              rotate_left
                              · simp only [Act.put, List.setIfInBounds_toArray, List.set_cons_zero, List.set_cons_succ, i64_w, i32_w]
                                rfl
                              refine done_ (done_of HT_.out (by kernel_rfl)) ?_
                              try go_wp2
                              go_roundg k3
                              case measure => have := HJ12.out; have := HJ29.out; have := HK3.out; omega
                              case rel => exact ⟨(t331), (wrap64 (x23_3 + 1)), (by first | rfl | (simp; done) | (simp [*]; done)), (by first | rfl | (simp; done) | (simp [*]; done)), H', ⟨by have := HJ12.out; have := HJ29.out; have := HK3.out; omega⟩, ⟨by (with_reducible repeat (first | apply Kd.R_alloc | apply Kd.R_drewN | apply Kd.R_drew)); exact Kd.R_mono HO_3.out (fun _ hk => trivial)⟩, ⟨by (with_reducible repeat (first | apply Kd.S_alloc | apply Kd.S_drewN | apply Kd.S_drew)); exact Kd.S_mono HO_20.out (fun _ hk => hk.1)⟩, ⟨by repeat (first | (with_reducible first | exact HB.out | apply below_alloc | apply pw_below_drewN | apply below_drew1) | exact HB.out)⟩⟩
                            · rw [if_neg c47] at H
                              exact absurd H (by simp)
                          · rw [if_neg c46] at H
                            exact absurd H (by simp)
                        · rw [if_neg c45] at H
                          exact absurd H (by simp)
                    · rw [if_neg c41] at H
                      have c41b0 : decide (x23_3 < (t319.length : Int)) = false := decide_eq_false c41
                      clear c41
                      by_cases c56 : t320 = 0
                      · rw [if_pos c56] at H
                        have c56b0 : (t320 == 0) = true := beq_iff_eq.mpr c56
                        have c56b1 : (t320 != 0) = false := bne_eq_false_iff_eq.mpr c56
                        clear c56
                        obtain rfl := Option.some.inj H
                        obtain ⟨Ao57, co57, eo57⟩ := Kd.S_slice HO_20.out
                        subst eo57
                        go_wp2
                        go_ret
                        exact ⟨by first | rfl | (simp [errW_none, errW_some] <;> rfl) | (simp [*, errW_none, errW_some] <;> rfl), by repeat (first | (with_reducible first | exact HB.out | apply below_alloc | apply pw_below_drewN | apply below_drew1) | exact HB.out)⟩
                      · rw [if_neg c56] at H
                        have c56b0 : (t320 == 0) = false := beq_eq_false_iff_ne.mpr c56
                        have c56b1 : (t320 != 0) = true := bne_iff_ne.mpr c56
                        obtain rfl := Option.some.inj H
                        obtain ⟨Ao58, co58, eo58⟩ := Kd.S_slice HO_20.out
                        subst eo58
                        go_wp2
                        go_ret
                        exact ⟨by first | rfl | (simp [errW_none, errW_some] <;> rfl) | (simp [*, errW_none, errW_some] <;> rfl), by repeat (first | (with_reducible first | exact HB.out | apply below_alloc | apply pw_below_drewN | apply below_drew1) | exact HB.out)⟩
              · rw [if_neg c38] at H
                have c38b0 : (t304 == 0) = false := beq_eq_false_iff_ne.mpr c38
                have c38b1 : (t304 != 0) = true := bne_iff_ne.mpr c38
                obtain rfl := Option.some.inj H
                go_wp2
                go_ret
                exact ⟨by first | rfl | (simp [errW_none, errW_some] <;> rfl) | (simp [*, errW_none, errW_some] <;> rfl), by repeat (first | (with_reducible first | exact HB.out | apply below_alloc | apply pw_below_drewN | apply below_drew1) | exact HB.out)⟩

/-- THE ONE PURE STATEMENT of laws_FnClasses: yours. -/
def laws_FnClasses.Pure : Prop := ∀ (l0 : List Int), l0.length ≤ maxLen → l0.length * 1 ≤ 140737488351232 → (∀ x ∈ l0, (Lit.int .u8 x).wf = true) → ∃ k, laws_FnClasses.f k l0 = some true
theorem laws_FnClasses.walk (P : laws_FnClasses.Pure) (a0 : Option Addr) (len0 cap0 : Nat) (z0 : List Int) (w : World) (w0 : (a0 = none ∧ len0 = 0 ∧ cap0 = 0 ∧ z0 = []) ∨ ∃ x, a0 = some x ∧ len0 ≤ cap0 ∧ cap0 ≤ maxLen ∧ z0.length = cap0 ∧ (∀ i, i < z0.length → w.cell? (x.add i) = some (.int .u8 (z0.getD i 0))) ∧ ∀ n ∈ z0, (Lit.int .u8 n).wf = true) (y0 : len0 * 1 ≤ 140737488351232) :
    Calls Try.prog 14 #[.slice a0 len0 cap0] w fun e w' => e = .returned (.bool true) ∧ Below w.heap.size w w' := by
  obtain ⟨l0, rfl, hr0, hm0, hw0, hc0⟩ := ReadsInt.ofRowC w0
  obtain ⟨k, h⟩ := P l0 hm0 y0 hw0
  refine (laws_FnClasses.calls k _ _ l0 true w (Kd.C_of_reads (d := (0 : Int)) (h1 := fun _ => rfl) hr0) hc0 h).mono ?_
  rintro e w' ⟨rfl, hd⟩
  exact ⟨rfl, hd⟩

end Go.Proofs.Ytblfemlheolhoaa.QFnClasses
