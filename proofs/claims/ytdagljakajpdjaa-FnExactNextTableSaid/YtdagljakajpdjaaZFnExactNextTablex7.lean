import Derived.Test.YtdagljakajpdjaaZFnExactNextTablex0
import Derived.Test.YtdagljakajpdjaaZFnExactNextTablex1
import Derived.Test.YtdagljakajpdjaaZFnExactNextTablex3
import Derived.Test.YtdagljakajpdjaaZFnExactNextTablex5
import Derived.Test.YtdagljakajpdjaaZFnExactNextTablex6
namespace Go.Proofs.Ytdagljakajpdjaa.QFnExactNextTable
open Go.RowKit Go.Proofs.YtdagljakajpdjaaW.PrintWords Go.Proofs.YtdagljakajpdjaaW.PrintLast Go.Proofs.YtdagljakajpdjaaW.PrintMore
attribute [local go_sem] max2_int min2_int max_two min_two max_three min_three max_four min_four
set_option linter.unusedVariables false
set_option linter.unusedSimpArgs false
mutual
def laws_FnExactNextTable.j0 : Nat → List Int → Int → List Int → Int → Bool → List Int → Int → Int → Int → Int → Int → List Int → Int → Int → Int → Int → Int → List Int → Int → Int → Int → Int → Int → List Int → Int → Int → Int → Int → Int → Option (Bool)
 | 0, _, _, _, _, _, _, _, _, _, _, _, _, _, _, _, _, _, _, _, _, _, _, _, _, _, _, _, _, _ => none
 | k + 1, x1, x7, x9, x11, x51, x184000, x184001, x184002, x184003, x184004, x184005, x206000, x206001, x206002, x206003, x206004, x206005, x215000, x215001, x215002, x215003, x215004, x215005, x228000, x228001, x228002, x228003, x228004, x228005 => if x51 = true then (none) else ((laws_toTable.f k x184000 x184001 x184002 x184003 x184004 x184005).bind fun bt229 => ((laws_eqTable.f k x215000 x215001 x215002 x215003 x215004 x215005 bt229.1 bt229.2.1 bt229.2.2.1 bt229.2.2.2.1 bt229.2.2.2.2.1 bt229.2.2.2.2.2).bind fun t237 => (if t237 = true then ((laws_toInt64S.f k x1).bind fun t238 => ((laws_eqInt64S.f k x9 t238).bind fun t241 => (if t241 = true then ((laws_markTable.f k x215000 x215001 x215002 x215003 x215004 x215005 1).bind fun bt242 => ((laws_markInt64S.f k x9 bt242.1).bind fun bt244 => (if bt244.1 < 0 then (laws_FnExactNextTable.j1 k x1 x7 true x184000 x184001 x184002 x184003 x184004 x184005 x206000 x206001 x206002 x206003 x206004 x206005 x228000 x228001 x228002 x228003 x228004 x228005) else ((laws_eqTable.f k x228000 x228001 x228002 x228003 x228004 x228005 x206000 x206001 x206002 x206003 x206004 x206005).bind fun t246 => (if t246 = true then (laws_FnExactNextTable.j1 k x1 x7 (x11 != x7) x184000 x184001 x184002 x184003 x184004 x184005 x206000 x206001 x206002 x206003 x206004 x206005 x228000 x228001 x228002 x228003 x228004 x228005) else (laws_FnExactNextTable.j1 k x1 x7 true x184000 x184001 x184002 x184003 x184004 x184005 x206000 x206001 x206002 x206003 x206004 x206005 x228000 x228001 x228002 x228003 x228004 x228005)))))) else (none)))) else (none))))
def laws_FnExactNextTable.j1 : Nat → List Int → Int → Bool → List Int → Int → Int → Int → Int → Int → List Int → Int → Int → Int → Int → Int → List Int → Int → Int → Int → Int → Int → Option (Bool)
 | 0, _, _, _, _, _, _, _, _, _, _, _, _, _, _, _, _, _, _, _, _, _ => none
 | k + 1, x1, x7, x80, x184000, x184001, x184002, x184003, x184004, x184005, x206000, x206001, x206002, x206003, x206004, x206005, x228000, x228001, x228002, x228003, x228004, x228005 => if x80 = true then (none) else ((laws_markTable.f k x228000 x228001 x228002 x228003 x228004 x228005 1).bind fun bt247 => ((laws_heldTable.f k bt247.2 x228001 x228002 x228003 x228004 x228005 1).bind fun t249 => (if t249 < 0 then (none) else (if t249 = bt247.1 then ((laws_toTable.f k x184000 x184001 x184002 x184003 x184004 x184005).bind fun bt250 => ((laws_toInt64S.f k x1).bind fun t258 => ((impl_NextTable.f k bt250.1 bt250.2.1 bt250.2.2.1 bt250.2.2.2.1 bt250.2.2.2.2.1 bt250.2.2.2.2.2 t258).bind fun bt261 => ((laws_eqTable.f k bt261.1 bt261.2.1 bt261.2.2.1 bt261.2.2.2.1 bt261.2.2.2.2.1 bt261.2.2.2.2.2.1 x206000 x206001 x206002 x206003 x206004 x206005).bind fun t271 => (if t271 = true then (laws_FnExactNextTable.j2 k bt247.1 (bt261.2.2.2.2.2.2 != x7) bt247.2 x228001 x228002 x228003 x228004 x228005) else (laws_FnExactNextTable.j2 k bt247.1 true bt247.2 x228001 x228002 x228003 x228004 x228005)))))) else (none)))))
def laws_FnExactNextTable.j2 : Nat → Int → Bool → List Int → Int → Int → Int → Int → Int → Option (Bool)
 | 0, _, _, _, _, _, _, _, _ => none
 | k + 1, x13, x108, x228000, x228001, x228002, x228003, x228004, x228005 => if x108 = true then (none) else ((laws_heldTable.f k x228000 x228001 x228002 x228003 x228004 x228005 1).bind fun t272 => (if t272 < 0 then (none) else (if t272 = x13 then (some true) else (none))))
end
def laws_FnExactNextTable.f (k : Nat) (l0_0 : List Int) (a0_1 : Int) (a0_2 : Int) (a0_3 : Int) (a0_4 : Int) (a0_5 : Int) (l1 : List Int) : Option (Bool) := if (l1.length : Int) > 1048576 then (some true) else ((laws_szTable.f l0_0 a0_1 a0_2 a0_3 a0_4 a0_5 1048576).bind fun t184 => (if t184 < 0 then (some true) else ((laws_toTable.f k l0_0 a0_1 a0_2 a0_3 a0_4 a0_5).bind fun bt185 => ((laws_toInt64S.f k l1).bind fun t193 => ((spec_NextTable.f k bt185.1 bt185.2.1 bt185.2.2.1 bt185.2.2.2.1 bt185.2.2.2.2.1 bt185.2.2.2.2.2 t193).bind fun bt196 => ((laws_toTable.f k l0_0 a0_1 a0_2 a0_3 a0_4 a0_5).bind fun bt206 => ((laws_toInt64S.f k l1).bind fun t215 => ((impl_NextTable.f k bt206.1 bt206.2.1 bt206.2.2.1 bt206.2.2.2.1 bt206.2.2.2.2.1 bt206.2.2.2.2.2 t215).bind fun bt218 => ((laws_eqTable.f k bt218.1 bt218.2.1 bt218.2.2.1 bt218.2.2.2.1 bt218.2.2.2.2.1 bt218.2.2.2.2.2.1 bt196.1 bt196.2.1 bt196.2.2.1 bt196.2.2.2.1 bt196.2.2.2.2.1 bt196.2.2.2.2.2.1).bind fun t228 => (if t228 = true then (laws_FnExactNextTable.j0 k l1 bt196.2.2.2.2.2.2 t215 bt218.2.2.2.2.2.2 (bt218.2.2.2.2.2.2 != bt196.2.2.2.2.2.2) l0_0 a0_1 a0_2 a0_3 a0_4 a0_5 bt196.1 bt196.2.1 bt196.2.2.1 bt196.2.2.2.1 bt196.2.2.2.2.1 bt196.2.2.2.2.2.1 bt206.1 bt206.2.1 bt206.2.2.1 bt206.2.2.2.1 bt206.2.2.2.2.1 bt206.2.2.2.2.2 bt218.1 bt218.2.1 bt218.2.2.1 bt218.2.2.2.1 bt218.2.2.2.2.1 bt218.2.2.2.2.2.1) else (laws_FnExactNextTable.j0 k l1 bt196.2.2.2.2.2.2 t215 bt218.2.2.2.2.2.2 true l0_0 a0_1 a0_2 a0_3 a0_4 a0_5 bt196.1 bt196.2.1 bt196.2.2.1 bt196.2.2.2.1 bt196.2.2.2.2.1 bt196.2.2.2.2.2.1 bt206.1 bt206.2.1 bt206.2.2.1 bt206.2.2.2.1 bt206.2.2.2.2.1 bt206.2.2.2.2.2 bt218.1 bt218.2.1 bt218.2.2.1 bt218.2.2.2.1 bt218.2.2.2.2.1 bt218.2.2.2.2.2.1)))))))))))
theorem laws_FnExactNextTable.mono_l : ∀ k, (∀ y0 y1 y2 y3 y4 y5 y6 y7 y8 y9 y10 y11 y12 y13 y14 y15 y16 y17 y18 y19 y20 y21 y22 y23 y24 y25 y26 y27 y28, LeO (laws_FnExactNextTable.j0 k y0 y1 y2 y3 y4 y5 y6 y7 y8 y9 y10 y11 y12 y13 y14 y15 y16 y17 y18 y19 y20 y21 y22 y23 y24 y25 y26 y27 y28) (laws_FnExactNextTable.j0 (k + 1) y0 y1 y2 y3 y4 y5 y6 y7 y8 y9 y10 y11 y12 y13 y14 y15 y16 y17 y18 y19 y20 y21 y22 y23 y24 y25 y26 y27 y28)) ∧ (∀ y0 y1 y2 y3 y4 y5 y6 y7 y8 y9 y10 y11 y12 y13 y14 y15 y16 y17 y18 y19 y20, LeO (laws_FnExactNextTable.j1 k y0 y1 y2 y3 y4 y5 y6 y7 y8 y9 y10 y11 y12 y13 y14 y15 y16 y17 y18 y19 y20) (laws_FnExactNextTable.j1 (k + 1) y0 y1 y2 y3 y4 y5 y6 y7 y8 y9 y10 y11 y12 y13 y14 y15 y16 y17 y18 y19 y20)) ∧ (∀ y0 y1 y2 y3 y4 y5 y6 y7, LeO (laws_FnExactNextTable.j2 k y0 y1 y2 y3 y4 y5 y6 y7) (laws_FnExactNextTable.j2 (k + 1) y0 y1 y2 y3 y4 y5 y6 y7))
 | 0 => ⟨fun _ _ _ _ _ _ _ _ _ _ _ _ _ _ _ _ _ _ _ _ _ _ _ _ _ _ _ _ _ r h => by simp [laws_FnExactNextTable.j0] at h, fun _ _ _ _ _ _ _ _ _ _ _ _ _ _ _ _ _ _ _ _ _ r h => by simp [laws_FnExactNextTable.j1] at h, fun _ _ _ _ _ _ _ _ r h => by simp [laws_FnExactNextTable.j2] at h⟩
 | k + 1 => by
  obtain ⟨ih0, ih1, ih2⟩ := laws_FnExactNextTable.mono_l k
  refine ⟨?_, ?_, ?_⟩
  ·intro y0 y1 y2 y3 y4 y5 y6 y7 y8 y9 y10 y11 y12 y13 y14 y15 y16 y17 y18 y19 y20 y21 y22 y23 y24 y25 y26 y27 y28
   unfold laws_FnExactNextTable.j0
   repeat' first
   | (with_reducible exact ih0 _ _ _ _ _ _ _ _ _ _ _ _ _ _ _ _ _ _ _ _ _ _ _ _ _ _ _ _ _)
   | (with_reducible exact ih1 _ _ _ _ _ _ _ _ _ _ _ _ _ _ _ _ _ _ _ _ _)
   | (with_reducible exact ih2 _ _ _ _ _ _ _ _)
   | (with_reducible exact impl_NextTable.mono _ _ _ _ _ _ _ _)
   | (with_reducible exact laws_eqInt64S.mono _ _ _)
   | (with_reducible exact laws_eqTable.mono _ _ _ _ _ _ _ _ _ _ _ _ _)
   | (with_reducible exact laws_heldTable.mono _ _ _ _ _ _ _ _)
   | (with_reducible exact laws_markInt64S.mono _ _ _)
   | (with_reducible exact laws_markTable.mono _ _ _ _ _ _ _ _)
   | (with_reducible exact laws_toInt64S.mono _ _)
   | (with_reducible exact laws_toTable.mono _ _ _ _ _ _ _)
   | (with_reducible exact spec_NextTable.mono _ _ _ _ _ _ _ _)
   | (with_reducible exact LeO.refl _)
   | (with_reducible exact LeO.none _)
   | (with_reducible refine LeO.ite ?_ ?_)
   | (with_reducible refine LeO.bind ?_ (fun _ => ?_))
   | exact ih0 _ _ _ _ _ _ _ _ _ _ _ _ _ _ _ _ _ _ _ _ _ _ _ _ _ _ _ _ _
   | exact ih1 _ _ _ _ _ _ _ _ _ _ _ _ _ _ _ _ _ _ _ _ _
   | exact ih2 _ _ _ _ _ _ _ _
   | exact impl_NextTable.mono _ _ _ _ _ _ _ _
   | exact laws_eqInt64S.mono _ _ _
   | exact laws_eqTable.mono _ _ _ _ _ _ _ _ _ _ _ _ _
   | exact laws_heldTable.mono _ _ _ _ _ _ _ _
   | exact laws_markInt64S.mono _ _ _
   | exact laws_markTable.mono _ _ _ _ _ _ _ _
   | exact laws_toInt64S.mono _ _
   | exact laws_toTable.mono _ _ _ _ _ _ _
   | exact spec_NextTable.mono _ _ _ _ _ _ _ _
   | exact LeO.none _
   | refine LeO.ite ?_ ?_
   | refine LeO.bind ?_ (fun _ => ?_)
  ·intro y0 y1 y2 y3 y4 y5 y6 y7 y8 y9 y10 y11 y12 y13 y14 y15 y16 y17 y18 y19 y20
   unfold laws_FnExactNextTable.j1
   repeat' first
   | (with_reducible exact ih0 _ _ _ _ _ _ _ _ _ _ _ _ _ _ _ _ _ _ _ _ _ _ _ _ _ _ _ _ _)
   | (with_reducible exact ih1 _ _ _ _ _ _ _ _ _ _ _ _ _ _ _ _ _ _ _ _ _)
   | (with_reducible exact ih2 _ _ _ _ _ _ _ _)
   | (with_reducible exact impl_NextTable.mono _ _ _ _ _ _ _ _)
   | (with_reducible exact laws_eqInt64S.mono _ _ _)
   | (with_reducible exact laws_eqTable.mono _ _ _ _ _ _ _ _ _ _ _ _ _)
   | (with_reducible exact laws_heldTable.mono _ _ _ _ _ _ _ _)
   | (with_reducible exact laws_markInt64S.mono _ _ _)
   | (with_reducible exact laws_markTable.mono _ _ _ _ _ _ _ _)
   | (with_reducible exact laws_toInt64S.mono _ _)
   | (with_reducible exact laws_toTable.mono _ _ _ _ _ _ _)
   | (with_reducible exact spec_NextTable.mono _ _ _ _ _ _ _ _)
   | (with_reducible exact LeO.refl _)
   | (with_reducible exact LeO.none _)
   | (with_reducible refine LeO.ite ?_ ?_)
   | (with_reducible refine LeO.bind ?_ (fun _ => ?_))
   | exact ih0 _ _ _ _ _ _ _ _ _ _ _ _ _ _ _ _ _ _ _ _ _ _ _ _ _ _ _ _ _
   | exact ih1 _ _ _ _ _ _ _ _ _ _ _ _ _ _ _ _ _ _ _ _ _
   | exact ih2 _ _ _ _ _ _ _ _
   | exact impl_NextTable.mono _ _ _ _ _ _ _ _
   | exact laws_eqInt64S.mono _ _ _
   | exact laws_eqTable.mono _ _ _ _ _ _ _ _ _ _ _ _ _
   | exact laws_heldTable.mono _ _ _ _ _ _ _ _
   | exact laws_markInt64S.mono _ _ _
   | exact laws_markTable.mono _ _ _ _ _ _ _ _
   | exact laws_toInt64S.mono _ _
   | exact laws_toTable.mono _ _ _ _ _ _ _
   | exact spec_NextTable.mono _ _ _ _ _ _ _ _
   | exact LeO.none _
   | refine LeO.ite ?_ ?_
   | refine LeO.bind ?_ (fun _ => ?_)
  ·intro y0 y1 y2 y3 y4 y5 y6 y7
   unfold laws_FnExactNextTable.j2
   repeat' first
   | (with_reducible exact ih0 _ _ _ _ _ _ _ _ _ _ _ _ _ _ _ _ _ _ _ _ _ _ _ _ _ _ _ _ _)
   | (with_reducible exact ih1 _ _ _ _ _ _ _ _ _ _ _ _ _ _ _ _ _ _ _ _ _)
   | (with_reducible exact ih2 _ _ _ _ _ _ _ _)
   | (with_reducible exact impl_NextTable.mono _ _ _ _ _ _ _ _)
   | (with_reducible exact laws_eqInt64S.mono _ _ _)
   | (with_reducible exact laws_eqTable.mono _ _ _ _ _ _ _ _ _ _ _ _ _)
   | (with_reducible exact laws_heldTable.mono _ _ _ _ _ _ _ _)
   | (with_reducible exact laws_markInt64S.mono _ _ _)
   | (with_reducible exact laws_markTable.mono _ _ _ _ _ _ _ _)
   | (with_reducible exact laws_toInt64S.mono _ _)
   | (with_reducible exact laws_toTable.mono _ _ _ _ _ _ _)
   | (with_reducible exact spec_NextTable.mono _ _ _ _ _ _ _ _)
   | (with_reducible exact LeO.refl _)
   | (with_reducible exact LeO.none _)
   | (with_reducible refine LeO.ite ?_ ?_)
   | (with_reducible refine LeO.bind ?_ (fun _ => ?_))
   | exact ih0 _ _ _ _ _ _ _ _ _ _ _ _ _ _ _ _ _ _ _ _ _ _ _ _ _ _ _ _ _
   | exact ih1 _ _ _ _ _ _ _ _ _ _ _ _ _ _ _ _ _ _ _ _ _
   | exact ih2 _ _ _ _ _ _ _ _
   | exact impl_NextTable.mono _ _ _ _ _ _ _ _
   | exact laws_eqInt64S.mono _ _ _
   | exact laws_eqTable.mono _ _ _ _ _ _ _ _ _ _ _ _ _
   | exact laws_heldTable.mono _ _ _ _ _ _ _ _
   | exact laws_markInt64S.mono _ _ _
   | exact laws_markTable.mono _ _ _ _ _ _ _ _
   | exact laws_toInt64S.mono _ _
   | exact laws_toTable.mono _ _ _ _ _ _ _
   | exact spec_NextTable.mono _ _ _ _ _ _ _ _
   | exact LeO.none _
   | refine LeO.ite ?_ ?_
   | refine LeO.bind ?_ (fun _ => ?_)
theorem laws_FnExactNextTable.mono : ∀ a0 a1 a2 a3 a4 a5 a6 k, LeO (laws_FnExactNextTable.f k a0 a1 a2 a3 a4 a5 a6) (laws_FnExactNextTable.f (k + 1) a0 a1 a2 a3 a4 a5 a6) := by
 intro a0 a1 a2 a3 a4 a5 a6 k
 obtain ⟨ih0, ih1, ih2⟩ := laws_FnExactNextTable.mono_l k
 unfold laws_FnExactNextTable.f
 repeat' first
   | (with_reducible exact ih0 _ _ _ _ _ _ _ _ _ _ _ _ _ _ _ _ _ _ _ _ _ _ _ _ _ _ _ _ _)
   | (with_reducible exact ih1 _ _ _ _ _ _ _ _ _ _ _ _ _ _ _ _ _ _ _ _ _)
   | (with_reducible exact ih2 _ _ _ _ _ _ _ _)
   | (with_reducible exact impl_NextTable.mono _ _ _ _ _ _ _ _)
   | (with_reducible exact laws_eqInt64S.mono _ _ _)
   | (with_reducible exact laws_eqTable.mono _ _ _ _ _ _ _ _ _ _ _ _ _)
   | (with_reducible exact laws_heldTable.mono _ _ _ _ _ _ _ _)
   | (with_reducible exact laws_markInt64S.mono _ _ _)
   | (with_reducible exact laws_markTable.mono _ _ _ _ _ _ _ _)
   | (with_reducible exact laws_toInt64S.mono _ _)
   | (with_reducible exact laws_toTable.mono _ _ _ _ _ _ _)
   | (with_reducible exact spec_NextTable.mono _ _ _ _ _ _ _ _)
   | (with_reducible exact LeO.refl _)
   | (with_reducible exact LeO.none _)
   | (with_reducible refine LeO.ite ?_ ?_)
   | (with_reducible refine LeO.bind ?_ (fun _ => ?_))
   | exact ih0 _ _ _ _ _ _ _ _ _ _ _ _ _ _ _ _ _ _ _ _ _ _ _ _ _ _ _ _ _
   | exact ih1 _ _ _ _ _ _ _ _ _ _ _ _ _ _ _ _ _ _ _ _ _
   | exact ih2 _ _ _ _ _ _ _ _
   | exact impl_NextTable.mono _ _ _ _ _ _ _ _
   | exact laws_eqInt64S.mono _ _ _
   | exact laws_eqTable.mono _ _ _ _ _ _ _ _ _ _ _ _ _
   | exact laws_heldTable.mono _ _ _ _ _ _ _ _
   | exact laws_markInt64S.mono _ _ _
   | exact laws_markTable.mono _ _ _ _ _ _ _ _
   | exact laws_toInt64S.mono _ _
   | exact laws_toTable.mono _ _ _ _ _ _ _
   | exact spec_NextTable.mono _ _ _ _ _ _ _ _
   | exact LeO.none _
   | refine LeO.ite ?_ ?_
   | refine LeO.bind ?_ (fun _ => ?_)
set_option maxHeartbeats 8000000 in
set_option maxRecDepth 100000 in
theorem laws_FnExactNextTable.calls (k : Nat) (A0_0 : Option Addr) (c0_0 : Nat) (l0_0 : List Int) (a0_1 : Int) (a0_2 : Int) (a0_3 : Int) (a0_4 : Int) (a0_5 : Int) (A1 : Option Addr) (c1 : Nat) (l1 : List Int) (r : Bool) (w : World) (hr0_0 : Kd.C (Kd.int .i64) w A0_0 l0_0.length l0_0) (hc0_0 : l0_0.length ≤ c0_0) (hr1 : Kd.C (Kd.int .i64) w A1 l1.length l1) (hc1 : l1.length ≤ c1) (h : laws_FnExactNextTable.f k l0_0 a0_1 a0_2 a0_3 a0_4 a0_5 l1 = some r) :
  Calls Try.prog 10 #[.agg #[.slice A0_0 l0_0.length c0_0, .int .i64 a0_1, .int .i64 a0_2, .int .i64 a0_3, .int .i64 a0_4, .int .i64 a0_5], .slice A1 l1.length c1] w fun e w' => e = .returned (.bool r) ∧ Below w.heap.size w w' := by
 have hu24 := Try.underlying24
 have hu27 := Try.underlying27
 have HR0_0 := Aside0.mk hr0_0
 have HC0_0 := Aside0.mk hc0_0
 clear hr0_0 hc0_0
 have HR1 := Aside0.mk hr1
 have HC1 := Aside0.mk hc1
 clear hr1 hc1
 have HB := Aside0.mk (Below.refl w.heap.size w)
 have H : (if (l1.length : Int) > 1048576 then (some true) else ((laws_szTable.f l0_0 a0_1 a0_2 a0_3 a0_4 a0_5 1048576).bind fun t184 => (if t184 < 0 then (some true) else ((laws_toTable.f k l0_0 a0_1 a0_2 a0_3 a0_4 a0_5).bind fun bt185 => ((laws_toInt64S.f k l1).bind fun t193 => ((spec_NextTable.f k bt185.1 bt185.2.1 bt185.2.2.1 bt185.2.2.2.1 bt185.2.2.2.2.1 bt185.2.2.2.2.2 t193).bind fun bt196 => ((laws_toTable.f k l0_0 a0_1 a0_2 a0_3 a0_4 a0_5).bind fun bt206 => ((laws_toInt64S.f k l1).bind fun t215 => ((impl_NextTable.f k bt206.1 bt206.2.1 bt206.2.2.1 bt206.2.2.2.1 bt206.2.2.2.2.1 bt206.2.2.2.2.2 t215).bind fun bt218 => ((laws_eqTable.f k bt218.1 bt218.2.1 bt218.2.2.1 bt218.2.2.2.1 bt218.2.2.2.2.1 bt218.2.2.2.2.2.1 bt196.1 bt196.2.1 bt196.2.2.1 bt196.2.2.2.1 bt196.2.2.2.2.1 bt196.2.2.2.2.2.1).bind fun t228 => (if t228 = true then (laws_FnExactNextTable.j0 k l1 bt196.2.2.2.2.2.2 t215 bt218.2.2.2.2.2.2 (bt218.2.2.2.2.2.2 != bt196.2.2.2.2.2.2) l0_0 a0_1 a0_2 a0_3 a0_4 a0_5 bt196.1 bt196.2.1 bt196.2.2.1 bt196.2.2.2.1 bt196.2.2.2.2.1 bt196.2.2.2.2.2.1 bt206.1 bt206.2.1 bt206.2.2.1 bt206.2.2.2.1 bt206.2.2.2.2.1 bt206.2.2.2.2.2 bt218.1 bt218.2.1 bt218.2.2.1 bt218.2.2.2.1 bt218.2.2.2.2.1 bt218.2.2.2.2.2.1) else (laws_FnExactNextTable.j0 k l1 bt196.2.2.2.2.2.2 t215 bt218.2.2.2.2.2.2 true l0_0 a0_1 a0_2 a0_3 a0_4 a0_5 bt196.1 bt196.2.1 bt196.2.2.1 bt196.2.2.2.1 bt196.2.2.2.2.1 bt196.2.2.2.2.2.1 bt206.1 bt206.2.1 bt206.2.2.1 bt206.2.2.2.1 bt206.2.2.2.2.1 bt206.2.2.2.2.2 bt218.1 bt218.2.1 bt218.2.2.1 bt218.2.2.2.1 bt218.2.2.2.2.1 bt218.2.2.2.2.2.1)))))))))))) = some r := h
 clear h
 by_cases c3 : (l1.length : Int) > 1048576
 ·rw [if_pos c3] at H
  have c3b0 : decide (1048576 < (l1.length : Int)) = true := decide_eq_true c3
  have c3b1 : decide (1048576 < l1.length) = true := decide_eq_true (by omega)
  clear c3
  obtain rfl := Option.some.inj H
  go_enter Try.func10, Try.ntmps10
  go_wp2_with (first | ((with_reducible refine gate_dst (N := 2) rfl ?_); refine bE 2 #[.slice A0_0 l0_0.length c0_0, .int .i64 a0_1, .int .i64 a0_2, .int .i64 a0_3, .int .i64 a0_4, .int .i64 a0_5] 24 ?_; intro gb183 hg w4 hbox hb; have BK183 := Aside0.mk (hbox); have GW183 := Aside0.mk (gE hg (bA HB.out)); have GE183 := Aside0.mk (gE hg (bA HB.out)); replace HB := Aside0.mk (below_step (bA HB.out) hb); clear hb hbox hg))
  go_ret
  exact ⟨by first | rfl | (simp [errW_none, errW_some] <;> rfl) | (simp [*, errW_none, errW_some] <;> rfl), bA HB.out⟩
 ·rw [if_neg c3] at H
  have c3b0 : decide (1048576 < (l1.length : Int)) = false := decide_eq_false c3
  have c3b1 : decide (1048576 < l1.length) = false := decide_eq_false (by omega)
  clear c3
  obtain ⟨t184, A50, H⟩ := Option.bind_eq_some_iff.mp H
  try dsimp only at H
  have A5 := Aside0.mk A50
  clear A50
  by_cases c6 : t184 < 0
  ·rw [if_pos c6] at H
   have c6b0 : decide (t184 < 0) = true := decide_eq_true c6
   clear c6
   obtain rfl := Option.some.inj H
   go_enter Try.func10, Try.ntmps10
   go_wp2_with (first | ((with_reducible refine gate_dst (N := 2) rfl ?_); refine bE 2 #[.slice A0_0 l0_0.length c0_0, .int .i64 a0_1, .int .i64 a0_2, .int .i64 a0_3, .int .i64 a0_4, .int .i64 a0_5] 24 ?_; intro gb183 hg w7 hbox hb; have BK183 := Aside0.mk (hbox); have GW183 := Aside0.mk (gE hg (bA HB.out)); have GE183 := Aside0.mk (gE hg (bA HB.out)); replace HB := Aside0.mk (below_step (bA HB.out) hb); clear hb hbox hg; obtain ⟨hcz8_0, hcz8_1, hcz8_2, hcz8_3, hcz8_4, hcz8_5, hfz8_0, hfz8_1, hfz8_2, hfz8_3, hfz8_4, hfz8_5⟩ := cz6 BK183.out) | ((with_reducible refine gate_callee (f := 14) rfl ?_); refine gL (some 22) Try.func14 #[.agg #[.slice A0_0 l0_0.length c0_0, .int .i64 a0_1, .int .i64 a0_2, .int .i64 a0_3, .int .i64 a0_4, .int .i64 a0_5], .int .i64 1048576] ?_; (with_reducible refine (laws_szTable.calls _ _ l0_0 a0_1 a0_2 a0_3 a0_4 a0_5 1048576 t184 _ ?side1 ?side2 A5.out).mono ?_); (case side1 => exact cA (Kd.C_below HR0_0.out HB.out)); (case side2 => exact HC0_0.out); rintro e w9 ⟨rfl, hb⟩; refine ⟨_, rfl, ?_⟩; replace BK183 := Aside0.mk (blk_below (kA BK183.out) hb); replace HB := Aside0.mk (below_step (bA HB.out) hb); (try clear hb)))
   go_ret
   exact ⟨by first | rfl | (simp [errW_none, errW_some] <;> rfl) | (simp [*, errW_none, errW_some] <;> rfl), bA HB.out⟩
  ·rw [if_neg c6] at H
   have c6b0 : decide (t184 < 0) = false := decide_eq_false c6
   clear c6
   obtain ⟨⟨t185, t188, t189, t190, t191, t192⟩, A100, H⟩ := Option.bind_eq_some_iff.mp H
   try dsimp only at H
   have A10 := Aside0.mk A100
   clear A100
   obtain ⟨t193, A110, H⟩ := Option.bind_eq_some_iff.mp H
   try dsimp only at H
   have A11 := Aside0.mk A110
   clear A110
   obtain ⟨⟨t196, t199, t200, t201, t202, t203, t204⟩, A120, H⟩ := Option.bind_eq_some_iff.mp H
   try dsimp only at H
   have A12 := Aside0.mk A120
   clear A120
   obtain ⟨⟨t206, t209, t210, t211, t212, t213⟩, A130, H⟩ := Option.bind_eq_some_iff.mp H
   try dsimp only at H
   have A13 := Aside0.mk A130
   clear A130
   obtain ⟨t215, A140, H⟩ := Option.bind_eq_some_iff.mp H
   try dsimp only at H
   have A14 := Aside0.mk A140
   clear A140
   obtain ⟨⟨t218, t221, t222, t223, t224, t225, t226⟩, A150, H⟩ := Option.bind_eq_some_iff.mp H
   try dsimp only at H
   have A15 := Aside0.mk A150
   clear A150
   have HC16 := Aside0.mk H
   clear H
   go_enter Try.func10, Try.ntmps10
   go_upto_region 11 with (first | ((with_reducible refine gate_dst (N := 2) rfl ?_); refine bE 2 #[.slice A0_0 l0_0.length c0_0, .int .i64 a0_1, .int .i64 a0_2, .int .i64 a0_3, .int .i64 a0_4, .int .i64 a0_5] 24 ?_; intro gb183 hg w17 hbox hb; have BK183 := Aside0.mk (hbox); have GW183 := Aside0.mk (gE hg (bA HB.out)); have GE183 := Aside0.mk (gE hg (bA HB.out)); replace HB := Aside0.mk (below_step (bA HB.out) hb); clear hb hbox hg; obtain ⟨hcz18_0, hcz18_1, hcz18_2, hcz18_3, hcz18_4, hcz18_5, hfz18_0, hfz18_1, hfz18_2, hfz18_3, hfz18_4, hfz18_5⟩ := cz6 BK183.out) | ((with_reducible refine gate_callee (f := 14) rfl ?_); refine gL (some 22) Try.func14 #[.agg #[.slice A0_0 l0_0.length c0_0, .int .i64 a0_1, .int .i64 a0_2, .int .i64 a0_3, .int .i64 a0_4, .int .i64 a0_5], .int .i64 1048576] ?_; (with_reducible refine (laws_szTable.calls _ _ l0_0 a0_1 a0_2 a0_3 a0_4 a0_5 1048576 t184 _ ?side1 ?side2 A5.out).mono ?_); (case side1 => exact cA (Kd.C_below HR0_0.out HB.out)); (case side2 => exact HC0_0.out); rintro e w19 ⟨rfl, hb⟩; refine ⟨_, rfl, ?_⟩; replace BK183 := Aside0.mk (blk_below (kA BK183.out) hb); replace HB := Aside0.mk (below_step (bA HB.out) hb); (try clear hb); obtain ⟨hcz20_0, hcz20_1, hcz20_2, hcz20_3, hcz20_4, hcz20_5, hfz20_0, hfz20_1, hfz20_2, hfz20_3, hfz20_4, hfz20_5⟩ := cz6 BK183.out) | ((with_reducible refine gate_callee (f := 16) rfl ?_); refine gL (some 27) Try.func16 #[.agg #[.slice A0_0 l0_0.length c0_0, .int .i64 a0_1, .int .i64 a0_2, .int .i64 a0_3, .int .i64 a0_4, .int .i64 a0_5]] ?_; (with_reducible refine (laws_toTable.calls k _ _ l0_0 a0_1 a0_2 a0_3 a0_4 a0_5 t185 t188 t189 t190 t191 t192 _ ?side1 ?side2 A10.out).mono ?_); (case side1 => exact cA (Kd.C_below HR0_0.out HB.out)); (case side2 => exact HC0_0.out); rintro e w21 ⟨v186, rfl, ho0, hb⟩; refine ⟨_, rfl, ?_⟩; have HO187 := Aside0.mk (Kd.R_lower ho0 (below_size (bA HB.out))); replace BK183 := Aside0.mk (blk_below (kA BK183.out) hb); replace HB := Aside0.mk (below_step (bA HB.out) hb); (try clear hb); (try clear ho0)) | ((with_reducible refine gate_callee (f := 36) rfl ?_); refine gL (some 29) Try.func36 #[.slice A1 l1.length c1] ?_; (with_reducible refine (laws_toInt64S.calls k _ _ l1 t193 _ ?side1 ?side2 A11.out).mono ?_); (case side1 => exact cA (Kd.C_below HR1.out HB.out)); (case side2 => exact HC1.out); rintro e w22 ⟨v194, rfl, ho0, hb⟩; refine ⟨_, rfl, ?_⟩; have HO195 := Aside0.mk (Kd.R_lower (Kd.R_new' ho0 (Kd.R_lt (rA HO187.out))) (below_size (bA HB.out))); replace HO187 := Aside0.mk (Kd.R_elder' (rA HO187.out) (Kd.R_base ho0) hb); replace BK183 := Aside0.mk (blk_below (kA BK183.out) hb); replace HB := Aside0.mk (below_step (bA HB.out) hb); (try clear hb); (try clear ho0); obtain ⟨Ao23, co23, eo23⟩ := Kd.R_slice HO187.out; subst eo23; obtain ⟨Ao24, co24, eo24⟩ := Kd.R_slice HO195.out; subst eo24) | ((with_reducible refine gate_callee (f := 35) rfl ?_); refine gL (some 30) Try.func35 #[.agg #[.slice Ao23 t185.length co23, .int .i64 t188, .int .i64 t189, .int .i64 t190, .int .i64 t191, .int .i64 t192], .slice Ao24 t193.length co24] ?_; (with_reducible refine (spec_NextTable.calls k _ _ t185 t188 t189 t190 t191 t192 _ _ t193 t196 t199 t200 t201 t202 t203 t204 _ ?side1 ?side2 ?side3 ?side4 A12.out).mono ?_); (case side1 => exact cA ((Kd.R_reads' HO187.out).2.2)); (case side2 => exact (Kd.R_reads' HO187.out).2.1); (case side3 => exact cA ((Kd.R_reads' HO195.out).2.2)); (case side4 => exact (Kd.R_reads' HO195.out).2.1); rintro e w25 ⟨v197, rfl, ho0, hb⟩; refine ⟨_, rfl, ?_⟩; have HO198 := Aside0.mk (Kd.R_lower (Kd.R_new' (Kd.R_new' ho0 (Kd.R_lt (rA HO187.out))) (Kd.R_lt (rA HO195.out))) (below_size (bA HB.out))); replace HO187 := Aside0.mk (Kd.R_elder' (rA HO187.out) (Kd.R_base ho0) hb); replace HO195 := Aside0.mk (Kd.R_elder' (rA HO195.out) (Kd.R_base ho0) hb); replace BK183 := Aside0.mk (blk_below (kA BK183.out) hb); replace HB := Aside0.mk (below_step (bA HB.out) hb); (try clear hb); (try clear ho0)) | ((with_reducible refine gate_dst (N := 6) rfl ?_); refine bE 6 #[.slice none 0 0, .int .i64 0, .int .i64 0, .int .i64 0, .int .i64 0, .int .i64 0] 27 ?_; intro gb205 hg w26 hbox hb; replace HO187 := Aside0.mk (Kd.R_below (rA HO187.out) hb); replace HO195 := Aside0.mk (Kd.R_below (rA HO195.out) hb); replace HO198 := Aside0.mk (Kd.R_below (rA HO198.out) hb); have BK205 := Aside0.mk (hbox); have GW205 := Aside0.mk (gE hg (bA HB.out)); have GE205 := Aside0.mk (gE hg (bA HB.out)); replace HB := Aside0.mk (below_step (bA HB.out) hb); have NB183_205 := Aside0.mk ((by rw [hg]; exact Nat.ne_of_lt (blk_lt (kA BK183.out)) : gb183 ≠ gb205)); have NB205_183 := Aside0.mk ((by rw [hg]; exact Nat.ne_of_gt (blk_lt (kA BK183.out)) : gb205 ≠ gb183)); replace BK183 := Aside0.mk (blk_below (kA BK183.out) hb); clear hb hbox hg; obtain ⟨Ao27, co27, eo27⟩ := Kd.R_slice HO198.out; subst eo27; have hnb28 := NB205_183.out; have hnc28 := NB183_205.out; obtain ⟨hcz29_0, hcz29_1, hcz29_2, hcz29_3, hcz29_4, hcz29_5, hfz29_0, hfz29_1, hfz29_2, hfz29_3, hfz29_4, hfz29_5⟩ := cz6 BK205.out; obtain ⟨hcz30_0, hcz30_1, hcz30_2, hcz30_3, hcz30_4, hcz30_5, hfz30_0, hfz30_1, hfz30_2, hfz30_3, hfz30_4, hfz30_5⟩ := cz6 BK183.out) | ((with_reducible refine gate_callee (f := 16) rfl ?_); refine gL (some 34) Try.func16 #[.agg #[.slice A0_0 l0_0.length c0_0, .int .i64 a0_1, .int .i64 a0_2, .int .i64 a0_3, .int .i64 a0_4, .int .i64 a0_5]] ?_; (with_reducible refine (laws_toTable.calls k _ _ l0_0 a0_1 a0_2 a0_3 a0_4 a0_5 t206 t209 t210 t211 t212 t213 _ ?side1 ?side2 A13.out).mono ?_); (case side1 => exact Kd.C_below HR0_0.out (bA HB.out)); (case side2 => exact HC0_0.out); rintro e w31 ⟨v207, rfl, ho0, hb⟩; refine ⟨_, rfl, ?_⟩; have HO208 := Aside0.mk (Kd.R_lower (Kd.R_new' (Kd.R_new' (Kd.R_new' ho0 (Kd.R_lt (rA (rF6 HO187.out BK205.out)))) (Kd.R_lt (rA (rF6 HO195.out BK205.out)))) (Kd.R_lt (rA (rF6 HO198.out BK205.out)))) (below_size (bA HB.out))); replace HO187 := Aside0.mk (Kd.R_elder' (rA (rF6 HO187.out BK205.out)) (Kd.R_base ho0) hb); replace HO195 := Aside0.mk (Kd.R_elder' (rA (rF6 HO195.out BK205.out)) (Kd.R_base ho0) hb); replace HO198 := Aside0.mk (Kd.R_elder' (rA (rF6 HO198.out BK205.out)) (Kd.R_base ho0) hb); replace BK183 := Aside0.mk (blk_below (g := gb183) (o := .cells #[.slice A0_0 l0_0.length c0_0, .int .i64 a0_1, .int .i64 a0_2, .int .i64 a0_3, .int .i64 a0_4, .int .i64 a0_5] 24 (0, 0)) (by (with_reducible repeat (first | refine blk_drewN ?_ _ | refine blk_drew ?_ | refine blk_alloc ?_ _)); refine blk_far ?_ NB183_205.out _; (with_reducible repeat (first | refine blk_drewN ?_ _ | refine blk_drew ?_ | refine blk_alloc ?_ _)); refine blk_far ?_ NB183_205.out _; (with_reducible repeat (first | refine blk_drewN ?_ _ | refine blk_drew ?_ | refine blk_alloc ?_ _)); refine blk_far ?_ NB183_205.out _; (with_reducible repeat (first | refine blk_drewN ?_ _ | refine blk_drew ?_ | refine blk_alloc ?_ _)); refine blk_far ?_ NB183_205.out _; (with_reducible repeat (first | refine blk_drewN ?_ _ | refine blk_drew ?_ | refine blk_alloc ?_ _)); refine blk_far ?_ NB183_205.out _; (with_reducible repeat (first | refine blk_drewN ?_ _ | refine blk_drew ?_ | refine blk_alloc ?_ _)); refine blk_far ?_ NB183_205.out _; (with_reducible repeat (first | refine blk_drewN ?_ _ | refine blk_drew ?_ | refine blk_alloc ?_ _)); exact BK183.out) hb); replace BK205 := Aside0.mk (blk_below (g := gb205) (o := .cells #[.slice Ao27 t196.length co27, .int .i64 t199, .int .i64 t200, .int .i64 t201, .int .i64 t202, .int .i64 t203] 27 (0, 0)) (by (with_reducible repeat (first | refine blk_drewN ?_ _ | refine blk_drew ?_ | refine blk_alloc ?_ _)); refine blk_put (cs := #[.slice Ao27 t196.length co27, .int .i64 t199, .int .i64 t200, .int .i64 t201, .int .i64 t202, .int .i64 0]) ?_ 5 _ rfl; (with_reducible repeat (first | refine blk_drewN ?_ _ | refine blk_drew ?_ | refine blk_alloc ?_ _)); refine blk_put (cs := #[.slice Ao27 t196.length co27, .int .i64 t199, .int .i64 t200, .int .i64 t201, .int .i64 0, .int .i64 0]) ?_ 4 _ rfl; (with_reducible repeat (first | refine blk_drewN ?_ _ | refine blk_drew ?_ | refine blk_alloc ?_ _)); refine blk_put (cs := #[.slice Ao27 t196.length co27, .int .i64 t199, .int .i64 t200, .int .i64 0, .int .i64 0, .int .i64 0]) ?_ 3 _ rfl; (with_reducible repeat (first | refine blk_drewN ?_ _ | refine blk_drew ?_ | refine blk_alloc ?_ _)); refine blk_put (cs := #[.slice Ao27 t196.length co27, .int .i64 t199, .int .i64 0, .int .i64 0, .int .i64 0, .int .i64 0]) ?_ 2 _ rfl; (with_reducible repeat (first | refine blk_drewN ?_ _ | refine blk_drew ?_ | refine blk_alloc ?_ _)); refine blk_put (cs := #[.slice Ao27 t196.length co27, .int .i64 0, .int .i64 0, .int .i64 0, .int .i64 0, .int .i64 0]) ?_ 1 _ rfl; (with_reducible repeat (first | refine blk_drewN ?_ _ | refine blk_drew ?_ | refine blk_alloc ?_ _)); refine blk_put (cs := #[.slice none 0 0, .int .i64 0, .int .i64 0, .int .i64 0, .int .i64 0, .int .i64 0]) ?_ 0 _ rfl; (with_reducible repeat (first | refine blk_drewN ?_ _ | refine blk_drew ?_ | refine blk_alloc ?_ _)); exact BK205.out) hb); replace HB := Aside0.mk (below_step (bA HB.out) hb); (try clear hb); (try clear ho0)) | ((with_reducible refine gate_dst (N := 8) rfl ?_); refine bE 8 #[.slice none 0 0, .int .i64 0, .int .i64 0, .int .i64 0, .int .i64 0, .int .i64 0] 27 ?_; intro gb214 hg w32 hbox hb; replace HO187 := Aside0.mk (Kd.R_below (rA HO187.out) hb); replace HO195 := Aside0.mk (Kd.R_below (rA HO195.out) hb); replace HO198 := Aside0.mk (Kd.R_below (rA HO198.out) hb); replace HO208 := Aside0.mk (Kd.R_below (rA HO208.out) hb); have BK214 := Aside0.mk (hbox); have GW214 := Aside0.mk (gE hg (bA HB.out)); have GE214 := Aside0.mk (gE hg (bA HB.out)); replace HB := Aside0.mk (below_step (bA HB.out) hb); have NB183_214 := Aside0.mk ((by rw [hg]; exact Nat.ne_of_lt (blk_lt (kA BK183.out)) : gb183 ≠ gb214)); have NB214_183 := Aside0.mk ((by rw [hg]; exact Nat.ne_of_gt (blk_lt (kA BK183.out)) : gb214 ≠ gb183)); replace BK183 := Aside0.mk (blk_below (kA BK183.out) hb); have NB205_214 := Aside0.mk ((by rw [hg]; exact Nat.ne_of_lt (blk_lt (kA BK205.out)) : gb205 ≠ gb214)); have NB214_205 := Aside0.mk ((by rw [hg]; exact Nat.ne_of_gt (blk_lt (kA BK205.out)) : gb214 ≠ gb205)); replace BK205 := Aside0.mk (blk_below (kA BK205.out) hb); clear hb hbox hg; obtain ⟨Ao33, co33, eo33⟩ := Kd.R_slice HO208.out; subst eo33; have hnb34 := NB214_183.out; have hnc34 := NB183_214.out; have hnb35 := NB214_205.out; have hnc35 := NB205_214.out; obtain ⟨hcz36_0, hcz36_1, hcz36_2, hcz36_3, hcz36_4, hcz36_5, hfz36_0, hfz36_1, hfz36_2, hfz36_3, hfz36_4, hfz36_5⟩ := cz6 BK214.out) | ((with_reducible refine gate_callee (f := 36) rfl ?_); refine gL (some 36) Try.func36 #[.slice A1 l1.length c1] ?_; (with_reducible refine (laws_toInt64S.calls k _ _ l1 t215 _ ?side1 ?side2 A14.out).mono ?_); (case side1 => exact Kd.C_below HR1.out (bA HB.out)); (case side2 => exact HC1.out); rintro e w37 ⟨v216, rfl, ho0, hb⟩; refine ⟨_, rfl, ?_⟩; have HO217 := Aside0.mk (Kd.R_lower (Kd.R_new' (Kd.R_new' (Kd.R_new' (Kd.R_new' ho0 (Kd.R_lt (rA (rF6 HO187.out BK214.out)))) (Kd.R_lt (rA (rF6 HO195.out BK214.out)))) (Kd.R_lt (rA (rF6 HO198.out BK214.out)))) (Kd.R_lt (rA (rF6 HO208.out BK214.out)))) (below_size (bA HB.out))); replace HO187 := Aside0.mk (Kd.R_elder' (rA (rF6 HO187.out BK214.out)) (Kd.R_base ho0) hb); replace HO195 := Aside0.mk (Kd.R_elder' (rA (rF6 HO195.out BK214.out)) (Kd.R_base ho0) hb); replace HO198 := Aside0.mk (Kd.R_elder' (rA (rF6 HO198.out BK214.out)) (Kd.R_base ho0) hb); replace HO208 := Aside0.mk (Kd.R_elder' (rA (rF6 HO208.out BK214.out)) (Kd.R_base ho0) hb); replace BK183 := Aside0.mk (blk_below (g := gb183) (o := .cells #[.slice A0_0 l0_0.length c0_0, .int .i64 a0_1, .int .i64 a0_2, .int .i64 a0_3, .int .i64 a0_4, .int .i64 a0_5] 24 (0, 0)) (by (with_reducible repeat (first | refine blk_drewN ?_ _ | refine blk_drew ?_ | refine blk_alloc ?_ _)); refine blk_far ?_ NB183_214.out _; (with_reducible repeat (first | refine blk_drewN ?_ _ | refine blk_drew ?_ | refine blk_alloc ?_ _)); refine blk_far ?_ NB183_214.out _; (with_reducible repeat (first | refine blk_drewN ?_ _ | refine blk_drew ?_ | refine blk_alloc ?_ _)); refine blk_far ?_ NB183_214.out _; (with_reducible repeat (first | refine blk_drewN ?_ _ | refine blk_drew ?_ | refine blk_alloc ?_ _)); refine blk_far ?_ NB183_214.out _; (with_reducible repeat (first | refine blk_drewN ?_ _ | refine blk_drew ?_ | refine blk_alloc ?_ _)); refine blk_far ?_ NB183_214.out _; (with_reducible repeat (first | refine blk_drewN ?_ _ | refine blk_drew ?_ | refine blk_alloc ?_ _)); refine blk_far ?_ NB183_214.out _; (with_reducible repeat (first | refine blk_drewN ?_ _ | refine blk_drew ?_ | refine blk_alloc ?_ _)); exact BK183.out) hb); replace BK205 := Aside0.mk (blk_below (g := gb205) (o := .cells #[.slice Ao27 t196.length co27, .int .i64 t199, .int .i64 t200, .int .i64 t201, .int .i64 t202, .int .i64 t203] 27 (0, 0)) (by (with_reducible repeat (first | refine blk_drewN ?_ _ | refine blk_drew ?_ | refine blk_alloc ?_ _)); refine blk_far ?_ NB205_214.out _; (with_reducible repeat (first | refine blk_drewN ?_ _ | refine blk_drew ?_ | refine blk_alloc ?_ _)); refine blk_far ?_ NB205_214.out _; (with_reducible repeat (first | refine blk_drewN ?_ _ | refine blk_drew ?_ | refine blk_alloc ?_ _)); refine blk_far ?_ NB205_214.out _; (with_reducible repeat (first | refine blk_drewN ?_ _ | refine blk_drew ?_ | refine blk_alloc ?_ _)); refine blk_far ?_ NB205_214.out _; (with_reducible repeat (first | refine blk_drewN ?_ _ | refine blk_drew ?_ | refine blk_alloc ?_ _)); refine blk_far ?_ NB205_214.out _; (with_reducible repeat (first | refine blk_drewN ?_ _ | refine blk_drew ?_ | refine blk_alloc ?_ _)); refine blk_far ?_ NB205_214.out _; (with_reducible repeat (first | refine blk_drewN ?_ _ | refine blk_drew ?_ | refine blk_alloc ?_ _)); exact BK205.out) hb); replace BK214 := Aside0.mk (blk_below (g := gb214) (o := .cells #[.slice Ao33 t206.length co33, .int .i64 t209, .int .i64 t210, .int .i64 t211, .int .i64 t212, .int .i64 t213] 27 (0, 0)) (by (with_reducible repeat (first | refine blk_drewN ?_ _ | refine blk_drew ?_ | refine blk_alloc ?_ _)); refine blk_put (cs := #[.slice Ao33 t206.length co33, .int .i64 t209, .int .i64 t210, .int .i64 t211, .int .i64 t212, .int .i64 0]) ?_ 5 _ rfl; (with_reducible repeat (first | refine blk_drewN ?_ _ | refine blk_drew ?_ | refine blk_alloc ?_ _)); refine blk_put (cs := #[.slice Ao33 t206.length co33, .int .i64 t209, .int .i64 t210, .int .i64 t211, .int .i64 0, .int .i64 0]) ?_ 4 _ rfl; (with_reducible repeat (first | refine blk_drewN ?_ _ | refine blk_drew ?_ | refine blk_alloc ?_ _)); refine blk_put (cs := #[.slice Ao33 t206.length co33, .int .i64 t209, .int .i64 t210, .int .i64 0, .int .i64 0, .int .i64 0]) ?_ 3 _ rfl; (with_reducible repeat (first | refine blk_drewN ?_ _ | refine blk_drew ?_ | refine blk_alloc ?_ _)); refine blk_put (cs := #[.slice Ao33 t206.length co33, .int .i64 t209, .int .i64 0, .int .i64 0, .int .i64 0, .int .i64 0]) ?_ 2 _ rfl; (with_reducible repeat (first | refine blk_drewN ?_ _ | refine blk_drew ?_ | refine blk_alloc ?_ _)); refine blk_put (cs := #[.slice Ao33 t206.length co33, .int .i64 0, .int .i64 0, .int .i64 0, .int .i64 0, .int .i64 0]) ?_ 1 _ rfl; (with_reducible repeat (first | refine blk_drewN ?_ _ | refine blk_drew ?_ | refine blk_alloc ?_ _)); refine blk_put (cs := #[.slice none 0 0, .int .i64 0, .int .i64 0, .int .i64 0, .int .i64 0, .int .i64 0]) ?_ 0 _ rfl; (with_reducible repeat (first | refine blk_drewN ?_ _ | refine blk_drew ?_ | refine blk_alloc ?_ _)); exact BK214.out) hb); replace HB := Aside0.mk (below_step (bA HB.out) hb); (try clear hb); (try clear ho0); obtain ⟨hcz38_0, hcz38_1, hcz38_2, hcz38_3, hcz38_4, hcz38_5, hfz38_0, hfz38_1, hfz38_2, hfz38_3, hfz38_4, hfz38_5⟩ := cz6 BK214.out; obtain ⟨Ao39, co39, eo39⟩ := Kd.R_slice HO217.out; subst eo39) | ((with_reducible refine gate_callee (f := 37) rfl ?_); refine gL (some 40) Try.func37 #[.agg #[.slice Ao33 t206.length co33, .int .i64 t209, .int .i64 t210, .int .i64 t211, .int .i64 t212, .int .i64 t213], .slice Ao39 t215.length co39] ?_; (with_reducible refine (impl_NextTable.calls k _ _ t206 t209 t210 t211 t212 t213 _ _ t215 t218 t221 t222 t223 t224 t225 t226 _ ?side1 ?side2 ?side3 ?side4 A15.out).mono ?_); (case side1 => exact cA ((Kd.R_reads' HO208.out).2.2)); (case side2 => exact (Kd.R_reads' HO208.out).2.1); (case side3 => exact cA ((Kd.R_reads' HO217.out).2.2)); (case side4 => exact (Kd.R_reads' HO217.out).2.1); rintro e w40 ⟨v219, rfl, ho0, hb⟩; refine ⟨_, rfl, ?_⟩; have HO220 := Aside0.mk (Kd.R_lower (Kd.R_new' (Kd.R_new' (Kd.R_new' (Kd.R_new' (Kd.R_new' ho0 (Kd.R_lt (rA HO187.out))) (Kd.R_lt (rA HO195.out))) (Kd.R_lt (rA HO198.out))) (Kd.R_lt (rA HO208.out))) (Kd.R_lt (rA HO217.out))) (below_size (bA HB.out))); replace HO187 := Aside0.mk (Kd.R_elder' (rA HO187.out) (Kd.R_base ho0) hb); replace HO195 := Aside0.mk (Kd.R_elder' (rA HO195.out) (Kd.R_base ho0) hb); replace HO198 := Aside0.mk (Kd.R_elder' (rA HO198.out) (Kd.R_base ho0) hb); replace HO208 := Aside0.mk (Kd.R_elder' (rA HO208.out) (Kd.R_base ho0) hb); replace HO217 := Aside0.mk (Kd.R_elder' (rA HO217.out) (Kd.R_base ho0) hb); replace BK183 := Aside0.mk (blk_below (kA BK183.out) hb); replace BK205 := Aside0.mk (blk_below (kA BK205.out) hb); replace BK214 := Aside0.mk (blk_below (kA BK214.out) hb); replace HB := Aside0.mk (below_step (bA HB.out) hb); (try clear hb); (try clear ho0)) | ((with_reducible refine gate_dst (N := 10) rfl ?_); refine bE 10 #[.slice none 0 0, .int .i64 0, .int .i64 0, .int .i64 0, .int .i64 0, .int .i64 0] 27 ?_; intro gb227 hg w41 hbox hb; replace HO187 := Aside0.mk (Kd.R_below (rA HO187.out) hb); replace HO195 := Aside0.mk (Kd.R_below (rA HO195.out) hb); replace HO198 := Aside0.mk (Kd.R_below (rA HO198.out) hb); replace HO208 := Aside0.mk (Kd.R_below (rA HO208.out) hb); replace HO217 := Aside0.mk (Kd.R_below (rA HO217.out) hb); replace HO220 := Aside0.mk (Kd.R_below (rA HO220.out) hb); have BK227 := Aside0.mk (hbox); have GW227 := Aside0.mk (gE hg (bA HB.out)); have GE227 := Aside0.mk (gE hg (bA HB.out)); replace HB := Aside0.mk (below_step (bA HB.out) hb); have NB183_227 := Aside0.mk ((by rw [hg]; exact Nat.ne_of_lt (blk_lt (kA BK183.out)) : gb183 ≠ gb227)); have NB227_183 := Aside0.mk ((by rw [hg]; exact Nat.ne_of_gt (blk_lt (kA BK183.out)) : gb227 ≠ gb183)); replace BK183 := Aside0.mk (blk_below (kA BK183.out) hb); have NB205_227 := Aside0.mk ((by rw [hg]; exact Nat.ne_of_lt (blk_lt (kA BK205.out)) : gb205 ≠ gb227)); have NB227_205 := Aside0.mk ((by rw [hg]; exact Nat.ne_of_gt (blk_lt (kA BK205.out)) : gb227 ≠ gb205)); replace BK205 := Aside0.mk (blk_below (kA BK205.out) hb); have NB214_227 := Aside0.mk ((by rw [hg]; exact Nat.ne_of_lt (blk_lt (kA BK214.out)) : gb214 ≠ gb227)); have NB227_214 := Aside0.mk ((by rw [hg]; exact Nat.ne_of_gt (blk_lt (kA BK214.out)) : gb227 ≠ gb214)); replace BK214 := Aside0.mk (blk_below (kA BK214.out) hb); clear hb hbox hg; obtain ⟨Ao42, co42, eo42⟩ := Kd.R_slice HO220.out; subst eo42; have hnb43 := NB227_183.out; have hnc43 := NB183_227.out; have hnb44 := NB227_205.out; have hnc44 := NB205_227.out; have hnb45 := NB227_214.out; have hnc45 := NB214_227.out; obtain ⟨hcz46_0, hcz46_1, hcz46_2, hcz46_3, hcz46_4, hcz46_5, hfz46_0, hfz46_1, hfz46_2, hfz46_3, hfz46_4, hfz46_5⟩ := cz6 BK227.out))
   (try simp only [Act.put, List.setIfInBounds_toArray, List.set_cons_zero, List.set_cons_succ])
   go_cut [51] (fun v51 wc => ∃ (kq : Nat) (x51_15 : Bool), v51 = .bool x51_15 ∧ Aside0 (laws_FnExactNextTable.j0 kq l1 t204 t215 t226 x51_15 l0_0 a0_1 a0_2 a0_3 a0_4 a0_5 t196 t199 t200 t201 t202 t203 t206 t209 t210 t211 t212 t213 t218 t221 t222 t223 t224 t225 = some r) ∧ Aside0 (kq ≤ k) ∧ Aside0 (Kd.R (Kd.int .i64) 2 wc w.heap.size (fun k_ => some k_ ≠ ((.slice Ao27 t196.length co27) : Value).ownBlock ∧ some k_ ≠ ((.slice Ao33 t206.length co33) : Value).ownBlock ∧ some k_ ≠ ((.slice Ao42 t218.length co42) : Value).ownBlock) (.slice Ao39 t215.length co39) t215) ∧ Aside0 (Kd.R (Kd.int .i64) 2 wc w.heap.size (fun k_ => some k_ ≠ ((.slice Ao39 t215.length co39) : Value).ownBlock ∧ some k_ ≠ ((.slice Ao33 t206.length co33) : Value).ownBlock ∧ some k_ ≠ ((.slice Ao42 t218.length co42) : Value).ownBlock) (.slice Ao27 t196.length co27) t196) ∧ Aside0 (Kd.R (Kd.int .i64) 2 wc w.heap.size (fun k_ => some k_ ≠ ((.slice Ao39 t215.length co39) : Value).ownBlock ∧ some k_ ≠ ((.slice Ao27 t196.length co27) : Value).ownBlock ∧ some k_ ≠ ((.slice Ao42 t218.length co42) : Value).ownBlock) (.slice Ao33 t206.length co33) t206) ∧ Aside0 (Kd.R (Kd.int .i64) 2 wc w.heap.size (fun k_ => some k_ ≠ ((.slice Ao39 t215.length co39) : Value).ownBlock ∧ some k_ ≠ ((.slice Ao27 t196.length co27) : Value).ownBlock ∧ some k_ ≠ ((.slice Ao33 t206.length co33) : Value).ownBlock) (.slice Ao42 t218.length co42) t218) ∧ Aside0 (wc.heap[gb183]? = some (.cells #[(.slice A0_0 l0_0.length c0_0), .int .i64 a0_1, .int .i64 a0_2, .int .i64 a0_3, .int .i64 a0_4, .int .i64 a0_5] 24 (0, 0))) ∧ Aside0 (wc.heap[gb205]? = some (.cells #[(.slice Ao27 t196.length co27), .int .i64 t199, .int .i64 t200, .int .i64 t201, .int .i64 t202, .int .i64 t203] 27 (0, 0))) ∧ Aside0 (wc.heap[gb214]? = some (.cells #[(.slice Ao33 t206.length co33), .int .i64 t209, .int .i64 t210, .int .i64 t211, .int .i64 t212, .int .i64 t213] 27 (0, 0))) ∧ Aside0 (wc.heap[gb227]? = some (.cells #[(.slice Ao42 t218.length co42), .int .i64 t221, .int .i64 t222, .int .i64 t223, .int .i64 t224, .int .i64 t225] 27 (0, 0))) ∧ Aside0 (Below w.heap.size w wc))
   case first =>
    have H := HC16.out
    clear HC16
    obtain ⟨t228, A470, H⟩ := Option.bind_eq_some_iff.mp H
    try dsimp only at H
    have A47 := Aside0.mk A470
    clear A470
    by_cases c48 : t228 = true
    ·subst c48
     rw [if_pos rfl] at H
     try dsimp only at H
     have H' := Aside0.mk H
     clear H
     have hnb49 := NB227_183.out
     have hnc49 := NB183_227.out
     have hnb50 := NB227_205.out
     have hnc50 := NB205_227.out
     have hnb51 := NB227_214.out
     have hnc51 := NB214_227.out
     obtain ⟨hcz52_0, hcz52_1, hcz52_2, hcz52_3, hcz52_4, hcz52_5, hfz52_0, hfz52_1, hfz52_2, hfz52_3, hfz52_4, hfz52_5⟩ := cz6 BK227.out
     have hnb53 := NB205_183.out
     have hnc53 := NB183_205.out
     have hnb54 := NB205_214.out
     have hnc54 := NB214_205.out
     obtain ⟨hcz55_0, hcz55_1, hcz55_2, hcz55_3, hcz55_4, hcz55_5, hfz55_0, hfz55_1, hfz55_2, hfz55_3, hfz55_4, hfz55_5⟩ := cz6 BK205.out
     go_wp2_with (first | ((with_reducible refine gate_callee (f := 18) rfl ?_); refine gL (some 45) Try.func18 #[.agg #[.slice Ao42 t218.length co42, .int .i64 t221, .int .i64 t222, .int .i64 t223, .int .i64 t224, .int .i64 t225], .agg #[.slice Ao27 t196.length co27, .int .i64 t199, .int .i64 t200, .int .i64 t201, .int .i64 t202, .int .i64 t203]] ?_; (with_reducible refine (laws_eqTable.calls k _ _ t218 t221 t222 t223 t224 t225 _ _ t196 t199 t200 t201 t202 t203 true _ ?side1 ?side2 ?side3 ?side4 A47.out).mono ?_); (case side1 => refine (Kd.R_reads' (e := 2) (base := w.heap.size) (ok := fun k_ => (((((True ∧ some k_ ≠ (.slice Ao23 t185.length co23 : Value).ownBlock) ∧ some k_ ≠ (.slice Ao24 t193.length co24 : Value).ownBlock) ∧ some k_ ≠ (.slice Ao27 t196.length co27 : Value).ownBlock) ∧ some k_ ≠ (.slice Ao33 t206.length co33 : Value).ownBlock) ∧ some k_ ≠ (.slice Ao39 t215.length co39 : Value).ownBlock)) (n := t218.length) (c := co42) ?_).2.2; exact (rA (rF6 HO220.out BK227.out))); (case side2 => exact (Kd.R_reads' HO220.out).2.1); (case side3 => refine (Kd.R_reads' (e := 2) (base := w.heap.size) (ok := fun k_ => (((((True ∧ some k_ ≠ (.slice Ao23 t185.length co23 : Value).ownBlock) ∧ some k_ ≠ (.slice Ao24 t193.length co24 : Value).ownBlock) ∧ some k_ ≠ (.slice Ao33 t206.length co33 : Value).ownBlock) ∧ some k_ ≠ (.slice Ao39 t215.length co39 : Value).ownBlock) ∧ some k_ ≠ (.slice Ao42 t218.length co42 : Value).ownBlock)) (n := t196.length) (c := co27) ?_).2.2; exact (rA (rF6 HO198.out BK227.out))); (case side4 => exact (Kd.R_reads' HO198.out).2.1); rintro e w56 ⟨rfl, hb⟩; refine ⟨_, rfl, ?_⟩; replace HO187 := Aside0.mk (Kd.R_below (rA (rF6 HO187.out BK227.out)) hb); replace HO195 := Aside0.mk (Kd.R_below (rA (rF6 HO195.out BK227.out)) hb); replace HO198 := Aside0.mk (Kd.R_below (rA (rF6 HO198.out BK227.out)) hb); replace HO208 := Aside0.mk (Kd.R_below (rA (rF6 HO208.out BK227.out)) hb); replace HO217 := Aside0.mk (Kd.R_below (rA (rF6 HO217.out BK227.out)) hb); replace HO220 := Aside0.mk (Kd.R_below (rA (rF6 HO220.out BK227.out)) hb); replace BK183 := Aside0.mk (blk_below (g := gb183) (o := .cells #[.slice A0_0 l0_0.length c0_0, .int .i64 a0_1, .int .i64 a0_2, .int .i64 a0_3, .int .i64 a0_4, .int .i64 a0_5] 24 (0, 0)) (by (with_reducible repeat (first | refine blk_drewN ?_ _ | refine blk_drew ?_ | refine blk_alloc ?_ _)); refine blk_far ?_ NB183_227.out _; (with_reducible repeat (first | refine blk_drewN ?_ _ | refine blk_drew ?_ | refine blk_alloc ?_ _)); refine blk_far ?_ NB183_227.out _; (with_reducible repeat (first | refine blk_drewN ?_ _ | refine blk_drew ?_ | refine blk_alloc ?_ _)); refine blk_far ?_ NB183_227.out _; (with_reducible repeat (first | refine blk_drewN ?_ _ | refine blk_drew ?_ | refine blk_alloc ?_ _)); refine blk_far ?_ NB183_227.out _; (with_reducible repeat (first | refine blk_drewN ?_ _ | refine blk_drew ?_ | refine blk_alloc ?_ _)); refine blk_far ?_ NB183_227.out _; (with_reducible repeat (first | refine blk_drewN ?_ _ | refine blk_drew ?_ | refine blk_alloc ?_ _)); refine blk_far ?_ NB183_227.out _; (with_reducible repeat (first | refine blk_drewN ?_ _ | refine blk_drew ?_ | refine blk_alloc ?_ _)); exact BK183.out) hb); replace BK205 := Aside0.mk (blk_below (g := gb205) (o := .cells #[.slice Ao27 t196.length co27, .int .i64 t199, .int .i64 t200, .int .i64 t201, .int .i64 t202, .int .i64 t203] 27 (0, 0)) (by (with_reducible repeat (first | refine blk_drewN ?_ _ | refine blk_drew ?_ | refine blk_alloc ?_ _)); refine blk_far ?_ NB205_227.out _; (with_reducible repeat (first | refine blk_drewN ?_ _ | refine blk_drew ?_ | refine blk_alloc ?_ _)); refine blk_far ?_ NB205_227.out _; (with_reducible repeat (first | refine blk_drewN ?_ _ | refine blk_drew ?_ | refine blk_alloc ?_ _)); refine blk_far ?_ NB205_227.out _; (with_reducible repeat (first | refine blk_drewN ?_ _ | refine blk_drew ?_ | refine blk_alloc ?_ _)); refine blk_far ?_ NB205_227.out _; (with_reducible repeat (first | refine blk_drewN ?_ _ | refine blk_drew ?_ | refine blk_alloc ?_ _)); refine blk_far ?_ NB205_227.out _; (with_reducible repeat (first | refine blk_drewN ?_ _ | refine blk_drew ?_ | refine blk_alloc ?_ _)); refine blk_far ?_ NB205_227.out _; (with_reducible repeat (first | refine blk_drewN ?_ _ | refine blk_drew ?_ | refine blk_alloc ?_ _)); exact BK205.out) hb); replace BK214 := Aside0.mk (blk_below (g := gb214) (o := .cells #[.slice Ao33 t206.length co33, .int .i64 t209, .int .i64 t210, .int .i64 t211, .int .i64 t212, .int .i64 t213] 27 (0, 0)) (by (with_reducible repeat (first | refine blk_drewN ?_ _ | refine blk_drew ?_ | refine blk_alloc ?_ _)); refine blk_far ?_ NB214_227.out _; (with_reducible repeat (first | refine blk_drewN ?_ _ | refine blk_drew ?_ | refine blk_alloc ?_ _)); refine blk_far ?_ NB214_227.out _; (with_reducible repeat (first | refine blk_drewN ?_ _ | refine blk_drew ?_ | refine blk_alloc ?_ _)); refine blk_far ?_ NB214_227.out _; (with_reducible repeat (first | refine blk_drewN ?_ _ | refine blk_drew ?_ | refine blk_alloc ?_ _)); refine blk_far ?_ NB214_227.out _; (with_reducible repeat (first | refine blk_drewN ?_ _ | refine blk_drew ?_ | refine blk_alloc ?_ _)); refine blk_far ?_ NB214_227.out _; (with_reducible repeat (first | refine blk_drewN ?_ _ | refine blk_drew ?_ | refine blk_alloc ?_ _)); refine blk_far ?_ NB214_227.out _; (with_reducible repeat (first | refine blk_drewN ?_ _ | refine blk_drew ?_ | refine blk_alloc ?_ _)); exact BK214.out) hb); replace BK227 := Aside0.mk (blk_below (g := gb227) (o := .cells #[.slice Ao42 t218.length co42, .int .i64 t221, .int .i64 t222, .int .i64 t223, .int .i64 t224, .int .i64 t225] 27 (0, 0)) (by (with_reducible repeat (first | refine blk_drewN ?_ _ | refine blk_drew ?_ | refine blk_alloc ?_ _)); refine blk_put (cs := #[.slice Ao42 t218.length co42, .int .i64 t221, .int .i64 t222, .int .i64 t223, .int .i64 t224, .int .i64 0]) ?_ 5 _ rfl; (with_reducible repeat (first | refine blk_drewN ?_ _ | refine blk_drew ?_ | refine blk_alloc ?_ _)); refine blk_put (cs := #[.slice Ao42 t218.length co42, .int .i64 t221, .int .i64 t222, .int .i64 t223, .int .i64 0, .int .i64 0]) ?_ 4 _ rfl; (with_reducible repeat (first | refine blk_drewN ?_ _ | refine blk_drew ?_ | refine blk_alloc ?_ _)); refine blk_put (cs := #[.slice Ao42 t218.length co42, .int .i64 t221, .int .i64 t222, .int .i64 0, .int .i64 0, .int .i64 0]) ?_ 3 _ rfl; (with_reducible repeat (first | refine blk_drewN ?_ _ | refine blk_drew ?_ | refine blk_alloc ?_ _)); refine blk_put (cs := #[.slice Ao42 t218.length co42, .int .i64 t221, .int .i64 0, .int .i64 0, .int .i64 0, .int .i64 0]) ?_ 2 _ rfl; (with_reducible repeat (first | refine blk_drewN ?_ _ | refine blk_drew ?_ | refine blk_alloc ?_ _)); refine blk_put (cs := #[.slice Ao42 t218.length co42, .int .i64 0, .int .i64 0, .int .i64 0, .int .i64 0, .int .i64 0]) ?_ 1 _ rfl; (with_reducible repeat (first | refine blk_drewN ?_ _ | refine blk_drew ?_ | refine blk_alloc ?_ _)); refine blk_put (cs := #[.slice none 0 0, .int .i64 0, .int .i64 0, .int .i64 0, .int .i64 0, .int .i64 0]) ?_ 0 _ rfl; (with_reducible repeat (first | refine blk_drewN ?_ _ | refine blk_drew ?_ | refine blk_alloc ?_ _)); exact BK227.out) hb); replace HB := Aside0.mk (below_step (bA HB.out) hb); (try clear hb)))
     go_meet
     case rel => exact ⟨_, ((t226 != t204)), (by first | rfl | (simp; done) | (simp [*]; done)), H', ⟨by first | omega | exact Nat.le_refl _⟩, ⟨by (with_reducible repeat (first | apply Kd.R_alloc | apply Kd.R_drewN | apply Kd.R_drew)); exact Kd.R_mono HO217.out (fun _ hk => ⟨hk.1.1.2, ⟨hk.1.2, hk.2⟩⟩)⟩, ⟨by (with_reducible repeat (first | apply Kd.R_alloc | apply Kd.R_drewN | apply Kd.R_drew)); exact Kd.R_mono HO198.out (fun _ hk => ⟨hk.1.2, ⟨hk.1.1.2, hk.2⟩⟩)⟩, ⟨by (with_reducible repeat (first | apply Kd.R_alloc | apply Kd.R_drewN | apply Kd.R_drew)); exact Kd.R_mono HO208.out (fun _ hk => ⟨hk.1.2, ⟨hk.1.1.2, hk.2⟩⟩)⟩, ⟨by (with_reducible repeat (first | apply Kd.R_alloc | apply Kd.R_drewN | apply Kd.R_drew)); exact Kd.R_mono HO220.out (fun _ hk => ⟨hk.2, ⟨hk.1.1.2, hk.1.2⟩⟩)⟩, ⟨by (with_reducible repeat (first | refine blk_drewN ?_ _ | refine blk_drew ?_ | refine blk_alloc ?_ _)); exact BK183.out⟩, ⟨by (with_reducible repeat (first | refine blk_drewN ?_ _ | refine blk_drew ?_ | refine blk_alloc ?_ _)); exact BK205.out⟩, ⟨by (with_reducible repeat (first | refine blk_drewN ?_ _ | refine blk_drew ?_ | refine blk_alloc ?_ _)); exact BK214.out⟩, ⟨by (with_reducible repeat (first | refine blk_drewN ?_ _ | refine blk_drew ?_ | refine blk_alloc ?_ _)); exact BK227.out⟩, ⟨bA HB.out⟩⟩
    ·replace c48 := Bool.eq_false_iff.mpr c48
     subst c48
     rw [if_neg (show ¬ (false = true) by decide)] at H
     try dsimp only at H
     have H' := Aside0.mk H
     clear H
     have hnb57 := NB227_183.out
     have hnc57 := NB183_227.out
     have hnb58 := NB227_205.out
     have hnc58 := NB205_227.out
     have hnb59 := NB227_214.out
     have hnc59 := NB214_227.out
     obtain ⟨hcz60_0, hcz60_1, hcz60_2, hcz60_3, hcz60_4, hcz60_5, hfz60_0, hfz60_1, hfz60_2, hfz60_3, hfz60_4, hfz60_5⟩ := cz6 BK227.out
     have hnb61 := NB205_183.out
     have hnc61 := NB183_205.out
     have hnb62 := NB205_214.out
     have hnc62 := NB214_205.out
     obtain ⟨hcz63_0, hcz63_1, hcz63_2, hcz63_3, hcz63_4, hcz63_5, hfz63_0, hfz63_1, hfz63_2, hfz63_3, hfz63_4, hfz63_5⟩ := cz6 BK205.out
     go_wp2_with (first | ((with_reducible refine gate_callee (f := 18) rfl ?_); refine gL (some 45) Try.func18 #[.agg #[.slice Ao42 t218.length co42, .int .i64 t221, .int .i64 t222, .int .i64 t223, .int .i64 t224, .int .i64 t225], .agg #[.slice Ao27 t196.length co27, .int .i64 t199, .int .i64 t200, .int .i64 t201, .int .i64 t202, .int .i64 t203]] ?_; (with_reducible refine (laws_eqTable.calls k _ _ t218 t221 t222 t223 t224 t225 _ _ t196 t199 t200 t201 t202 t203 false _ ?side1 ?side2 ?side3 ?side4 A47.out).mono ?_); (case side1 => refine (Kd.R_reads' (e := 2) (base := w.heap.size) (ok := fun k_ => (((((True ∧ some k_ ≠ (.slice Ao23 t185.length co23 : Value).ownBlock) ∧ some k_ ≠ (.slice Ao24 t193.length co24 : Value).ownBlock) ∧ some k_ ≠ (.slice Ao27 t196.length co27 : Value).ownBlock) ∧ some k_ ≠ (.slice Ao33 t206.length co33 : Value).ownBlock) ∧ some k_ ≠ (.slice Ao39 t215.length co39 : Value).ownBlock)) (n := t218.length) (c := co42) ?_).2.2; exact (rA (rF6 HO220.out BK227.out))); (case side2 => exact (Kd.R_reads' HO220.out).2.1); (case side3 => refine (Kd.R_reads' (e := 2) (base := w.heap.size) (ok := fun k_ => (((((True ∧ some k_ ≠ (.slice Ao23 t185.length co23 : Value).ownBlock) ∧ some k_ ≠ (.slice Ao24 t193.length co24 : Value).ownBlock) ∧ some k_ ≠ (.slice Ao33 t206.length co33 : Value).ownBlock) ∧ some k_ ≠ (.slice Ao39 t215.length co39 : Value).ownBlock) ∧ some k_ ≠ (.slice Ao42 t218.length co42 : Value).ownBlock)) (n := t196.length) (c := co27) ?_).2.2; exact (rA (rF6 HO198.out BK227.out))); (case side4 => exact (Kd.R_reads' HO198.out).2.1); rintro e w64 ⟨rfl, hb⟩; refine ⟨_, rfl, ?_⟩; replace HO187 := Aside0.mk (Kd.R_below (rA (rF6 HO187.out BK227.out)) hb); replace HO195 := Aside0.mk (Kd.R_below (rA (rF6 HO195.out BK227.out)) hb); replace HO198 := Aside0.mk (Kd.R_below (rA (rF6 HO198.out BK227.out)) hb); replace HO208 := Aside0.mk (Kd.R_below (rA (rF6 HO208.out BK227.out)) hb); replace HO217 := Aside0.mk (Kd.R_below (rA (rF6 HO217.out BK227.out)) hb); replace HO220 := Aside0.mk (Kd.R_below (rA (rF6 HO220.out BK227.out)) hb); replace BK183 := Aside0.mk (blk_below (g := gb183) (o := .cells #[.slice A0_0 l0_0.length c0_0, .int .i64 a0_1, .int .i64 a0_2, .int .i64 a0_3, .int .i64 a0_4, .int .i64 a0_5] 24 (0, 0)) (by (with_reducible repeat (first | refine blk_drewN ?_ _ | refine blk_drew ?_ | refine blk_alloc ?_ _)); refine blk_far ?_ NB183_227.out _; (with_reducible repeat (first | refine blk_drewN ?_ _ | refine blk_drew ?_ | refine blk_alloc ?_ _)); refine blk_far ?_ NB183_227.out _; (with_reducible repeat (first | refine blk_drewN ?_ _ | refine blk_drew ?_ | refine blk_alloc ?_ _)); refine blk_far ?_ NB183_227.out _; (with_reducible repeat (first | refine blk_drewN ?_ _ | refine blk_drew ?_ | refine blk_alloc ?_ _)); refine blk_far ?_ NB183_227.out _; (with_reducible repeat (first | refine blk_drewN ?_ _ | refine blk_drew ?_ | refine blk_alloc ?_ _)); refine blk_far ?_ NB183_227.out _; (with_reducible repeat (first | refine blk_drewN ?_ _ | refine blk_drew ?_ | refine blk_alloc ?_ _)); refine blk_far ?_ NB183_227.out _; (with_reducible repeat (first | refine blk_drewN ?_ _ | refine blk_drew ?_ | refine blk_alloc ?_ _)); exact BK183.out) hb); replace BK205 := Aside0.mk (blk_below (g := gb205) (o := .cells #[.slice Ao27 t196.length co27, .int .i64 t199, .int .i64 t200, .int .i64 t201, .int .i64 t202, .int .i64 t203] 27 (0, 0)) (by (with_reducible repeat (first | refine blk_drewN ?_ _ | refine blk_drew ?_ | refine blk_alloc ?_ _)); refine blk_far ?_ NB205_227.out _; (with_reducible repeat (first | refine blk_drewN ?_ _ | refine blk_drew ?_ | refine blk_alloc ?_ _)); refine blk_far ?_ NB205_227.out _; (with_reducible repeat (first | refine blk_drewN ?_ _ | refine blk_drew ?_ | refine blk_alloc ?_ _)); refine blk_far ?_ NB205_227.out _; (with_reducible repeat (first | refine blk_drewN ?_ _ | refine blk_drew ?_ | refine blk_alloc ?_ _)); refine blk_far ?_ NB205_227.out _; (with_reducible repeat (first | refine blk_drewN ?_ _ | refine blk_drew ?_ | refine blk_alloc ?_ _)); refine blk_far ?_ NB205_227.out _; (with_reducible repeat (first | refine blk_drewN ?_ _ | refine blk_drew ?_ | refine blk_alloc ?_ _)); refine blk_far ?_ NB205_227.out _; (with_reducible repeat (first | refine blk_drewN ?_ _ | refine blk_drew ?_ | refine blk_alloc ?_ _)); exact BK205.out) hb); replace BK214 := Aside0.mk (blk_below (g := gb214) (o := .cells #[.slice Ao33 t206.length co33, .int .i64 t209, .int .i64 t210, .int .i64 t211, .int .i64 t212, .int .i64 t213] 27 (0, 0)) (by (with_reducible repeat (first | refine blk_drewN ?_ _ | refine blk_drew ?_ | refine blk_alloc ?_ _)); refine blk_far ?_ NB214_227.out _; (with_reducible repeat (first | refine blk_drewN ?_ _ | refine blk_drew ?_ | refine blk_alloc ?_ _)); refine blk_far ?_ NB214_227.out _; (with_reducible repeat (first | refine blk_drewN ?_ _ | refine blk_drew ?_ | refine blk_alloc ?_ _)); refine blk_far ?_ NB214_227.out _; (with_reducible repeat (first | refine blk_drewN ?_ _ | refine blk_drew ?_ | refine blk_alloc ?_ _)); refine blk_far ?_ NB214_227.out _; (with_reducible repeat (first | refine blk_drewN ?_ _ | refine blk_drew ?_ | refine blk_alloc ?_ _)); refine blk_far ?_ NB214_227.out _; (with_reducible repeat (first | refine blk_drewN ?_ _ | refine blk_drew ?_ | refine blk_alloc ?_ _)); refine blk_far ?_ NB214_227.out _; (with_reducible repeat (first | refine blk_drewN ?_ _ | refine blk_drew ?_ | refine blk_alloc ?_ _)); exact BK214.out) hb); replace BK227 := Aside0.mk (blk_below (g := gb227) (o := .cells #[.slice Ao42 t218.length co42, .int .i64 t221, .int .i64 t222, .int .i64 t223, .int .i64 t224, .int .i64 t225] 27 (0, 0)) (by (with_reducible repeat (first | refine blk_drewN ?_ _ | refine blk_drew ?_ | refine blk_alloc ?_ _)); refine blk_put (cs := #[.slice Ao42 t218.length co42, .int .i64 t221, .int .i64 t222, .int .i64 t223, .int .i64 t224, .int .i64 0]) ?_ 5 _ rfl; (with_reducible repeat (first | refine blk_drewN ?_ _ | refine blk_drew ?_ | refine blk_alloc ?_ _)); refine blk_put (cs := #[.slice Ao42 t218.length co42, .int .i64 t221, .int .i64 t222, .int .i64 t223, .int .i64 0, .int .i64 0]) ?_ 4 _ rfl; (with_reducible repeat (first | refine blk_drewN ?_ _ | refine blk_drew ?_ | refine blk_alloc ?_ _)); refine blk_put (cs := #[.slice Ao42 t218.length co42, .int .i64 t221, .int .i64 t222, .int .i64 0, .int .i64 0, .int .i64 0]) ?_ 3 _ rfl; (with_reducible repeat (first | refine blk_drewN ?_ _ | refine blk_drew ?_ | refine blk_alloc ?_ _)); refine blk_put (cs := #[.slice Ao42 t218.length co42, .int .i64 t221, .int .i64 0, .int .i64 0, .int .i64 0, .int .i64 0]) ?_ 2 _ rfl; (with_reducible repeat (first | refine blk_drewN ?_ _ | refine blk_drew ?_ | refine blk_alloc ?_ _)); refine blk_put (cs := #[.slice Ao42 t218.length co42, .int .i64 0, .int .i64 0, .int .i64 0, .int .i64 0, .int .i64 0]) ?_ 1 _ rfl; (with_reducible repeat (first | refine blk_drewN ?_ _ | refine blk_drew ?_ | refine blk_alloc ?_ _)); refine blk_put (cs := #[.slice none 0 0, .int .i64 0, .int .i64 0, .int .i64 0, .int .i64 0, .int .i64 0]) ?_ 0 _ rfl; (with_reducible repeat (first | refine blk_drewN ?_ _ | refine blk_drew ?_ | refine blk_alloc ?_ _)); exact BK227.out) hb); replace HB := Aside0.mk (below_step (bA HB.out) hb); (try clear hb)))
     go_meet
     case rel => exact ⟨_, (true), (by first | rfl | (simp; done) | (simp [*]; done)), H', ⟨by first | omega | exact Nat.le_refl _⟩, ⟨by (with_reducible repeat (first | apply Kd.R_alloc | apply Kd.R_drewN | apply Kd.R_drew)); exact Kd.R_mono HO217.out (fun _ hk => ⟨hk.1.1.2, ⟨hk.1.2, hk.2⟩⟩)⟩, ⟨by (with_reducible repeat (first | apply Kd.R_alloc | apply Kd.R_drewN | apply Kd.R_drew)); exact Kd.R_mono HO198.out (fun _ hk => ⟨hk.1.2, ⟨hk.1.1.2, hk.2⟩⟩)⟩, ⟨by (with_reducible repeat (first | apply Kd.R_alloc | apply Kd.R_drewN | apply Kd.R_drew)); exact Kd.R_mono HO208.out (fun _ hk => ⟨hk.1.2, ⟨hk.1.1.2, hk.2⟩⟩)⟩, ⟨by (with_reducible repeat (first | apply Kd.R_alloc | apply Kd.R_drewN | apply Kd.R_drew)); exact Kd.R_mono HO220.out (fun _ hk => ⟨hk.2, ⟨hk.1.1.2, hk.1.2⟩⟩)⟩, ⟨by (with_reducible repeat (first | refine blk_drewN ?_ _ | refine blk_drew ?_ | refine blk_alloc ?_ _)); exact BK183.out⟩, ⟨by (with_reducible repeat (first | refine blk_drewN ?_ _ | refine blk_drew ?_ | refine blk_alloc ?_ _)); exact BK205.out⟩, ⟨by (with_reducible repeat (first | refine blk_drewN ?_ _ | refine blk_drew ?_ | refine blk_alloc ?_ _)); exact BK214.out⟩, ⟨by (with_reducible repeat (first | refine blk_drewN ?_ _ | refine blk_drew ?_ | refine blk_alloc ?_ _)); exact BK227.out⟩, ⟨bA HB.out⟩⟩
   case rest =>
    clear HC16
    try clear c1
    try clear c2
    try clear p2
    try clear c3
    try clear c3b0
    try clear c3b1
    try clear c4
    try clear c5
    try clear c6
    try clear c6b0
    try clear c10
    try clear c14
    try clear c16
    try clear c18
    try clear c28
    try clear c34
    try clear c35
    try clear c36
    try clear c37
    try clear c43
    try clear c44
    try clear c45
    try clear c48
    try clear c49
    try clear c50
    try clear c51
    try clear c53
    try clear c54
    try clear c57
    try clear c58
    try clear c59
    try clear c61
    try clear c62
    try clear hcz18_0 hcz18_1 hcz18_2 hcz18_3 hcz18_4 hcz18_5
    try clear hcz20_0 hcz20_1 hcz20_2 hcz20_3 hcz20_4 hcz20_5
    try clear hcz29_0 hcz29_1 hcz29_2 hcz29_3 hcz29_4 hcz29_5
    try clear hcz30_0 hcz30_1 hcz30_2 hcz30_3 hcz30_4 hcz30_5
    try clear hcz36_0 hcz36_1 hcz36_2 hcz36_3 hcz36_4 hcz36_5
    try clear hcz38_0 hcz38_1 hcz38_2 hcz38_3 hcz38_4 hcz38_5
    try clear hcz46_0 hcz46_1 hcz46_2 hcz46_3 hcz46_4 hcz46_5
    try clear hcz52_0 hcz52_1 hcz52_2 hcz52_3 hcz52_4 hcz52_5
    try clear hcz55_0 hcz55_1 hcz55_2 hcz55_3 hcz55_4 hcz55_5
    try clear hcz60_0 hcz60_1 hcz60_2 hcz60_3 hcz60_4 hcz60_5
    try clear hcz63_0 hcz63_1 hcz63_2 hcz63_3 hcz63_4 hcz63_5
    try clear hcz8_0 hcz8_1 hcz8_2 hcz8_3 hcz8_4 hcz8_5
    try clear hfz18_0 hfz18_1 hfz18_2 hfz18_3 hfz18_4 hfz18_5
    try clear hfz20_0 hfz20_1 hfz20_2 hfz20_3 hfz20_4 hfz20_5
    try clear hfz29_0 hfz29_1 hfz29_2 hfz29_3 hfz29_4 hfz29_5
    try clear hfz30_0 hfz30_1 hfz30_2 hfz30_3 hfz30_4 hfz30_5
    try clear hfz36_0 hfz36_1 hfz36_2 hfz36_3 hfz36_4 hfz36_5
    try clear hfz38_0 hfz38_1 hfz38_2 hfz38_3 hfz38_4 hfz38_5
    try clear hfz46_0 hfz46_1 hfz46_2 hfz46_3 hfz46_4 hfz46_5
    try clear hfz52_0 hfz52_1 hfz52_2 hfz52_3 hfz52_4 hfz52_5
    try clear hfz55_0 hfz55_1 hfz55_2 hfz55_3 hfz55_4 hfz55_5
    try clear hfz60_0 hfz60_1 hfz60_2 hfz60_3 hfz60_4 hfz60_5
    try clear hfz63_0 hfz63_1 hfz63_2 hfz63_3 hfz63_4 hfz63_5
    try clear hfz8_0 hfz8_1 hfz8_2 hfz8_3 hfz8_4 hfz8_5
    obtain ⟨kq, x51_15, rfl, HA, HJ15, HO_9, HO_206000, HO_215000, HO_228000, BK183, BK205, BK214, BK227, HB⟩ := hcut
    cases kq with
    | zero => exact absurd HA.out (by simp [laws_FnExactNextTable.j0])
    | succ kj15 =>
     have H := HA.out
     clear HA
     simp only [laws_FnExactNextTable.j0] at H
     by_cases c65 : x51_15 = true
     ·subst c65
      rw [if_pos rfl] at H
      try dsimp only at H
      exact absurd H (by simp)
     ·replace c65 := Bool.eq_false_iff.mpr c65
      subst c65
      rw [if_neg (show ¬ (false = true) by decide)] at H
      try dsimp only at H
      obtain ⟨⟨t229, t232, t233, t234, t235, t236⟩, A660, H⟩ := Option.bind_eq_some_iff.mp H
      try dsimp only at H
      have A66 := Aside0.mk A660
      clear A660
      obtain ⟨t237, A670, H⟩ := Option.bind_eq_some_iff.mp H
      try dsimp only at H
      have A67 := Aside0.mk A670
      clear A670
      by_cases c68 : t237 = true
      ·subst c68
       rw [if_pos rfl] at H
       try dsimp only at H
       obtain ⟨t238, A690, H⟩ := Option.bind_eq_some_iff.mp H
       try dsimp only at H
       have A69 := Aside0.mk A690
       clear A690
       obtain ⟨t241, A700, H⟩ := Option.bind_eq_some_iff.mp H
       try dsimp only at H
       have A70 := Aside0.mk A700
       clear A700
       by_cases c71 : t241 = true
       ·subst c71
        rw [if_pos rfl] at H
        try dsimp only at H
        obtain ⟨⟨t242, t243⟩, A720, H⟩ := Option.bind_eq_some_iff.mp H
        try dsimp only at H
        have A72 := Aside0.mk A720
        clear A720
        obtain ⟨⟨t244, t245⟩, A730, H⟩ := Option.bind_eq_some_iff.mp H
        try dsimp only at H
        have A73 := Aside0.mk A730
        clear A730
        have HC74 := Aside0.mk H
        clear H
        try go_wp2
        replace HO_9 := Aside0.mk (Kd.R_drew HO_9.out)
        replace HO_206000 := Aside0.mk (Kd.R_drew HO_206000.out)
        replace HO_215000 := Aside0.mk (Kd.R_drew HO_215000.out)
        replace HO_228000 := Aside0.mk (Kd.R_drew HO_228000.out)
        replace BK183 := Aside0.mk (blk_drew BK183.out)
        replace BK205 := Aside0.mk (blk_drew BK205.out)
        replace BK214 := Aside0.mk (blk_drew BK214.out)
        replace BK227 := Aside0.mk (blk_drew BK227.out)
        replace HB := Aside0.mk (below_drew1 HB.out)
        refine start_ (n := 5) (S := fun w' => w'.cell? ⟨gb214, 0, none⟩ = some (.slice Ao33 t206.length co33) ∧ w'.cell? ⟨gb214, 1, none⟩ = some (.int .i64 t209) ∧ w'.cell? ⟨gb214, 2, none⟩ = some (.int .i64 t210) ∧ w'.cell? ⟨gb214, 3, none⟩ = some (.int .i64 t211) ∧ w'.cell? ⟨gb214, 4, none⟩ = some (.int .i64 t212) ∧ w'.cell? ⟨gb214, 5, none⟩ = some (.int .i64 t213) ∧ w'.cell? ⟨gb183, 0, none⟩ = some (.slice A0_0 l0_0.length c0_0) ∧ w'.cell? ⟨gb183, 1, none⟩ = some (.int .i64 a0_1) ∧ w'.cell? ⟨gb183, 2, none⟩ = some (.int .i64 a0_2) ∧ w'.cell? ⟨gb183, 3, none⟩ = some (.int .i64 a0_3) ∧ w'.cell? ⟨gb183, 4, none⟩ = some (.int .i64 a0_4) ∧ w'.cell? ⟨gb183, 5, none⟩ = some (.int .i64 a0_5)) (ds := []) #[false, false, false, false, false] (by kernel_rfl) rfl rfl ⟨(blk_cell BK214.out 0).trans rfl, (blk_cell BK214.out 1).trans rfl, (blk_cell BK214.out 2).trans rfl, (blk_cell BK214.out 3).trans rfl, (blk_cell BK214.out 4).trans rfl, (blk_cell BK214.out 5).trans rfl, (blk_cell BK183.out 0).trans rfl, (blk_cell BK183.out 1).trans rfl, (blk_cell BK183.out 2).trans rfl, (blk_cell BK183.out 3).trans rfl, (blk_cell BK183.out 4).trans rfl, (blk_cell BK183.out 5).trans rfl⟩ (fun hHeld => ?_)
        generalize wc.drew = w75 at HO_9 HO_206000 HO_215000 HO_228000 BK183 BK205 BK214 BK227 HB hHeld ⊢
        refine take_ (i := 0) (N := some 52) (v := ?_) (a' := ?_) #[true, false, false, false, false] rfl rfl (by kernel_rfl) (fun _ _ _ h => h) (Or.inl ⟨by rfl, ?_⟩) hHeld ?_ ?_
        rotate_left
        ·rintro w' ⟨s0, s1, s2, s3, s4, s5, s6, s7, s8, s9, s10, s11⟩
         go_simp
         with_reducible rfl
        rotate_left
        ·simp only [Act.put, List.setIfInBounds_toArray, List.set_cons_zero, List.set_cons_succ, i64_w, i32_w]
         rfl
        refine take_ (i := 1) (N := some 53) (v := ?_) (a' := ?_) #[true, true, false, false, false] rfl rfl (by kernel_rfl) (fun _ _ _ h => h) (Or.inl ⟨by rfl, ?_⟩) hHeld ?_ ?_
        rotate_left
        ·rintro w' ⟨s0, s1, s2, s3, s4, s5, s6, s7, s8, s9, s10, s11⟩
         go_simp
         with_reducible rfl
        rotate_left
        ·simp only [Act.put, List.setIfInBounds_toArray, List.set_cons_zero, List.set_cons_succ, i64_w, i32_w]
         rfl
        refine one_ (i := 2) (N := some 54) #[true, true, true, false, false] rfl rfl (by kernel_rfl) (by decide) (fun K hK => ?_)
        refine gO Try.func16 #[.agg #[.slice A0_0 l0_0.length c0_0, .int .i64 a0_1, .int .i64 a0_2, .int .i64 a0_3, .int .i64 a0_4, .int .i64 a0_5]] ?_
        with_reducible refine (laws_toTable.calls kj15 _ _ l0_0 a0_1 a0_2 a0_3 a0_4 a0_5 t229 t232 t233 t234 t235 t236 _ ?side1 ?side2 A66.out).mono ?_
        (case side1 => exact cA (Kd.C_below HR0_0.out HB.out))
        (case side2 => exact HC0_0.out)
        rintro e w76 ⟨v230, rfl, ho0, hb⟩
        refine ⟨_, rfl, ?_⟩
        have HO231 := Aside0.mk (Kd.R_lower (Kd.R_new' (Kd.R_new' (Kd.R_new' (Kd.R_new' ho0 (Kd.R_lt (rA HO_9.out))) (Kd.R_lt (rA HO_206000.out))) (Kd.R_lt (rA HO_215000.out))) (Kd.R_lt (rA HO_228000.out))) (below_size (bA HB.out)))
        replace HO_9 := Aside0.mk (Kd.R_elder' (rA HO_9.out) (Kd.R_base ho0) hb)
        replace HO_206000 := Aside0.mk (Kd.R_elder' (rA HO_206000.out) (Kd.R_base ho0) hb)
        replace HO_215000 := Aside0.mk (Kd.R_elder' (rA HO_215000.out) (Kd.R_base ho0) hb)
        replace HO_228000 := Aside0.mk (Kd.R_elder' (rA HO_228000.out) (Kd.R_base ho0) hb)
        replace BK183 := Aside0.mk (blk_below (kA BK183.out) hb)
        replace BK205 := Aside0.mk (blk_below (kA BK205.out) hb)
        replace BK214 := Aside0.mk (blk_below (kA BK214.out) hb)
        replace BK227 := Aside0.mk (blk_below (kA BK227.out) hb)
        replace HB := Aside0.mk (below_step (bA HB.out) hb)
        (try clear hb)
        (try clear ho0)
        obtain ⟨Ao77, co77, eo77⟩ := Kd.R_slice HO231.out
        (first | subst eo77 | (injection eo77 with f1_ f2_ f3_; have f4_ := f1_.symm; have f5_ := f3_.symm; clear f1_ f2_ f3_; subst f4_; subst f5_))
        refine hK.out _ _ ⟨(blk_cell BK214.out 0).trans rfl, (blk_cell BK214.out 1).trans rfl, (blk_cell BK214.out 2).trans rfl, (blk_cell BK214.out 3).trans rfl, (blk_cell BK214.out 4).trans rfl, (blk_cell BK214.out 5).trans rfl, (blk_cell BK183.out 0).trans rfl, (blk_cell BK183.out 1).trans rfl, (blk_cell BK183.out 2).trans rfl, (blk_cell BK183.out 3).trans rfl, (blk_cell BK183.out 4).trans rfl, (blk_cell BK183.out 5).trans rfl⟩ (fun hHeld => ?_)
        clear hK K
        refine nO 54 ?_
        refine one_ (i := 3) (N := some 55) #[true, true, true, true, false] rfl rfl (by kernel_rfl) (by decide) (fun K hK => ?_)
        refine gO Try.func18 #[.agg #[.slice Ao33 t206.length co33, .int .i64 t209, .int .i64 t210, .int .i64 t211, .int .i64 t212, .int .i64 t213], .agg #[.slice Ao77 t229.length co77, .int .i64 t232, .int .i64 t233, .int .i64 t234, .int .i64 t235, .int .i64 t236]] ?_
        with_reducible refine (laws_eqTable.calls kj15 _ _ t206 t209 t210 t211 t212 t213 _ _ t229 t232 t233 t234 t235 t236 true _ ?side1 ?side2 ?side3 ?side4 A67.out).mono ?_
        (case side1 => exact cA ((Kd.R_reads' HO_215000.out).2.2))
        (case side2 => exact (Kd.R_reads' HO_215000.out).2.1)
        (case side3 => exact cA ((Kd.R_reads' HO231.out).2.2))
        (case side4 => exact (Kd.R_reads' HO231.out).2.1)
        rintro e w78 ⟨rfl, hb⟩
        refine ⟨_, rfl, ?_⟩
        replace HO_9 := Aside0.mk (Kd.R_below (rA HO_9.out) hb)
        replace HO_206000 := Aside0.mk (Kd.R_below (rA HO_206000.out) hb)
        replace HO_215000 := Aside0.mk (Kd.R_below (rA HO_215000.out) hb)
        replace HO_228000 := Aside0.mk (Kd.R_below (rA HO_228000.out) hb)
        replace HO231 := Aside0.mk (Kd.R_below (rA HO231.out) hb)
        replace BK183 := Aside0.mk (blk_below (kA BK183.out) hb)
        replace BK205 := Aside0.mk (blk_below (kA BK205.out) hb)
        replace BK214 := Aside0.mk (blk_below (kA BK214.out) hb)
        replace BK227 := Aside0.mk (blk_below (kA BK227.out) hb)
        replace HB := Aside0.mk (below_step (bA HB.out) hb)
        (try clear hb)
        refine hK.out _ _ ⟨(blk_cell BK214.out 0).trans rfl, (blk_cell BK214.out 1).trans rfl, (blk_cell BK214.out 2).trans rfl, (blk_cell BK214.out 3).trans rfl, (blk_cell BK214.out 4).trans rfl, (blk_cell BK214.out 5).trans rfl, (blk_cell BK183.out 0).trans rfl, (blk_cell BK183.out 1).trans rfl, (blk_cell BK183.out 2).trans rfl, (blk_cell BK183.out 3).trans rfl, (blk_cell BK183.out 4).trans rfl, (blk_cell BK183.out 5).trans rfl⟩ (fun hHeld => ?_)
        clear hK K
        refine nO 55 ?_
        refine pure_ (i := 4) (N := some 56) (v := ?_) (a' := ?_) #[true, true, true, true, true] rfl rfl (by kernel_rfl) (fun _ _ _ h => h) (Or.inl ⟨by rfl, ?_⟩) ?_ ?_
        rotate_left
        ·intro w'
         go_simp
         with_reducible rfl
        rotate_left
        ·simp only [Act.put, List.setIfInBounds_toArray, List.set_cons_zero, List.set_cons_succ, i64_w, i32_w]
         rfl
        refine done_ (by kernel_rfl) ?_
        go_upto_region 20 with (first | ((with_reducible refine gate_callee (f := 36) rfl ?_); refine gL (some 59) Try.func36 #[.slice A1 l1.length c1] ?_; (with_reducible refine (laws_toInt64S.calls kj15 _ _ l1 t238 _ ?side1 ?side2 A69.out).mono ?_); (case side1 => exact cA (Kd.C_below HR1.out HB.out)); (case side2 => exact HC1.out); rintro e w79 ⟨v239, rfl, ho0, hb⟩; refine ⟨_, rfl, ?_⟩; have HO240 := Aside0.mk (Kd.R_lower (Kd.R_new' (Kd.R_new' (Kd.R_new' (Kd.R_new' (Kd.R_new' ho0 (Kd.R_lt (rA HO_9.out))) (Kd.R_lt (rA HO_206000.out))) (Kd.R_lt (rA HO_215000.out))) (Kd.R_lt (rA HO_228000.out))) (Kd.R_lt (rA HO231.out))) (below_size (bA HB.out))); replace HO_9 := Aside0.mk (Kd.R_elder' (rA HO_9.out) (Kd.R_base ho0) hb); replace HO_206000 := Aside0.mk (Kd.R_elder' (rA HO_206000.out) (Kd.R_base ho0) hb); replace HO_215000 := Aside0.mk (Kd.R_elder' (rA HO_215000.out) (Kd.R_base ho0) hb); replace HO_228000 := Aside0.mk (Kd.R_elder' (rA HO_228000.out) (Kd.R_base ho0) hb); replace HO231 := Aside0.mk (Kd.R_elder' (rA HO231.out) (Kd.R_base ho0) hb); replace BK183 := Aside0.mk (blk_below (kA BK183.out) hb); replace BK205 := Aside0.mk (blk_below (kA BK205.out) hb); replace BK214 := Aside0.mk (blk_below (kA BK214.out) hb); replace BK227 := Aside0.mk (blk_below (kA BK227.out) hb); replace HB := Aside0.mk (below_step (bA HB.out) hb); (try clear hb); (try clear ho0); obtain ⟨Ao80, co80, eo80⟩ := Kd.R_slice HO240.out; subst eo80) | ((with_reducible refine gate_callee (f := 25) rfl ?_); refine gL (some 60) Try.func25 #[.slice Ao39 t215.length co39, .slice Ao80 t238.length co80] ?_; (with_reducible refine (laws_eqInt64S.calls kj15 _ _ t215 _ _ t238 true _ ?side1 ?side2 ?side3 ?side4 A70.out).mono ?_); (case side1 => exact cA ((Kd.R_reads' HO_9.out).2.2)); (case side2 => exact (Kd.R_reads' HO_9.out).2.1); (case side3 => exact cA ((Kd.R_reads' HO240.out).2.2)); (case side4 => exact (Kd.R_reads' HO240.out).2.1); rintro e w' ⟨rfl, ⟨nd, rfl⟩⟩; refine ⟨_, rfl, ?_⟩; have hnb81 := NB214_183.out; have hnc81 := NB183_214.out; have hnb82 := NB214_205.out; have hnc82 := NB205_214.out; have hnb83 := NB214_227.out; have hnc83 := NB227_214.out; obtain ⟨hcz84_0, hcz84_1, hcz84_2, hcz84_3, hcz84_4, hcz84_5, hfz84_0, hfz84_1, hfz84_2, hfz84_3, hfz84_4, hfz84_5⟩ := cz6 BK214.out) | ((with_reducible refine gate_callee (f := 26) rfl ?_); refine gL (some 64) Try.func26 #[.agg #[.slice Ao33 t206.length co33, .int .i64 t209, .int .i64 t210, .int .i64 t211, .int .i64 t212, .int .i64 t213], .int .i64 1] ?_; (with_reducible refine (laws_markTable.calls kj15 (fun k_ => some k_ = (.slice Ao33 t206.length co33 : Value).ownBlock) (.slice Ao33 t206.length co33) t206 t209 t210 t211 t212 t213 1 t242 t243 w _ ?side1 ?side2 A72.out).mono ?_); (case side1 => repeat (first | (with_reducible first | exact HB.out | apply below_alloc | apply pw_below_drewN | apply below_drew1 | refine below_set ?_ GE183.out | refine below_set ?_ GE205.out | refine below_set ?_ GE214.out | refine below_set ?_ GE227.out) | exact HB.out)); (case side2 => exact Kd.R_tight rfl HO_215000.out); rintro e w85 ⟨rfl, hy0, hb, hkp⟩; refine ⟨_, rfl, ?_⟩; replace HO_9 := Aside0.mk (Kd.R_mono (ok' := fun k_ => some k_ ≠ (.slice Ao27 t196.length co27 : Value).ownBlock ∧ some k_ ≠ (.slice Ao33 t206.length co33 : Value).ownBlock ∧ some k_ ≠ (.slice Ao42 t218.length co42 : Value).ownBlock ∧ some k_ ≠ (.slice Ao77 t229.length co77 : Value).ownBlock ∧ some k_ ≠ (.slice Ao80 t238.length co80 : Value).ownBlock) (Kd.R_keptB (HO_9.out) hkp (fun k_ hk_ hs_ => (hk_.1.1.2.1) hs_)) (fun k_ hk_ => ⟨hk_.1.1.1.1, hk_.1.1.1.2.1, hk_.1.1.1.2.2, hk_.1.1.2, hk_.1.2⟩)); replace HO_206000 := Aside0.mk (Kd.R_mono (ok' := fun k_ => some k_ ≠ (.slice Ao39 t215.length co39 : Value).ownBlock ∧ some k_ ≠ (.slice Ao33 t206.length co33 : Value).ownBlock ∧ some k_ ≠ (.slice Ao42 t218.length co42 : Value).ownBlock ∧ some k_ ≠ (.slice Ao77 t229.length co77 : Value).ownBlock ∧ some k_ ≠ (.slice Ao80 t238.length co80 : Value).ownBlock) (Kd.R_keptB (HO_206000.out) hkp (fun k_ hk_ hs_ => (hk_.1.1.2.1) hs_)) (fun k_ hk_ => ⟨hk_.1.1.1.1, hk_.1.1.1.2.1, hk_.1.1.1.2.2, hk_.1.1.2, hk_.1.2⟩)); replace HO_228000 := Aside0.mk (Kd.R_mono (ok' := fun k_ => some k_ ≠ (.slice Ao39 t215.length co39 : Value).ownBlock ∧ some k_ ≠ (.slice Ao27 t196.length co27 : Value).ownBlock ∧ some k_ ≠ (.slice Ao33 t206.length co33 : Value).ownBlock ∧ some k_ ≠ (.slice Ao77 t229.length co77 : Value).ownBlock ∧ some k_ ≠ (.slice Ao80 t238.length co80 : Value).ownBlock) (Kd.R_keptB (HO_228000.out) hkp (fun k_ hk_ hs_ => (hk_.1.1.2.2) hs_)) (fun k_ hk_ => ⟨hk_.1.1.1.1, hk_.1.1.1.2.1, hk_.1.1.1.2.2, hk_.1.1.2, hk_.1.2⟩)); replace BK183 := Aside0.mk (blk_kept (kA BK183.out) hkp (fun hs_ => (fun e_ => (Kd.R_ne HO_215000.out BK183.out (by decide)) e_) hs_)); replace BK205 := Aside0.mk (blk_kept (kA BK205.out) hkp (fun hs_ => (fun e_ => (Kd.R_ne HO_215000.out BK205.out (by decide)) e_) hs_)); replace BK214 := Aside0.mk (blk_kept (kA BK214.out) hkp (fun hs_ => (fun e_ => (Kd.R_ne HO_215000.out BK214.out (by decide)) e_) hs_)); replace BK227 := Aside0.mk (blk_kept (kA BK227.out) hkp (fun hs_ => (fun e_ => (Kd.R_ne HO_215000.out BK227.out (by decide)) e_) hs_)); replace HO_215000 := Aside0.mk (Kd.R_reok rfl hy0 (fun k_ e_ => HO_215000.out.1 k_ e_)); replace HO231 := Aside0.mk (Kd.R_mono (ok' := fun k_ => some k_ ≠ (.slice Ao39 t215.length co39 : Value).ownBlock ∧ some k_ ≠ (.slice Ao27 t196.length co27 : Value).ownBlock ∧ some k_ ≠ (.slice Ao33 t206.length co33 : Value).ownBlock ∧ some k_ ≠ (.slice Ao42 t218.length co42 : Value).ownBlock ∧ some k_ ≠ (.slice Ao80 t238.length co80 : Value).ownBlock) (Kd.R_keptB (HO231.out) hkp (fun k_ hk_ hs_ => (hk_.1.1.2) hs_)) (fun k_ hk_ => ⟨hk_.1.1.1.1.1.2, hk_.1.1.1.1.2, hk_.1.1.1.2, hk_.1.1.2, hk_.1.2⟩)); replace HO240 := Aside0.mk (Kd.R_mono (ok' := fun k_ => some k_ ≠ (.slice Ao39 t215.length co39 : Value).ownBlock ∧ some k_ ≠ (.slice Ao27 t196.length co27 : Value).ownBlock ∧ some k_ ≠ (.slice Ao33 t206.length co33 : Value).ownBlock ∧ some k_ ≠ (.slice Ao42 t218.length co42 : Value).ownBlock ∧ some k_ ≠ (.slice Ao77 t229.length co77 : Value).ownBlock) (Kd.R_keptB (HO240.out) hkp (fun k_ hk_ hs_ => (hk_.1.1.2) hs_)) (fun k_ hk_ => ⟨hk_.1.1.1.1.1.2, hk_.1.1.1.1.2, hk_.1.1.1.2, hk_.1.1.2, hk_.1.2⟩)); replace HB := Aside0.mk (hb); (try clear hb); (try clear hkp); (try clear hy0)) | ((with_reducible refine gate_callee (f := 27) rfl ?_); refine gL (some 67) Try.func27 #[.slice Ao39 t215.length co39, .int .i64 t242] ?_; (with_reducible refine (laws_markInt64S.calls kj15 (fun k_ => some k_ = (.slice Ao39 t215.length co39 : Value).ownBlock) (.slice Ao39 t215.length co39) t215 t242 t244 t245 w _ ?side1 ?side2 A73.out).mono ?_); (case side1 => repeat (first | (with_reducible first | exact HB.out | apply below_alloc | apply pw_below_drewN | apply below_drew1 | refine below_set ?_ GE183.out | refine below_set ?_ GE205.out | refine below_set ?_ GE214.out | refine below_set ?_ GE227.out) | exact HB.out)); (case side2 => exact Kd.R_tight rfl HO_9.out); rintro e w86 ⟨rfl, hy0, hb, hkp⟩; refine ⟨_, rfl, ?_⟩; replace HO_206000 := Aside0.mk (Kd.R_mono (ok' := fun k_ => some k_ ≠ (.slice Ao39 t215.length co39 : Value).ownBlock ∧ some k_ ≠ (.slice Ao33 t206.length co33 : Value).ownBlock ∧ some k_ ≠ (.slice Ao42 t218.length co42 : Value).ownBlock ∧ some k_ ≠ (.slice Ao77 t229.length co77 : Value).ownBlock ∧ some k_ ≠ (.slice Ao80 t238.length co80 : Value).ownBlock) (Kd.R_keptB (HO_206000.out) hkp (fun k_ hk_ hs_ => (hk_.1) hs_)) (fun k_ hk_ => ⟨hk_.1.1, hk_.1.2.1, hk_.1.2.2.1, hk_.1.2.2.2.1, hk_.1.2.2.2.2⟩)); replace HO_215000 := Aside0.mk (Kd.R_mono (ok' := fun k_ => some k_ ≠ (.slice Ao39 t215.length co39 : Value).ownBlock ∧ some k_ ≠ (.slice Ao27 t196.length co27 : Value).ownBlock ∧ some k_ ≠ (.slice Ao42 t218.length co42 : Value).ownBlock ∧ some k_ ≠ (.slice Ao77 t229.length co77 : Value).ownBlock ∧ some k_ ≠ (.slice Ao80 t238.length co80 : Value).ownBlock) (Kd.R_keptB (HO_215000.out) hkp (fun k_ hk_ hs_ => (hk_.1.1.1) hs_)) (fun k_ hk_ => ⟨hk_.1.1.1.1, hk_.1.1.1.2.1, hk_.1.1.1.2.2, hk_.1.1.2, hk_.1.2⟩)); replace HO_228000 := Aside0.mk (Kd.R_mono (ok' := fun k_ => some k_ ≠ (.slice Ao39 t215.length co39 : Value).ownBlock ∧ some k_ ≠ (.slice Ao27 t196.length co27 : Value).ownBlock ∧ some k_ ≠ (.slice Ao33 t206.length co33 : Value).ownBlock ∧ some k_ ≠ (.slice Ao77 t229.length co77 : Value).ownBlock ∧ some k_ ≠ (.slice Ao80 t238.length co80 : Value).ownBlock) (Kd.R_keptB (HO_228000.out) hkp (fun k_ hk_ hs_ => (hk_.1) hs_)) (fun k_ hk_ => ⟨hk_.1.1, hk_.1.2.1, hk_.1.2.2.1, hk_.1.2.2.2.1, hk_.1.2.2.2.2⟩)); replace BK183 := Aside0.mk (blk_kept (kA BK183.out) hkp (fun hs_ => (fun e_ => (Kd.R_ne HO_9.out BK183.out (by decide)) e_) hs_)); replace BK205 := Aside0.mk (blk_kept (kA BK205.out) hkp (fun hs_ => (fun e_ => (Kd.R_ne HO_9.out BK205.out (by decide)) e_) hs_)); replace BK214 := Aside0.mk (blk_kept (kA BK214.out) hkp (fun hs_ => (fun e_ => (Kd.R_ne HO_9.out BK214.out (by decide)) e_) hs_)); replace BK227 := Aside0.mk (blk_kept (kA BK227.out) hkp (fun hs_ => (fun e_ => (Kd.R_ne HO_9.out BK227.out (by decide)) e_) hs_)); replace HO_9 := Aside0.mk (Kd.R_reok rfl hy0 (fun k_ e_ => HO_9.out.1 k_ e_)); replace HO231 := Aside0.mk (Kd.R_mono (ok' := fun k_ => some k_ ≠ (.slice Ao39 t215.length co39 : Value).ownBlock ∧ some k_ ≠ (.slice Ao27 t196.length co27 : Value).ownBlock ∧ some k_ ≠ (.slice Ao33 t206.length co33 : Value).ownBlock ∧ some k_ ≠ (.slice Ao42 t218.length co42 : Value).ownBlock ∧ some k_ ≠ (.slice Ao80 t238.length co80 : Value).ownBlock) (Kd.R_keptB (HO231.out) hkp (fun k_ hk_ hs_ => (hk_.1) hs_)) (fun k_ hk_ => ⟨hk_.1.1, hk_.1.2.1, hk_.1.2.2.1, hk_.1.2.2.2.1, hk_.1.2.2.2.2⟩)); replace HO240 := Aside0.mk (Kd.R_mono (ok' := fun k_ => some k_ ≠ (.slice Ao39 t215.length co39 : Value).ownBlock ∧ some k_ ≠ (.slice Ao27 t196.length co27 : Value).ownBlock ∧ some k_ ≠ (.slice Ao33 t206.length co33 : Value).ownBlock ∧ some k_ ≠ (.slice Ao42 t218.length co42 : Value).ownBlock ∧ some k_ ≠ (.slice Ao77 t229.length co77 : Value).ownBlock) (Kd.R_keptB (HO240.out) hkp (fun k_ hk_ hs_ => (hk_.1) hs_)) (fun k_ hk_ => ⟨hk_.1.1, hk_.1.2.1, hk_.1.2.2.1, hk_.1.2.2.2.1, hk_.1.2.2.2.2⟩)); replace HB := Aside0.mk (hb); (try clear hb); (try clear hkp); (try clear hy0)))
        (try simp only [Act.put, List.setIfInBounds_toArray, List.set_cons_zero, List.set_cons_succ])
        go_cut [80] (fun v80 wc => ∃ (kq : Nat) (x80_73 : Bool), v80 = .bool x80_73 ∧ Aside0 (laws_FnExactNextTable.j1 kq l1 t204 x80_73 l0_0 a0_1 a0_2 a0_3 a0_4 a0_5 t196 t199 t200 t201 t202 t203 t218 t221 t222 t223 t224 t225 = some r) ∧ Aside0 (kq ≤ kj15) ∧ Aside0 (Kd.R (Kd.int .i64) 2 wc w.heap.size (fun k_ => some k_ ≠ ((.slice Ao33 t206.length co33) : Value).ownBlock ∧ some k_ ≠ ((.slice Ao42 t218.length co42) : Value).ownBlock) (.slice Ao27 t196.length co27) t196) ∧ Aside0 (Kd.R (Kd.int .i64) 2 wc w.heap.size (fun k_ => some k_ ≠ ((.slice Ao27 t196.length co27) : Value).ownBlock ∧ some k_ ≠ ((.slice Ao42 t218.length co42) : Value).ownBlock) (.slice Ao33 t206.length co33) t243) ∧ Aside0 (Kd.R (Kd.int .i64) 2 wc w.heap.size (fun k_ => some k_ ≠ ((.slice Ao27 t196.length co27) : Value).ownBlock ∧ some k_ ≠ ((.slice Ao33 t206.length co33) : Value).ownBlock) (.slice Ao42 t218.length co42) t218) ∧ Aside0 (wc.heap[gb183]? = some (.cells #[(.slice A0_0 l0_0.length c0_0), .int .i64 a0_1, .int .i64 a0_2, .int .i64 a0_3, .int .i64 a0_4, .int .i64 a0_5] 24 (0, 0))) ∧ Aside0 (wc.heap[gb205]? = some (.cells #[(.slice Ao27 t196.length co27), .int .i64 t199, .int .i64 t200, .int .i64 t201, .int .i64 t202, .int .i64 t203] 27 (0, 0))) ∧ Aside0 (wc.heap[gb214]? = some (.cells #[(.slice Ao33 t206.length co33), .int .i64 t209, .int .i64 t210, .int .i64 t211, .int .i64 t212, .int .i64 t213] 27 (0, 0))) ∧ Aside0 (wc.heap[gb227]? = some (.cells #[(.slice Ao42 t218.length co42), .int .i64 t221, .int .i64 t222, .int .i64 t223, .int .i64 t224, .int .i64 t225] 27 (0, 0))) ∧ Aside0 (Below w.heap.size w wc))
        case first =>
         have H := HC74.out
         clear HC74
         by_cases c87 : t244 < 0
         ·rw [if_pos c87] at H
          have c87b0 : decide (t244 < 0) = true := decide_eq_true c87
          clear c87
          (first | rw [c87b0] | (simp only [i64_w, i32_w]; rw [c87b0]) | skip)
          have H' := Aside0.mk H
          clear H
          go_wp2
          go_meet
          case rel => exact ⟨_, (true), (by first | rfl | (simp; done) | (simp [*]; done)), H', ⟨by have := HJ15.out; first | omega | exact Nat.le_refl _⟩, ⟨by (with_reducible repeat (first | apply Kd.R_alloc | apply Kd.R_drewN | apply Kd.R_drew)); exact Kd.R_mono HO_206000.out (fun _ hk => ⟨hk.2.1, hk.2.2.1⟩)⟩, ⟨by (with_reducible repeat (first | apply Kd.R_alloc | apply Kd.R_drewN | apply Kd.R_drew)); exact Kd.R_mono HO_215000.out (fun _ hk => ⟨hk.2.1, hk.2.2.1⟩)⟩, ⟨by (with_reducible repeat (first | apply Kd.R_alloc | apply Kd.R_drewN | apply Kd.R_drew)); exact Kd.R_mono HO_228000.out (fun _ hk => ⟨hk.2.1, hk.2.2.1⟩)⟩, ⟨by (with_reducible repeat (first | refine blk_drewN ?_ _ | refine blk_drew ?_ | refine blk_alloc ?_ _)); exact BK183.out⟩, ⟨by (with_reducible repeat (first | refine blk_drewN ?_ _ | refine blk_drew ?_ | refine blk_alloc ?_ _)); exact BK205.out⟩, ⟨by (with_reducible repeat (first | refine blk_drewN ?_ _ | refine blk_drew ?_ | refine blk_alloc ?_ _)); exact BK214.out⟩, ⟨by (with_reducible repeat (first | refine blk_drewN ?_ _ | refine blk_drew ?_ | refine blk_alloc ?_ _)); exact BK227.out⟩, ⟨bA HB.out⟩⟩
         ·rw [if_neg c87] at H
          have c87b0 : decide (t244 < 0) = false := decide_eq_false c87
          clear c87
          (first | rw [c87b0] | (simp only [i64_w, i32_w]; rw [c87b0]) | skip)
          obtain ⟨t246, A880, H⟩ := Option.bind_eq_some_iff.mp H
          try dsimp only at H
          have A88 := Aside0.mk A880
          clear A880
          by_cases c89 : t246 = true
          ·subst c89
           rw [if_pos rfl] at H
           try dsimp only at H
           have H' := Aside0.mk H
           clear H
           have hnb90 := NB227_183.out
           have hnc90 := NB183_227.out
           have hnb91 := NB227_205.out
           have hnc91 := NB205_227.out
           have hnb92 := NB227_214.out
           have hnc92 := NB214_227.out
           obtain ⟨hcz93_0, hcz93_1, hcz93_2, hcz93_3, hcz93_4, hcz93_5, hfz93_0, hfz93_1, hfz93_2, hfz93_3, hfz93_4, hfz93_5⟩ := cz6 BK227.out
           have hnb94 := NB205_183.out
           have hnc94 := NB183_205.out
           have hnb95 := NB205_214.out
           have hnc95 := NB214_205.out
           obtain ⟨hcz96_0, hcz96_1, hcz96_2, hcz96_3, hcz96_4, hcz96_5, hfz96_0, hfz96_1, hfz96_2, hfz96_3, hfz96_4, hfz96_5⟩ := cz6 BK205.out
           go_wp2_with (first | (go_at_call 18; (with_reducible refine (laws_eqTable.calls kj15 _ _ t218 t221 t222 t223 t224 t225 _ _ t196 t199 t200 t201 t202 t203 true _ ?side1 ?side2 ?side3 ?side4 A88.out).mono ?_); (case side1 => exact cA ((Kd.R_reads' HO_228000.out).2.2)); (case side2 => exact (Kd.R_reads' HO_228000.out).2.1); (case side3 => exact cA ((Kd.R_reads' HO_206000.out).2.2)); (case side4 => exact (Kd.R_reads' HO_206000.out).2.1); rintro e w97 ⟨rfl, hb⟩; replace HO_9 := Aside0.mk (Kd.R_below (rA HO_9.out) hb); replace HO_206000 := Aside0.mk (Kd.R_below (rA HO_206000.out) hb); replace HO_215000 := Aside0.mk (Kd.R_below (rA HO_215000.out) hb); replace HO_228000 := Aside0.mk (Kd.R_below (rA HO_228000.out) hb); replace HO231 := Aside0.mk (Kd.R_below (rA HO231.out) hb); replace HO240 := Aside0.mk (Kd.R_below (rA HO240.out) hb); replace BK183 := Aside0.mk (blk_below (kA BK183.out) hb); replace BK205 := Aside0.mk (blk_below (kA BK205.out) hb); replace BK214 := Aside0.mk (blk_below (kA BK214.out) hb); replace BK227 := Aside0.mk (blk_below (kA BK227.out) hb); replace HB := Aside0.mk (below_step (bA HB.out) hb); (try clear hb)))
           go_meet
           case rel => exact ⟨_, ((t226 != t204)), (by first | rfl | (simp; done) | (simp [*]; done)), H', ⟨by have := HJ15.out; first | omega | exact Nat.le_refl _⟩, ⟨by (with_reducible repeat (first | apply Kd.R_alloc | apply Kd.R_drewN | apply Kd.R_drew)); exact Kd.R_mono HO_206000.out (fun _ hk => ⟨hk.2.1, hk.2.2.1⟩)⟩, ⟨by (with_reducible repeat (first | apply Kd.R_alloc | apply Kd.R_drewN | apply Kd.R_drew)); exact Kd.R_mono HO_215000.out (fun _ hk => ⟨hk.2.1, hk.2.2.1⟩)⟩, ⟨by (with_reducible repeat (first | apply Kd.R_alloc | apply Kd.R_drewN | apply Kd.R_drew)); exact Kd.R_mono HO_228000.out (fun _ hk => ⟨hk.2.1, hk.2.2.1⟩)⟩, ⟨by (with_reducible repeat (first | refine blk_drewN ?_ _ | refine blk_drew ?_ | refine blk_alloc ?_ _)); exact BK183.out⟩, ⟨by (with_reducible repeat (first | refine blk_drewN ?_ _ | refine blk_drew ?_ | refine blk_alloc ?_ _)); exact BK205.out⟩, ⟨by (with_reducible repeat (first | refine blk_drewN ?_ _ | refine blk_drew ?_ | refine blk_alloc ?_ _)); exact BK214.out⟩, ⟨by (with_reducible repeat (first | refine blk_drewN ?_ _ | refine blk_drew ?_ | refine blk_alloc ?_ _)); exact BK227.out⟩, ⟨bA HB.out⟩⟩
          ·replace c89 := Bool.eq_false_iff.mpr c89
           subst c89
           rw [if_neg (show ¬ (false = true) by decide)] at H
           try dsimp only at H
           have H' := Aside0.mk H
           clear H
           have hnb98 := NB227_183.out
           have hnc98 := NB183_227.out
           have hnb99 := NB227_205.out
           have hnc99 := NB205_227.out
           have hnb100 := NB227_214.out
           have hnc100 := NB214_227.out
           obtain ⟨hcz101_0, hcz101_1, hcz101_2, hcz101_3, hcz101_4, hcz101_5, hfz101_0, hfz101_1, hfz101_2, hfz101_3, hfz101_4, hfz101_5⟩ := cz6 BK227.out
           have hnb102 := NB205_183.out
           have hnc102 := NB183_205.out
           have hnb103 := NB205_214.out
           have hnc103 := NB214_205.out
           obtain ⟨hcz104_0, hcz104_1, hcz104_2, hcz104_3, hcz104_4, hcz104_5, hfz104_0, hfz104_1, hfz104_2, hfz104_3, hfz104_4, hfz104_5⟩ := cz6 BK205.out
           go_wp2_with (first | (go_at_call 18; (with_reducible refine (laws_eqTable.calls kj15 _ _ t218 t221 t222 t223 t224 t225 _ _ t196 t199 t200 t201 t202 t203 false _ ?side1 ?side2 ?side3 ?side4 A88.out).mono ?_); (case side1 => exact cA ((Kd.R_reads' HO_228000.out).2.2)); (case side2 => exact (Kd.R_reads' HO_228000.out).2.1); (case side3 => exact cA ((Kd.R_reads' HO_206000.out).2.2)); (case side4 => exact (Kd.R_reads' HO_206000.out).2.1); rintro e w105 ⟨rfl, hb⟩; replace HO_9 := Aside0.mk (Kd.R_below (rA HO_9.out) hb); replace HO_206000 := Aside0.mk (Kd.R_below (rA HO_206000.out) hb); replace HO_215000 := Aside0.mk (Kd.R_below (rA HO_215000.out) hb); replace HO_228000 := Aside0.mk (Kd.R_below (rA HO_228000.out) hb); replace HO231 := Aside0.mk (Kd.R_below (rA HO231.out) hb); replace HO240 := Aside0.mk (Kd.R_below (rA HO240.out) hb); replace BK183 := Aside0.mk (blk_below (kA BK183.out) hb); replace BK205 := Aside0.mk (blk_below (kA BK205.out) hb); replace BK214 := Aside0.mk (blk_below (kA BK214.out) hb); replace BK227 := Aside0.mk (blk_below (kA BK227.out) hb); replace HB := Aside0.mk (below_step (bA HB.out) hb); (try clear hb)))
           go_meet
           case rel => exact ⟨_, (true), (by first | rfl | (simp; done) | (simp [*]; done)), H', ⟨by have := HJ15.out; first | omega | exact Nat.le_refl _⟩, ⟨by (with_reducible repeat (first | apply Kd.R_alloc | apply Kd.R_drewN | apply Kd.R_drew)); exact Kd.R_mono HO_206000.out (fun _ hk => ⟨hk.2.1, hk.2.2.1⟩)⟩, ⟨by (with_reducible repeat (first | apply Kd.R_alloc | apply Kd.R_drewN | apply Kd.R_drew)); exact Kd.R_mono HO_215000.out (fun _ hk => ⟨hk.2.1, hk.2.2.1⟩)⟩, ⟨by (with_reducible repeat (first | apply Kd.R_alloc | apply Kd.R_drewN | apply Kd.R_drew)); exact Kd.R_mono HO_228000.out (fun _ hk => ⟨hk.2.1, hk.2.2.1⟩)⟩, ⟨by (with_reducible repeat (first | refine blk_drewN ?_ _ | refine blk_drew ?_ | refine blk_alloc ?_ _)); exact BK183.out⟩, ⟨by (with_reducible repeat (first | refine blk_drewN ?_ _ | refine blk_drew ?_ | refine blk_alloc ?_ _)); exact BK205.out⟩, ⟨by (with_reducible repeat (first | refine blk_drewN ?_ _ | refine blk_drew ?_ | refine blk_alloc ?_ _)); exact BK214.out⟩, ⟨by (with_reducible repeat (first | refine blk_drewN ?_ _ | refine blk_drew ?_ | refine blk_alloc ?_ _)); exact BK227.out⟩, ⟨bA HB.out⟩⟩
        case rest =>
         clear HC74
         try clear c1
         try clear c2
         try clear p2
         try clear c3
         try clear c3b0
         try clear c3b1
         try clear c4
         try clear c5
         try clear c6
         try clear c6b0
         try clear c7
         try clear c8
         try clear c9
         try clear c10
         try clear c14
         try clear c16
         try clear c18
         try clear c25
         try clear c26
         try clear c27
         try clear c28
         try clear c34
         try clear c35
         try clear c36
         try clear c37
         try clear c43
         try clear c44
         try clear c45
         try clear c48
         try clear c49
         try clear c50
         try clear c51
         try clear c53
         try clear c54
         try clear c57
         try clear c58
         try clear c59
         try clear c61
         try clear c62
         try clear c65
         try clear c68
         try clear c71
         try clear c81
         try clear c82
         try clear c83
         try clear c87
         try clear c87b0
         try clear c89
         try clear c90
         try clear c91
         try clear c92
         try clear c94
         try clear c95
         try clear c98
         try clear c99
         try clear c100
         try clear c102
         try clear c103
         try clear hcz101_0 hcz101_1 hcz101_2 hcz101_3 hcz101_4 hcz101_5
         try clear hcz104_0 hcz104_1 hcz104_2 hcz104_3 hcz104_4 hcz104_5
         try clear hcz18_0 hcz18_1 hcz18_2 hcz18_3 hcz18_4 hcz18_5
         try clear hcz20_0 hcz20_1 hcz20_2 hcz20_3 hcz20_4 hcz20_5
         try clear hcz29_0 hcz29_1 hcz29_2 hcz29_3 hcz29_4 hcz29_5
         try clear hcz30_0 hcz30_1 hcz30_2 hcz30_3 hcz30_4 hcz30_5
         try clear hcz36_0 hcz36_1 hcz36_2 hcz36_3 hcz36_4 hcz36_5
         try clear hcz38_0 hcz38_1 hcz38_2 hcz38_3 hcz38_4 hcz38_5
         try clear hcz46_0 hcz46_1 hcz46_2 hcz46_3 hcz46_4 hcz46_5
         try clear hcz52_0 hcz52_1 hcz52_2 hcz52_3 hcz52_4 hcz52_5
         try clear hcz55_0 hcz55_1 hcz55_2 hcz55_3 hcz55_4 hcz55_5
         try clear hcz60_0 hcz60_1 hcz60_2 hcz60_3 hcz60_4 hcz60_5
         try clear hcz63_0 hcz63_1 hcz63_2 hcz63_3 hcz63_4 hcz63_5
         try clear hcz84_0 hcz84_1 hcz84_2 hcz84_3 hcz84_4 hcz84_5
         try clear hcz8_0 hcz8_1 hcz8_2 hcz8_3 hcz8_4 hcz8_5
         try clear hcz93_0 hcz93_1 hcz93_2 hcz93_3 hcz93_4 hcz93_5
         try clear hcz96_0 hcz96_1 hcz96_2 hcz96_3 hcz96_4 hcz96_5
         try clear hfz101_0 hfz101_1 hfz101_2 hfz101_3 hfz101_4 hfz101_5
         try clear hfz104_0 hfz104_1 hfz104_2 hfz104_3 hfz104_4 hfz104_5
         try clear hfz18_0 hfz18_1 hfz18_2 hfz18_3 hfz18_4 hfz18_5
         try clear hfz20_0 hfz20_1 hfz20_2 hfz20_3 hfz20_4 hfz20_5
         try clear hfz29_0 hfz29_1 hfz29_2 hfz29_3 hfz29_4 hfz29_5
         try clear hfz30_0 hfz30_1 hfz30_2 hfz30_3 hfz30_4 hfz30_5
         try clear hfz36_0 hfz36_1 hfz36_2 hfz36_3 hfz36_4 hfz36_5
         try clear hfz38_0 hfz38_1 hfz38_2 hfz38_3 hfz38_4 hfz38_5
         try clear hfz46_0 hfz46_1 hfz46_2 hfz46_3 hfz46_4 hfz46_5
         try clear hfz52_0 hfz52_1 hfz52_2 hfz52_3 hfz52_4 hfz52_5
         try clear hfz55_0 hfz55_1 hfz55_2 hfz55_3 hfz55_4 hfz55_5
         try clear hfz60_0 hfz60_1 hfz60_2 hfz60_3 hfz60_4 hfz60_5
         try clear hfz63_0 hfz63_1 hfz63_2 hfz63_3 hfz63_4 hfz63_5
         try clear hfz84_0 hfz84_1 hfz84_2 hfz84_3 hfz84_4 hfz84_5
         try clear hfz8_0 hfz8_1 hfz8_2 hfz8_3 hfz8_4 hfz8_5
         try clear hfz93_0 hfz93_1 hfz93_2 hfz93_3 hfz93_4 hfz93_5
         try clear hfz96_0 hfz96_1 hfz96_2 hfz96_3 hfz96_4 hfz96_5
         try clear p2
         obtain ⟨kq, x80_73, rfl, HA, HJ73, HO_206000, HO_215000, HO_228000, BK183, BK205, BK214, BK227, HB⟩ := hcut
         have hl215000_73 := (Kd.R_reads' HO_215000.out).1
         rw [hl215000_73] at HO_215000
         (try simp only [hl215000_73])
         (try simp only [hl215000_73] at BK183)
         (try simp only [hl215000_73] at BK205)
         (try simp only [hl215000_73] at BK214)
         (try simp only [hl215000_73] at BK227)
         (try simp only [hl215000_73] at HO_206000)
         (try simp only [hl215000_73] at HO_228000)
         cases kq with
         | zero => exact absurd HA.out (by simp [laws_FnExactNextTable.j1])
         | succ kj73 =>
          have H := HA.out
          clear HA
          simp only [laws_FnExactNextTable.j1] at H
          by_cases c106 : x80_73 = true
          ·subst c106
           rw [if_pos rfl] at H
           try dsimp only at H
           exact absurd H (by simp)
          ·replace c106 := Bool.eq_false_iff.mpr c106
           subst c106
           rw [if_neg (show ¬ (false = true) by decide)] at H
           try dsimp only at H
           obtain ⟨⟨t247, t248⟩, A1070, H⟩ := Option.bind_eq_some_iff.mp H
           try dsimp only at H
           have A107 := Aside0.mk A1070
           clear A1070
           obtain ⟨t249, A1080, H⟩ := Option.bind_eq_some_iff.mp H
           try dsimp only at H
           have A108 := Aside0.mk A1080
           clear A1080
           by_cases c109 : t249 < 0
           ·rw [if_pos c109] at H
            exact absurd H (by simp)
           rw [if_neg c109] at H
           have c109b0 : decide (t249 < 0) = false := decide_eq_false c109
           clear c109
           by_cases c110 : t249 = t247
           rotate_left
           ·rw [if_neg c110] at H
            exact absurd H (by simp)
           rw [if_pos c110] at H
           have c110b0 : (t249 == t247) = true := beq_iff_eq.mpr c110
           have c110b1 : (t249 != t247) = false := bne_eq_false_iff_eq.mpr c110
           clear c110
           obtain ⟨⟨t250, t253, t254, t255, t256, t257⟩, A1110, H⟩ := Option.bind_eq_some_iff.mp H
           try dsimp only at H
           have A111 := Aside0.mk A1110
           clear A1110
           obtain ⟨t258, A1120, H⟩ := Option.bind_eq_some_iff.mp H
           try dsimp only at H
           have A112 := Aside0.mk A1120
           clear A1120
           obtain ⟨⟨t261, t264, t265, t266, t267, t268, t269⟩, A1130, H⟩ := Option.bind_eq_some_iff.mp H
           try dsimp only at H
           have A113 := Aside0.mk A1130
           clear A1130
           have HC114 := Aside0.mk H
           clear H
           have hnb115 := NB227_183.out
           have hnc115 := NB183_227.out
           have hnb116 := NB227_205.out
           have hnc116 := NB205_227.out
           have hnb117 := NB227_214.out
           have hnc117 := NB214_227.out
           obtain ⟨hcz118_0, hcz118_1, hcz118_2, hcz118_3, hcz118_4, hcz118_5, hfz118_0, hfz118_1, hfz118_2, hfz118_3, hfz118_4, hfz118_5⟩ := cz6 BK227.out
           go_upto_region 31 with (first | ((with_reducible refine gate_callee (f := 26) rfl ?_); refine gL (some 83) Try.func26 #[.agg #[.slice Ao42 t218.length co42, .int .i64 t221, .int .i64 t222, .int .i64 t223, .int .i64 t224, .int .i64 t225], .int .i64 1] ?_; (with_reducible refine (laws_markTable.calls kj73 (fun k_ => some k_ = (.slice Ao42 t218.length co42 : Value).ownBlock) (.slice Ao42 t218.length co42) t218 t221 t222 t223 t224 t225 1 t247 t248 w _ ?side1 ?side2 A107.out).mono ?_); (case side1 => repeat (first | (with_reducible first | exact HB.out | apply below_alloc | apply pw_below_drewN | apply below_drew1 | refine below_set ?_ GE183.out | refine below_set ?_ GE205.out | refine below_set ?_ GE214.out | refine below_set ?_ GE227.out) | exact HB.out)); (case side2 => exact Kd.R_tight rfl HO_228000.out); rintro e w119 ⟨rfl, hy0, hb, hkp⟩; refine ⟨_, rfl, ?_⟩; replace HO_206000 := Aside0.mk (Kd.R_mono (ok' := fun k_ => some k_ ≠ (.slice Ao33 t243.length co33 : Value).ownBlock ∧ some k_ ≠ (.slice Ao42 t218.length co42 : Value).ownBlock) (Kd.R_keptB (HO_206000.out) hkp (fun k_ hk_ hs_ => (hk_.2) hs_)) (fun k_ hk_ => ⟨hk_.1.1, hk_.1.2⟩)); replace HO_215000 := Aside0.mk (Kd.R_mono (ok' := fun k_ => some k_ ≠ (.slice Ao27 t196.length co27 : Value).ownBlock ∧ some k_ ≠ (.slice Ao42 t218.length co42 : Value).ownBlock) (Kd.R_keptB (HO_215000.out) hkp (fun k_ hk_ hs_ => (hk_.2) hs_)) (fun k_ hk_ => ⟨hk_.1.1, hk_.1.2⟩)); replace BK183 := Aside0.mk (blk_kept (kA BK183.out) hkp (fun hs_ => (fun e_ => (Kd.R_ne HO_228000.out BK183.out (by decide)) e_) hs_)); replace BK205 := Aside0.mk (blk_kept (kA BK205.out) hkp (fun hs_ => (fun e_ => (Kd.R_ne HO_228000.out BK205.out (by decide)) e_) hs_)); replace BK214 := Aside0.mk (blk_kept (kA BK214.out) hkp (fun hs_ => (fun e_ => (Kd.R_ne HO_228000.out BK214.out (by decide)) e_) hs_)); replace BK227 := Aside0.mk (blk_kept (kA BK227.out) hkp (fun hs_ => (fun e_ => (Kd.R_ne HO_228000.out BK227.out (by decide)) e_) hs_)); replace HO_228000 := Aside0.mk (Kd.R_reok rfl hy0 (fun k_ e_ => HO_228000.out.1 k_ e_)); replace HB := Aside0.mk (hb); (try clear hb); (try clear hkp); (try clear hy0); obtain ⟨hcz120_0, hcz120_1, hcz120_2, hcz120_3, hcz120_4, hcz120_5, hfz120_0, hfz120_1, hfz120_2, hfz120_3, hfz120_4, hfz120_5⟩ := cz6 BK227.out) | ((with_reducible refine gate_callee (f := 38) rfl ?_); refine goesL_ (some 86) rfl rfl Try.func38 (by kernel_rfl) rfl #[.agg #[.slice Ao42 t248.length co42, .int .i64 t221, .int .i64 t222, .int .i64 t223, .int .i64 t224, .int .i64 t225], .int .i64 1] rfl (by (try simp only [List.map_toArray, List.map_cons, List.map_nil]); first | done | (rw [show t248.length = t218.length from (Kd.R_reads' HO_228000.out).1.symm] <;> rfl) | rfl | (simp only [List.length_drop, List.length_take]; rfl)) ?_; (with_reducible refine (laws_heldTable.calls kj73 _ _ t248 t221 t222 t223 t224 t225 1 t249 _ ?side1 ?side2 A108.out).mono ?_); (case side1 => exact cA ((Kd.R_reads' HO_228000.out).2.2)); (case side2 => rw [show t248.length = t218.length from (Kd.R_reads' HO_228000.out).1.symm]; exact (Kd.R_reads' HO_228000.out).2.1); rintro e w121 ⟨rfl, hb⟩; refine ⟨_, rfl, ?_⟩; replace HO_206000 := Aside0.mk (Kd.R_below (rA HO_206000.out) hb); replace HO_215000 := Aside0.mk (Kd.R_below (rA HO_215000.out) hb); replace HO_228000 := Aside0.mk (Kd.R_below (rA HO_228000.out) hb); replace BK183 := Aside0.mk (blk_below (kA BK183.out) hb); replace BK205 := Aside0.mk (blk_below (kA BK205.out) hb); replace BK214 := Aside0.mk (blk_below (kA BK214.out) hb); replace BK227 := Aside0.mk (blk_below (kA BK227.out) hb); replace HB := Aside0.mk (below_step (bA HB.out) hb); (try clear hb); have hnb122 := NB183_205.out; have hnc122 := NB205_183.out; have hnb123 := NB183_214.out; have hnc123 := NB214_183.out; obtain ⟨hcz124_0, hcz124_1, hcz124_2, hcz124_3, hcz124_4, hcz124_5, hfz124_0, hfz124_1, hfz124_2, hfz124_3, hfz124_4, hfz124_5⟩ := cz6 BK183.out) | ((with_reducible refine gate_callee (f := 16) rfl ?_); refine gL (some 94) Try.func16 #[.agg #[.slice A0_0 l0_0.length c0_0, .int .i64 a0_1, .int .i64 a0_2, .int .i64 a0_3, .int .i64 a0_4, .int .i64 a0_5]] ?_; (with_reducible refine (laws_toTable.calls kj73 _ _ l0_0 a0_1 a0_2 a0_3 a0_4 a0_5 t250 t253 t254 t255 t256 t257 _ ?side1 ?side2 A111.out).mono ?_); (case side1 => exact cA (Kd.C_below HR0_0.out HB.out)); (case side2 => exact HC0_0.out); rintro e w125 ⟨v251, rfl, ho0, hb⟩; refine ⟨_, rfl, ?_⟩; have HO252 := Aside0.mk (Kd.R_lower (Kd.R_new' (Kd.R_new' (Kd.R_new' ho0 (Kd.R_lt (rA HO_206000.out))) (Kd.R_lt (rA HO_215000.out))) (Kd.R_lt (rA HO_228000.out))) (below_size (bA HB.out))); replace HO_206000 := Aside0.mk (Kd.R_elder' (rA HO_206000.out) (Kd.R_base ho0) hb); replace HO_215000 := Aside0.mk (Kd.R_elder' (rA HO_215000.out) (Kd.R_base ho0) hb); replace HO_228000 := Aside0.mk (Kd.R_elder' (rA HO_228000.out) (Kd.R_base ho0) hb); replace BK183 := Aside0.mk (blk_below (kA BK183.out) hb); replace BK205 := Aside0.mk (blk_below (kA BK205.out) hb); replace BK214 := Aside0.mk (blk_below (kA BK214.out) hb); replace BK227 := Aside0.mk (blk_below (kA BK227.out) hb); replace HB := Aside0.mk (below_step (bA HB.out) hb); (try clear hb); (try clear ho0)) | ((with_reducible refine gate_callee (f := 36) rfl ?_); refine gL (some 96) Try.func36 #[.slice A1 l1.length c1] ?_; (with_reducible refine (laws_toInt64S.calls kj73 _ _ l1 t258 _ ?side1 ?side2 A112.out).mono ?_); (case side1 => exact cA (Kd.C_below HR1.out HB.out)); (case side2 => exact HC1.out); rintro e w126 ⟨v259, rfl, ho0, hb⟩; refine ⟨_, rfl, ?_⟩; have HO260 := Aside0.mk (Kd.R_lower (Kd.R_new' (Kd.R_new' (Kd.R_new' (Kd.R_new' ho0 (Kd.R_lt (rA HO_206000.out))) (Kd.R_lt (rA HO_215000.out))) (Kd.R_lt (rA HO_228000.out))) (Kd.R_lt (rA HO252.out))) (below_size (bA HB.out))); replace HO_206000 := Aside0.mk (Kd.R_elder' (rA HO_206000.out) (Kd.R_base ho0) hb); replace HO_215000 := Aside0.mk (Kd.R_elder' (rA HO_215000.out) (Kd.R_base ho0) hb); replace HO_228000 := Aside0.mk (Kd.R_elder' (rA HO_228000.out) (Kd.R_base ho0) hb); replace HO252 := Aside0.mk (Kd.R_elder' (rA HO252.out) (Kd.R_base ho0) hb); replace BK183 := Aside0.mk (blk_below (kA BK183.out) hb); replace BK205 := Aside0.mk (blk_below (kA BK205.out) hb); replace BK214 := Aside0.mk (blk_below (kA BK214.out) hb); replace BK227 := Aside0.mk (blk_below (kA BK227.out) hb); replace HB := Aside0.mk (below_step (bA HB.out) hb); (try clear hb); (try clear ho0); obtain ⟨Ao127, co127, eo127⟩ := Kd.R_slice HO252.out; subst eo127; obtain ⟨Ao128, co128, eo128⟩ := Kd.R_slice HO260.out; subst eo128) | ((with_reducible refine gate_callee (f := 37) rfl ?_); refine gL (some 97) Try.func37 #[.agg #[.slice Ao127 t250.length co127, .int .i64 t253, .int .i64 t254, .int .i64 t255, .int .i64 t256, .int .i64 t257], .slice Ao128 t258.length co128] ?_; (with_reducible refine (impl_NextTable.calls kj73 _ _ t250 t253 t254 t255 t256 t257 _ _ t258 t261 t264 t265 t266 t267 t268 t269 _ ?side1 ?side2 ?side3 ?side4 A113.out).mono ?_); (case side1 => exact cA ((Kd.R_reads' HO252.out).2.2)); (case side2 => exact (Kd.R_reads' HO252.out).2.1); (case side3 => exact cA ((Kd.R_reads' HO260.out).2.2)); (case side4 => exact (Kd.R_reads' HO260.out).2.1); rintro e w129 ⟨v262, rfl, ho0, hb⟩; refine ⟨_, rfl, ?_⟩; have HO263 := Aside0.mk (Kd.R_lower (Kd.R_new' (Kd.R_new' (Kd.R_new' (Kd.R_new' (Kd.R_new' ho0 (Kd.R_lt (rA HO_206000.out))) (Kd.R_lt (rA HO_215000.out))) (Kd.R_lt (rA HO_228000.out))) (Kd.R_lt (rA HO252.out))) (Kd.R_lt (rA HO260.out))) (below_size (bA HB.out))); replace HO_206000 := Aside0.mk (Kd.R_elder' (rA HO_206000.out) (Kd.R_base ho0) hb); replace HO_215000 := Aside0.mk (Kd.R_elder' (rA HO_215000.out) (Kd.R_base ho0) hb); replace HO_228000 := Aside0.mk (Kd.R_elder' (rA HO_228000.out) (Kd.R_base ho0) hb); replace HO252 := Aside0.mk (Kd.R_elder' (rA HO252.out) (Kd.R_base ho0) hb); replace HO260 := Aside0.mk (Kd.R_elder' (rA HO260.out) (Kd.R_base ho0) hb); replace BK183 := Aside0.mk (blk_below (kA BK183.out) hb); replace BK205 := Aside0.mk (blk_below (kA BK205.out) hb); replace BK214 := Aside0.mk (blk_below (kA BK214.out) hb); replace BK227 := Aside0.mk (blk_below (kA BK227.out) hb); replace HB := Aside0.mk (below_step (bA HB.out) hb); (try clear hb); (try clear ho0)) | ((with_reducible refine gate_dst (N := 15) rfl ?_); refine bE 15 #[.slice none 0 0, .int .i64 0, .int .i64 0, .int .i64 0, .int .i64 0, .int .i64 0] 27 ?_; intro gb270 hg w130 hbox hb; replace HO_206000 := Aside0.mk (Kd.R_below (rA HO_206000.out) hb); replace HO_215000 := Aside0.mk (Kd.R_below (rA HO_215000.out) hb); replace HO_228000 := Aside0.mk (Kd.R_below (rA HO_228000.out) hb); replace HO252 := Aside0.mk (Kd.R_below (rA HO252.out) hb); replace HO260 := Aside0.mk (Kd.R_below (rA HO260.out) hb); replace HO263 := Aside0.mk (Kd.R_below (rA HO263.out) hb); have BK270 := Aside0.mk (hbox); have GW270 := Aside0.mk (gE hg (bA HB.out)); have GE270 := Aside0.mk (gE hg (bA HB.out)); replace HB := Aside0.mk (below_step (bA HB.out) hb); have NB183_270 := Aside0.mk ((by rw [hg]; exact Nat.ne_of_lt (blk_lt (kA BK183.out)) : gb183 ≠ gb270)); have NB270_183 := Aside0.mk ((by rw [hg]; exact Nat.ne_of_gt (blk_lt (kA BK183.out)) : gb270 ≠ gb183)); replace BK183 := Aside0.mk (blk_below (kA BK183.out) hb); have NB205_270 := Aside0.mk ((by rw [hg]; exact Nat.ne_of_lt (blk_lt (kA BK205.out)) : gb205 ≠ gb270)); have NB270_205 := Aside0.mk ((by rw [hg]; exact Nat.ne_of_gt (blk_lt (kA BK205.out)) : gb270 ≠ gb205)); replace BK205 := Aside0.mk (blk_below (kA BK205.out) hb); have NB214_270 := Aside0.mk ((by rw [hg]; exact Nat.ne_of_lt (blk_lt (kA BK214.out)) : gb214 ≠ gb270)); have NB270_214 := Aside0.mk ((by rw [hg]; exact Nat.ne_of_gt (blk_lt (kA BK214.out)) : gb270 ≠ gb214)); replace BK214 := Aside0.mk (blk_below (kA BK214.out) hb); have NB227_270 := Aside0.mk ((by rw [hg]; exact Nat.ne_of_lt (blk_lt (kA BK227.out)) : gb227 ≠ gb270)); have NB270_227 := Aside0.mk ((by rw [hg]; exact Nat.ne_of_gt (blk_lt (kA BK227.out)) : gb270 ≠ gb227)); replace BK227 := Aside0.mk (blk_below (kA BK227.out) hb); clear hb hbox hg; obtain ⟨Ao131, co131, eo131⟩ := Kd.R_slice HO263.out; subst eo131; have hnb132 := NB270_183.out; have hnc132 := NB183_270.out; have hnb133 := NB270_205.out; have hnc133 := NB205_270.out; have hnb134 := NB270_214.out; have hnc134 := NB214_270.out; have hnb135 := NB270_227.out; have hnc135 := NB227_270.out; obtain ⟨hcz136_0, hcz136_1, hcz136_2, hcz136_3, hcz136_4, hcz136_5, hfz136_0, hfz136_1, hfz136_2, hfz136_3, hfz136_4, hfz136_5⟩ := cz6 BK270.out))
           (try simp only [Act.put, List.setIfInBounds_toArray, List.set_cons_zero, List.set_cons_succ])
           go_cut [108] (fun v108 wc => ∃ (kq : Nat) (x108_113 : Bool), v108 = .bool x108_113 ∧ Aside0 (laws_FnExactNextTable.j2 kq t247 x108_113 t248 t221 t222 t223 t224 t225 = some r) ∧ Aside0 (kq ≤ kj73) ∧ Aside0 (Kd.R (Kd.int .i64) 2 wc w.heap.size (fun k_ => some k_ ≠ ((.slice Ao33 t243.length co33) : Value).ownBlock ∧ some k_ ≠ ((.slice Ao42 t218.length co42) : Value).ownBlock ∧ some k_ ≠ ((.slice Ao131 t261.length co131) : Value).ownBlock) (.slice Ao27 t196.length co27) t196) ∧ Aside0 (Kd.R (Kd.int .i64) 2 wc w.heap.size (fun k_ => some k_ ≠ ((.slice Ao27 t196.length co27) : Value).ownBlock ∧ some k_ ≠ ((.slice Ao42 t218.length co42) : Value).ownBlock ∧ some k_ ≠ ((.slice Ao131 t261.length co131) : Value).ownBlock) (.slice Ao33 t243.length co33) t243) ∧ Aside0 (Kd.R (Kd.int .i64) 2 wc w.heap.size (fun k_ => some k_ ≠ ((.slice Ao27 t196.length co27) : Value).ownBlock ∧ some k_ ≠ ((.slice Ao33 t243.length co33) : Value).ownBlock ∧ some k_ ≠ ((.slice Ao131 t261.length co131) : Value).ownBlock) (.slice Ao42 t218.length co42) t248) ∧ Aside0 (Kd.R (Kd.int .i64) 2 wc w.heap.size (fun k_ => some k_ ≠ ((.slice Ao27 t196.length co27) : Value).ownBlock ∧ some k_ ≠ ((.slice Ao33 t243.length co33) : Value).ownBlock ∧ some k_ ≠ ((.slice Ao42 t218.length co42) : Value).ownBlock) (.slice Ao131 t261.length co131) t261) ∧ Aside0 (wc.heap[gb183]? = some (.cells #[(.slice A0_0 l0_0.length c0_0), .int .i64 a0_1, .int .i64 a0_2, .int .i64 a0_3, .int .i64 a0_4, .int .i64 a0_5] 24 (0, 0))) ∧ Aside0 (wc.heap[gb205]? = some (.cells #[(.slice Ao27 t196.length co27), .int .i64 t199, .int .i64 t200, .int .i64 t201, .int .i64 t202, .int .i64 t203] 27 (0, 0))) ∧ Aside0 (wc.heap[gb214]? = some (.cells #[(.slice Ao33 t243.length co33), .int .i64 t209, .int .i64 t210, .int .i64 t211, .int .i64 t212, .int .i64 t213] 27 (0, 0))) ∧ Aside0 (wc.heap[gb227]? = some (.cells #[(.slice Ao42 t218.length co42), .int .i64 t221, .int .i64 t222, .int .i64 t223, .int .i64 t224, .int .i64 t225] 27 (0, 0))) ∧ Aside0 (wc.heap[gb270]? = some (.cells #[(.slice Ao131 t261.length co131), .int .i64 t264, .int .i64 t265, .int .i64 t266, .int .i64 t267, .int .i64 t268] 27 (0, 0))) ∧ Aside0 (Below w.heap.size w wc))
           case first =>
            have H := HC114.out
            clear HC114
            obtain ⟨t271, A1370, H⟩ := Option.bind_eq_some_iff.mp H
            try dsimp only at H
            have A137 := Aside0.mk A1370
            clear A1370
            by_cases c138 : t271 = true
            ·subst c138
             rw [if_pos rfl] at H
             try dsimp only at H
             have H' := Aside0.mk H
             clear H
             have hnb139 := NB270_183.out
             have hnc139 := NB183_270.out
             have hnb140 := NB270_205.out
             have hnc140 := NB205_270.out
             have hnb141 := NB270_214.out
             have hnc141 := NB214_270.out
             have hnb142 := NB270_227.out
             have hnc142 := NB227_270.out
             obtain ⟨hcz143_0, hcz143_1, hcz143_2, hcz143_3, hcz143_4, hcz143_5, hfz143_0, hfz143_1, hfz143_2, hfz143_3, hfz143_4, hfz143_5⟩ := cz6 BK270.out
             have hnb144 := NB205_183.out
             have hnc144 := NB183_205.out
             have hnb145 := NB205_214.out
             have hnc145 := NB214_205.out
             have hnb146 := NB205_227.out
             have hnc146 := NB227_205.out
             obtain ⟨hcz147_0, hcz147_1, hcz147_2, hcz147_3, hcz147_4, hcz147_5, hfz147_0, hfz147_1, hfz147_2, hfz147_3, hfz147_4, hfz147_5⟩ := cz6 BK205.out
             go_wp2_with (first | ((with_reducible refine gate_callee (f := 18) rfl ?_); refine gL (some 102) Try.func18 #[.agg #[.slice Ao131 t261.length co131, .int .i64 t264, .int .i64 t265, .int .i64 t266, .int .i64 t267, .int .i64 t268], .agg #[.slice Ao27 t196.length co27, .int .i64 t199, .int .i64 t200, .int .i64 t201, .int .i64 t202, .int .i64 t203]] ?_; (with_reducible refine (laws_eqTable.calls kj73 _ _ t261 t264 t265 t266 t267 t268 _ _ t196 t199 t200 t201 t202 t203 true _ ?side1 ?side2 ?side3 ?side4 A137.out).mono ?_); (case side1 => refine (Kd.R_reads' (e := 2) (base := w.heap.size) (ok := fun k_ => (((((True ∧ some k_ ≠ (.slice Ao27 t196.length co27 : Value).ownBlock) ∧ some k_ ≠ (.slice Ao33 t243.length co33 : Value).ownBlock) ∧ some k_ ≠ (.slice Ao42 t218.length co42 : Value).ownBlock) ∧ some k_ ≠ (.slice Ao127 t250.length co127 : Value).ownBlock) ∧ some k_ ≠ (.slice Ao128 t258.length co128 : Value).ownBlock)) (n := t261.length) (c := co131) ?_).2.2; exact (rA (rF6 HO263.out BK270.out))); (case side2 => exact (Kd.R_reads' HO263.out).2.1); (case side3 => refine (Kd.R_reads' (e := 2) (base := w.heap.size) (ok := fun k_ => ((((some k_ ≠ (.slice Ao33 t243.length co33 : Value).ownBlock ∧ some k_ ≠ (.slice Ao42 t218.length co42 : Value).ownBlock) ∧ some k_ ≠ (.slice Ao127 t250.length co127 : Value).ownBlock) ∧ some k_ ≠ (.slice Ao128 t258.length co128 : Value).ownBlock) ∧ some k_ ≠ (.slice Ao131 t261.length co131 : Value).ownBlock)) (n := t196.length) (c := co27) ?_).2.2; exact (rA (rF6 HO_206000.out BK270.out))); (case side4 => exact (Kd.R_reads' HO_206000.out).2.1); rintro e w148 ⟨rfl, hb⟩; refine ⟨_, rfl, ?_⟩; replace HO_206000 := Aside0.mk (Kd.R_below (rA (rF6 HO_206000.out BK270.out)) hb); replace HO_215000 := Aside0.mk (Kd.R_below (rA (rF6 HO_215000.out BK270.out)) hb); replace HO_228000 := Aside0.mk (Kd.R_below (rA (rF6 HO_228000.out BK270.out)) hb); replace HO252 := Aside0.mk (Kd.R_below (rA (rF6 HO252.out BK270.out)) hb); replace HO260 := Aside0.mk (Kd.R_below (rA (rF6 HO260.out BK270.out)) hb); replace HO263 := Aside0.mk (Kd.R_below (rA (rF6 HO263.out BK270.out)) hb); replace BK183 := Aside0.mk (blk_below (g := gb183) (o := .cells #[.slice A0_0 l0_0.length c0_0, .int .i64 a0_1, .int .i64 a0_2, .int .i64 a0_3, .int .i64 a0_4, .int .i64 a0_5] 24 (0, 0)) (by (with_reducible repeat (first | refine blk_drewN ?_ _ | refine blk_drew ?_ | refine blk_alloc ?_ _)); refine blk_far ?_ NB183_270.out _; (with_reducible repeat (first | refine blk_drewN ?_ _ | refine blk_drew ?_ | refine blk_alloc ?_ _)); refine blk_far ?_ NB183_270.out _; (with_reducible repeat (first | refine blk_drewN ?_ _ | refine blk_drew ?_ | refine blk_alloc ?_ _)); refine blk_far ?_ NB183_270.out _; (with_reducible repeat (first | refine blk_drewN ?_ _ | refine blk_drew ?_ | refine blk_alloc ?_ _)); refine blk_far ?_ NB183_270.out _; (with_reducible repeat (first | refine blk_drewN ?_ _ | refine blk_drew ?_ | refine blk_alloc ?_ _)); refine blk_far ?_ NB183_270.out _; (with_reducible repeat (first | refine blk_drewN ?_ _ | refine blk_drew ?_ | refine blk_alloc ?_ _)); refine blk_far ?_ NB183_270.out _; (with_reducible repeat (first | refine blk_drewN ?_ _ | refine blk_drew ?_ | refine blk_alloc ?_ _)); exact BK183.out) hb); replace BK205 := Aside0.mk (blk_below (g := gb205) (o := .cells #[.slice Ao27 t196.length co27, .int .i64 t199, .int .i64 t200, .int .i64 t201, .int .i64 t202, .int .i64 t203] 27 (0, 0)) (by (with_reducible repeat (first | refine blk_drewN ?_ _ | refine blk_drew ?_ | refine blk_alloc ?_ _)); refine blk_far ?_ NB205_270.out _; (with_reducible repeat (first | refine blk_drewN ?_ _ | refine blk_drew ?_ | refine blk_alloc ?_ _)); refine blk_far ?_ NB205_270.out _; (with_reducible repeat (first | refine blk_drewN ?_ _ | refine blk_drew ?_ | refine blk_alloc ?_ _)); refine blk_far ?_ NB205_270.out _; (with_reducible repeat (first | refine blk_drewN ?_ _ | refine blk_drew ?_ | refine blk_alloc ?_ _)); refine blk_far ?_ NB205_270.out _; (with_reducible repeat (first | refine blk_drewN ?_ _ | refine blk_drew ?_ | refine blk_alloc ?_ _)); refine blk_far ?_ NB205_270.out _; (with_reducible repeat (first | refine blk_drewN ?_ _ | refine blk_drew ?_ | refine blk_alloc ?_ _)); refine blk_far ?_ NB205_270.out _; (with_reducible repeat (first | refine blk_drewN ?_ _ | refine blk_drew ?_ | refine blk_alloc ?_ _)); exact BK205.out) hb); replace BK214 := Aside0.mk (blk_below (g := gb214) (o := .cells #[.slice Ao33 t243.length co33, .int .i64 t209, .int .i64 t210, .int .i64 t211, .int .i64 t212, .int .i64 t213] 27 (0, 0)) (by (with_reducible repeat (first | refine blk_drewN ?_ _ | refine blk_drew ?_ | refine blk_alloc ?_ _)); refine blk_far ?_ NB214_270.out _; (with_reducible repeat (first | refine blk_drewN ?_ _ | refine blk_drew ?_ | refine blk_alloc ?_ _)); refine blk_far ?_ NB214_270.out _; (with_reducible repeat (first | refine blk_drewN ?_ _ | refine blk_drew ?_ | refine blk_alloc ?_ _)); refine blk_far ?_ NB214_270.out _; (with_reducible repeat (first | refine blk_drewN ?_ _ | refine blk_drew ?_ | refine blk_alloc ?_ _)); refine blk_far ?_ NB214_270.out _; (with_reducible repeat (first | refine blk_drewN ?_ _ | refine blk_drew ?_ | refine blk_alloc ?_ _)); refine blk_far ?_ NB214_270.out _; (with_reducible repeat (first | refine blk_drewN ?_ _ | refine blk_drew ?_ | refine blk_alloc ?_ _)); refine blk_far ?_ NB214_270.out _; (with_reducible repeat (first | refine blk_drewN ?_ _ | refine blk_drew ?_ | refine blk_alloc ?_ _)); exact BK214.out) hb); replace BK227 := Aside0.mk (blk_below (g := gb227) (o := .cells #[.slice Ao42 t218.length co42, .int .i64 t221, .int .i64 t222, .int .i64 t223, .int .i64 t224, .int .i64 t225] 27 (0, 0)) (by (with_reducible repeat (first | refine blk_drewN ?_ _ | refine blk_drew ?_ | refine blk_alloc ?_ _)); refine blk_far ?_ NB227_270.out _; (with_reducible repeat (first | refine blk_drewN ?_ _ | refine blk_drew ?_ | refine blk_alloc ?_ _)); refine blk_far ?_ NB227_270.out _; (with_reducible repeat (first | refine blk_drewN ?_ _ | refine blk_drew ?_ | refine blk_alloc ?_ _)); refine blk_far ?_ NB227_270.out _; (with_reducible repeat (first | refine blk_drewN ?_ _ | refine blk_drew ?_ | refine blk_alloc ?_ _)); refine blk_far ?_ NB227_270.out _; (with_reducible repeat (first | refine blk_drewN ?_ _ | refine blk_drew ?_ | refine blk_alloc ?_ _)); refine blk_far ?_ NB227_270.out _; (with_reducible repeat (first | refine blk_drewN ?_ _ | refine blk_drew ?_ | refine blk_alloc ?_ _)); refine blk_far ?_ NB227_270.out _; (with_reducible repeat (first | refine blk_drewN ?_ _ | refine blk_drew ?_ | refine blk_alloc ?_ _)); exact BK227.out) hb); replace BK270 := Aside0.mk (blk_below (g := gb270) (o := .cells #[.slice Ao131 t261.length co131, .int .i64 t264, .int .i64 t265, .int .i64 t266, .int .i64 t267, .int .i64 t268] 27 (0, 0)) (by (with_reducible repeat (first | refine blk_drewN ?_ _ | refine blk_drew ?_ | refine blk_alloc ?_ _)); refine blk_put (cs := #[.slice Ao131 t261.length co131, .int .i64 t264, .int .i64 t265, .int .i64 t266, .int .i64 t267, .int .i64 0]) ?_ 5 _ rfl; (with_reducible repeat (first | refine blk_drewN ?_ _ | refine blk_drew ?_ | refine blk_alloc ?_ _)); refine blk_put (cs := #[.slice Ao131 t261.length co131, .int .i64 t264, .int .i64 t265, .int .i64 t266, .int .i64 0, .int .i64 0]) ?_ 4 _ rfl; (with_reducible repeat (first | refine blk_drewN ?_ _ | refine blk_drew ?_ | refine blk_alloc ?_ _)); refine blk_put (cs := #[.slice Ao131 t261.length co131, .int .i64 t264, .int .i64 t265, .int .i64 0, .int .i64 0, .int .i64 0]) ?_ 3 _ rfl; (with_reducible repeat (first | refine blk_drewN ?_ _ | refine blk_drew ?_ | refine blk_alloc ?_ _)); refine blk_put (cs := #[.slice Ao131 t261.length co131, .int .i64 t264, .int .i64 0, .int .i64 0, .int .i64 0, .int .i64 0]) ?_ 2 _ rfl; (with_reducible repeat (first | refine blk_drewN ?_ _ | refine blk_drew ?_ | refine blk_alloc ?_ _)); refine blk_put (cs := #[.slice Ao131 t261.length co131, .int .i64 0, .int .i64 0, .int .i64 0, .int .i64 0, .int .i64 0]) ?_ 1 _ rfl; (with_reducible repeat (first | refine blk_drewN ?_ _ | refine blk_drew ?_ | refine blk_alloc ?_ _)); refine blk_put (cs := #[.slice none 0 0, .int .i64 0, .int .i64 0, .int .i64 0, .int .i64 0, .int .i64 0]) ?_ 0 _ rfl; (with_reducible repeat (first | refine blk_drewN ?_ _ | refine blk_drew ?_ | refine blk_alloc ?_ _)); exact BK270.out) hb); replace HB := Aside0.mk (below_step (bA HB.out) hb); (try clear hb)))
             go_meet
             case rel => exact ⟨_, ((t269 != t204)), (by first | rfl | (simp; done) | (simp [*]; done)), H', ⟨by have := HJ15.out; have := HJ73.out; first | omega | exact Nat.le_refl _⟩, ⟨by (try simp only [hl215000_73]); (with_reducible repeat (first | apply Kd.R_alloc | apply Kd.R_drewN | apply Kd.R_drew)); exact Kd.R_mono HO_206000.out (fun _ hk => ⟨hk.1.1.1.1, ⟨hk.1.1.1.2, hk.2⟩⟩)⟩, ⟨by (try simp only [hl215000_73]); (with_reducible repeat (first | apply Kd.R_alloc | apply Kd.R_drewN | apply Kd.R_drew)); exact Kd.R_mono HO_215000.out (fun _ hk => ⟨hk.1.1.1.1, ⟨hk.1.1.1.2, hk.2⟩⟩)⟩, ⟨by (try simp only [hl215000_73]); (with_reducible repeat (first | apply Kd.R_alloc | apply Kd.R_drewN | apply Kd.R_drew)); exact Kd.R_mono HO_228000.out (fun _ hk => ⟨hk.1.1.1.1, ⟨hk.1.1.1.2, hk.2⟩⟩)⟩, ⟨by (try simp only [hl215000_73]); (with_reducible repeat (first | apply Kd.R_alloc | apply Kd.R_drewN | apply Kd.R_drew)); exact Kd.R_mono HO263.out (fun _ hk => ⟨hk.1.1.1.1.2, ⟨hk.1.1.1.2, hk.1.1.2⟩⟩)⟩, ⟨by (try simp only [hl215000_73]); (with_reducible repeat (first | refine blk_drewN ?_ _ | refine blk_drew ?_ | refine blk_alloc ?_ _)); exact BK183.out⟩, ⟨by (try simp only [hl215000_73]); (with_reducible repeat (first | refine blk_drewN ?_ _ | refine blk_drew ?_ | refine blk_alloc ?_ _)); exact BK205.out⟩, ⟨by (try simp only [hl215000_73]); (with_reducible repeat (first | refine blk_drewN ?_ _ | refine blk_drew ?_ | refine blk_alloc ?_ _)); exact BK214.out⟩, ⟨by (try simp only [hl215000_73]); (with_reducible repeat (first | refine blk_drewN ?_ _ | refine blk_drew ?_ | refine blk_alloc ?_ _)); exact BK227.out⟩, ⟨by (try simp only [hl215000_73]); (with_reducible repeat (first | refine blk_drewN ?_ _ | refine blk_drew ?_ | refine blk_alloc ?_ _)); exact BK270.out⟩, ⟨bA HB.out⟩⟩
            ·replace c138 := Bool.eq_false_iff.mpr c138
             subst c138
             rw [if_neg (show ¬ (false = true) by decide)] at H
             try dsimp only at H
             have H' := Aside0.mk H
             clear H
             have hnb149 := NB270_183.out
             have hnc149 := NB183_270.out
             have hnb150 := NB270_205.out
             have hnc150 := NB205_270.out
             have hnb151 := NB270_214.out
             have hnc151 := NB214_270.out
             have hnb152 := NB270_227.out
             have hnc152 := NB227_270.out
             obtain ⟨hcz153_0, hcz153_1, hcz153_2, hcz153_3, hcz153_4, hcz153_5, hfz153_0, hfz153_1, hfz153_2, hfz153_3, hfz153_4, hfz153_5⟩ := cz6 BK270.out
             have hnb154 := NB205_183.out
             have hnc154 := NB183_205.out
             have hnb155 := NB205_214.out
             have hnc155 := NB214_205.out
             have hnb156 := NB205_227.out
             have hnc156 := NB227_205.out
             obtain ⟨hcz157_0, hcz157_1, hcz157_2, hcz157_3, hcz157_4, hcz157_5, hfz157_0, hfz157_1, hfz157_2, hfz157_3, hfz157_4, hfz157_5⟩ := cz6 BK205.out
             go_wp2_with (first | ((with_reducible refine gate_callee (f := 18) rfl ?_); refine gL (some 102) Try.func18 #[.agg #[.slice Ao131 t261.length co131, .int .i64 t264, .int .i64 t265, .int .i64 t266, .int .i64 t267, .int .i64 t268], .agg #[.slice Ao27 t196.length co27, .int .i64 t199, .int .i64 t200, .int .i64 t201, .int .i64 t202, .int .i64 t203]] ?_; (with_reducible refine (laws_eqTable.calls kj73 _ _ t261 t264 t265 t266 t267 t268 _ _ t196 t199 t200 t201 t202 t203 false _ ?side1 ?side2 ?side3 ?side4 A137.out).mono ?_); (case side1 => refine (Kd.R_reads' (e := 2) (base := w.heap.size) (ok := fun k_ => (((((True ∧ some k_ ≠ (.slice Ao27 t196.length co27 : Value).ownBlock) ∧ some k_ ≠ (.slice Ao33 t243.length co33 : Value).ownBlock) ∧ some k_ ≠ (.slice Ao42 t218.length co42 : Value).ownBlock) ∧ some k_ ≠ (.slice Ao127 t250.length co127 : Value).ownBlock) ∧ some k_ ≠ (.slice Ao128 t258.length co128 : Value).ownBlock)) (n := t261.length) (c := co131) ?_).2.2; exact (rA (rF6 HO263.out BK270.out))); (case side2 => exact (Kd.R_reads' HO263.out).2.1); (case side3 => refine (Kd.R_reads' (e := 2) (base := w.heap.size) (ok := fun k_ => ((((some k_ ≠ (.slice Ao33 t243.length co33 : Value).ownBlock ∧ some k_ ≠ (.slice Ao42 t218.length co42 : Value).ownBlock) ∧ some k_ ≠ (.slice Ao127 t250.length co127 : Value).ownBlock) ∧ some k_ ≠ (.slice Ao128 t258.length co128 : Value).ownBlock) ∧ some k_ ≠ (.slice Ao131 t261.length co131 : Value).ownBlock)) (n := t196.length) (c := co27) ?_).2.2; exact (rA (rF6 HO_206000.out BK270.out))); (case side4 => exact (Kd.R_reads' HO_206000.out).2.1); rintro e w158 ⟨rfl, hb⟩; refine ⟨_, rfl, ?_⟩; replace HO_206000 := Aside0.mk (Kd.R_below (rA (rF6 HO_206000.out BK270.out)) hb); replace HO_215000 := Aside0.mk (Kd.R_below (rA (rF6 HO_215000.out BK270.out)) hb); replace HO_228000 := Aside0.mk (Kd.R_below (rA (rF6 HO_228000.out BK270.out)) hb); replace HO252 := Aside0.mk (Kd.R_below (rA (rF6 HO252.out BK270.out)) hb); replace HO260 := Aside0.mk (Kd.R_below (rA (rF6 HO260.out BK270.out)) hb); replace HO263 := Aside0.mk (Kd.R_below (rA (rF6 HO263.out BK270.out)) hb); replace BK183 := Aside0.mk (blk_below (g := gb183) (o := .cells #[.slice A0_0 l0_0.length c0_0, .int .i64 a0_1, .int .i64 a0_2, .int .i64 a0_3, .int .i64 a0_4, .int .i64 a0_5] 24 (0, 0)) (by (with_reducible repeat (first | refine blk_drewN ?_ _ | refine blk_drew ?_ | refine blk_alloc ?_ _)); refine blk_far ?_ NB183_270.out _; (with_reducible repeat (first | refine blk_drewN ?_ _ | refine blk_drew ?_ | refine blk_alloc ?_ _)); refine blk_far ?_ NB183_270.out _; (with_reducible repeat (first | refine blk_drewN ?_ _ | refine blk_drew ?_ | refine blk_alloc ?_ _)); refine blk_far ?_ NB183_270.out _; (with_reducible repeat (first | refine blk_drewN ?_ _ | refine blk_drew ?_ | refine blk_alloc ?_ _)); refine blk_far ?_ NB183_270.out _; (with_reducible repeat (first | refine blk_drewN ?_ _ | refine blk_drew ?_ | refine blk_alloc ?_ _)); refine blk_far ?_ NB183_270.out _; (with_reducible repeat (first | refine blk_drewN ?_ _ | refine blk_drew ?_ | refine blk_alloc ?_ _)); refine blk_far ?_ NB183_270.out _; (with_reducible repeat (first | refine blk_drewN ?_ _ | refine blk_drew ?_ | refine blk_alloc ?_ _)); exact BK183.out) hb); replace BK205 := Aside0.mk (blk_below (g := gb205) (o := .cells #[.slice Ao27 t196.length co27, .int .i64 t199, .int .i64 t200, .int .i64 t201, .int .i64 t202, .int .i64 t203] 27 (0, 0)) (by (with_reducible repeat (first | refine blk_drewN ?_ _ | refine blk_drew ?_ | refine blk_alloc ?_ _)); refine blk_far ?_ NB205_270.out _; (with_reducible repeat (first | refine blk_drewN ?_ _ | refine blk_drew ?_ | refine blk_alloc ?_ _)); refine blk_far ?_ NB205_270.out _; (with_reducible repeat (first | refine blk_drewN ?_ _ | refine blk_drew ?_ | refine blk_alloc ?_ _)); refine blk_far ?_ NB205_270.out _; (with_reducible repeat (first | refine blk_drewN ?_ _ | refine blk_drew ?_ | refine blk_alloc ?_ _)); refine blk_far ?_ NB205_270.out _; (with_reducible repeat (first | refine blk_drewN ?_ _ | refine blk_drew ?_ | refine blk_alloc ?_ _)); refine blk_far ?_ NB205_270.out _; (with_reducible repeat (first | refine blk_drewN ?_ _ | refine blk_drew ?_ | refine blk_alloc ?_ _)); refine blk_far ?_ NB205_270.out _; (with_reducible repeat (first | refine blk_drewN ?_ _ | refine blk_drew ?_ | refine blk_alloc ?_ _)); exact BK205.out) hb); replace BK214 := Aside0.mk (blk_below (g := gb214) (o := .cells #[.slice Ao33 t243.length co33, .int .i64 t209, .int .i64 t210, .int .i64 t211, .int .i64 t212, .int .i64 t213] 27 (0, 0)) (by (with_reducible repeat (first | refine blk_drewN ?_ _ | refine blk_drew ?_ | refine blk_alloc ?_ _)); refine blk_far ?_ NB214_270.out _; (with_reducible repeat (first | refine blk_drewN ?_ _ | refine blk_drew ?_ | refine blk_alloc ?_ _)); refine blk_far ?_ NB214_270.out _; (with_reducible repeat (first | refine blk_drewN ?_ _ | refine blk_drew ?_ | refine blk_alloc ?_ _)); refine blk_far ?_ NB214_270.out _; (with_reducible repeat (first | refine blk_drewN ?_ _ | refine blk_drew ?_ | refine blk_alloc ?_ _)); refine blk_far ?_ NB214_270.out _; (with_reducible repeat (first | refine blk_drewN ?_ _ | refine blk_drew ?_ | refine blk_alloc ?_ _)); refine blk_far ?_ NB214_270.out _; (with_reducible repeat (first | refine blk_drewN ?_ _ | refine blk_drew ?_ | refine blk_alloc ?_ _)); refine blk_far ?_ NB214_270.out _; (with_reducible repeat (first | refine blk_drewN ?_ _ | refine blk_drew ?_ | refine blk_alloc ?_ _)); exact BK214.out) hb); replace BK227 := Aside0.mk (blk_below (g := gb227) (o := .cells #[.slice Ao42 t218.length co42, .int .i64 t221, .int .i64 t222, .int .i64 t223, .int .i64 t224, .int .i64 t225] 27 (0, 0)) (by (with_reducible repeat (first | refine blk_drewN ?_ _ | refine blk_drew ?_ | refine blk_alloc ?_ _)); refine blk_far ?_ NB227_270.out _; (with_reducible repeat (first | refine blk_drewN ?_ _ | refine blk_drew ?_ | refine blk_alloc ?_ _)); refine blk_far ?_ NB227_270.out _; (with_reducible repeat (first | refine blk_drewN ?_ _ | refine blk_drew ?_ | refine blk_alloc ?_ _)); refine blk_far ?_ NB227_270.out _; (with_reducible repeat (first | refine blk_drewN ?_ _ | refine blk_drew ?_ | refine blk_alloc ?_ _)); refine blk_far ?_ NB227_270.out _; (with_reducible repeat (first | refine blk_drewN ?_ _ | refine blk_drew ?_ | refine blk_alloc ?_ _)); refine blk_far ?_ NB227_270.out _; (with_reducible repeat (first | refine blk_drewN ?_ _ | refine blk_drew ?_ | refine blk_alloc ?_ _)); refine blk_far ?_ NB227_270.out _; (with_reducible repeat (first | refine blk_drewN ?_ _ | refine blk_drew ?_ | refine blk_alloc ?_ _)); exact BK227.out) hb); replace BK270 := Aside0.mk (blk_below (g := gb270) (o := .cells #[.slice Ao131 t261.length co131, .int .i64 t264, .int .i64 t265, .int .i64 t266, .int .i64 t267, .int .i64 t268] 27 (0, 0)) (by (with_reducible repeat (first | refine blk_drewN ?_ _ | refine blk_drew ?_ | refine blk_alloc ?_ _)); refine blk_put (cs := #[.slice Ao131 t261.length co131, .int .i64 t264, .int .i64 t265, .int .i64 t266, .int .i64 t267, .int .i64 0]) ?_ 5 _ rfl; (with_reducible repeat (first | refine blk_drewN ?_ _ | refine blk_drew ?_ | refine blk_alloc ?_ _)); refine blk_put (cs := #[.slice Ao131 t261.length co131, .int .i64 t264, .int .i64 t265, .int .i64 t266, .int .i64 0, .int .i64 0]) ?_ 4 _ rfl; (with_reducible repeat (first | refine blk_drewN ?_ _ | refine blk_drew ?_ | refine blk_alloc ?_ _)); refine blk_put (cs := #[.slice Ao131 t261.length co131, .int .i64 t264, .int .i64 t265, .int .i64 0, .int .i64 0, .int .i64 0]) ?_ 3 _ rfl; (with_reducible repeat (first | refine blk_drewN ?_ _ | refine blk_drew ?_ | refine blk_alloc ?_ _)); refine blk_put (cs := #[.slice Ao131 t261.length co131, .int .i64 t264, .int .i64 0, .int .i64 0, .int .i64 0, .int .i64 0]) ?_ 2 _ rfl; (with_reducible repeat (first | refine blk_drewN ?_ _ | refine blk_drew ?_ | refine blk_alloc ?_ _)); refine blk_put (cs := #[.slice Ao131 t261.length co131, .int .i64 0, .int .i64 0, .int .i64 0, .int .i64 0, .int .i64 0]) ?_ 1 _ rfl; (with_reducible repeat (first | refine blk_drewN ?_ _ | refine blk_drew ?_ | refine blk_alloc ?_ _)); refine blk_put (cs := #[.slice none 0 0, .int .i64 0, .int .i64 0, .int .i64 0, .int .i64 0, .int .i64 0]) ?_ 0 _ rfl; (with_reducible repeat (first | refine blk_drewN ?_ _ | refine blk_drew ?_ | refine blk_alloc ?_ _)); exact BK270.out) hb); replace HB := Aside0.mk (below_step (bA HB.out) hb); (try clear hb)))
             go_meet
             case rel => exact ⟨_, (true), (by first | rfl | (simp; done) | (simp [*]; done)), H', ⟨by have := HJ15.out; have := HJ73.out; first | omega | exact Nat.le_refl _⟩, ⟨by (try simp only [hl215000_73]); (with_reducible repeat (first | apply Kd.R_alloc | apply Kd.R_drewN | apply Kd.R_drew)); exact Kd.R_mono HO_206000.out (fun _ hk => ⟨hk.1.1.1.1, ⟨hk.1.1.1.2, hk.2⟩⟩)⟩, ⟨by (try simp only [hl215000_73]); (with_reducible repeat (first | apply Kd.R_alloc | apply Kd.R_drewN | apply Kd.R_drew)); exact Kd.R_mono HO_215000.out (fun _ hk => ⟨hk.1.1.1.1, ⟨hk.1.1.1.2, hk.2⟩⟩)⟩, ⟨by (try simp only [hl215000_73]); (with_reducible repeat (first | apply Kd.R_alloc | apply Kd.R_drewN | apply Kd.R_drew)); exact Kd.R_mono HO_228000.out (fun _ hk => ⟨hk.1.1.1.1, ⟨hk.1.1.1.2, hk.2⟩⟩)⟩, ⟨by (try simp only [hl215000_73]); (with_reducible repeat (first | apply Kd.R_alloc | apply Kd.R_drewN | apply Kd.R_drew)); exact Kd.R_mono HO263.out (fun _ hk => ⟨hk.1.1.1.1.2, ⟨hk.1.1.1.2, hk.1.1.2⟩⟩)⟩, ⟨by (try simp only [hl215000_73]); (with_reducible repeat (first | refine blk_drewN ?_ _ | refine blk_drew ?_ | refine blk_alloc ?_ _)); exact BK183.out⟩, ⟨by (try simp only [hl215000_73]); (with_reducible repeat (first | refine blk_drewN ?_ _ | refine blk_drew ?_ | refine blk_alloc ?_ _)); exact BK205.out⟩, ⟨by (try simp only [hl215000_73]); (with_reducible repeat (first | refine blk_drewN ?_ _ | refine blk_drew ?_ | refine blk_alloc ?_ _)); exact BK214.out⟩, ⟨by (try simp only [hl215000_73]); (with_reducible repeat (first | refine blk_drewN ?_ _ | refine blk_drew ?_ | refine blk_alloc ?_ _)); exact BK227.out⟩, ⟨by (try simp only [hl215000_73]); (with_reducible repeat (first | refine blk_drewN ?_ _ | refine blk_drew ?_ | refine blk_alloc ?_ _)); exact BK270.out⟩, ⟨bA HB.out⟩⟩
           case rest =>
            clear HC114
            try clear c1
            try clear c2
            try clear p2
            try clear c3
            try clear c3b0
            try clear c3b1
            try clear c4
            try clear c5
            try clear c6
            try clear c6b0
            try clear c7
            try clear c8
            try clear c9
            try clear c10
            try clear c11
            try clear c12
            try clear c13
            try clear c14
            try clear c15
            try clear c16
            try clear c18
            try clear c25
            try clear c26
            try clear c27
            try clear c28
            try clear c34
            try clear c35
            try clear c36
            try clear c37
            try clear c38
            try clear c43
            try clear c44
            try clear c45
            try clear c48
            try clear c49
            try clear c50
            try clear c51
            try clear c53
            try clear c54
            try clear c57
            try clear c58
            try clear c59
            try clear c61
            try clear c62
            try clear c65
            try clear c68
            try clear c71
            try clear c81
            try clear c82
            try clear c83
            try clear c87
            try clear c87b0
            try clear c89
            try clear c90
            try clear c91
            try clear c92
            try clear c94
            try clear c95
            try clear c98
            try clear c99
            try clear c100
            try clear c102
            try clear c103
            try clear c106
            try clear c109
            try clear c109b0
            try clear c110
            try clear c110b0
            try clear c110b1
            try clear c115
            try clear c116
            try clear c117
            try clear c122
            try clear c123
            try clear c132
            try clear c133
            try clear c134
            try clear c135
            try clear c138
            try clear c139
            try clear c140
            try clear c141
            try clear c142
            try clear c144
            try clear c145
            try clear c146
            try clear c149
            try clear c150
            try clear c151
            try clear c152
            try clear c154
            try clear c155
            try clear c156
            try clear hcz101_0 hcz101_1 hcz101_2 hcz101_3 hcz101_4 hcz101_5
            try clear hcz104_0 hcz104_1 hcz104_2 hcz104_3 hcz104_4 hcz104_5
            try clear hcz118_0 hcz118_1 hcz118_2 hcz118_3 hcz118_4 hcz118_5
            try clear hcz120_0 hcz120_1 hcz120_2 hcz120_3 hcz120_4 hcz120_5
            try clear hcz124_0 hcz124_1 hcz124_2 hcz124_3 hcz124_4 hcz124_5
            try clear hcz136_0 hcz136_1 hcz136_2 hcz136_3 hcz136_4 hcz136_5
            try clear hcz143_0 hcz143_1 hcz143_2 hcz143_3 hcz143_4 hcz143_5
            try clear hcz147_0 hcz147_1 hcz147_2 hcz147_3 hcz147_4 hcz147_5
            try clear hcz153_0 hcz153_1 hcz153_2 hcz153_3 hcz153_4 hcz153_5
            try clear hcz157_0 hcz157_1 hcz157_2 hcz157_3 hcz157_4 hcz157_5
            try clear hcz18_0 hcz18_1 hcz18_2 hcz18_3 hcz18_4 hcz18_5
            try clear hcz20_0 hcz20_1 hcz20_2 hcz20_3 hcz20_4 hcz20_5
            try clear hcz29_0 hcz29_1 hcz29_2 hcz29_3 hcz29_4 hcz29_5
            try clear hcz30_0 hcz30_1 hcz30_2 hcz30_3 hcz30_4 hcz30_5
            try clear hcz36_0 hcz36_1 hcz36_2 hcz36_3 hcz36_4 hcz36_5
            try clear hcz38_0 hcz38_1 hcz38_2 hcz38_3 hcz38_4 hcz38_5
            try clear hcz46_0 hcz46_1 hcz46_2 hcz46_3 hcz46_4 hcz46_5
            try clear hcz52_0 hcz52_1 hcz52_2 hcz52_3 hcz52_4 hcz52_5
            try clear hcz55_0 hcz55_1 hcz55_2 hcz55_3 hcz55_4 hcz55_5
            try clear hcz60_0 hcz60_1 hcz60_2 hcz60_3 hcz60_4 hcz60_5
            try clear hcz63_0 hcz63_1 hcz63_2 hcz63_3 hcz63_4 hcz63_5
            try clear hcz84_0 hcz84_1 hcz84_2 hcz84_3 hcz84_4 hcz84_5
            try clear hcz8_0 hcz8_1 hcz8_2 hcz8_3 hcz8_4 hcz8_5
            try clear hcz93_0 hcz93_1 hcz93_2 hcz93_3 hcz93_4 hcz93_5
            try clear hcz96_0 hcz96_1 hcz96_2 hcz96_3 hcz96_4 hcz96_5
            try clear hfz101_0 hfz101_1 hfz101_2 hfz101_3 hfz101_4 hfz101_5
            try clear hfz104_0 hfz104_1 hfz104_2 hfz104_3 hfz104_4 hfz104_5
            try clear hfz118_0 hfz118_1 hfz118_2 hfz118_3 hfz118_4 hfz118_5
            try clear hfz120_0 hfz120_1 hfz120_2 hfz120_3 hfz120_4 hfz120_5
            try clear hfz124_0 hfz124_1 hfz124_2 hfz124_3 hfz124_4 hfz124_5
            try clear hfz136_0 hfz136_1 hfz136_2 hfz136_3 hfz136_4 hfz136_5
            try clear hfz143_0 hfz143_1 hfz143_2 hfz143_3 hfz143_4 hfz143_5
            try clear hfz147_0 hfz147_1 hfz147_2 hfz147_3 hfz147_4 hfz147_5
            try clear hfz153_0 hfz153_1 hfz153_2 hfz153_3 hfz153_4 hfz153_5
            try clear hfz157_0 hfz157_1 hfz157_2 hfz157_3 hfz157_4 hfz157_5
            try clear hfz18_0 hfz18_1 hfz18_2 hfz18_3 hfz18_4 hfz18_5
            try clear hfz20_0 hfz20_1 hfz20_2 hfz20_3 hfz20_4 hfz20_5
            try clear hfz29_0 hfz29_1 hfz29_2 hfz29_3 hfz29_4 hfz29_5
            try clear hfz30_0 hfz30_1 hfz30_2 hfz30_3 hfz30_4 hfz30_5
            try clear hfz36_0 hfz36_1 hfz36_2 hfz36_3 hfz36_4 hfz36_5
            try clear hfz38_0 hfz38_1 hfz38_2 hfz38_3 hfz38_4 hfz38_5
            try clear hfz46_0 hfz46_1 hfz46_2 hfz46_3 hfz46_4 hfz46_5
            try clear hfz52_0 hfz52_1 hfz52_2 hfz52_3 hfz52_4 hfz52_5
            try clear hfz55_0 hfz55_1 hfz55_2 hfz55_3 hfz55_4 hfz55_5
            try clear hfz60_0 hfz60_1 hfz60_2 hfz60_3 hfz60_4 hfz60_5
            try clear hfz63_0 hfz63_1 hfz63_2 hfz63_3 hfz63_4 hfz63_5
            try clear hfz84_0 hfz84_1 hfz84_2 hfz84_3 hfz84_4 hfz84_5
            try clear hfz8_0 hfz8_1 hfz8_2 hfz8_3 hfz8_4 hfz8_5
            try clear hfz93_0 hfz93_1 hfz93_2 hfz93_3 hfz93_4 hfz93_5
            try clear hfz96_0 hfz96_1 hfz96_2 hfz96_3 hfz96_4 hfz96_5
            try clear p2
            obtain ⟨kq, x108_113, rfl, HA, HJ113, HO_206000, HO_215000, HO_228000, HO_271000, BK183, BK205, BK214, BK227, BK270, HB⟩ := hcut
            have hl228000_113 := (Kd.R_reads' HO_228000.out).1
            rw [hl228000_113] at HO_228000
            (try simp only [hl228000_113])
            (try simp only [hl228000_113] at BK183)
            (try simp only [hl228000_113] at BK205)
            (try simp only [hl228000_113] at BK214)
            (try simp only [hl228000_113] at BK227)
            (try simp only [hl228000_113] at BK270)
            (try simp only [hl228000_113] at HO_206000)
            (try simp only [hl228000_113] at HO_215000)
            (try simp only [hl228000_113] at HO_271000)
            cases kq with
            | zero => exact absurd HA.out (by simp [laws_FnExactNextTable.j2])
            | succ kj113 =>
             have H := HA.out
             clear HA
             simp only [laws_FnExactNextTable.j2] at H
             by_cases c159 : x108_113 = true
             ·subst c159
              rw [if_pos rfl] at H
              try dsimp only at H
              exact absurd H (by simp)
             ·replace c159 := Bool.eq_false_iff.mpr c159
              subst c159
              rw [if_neg (show ¬ (false = true) by decide)] at H
              try dsimp only at H
              obtain ⟨t272, A1600, H⟩ := Option.bind_eq_some_iff.mp H
              try dsimp only at H
              have A160 := Aside0.mk A1600
              clear A1600
              by_cases c161 : t272 < 0
              ·rw [if_pos c161] at H
               exact absurd H (by simp)
              rw [if_neg c161] at H
              have c161b0 : decide (t272 < 0) = false := decide_eq_false c161
              clear c161
              by_cases c162 : t272 = t247
              rotate_left
              ·rw [if_neg c162] at H
               exact absurd H (by simp)
              rw [if_pos c162] at H
              have c162b0 : (t272 == t247) = true := beq_iff_eq.mpr c162
              have c162b1 : (t272 != t247) = false := bne_eq_false_iff_eq.mpr c162
              clear c162
              obtain rfl := Option.some.inj H
              have hnb163 := NB227_183.out
              have hnc163 := NB183_227.out
              have hnb164 := NB227_205.out
              have hnc164 := NB205_227.out
              have hnb165 := NB227_214.out
              have hnc165 := NB214_227.out
              have hnb166 := NB227_270.out
              have hnc166 := NB270_227.out
              obtain ⟨hcz167_0, hcz167_1, hcz167_2, hcz167_3, hcz167_4, hcz167_5, hfz167_0, hfz167_1, hfz167_2, hfz167_3, hfz167_4, hfz167_5⟩ := cz6 BK227.out
              go_wp2_with (first | ((with_reducible refine gate_callee (f := 38) rfl ?_); refine gL (some 111) Try.func38 #[.agg #[.slice Ao42 t248.length co42, .int .i64 t221, .int .i64 t222, .int .i64 t223, .int .i64 t224, .int .i64 t225], .int .i64 1] ?_; (with_reducible refine (laws_heldTable.calls kj113 _ _ t248 t221 t222 t223 t224 t225 1 t272 _ ?side1 ?side2 A160.out).mono ?_); (case side1 => exact cA ((Kd.R_reads' HO_228000.out).2.2)); (case side2 => exact (Kd.R_reads' HO_228000.out).2.1); rintro e w168 ⟨rfl, hb⟩; refine ⟨_, rfl, ?_⟩; replace HO_206000 := Aside0.mk (Kd.R_below (rA HO_206000.out) hb); replace HO_215000 := Aside0.mk (Kd.R_below (rA HO_215000.out) hb); replace HO_228000 := Aside0.mk (Kd.R_below (rA HO_228000.out) hb); replace HO_271000 := Aside0.mk (Kd.R_below (rA HO_271000.out) hb); replace BK183 := Aside0.mk (blk_below (kA BK183.out) hb); replace BK205 := Aside0.mk (blk_below (kA BK205.out) hb); replace BK214 := Aside0.mk (blk_below (kA BK214.out) hb); replace BK227 := Aside0.mk (blk_below (kA BK227.out) hb); replace BK270 := Aside0.mk (blk_below (kA BK270.out) hb); replace HB := Aside0.mk (below_step (bA HB.out) hb); (try clear hb)))
              go_ret
              exact ⟨by first | rfl | (simp [errW_none, errW_some] <;> rfl) | (simp [*, errW_none, errW_some] <;> rfl), bA HB.out⟩
       ·replace c71 := Bool.eq_false_iff.mpr c71
        subst c71
        rw [if_neg (show ¬ (false = true) by decide)] at H
        try dsimp only at H
        exact absurd H (by simp)
      ·replace c68 := Bool.eq_false_iff.mpr c68
       subst c68
       rw [if_neg (show ¬ (false = true) by decide)] at H
       try dsimp only at H
       exact absurd H (by simp)
end Go.Proofs.Ytdagljakajpdjaa.QFnExactNextTable
