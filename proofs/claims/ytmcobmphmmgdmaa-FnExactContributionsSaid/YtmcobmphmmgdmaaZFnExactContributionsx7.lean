import Derived.Test.YtmcobmphmmgdmaaZFnExactContributionsx0
import Derived.Test.YtmcobmphmmgdmaaZFnExactContributionsx1
import Derived.Test.YtmcobmphmmgdmaaZFnExactContributionsx2
import Derived.Test.YtmcobmphmmgdmaaZFnExactContributionsx4
import Derived.Test.YtmcobmphmmgdmaaZFnExactContributionsx6
namespace Go.Proofs.Ytmcobmphmmgdmaa.QFnExactContributions
open Go.RowKit Go.Proofs.YtmcobmphmmgdmaaW.PrintWords Go.Proofs.YtmcobmphmmgdmaaW.PrintLast Go.Proofs.YtmcobmphmmgdmaaW.PrintMore
attribute [local go_sem] max2_int min2_int max_two min_two max_three min_three max_four min_four
set_option linter.unusedVariables false
set_option linter.unusedSimpArgs false
mutual
def laws_FnExactContributions.j0 : Nat → List Int → Int → List Int → Int → Bool → List Int → List Int → List Int → List Bool → List Bool → Int → Int → Int → Int → List Int → List Int → List Int → List Bool → List Bool → Int → Int → Int → Int → Option (Bool)
 | 0, _, _, _, _, _, _, _, _, _, _, _, _, _, _, _, _, _, _, _, _, _, _, _ => none
 | k + 1, x4, x5, x7, x8, x40, x231000, x231001, x231002, x231003, x231004, x231005, x231006, x231007, x231008, x275000, x275001, x275002, x275003, x275004, x275005, x275006, x275007, x275008 => if x40 = true then (none) else ((laws_toBetting.f k x231000 x231001 x231002 x231003 x231004 x231005 x231006 x231007 x231008).bind fun bt280 => ((laws_eqBetting.f k x275000 x275001 x275002 x275003 x275004 x275005 x275006 x275007 x275008 bt280.1 bt280.2.1 bt280.2.2.1 bt280.2.2.2.1 bt280.2.2.2.2.1 bt280.2.2.2.2.2.1 bt280.2.2.2.2.2.2.1 bt280.2.2.2.2.2.2.2.1 bt280.2.2.2.2.2.2.2.2).bind fun t299 => (if t299 = true then ((laws_markBetting.f k x275000 x275001 x275002 x275003 x275004 x275005 x275006 x275007 x275008 1).bind fun bt300 => (if bt300.1 < 0 then (laws_FnExactContributions.j1 k x4 x5 x7 true x231000 x231001 x231002 x231003 x231004 x231005 x231006 x231007 x231008) else ((laws_eqInt64S.f k x7 x4).bind fun t306 => (if t306 = true then (laws_FnExactContributions.j1 k x4 x5 x7 (x8 != x5) x231000 x231001 x231002 x231003 x231004 x231005 x231006 x231007 x231008) else (laws_FnExactContributions.j1 k x4 x5 x7 true x231000 x231001 x231002 x231003 x231004 x231005 x231006 x231007 x231008))))) else (none))))
def laws_FnExactContributions.j1 : Nat → List Int → Int → List Int → Bool → List Int → List Int → List Int → List Bool → List Bool → Int → Int → Int → Int → Option (Bool)
 | 0, _, _, _, _, _, _, _, _, _, _, _, _, _ => none
 | k + 1, x4, x5, x7, x61, x231000, x231001, x231002, x231003, x231004, x231005, x231006, x231007, x231008 => if x61 = true then (none) else ((laws_markInt64S.f k x7 1).bind fun bt307 => ((laws_heldInt64S.f k bt307.2 1).bind fun t309 => (if t309 < 0 then (none) else (if t309 = bt307.1 then ((laws_toBetting.f k x231000 x231001 x231002 x231003 x231004 x231005 x231006 x231007 x231008).bind fun bt310 => ((impl_Contributions.f k bt310.1 bt310.2.1 bt310.2.2.1 bt310.2.2.2.1 bt310.2.2.2.2.1 bt310.2.2.2.2.2.1 bt310.2.2.2.2.2.2.1 bt310.2.2.2.2.2.2.2.1 bt310.2.2.2.2.2.2.2.2).bind fun bt329 => ((laws_eqInt64S.f k bt329.1 x4).bind fun t333 => (if t333 = true then (laws_FnExactContributions.j2 k bt307.2 bt307.1 (bt329.2 != x5)) else (laws_FnExactContributions.j2 k bt307.2 bt307.1 true))))) else (none)))))
def laws_FnExactContributions.j2 : Nat → List Int → Int → Bool → Option (Bool)
 | 0, _, _, _ => none
 | k + 1, x7, x10, x87 => if x87 = true then (none) else ((laws_heldInt64S.f k x7 1).bind fun t334 => (if t334 < 0 then (none) else (if t334 = x10 then (some true) else (none))))
end
def laws_FnExactContributions.f (k : Nat) (l0_0 : List Int) (l0_1 : List Int) (l0_2 : List Int) (l0_3 : List Bool) (l0_4 : List Bool) (a0_5 : Int) (a0_6 : Int) (a0_7 : Int) (a0_8 : Int) : Option (Bool) := (laws_szBetting.f l0_0 l0_1 l0_2 l0_3 l0_4 a0_5 a0_6 a0_7 a0_8 1048576).bind fun t231 => (if t231 < 0 then (some true) else ((laws_toBetting.f k l0_0 l0_1 l0_2 l0_3 l0_4 a0_5 a0_6 a0_7 a0_8).bind fun bt232 => ((spec_Contributions.f k bt232.1 bt232.2.1 bt232.2.2.1 bt232.2.2.2.1 bt232.2.2.2.2.1 bt232.2.2.2.2.2.1 bt232.2.2.2.2.2.2.1 bt232.2.2.2.2.2.2.2.1 bt232.2.2.2.2.2.2.2.2).bind fun bt251 => ((laws_toBetting.f k l0_0 l0_1 l0_2 l0_3 l0_4 a0_5 a0_6 a0_7 a0_8).bind fun bt255 => ((impl_Contributions.f k bt255.1 bt255.2.1 bt255.2.2.1 bt255.2.2.2.1 bt255.2.2.2.2.1 bt255.2.2.2.2.2.1 bt255.2.2.2.2.2.2.1 bt255.2.2.2.2.2.2.2.1 bt255.2.2.2.2.2.2.2.2).bind fun bt275 => ((laws_eqInt64S.f k bt275.1 bt251.1).bind fun t279 => (if t279 = true then (laws_FnExactContributions.j0 k bt251.1 bt251.2 bt275.1 bt275.2 (bt275.2 != bt251.2) l0_0 l0_1 l0_2 l0_3 l0_4 a0_5 a0_6 a0_7 a0_8 bt255.1 bt255.2.1 bt255.2.2.1 bt255.2.2.2.1 bt255.2.2.2.2.1 bt255.2.2.2.2.2.1 bt255.2.2.2.2.2.2.1 bt255.2.2.2.2.2.2.2.1 bt255.2.2.2.2.2.2.2.2) else (laws_FnExactContributions.j0 k bt251.1 bt251.2 bt275.1 bt275.2 true l0_0 l0_1 l0_2 l0_3 l0_4 a0_5 a0_6 a0_7 a0_8 bt255.1 bt255.2.1 bt255.2.2.1 bt255.2.2.2.1 bt255.2.2.2.2.1 bt255.2.2.2.2.2.1 bt255.2.2.2.2.2.2.1 bt255.2.2.2.2.2.2.2.1 bt255.2.2.2.2.2.2.2.2))))))))
theorem laws_FnExactContributions.mono_l : ∀ k, (∀ y0 y1 y2 y3 y4 y5 y6 y7 y8 y9 y10 y11 y12 y13 y14 y15 y16 y17 y18 y19 y20 y21 y22, LeO (laws_FnExactContributions.j0 k y0 y1 y2 y3 y4 y5 y6 y7 y8 y9 y10 y11 y12 y13 y14 y15 y16 y17 y18 y19 y20 y21 y22) (laws_FnExactContributions.j0 (k + 1) y0 y1 y2 y3 y4 y5 y6 y7 y8 y9 y10 y11 y12 y13 y14 y15 y16 y17 y18 y19 y20 y21 y22)) ∧ (∀ y0 y1 y2 y3 y4 y5 y6 y7 y8 y9 y10 y11 y12, LeO (laws_FnExactContributions.j1 k y0 y1 y2 y3 y4 y5 y6 y7 y8 y9 y10 y11 y12) (laws_FnExactContributions.j1 (k + 1) y0 y1 y2 y3 y4 y5 y6 y7 y8 y9 y10 y11 y12)) ∧ (∀ y0 y1 y2, LeO (laws_FnExactContributions.j2 k y0 y1 y2) (laws_FnExactContributions.j2 (k + 1) y0 y1 y2))
 | 0 => ⟨fun _ _ _ _ _ _ _ _ _ _ _ _ _ _ _ _ _ _ _ _ _ _ _ r h => by simp [laws_FnExactContributions.j0] at h, fun _ _ _ _ _ _ _ _ _ _ _ _ _ r h => by simp [laws_FnExactContributions.j1] at h, fun _ _ _ r h => by simp [laws_FnExactContributions.j2] at h⟩
 | k + 1 => by
  obtain ⟨ih0, ih1, ih2⟩ := laws_FnExactContributions.mono_l k
  refine ⟨?_, ?_, ?_⟩
  ·intro y0 y1 y2 y3 y4 y5 y6 y7 y8 y9 y10 y11 y12 y13 y14 y15 y16 y17 y18 y19 y20 y21 y22
   unfold laws_FnExactContributions.j0
   repeat' first
   | (with_reducible exact ih0 _ _ _ _ _ _ _ _ _ _ _ _ _ _ _ _ _ _ _ _ _ _ _)
   | (with_reducible exact ih1 _ _ _ _ _ _ _ _ _ _ _ _ _)
   | (with_reducible exact ih2 _ _ _)
   | (with_reducible exact impl_Contributions.mono _ _ _ _ _ _ _ _ _ _)
   | (with_reducible exact laws_eqBetting.mono _ _ _ _ _ _ _ _ _ _ _ _ _ _ _ _ _ _ _)
   | (with_reducible exact laws_eqInt64S.mono _ _ _)
   | (with_reducible exact laws_heldInt64S.mono _ _ _)
   | (with_reducible exact laws_markBetting.mono _ _ _ _ _ _ _ _ _ _ _)
   | (with_reducible exact laws_markInt64S.mono _ _ _)
   | (with_reducible exact laws_toBetting.mono _ _ _ _ _ _ _ _ _ _)
   | (with_reducible exact spec_Contributions.mono _ _ _ _ _ _ _ _ _ _)
   | (with_reducible exact LeO.refl _)
   | (with_reducible exact LeO.none _)
   | (with_reducible refine LeO.ite ?_ ?_)
   | (with_reducible refine LeO.bind ?_ (fun _ => ?_))
   | exact ih0 _ _ _ _ _ _ _ _ _ _ _ _ _ _ _ _ _ _ _ _ _ _ _
   | exact ih1 _ _ _ _ _ _ _ _ _ _ _ _ _
   | exact ih2 _ _ _
   | exact impl_Contributions.mono _ _ _ _ _ _ _ _ _ _
   | exact laws_eqBetting.mono _ _ _ _ _ _ _ _ _ _ _ _ _ _ _ _ _ _ _
   | exact laws_eqInt64S.mono _ _ _
   | exact laws_heldInt64S.mono _ _ _
   | exact laws_markBetting.mono _ _ _ _ _ _ _ _ _ _ _
   | exact laws_markInt64S.mono _ _ _
   | exact laws_toBetting.mono _ _ _ _ _ _ _ _ _ _
   | exact spec_Contributions.mono _ _ _ _ _ _ _ _ _ _
   | exact LeO.none _
   | refine LeO.ite ?_ ?_
   | refine LeO.bind ?_ (fun _ => ?_)
  ·intro y0 y1 y2 y3 y4 y5 y6 y7 y8 y9 y10 y11 y12
   unfold laws_FnExactContributions.j1
   repeat' first
   | (with_reducible exact ih0 _ _ _ _ _ _ _ _ _ _ _ _ _ _ _ _ _ _ _ _ _ _ _)
   | (with_reducible exact ih1 _ _ _ _ _ _ _ _ _ _ _ _ _)
   | (with_reducible exact ih2 _ _ _)
   | (with_reducible exact impl_Contributions.mono _ _ _ _ _ _ _ _ _ _)
   | (with_reducible exact laws_eqBetting.mono _ _ _ _ _ _ _ _ _ _ _ _ _ _ _ _ _ _ _)
   | (with_reducible exact laws_eqInt64S.mono _ _ _)
   | (with_reducible exact laws_heldInt64S.mono _ _ _)
   | (with_reducible exact laws_markBetting.mono _ _ _ _ _ _ _ _ _ _ _)
   | (with_reducible exact laws_markInt64S.mono _ _ _)
   | (with_reducible exact laws_toBetting.mono _ _ _ _ _ _ _ _ _ _)
   | (with_reducible exact spec_Contributions.mono _ _ _ _ _ _ _ _ _ _)
   | (with_reducible exact LeO.refl _)
   | (with_reducible exact LeO.none _)
   | (with_reducible refine LeO.ite ?_ ?_)
   | (with_reducible refine LeO.bind ?_ (fun _ => ?_))
   | exact ih0 _ _ _ _ _ _ _ _ _ _ _ _ _ _ _ _ _ _ _ _ _ _ _
   | exact ih1 _ _ _ _ _ _ _ _ _ _ _ _ _
   | exact ih2 _ _ _
   | exact impl_Contributions.mono _ _ _ _ _ _ _ _ _ _
   | exact laws_eqBetting.mono _ _ _ _ _ _ _ _ _ _ _ _ _ _ _ _ _ _ _
   | exact laws_eqInt64S.mono _ _ _
   | exact laws_heldInt64S.mono _ _ _
   | exact laws_markBetting.mono _ _ _ _ _ _ _ _ _ _ _
   | exact laws_markInt64S.mono _ _ _
   | exact laws_toBetting.mono _ _ _ _ _ _ _ _ _ _
   | exact spec_Contributions.mono _ _ _ _ _ _ _ _ _ _
   | exact LeO.none _
   | refine LeO.ite ?_ ?_
   | refine LeO.bind ?_ (fun _ => ?_)
  ·intro y0 y1 y2
   unfold laws_FnExactContributions.j2
   repeat' first
   | (with_reducible exact ih0 _ _ _ _ _ _ _ _ _ _ _ _ _ _ _ _ _ _ _ _ _ _ _)
   | (with_reducible exact ih1 _ _ _ _ _ _ _ _ _ _ _ _ _)
   | (with_reducible exact ih2 _ _ _)
   | (with_reducible exact impl_Contributions.mono _ _ _ _ _ _ _ _ _ _)
   | (with_reducible exact laws_eqBetting.mono _ _ _ _ _ _ _ _ _ _ _ _ _ _ _ _ _ _ _)
   | (with_reducible exact laws_eqInt64S.mono _ _ _)
   | (with_reducible exact laws_heldInt64S.mono _ _ _)
   | (with_reducible exact laws_markBetting.mono _ _ _ _ _ _ _ _ _ _ _)
   | (with_reducible exact laws_markInt64S.mono _ _ _)
   | (with_reducible exact laws_toBetting.mono _ _ _ _ _ _ _ _ _ _)
   | (with_reducible exact spec_Contributions.mono _ _ _ _ _ _ _ _ _ _)
   | (with_reducible exact LeO.refl _)
   | (with_reducible exact LeO.none _)
   | (with_reducible refine LeO.ite ?_ ?_)
   | (with_reducible refine LeO.bind ?_ (fun _ => ?_))
   | exact ih0 _ _ _ _ _ _ _ _ _ _ _ _ _ _ _ _ _ _ _ _ _ _ _
   | exact ih1 _ _ _ _ _ _ _ _ _ _ _ _ _
   | exact ih2 _ _ _
   | exact impl_Contributions.mono _ _ _ _ _ _ _ _ _ _
   | exact laws_eqBetting.mono _ _ _ _ _ _ _ _ _ _ _ _ _ _ _ _ _ _ _
   | exact laws_eqInt64S.mono _ _ _
   | exact laws_heldInt64S.mono _ _ _
   | exact laws_markBetting.mono _ _ _ _ _ _ _ _ _ _ _
   | exact laws_markInt64S.mono _ _ _
   | exact laws_toBetting.mono _ _ _ _ _ _ _ _ _ _
   | exact spec_Contributions.mono _ _ _ _ _ _ _ _ _ _
   | exact LeO.none _
   | refine LeO.ite ?_ ?_
   | refine LeO.bind ?_ (fun _ => ?_)
theorem laws_FnExactContributions.mono : ∀ a0 a1 a2 a3 a4 a5 a6 a7 a8 k, LeO (laws_FnExactContributions.f k a0 a1 a2 a3 a4 a5 a6 a7 a8) (laws_FnExactContributions.f (k + 1) a0 a1 a2 a3 a4 a5 a6 a7 a8) := by
 intro a0 a1 a2 a3 a4 a5 a6 a7 a8 k
 obtain ⟨ih0, ih1, ih2⟩ := laws_FnExactContributions.mono_l k
 unfold laws_FnExactContributions.f
 repeat' first
   | (with_reducible exact ih0 _ _ _ _ _ _ _ _ _ _ _ _ _ _ _ _ _ _ _ _ _ _ _)
   | (with_reducible exact ih1 _ _ _ _ _ _ _ _ _ _ _ _ _)
   | (with_reducible exact ih2 _ _ _)
   | (with_reducible exact impl_Contributions.mono _ _ _ _ _ _ _ _ _ _)
   | (with_reducible exact laws_eqBetting.mono _ _ _ _ _ _ _ _ _ _ _ _ _ _ _ _ _ _ _)
   | (with_reducible exact laws_eqInt64S.mono _ _ _)
   | (with_reducible exact laws_heldInt64S.mono _ _ _)
   | (with_reducible exact laws_markBetting.mono _ _ _ _ _ _ _ _ _ _ _)
   | (with_reducible exact laws_markInt64S.mono _ _ _)
   | (with_reducible exact laws_toBetting.mono _ _ _ _ _ _ _ _ _ _)
   | (with_reducible exact spec_Contributions.mono _ _ _ _ _ _ _ _ _ _)
   | (with_reducible exact LeO.refl _)
   | (with_reducible exact LeO.none _)
   | (with_reducible refine LeO.ite ?_ ?_)
   | (with_reducible refine LeO.bind ?_ (fun _ => ?_))
   | exact ih0 _ _ _ _ _ _ _ _ _ _ _ _ _ _ _ _ _ _ _ _ _ _ _
   | exact ih1 _ _ _ _ _ _ _ _ _ _ _ _ _
   | exact ih2 _ _ _
   | exact impl_Contributions.mono _ _ _ _ _ _ _ _ _ _
   | exact laws_eqBetting.mono _ _ _ _ _ _ _ _ _ _ _ _ _ _ _ _ _ _ _
   | exact laws_eqInt64S.mono _ _ _
   | exact laws_heldInt64S.mono _ _ _
   | exact laws_markBetting.mono _ _ _ _ _ _ _ _ _ _ _
   | exact laws_markInt64S.mono _ _ _
   | exact laws_toBetting.mono _ _ _ _ _ _ _ _ _ _
   | exact spec_Contributions.mono _ _ _ _ _ _ _ _ _ _
   | exact LeO.none _
   | refine LeO.ite ?_ ?_
   | refine LeO.bind ?_ (fun _ => ?_)
set_option maxHeartbeats 8000000 in
set_option maxRecDepth 100000 in
theorem laws_FnExactContributions.calls (k : Nat) (A0_0 : Option Addr) (c0_0 : Nat) (l0_0 : List Int) (A0_1 : Option Addr) (c0_1 : Nat) (l0_1 : List Int) (A0_2 : Option Addr) (c0_2 : Nat) (l0_2 : List Int) (A0_3 : Option Addr) (c0_3 : Nat) (l0_3 : List Bool) (A0_4 : Option Addr) (c0_4 : Nat) (l0_4 : List Bool) (a0_5 : Int) (a0_6 : Int) (a0_7 : Int) (a0_8 : Int) (r : Bool) (w : World) (hr0_0 : Kd.C (Kd.int .i64) w A0_0 l0_0.length l0_0) (hc0_0 : l0_0.length ≤ c0_0) (hr0_1 : Kd.C (Kd.int .i64) w A0_1 l0_1.length l0_1) (hc0_1 : l0_1.length ≤ c0_1) (hr0_2 : Kd.C (Kd.int .i64) w A0_2 l0_2.length l0_2) (hc0_2 : l0_2.length ≤ c0_2) (hr0_3 : Kd.C Kd.bool w A0_3 l0_3.length l0_3) (hc0_3 : l0_3.length ≤ c0_3) (hr0_4 : Kd.C Kd.bool w A0_4 l0_4.length l0_4) (hc0_4 : l0_4.length ≤ c0_4) (h : laws_FnExactContributions.f k l0_0 l0_1 l0_2 l0_3 l0_4 a0_5 a0_6 a0_7 a0_8 = some r) :
  Calls Try.prog 9 #[.agg #[.slice A0_0 l0_0.length c0_0, .slice A0_1 l0_1.length c0_1, .slice A0_2 l0_2.length c0_2, .slice A0_3 l0_3.length c0_3, .slice A0_4 l0_4.length c0_4, .int .i64 a0_5, .int .i64 a0_6, .int .i64 a0_7, .int .i64 a0_8]] w fun e w' => e = .returned (.bool r) ∧ Below w.heap.size w w' := by
 have hu25 := Try.underlying25
 have hu28 := Try.underlying28
 have HR0_0 := Aside0.mk hr0_0
 have HC0_0 := Aside0.mk hc0_0
 clear hr0_0 hc0_0
 have HR0_1 := Aside0.mk hr0_1
 have HC0_1 := Aside0.mk hc0_1
 clear hr0_1 hc0_1
 have HR0_2 := Aside0.mk hr0_2
 have HC0_2 := Aside0.mk hc0_2
 clear hr0_2 hc0_2
 have HR0_3 := Aside0.mk hr0_3
 have HC0_3 := Aside0.mk hc0_3
 clear hr0_3 hc0_3
 have HR0_4 := Aside0.mk hr0_4
 have HC0_4 := Aside0.mk hc0_4
 clear hr0_4 hc0_4
 have HB := Aside0.mk (Below.refl w.heap.size w)
 have H : ((laws_szBetting.f l0_0 l0_1 l0_2 l0_3 l0_4 a0_5 a0_6 a0_7 a0_8 1048576).bind fun t231 => (if t231 < 0 then (some true) else ((laws_toBetting.f k l0_0 l0_1 l0_2 l0_3 l0_4 a0_5 a0_6 a0_7 a0_8).bind fun bt232 => ((spec_Contributions.f k bt232.1 bt232.2.1 bt232.2.2.1 bt232.2.2.2.1 bt232.2.2.2.2.1 bt232.2.2.2.2.2.1 bt232.2.2.2.2.2.2.1 bt232.2.2.2.2.2.2.2.1 bt232.2.2.2.2.2.2.2.2).bind fun bt251 => ((laws_toBetting.f k l0_0 l0_1 l0_2 l0_3 l0_4 a0_5 a0_6 a0_7 a0_8).bind fun bt255 => ((impl_Contributions.f k bt255.1 bt255.2.1 bt255.2.2.1 bt255.2.2.2.1 bt255.2.2.2.2.1 bt255.2.2.2.2.2.1 bt255.2.2.2.2.2.2.1 bt255.2.2.2.2.2.2.2.1 bt255.2.2.2.2.2.2.2.2).bind fun bt275 => ((laws_eqInt64S.f k bt275.1 bt251.1).bind fun t279 => (if t279 = true then (laws_FnExactContributions.j0 k bt251.1 bt251.2 bt275.1 bt275.2 (bt275.2 != bt251.2) l0_0 l0_1 l0_2 l0_3 l0_4 a0_5 a0_6 a0_7 a0_8 bt255.1 bt255.2.1 bt255.2.2.1 bt255.2.2.2.1 bt255.2.2.2.2.1 bt255.2.2.2.2.2.1 bt255.2.2.2.2.2.2.1 bt255.2.2.2.2.2.2.2.1 bt255.2.2.2.2.2.2.2.2) else (laws_FnExactContributions.j0 k bt251.1 bt251.2 bt275.1 bt275.2 true l0_0 l0_1 l0_2 l0_3 l0_4 a0_5 a0_6 a0_7 a0_8 bt255.1 bt255.2.1 bt255.2.2.1 bt255.2.2.2.1 bt255.2.2.2.2.1 bt255.2.2.2.2.2.1 bt255.2.2.2.2.2.2.1 bt255.2.2.2.2.2.2.2.1 bt255.2.2.2.2.2.2.2.2))))))))) = some r := h
 clear h
 obtain ⟨t231, A20, H⟩ := Option.bind_eq_some_iff.mp H
 try dsimp only at H
 have A2 := Aside0.mk A20
 clear A20
 by_cases c3 : t231 < 0
 ·rw [if_pos c3] at H
  have c3b0 : decide (t231 < 0) = true := decide_eq_true c3
  clear c3
  obtain rfl := Option.some.inj H
  go_enter Try.func9, Try.ntmps9
  go_wp2_with (first | ((with_reducible refine gate_dst (N := 1) rfl ?_); refine bE 1 #[.slice A0_0 l0_0.length c0_0, .slice A0_1 l0_1.length c0_1, .slice A0_2 l0_2.length c0_2, .slice A0_3 l0_3.length c0_3, .slice A0_4 l0_4.length c0_4, .int .i64 a0_5, .int .i64 a0_6, .int .i64 a0_7, .int .i64 a0_8] 25 ?_; intro gb230 hg w4 hbox hb; have BK230 := Aside0.mk (hbox); have GW230 := Aside0.mk (gE hg (bA HB.out)); have GE230 := Aside0.mk (gE hg (bA HB.out)); replace HB := Aside0.mk (below_step (bA HB.out) hb); clear hb hbox hg; obtain ⟨hcz5_0, hcz5_1, hcz5_2, hcz5_3, hcz5_4, hcz5_5, hcz5_6, hcz5_7, hcz5_8, hfz5_0, hfz5_1, hfz5_2, hfz5_3, hfz5_4, hfz5_5, hfz5_6, hfz5_7, hfz5_8⟩ := cz9 BK230.out) | ((with_reducible refine gate_callee (f := 15) rfl ?_); refine gL (some 16) Try.func15 #[.agg #[.slice A0_0 l0_0.length c0_0, .slice A0_1 l0_1.length c0_1, .slice A0_2 l0_2.length c0_2, .slice A0_3 l0_3.length c0_3, .slice A0_4 l0_4.length c0_4, .int .i64 a0_5, .int .i64 a0_6, .int .i64 a0_7, .int .i64 a0_8], .int .i64 1048576] ?_; (with_reducible refine (laws_szBetting.calls _ _ l0_0 _ _ l0_1 _ _ l0_2 _ _ l0_3 _ _ l0_4 a0_5 a0_6 a0_7 a0_8 1048576 t231 _ ?side1 ?side2 ?side3 ?side4 ?side5 ?side6 ?side7 ?side8 ?side9 ?side10 A2.out).mono ?_); (case side1 => exact cA (Kd.C_below HR0_0.out HB.out)); (case side2 => exact HC0_0.out); (case side3 => exact cA (Kd.C_below HR0_1.out HB.out)); (case side4 => exact HC0_1.out); (case side5 => exact cA (Kd.C_below HR0_2.out HB.out)); (case side6 => exact HC0_2.out); (case side7 => exact cA (Kd.C_below HR0_3.out HB.out)); (case side8 => exact HC0_3.out); (case side9 => exact cA (Kd.C_below HR0_4.out HB.out)); (case side10 => exact HC0_4.out); rintro e w6 ⟨rfl, hb⟩; refine ⟨_, rfl, ?_⟩; replace BK230 := Aside0.mk (blk_below (kA BK230.out) hb); replace HB := Aside0.mk (below_step (bA HB.out) hb); (try clear hb)))
  go_ret
  exact ⟨by first | rfl | (simp [errW_none, errW_some] <;> rfl) | (simp [*, errW_none, errW_some] <;> rfl), bA HB.out⟩
 ·rw [if_neg c3] at H
  have c3b0 : decide (t231 < 0) = false := decide_eq_false c3
  clear c3
  obtain ⟨⟨t232, t235, t238, t241, t244, t247, t248, t249, t250⟩, A70, H⟩ := Option.bind_eq_some_iff.mp H
  try dsimp only at H
  have A7 := Aside0.mk A70
  clear A70
  obtain ⟨⟨t251, t254⟩, A80, H⟩ := Option.bind_eq_some_iff.mp H
  try dsimp only at H
  have A8 := Aside0.mk A80
  clear A80
  obtain ⟨⟨t255, t258, t261, t264, t267, t270, t271, t272, t273⟩, A90, H⟩ := Option.bind_eq_some_iff.mp H
  try dsimp only at H
  have A9 := Aside0.mk A90
  clear A90
  obtain ⟨⟨t275, t278⟩, A100, H⟩ := Option.bind_eq_some_iff.mp H
  try dsimp only at H
  have A10 := Aside0.mk A100
  clear A100
  have HC11 := Aside0.mk H
  clear H
  go_enter Try.func9, Try.ntmps9
  go_upto_region 8 with (first | ((with_reducible refine gate_dst (N := 1) rfl ?_); refine bE 1 #[.slice A0_0 l0_0.length c0_0, .slice A0_1 l0_1.length c0_1, .slice A0_2 l0_2.length c0_2, .slice A0_3 l0_3.length c0_3, .slice A0_4 l0_4.length c0_4, .int .i64 a0_5, .int .i64 a0_6, .int .i64 a0_7, .int .i64 a0_8] 25 ?_; intro gb230 hg w12 hbox hb; have BK230 := Aside0.mk (hbox); have GW230 := Aside0.mk (gE hg (bA HB.out)); have GE230 := Aside0.mk (gE hg (bA HB.out)); replace HB := Aside0.mk (below_step (bA HB.out) hb); clear hb hbox hg; obtain ⟨hcz13_0, hcz13_1, hcz13_2, hcz13_3, hcz13_4, hcz13_5, hcz13_6, hcz13_7, hcz13_8, hfz13_0, hfz13_1, hfz13_2, hfz13_3, hfz13_4, hfz13_5, hfz13_6, hfz13_7, hfz13_8⟩ := cz9 BK230.out) | ((with_reducible refine gate_callee (f := 15) rfl ?_); refine gL (some 16) Try.func15 #[.agg #[.slice A0_0 l0_0.length c0_0, .slice A0_1 l0_1.length c0_1, .slice A0_2 l0_2.length c0_2, .slice A0_3 l0_3.length c0_3, .slice A0_4 l0_4.length c0_4, .int .i64 a0_5, .int .i64 a0_6, .int .i64 a0_7, .int .i64 a0_8], .int .i64 1048576] ?_; (with_reducible refine (laws_szBetting.calls _ _ l0_0 _ _ l0_1 _ _ l0_2 _ _ l0_3 _ _ l0_4 a0_5 a0_6 a0_7 a0_8 1048576 t231 _ ?side1 ?side2 ?side3 ?side4 ?side5 ?side6 ?side7 ?side8 ?side9 ?side10 A2.out).mono ?_); (case side1 => exact cA (Kd.C_below HR0_0.out HB.out)); (case side2 => exact HC0_0.out); (case side3 => exact cA (Kd.C_below HR0_1.out HB.out)); (case side4 => exact HC0_1.out); (case side5 => exact cA (Kd.C_below HR0_2.out HB.out)); (case side6 => exact HC0_2.out); (case side7 => exact cA (Kd.C_below HR0_3.out HB.out)); (case side8 => exact HC0_3.out); (case side9 => exact cA (Kd.C_below HR0_4.out HB.out)); (case side10 => exact HC0_4.out); rintro e w14 ⟨rfl, hb⟩; refine ⟨_, rfl, ?_⟩; replace BK230 := Aside0.mk (blk_below (kA BK230.out) hb); replace HB := Aside0.mk (below_step (bA HB.out) hb); (try clear hb); obtain ⟨hcz15_0, hcz15_1, hcz15_2, hcz15_3, hcz15_4, hcz15_5, hcz15_6, hcz15_7, hcz15_8, hfz15_0, hfz15_1, hfz15_2, hfz15_3, hfz15_4, hfz15_5, hfz15_6, hfz15_7, hfz15_8⟩ := cz9 BK230.out) | ((with_reducible refine gate_callee (f := 17) rfl ?_); refine gL (some 21) Try.func17 #[.agg #[.slice A0_0 l0_0.length c0_0, .slice A0_1 l0_1.length c0_1, .slice A0_2 l0_2.length c0_2, .slice A0_3 l0_3.length c0_3, .slice A0_4 l0_4.length c0_4, .int .i64 a0_5, .int .i64 a0_6, .int .i64 a0_7, .int .i64 a0_8]] ?_; (with_reducible refine (laws_toBetting.calls k _ _ l0_0 _ _ l0_1 _ _ l0_2 _ _ l0_3 _ _ l0_4 a0_5 a0_6 a0_7 a0_8 t232 t235 t238 t241 t244 t247 t248 t249 t250 _ ?side1 ?side2 ?side3 ?side4 ?side5 ?side6 ?side7 ?side8 ?side9 ?side10 A7.out).mono ?_); (case side1 => exact cA (Kd.C_below HR0_0.out HB.out)); (case side2 => exact HC0_0.out); (case side3 => exact cA (Kd.C_below HR0_1.out HB.out)); (case side4 => exact HC0_1.out); (case side5 => exact cA (Kd.C_below HR0_2.out HB.out)); (case side6 => exact HC0_2.out); (case side7 => exact cA (Kd.C_below HR0_3.out HB.out)); (case side8 => exact HC0_3.out); (case side9 => exact cA (Kd.C_below HR0_4.out HB.out)); (case side10 => exact HC0_4.out); rintro e w16 ⟨v233, v236, v239, v242, v245, rfl, ho0, ho1, ho2, ho3, ho4, hb⟩; refine ⟨_, rfl, ?_⟩; have HO234 := Aside0.mk (Kd.R_lower ho0 (below_size (bA HB.out))); have HO237 := Aside0.mk (Kd.R_lower ho1 (below_size (bA HB.out))); have HO240 := Aside0.mk (Kd.R_lower ho2 (below_size (bA HB.out))); have HO243 := Aside0.mk (Kd.R_lower ho3 (below_size (bA HB.out))); have HO246 := Aside0.mk (Kd.R_lower ho4 (below_size (bA HB.out))); replace BK230 := Aside0.mk (blk_below (kA BK230.out) hb); replace HB := Aside0.mk (below_step (bA HB.out) hb); (try clear hb); (try clear ho0); (try clear ho1); (try clear ho2); (try clear ho3); (try clear ho4); obtain ⟨Ao17, co17, eo17⟩ := Kd.R_slice HO234.out; subst eo17; obtain ⟨Ao18, co18, eo18⟩ := Kd.R_slice HO237.out; subst eo18; obtain ⟨Ao19, co19, eo19⟩ := Kd.R_slice HO240.out; subst eo19; obtain ⟨Ao20, co20, eo20⟩ := Kd.R_slice HO243.out; subst eo20; obtain ⟨Ao21, co21, eo21⟩ := Kd.R_slice HO246.out; subst eo21) | ((with_reducible refine gate_callee (f := 34) rfl ?_); refine gL (some 22) Try.func34 #[.agg #[.slice Ao17 t232.length co17, .slice Ao18 t235.length co18, .slice Ao19 t238.length co19, .slice Ao20 t241.length co20, .slice Ao21 t244.length co21, .int .i64 t247, .int .i64 t248, .int .i64 t249, .int .i64 t250]] ?_; (with_reducible refine (spec_Contributions.calls k _ _ t232 _ _ t235 _ _ t238 _ _ t241 _ _ t244 t247 t248 t249 t250 t251 t254 _ ?side1 ?side2 ?side3 ?side4 ?side5 ?side6 ?side7 ?side8 ?side9 ?side10 A8.out).mono ?_); (case side1 => exact cA ((Kd.R_reads' HO234.out).2.2)); (case side2 => exact (Kd.R_reads' HO234.out).2.1); (case side3 => exact cA ((Kd.R_reads' HO237.out).2.2)); (case side4 => exact (Kd.R_reads' HO237.out).2.1); (case side5 => exact cA ((Kd.R_reads' HO240.out).2.2)); (case side6 => exact (Kd.R_reads' HO240.out).2.1); (case side7 => exact cA ((Kd.R_reads' HO243.out).2.2)); (case side8 => exact (Kd.R_reads' HO243.out).2.1); (case side9 => exact cA ((Kd.R_reads' HO246.out).2.2)); (case side10 => exact (Kd.R_reads' HO246.out).2.1); rintro e w22 ⟨v252, rfl, ho0, hb⟩; refine ⟨_, rfl, ?_⟩; replace HO243 := Aside0.mk (Kd.R_below (rA HO243.out) hb); replace HO246 := Aside0.mk (Kd.R_below (rA HO246.out) hb); have HO253 := Aside0.mk (Kd.R_lower (Kd.R_new' (Kd.R_new' (Kd.R_new' ho0 (Kd.R_lt (rA HO234.out))) (Kd.R_lt (rA HO237.out))) (Kd.R_lt (rA HO240.out))) (below_size (bA HB.out))); replace HO234 := Aside0.mk (Kd.R_elder' (rA HO234.out) (Kd.R_base ho0) hb); replace HO237 := Aside0.mk (Kd.R_elder' (rA HO237.out) (Kd.R_base ho0) hb); replace HO240 := Aside0.mk (Kd.R_elder' (rA HO240.out) (Kd.R_base ho0) hb); replace BK230 := Aside0.mk (blk_below (kA BK230.out) hb); replace HB := Aside0.mk (below_step (bA HB.out) hb); (try clear hb); (try clear ho0); obtain ⟨hcz23_0, hcz23_1, hcz23_2, hcz23_3, hcz23_4, hcz23_5, hcz23_6, hcz23_7, hcz23_8, hfz23_0, hfz23_1, hfz23_2, hfz23_3, hfz23_4, hfz23_5, hfz23_6, hfz23_7, hfz23_8⟩ := cz9 BK230.out) | ((with_reducible refine gate_callee (f := 17) rfl ?_); refine gL (some 26) Try.func17 #[.agg #[.slice A0_0 l0_0.length c0_0, .slice A0_1 l0_1.length c0_1, .slice A0_2 l0_2.length c0_2, .slice A0_3 l0_3.length c0_3, .slice A0_4 l0_4.length c0_4, .int .i64 a0_5, .int .i64 a0_6, .int .i64 a0_7, .int .i64 a0_8]] ?_; (with_reducible refine (laws_toBetting.calls k _ _ l0_0 _ _ l0_1 _ _ l0_2 _ _ l0_3 _ _ l0_4 a0_5 a0_6 a0_7 a0_8 t255 t258 t261 t264 t267 t270 t271 t272 t273 _ ?side1 ?side2 ?side3 ?side4 ?side5 ?side6 ?side7 ?side8 ?side9 ?side10 A9.out).mono ?_); (case side1 => exact cA (Kd.C_below HR0_0.out HB.out)); (case side2 => exact HC0_0.out); (case side3 => exact cA (Kd.C_below HR0_1.out HB.out)); (case side4 => exact HC0_1.out); (case side5 => exact cA (Kd.C_below HR0_2.out HB.out)); (case side6 => exact HC0_2.out); (case side7 => exact cA (Kd.C_below HR0_3.out HB.out)); (case side8 => exact HC0_3.out); (case side9 => exact cA (Kd.C_below HR0_4.out HB.out)); (case side10 => exact HC0_4.out); rintro e w24 ⟨v256, v259, v262, v265, v268, rfl, ho0, ho1, ho2, ho3, ho4, hb⟩; refine ⟨_, rfl, ?_⟩; have HO257 := Aside0.mk (Kd.R_lower (Kd.R_new' (Kd.R_new' (Kd.R_new' (Kd.R_new' ho0 (Kd.R_lt (rA HO234.out))) (Kd.R_lt (rA HO237.out))) (Kd.R_lt (rA HO240.out))) (Kd.R_lt (rA HO253.out))) (below_size (bA HB.out))); have HO260 := Aside0.mk (Kd.R_lower (Kd.R_new' (Kd.R_new' (Kd.R_new' (Kd.R_new' ho1 (Kd.R_lt (rA HO234.out))) (Kd.R_lt (rA HO237.out))) (Kd.R_lt (rA HO240.out))) (Kd.R_lt (rA HO253.out))) (below_size (bA HB.out))); have HO263 := Aside0.mk (Kd.R_lower (Kd.R_new' (Kd.R_new' (Kd.R_new' (Kd.R_new' ho2 (Kd.R_lt (rA HO234.out))) (Kd.R_lt (rA HO237.out))) (Kd.R_lt (rA HO240.out))) (Kd.R_lt (rA HO253.out))) (below_size (bA HB.out))); replace HO234 := Aside0.mk (Kd.R_mono (Kd.R_told (Kd.R_told (Kd.R_told (Kd.R_old (rA HO234.out) hb) (Kd.R_base ho0)) (Kd.R_base ho1)) (Kd.R_base ho2)) (fun _ h_ => h_.1)); replace HO237 := Aside0.mk (Kd.R_mono (Kd.R_told (Kd.R_told (Kd.R_told (Kd.R_old (rA HO237.out) hb) (Kd.R_base ho0)) (Kd.R_base ho1)) (Kd.R_base ho2)) (fun _ h_ => h_.1)); replace HO240 := Aside0.mk (Kd.R_mono (Kd.R_told (Kd.R_told (Kd.R_told (Kd.R_old (rA HO240.out) hb) (Kd.R_base ho0)) (Kd.R_base ho1)) (Kd.R_base ho2)) (fun _ h_ => h_.1)); replace HO253 := Aside0.mk (Kd.R_mono (Kd.R_told (Kd.R_told (Kd.R_told (Kd.R_old (rA HO253.out) hb) (Kd.R_base ho0)) (Kd.R_base ho1)) (Kd.R_base ho2)) (fun _ h_ => h_.1)); have HO266 := Aside0.mk (Kd.R_lower (Kd.R_new' (Kd.R_new' ho3 (Kd.R_lt (rA HO243.out))) (Kd.R_lt (rA HO246.out))) (below_size (bA HB.out))); have HO269 := Aside0.mk (Kd.R_lower (Kd.R_new' (Kd.R_new' ho4 (Kd.R_lt (rA HO243.out))) (Kd.R_lt (rA HO246.out))) (below_size (bA HB.out))); replace HO243 := Aside0.mk (Kd.R_mono (Kd.R_told (Kd.R_told (Kd.R_old (rA HO243.out) hb) (Kd.R_base ho3)) (Kd.R_base ho4)) (fun _ h_ => h_.1)); replace HO246 := Aside0.mk (Kd.R_mono (Kd.R_told (Kd.R_told (Kd.R_old (rA HO246.out) hb) (Kd.R_base ho3)) (Kd.R_base ho4)) (fun _ h_ => h_.1)); replace BK230 := Aside0.mk (blk_below (kA BK230.out) hb); replace HB := Aside0.mk (below_step (bA HB.out) hb); (try clear hb); (try clear ho0); (try clear ho1); (try clear ho2); (try clear ho3); (try clear ho4)) | ((with_reducible refine gate_dst (N := 6) rfl ?_); refine bE 6 #[.slice none 0 0, .slice none 0 0, .slice none 0 0, .slice none 0 0, .slice none 0 0, .int .i64 0, .int .i64 0, .int .i64 0, .int .i64 0] 28 ?_; intro gb274 hg w25 hbox hb; replace HO234 := Aside0.mk (Kd.R_below (rA HO234.out) hb); replace HO237 := Aside0.mk (Kd.R_below (rA HO237.out) hb); replace HO240 := Aside0.mk (Kd.R_below (rA HO240.out) hb); replace HO243 := Aside0.mk (Kd.R_below (rA HO243.out) hb); replace HO246 := Aside0.mk (Kd.R_below (rA HO246.out) hb); replace HO253 := Aside0.mk (Kd.R_below (rA HO253.out) hb); replace HO257 := Aside0.mk (Kd.R_below (rA HO257.out) hb); replace HO260 := Aside0.mk (Kd.R_below (rA HO260.out) hb); replace HO263 := Aside0.mk (Kd.R_below (rA HO263.out) hb); replace HO266 := Aside0.mk (Kd.R_below (rA HO266.out) hb); replace HO269 := Aside0.mk (Kd.R_below (rA HO269.out) hb); have BK274 := Aside0.mk (hbox); have GW274 := Aside0.mk (gE hg (bA HB.out)); have GE274 := Aside0.mk (gE hg (bA HB.out)); replace HB := Aside0.mk (below_step (bA HB.out) hb); have NB230_274 := Aside0.mk ((by rw [hg]; exact Nat.ne_of_lt (blk_lt (kA BK230.out)) : gb230 ≠ gb274)); have NB274_230 := Aside0.mk ((by rw [hg]; exact Nat.ne_of_gt (blk_lt (kA BK230.out)) : gb274 ≠ gb230)); replace BK230 := Aside0.mk (blk_below (kA BK230.out) hb); clear hb hbox hg; obtain ⟨Ao26, co26, eo26⟩ := Kd.R_slice HO257.out; subst eo26; have hnb27 := NB274_230.out; have hnc27 := NB230_274.out; obtain ⟨hcz28_0, hcz28_1, hcz28_2, hcz28_3, hcz28_4, hcz28_5, hcz28_6, hcz28_7, hcz28_8, hfz28_0, hfz28_1, hfz28_2, hfz28_3, hfz28_4, hfz28_5, hfz28_6, hfz28_7, hfz28_8⟩ := cz9 BK274.out; obtain ⟨Ao29, co29, eo29⟩ := Kd.R_slice HO260.out; subst eo29; obtain ⟨Ao30, co30, eo30⟩ := Kd.R_slice HO263.out; subst eo30; obtain ⟨Ao31, co31, eo31⟩ := Kd.R_slice HO266.out; subst eo31; obtain ⟨Ao32, co32, eo32⟩ := Kd.R_slice HO269.out; subst eo32) | ((with_reducible refine gate_callee (f := 35) rfl ?_); refine gL (some 29) Try.func35 #[.agg #[.slice Ao26 t255.length co26, .slice Ao29 t258.length co29, .slice Ao30 t261.length co30, .slice Ao31 t264.length co31, .slice Ao32 t267.length co32, .int .i64 t270, .int .i64 t271, .int .i64 t272, .int .i64 t273]] ?_; (with_reducible refine (impl_Contributions.calls k _ _ t255 _ _ t258 _ _ t261 _ _ t264 _ _ t267 t270 t271 t272 t273 t275 t278 _ ?side1 ?side2 ?side3 ?side4 ?side5 ?side6 ?side7 ?side8 ?side9 ?side10 A10.out).mono ?_); (case side1 => refine (Kd.R_reads' (e := 2) (base := w.heap.size) (ok := fun k_ => (((((some k_ ≠ (.slice Ao29 t258.length co29 : Value).ownBlock ∧ some k_ ≠ (.slice Ao30 t261.length co30 : Value).ownBlock) ∧ some k_ ≠ (.slice Ao17 t232.length co17 : Value).ownBlock) ∧ some k_ ≠ (.slice Ao18 t235.length co18 : Value).ownBlock) ∧ some k_ ≠ (.slice Ao19 t238.length co19 : Value).ownBlock) ∧ some k_ ≠ (v252 : Value).ownBlock)) (n := t255.length) (c := co26) ?_).2.2; exact (rA (rF9 HO257.out BK274.out))); (case side2 => exact (Kd.R_reads' HO257.out).2.1); (case side3 => refine (Kd.R_reads' (e := 2) (base := w.heap.size) (ok := fun k_ => (((((some k_ ≠ (.slice Ao26 t255.length co26 : Value).ownBlock ∧ some k_ ≠ (.slice Ao30 t261.length co30 : Value).ownBlock) ∧ some k_ ≠ (.slice Ao17 t232.length co17 : Value).ownBlock) ∧ some k_ ≠ (.slice Ao18 t235.length co18 : Value).ownBlock) ∧ some k_ ≠ (.slice Ao19 t238.length co19 : Value).ownBlock) ∧ some k_ ≠ (v252 : Value).ownBlock)) (n := t258.length) (c := co29) ?_).2.2; exact (rA (rF9 HO260.out BK274.out))); (case side4 => exact (Kd.R_reads' HO260.out).2.1); (case side5 => refine (Kd.R_reads' (e := 2) (base := w.heap.size) (ok := fun k_ => (((((some k_ ≠ (.slice Ao26 t255.length co26 : Value).ownBlock ∧ some k_ ≠ (.slice Ao29 t258.length co29 : Value).ownBlock) ∧ some k_ ≠ (.slice Ao17 t232.length co17 : Value).ownBlock) ∧ some k_ ≠ (.slice Ao18 t235.length co18 : Value).ownBlock) ∧ some k_ ≠ (.slice Ao19 t238.length co19 : Value).ownBlock) ∧ some k_ ≠ (v252 : Value).ownBlock)) (n := t261.length) (c := co30) ?_).2.2; exact (rA (rF9 HO263.out BK274.out))); (case side6 => exact (Kd.R_reads' HO263.out).2.1); (case side7 => refine (Kd.R_reads' (e := 4) (base := w.heap.size) (ok := fun k_ => ((some k_ ≠ (.slice Ao32 t267.length co32 : Value).ownBlock ∧ some k_ ≠ (.slice Ao20 t241.length co20 : Value).ownBlock) ∧ some k_ ≠ (.slice Ao21 t244.length co21 : Value).ownBlock)) (n := t264.length) (c := co31) ?_).2.2; exact (rA (rF9 HO266.out BK274.out))); (case side8 => exact (Kd.R_reads' HO266.out).2.1); (case side9 => refine (Kd.R_reads' (e := 4) (base := w.heap.size) (ok := fun k_ => ((some k_ ≠ (.slice Ao31 t264.length co31 : Value).ownBlock ∧ some k_ ≠ (.slice Ao20 t241.length co20 : Value).ownBlock) ∧ some k_ ≠ (.slice Ao21 t244.length co21 : Value).ownBlock)) (n := t267.length) (c := co32) ?_).2.2; exact (rA (rF9 HO269.out BK274.out))); (case side10 => exact (Kd.R_reads' HO269.out).2.1); rintro e w33 ⟨v276, rfl, ho0, hb⟩; refine ⟨_, rfl, ?_⟩; replace HO243 := Aside0.mk (Kd.R_below (rA (rF9 HO243.out BK274.out)) hb); replace HO246 := Aside0.mk (Kd.R_below (rA (rF9 HO246.out BK274.out)) hb); replace HO266 := Aside0.mk (Kd.R_below (rA (rF9 HO266.out BK274.out)) hb); replace HO269 := Aside0.mk (Kd.R_below (rA (rF9 HO269.out BK274.out)) hb); have HO277 := Aside0.mk (Kd.R_lower (Kd.R_new' (Kd.R_new' (Kd.R_new' (Kd.R_new' (Kd.R_new' (Kd.R_new' (Kd.R_new' ho0 (Kd.R_lt (rA (rF9 HO234.out BK274.out)))) (Kd.R_lt (rA (rF9 HO237.out BK274.out)))) (Kd.R_lt (rA (rF9 HO240.out BK274.out)))) (Kd.R_lt (rA (rF9 HO253.out BK274.out)))) (Kd.R_lt (rA (rF9 HO257.out BK274.out)))) (Kd.R_lt (rA (rF9 HO260.out BK274.out)))) (Kd.R_lt (rA (rF9 HO263.out BK274.out)))) (below_size (bA HB.out))); replace HO234 := Aside0.mk (Kd.R_elder' (rA (rF9 HO234.out BK274.out)) (Kd.R_base ho0) hb); replace HO237 := Aside0.mk (Kd.R_elder' (rA (rF9 HO237.out BK274.out)) (Kd.R_base ho0) hb); replace HO240 := Aside0.mk (Kd.R_elder' (rA (rF9 HO240.out BK274.out)) (Kd.R_base ho0) hb); replace HO253 := Aside0.mk (Kd.R_elder' (rA (rF9 HO253.out BK274.out)) (Kd.R_base ho0) hb); replace HO257 := Aside0.mk (Kd.R_elder' (rA (rF9 HO257.out BK274.out)) (Kd.R_base ho0) hb); replace HO260 := Aside0.mk (Kd.R_elder' (rA (rF9 HO260.out BK274.out)) (Kd.R_base ho0) hb); replace HO263 := Aside0.mk (Kd.R_elder' (rA (rF9 HO263.out BK274.out)) (Kd.R_base ho0) hb); replace BK230 := Aside0.mk (blk_below (g := gb230) (o := .cells #[.slice A0_0 l0_0.length c0_0, .slice A0_1 l0_1.length c0_1, .slice A0_2 l0_2.length c0_2, .slice A0_3 l0_3.length c0_3, .slice A0_4 l0_4.length c0_4, .int .i64 a0_5, .int .i64 a0_6, .int .i64 a0_7, .int .i64 a0_8] 25 (0, 0)) (by (with_reducible repeat (first | refine blk_drewN ?_ _ | refine blk_drew ?_ | refine blk_alloc ?_ _)); refine blk_far ?_ NB230_274.out _; (with_reducible repeat (first | refine blk_drewN ?_ _ | refine blk_drew ?_ | refine blk_alloc ?_ _)); refine blk_far ?_ NB230_274.out _; (with_reducible repeat (first | refine blk_drewN ?_ _ | refine blk_drew ?_ | refine blk_alloc ?_ _)); refine blk_far ?_ NB230_274.out _; (with_reducible repeat (first | refine blk_drewN ?_ _ | refine blk_drew ?_ | refine blk_alloc ?_ _)); refine blk_far ?_ NB230_274.out _; (with_reducible repeat (first | refine blk_drewN ?_ _ | refine blk_drew ?_ | refine blk_alloc ?_ _)); refine blk_far ?_ NB230_274.out _; (with_reducible repeat (first | refine blk_drewN ?_ _ | refine blk_drew ?_ | refine blk_alloc ?_ _)); refine blk_far ?_ NB230_274.out _; (with_reducible repeat (first | refine blk_drewN ?_ _ | refine blk_drew ?_ | refine blk_alloc ?_ _)); refine blk_far ?_ NB230_274.out _; (with_reducible repeat (first | refine blk_drewN ?_ _ | refine blk_drew ?_ | refine blk_alloc ?_ _)); refine blk_far ?_ NB230_274.out _; (with_reducible repeat (first | refine blk_drewN ?_ _ | refine blk_drew ?_ | refine blk_alloc ?_ _)); refine blk_far ?_ NB230_274.out _; (with_reducible repeat (first | refine blk_drewN ?_ _ | refine blk_drew ?_ | refine blk_alloc ?_ _)); exact BK230.out) hb); replace BK274 := Aside0.mk (blk_below (g := gb274) (o := .cells #[.slice Ao26 t255.length co26, .slice Ao29 t258.length co29, .slice Ao30 t261.length co30, .slice Ao31 t264.length co31, .slice Ao32 t267.length co32, .int .i64 t270, .int .i64 t271, .int .i64 t272, .int .i64 t273] 28 (0, 0)) (by (with_reducible repeat (first | refine blk_drewN ?_ _ | refine blk_drew ?_ | refine blk_alloc ?_ _)); refine blk_put (cs := #[.slice Ao26 t255.length co26, .slice Ao29 t258.length co29, .slice Ao30 t261.length co30, .slice Ao31 t264.length co31, .slice Ao32 t267.length co32, .int .i64 t270, .int .i64 t271, .int .i64 t272, .int .i64 0]) ?_ 8 _ rfl; (with_reducible repeat (first | refine blk_drewN ?_ _ | refine blk_drew ?_ | refine blk_alloc ?_ _)); refine blk_put (cs := #[.slice Ao26 t255.length co26, .slice Ao29 t258.length co29, .slice Ao30 t261.length co30, .slice Ao31 t264.length co31, .slice Ao32 t267.length co32, .int .i64 t270, .int .i64 t271, .int .i64 0, .int .i64 0]) ?_ 7 _ rfl; (with_reducible repeat (first | refine blk_drewN ?_ _ | refine blk_drew ?_ | refine blk_alloc ?_ _)); refine blk_put (cs := #[.slice Ao26 t255.length co26, .slice Ao29 t258.length co29, .slice Ao30 t261.length co30, .slice Ao31 t264.length co31, .slice Ao32 t267.length co32, .int .i64 t270, .int .i64 0, .int .i64 0, .int .i64 0]) ?_ 6 _ rfl; (with_reducible repeat (first | refine blk_drewN ?_ _ | refine blk_drew ?_ | refine blk_alloc ?_ _)); refine blk_put (cs := #[.slice Ao26 t255.length co26, .slice Ao29 t258.length co29, .slice Ao30 t261.length co30, .slice Ao31 t264.length co31, .slice Ao32 t267.length co32, .int .i64 0, .int .i64 0, .int .i64 0, .int .i64 0]) ?_ 5 _ rfl; (with_reducible repeat (first | refine blk_drewN ?_ _ | refine blk_drew ?_ | refine blk_alloc ?_ _)); refine blk_put (cs := #[.slice Ao26 t255.length co26, .slice Ao29 t258.length co29, .slice Ao30 t261.length co30, .slice Ao31 t264.length co31, .slice none 0 0, .int .i64 0, .int .i64 0, .int .i64 0, .int .i64 0]) ?_ 4 _ rfl; (with_reducible repeat (first | refine blk_drewN ?_ _ | refine blk_drew ?_ | refine blk_alloc ?_ _)); refine blk_put (cs := #[.slice Ao26 t255.length co26, .slice Ao29 t258.length co29, .slice Ao30 t261.length co30, .slice none 0 0, .slice none 0 0, .int .i64 0, .int .i64 0, .int .i64 0, .int .i64 0]) ?_ 3 _ rfl; (with_reducible repeat (first | refine blk_drewN ?_ _ | refine blk_drew ?_ | refine blk_alloc ?_ _)); refine blk_put (cs := #[.slice Ao26 t255.length co26, .slice Ao29 t258.length co29, .slice none 0 0, .slice none 0 0, .slice none 0 0, .int .i64 0, .int .i64 0, .int .i64 0, .int .i64 0]) ?_ 2 _ rfl; (with_reducible repeat (first | refine blk_drewN ?_ _ | refine blk_drew ?_ | refine blk_alloc ?_ _)); refine blk_put (cs := #[.slice Ao26 t255.length co26, .slice none 0 0, .slice none 0 0, .slice none 0 0, .slice none 0 0, .int .i64 0, .int .i64 0, .int .i64 0, .int .i64 0]) ?_ 1 _ rfl; (with_reducible repeat (first | refine blk_drewN ?_ _ | refine blk_drew ?_ | refine blk_alloc ?_ _)); refine blk_put (cs := #[.slice none 0 0, .slice none 0 0, .slice none 0 0, .slice none 0 0, .slice none 0 0, .int .i64 0, .int .i64 0, .int .i64 0, .int .i64 0]) ?_ 0 _ rfl; (with_reducible repeat (first | refine blk_drewN ?_ _ | refine blk_drew ?_ | refine blk_alloc ?_ _)); exact BK274.out) hb); replace HB := Aside0.mk (below_step (bA HB.out) hb); (try clear hb); (try clear ho0)))
  (try simp only [Act.put, List.setIfInBounds_toArray, List.set_cons_zero, List.set_cons_succ])
  go_cut [40] (fun v40 wc => ∃ (kq : Nat) (x40_10 : Bool), v40 = .bool x40_10 ∧ Aside0 (laws_FnExactContributions.j0 kq t251 t254 t275 t278 x40_10 l0_0 l0_1 l0_2 l0_3 l0_4 a0_5 a0_6 a0_7 a0_8 t255 t258 t261 t264 t267 t270 t271 t272 t273 = some r) ∧ Aside0 (kq ≤ k) ∧ Aside0 (Kd.R (Kd.int .i64) 2 wc w.heap.size (fun k_ => some k_ ≠ (v276 : Value).ownBlock ∧ some k_ ≠ ((.slice Ao26 t255.length co26) : Value).ownBlock ∧ some k_ ≠ ((.slice Ao29 t258.length co29) : Value).ownBlock ∧ some k_ ≠ ((.slice Ao30 t261.length co30) : Value).ownBlock) v252 t251) ∧ Aside0 (Kd.R (Kd.int .i64) 2 wc w.heap.size (fun k_ => some k_ ≠ (v252 : Value).ownBlock ∧ some k_ ≠ ((.slice Ao26 t255.length co26) : Value).ownBlock ∧ some k_ ≠ ((.slice Ao29 t258.length co29) : Value).ownBlock ∧ some k_ ≠ ((.slice Ao30 t261.length co30) : Value).ownBlock) v276 t275) ∧ Aside0 (Kd.R (Kd.int .i64) 2 wc w.heap.size (fun k_ => some k_ ≠ (v252 : Value).ownBlock ∧ some k_ ≠ (v276 : Value).ownBlock ∧ some k_ ≠ ((.slice Ao29 t258.length co29) : Value).ownBlock ∧ some k_ ≠ ((.slice Ao30 t261.length co30) : Value).ownBlock) (.slice Ao26 t255.length co26) t255) ∧ Aside0 (Kd.R (Kd.int .i64) 2 wc w.heap.size (fun k_ => some k_ ≠ (v252 : Value).ownBlock ∧ some k_ ≠ (v276 : Value).ownBlock ∧ some k_ ≠ ((.slice Ao26 t255.length co26) : Value).ownBlock ∧ some k_ ≠ ((.slice Ao30 t261.length co30) : Value).ownBlock) (.slice Ao29 t258.length co29) t258) ∧ Aside0 (Kd.R (Kd.int .i64) 2 wc w.heap.size (fun k_ => some k_ ≠ (v252 : Value).ownBlock ∧ some k_ ≠ (v276 : Value).ownBlock ∧ some k_ ≠ ((.slice Ao26 t255.length co26) : Value).ownBlock ∧ some k_ ≠ ((.slice Ao29 t258.length co29) : Value).ownBlock) (.slice Ao30 t261.length co30) t261) ∧ Aside0 (Kd.R Kd.bool 4 wc w.heap.size (fun k_ => some k_ ≠ ((.slice Ao32 t267.length co32) : Value).ownBlock) (.slice Ao31 t264.length co31) t264) ∧ Aside0 (Kd.R Kd.bool 4 wc w.heap.size (fun k_ => some k_ ≠ ((.slice Ao31 t264.length co31) : Value).ownBlock) (.slice Ao32 t267.length co32) t267) ∧ Aside0 (wc.heap[gb230]? = some (.cells #[(.slice A0_0 l0_0.length c0_0), (.slice A0_1 l0_1.length c0_1), (.slice A0_2 l0_2.length c0_2), (.slice A0_3 l0_3.length c0_3), (.slice A0_4 l0_4.length c0_4), .int .i64 a0_5, .int .i64 a0_6, .int .i64 a0_7, .int .i64 a0_8] 25 (0, 0))) ∧ Aside0 (wc.heap[gb274]? = some (.cells #[(.slice Ao26 t255.length co26), (.slice Ao29 t258.length co29), (.slice Ao30 t261.length co30), (.slice Ao31 t264.length co31), (.slice Ao32 t267.length co32), .int .i64 t270, .int .i64 t271, .int .i64 t272, .int .i64 t273] 28 (0, 0))) ∧ Aside0 (Below w.heap.size w wc))
  case first =>
   have H := HC11.out
   clear HC11
   obtain ⟨t279, A340, H⟩ := Option.bind_eq_some_iff.mp H
   try dsimp only at H
   have A34 := Aside0.mk A340
   clear A340
   by_cases c35 : t279 = true
   ·subst c35
    rw [if_pos rfl] at H
    try dsimp only at H
    have H' := Aside0.mk H
    clear H
    obtain ⟨Ao36, co36, eo36⟩ := Kd.R_slice HO277.out
    subst eo36
    obtain ⟨Ao37, co37, eo37⟩ := Kd.R_slice HO253.out
    subst eo37
    go_wp2_with (first | ((with_reducible refine gate_callee (f := 30) rfl ?_); refine gL (some 34) Try.func30 #[.slice Ao36 t275.length co36, .slice Ao37 t251.length co37] ?_; (with_reducible refine (laws_eqInt64S.calls k _ _ t275 _ _ t251 true _ ?side1 ?side2 ?side3 ?side4 A34.out).mono ?_); (case side1 => exact cA ((Kd.R_reads' HO277.out).2.2)); (case side2 => exact (Kd.R_reads' HO277.out).2.1); (case side3 => exact cA ((Kd.R_reads' HO253.out).2.2)); (case side4 => exact (Kd.R_reads' HO253.out).2.1); rintro e w' ⟨rfl, ⟨nd, rfl⟩⟩; refine ⟨_, rfl, ?_⟩))
    go_meet
    case rel => exact ⟨_, ((t278 != t254)), (by first | rfl | (simp; done) | (simp [*]; done)), H', ⟨by first | omega | exact Nat.le_refl _⟩, ⟨by (with_reducible repeat (first | apply Kd.R_alloc | apply Kd.R_drewN | apply Kd.R_drew)); exact Kd.R_mono HO253.out (fun _ hk => ⟨hk.2, ⟨hk.1.1.1.2, ⟨hk.1.1.2, hk.1.2⟩⟩⟩)⟩, ⟨by (with_reducible repeat (first | apply Kd.R_alloc | apply Kd.R_drewN | apply Kd.R_drew)); exact Kd.R_mono HO277.out (fun _ hk => ⟨hk.1.1.1.2, ⟨hk.1.1.2, ⟨hk.1.2, hk.2⟩⟩⟩)⟩, ⟨by (with_reducible repeat (first | apply Kd.R_alloc | apply Kd.R_drewN | apply Kd.R_drew)); exact Kd.R_mono HO257.out (fun _ hk => ⟨hk.1.2, ⟨hk.2, ⟨hk.1.1.1.1.1.1, hk.1.1.1.1.1.2⟩⟩⟩)⟩, ⟨by (with_reducible repeat (first | apply Kd.R_alloc | apply Kd.R_drewN | apply Kd.R_drew)); exact Kd.R_mono HO260.out (fun _ hk => ⟨hk.1.2, ⟨hk.2, ⟨hk.1.1.1.1.1.1, hk.1.1.1.1.1.2⟩⟩⟩)⟩, ⟨by (with_reducible repeat (first | apply Kd.R_alloc | apply Kd.R_drewN | apply Kd.R_drew)); exact Kd.R_mono HO263.out (fun _ hk => ⟨hk.1.2, ⟨hk.2, ⟨hk.1.1.1.1.1.1, hk.1.1.1.1.1.2⟩⟩⟩)⟩, ⟨by (with_reducible repeat (first | apply Kd.R_alloc | apply Kd.R_drewN | apply Kd.R_drew)); exact Kd.R_mono HO266.out (fun _ hk => hk.1.1)⟩, ⟨by (with_reducible repeat (first | apply Kd.R_alloc | apply Kd.R_drewN | apply Kd.R_drew)); exact Kd.R_mono HO269.out (fun _ hk => hk.1.1)⟩, ⟨by (with_reducible repeat (first | refine blk_drewN ?_ _ | refine blk_drew ?_ | refine blk_alloc ?_ _)); exact BK230.out⟩, ⟨by (with_reducible repeat (first | refine blk_drewN ?_ _ | refine blk_drew ?_ | refine blk_alloc ?_ _)); exact BK274.out⟩, ⟨bA HB.out⟩⟩
   ·replace c35 := Bool.eq_false_iff.mpr c35
    subst c35
    rw [if_neg (show ¬ (false = true) by decide)] at H
    try dsimp only at H
    have H' := Aside0.mk H
    clear H
    obtain ⟨Ao38, co38, eo38⟩ := Kd.R_slice HO277.out
    subst eo38
    obtain ⟨Ao39, co39, eo39⟩ := Kd.R_slice HO253.out
    subst eo39
    go_wp2_with (first | ((with_reducible refine gate_callee (f := 30) rfl ?_); refine gL (some 34) Try.func30 #[.slice Ao38 t275.length co38, .slice Ao39 t251.length co39] ?_; (with_reducible refine (laws_eqInt64S.calls k _ _ t275 _ _ t251 false _ ?side1 ?side2 ?side3 ?side4 A34.out).mono ?_); (case side1 => exact cA ((Kd.R_reads' HO277.out).2.2)); (case side2 => exact (Kd.R_reads' HO277.out).2.1); (case side3 => exact cA ((Kd.R_reads' HO253.out).2.2)); (case side4 => exact (Kd.R_reads' HO253.out).2.1); rintro e w' ⟨rfl, ⟨nd, rfl⟩⟩; refine ⟨_, rfl, ?_⟩))
    go_meet
    case rel => exact ⟨_, (true), (by first | rfl | (simp; done) | (simp [*]; done)), H', ⟨by first | omega | exact Nat.le_refl _⟩, ⟨by (with_reducible repeat (first | apply Kd.R_alloc | apply Kd.R_drewN | apply Kd.R_drew)); exact Kd.R_mono HO253.out (fun _ hk => ⟨hk.2, ⟨hk.1.1.1.2, ⟨hk.1.1.2, hk.1.2⟩⟩⟩)⟩, ⟨by (with_reducible repeat (first | apply Kd.R_alloc | apply Kd.R_drewN | apply Kd.R_drew)); exact Kd.R_mono HO277.out (fun _ hk => ⟨hk.1.1.1.2, ⟨hk.1.1.2, ⟨hk.1.2, hk.2⟩⟩⟩)⟩, ⟨by (with_reducible repeat (first | apply Kd.R_alloc | apply Kd.R_drewN | apply Kd.R_drew)); exact Kd.R_mono HO257.out (fun _ hk => ⟨hk.1.2, ⟨hk.2, ⟨hk.1.1.1.1.1.1, hk.1.1.1.1.1.2⟩⟩⟩)⟩, ⟨by (with_reducible repeat (first | apply Kd.R_alloc | apply Kd.R_drewN | apply Kd.R_drew)); exact Kd.R_mono HO260.out (fun _ hk => ⟨hk.1.2, ⟨hk.2, ⟨hk.1.1.1.1.1.1, hk.1.1.1.1.1.2⟩⟩⟩)⟩, ⟨by (with_reducible repeat (first | apply Kd.R_alloc | apply Kd.R_drewN | apply Kd.R_drew)); exact Kd.R_mono HO263.out (fun _ hk => ⟨hk.1.2, ⟨hk.2, ⟨hk.1.1.1.1.1.1, hk.1.1.1.1.1.2⟩⟩⟩)⟩, ⟨by (with_reducible repeat (first | apply Kd.R_alloc | apply Kd.R_drewN | apply Kd.R_drew)); exact Kd.R_mono HO266.out (fun _ hk => hk.1.1)⟩, ⟨by (with_reducible repeat (first | apply Kd.R_alloc | apply Kd.R_drewN | apply Kd.R_drew)); exact Kd.R_mono HO269.out (fun _ hk => hk.1.1)⟩, ⟨by (with_reducible repeat (first | refine blk_drewN ?_ _ | refine blk_drew ?_ | refine blk_alloc ?_ _)); exact BK230.out⟩, ⟨by (with_reducible repeat (first | refine blk_drewN ?_ _ | refine blk_drew ?_ | refine blk_alloc ?_ _)); exact BK274.out⟩, ⟨bA HB.out⟩⟩
  case rest =>
   clear HC11
   try clear c1
   try clear c2
   try clear p2
   try clear c3
   try clear c3b0
   try clear c9
   try clear c15
   try clear c17
   try clear c27
   try clear c30
   try clear c34
   try clear c35
   try clear hcz13_0 hcz13_1 hcz13_2 hcz13_3 hcz13_4 hcz13_5 hcz13_6 hcz13_7 hcz13_8
   try clear hcz15_0 hcz15_1 hcz15_2 hcz15_3 hcz15_4 hcz15_5 hcz15_6 hcz15_7 hcz15_8
   try clear hcz23_0 hcz23_1 hcz23_2 hcz23_3 hcz23_4 hcz23_5 hcz23_6 hcz23_7 hcz23_8
   try clear hcz28_0 hcz28_1 hcz28_2 hcz28_3 hcz28_4 hcz28_5 hcz28_6 hcz28_7 hcz28_8
   try clear hcz5_0 hcz5_1 hcz5_2 hcz5_3 hcz5_4 hcz5_5 hcz5_6 hcz5_7 hcz5_8
   try clear hfz13_0 hfz13_1 hfz13_2 hfz13_3 hfz13_4 hfz13_5 hfz13_6 hfz13_7 hfz13_8
   try clear hfz15_0 hfz15_1 hfz15_2 hfz15_3 hfz15_4 hfz15_5 hfz15_6 hfz15_7 hfz15_8
   try clear hfz23_0 hfz23_1 hfz23_2 hfz23_3 hfz23_4 hfz23_5 hfz23_6 hfz23_7 hfz23_8
   try clear hfz28_0 hfz28_1 hfz28_2 hfz28_3 hfz28_4 hfz28_5 hfz28_6 hfz28_7 hfz28_8
   try clear hfz5_0 hfz5_1 hfz5_2 hfz5_3 hfz5_4 hfz5_5 hfz5_6 hfz5_7 hfz5_8
   obtain ⟨kq, x40_10, rfl, HA, HJ10, HO_4, HO_7, HO_275000, HO_275001, HO_275002, HO_275003, HO_275004, BK230, BK274, HB⟩ := hcut
   cases kq with
   | zero => exact absurd HA.out (by simp [laws_FnExactContributions.j0])
   | succ kj10 =>
    have H := HA.out
    clear HA
    simp only [laws_FnExactContributions.j0] at H
    by_cases c40 : x40_10 = true
    ·subst c40
     rw [if_pos rfl] at H
     try dsimp only at H
     exact absurd H (by simp)
    ·replace c40 := Bool.eq_false_iff.mpr c40
     subst c40
     rw [if_neg (show ¬ (false = true) by decide)] at H
     try dsimp only at H
     obtain ⟨⟨t280, t283, t286, t289, t292, t295, t296, t297, t298⟩, A410, H⟩ := Option.bind_eq_some_iff.mp H
     try dsimp only at H
     have A41 := Aside0.mk A410
     clear A410
     obtain ⟨t299, A420, H⟩ := Option.bind_eq_some_iff.mp H
     try dsimp only at H
     have A42 := Aside0.mk A420
     clear A420
     by_cases c43 : t299 = true
     ·subst c43
      rw [if_pos rfl] at H
      try dsimp only at H
      obtain ⟨⟨t300, t301, t302, t303, t304, t305⟩, A440, H⟩ := Option.bind_eq_some_iff.mp H
      try dsimp only at H
      have A44 := Aside0.mk A440
      clear A440
      have HC45 := Aside0.mk H
      clear H
      try go_wp2
      replace HO_4 := Aside0.mk (Kd.R_drew HO_4.out)
      replace HO_7 := Aside0.mk (Kd.R_drew HO_7.out)
      replace HO_275000 := Aside0.mk (Kd.R_drew HO_275000.out)
      replace HO_275001 := Aside0.mk (Kd.R_drew HO_275001.out)
      replace HO_275002 := Aside0.mk (Kd.R_drew HO_275002.out)
      replace HO_275003 := Aside0.mk (Kd.R_drew HO_275003.out)
      replace HO_275004 := Aside0.mk (Kd.R_drew HO_275004.out)
      replace BK230 := Aside0.mk (blk_drew BK230.out)
      replace BK274 := Aside0.mk (blk_drew BK274.out)
      replace HB := Aside0.mk (below_drew1 HB.out)
      refine start_ (n := 5) (S := fun w' => w'.cell? ⟨gb274, 0, none⟩ = some (.slice Ao26 t255.length co26) ∧ w'.cell? ⟨gb274, 1, none⟩ = some (.slice Ao29 t258.length co29) ∧ w'.cell? ⟨gb274, 2, none⟩ = some (.slice Ao30 t261.length co30) ∧ w'.cell? ⟨gb274, 3, none⟩ = some (.slice Ao31 t264.length co31) ∧ w'.cell? ⟨gb274, 4, none⟩ = some (.slice Ao32 t267.length co32) ∧ w'.cell? ⟨gb274, 5, none⟩ = some (.int .i64 t270) ∧ w'.cell? ⟨gb274, 6, none⟩ = some (.int .i64 t271) ∧ w'.cell? ⟨gb274, 7, none⟩ = some (.int .i64 t272) ∧ w'.cell? ⟨gb274, 8, none⟩ = some (.int .i64 t273) ∧ w'.cell? ⟨gb230, 0, none⟩ = some (.slice A0_0 l0_0.length c0_0) ∧ w'.cell? ⟨gb230, 1, none⟩ = some (.slice A0_1 l0_1.length c0_1) ∧ w'.cell? ⟨gb230, 2, none⟩ = some (.slice A0_2 l0_2.length c0_2) ∧ w'.cell? ⟨gb230, 3, none⟩ = some (.slice A0_3 l0_3.length c0_3) ∧ w'.cell? ⟨gb230, 4, none⟩ = some (.slice A0_4 l0_4.length c0_4) ∧ w'.cell? ⟨gb230, 5, none⟩ = some (.int .i64 a0_5) ∧ w'.cell? ⟨gb230, 6, none⟩ = some (.int .i64 a0_6) ∧ w'.cell? ⟨gb230, 7, none⟩ = some (.int .i64 a0_7) ∧ w'.cell? ⟨gb230, 8, none⟩ = some (.int .i64 a0_8)) (ds := []) #[false, false, false, false, false] (by kernel_rfl) rfl rfl ⟨(blk_cell BK274.out 0).trans rfl, (blk_cell BK274.out 1).trans rfl, (blk_cell BK274.out 2).trans rfl, (blk_cell BK274.out 3).trans rfl, (blk_cell BK274.out 4).trans rfl, (blk_cell BK274.out 5).trans rfl, (blk_cell BK274.out 6).trans rfl, (blk_cell BK274.out 7).trans rfl, (blk_cell BK274.out 8).trans rfl, (blk_cell BK230.out 0).trans rfl, (blk_cell BK230.out 1).trans rfl, (blk_cell BK230.out 2).trans rfl, (blk_cell BK230.out 3).trans rfl, (blk_cell BK230.out 4).trans rfl, (blk_cell BK230.out 5).trans rfl, (blk_cell BK230.out 6).trans rfl, (blk_cell BK230.out 7).trans rfl, (blk_cell BK230.out 8).trans rfl⟩ (fun hHeld => ?_)
      generalize wc.drew = w46 at HO_4 HO_7 HO_275000 HO_275001 HO_275002 HO_275003 HO_275004 BK230 BK274 HB hHeld ⊢
      refine take_ (i := 0) (N := some 41) (v := ?_) (a' := ?_) #[true, false, false, false, false] rfl rfl (by kernel_rfl) (fun _ _ _ h => h) (Or.inl ⟨by rfl, ?_⟩) hHeld ?_ ?_
      rotate_left
      ·rintro w' ⟨s0, s1, s2, s3, s4, s5, s6, s7, s8, s9, s10, s11, s12, s13, s14, s15, s16, s17⟩
       go_simp
       with_reducible rfl
      rotate_left
      ·simp only [Act.put, List.setIfInBounds_toArray, List.set_cons_zero, List.set_cons_succ, i64_w, i32_w]
       rfl
      refine take_ (i := 1) (N := some 42) (v := ?_) (a' := ?_) #[true, true, false, false, false] rfl rfl (by kernel_rfl) (fun _ _ _ h => h) (Or.inl ⟨by rfl, ?_⟩) hHeld ?_ ?_
      rotate_left
      ·rintro w' ⟨s0, s1, s2, s3, s4, s5, s6, s7, s8, s9, s10, s11, s12, s13, s14, s15, s16, s17⟩
       go_simp
       with_reducible rfl
      rotate_left
      ·simp only [Act.put, List.setIfInBounds_toArray, List.set_cons_zero, List.set_cons_succ, i64_w, i32_w]
       rfl
      refine one_ (i := 2) (N := some 43) #[true, true, true, false, false] rfl rfl (by kernel_rfl) (by decide) (fun K hK => ?_)
      refine gO Try.func17 #[.agg #[.slice A0_0 l0_0.length c0_0, .slice A0_1 l0_1.length c0_1, .slice A0_2 l0_2.length c0_2, .slice A0_3 l0_3.length c0_3, .slice A0_4 l0_4.length c0_4, .int .i64 a0_5, .int .i64 a0_6, .int .i64 a0_7, .int .i64 a0_8]] ?_
      with_reducible refine (laws_toBetting.calls kj10 _ _ l0_0 _ _ l0_1 _ _ l0_2 _ _ l0_3 _ _ l0_4 a0_5 a0_6 a0_7 a0_8 t280 t283 t286 t289 t292 t295 t296 t297 t298 _ ?side1 ?side2 ?side3 ?side4 ?side5 ?side6 ?side7 ?side8 ?side9 ?side10 A41.out).mono ?_
      (case side1 => exact cA (Kd.C_below HR0_0.out HB.out))
      (case side2 => exact HC0_0.out)
      (case side3 => exact cA (Kd.C_below HR0_1.out HB.out))
      (case side4 => exact HC0_1.out)
      (case side5 => exact cA (Kd.C_below HR0_2.out HB.out))
      (case side6 => exact HC0_2.out)
      (case side7 => exact cA (Kd.C_below HR0_3.out HB.out))
      (case side8 => exact HC0_3.out)
      (case side9 => exact cA (Kd.C_below HR0_4.out HB.out))
      (case side10 => exact HC0_4.out)
      rintro e w47 ⟨v281, v284, v287, v290, v293, rfl, ho0, ho1, ho2, ho3, ho4, hb⟩
      refine ⟨_, rfl, ?_⟩
      have HO282 := Aside0.mk (Kd.R_lower (Kd.R_new' (Kd.R_new' (Kd.R_new' (Kd.R_new' (Kd.R_new' ho0 (Kd.R_lt (rA HO_4.out))) (Kd.R_lt (rA HO_7.out))) (Kd.R_lt (rA HO_275000.out))) (Kd.R_lt (rA HO_275001.out))) (Kd.R_lt (rA HO_275002.out))) (below_size (bA HB.out)))
      have HO285 := Aside0.mk (Kd.R_lower (Kd.R_new' (Kd.R_new' (Kd.R_new' (Kd.R_new' (Kd.R_new' ho1 (Kd.R_lt (rA HO_4.out))) (Kd.R_lt (rA HO_7.out))) (Kd.R_lt (rA HO_275000.out))) (Kd.R_lt (rA HO_275001.out))) (Kd.R_lt (rA HO_275002.out))) (below_size (bA HB.out)))
      have HO288 := Aside0.mk (Kd.R_lower (Kd.R_new' (Kd.R_new' (Kd.R_new' (Kd.R_new' (Kd.R_new' ho2 (Kd.R_lt (rA HO_4.out))) (Kd.R_lt (rA HO_7.out))) (Kd.R_lt (rA HO_275000.out))) (Kd.R_lt (rA HO_275001.out))) (Kd.R_lt (rA HO_275002.out))) (below_size (bA HB.out)))
      replace HO_4 := Aside0.mk (Kd.R_mono (Kd.R_told (Kd.R_told (Kd.R_told (Kd.R_old (rA HO_4.out) hb) (Kd.R_base ho0)) (Kd.R_base ho1)) (Kd.R_base ho2)) (fun _ h_ => h_.1))
      replace HO_7 := Aside0.mk (Kd.R_mono (Kd.R_told (Kd.R_told (Kd.R_told (Kd.R_old (rA HO_7.out) hb) (Kd.R_base ho0)) (Kd.R_base ho1)) (Kd.R_base ho2)) (fun _ h_ => h_.1))
      replace HO_275000 := Aside0.mk (Kd.R_mono (Kd.R_told (Kd.R_told (Kd.R_told (Kd.R_old (rA HO_275000.out) hb) (Kd.R_base ho0)) (Kd.R_base ho1)) (Kd.R_base ho2)) (fun _ h_ => h_.1))
      replace HO_275001 := Aside0.mk (Kd.R_mono (Kd.R_told (Kd.R_told (Kd.R_told (Kd.R_old (rA HO_275001.out) hb) (Kd.R_base ho0)) (Kd.R_base ho1)) (Kd.R_base ho2)) (fun _ h_ => h_.1))
      replace HO_275002 := Aside0.mk (Kd.R_mono (Kd.R_told (Kd.R_told (Kd.R_told (Kd.R_old (rA HO_275002.out) hb) (Kd.R_base ho0)) (Kd.R_base ho1)) (Kd.R_base ho2)) (fun _ h_ => h_.1))
      have HO291 := Aside0.mk (Kd.R_lower (Kd.R_new' (Kd.R_new' ho3 (Kd.R_lt (rA HO_275003.out))) (Kd.R_lt (rA HO_275004.out))) (below_size (bA HB.out)))
      have HO294 := Aside0.mk (Kd.R_lower (Kd.R_new' (Kd.R_new' ho4 (Kd.R_lt (rA HO_275003.out))) (Kd.R_lt (rA HO_275004.out))) (below_size (bA HB.out)))
      replace HO_275003 := Aside0.mk (Kd.R_mono (Kd.R_told (Kd.R_told (Kd.R_old (rA HO_275003.out) hb) (Kd.R_base ho3)) (Kd.R_base ho4)) (fun _ h_ => h_.1))
      replace HO_275004 := Aside0.mk (Kd.R_mono (Kd.R_told (Kd.R_told (Kd.R_old (rA HO_275004.out) hb) (Kd.R_base ho3)) (Kd.R_base ho4)) (fun _ h_ => h_.1))
      replace BK230 := Aside0.mk (blk_below (kA BK230.out) hb)
      replace BK274 := Aside0.mk (blk_below (kA BK274.out) hb)
      replace HB := Aside0.mk (below_step (bA HB.out) hb)
      (try clear hb)
      (try clear ho0)
      (try clear ho1)
      (try clear ho2)
      (try clear ho3)
      (try clear ho4)
      obtain ⟨Ao48, co48, eo48⟩ := Kd.R_slice HO282.out
      (first | subst eo48 | (injection eo48 with f1_ f2_ f3_; have f4_ := f1_.symm; have f5_ := f3_.symm; clear f1_ f2_ f3_; subst f4_; subst f5_))
      obtain ⟨Ao49, co49, eo49⟩ := Kd.R_slice HO285.out
      (first | subst eo49 | (injection eo49 with f1_ f2_ f3_; have f4_ := f1_.symm; have f5_ := f3_.symm; clear f1_ f2_ f3_; subst f4_; subst f5_))
      obtain ⟨Ao50, co50, eo50⟩ := Kd.R_slice HO288.out
      (first | subst eo50 | (injection eo50 with f1_ f2_ f3_; have f4_ := f1_.symm; have f5_ := f3_.symm; clear f1_ f2_ f3_; subst f4_; subst f5_))
      obtain ⟨Ao51, co51, eo51⟩ := Kd.R_slice HO291.out
      (first | subst eo51 | (injection eo51 with f1_ f2_ f3_; have f4_ := f1_.symm; have f5_ := f3_.symm; clear f1_ f2_ f3_; subst f4_; subst f5_))
      obtain ⟨Ao52, co52, eo52⟩ := Kd.R_slice HO294.out
      (first | subst eo52 | (injection eo52 with f1_ f2_ f3_; have f4_ := f1_.symm; have f5_ := f3_.symm; clear f1_ f2_ f3_; subst f4_; subst f5_))
      refine hK.out _ _ ⟨(blk_cell BK274.out 0).trans rfl, (blk_cell BK274.out 1).trans rfl, (blk_cell BK274.out 2).trans rfl, (blk_cell BK274.out 3).trans rfl, (blk_cell BK274.out 4).trans rfl, (blk_cell BK274.out 5).trans rfl, (blk_cell BK274.out 6).trans rfl, (blk_cell BK274.out 7).trans rfl, (blk_cell BK274.out 8).trans rfl, (blk_cell BK230.out 0).trans rfl, (blk_cell BK230.out 1).trans rfl, (blk_cell BK230.out 2).trans rfl, (blk_cell BK230.out 3).trans rfl, (blk_cell BK230.out 4).trans rfl, (blk_cell BK230.out 5).trans rfl, (blk_cell BK230.out 6).trans rfl, (blk_cell BK230.out 7).trans rfl, (blk_cell BK230.out 8).trans rfl⟩ (fun hHeld => ?_)
      clear hK K
      refine nO 43 ?_
      refine one_ (i := 3) (N := some 44) #[true, true, true, true, false] rfl rfl (by kernel_rfl) (by decide) (fun K hK => ?_)
      refine gO Try.func19 #[.agg #[.slice Ao26 t255.length co26, .slice Ao29 t258.length co29, .slice Ao30 t261.length co30, .slice Ao31 t264.length co31, .slice Ao32 t267.length co32, .int .i64 t270, .int .i64 t271, .int .i64 t272, .int .i64 t273], .agg #[.slice Ao48 t280.length co48, .slice Ao49 t283.length co49, .slice Ao50 t286.length co50, .slice Ao51 t289.length co51, .slice Ao52 t292.length co52, .int .i64 t295, .int .i64 t296, .int .i64 t297, .int .i64 t298]] ?_
      with_reducible refine (laws_eqBetting.calls kj10 _ _ t255 _ _ t258 _ _ t261 _ _ t264 _ _ t267 t270 t271 t272 t273 _ _ t280 _ _ t283 _ _ t286 _ _ t289 _ _ t292 t295 t296 t297 t298 true _ ?side1 ?side2 ?side3 ?side4 ?side5 ?side6 ?side7 ?side8 ?side9 ?side10 ?side11 ?side12 ?side13 ?side14 ?side15 ?side16 ?side17 ?side18 ?side19 ?side20 A42.out).mono ?_
      (case side1 => exact cA ((Kd.R_reads' HO_275000.out).2.2))
      (case side2 => exact (Kd.R_reads' HO_275000.out).2.1)
      (case side3 => exact cA ((Kd.R_reads' HO_275001.out).2.2))
      (case side4 => exact (Kd.R_reads' HO_275001.out).2.1)
      (case side5 => exact cA ((Kd.R_reads' HO_275002.out).2.2))
      (case side6 => exact (Kd.R_reads' HO_275002.out).2.1)
      (case side7 => exact cA ((Kd.R_reads' HO_275003.out).2.2))
      (case side8 => exact (Kd.R_reads' HO_275003.out).2.1)
      (case side9 => exact cA ((Kd.R_reads' HO_275004.out).2.2))
      (case side10 => exact (Kd.R_reads' HO_275004.out).2.1)
      (case side11 => exact cA ((Kd.R_reads' HO282.out).2.2))
      (case side12 => exact (Kd.R_reads' HO282.out).2.1)
      (case side13 => exact cA ((Kd.R_reads' HO285.out).2.2))
      (case side14 => exact (Kd.R_reads' HO285.out).2.1)
      (case side15 => exact cA ((Kd.R_reads' HO288.out).2.2))
      (case side16 => exact (Kd.R_reads' HO288.out).2.1)
      (case side17 => exact cA ((Kd.R_reads' HO291.out).2.2))
      (case side18 => exact (Kd.R_reads' HO291.out).2.1)
      (case side19 => exact cA ((Kd.R_reads' HO294.out).2.2))
      (case side20 => exact (Kd.R_reads' HO294.out).2.1)
      rintro e w53 ⟨rfl, hb⟩
      refine ⟨_, rfl, ?_⟩
      replace HO_4 := Aside0.mk (Kd.R_below (rA HO_4.out) hb)
      replace HO_7 := Aside0.mk (Kd.R_below (rA HO_7.out) hb)
      replace HO_275000 := Aside0.mk (Kd.R_below (rA HO_275000.out) hb)
      replace HO_275001 := Aside0.mk (Kd.R_below (rA HO_275001.out) hb)
      replace HO_275002 := Aside0.mk (Kd.R_below (rA HO_275002.out) hb)
      replace HO_275003 := Aside0.mk (Kd.R_below (rA HO_275003.out) hb)
      replace HO_275004 := Aside0.mk (Kd.R_below (rA HO_275004.out) hb)
      replace HO282 := Aside0.mk (Kd.R_below (rA HO282.out) hb)
      replace HO285 := Aside0.mk (Kd.R_below (rA HO285.out) hb)
      replace HO288 := Aside0.mk (Kd.R_below (rA HO288.out) hb)
      replace HO291 := Aside0.mk (Kd.R_below (rA HO291.out) hb)
      replace HO294 := Aside0.mk (Kd.R_below (rA HO294.out) hb)
      replace BK230 := Aside0.mk (blk_below (kA BK230.out) hb)
      replace BK274 := Aside0.mk (blk_below (kA BK274.out) hb)
      replace HB := Aside0.mk (below_step (bA HB.out) hb)
      (try clear hb)
      refine hK.out _ _ ⟨(blk_cell BK274.out 0).trans rfl, (blk_cell BK274.out 1).trans rfl, (blk_cell BK274.out 2).trans rfl, (blk_cell BK274.out 3).trans rfl, (blk_cell BK274.out 4).trans rfl, (blk_cell BK274.out 5).trans rfl, (blk_cell BK274.out 6).trans rfl, (blk_cell BK274.out 7).trans rfl, (blk_cell BK274.out 8).trans rfl, (blk_cell BK230.out 0).trans rfl, (blk_cell BK230.out 1).trans rfl, (blk_cell BK230.out 2).trans rfl, (blk_cell BK230.out 3).trans rfl, (blk_cell BK230.out 4).trans rfl, (blk_cell BK230.out 5).trans rfl, (blk_cell BK230.out 6).trans rfl, (blk_cell BK230.out 7).trans rfl, (blk_cell BK230.out 8).trans rfl⟩ (fun hHeld => ?_)
      clear hK K
      refine nO 44 ?_
      refine pure_ (i := 4) (N := some 45) (v := ?_) (a' := ?_) #[true, true, true, true, true] rfl rfl (by kernel_rfl) (fun _ _ _ h => h) (Or.inl ⟨by rfl, ?_⟩) ?_ ?_
      rotate_left
      ·intro w'
       go_simp
       with_reducible rfl
      rotate_left
      ·simp only [Act.put, List.setIfInBounds_toArray, List.set_cons_zero, List.set_cons_succ, i64_w, i32_w]
       rfl
      refine done_ (by kernel_rfl) ?_
      have hnb54 := NB274_230.out
      have hnc54 := NB230_274.out
      obtain ⟨hcz55_0, hcz55_1, hcz55_2, hcz55_3, hcz55_4, hcz55_5, hcz55_6, hcz55_7, hcz55_8, hfz55_0, hfz55_1, hfz55_2, hfz55_3, hfz55_4, hfz55_5, hfz55_6, hfz55_7, hfz55_8⟩ := cz9 BK274.out
      go_upto_region 14 with (first | ((with_reducible refine gate_callee (f := 31) rfl ?_); refine gL (some 48) Try.func31 #[.agg #[.slice Ao26 t255.length co26, .slice Ao29 t258.length co29, .slice Ao30 t261.length co30, .slice Ao31 t264.length co31, .slice Ao32 t267.length co32, .int .i64 t270, .int .i64 t271, .int .i64 t272, .int .i64 t273], .int .i64 1] ?_; (with_reducible refine (laws_markBetting.calls kj10 (fun k_ => some k_ = (.slice Ao26 t255.length co26 : Value).ownBlock) (.slice Ao26 t255.length co26) t255 (fun k_ => some k_ = (.slice Ao29 t258.length co29 : Value).ownBlock) (.slice Ao29 t258.length co29) t258 (fun k_ => some k_ = (.slice Ao30 t261.length co30 : Value).ownBlock) (.slice Ao30 t261.length co30) t261 (fun k_ => some k_ = (.slice Ao31 t264.length co31 : Value).ownBlock) (.slice Ao31 t264.length co31) t264 (fun k_ => some k_ = (.slice Ao32 t267.length co32 : Value).ownBlock) (.slice Ao32 t267.length co32) t267 t270 t271 t272 t273 1 t300 t301 t302 t303 t304 t305 w _ ?side1 ?side2 ?side3 ?side4 ?side5 ?side6 ?side7 ?side8 ?side9 ?side10 ?side11 ?side12 ?side13 ?side14 A44.out).mono ?_); (case side1 => repeat (first | (with_reducible first | exact HB.out | apply below_alloc | apply pw_below_drewN | apply below_drew1 | refine below_set ?_ GE230.out | refine below_set ?_ GE274.out) | exact HB.out)); (case side2 => exact Kd.R_tight rfl HO_275000.out); (case side3 => exact fun k_ e_ => (HO_275000.out.1 k_ e_.symm).1.1.1.2.2.1); (case side4 => exact fun k_ e_ => (HO_275000.out.1 k_ e_.symm).1.1.1.2.2.2); (case side5 => exact Kd.R_tight rfl HO_275001.out); (case side6 => exact fun k_ e_ => (HO_275001.out.1 k_ e_.symm).1.1.1.2.2.1); (case side7 => exact fun k_ e_ => (HO_275001.out.1 k_ e_.symm).1.1.1.2.2.2); (case side8 => exact Kd.R_tight rfl HO_275002.out); (case side9 => exact fun k_ e_ => (HO_275002.out.1 k_ e_.symm).1.1.1.2.2.1); (case side10 => exact fun k_ e_ => (HO_275002.out.1 k_ e_.symm).1.1.1.2.2.2); (case side11 => exact Kd.R_tight rfl HO_275003.out); (case side12 => exact fun k_ e_ => (HO_275003.out.1 k_ e_.symm).1.1); (case side13 => exact Kd.R_tight rfl HO_275004.out); (case side14 => exact fun k_ e_ => (HO_275004.out.1 k_ e_.symm).1.1); rintro e w56 ⟨rfl, hy0, hy1, hy2, hy3, hy4, hb, hkp⟩; refine ⟨_, rfl, ?_⟩; replace HO_4 := Aside0.mk (Kd.R_mono (ok' := fun k_ => some k_ ≠ (v276 : Value).ownBlock ∧ some k_ ≠ (.slice Ao26 t255.length co26 : Value).ownBlock ∧ some k_ ≠ (.slice Ao29 t258.length co29 : Value).ownBlock ∧ some k_ ≠ (.slice Ao30 t261.length co30 : Value).ownBlock ∧ some k_ ≠ (.slice Ao48 t280.length co48 : Value).ownBlock ∧ some k_ ≠ (.slice Ao49 t283.length co49 : Value).ownBlock ∧ some k_ ≠ (.slice Ao50 t286.length co50 : Value).ownBlock) (Kd.R_keptB ((Kd.R_apart' (Kd.R_apart' HO_4.out (Kd.R_typed HO_275003.out) (by decide)) (Kd.R_typed HO_275004.out) (by decide))) hkp (fun k_ hk_ hs_ => Or.elim hs_ (fun e_ => (hk_.1.1.1.1.1.2.1) e_) (fun e_ => Or.elim e_ (fun e_ => (hk_.1.1.1.1.1.2.2.1) e_) (fun e_ => Or.elim e_ (fun e_ => (hk_.1.1.1.1.1.2.2.2) e_) (fun e_ => Or.elim e_ (fun e_ => (hk_.1.2) e_) (fun e_ => (hk_.2) e_)))))) (fun k_ hk_ => ⟨hk_.1.1.1.1.1.1.1, hk_.1.1.1.1.1.1.2.1, hk_.1.1.1.1.1.1.2.2.1, hk_.1.1.1.1.1.1.2.2.2, hk_.1.1.1.1.1.2, hk_.1.1.1.1.2, hk_.1.1.1.2⟩)); replace HO_7 := Aside0.mk (Kd.R_mono (ok' := fun k_ => some k_ ≠ (v252 : Value).ownBlock ∧ some k_ ≠ (.slice Ao26 t255.length co26 : Value).ownBlock ∧ some k_ ≠ (.slice Ao29 t258.length co29 : Value).ownBlock ∧ some k_ ≠ (.slice Ao30 t261.length co30 : Value).ownBlock ∧ some k_ ≠ (.slice Ao48 t280.length co48 : Value).ownBlock ∧ some k_ ≠ (.slice Ao49 t283.length co49 : Value).ownBlock ∧ some k_ ≠ (.slice Ao50 t286.length co50 : Value).ownBlock) (Kd.R_keptB ((Kd.R_apart' (Kd.R_apart' HO_7.out (Kd.R_typed HO_275003.out) (by decide)) (Kd.R_typed HO_275004.out) (by decide))) hkp (fun k_ hk_ hs_ => Or.elim hs_ (fun e_ => (hk_.1.1.1.1.1.2.1) e_) (fun e_ => Or.elim e_ (fun e_ => (hk_.1.1.1.1.1.2.2.1) e_) (fun e_ => Or.elim e_ (fun e_ => (hk_.1.1.1.1.1.2.2.2) e_) (fun e_ => Or.elim e_ (fun e_ => (hk_.1.2) e_) (fun e_ => (hk_.2) e_)))))) (fun k_ hk_ => ⟨hk_.1.1.1.1.1.1.1, hk_.1.1.1.1.1.1.2.1, hk_.1.1.1.1.1.1.2.2.1, hk_.1.1.1.1.1.1.2.2.2, hk_.1.1.1.1.1.2, hk_.1.1.1.1.2, hk_.1.1.1.2⟩)); replace BK230 := Aside0.mk (blk_kept (kA BK230.out) hkp (fun hs_ => Or.elim hs_ (fun e_ => (fun e_ => (Kd.R_ne HO_275000.out BK230.out (by decide)) e_) e_) (fun e_ => Or.elim e_ (fun e_ => (fun e_ => (Kd.R_ne HO_275001.out BK230.out (by decide)) e_) e_) (fun e_ => Or.elim e_ (fun e_ => (fun e_ => (Kd.R_ne HO_275002.out BK230.out (by decide)) e_) e_) (fun e_ => Or.elim e_ (fun e_ => (fun e_ => (Kd.R_ne HO_275003.out BK230.out (by decide)) e_) e_) (fun e_ => (fun e_ => (Kd.R_ne HO_275004.out BK230.out (by decide)) e_) e_)))))); replace BK274 := Aside0.mk (blk_kept (kA BK274.out) hkp (fun hs_ => Or.elim hs_ (fun e_ => (fun e_ => (Kd.R_ne HO_275000.out BK274.out (by decide)) e_) e_) (fun e_ => Or.elim e_ (fun e_ => (fun e_ => (Kd.R_ne HO_275001.out BK274.out (by decide)) e_) e_) (fun e_ => Or.elim e_ (fun e_ => (fun e_ => (Kd.R_ne HO_275002.out BK274.out (by decide)) e_) e_) (fun e_ => Or.elim e_ (fun e_ => (fun e_ => (Kd.R_ne HO_275003.out BK274.out (by decide)) e_) e_) (fun e_ => (fun e_ => (Kd.R_ne HO_275004.out BK274.out (by decide)) e_) e_)))))); replace HO282 := Aside0.mk (Kd.R_mono (ok' := fun k_ => some k_ ≠ (v252 : Value).ownBlock ∧ some k_ ≠ (v276 : Value).ownBlock ∧ some k_ ≠ (.slice Ao26 t255.length co26 : Value).ownBlock ∧ some k_ ≠ (.slice Ao29 t258.length co29 : Value).ownBlock ∧ some k_ ≠ (.slice Ao30 t261.length co30 : Value).ownBlock ∧ some k_ ≠ (.slice Ao49 t283.length co49 : Value).ownBlock ∧ some k_ ≠ (.slice Ao50 t286.length co50 : Value).ownBlock) (Kd.R_keptB ((Kd.R_apart' (Kd.R_apart' HO282.out (Kd.R_typed HO_275003.out) (by decide)) (Kd.R_typed HO_275004.out) (by decide))) hkp (fun k_ hk_ hs_ => Or.elim hs_ (fun e_ => (hk_.1.1.1.1.2) e_) (fun e_ => Or.elim e_ (fun e_ => (hk_.1.1.1.2) e_) (fun e_ => Or.elim e_ (fun e_ => (hk_.1.1.2) e_) (fun e_ => Or.elim e_ (fun e_ => (hk_.1.2) e_) (fun e_ => (hk_.2) e_)))))) (fun k_ hk_ => ⟨hk_.1.1.1.1.1.1.1.2, hk_.1.1.1.1.1.1.2, hk_.1.1.1.1.1.2, hk_.1.1.1.1.2, hk_.1.1.1.2, hk_.1.1.1.1.1.1.1.1.1, hk_.1.1.1.1.1.1.1.1.2⟩)); replace HO285 := Aside0.mk (Kd.R_mono (ok' := fun k_ => some k_ ≠ (v252 : Value).ownBlock ∧ some k_ ≠ (v276 : Value).ownBlock ∧ some k_ ≠ (.slice Ao26 t255.length co26 : Value).ownBlock ∧ some k_ ≠ (.slice Ao29 t258.length co29 : Value).ownBlock ∧ some k_ ≠ (.slice Ao30 t261.length co30 : Value).ownBlock ∧ some k_ ≠ (.slice Ao48 t280.length co48 : Value).ownBlock ∧ some k_ ≠ (.slice Ao50 t286.length co50 : Value).ownBlock) (Kd.R_keptB ((Kd.R_apart' (Kd.R_apart' HO285.out (Kd.R_typed HO_275003.out) (by decide)) (Kd.R_typed HO_275004.out) (by decide))) hkp (fun k_ hk_ hs_ => Or.elim hs_ (fun e_ => (hk_.1.1.1.1.2) e_) (fun e_ => Or.elim e_ (fun e_ => (hk_.1.1.1.2) e_) (fun e_ => Or.elim e_ (fun e_ => (hk_.1.1.2) e_) (fun e_ => Or.elim e_ (fun e_ => (hk_.1.2) e_) (fun e_ => (hk_.2) e_)))))) (fun k_ hk_ => ⟨hk_.1.1.1.1.1.1.1.2, hk_.1.1.1.1.1.1.2, hk_.1.1.1.1.1.2, hk_.1.1.1.1.2, hk_.1.1.1.2, hk_.1.1.1.1.1.1.1.1.1, hk_.1.1.1.1.1.1.1.1.2⟩)); replace HO288 := Aside0.mk (Kd.R_mono (ok' := fun k_ => some k_ ≠ (v252 : Value).ownBlock ∧ some k_ ≠ (v276 : Value).ownBlock ∧ some k_ ≠ (.slice Ao26 t255.length co26 : Value).ownBlock ∧ some k_ ≠ (.slice Ao29 t258.length co29 : Value).ownBlock ∧ some k_ ≠ (.slice Ao30 t261.length co30 : Value).ownBlock ∧ some k_ ≠ (.slice Ao48 t280.length co48 : Value).ownBlock ∧ some k_ ≠ (.slice Ao49 t283.length co49 : Value).ownBlock) (Kd.R_keptB ((Kd.R_apart' (Kd.R_apart' HO288.out (Kd.R_typed HO_275003.out) (by decide)) (Kd.R_typed HO_275004.out) (by decide))) hkp (fun k_ hk_ hs_ => Or.elim hs_ (fun e_ => (hk_.1.1.1.1.2) e_) (fun e_ => Or.elim e_ (fun e_ => (hk_.1.1.1.2) e_) (fun e_ => Or.elim e_ (fun e_ => (hk_.1.1.2) e_) (fun e_ => Or.elim e_ (fun e_ => (hk_.1.2) e_) (fun e_ => (hk_.2) e_)))))) (fun k_ hk_ => ⟨hk_.1.1.1.1.1.1.1.2, hk_.1.1.1.1.1.1.2, hk_.1.1.1.1.1.2, hk_.1.1.1.1.2, hk_.1.1.1.2, hk_.1.1.1.1.1.1.1.1.1, hk_.1.1.1.1.1.1.1.1.2⟩)); replace HO_275003 := Aside0.mk (Kd.R_reok rfl hy3 (fun k_ e_ => HO_275003.out.1 k_ e_)); replace HO_275004 := Aside0.mk (Kd.R_reok rfl hy4 (fun k_ e_ => HO_275004.out.1 k_ e_)); replace HO291 := Aside0.mk (Kd.R_mono (ok' := fun k_ => some k_ ≠ (.slice Ao31 t264.length co31 : Value).ownBlock ∧ some k_ ≠ (.slice Ao32 t267.length co32 : Value).ownBlock ∧ some k_ ≠ (.slice Ao52 t292.length co52 : Value).ownBlock) (Kd.R_keptB ((Kd.R_apart' (Kd.R_apart' (Kd.R_apart' HO291.out (Kd.R_typed HO_275000.out) (by decide)) (Kd.R_typed HO_275001.out) (by decide)) (Kd.R_typed HO_275002.out) (by decide))) hkp (fun k_ hk_ hs_ => Or.elim hs_ (fun e_ => (hk_.1.1.2) e_) (fun e_ => Or.elim e_ (fun e_ => (hk_.1.2) e_) (fun e_ => Or.elim e_ (fun e_ => (hk_.2) e_) (fun e_ => Or.elim e_ (fun e_ => (hk_.1.1.1.1.2) e_) (fun e_ => (hk_.1.1.1.2) e_)))))) (fun k_ hk_ => ⟨hk_.1.1.1.1.1.2, hk_.1.1.1.1.2, hk_.1.1.1.1.1.1⟩)); replace HO294 := Aside0.mk (Kd.R_mono (ok' := fun k_ => some k_ ≠ (.slice Ao31 t264.length co31 : Value).ownBlock ∧ some k_ ≠ (.slice Ao32 t267.length co32 : Value).ownBlock ∧ some k_ ≠ (.slice Ao51 t289.length co51 : Value).ownBlock) (Kd.R_keptB ((Kd.R_apart' (Kd.R_apart' (Kd.R_apart' HO294.out (Kd.R_typed HO_275000.out) (by decide)) (Kd.R_typed HO_275001.out) (by decide)) (Kd.R_typed HO_275002.out) (by decide))) hkp (fun k_ hk_ hs_ => Or.elim hs_ (fun e_ => (hk_.1.1.2) e_) (fun e_ => Or.elim e_ (fun e_ => (hk_.1.2) e_) (fun e_ => Or.elim e_ (fun e_ => (hk_.2) e_) (fun e_ => Or.elim e_ (fun e_ => (hk_.1.1.1.1.2) e_) (fun e_ => (hk_.1.1.1.2) e_)))))) (fun k_ hk_ => ⟨hk_.1.1.1.1.1.2, hk_.1.1.1.1.2, hk_.1.1.1.1.1.1⟩)); replace HO_275000 := Aside0.mk (Kd.R_reok rfl hy0 (fun k_ e_ => HO_275000.out.1 k_ e_)); replace HO_275001 := Aside0.mk (Kd.R_reok rfl hy1 (fun k_ e_ => HO_275001.out.1 k_ e_)); replace HO_275002 := Aside0.mk (Kd.R_reok rfl hy2 (fun k_ e_ => HO_275002.out.1 k_ e_)); replace HB := Aside0.mk (hb); (try clear hb); (try clear hkp); (try clear hy0); (try clear hy1); (try clear hy2); (try clear hy3); (try clear hy4)))
      (try simp only [Act.put, List.setIfInBounds_toArray, List.set_cons_zero, List.set_cons_succ])
      go_cut [61] (fun v61 wc => ∃ (kq : Nat) (x61_44 : Bool), v61 = .bool x61_44 ∧ Aside0 (laws_FnExactContributions.j1 kq t251 t254 t275 x61_44 l0_0 l0_1 l0_2 l0_3 l0_4 a0_5 a0_6 a0_7 a0_8 = some r) ∧ Aside0 (kq ≤ kj10) ∧ Aside0 (Kd.R (Kd.int .i64) 2 wc w.heap.size (fun k_ => some k_ ≠ (v276 : Value).ownBlock ∧ some k_ ≠ ((.slice Ao26 t255.length co26) : Value).ownBlock ∧ some k_ ≠ ((.slice Ao29 t258.length co29) : Value).ownBlock ∧ some k_ ≠ ((.slice Ao30 t261.length co30) : Value).ownBlock) v252 t251) ∧ Aside0 (Kd.R (Kd.int .i64) 2 wc w.heap.size (fun k_ => some k_ ≠ (v252 : Value).ownBlock ∧ some k_ ≠ ((.slice Ao26 t255.length co26) : Value).ownBlock ∧ some k_ ≠ ((.slice Ao29 t258.length co29) : Value).ownBlock ∧ some k_ ≠ ((.slice Ao30 t261.length co30) : Value).ownBlock) v276 t275) ∧ Aside0 (Kd.R (Kd.int .i64) 2 wc w.heap.size (fun k_ => some k_ ≠ (v252 : Value).ownBlock ∧ some k_ ≠ (v276 : Value).ownBlock ∧ some k_ ≠ ((.slice Ao29 t258.length co29) : Value).ownBlock ∧ some k_ ≠ ((.slice Ao30 t261.length co30) : Value).ownBlock) (.slice Ao26 t255.length co26) t301) ∧ Aside0 (Kd.R (Kd.int .i64) 2 wc w.heap.size (fun k_ => some k_ ≠ (v252 : Value).ownBlock ∧ some k_ ≠ (v276 : Value).ownBlock ∧ some k_ ≠ ((.slice Ao26 t255.length co26) : Value).ownBlock ∧ some k_ ≠ ((.slice Ao30 t261.length co30) : Value).ownBlock) (.slice Ao29 t258.length co29) t302) ∧ Aside0 (Kd.R (Kd.int .i64) 2 wc w.heap.size (fun k_ => some k_ ≠ (v252 : Value).ownBlock ∧ some k_ ≠ (v276 : Value).ownBlock ∧ some k_ ≠ ((.slice Ao26 t255.length co26) : Value).ownBlock ∧ some k_ ≠ ((.slice Ao29 t258.length co29) : Value).ownBlock) (.slice Ao30 t261.length co30) t303) ∧ Aside0 (Kd.R Kd.bool 4 wc w.heap.size (fun k_ => some k_ ≠ ((.slice Ao32 t267.length co32) : Value).ownBlock) (.slice Ao31 t264.length co31) t304) ∧ Aside0 (Kd.R Kd.bool 4 wc w.heap.size (fun k_ => some k_ ≠ ((.slice Ao31 t264.length co31) : Value).ownBlock) (.slice Ao32 t267.length co32) t305) ∧ Aside0 (wc.heap[gb230]? = some (.cells #[(.slice A0_0 l0_0.length c0_0), (.slice A0_1 l0_1.length c0_1), (.slice A0_2 l0_2.length c0_2), (.slice A0_3 l0_3.length c0_3), (.slice A0_4 l0_4.length c0_4), .int .i64 a0_5, .int .i64 a0_6, .int .i64 a0_7, .int .i64 a0_8] 25 (0, 0))) ∧ Aside0 (wc.heap[gb274]? = some (.cells #[(.slice Ao26 t255.length co26), (.slice Ao29 t258.length co29), (.slice Ao30 t261.length co30), (.slice Ao31 t264.length co31), (.slice Ao32 t267.length co32), .int .i64 t270, .int .i64 t271, .int .i64 t272, .int .i64 t273] 28 (0, 0))) ∧ Aside0 (Below w.heap.size w wc))
      case first =>
       have H := HC45.out
       clear HC45
       by_cases c57 : t300 < 0
       ·rw [if_pos c57] at H
        have c57b0 : decide (t300 < 0) = true := decide_eq_true c57
        clear c57
        (first | rw [c57b0] | (simp only [i64_w, i32_w]; rw [c57b0]) | skip)
        have H' := Aside0.mk H
        clear H
        go_wp2
        go_meet
        case rel => exact ⟨_, (true), (by first | rfl | (simp; done) | (simp [*]; done)), H', ⟨by have := HJ10.out; first | omega | exact Nat.le_refl _⟩, ⟨by (with_reducible repeat (first | apply Kd.R_alloc | apply Kd.R_drewN | apply Kd.R_drew)); exact Kd.R_mono HO_4.out (fun _ hk => ⟨hk.1, ⟨hk.2.1, ⟨hk.2.2.1, hk.2.2.2.1⟩⟩⟩)⟩, ⟨by (with_reducible repeat (first | apply Kd.R_alloc | apply Kd.R_drewN | apply Kd.R_drew)); exact Kd.R_mono HO_7.out (fun _ hk => ⟨hk.1, ⟨hk.2.1, ⟨hk.2.2.1, hk.2.2.2.1⟩⟩⟩)⟩, ⟨by (with_reducible repeat (first | apply Kd.R_alloc | apply Kd.R_drewN | apply Kd.R_drew)); exact Kd.R_mono HO_275000.out (fun _ hk => ⟨hk.1.1.1.1, ⟨hk.1.1.1.2.1, ⟨hk.1.1.1.2.2.1, hk.1.1.1.2.2.2⟩⟩⟩)⟩, ⟨by (with_reducible repeat (first | apply Kd.R_alloc | apply Kd.R_drewN | apply Kd.R_drew)); exact Kd.R_mono HO_275001.out (fun _ hk => ⟨hk.1.1.1.1, ⟨hk.1.1.1.2.1, ⟨hk.1.1.1.2.2.1, hk.1.1.1.2.2.2⟩⟩⟩)⟩, ⟨by (with_reducible repeat (first | apply Kd.R_alloc | apply Kd.R_drewN | apply Kd.R_drew)); exact Kd.R_mono HO_275002.out (fun _ hk => ⟨hk.1.1.1.1, ⟨hk.1.1.1.2.1, ⟨hk.1.1.1.2.2.1, hk.1.1.1.2.2.2⟩⟩⟩)⟩, ⟨by (with_reducible repeat (first | apply Kd.R_alloc | apply Kd.R_drewN | apply Kd.R_drew)); exact Kd.R_mono HO_275003.out (fun _ hk => hk.1.1)⟩, ⟨by (with_reducible repeat (first | apply Kd.R_alloc | apply Kd.R_drewN | apply Kd.R_drew)); exact Kd.R_mono HO_275004.out (fun _ hk => hk.1.1)⟩, ⟨by (with_reducible repeat (first | refine blk_drewN ?_ _ | refine blk_drew ?_ | refine blk_alloc ?_ _)); exact BK230.out⟩, ⟨by (with_reducible repeat (first | refine blk_drewN ?_ _ | refine blk_drew ?_ | refine blk_alloc ?_ _)); exact BK274.out⟩, ⟨bA HB.out⟩⟩
       ·rw [if_neg c57] at H
        have c57b0 : decide (t300 < 0) = false := decide_eq_false c57
        clear c57
        (first | rw [c57b0] | (simp only [i64_w, i32_w]; rw [c57b0]) | skip)
        obtain ⟨t306, A580, H⟩ := Option.bind_eq_some_iff.mp H
        try dsimp only at H
        have A58 := Aside0.mk A580
        clear A580
        by_cases c59 : t306 = true
        ·subst c59
         rw [if_pos rfl] at H
         try dsimp only at H
         have H' := Aside0.mk H
         clear H
         obtain ⟨Ao60, co60, eo60⟩ := Kd.R_slice HO_7.out
         subst eo60
         obtain ⟨Ao61, co61, eo61⟩ := Kd.R_slice HO_4.out
         subst eo61
         go_wp2_with (first | (go_at_call 30; (with_reducible refine (laws_eqInt64S.calls kj10 _ _ t275 _ _ t251 true _ ?side1 ?side2 ?side3 ?side4 A58.out).mono ?_); (case side1 => exact cA ((Kd.R_reads' HO_7.out).2.2)); (case side2 => exact (Kd.R_reads' HO_7.out).2.1); (case side3 => exact cA ((Kd.R_reads' HO_4.out).2.2)); (case side4 => exact (Kd.R_reads' HO_4.out).2.1); rintro e w' ⟨rfl, ⟨nd, rfl⟩⟩))
         go_meet
         case rel => exact ⟨_, ((t278 != t254)), (by first | rfl | (simp; done) | (simp [*]; done)), H', ⟨by have := HJ10.out; first | omega | exact Nat.le_refl _⟩, ⟨by (with_reducible repeat (first | apply Kd.R_alloc | apply Kd.R_drewN | apply Kd.R_drew)); exact Kd.R_mono HO_4.out (fun _ hk => ⟨hk.1, ⟨hk.2.1, ⟨hk.2.2.1, hk.2.2.2.1⟩⟩⟩)⟩, ⟨by (with_reducible repeat (first | apply Kd.R_alloc | apply Kd.R_drewN | apply Kd.R_drew)); exact Kd.R_mono HO_7.out (fun _ hk => ⟨hk.1, ⟨hk.2.1, ⟨hk.2.2.1, hk.2.2.2.1⟩⟩⟩)⟩, ⟨by (with_reducible repeat (first | apply Kd.R_alloc | apply Kd.R_drewN | apply Kd.R_drew)); exact Kd.R_mono HO_275000.out (fun _ hk => ⟨hk.1.1.1.1, ⟨hk.1.1.1.2.1, ⟨hk.1.1.1.2.2.1, hk.1.1.1.2.2.2⟩⟩⟩)⟩, ⟨by (with_reducible repeat (first | apply Kd.R_alloc | apply Kd.R_drewN | apply Kd.R_drew)); exact Kd.R_mono HO_275001.out (fun _ hk => ⟨hk.1.1.1.1, ⟨hk.1.1.1.2.1, ⟨hk.1.1.1.2.2.1, hk.1.1.1.2.2.2⟩⟩⟩)⟩, ⟨by (with_reducible repeat (first | apply Kd.R_alloc | apply Kd.R_drewN | apply Kd.R_drew)); exact Kd.R_mono HO_275002.out (fun _ hk => ⟨hk.1.1.1.1, ⟨hk.1.1.1.2.1, ⟨hk.1.1.1.2.2.1, hk.1.1.1.2.2.2⟩⟩⟩)⟩, ⟨by (with_reducible repeat (first | apply Kd.R_alloc | apply Kd.R_drewN | apply Kd.R_drew)); exact Kd.R_mono HO_275003.out (fun _ hk => hk.1.1)⟩, ⟨by (with_reducible repeat (first | apply Kd.R_alloc | apply Kd.R_drewN | apply Kd.R_drew)); exact Kd.R_mono HO_275004.out (fun _ hk => hk.1.1)⟩, ⟨by (with_reducible repeat (first | refine blk_drewN ?_ _ | refine blk_drew ?_ | refine blk_alloc ?_ _)); exact BK230.out⟩, ⟨by (with_reducible repeat (first | refine blk_drewN ?_ _ | refine blk_drew ?_ | refine blk_alloc ?_ _)); exact BK274.out⟩, ⟨bA HB.out⟩⟩
        ·replace c59 := Bool.eq_false_iff.mpr c59
         subst c59
         rw [if_neg (show ¬ (false = true) by decide)] at H
         try dsimp only at H
         have H' := Aside0.mk H
         clear H
         obtain ⟨Ao62, co62, eo62⟩ := Kd.R_slice HO_7.out
         subst eo62
         obtain ⟨Ao63, co63, eo63⟩ := Kd.R_slice HO_4.out
         subst eo63
         go_wp2_with (first | (go_at_call 30; (with_reducible refine (laws_eqInt64S.calls kj10 _ _ t275 _ _ t251 false _ ?side1 ?side2 ?side3 ?side4 A58.out).mono ?_); (case side1 => exact cA ((Kd.R_reads' HO_7.out).2.2)); (case side2 => exact (Kd.R_reads' HO_7.out).2.1); (case side3 => exact cA ((Kd.R_reads' HO_4.out).2.2)); (case side4 => exact (Kd.R_reads' HO_4.out).2.1); rintro e w' ⟨rfl, ⟨nd, rfl⟩⟩))
         go_meet
         case rel => exact ⟨_, (true), (by first | rfl | (simp; done) | (simp [*]; done)), H', ⟨by have := HJ10.out; first | omega | exact Nat.le_refl _⟩, ⟨by (with_reducible repeat (first | apply Kd.R_alloc | apply Kd.R_drewN | apply Kd.R_drew)); exact Kd.R_mono HO_4.out (fun _ hk => ⟨hk.1, ⟨hk.2.1, ⟨hk.2.2.1, hk.2.2.2.1⟩⟩⟩)⟩, ⟨by (with_reducible repeat (first | apply Kd.R_alloc | apply Kd.R_drewN | apply Kd.R_drew)); exact Kd.R_mono HO_7.out (fun _ hk => ⟨hk.1, ⟨hk.2.1, ⟨hk.2.2.1, hk.2.2.2.1⟩⟩⟩)⟩, ⟨by (with_reducible repeat (first | apply Kd.R_alloc | apply Kd.R_drewN | apply Kd.R_drew)); exact Kd.R_mono HO_275000.out (fun _ hk => ⟨hk.1.1.1.1, ⟨hk.1.1.1.2.1, ⟨hk.1.1.1.2.2.1, hk.1.1.1.2.2.2⟩⟩⟩)⟩, ⟨by (with_reducible repeat (first | apply Kd.R_alloc | apply Kd.R_drewN | apply Kd.R_drew)); exact Kd.R_mono HO_275001.out (fun _ hk => ⟨hk.1.1.1.1, ⟨hk.1.1.1.2.1, ⟨hk.1.1.1.2.2.1, hk.1.1.1.2.2.2⟩⟩⟩)⟩, ⟨by (with_reducible repeat (first | apply Kd.R_alloc | apply Kd.R_drewN | apply Kd.R_drew)); exact Kd.R_mono HO_275002.out (fun _ hk => ⟨hk.1.1.1.1, ⟨hk.1.1.1.2.1, ⟨hk.1.1.1.2.2.1, hk.1.1.1.2.2.2⟩⟩⟩)⟩, ⟨by (with_reducible repeat (first | apply Kd.R_alloc | apply Kd.R_drewN | apply Kd.R_drew)); exact Kd.R_mono HO_275003.out (fun _ hk => hk.1.1)⟩, ⟨by (with_reducible repeat (first | apply Kd.R_alloc | apply Kd.R_drewN | apply Kd.R_drew)); exact Kd.R_mono HO_275004.out (fun _ hk => hk.1.1)⟩, ⟨by (with_reducible repeat (first | refine blk_drewN ?_ _ | refine blk_drew ?_ | refine blk_alloc ?_ _)); exact BK230.out⟩, ⟨by (with_reducible repeat (first | refine blk_drewN ?_ _ | refine blk_drew ?_ | refine blk_alloc ?_ _)); exact BK274.out⟩, ⟨bA HB.out⟩⟩
      case rest =>
       clear HC45
       try clear c1
       try clear c2
       try clear p2
       try clear c3
       try clear c3b0
       try clear c4
       try clear c5
       try clear c9
       try clear c15
       try clear c17
       try clear c19
       try clear c27
       try clear c30
       try clear c31
       try clear c34
       try clear c35
       try clear c40
       try clear c43
       try clear c54
       try clear c57
       try clear c57b0
       try clear c59
       try clear hcz13_0 hcz13_1 hcz13_2 hcz13_3 hcz13_4 hcz13_5 hcz13_6 hcz13_7 hcz13_8
       try clear hcz15_0 hcz15_1 hcz15_2 hcz15_3 hcz15_4 hcz15_5 hcz15_6 hcz15_7 hcz15_8
       try clear hcz23_0 hcz23_1 hcz23_2 hcz23_3 hcz23_4 hcz23_5 hcz23_6 hcz23_7 hcz23_8
       try clear hcz28_0 hcz28_1 hcz28_2 hcz28_3 hcz28_4 hcz28_5 hcz28_6 hcz28_7 hcz28_8
       try clear hcz55_0 hcz55_1 hcz55_2 hcz55_3 hcz55_4 hcz55_5 hcz55_6 hcz55_7 hcz55_8
       try clear hcz5_0 hcz5_1 hcz5_2 hcz5_3 hcz5_4 hcz5_5 hcz5_6 hcz5_7 hcz5_8
       try clear hfz13_0 hfz13_1 hfz13_2 hfz13_3 hfz13_4 hfz13_5 hfz13_6 hfz13_7 hfz13_8
       try clear hfz15_0 hfz15_1 hfz15_2 hfz15_3 hfz15_4 hfz15_5 hfz15_6 hfz15_7 hfz15_8
       try clear hfz23_0 hfz23_1 hfz23_2 hfz23_3 hfz23_4 hfz23_5 hfz23_6 hfz23_7 hfz23_8
       try clear hfz28_0 hfz28_1 hfz28_2 hfz28_3 hfz28_4 hfz28_5 hfz28_6 hfz28_7 hfz28_8
       try clear hfz55_0 hfz55_1 hfz55_2 hfz55_3 hfz55_4 hfz55_5 hfz55_6 hfz55_7 hfz55_8
       try clear hfz5_0 hfz5_1 hfz5_2 hfz5_3 hfz5_4 hfz5_5 hfz5_6 hfz5_7 hfz5_8
       try clear p2
       obtain ⟨kq, x61_44, rfl, HA, HJ44, HO_4, HO_7, HO_275000, HO_275001, HO_275002, HO_275003, HO_275004, BK230, BK274, HB⟩ := hcut
       have hl275000_44 := (Kd.R_reads' HO_275000.out).1
       rw [hl275000_44] at HO_275000
       (try simp only [hl275000_44])
       (try simp only [hl275000_44] at BK230)
       (try simp only [hl275000_44] at BK274)
       (try simp only [hl275000_44] at HO_4)
       (try simp only [hl275000_44] at HO_7)
       (try simp only [hl275000_44] at HO_275001)
       (try simp only [hl275000_44] at HO_275002)
       (try simp only [hl275000_44] at HO_275003)
       (try simp only [hl275000_44] at HO_275004)
       have hl275001_44 := (Kd.R_reads' HO_275001.out).1
       rw [hl275001_44] at HO_275001
       (try simp only [hl275001_44])
       (try simp only [hl275001_44] at BK230)
       (try simp only [hl275001_44] at BK274)
       (try simp only [hl275001_44] at HO_4)
       (try simp only [hl275001_44] at HO_7)
       (try simp only [hl275001_44] at HO_275000)
       (try simp only [hl275001_44] at HO_275002)
       (try simp only [hl275001_44] at HO_275003)
       (try simp only [hl275001_44] at HO_275004)
       have hl275002_44 := (Kd.R_reads' HO_275002.out).1
       rw [hl275002_44] at HO_275002
       (try simp only [hl275002_44])
       (try simp only [hl275002_44] at BK230)
       (try simp only [hl275002_44] at BK274)
       (try simp only [hl275002_44] at HO_4)
       (try simp only [hl275002_44] at HO_7)
       (try simp only [hl275002_44] at HO_275000)
       (try simp only [hl275002_44] at HO_275001)
       (try simp only [hl275002_44] at HO_275003)
       (try simp only [hl275002_44] at HO_275004)
       have hl275003_44 := (Kd.R_reads' HO_275003.out).1
       rw [hl275003_44] at HO_275003
       (try simp only [hl275003_44])
       (try simp only [hl275003_44] at BK230)
       (try simp only [hl275003_44] at BK274)
       (try simp only [hl275003_44] at HO_4)
       (try simp only [hl275003_44] at HO_7)
       (try simp only [hl275003_44] at HO_275000)
       (try simp only [hl275003_44] at HO_275001)
       (try simp only [hl275003_44] at HO_275002)
       (try simp only [hl275003_44] at HO_275004)
       have hl275004_44 := (Kd.R_reads' HO_275004.out).1
       rw [hl275004_44] at HO_275004
       (try simp only [hl275004_44])
       (try simp only [hl275004_44] at BK230)
       (try simp only [hl275004_44] at BK274)
       (try simp only [hl275004_44] at HO_4)
       (try simp only [hl275004_44] at HO_7)
       (try simp only [hl275004_44] at HO_275000)
       (try simp only [hl275004_44] at HO_275001)
       (try simp only [hl275004_44] at HO_275002)
       (try simp only [hl275004_44] at HO_275003)
       cases kq with
       | zero => exact absurd HA.out (by simp [laws_FnExactContributions.j1])
       | succ kj44 =>
        have H := HA.out
        clear HA
        simp only [laws_FnExactContributions.j1] at H
        by_cases c64 : x61_44 = true
        ·subst c64
         rw [if_pos rfl] at H
         try dsimp only at H
         exact absurd H (by simp)
        ·replace c64 := Bool.eq_false_iff.mpr c64
         subst c64
         rw [if_neg (show ¬ (false = true) by decide)] at H
         try dsimp only at H
         obtain ⟨⟨t307, t308⟩, A650, H⟩ := Option.bind_eq_some_iff.mp H
         try dsimp only at H
         have A65 := Aside0.mk A650
         clear A650
         obtain ⟨t309, A660, H⟩ := Option.bind_eq_some_iff.mp H
         try dsimp only at H
         have A66 := Aside0.mk A660
         clear A660
         by_cases c67 : t309 < 0
         ·rw [if_pos c67] at H
          exact absurd H (by simp)
         rw [if_neg c67] at H
         have c67b0 : decide (t309 < 0) = false := decide_eq_false c67
         clear c67
         by_cases c68 : t309 = t307
         rotate_left
         ·rw [if_neg c68] at H
          exact absurd H (by simp)
         rw [if_pos c68] at H
         have c68b0 : (t309 == t307) = true := beq_iff_eq.mpr c68
         have c68b1 : (t309 != t307) = false := bne_eq_false_iff_eq.mpr c68
         clear c68
         obtain ⟨⟨t310, t313, t316, t319, t322, t325, t326, t327, t328⟩, A690, H⟩ := Option.bind_eq_some_iff.mp H
         try dsimp only at H
         have A69 := Aside0.mk A690
         clear A690
         obtain ⟨⟨t329, t332⟩, A700, H⟩ := Option.bind_eq_some_iff.mp H
         try dsimp only at H
         have A70 := Aside0.mk A700
         clear A700
         have HC71 := Aside0.mk H
         clear H
         obtain ⟨Ao72, co72, eo72⟩ := Kd.R_slice HO_7.out
         subst eo72
         go_upto_region 25 with (first | ((with_reducible refine gate_callee (f := 32) rfl ?_); refine gL (some 64) Try.func32 #[.slice Ao72 t275.length co72, .int .i64 1] ?_; (with_reducible refine (laws_markInt64S.calls kj44 (fun k_ => some k_ = (.slice Ao72 t275.length co72 : Value).ownBlock) (.slice Ao72 t275.length co72) t275 1 t307 t308 w _ ?side1 ?side2 A65.out).mono ?_); (case side1 => repeat (first | (with_reducible first | exact HB.out | apply below_alloc | apply pw_below_drewN | apply below_drew1 | refine below_set ?_ GE230.out | refine below_set ?_ GE274.out) | exact HB.out)); (case side2 => exact Kd.R_tight rfl HO_7.out); rintro e w73 ⟨rfl, hy0, hb, hkp⟩; refine ⟨_, rfl, ?_⟩; replace HO_4 := Aside0.mk (Kd.R_mono (ok' := fun k_ => some k_ ≠ (.slice Ao72 t275.length co72 : Value).ownBlock ∧ some k_ ≠ (.slice Ao26 t301.length co26 : Value).ownBlock ∧ some k_ ≠ (.slice Ao29 t302.length co29 : Value).ownBlock ∧ some k_ ≠ (.slice Ao30 t303.length co30 : Value).ownBlock) (Kd.R_keptB (HO_4.out) hkp (fun k_ hk_ hs_ => (hk_.1) hs_)) (fun k_ hk_ => ⟨hk_.1.1, hk_.1.2.1, hk_.1.2.2.1, hk_.1.2.2.2⟩)); replace HO_275000 := Aside0.mk (Kd.R_mono (ok' := fun k_ => some k_ ≠ (v252 : Value).ownBlock ∧ some k_ ≠ (.slice Ao72 t275.length co72 : Value).ownBlock ∧ some k_ ≠ (.slice Ao29 t302.length co29 : Value).ownBlock ∧ some k_ ≠ (.slice Ao30 t303.length co30 : Value).ownBlock) (Kd.R_keptB (HO_275000.out) hkp (fun k_ hk_ hs_ => (hk_.2.1) hs_)) (fun k_ hk_ => ⟨hk_.1.1, hk_.1.2.1, hk_.1.2.2.1, hk_.1.2.2.2⟩)); replace HO_275001 := Aside0.mk (Kd.R_mono (ok' := fun k_ => some k_ ≠ (v252 : Value).ownBlock ∧ some k_ ≠ (.slice Ao72 t275.length co72 : Value).ownBlock ∧ some k_ ≠ (.slice Ao26 t301.length co26 : Value).ownBlock ∧ some k_ ≠ (.slice Ao30 t303.length co30 : Value).ownBlock) (Kd.R_keptB (HO_275001.out) hkp (fun k_ hk_ hs_ => (hk_.2.1) hs_)) (fun k_ hk_ => ⟨hk_.1.1, hk_.1.2.1, hk_.1.2.2.1, hk_.1.2.2.2⟩)); replace HO_275002 := Aside0.mk (Kd.R_mono (ok' := fun k_ => some k_ ≠ (v252 : Value).ownBlock ∧ some k_ ≠ (.slice Ao72 t275.length co72 : Value).ownBlock ∧ some k_ ≠ (.slice Ao26 t301.length co26 : Value).ownBlock ∧ some k_ ≠ (.slice Ao29 t302.length co29 : Value).ownBlock) (Kd.R_keptB (HO_275002.out) hkp (fun k_ hk_ hs_ => (hk_.2.1) hs_)) (fun k_ hk_ => ⟨hk_.1.1, hk_.1.2.1, hk_.1.2.2.1, hk_.1.2.2.2⟩)); replace HO_275003 := Aside0.mk (Kd.R_mono (ok' := fun k_ => some k_ ≠ (.slice Ao32 t305.length co32 : Value).ownBlock) (Kd.R_keptB ((Kd.R_apart' HO_275003.out (Kd.R_typed HO_7.out) (by decide))) hkp (fun k_ hk_ hs_ => (hk_.2) hs_)) (fun k_ hk_ => hk_.1.1)); replace HO_275004 := Aside0.mk (Kd.R_mono (ok' := fun k_ => some k_ ≠ (.slice Ao31 t304.length co31 : Value).ownBlock) (Kd.R_keptB ((Kd.R_apart' HO_275004.out (Kd.R_typed HO_7.out) (by decide))) hkp (fun k_ hk_ hs_ => (hk_.2) hs_)) (fun k_ hk_ => hk_.1.1)); replace BK230 := Aside0.mk (blk_kept (kA BK230.out) hkp (fun hs_ => (fun e_ => (Kd.R_ne HO_7.out BK230.out (by decide)) e_) hs_)); replace BK274 := Aside0.mk (blk_kept (kA BK274.out) hkp (fun hs_ => (fun e_ => (Kd.R_ne HO_7.out BK274.out (by decide)) e_) hs_)); replace HO_7 := Aside0.mk (Kd.R_reok rfl hy0 (fun k_ e_ => HO_7.out.1 k_ e_)); replace HB := Aside0.mk (hb); (try clear hb); (try clear hkp); (try clear hy0)) | ((with_reducible refine gate_callee (f := 33) rfl ?_); refine goesL_ (some 67) rfl rfl Try.func33 (by kernel_rfl) rfl #[.slice Ao72 t308.length co72, .int .i64 1] rfl (by (try simp only [List.map_toArray, List.map_cons, List.map_nil]); first | done | (rw [show t308.length = t275.length from (Kd.R_reads' HO_7.out).1.symm] <;> rfl) | rfl | (simp only [List.length_drop, List.length_take]; rfl)) ?_; (with_reducible refine (laws_heldInt64S.calls kj44 _ _ t308 1 t309 _ ?side1 ?side2 A66.out).mono ?_); (case side1 => exact cA ((Kd.R_reads' HO_7.out).2.2)); (case side2 => rw [show t308.length = t275.length from (Kd.R_reads' HO_7.out).1.symm]; exact (Kd.R_reads' HO_7.out).2.1); rintro e w' ⟨rfl, ⟨nd, rfl⟩⟩; refine ⟨_, rfl, ?_⟩; have hnb74 := NB230_274.out; have hnc74 := NB274_230.out; obtain ⟨hcz75_0, hcz75_1, hcz75_2, hcz75_3, hcz75_4, hcz75_5, hcz75_6, hcz75_7, hcz75_8, hfz75_0, hfz75_1, hfz75_2, hfz75_3, hfz75_4, hfz75_5, hfz75_6, hfz75_7, hfz75_8⟩ := cz9 BK230.out) | ((with_reducible refine gate_callee (f := 17) rfl ?_); refine gL (some 75) Try.func17 #[.agg #[.slice A0_0 l0_0.length c0_0, .slice A0_1 l0_1.length c0_1, .slice A0_2 l0_2.length c0_2, .slice A0_3 l0_3.length c0_3, .slice A0_4 l0_4.length c0_4, .int .i64 a0_5, .int .i64 a0_6, .int .i64 a0_7, .int .i64 a0_8]] ?_; (with_reducible refine (laws_toBetting.calls kj44 _ _ l0_0 _ _ l0_1 _ _ l0_2 _ _ l0_3 _ _ l0_4 a0_5 a0_6 a0_7 a0_8 t310 t313 t316 t319 t322 t325 t326 t327 t328 _ ?side1 ?side2 ?side3 ?side4 ?side5 ?side6 ?side7 ?side8 ?side9 ?side10 A69.out).mono ?_); (case side1 => exact cA (Kd.C_below HR0_0.out (bA HB.out))); (case side2 => exact HC0_0.out); (case side3 => exact cA (Kd.C_below HR0_1.out (bA HB.out))); (case side4 => exact HC0_1.out); (case side5 => exact cA (Kd.C_below HR0_2.out (bA HB.out))); (case side6 => exact HC0_2.out); (case side7 => exact cA (Kd.C_below HR0_3.out (bA HB.out))); (case side8 => exact HC0_3.out); (case side9 => exact cA (Kd.C_below HR0_4.out (bA HB.out))); (case side10 => exact HC0_4.out); rintro e w76 ⟨v311, v314, v317, v320, v323, rfl, ho0, ho1, ho2, ho3, ho4, hb⟩; refine ⟨_, rfl, ?_⟩; have HO312 := Aside0.mk (Kd.R_lower (Kd.R_new' (Kd.R_new' (Kd.R_new' (Kd.R_new' (Kd.R_new' ho0 (Kd.R_lt (rA HO_4.out))) (Kd.R_lt (rA HO_7.out))) (Kd.R_lt (rA HO_275000.out))) (Kd.R_lt (rA HO_275001.out))) (Kd.R_lt (rA HO_275002.out))) (below_size (bA HB.out))); have HO315 := Aside0.mk (Kd.R_lower (Kd.R_new' (Kd.R_new' (Kd.R_new' (Kd.R_new' (Kd.R_new' ho1 (Kd.R_lt (rA HO_4.out))) (Kd.R_lt (rA HO_7.out))) (Kd.R_lt (rA HO_275000.out))) (Kd.R_lt (rA HO_275001.out))) (Kd.R_lt (rA HO_275002.out))) (below_size (bA HB.out))); have HO318 := Aside0.mk (Kd.R_lower (Kd.R_new' (Kd.R_new' (Kd.R_new' (Kd.R_new' (Kd.R_new' ho2 (Kd.R_lt (rA HO_4.out))) (Kd.R_lt (rA HO_7.out))) (Kd.R_lt (rA HO_275000.out))) (Kd.R_lt (rA HO_275001.out))) (Kd.R_lt (rA HO_275002.out))) (below_size (bA HB.out))); replace HO_4 := Aside0.mk (Kd.R_mono (Kd.R_told (Kd.R_told (Kd.R_told (Kd.R_old (rA HO_4.out) hb) (Kd.R_base ho0)) (Kd.R_base ho1)) (Kd.R_base ho2)) (fun _ h_ => h_.1)); replace HO_7 := Aside0.mk (Kd.R_mono (Kd.R_told (Kd.R_told (Kd.R_told (Kd.R_old (rA HO_7.out) hb) (Kd.R_base ho0)) (Kd.R_base ho1)) (Kd.R_base ho2)) (fun _ h_ => h_.1)); replace HO_275000 := Aside0.mk (Kd.R_mono (Kd.R_told (Kd.R_told (Kd.R_told (Kd.R_old (rA HO_275000.out) hb) (Kd.R_base ho0)) (Kd.R_base ho1)) (Kd.R_base ho2)) (fun _ h_ => h_.1)); replace HO_275001 := Aside0.mk (Kd.R_mono (Kd.R_told (Kd.R_told (Kd.R_told (Kd.R_old (rA HO_275001.out) hb) (Kd.R_base ho0)) (Kd.R_base ho1)) (Kd.R_base ho2)) (fun _ h_ => h_.1)); replace HO_275002 := Aside0.mk (Kd.R_mono (Kd.R_told (Kd.R_told (Kd.R_told (Kd.R_old (rA HO_275002.out) hb) (Kd.R_base ho0)) (Kd.R_base ho1)) (Kd.R_base ho2)) (fun _ h_ => h_.1)); have HO321 := Aside0.mk (Kd.R_lower (Kd.R_new' (Kd.R_new' ho3 (Kd.R_lt (rA HO_275003.out))) (Kd.R_lt (rA HO_275004.out))) (below_size (bA HB.out))); have HO324 := Aside0.mk (Kd.R_lower (Kd.R_new' (Kd.R_new' ho4 (Kd.R_lt (rA HO_275003.out))) (Kd.R_lt (rA HO_275004.out))) (below_size (bA HB.out))); replace HO_275003 := Aside0.mk (Kd.R_mono (Kd.R_told (Kd.R_told (Kd.R_old (rA HO_275003.out) hb) (Kd.R_base ho3)) (Kd.R_base ho4)) (fun _ h_ => h_.1)); replace HO_275004 := Aside0.mk (Kd.R_mono (Kd.R_told (Kd.R_told (Kd.R_old (rA HO_275004.out) hb) (Kd.R_base ho3)) (Kd.R_base ho4)) (fun _ h_ => h_.1)); replace BK230 := Aside0.mk (blk_below (kA BK230.out) hb); replace BK274 := Aside0.mk (blk_below (kA BK274.out) hb); replace HB := Aside0.mk (below_step (bA HB.out) hb); (try clear hb); (try clear ho0); (try clear ho1); (try clear ho2); (try clear ho3); (try clear ho4); obtain ⟨Ao77, co77, eo77⟩ := Kd.R_slice HO312.out; subst eo77; obtain ⟨Ao78, co78, eo78⟩ := Kd.R_slice HO315.out; subst eo78; obtain ⟨Ao79, co79, eo79⟩ := Kd.R_slice HO318.out; subst eo79; obtain ⟨Ao80, co80, eo80⟩ := Kd.R_slice HO321.out; subst eo80; obtain ⟨Ao81, co81, eo81⟩ := Kd.R_slice HO324.out; subst eo81) | ((with_reducible refine gate_callee (f := 35) rfl ?_); refine gL (some 76) Try.func35 #[.agg #[.slice Ao77 t310.length co77, .slice Ao78 t313.length co78, .slice Ao79 t316.length co79, .slice Ao80 t319.length co80, .slice Ao81 t322.length co81, .int .i64 t325, .int .i64 t326, .int .i64 t327, .int .i64 t328]] ?_; (with_reducible refine (impl_Contributions.calls kj44 _ _ t310 _ _ t313 _ _ t316 _ _ t319 _ _ t322 t325 t326 t327 t328 t329 t332 _ ?side1 ?side2 ?side3 ?side4 ?side5 ?side6 ?side7 ?side8 ?side9 ?side10 A70.out).mono ?_); (case side1 => exact cA ((Kd.R_reads' HO312.out).2.2)); (case side2 => exact (Kd.R_reads' HO312.out).2.1); (case side3 => exact cA ((Kd.R_reads' HO315.out).2.2)); (case side4 => exact (Kd.R_reads' HO315.out).2.1); (case side5 => exact cA ((Kd.R_reads' HO318.out).2.2)); (case side6 => exact (Kd.R_reads' HO318.out).2.1); (case side7 => exact cA ((Kd.R_reads' HO321.out).2.2)); (case side8 => exact (Kd.R_reads' HO321.out).2.1); (case side9 => exact cA ((Kd.R_reads' HO324.out).2.2)); (case side10 => exact (Kd.R_reads' HO324.out).2.1); rintro e w82 ⟨v330, rfl, ho0, hb⟩; refine ⟨_, rfl, ?_⟩; replace HO_275003 := Aside0.mk (Kd.R_below (rA HO_275003.out) hb); replace HO_275004 := Aside0.mk (Kd.R_below (rA HO_275004.out) hb); replace HO321 := Aside0.mk (Kd.R_below (rA HO321.out) hb); replace HO324 := Aside0.mk (Kd.R_below (rA HO324.out) hb); have HO331 := Aside0.mk (Kd.R_lower (Kd.R_new' (Kd.R_new' (Kd.R_new' (Kd.R_new' (Kd.R_new' (Kd.R_new' (Kd.R_new' (Kd.R_new' ho0 (Kd.R_lt (rA HO_4.out))) (Kd.R_lt (rA HO_7.out))) (Kd.R_lt (rA HO_275000.out))) (Kd.R_lt (rA HO_275001.out))) (Kd.R_lt (rA HO_275002.out))) (Kd.R_lt (rA HO312.out))) (Kd.R_lt (rA HO315.out))) (Kd.R_lt (rA HO318.out))) (below_size (bA HB.out))); replace HO_4 := Aside0.mk (Kd.R_elder' (rA HO_4.out) (Kd.R_base ho0) hb); replace HO_7 := Aside0.mk (Kd.R_elder' (rA HO_7.out) (Kd.R_base ho0) hb); replace HO_275000 := Aside0.mk (Kd.R_elder' (rA HO_275000.out) (Kd.R_base ho0) hb); replace HO_275001 := Aside0.mk (Kd.R_elder' (rA HO_275001.out) (Kd.R_base ho0) hb); replace HO_275002 := Aside0.mk (Kd.R_elder' (rA HO_275002.out) (Kd.R_base ho0) hb); replace HO312 := Aside0.mk (Kd.R_elder' (rA HO312.out) (Kd.R_base ho0) hb); replace HO315 := Aside0.mk (Kd.R_elder' (rA HO315.out) (Kd.R_base ho0) hb); replace HO318 := Aside0.mk (Kd.R_elder' (rA HO318.out) (Kd.R_base ho0) hb); replace BK230 := Aside0.mk (blk_below (kA BK230.out) hb); replace BK274 := Aside0.mk (blk_below (kA BK274.out) hb); replace HB := Aside0.mk (below_step (bA HB.out) hb); (try clear hb); (try clear ho0)))
         (try simp only [Act.put, List.setIfInBounds_toArray, List.set_cons_zero, List.set_cons_succ])
         go_cut [87] (fun v87 wc => ∃ (kq : Nat) (x87_70 : Bool), v87 = .bool x87_70 ∧ Aside0 (laws_FnExactContributions.j2 kq t308 t307 x87_70 = some r) ∧ Aside0 (kq ≤ kj44) ∧ Aside0 (Kd.R (Kd.int .i64) 2 wc w.heap.size (fun k_ => some k_ ≠ ((.slice Ao26 t301.length co26) : Value).ownBlock ∧ some k_ ≠ ((.slice Ao29 t302.length co29) : Value).ownBlock ∧ some k_ ≠ ((.slice Ao30 t303.length co30) : Value).ownBlock) (.slice Ao72 t275.length co72) t308) ∧ Aside0 (Kd.R (Kd.int .i64) 2 wc w.heap.size (fun k_ => some k_ ≠ ((.slice Ao72 t275.length co72) : Value).ownBlock ∧ some k_ ≠ ((.slice Ao29 t302.length co29) : Value).ownBlock ∧ some k_ ≠ ((.slice Ao30 t303.length co30) : Value).ownBlock) (.slice Ao26 t301.length co26) t301) ∧ Aside0 (Kd.R (Kd.int .i64) 2 wc w.heap.size (fun k_ => some k_ ≠ ((.slice Ao72 t275.length co72) : Value).ownBlock ∧ some k_ ≠ ((.slice Ao26 t301.length co26) : Value).ownBlock ∧ some k_ ≠ ((.slice Ao30 t303.length co30) : Value).ownBlock) (.slice Ao29 t302.length co29) t302) ∧ Aside0 (Kd.R (Kd.int .i64) 2 wc w.heap.size (fun k_ => some k_ ≠ ((.slice Ao72 t275.length co72) : Value).ownBlock ∧ some k_ ≠ ((.slice Ao26 t301.length co26) : Value).ownBlock ∧ some k_ ≠ ((.slice Ao29 t302.length co29) : Value).ownBlock) (.slice Ao30 t303.length co30) t303) ∧ Aside0 (Kd.R Kd.bool 4 wc w.heap.size (fun k_ => some k_ ≠ ((.slice Ao32 t305.length co32) : Value).ownBlock) (.slice Ao31 t304.length co31) t304) ∧ Aside0 (Kd.R Kd.bool 4 wc w.heap.size (fun k_ => some k_ ≠ ((.slice Ao31 t304.length co31) : Value).ownBlock) (.slice Ao32 t305.length co32) t305) ∧ Aside0 (wc.heap[gb230]? = some (.cells #[(.slice A0_0 l0_0.length c0_0), (.slice A0_1 l0_1.length c0_1), (.slice A0_2 l0_2.length c0_2), (.slice A0_3 l0_3.length c0_3), (.slice A0_4 l0_4.length c0_4), .int .i64 a0_5, .int .i64 a0_6, .int .i64 a0_7, .int .i64 a0_8] 25 (0, 0))) ∧ Aside0 (wc.heap[gb274]? = some (.cells #[(.slice Ao26 t301.length co26), (.slice Ao29 t302.length co29), (.slice Ao30 t303.length co30), (.slice Ao31 t304.length co31), (.slice Ao32 t305.length co32), .int .i64 t270, .int .i64 t271, .int .i64 t272, .int .i64 t273] 28 (0, 0))) ∧ Aside0 (Below w.heap.size w wc))
         case first =>
          have H := HC71.out
          clear HC71
          obtain ⟨t333, A830, H⟩ := Option.bind_eq_some_iff.mp H
          try dsimp only at H
          have A83 := Aside0.mk A830
          clear A830
          by_cases c84 : t333 = true
          ·subst c84
           rw [if_pos rfl] at H
           try dsimp only at H
           have H' := Aside0.mk H
           clear H
           obtain ⟨Ao85, co85, eo85⟩ := Kd.R_slice HO331.out
           subst eo85
           obtain ⟨Ao86, co86, eo86⟩ := Kd.R_slice HO_4.out
           subst eo86
           go_wp2_with (first | ((with_reducible refine gate_callee (f := 30) rfl ?_); refine gL (some 81) Try.func30 #[.slice Ao85 t329.length co85, .slice Ao86 t251.length co86] ?_; (with_reducible refine (laws_eqInt64S.calls kj44 _ _ t329 _ _ t251 true _ ?side1 ?side2 ?side3 ?side4 A83.out).mono ?_); (case side1 => exact cA ((Kd.R_reads' HO331.out).2.2)); (case side2 => exact (Kd.R_reads' HO331.out).2.1); (case side3 => exact cA ((Kd.R_reads' HO_4.out).2.2)); (case side4 => exact (Kd.R_reads' HO_4.out).2.1); rintro e w' ⟨rfl, ⟨nd, rfl⟩⟩; refine ⟨_, rfl, ?_⟩))
           go_meet
           case rel => exact ⟨_, ((t332 != t254)), (by first | rfl | (simp; done) | (simp [*]; done)), H', ⟨by have := HJ10.out; have := HJ44.out; first | omega | exact Nat.le_refl _⟩, ⟨by (try simp only [hl275000_44]); (try simp only [hl275001_44]); (try simp only [hl275002_44]); (try simp only [hl275003_44]); (try simp only [hl275004_44]); (with_reducible repeat (first | apply Kd.R_alloc | apply Kd.R_drewN | apply Kd.R_drew)); exact Kd.R_mono HO_7.out (fun _ hk => ⟨hk.1.1.1.1.2.1, ⟨hk.1.1.1.1.2.2.1, hk.1.1.1.1.2.2.2⟩⟩)⟩, ⟨by (try simp only [hl275000_44]); (try simp only [hl275001_44]); (try simp only [hl275002_44]); (try simp only [hl275003_44]); (try simp only [hl275004_44]); (with_reducible repeat (first | apply Kd.R_alloc | apply Kd.R_drewN | apply Kd.R_drew)); exact Kd.R_mono HO_275000.out (fun _ hk => ⟨hk.1.1.1.1.2.1, ⟨hk.1.1.1.1.2.2.1, hk.1.1.1.1.2.2.2⟩⟩)⟩, ⟨by (try simp only [hl275000_44]); (try simp only [hl275001_44]); (try simp only [hl275002_44]); (try simp only [hl275003_44]); (try simp only [hl275004_44]); (with_reducible repeat (first | apply Kd.R_alloc | apply Kd.R_drewN | apply Kd.R_drew)); exact Kd.R_mono HO_275001.out (fun _ hk => ⟨hk.1.1.1.1.2.1, ⟨hk.1.1.1.1.2.2.1, hk.1.1.1.1.2.2.2⟩⟩)⟩, ⟨by (try simp only [hl275000_44]); (try simp only [hl275001_44]); (try simp only [hl275002_44]); (try simp only [hl275003_44]); (try simp only [hl275004_44]); (with_reducible repeat (first | apply Kd.R_alloc | apply Kd.R_drewN | apply Kd.R_drew)); exact Kd.R_mono HO_275002.out (fun _ hk => ⟨hk.1.1.1.1.2.1, ⟨hk.1.1.1.1.2.2.1, hk.1.1.1.1.2.2.2⟩⟩)⟩, ⟨by (try simp only [hl275000_44]); (try simp only [hl275001_44]); (try simp only [hl275002_44]); (try simp only [hl275003_44]); (try simp only [hl275004_44]); (with_reducible repeat (first | apply Kd.R_alloc | apply Kd.R_drewN | apply Kd.R_drew)); exact Kd.R_mono HO_275003.out (fun _ hk => hk.1.1)⟩, ⟨by (try simp only [hl275000_44]); (try simp only [hl275001_44]); (try simp only [hl275002_44]); (try simp only [hl275003_44]); (try simp only [hl275004_44]); (with_reducible repeat (first | apply Kd.R_alloc | apply Kd.R_drewN | apply Kd.R_drew)); exact Kd.R_mono HO_275004.out (fun _ hk => hk.1.1)⟩, ⟨by (try simp only [hl275000_44]); (try simp only [hl275001_44]); (try simp only [hl275002_44]); (try simp only [hl275003_44]); (try simp only [hl275004_44]); (with_reducible repeat (first | refine blk_drewN ?_ _ | refine blk_drew ?_ | refine blk_alloc ?_ _)); exact BK230.out⟩, ⟨by (try simp only [hl275000_44]); (try simp only [hl275001_44]); (try simp only [hl275002_44]); (try simp only [hl275003_44]); (try simp only [hl275004_44]); (with_reducible repeat (first | refine blk_drewN ?_ _ | refine blk_drew ?_ | refine blk_alloc ?_ _)); exact BK274.out⟩, ⟨bA HB.out⟩⟩
          ·replace c84 := Bool.eq_false_iff.mpr c84
           subst c84
           rw [if_neg (show ¬ (false = true) by decide)] at H
           try dsimp only at H
           have H' := Aside0.mk H
           clear H
           obtain ⟨Ao87, co87, eo87⟩ := Kd.R_slice HO331.out
           subst eo87
           obtain ⟨Ao88, co88, eo88⟩ := Kd.R_slice HO_4.out
           subst eo88
           go_wp2_with (first | ((with_reducible refine gate_callee (f := 30) rfl ?_); refine gL (some 81) Try.func30 #[.slice Ao87 t329.length co87, .slice Ao88 t251.length co88] ?_; (with_reducible refine (laws_eqInt64S.calls kj44 _ _ t329 _ _ t251 false _ ?side1 ?side2 ?side3 ?side4 A83.out).mono ?_); (case side1 => exact cA ((Kd.R_reads' HO331.out).2.2)); (case side2 => exact (Kd.R_reads' HO331.out).2.1); (case side3 => exact cA ((Kd.R_reads' HO_4.out).2.2)); (case side4 => exact (Kd.R_reads' HO_4.out).2.1); rintro e w' ⟨rfl, ⟨nd, rfl⟩⟩; refine ⟨_, rfl, ?_⟩))
           go_meet
           case rel => exact ⟨_, (true), (by first | rfl | (simp; done) | (simp [*]; done)), H', ⟨by have := HJ10.out; have := HJ44.out; first | omega | exact Nat.le_refl _⟩, ⟨by (try simp only [hl275000_44]); (try simp only [hl275001_44]); (try simp only [hl275002_44]); (try simp only [hl275003_44]); (try simp only [hl275004_44]); (with_reducible repeat (first | apply Kd.R_alloc | apply Kd.R_drewN | apply Kd.R_drew)); exact Kd.R_mono HO_7.out (fun _ hk => ⟨hk.1.1.1.1.2.1, ⟨hk.1.1.1.1.2.2.1, hk.1.1.1.1.2.2.2⟩⟩)⟩, ⟨by (try simp only [hl275000_44]); (try simp only [hl275001_44]); (try simp only [hl275002_44]); (try simp only [hl275003_44]); (try simp only [hl275004_44]); (with_reducible repeat (first | apply Kd.R_alloc | apply Kd.R_drewN | apply Kd.R_drew)); exact Kd.R_mono HO_275000.out (fun _ hk => ⟨hk.1.1.1.1.2.1, ⟨hk.1.1.1.1.2.2.1, hk.1.1.1.1.2.2.2⟩⟩)⟩, ⟨by (try simp only [hl275000_44]); (try simp only [hl275001_44]); (try simp only [hl275002_44]); (try simp only [hl275003_44]); (try simp only [hl275004_44]); (with_reducible repeat (first | apply Kd.R_alloc | apply Kd.R_drewN | apply Kd.R_drew)); exact Kd.R_mono HO_275001.out (fun _ hk => ⟨hk.1.1.1.1.2.1, ⟨hk.1.1.1.1.2.2.1, hk.1.1.1.1.2.2.2⟩⟩)⟩, ⟨by (try simp only [hl275000_44]); (try simp only [hl275001_44]); (try simp only [hl275002_44]); (try simp only [hl275003_44]); (try simp only [hl275004_44]); (with_reducible repeat (first | apply Kd.R_alloc | apply Kd.R_drewN | apply Kd.R_drew)); exact Kd.R_mono HO_275002.out (fun _ hk => ⟨hk.1.1.1.1.2.1, ⟨hk.1.1.1.1.2.2.1, hk.1.1.1.1.2.2.2⟩⟩)⟩, ⟨by (try simp only [hl275000_44]); (try simp only [hl275001_44]); (try simp only [hl275002_44]); (try simp only [hl275003_44]); (try simp only [hl275004_44]); (with_reducible repeat (first | apply Kd.R_alloc | apply Kd.R_drewN | apply Kd.R_drew)); exact Kd.R_mono HO_275003.out (fun _ hk => hk.1.1)⟩, ⟨by (try simp only [hl275000_44]); (try simp only [hl275001_44]); (try simp only [hl275002_44]); (try simp only [hl275003_44]); (try simp only [hl275004_44]); (with_reducible repeat (first | apply Kd.R_alloc | apply Kd.R_drewN | apply Kd.R_drew)); exact Kd.R_mono HO_275004.out (fun _ hk => hk.1.1)⟩, ⟨by (try simp only [hl275000_44]); (try simp only [hl275001_44]); (try simp only [hl275002_44]); (try simp only [hl275003_44]); (try simp only [hl275004_44]); (with_reducible repeat (first | refine blk_drewN ?_ _ | refine blk_drew ?_ | refine blk_alloc ?_ _)); exact BK230.out⟩, ⟨by (try simp only [hl275000_44]); (try simp only [hl275001_44]); (try simp only [hl275002_44]); (try simp only [hl275003_44]); (try simp only [hl275004_44]); (with_reducible repeat (first | refine blk_drewN ?_ _ | refine blk_drew ?_ | refine blk_alloc ?_ _)); exact BK274.out⟩, ⟨bA HB.out⟩⟩
         case rest =>
          clear HC71
          try clear c1
          try clear c2
          try clear p2
          try clear c3
          try clear c3b0
          try clear c4
          try clear c5
          try clear c6
          try clear c7
          try clear c8
          try clear c9
          try clear c15
          try clear c17
          try clear c19
          try clear c27
          try clear c30
          try clear c31
          try clear c32
          try clear c33
          try clear c34
          try clear c35
          try clear c40
          try clear c43
          try clear c54
          try clear c57
          try clear c57b0
          try clear c59
          try clear c64
          try clear c67
          try clear c67b0
          try clear c68
          try clear c68b0
          try clear c68b1
          try clear c74
          try clear c84
          try clear hcz13_0 hcz13_1 hcz13_2 hcz13_3 hcz13_4 hcz13_5 hcz13_6 hcz13_7 hcz13_8
          try clear hcz15_0 hcz15_1 hcz15_2 hcz15_3 hcz15_4 hcz15_5 hcz15_6 hcz15_7 hcz15_8
          try clear hcz23_0 hcz23_1 hcz23_2 hcz23_3 hcz23_4 hcz23_5 hcz23_6 hcz23_7 hcz23_8
          try clear hcz28_0 hcz28_1 hcz28_2 hcz28_3 hcz28_4 hcz28_5 hcz28_6 hcz28_7 hcz28_8
          try clear hcz55_0 hcz55_1 hcz55_2 hcz55_3 hcz55_4 hcz55_5 hcz55_6 hcz55_7 hcz55_8
          try clear hcz5_0 hcz5_1 hcz5_2 hcz5_3 hcz5_4 hcz5_5 hcz5_6 hcz5_7 hcz5_8
          try clear hcz75_0 hcz75_1 hcz75_2 hcz75_3 hcz75_4 hcz75_5 hcz75_6 hcz75_7 hcz75_8
          try clear hfz13_0 hfz13_1 hfz13_2 hfz13_3 hfz13_4 hfz13_5 hfz13_6 hfz13_7 hfz13_8
          try clear hfz15_0 hfz15_1 hfz15_2 hfz15_3 hfz15_4 hfz15_5 hfz15_6 hfz15_7 hfz15_8
          try clear hfz23_0 hfz23_1 hfz23_2 hfz23_3 hfz23_4 hfz23_5 hfz23_6 hfz23_7 hfz23_8
          try clear hfz28_0 hfz28_1 hfz28_2 hfz28_3 hfz28_4 hfz28_5 hfz28_6 hfz28_7 hfz28_8
          try clear hfz55_0 hfz55_1 hfz55_2 hfz55_3 hfz55_4 hfz55_5 hfz55_6 hfz55_7 hfz55_8
          try clear hfz5_0 hfz5_1 hfz5_2 hfz5_3 hfz5_4 hfz5_5 hfz5_6 hfz5_7 hfz5_8
          try clear hfz75_0 hfz75_1 hfz75_2 hfz75_3 hfz75_4 hfz75_5 hfz75_6 hfz75_7 hfz75_8
          try clear p2
          obtain ⟨kq, x87_70, rfl, HA, HJ70, HO_7, HO_275000, HO_275001, HO_275002, HO_275003, HO_275004, BK230, BK274, HB⟩ := hcut
          have hl7_70 := (Kd.R_reads' HO_7.out).1
          rw [hl7_70] at HO_7
          (try simp only [hl7_70])
          (try simp only [hl7_70] at BK230)
          (try simp only [hl7_70] at BK274)
          (try simp only [hl7_70] at HO_275000)
          (try simp only [hl7_70] at HO_275001)
          (try simp only [hl7_70] at HO_275002)
          (try simp only [hl7_70] at HO_275003)
          (try simp only [hl7_70] at HO_275004)
          cases kq with
          | zero => exact absurd HA.out (by simp [laws_FnExactContributions.j2])
          | succ kj70 =>
           have H := HA.out
           clear HA
           simp only [laws_FnExactContributions.j2] at H
           by_cases c89 : x87_70 = true
           ·subst c89
            rw [if_pos rfl] at H
            try dsimp only at H
            exact absurd H (by simp)
           ·replace c89 := Bool.eq_false_iff.mpr c89
            subst c89
            rw [if_neg (show ¬ (false = true) by decide)] at H
            try dsimp only at H
            obtain ⟨t334, A900, H⟩ := Option.bind_eq_some_iff.mp H
            try dsimp only at H
            have A90 := Aside0.mk A900
            clear A900
            by_cases c91 : t334 < 0
            ·rw [if_pos c91] at H
             exact absurd H (by simp)
            rw [if_neg c91] at H
            have c91b0 : decide (t334 < 0) = false := decide_eq_false c91
            clear c91
            by_cases c92 : t334 = t307
            rotate_left
            ·rw [if_neg c92] at H
             exact absurd H (by simp)
            rw [if_pos c92] at H
            have c92b0 : (t334 == t307) = true := beq_iff_eq.mpr c92
            have c92b1 : (t334 != t307) = false := bne_eq_false_iff_eq.mpr c92
            clear c92
            obtain rfl := Option.some.inj H
            go_wp2_with (first | ((with_reducible refine gate_callee (f := 33) rfl ?_); refine gL (some 90) Try.func33 #[.slice Ao72 t308.length co72, .int .i64 1] ?_; (with_reducible refine (laws_heldInt64S.calls kj70 _ _ t308 1 t334 _ ?side1 ?side2 A90.out).mono ?_); (case side1 => exact cA ((Kd.R_reads' HO_7.out).2.2)); (case side2 => exact (Kd.R_reads' HO_7.out).2.1); rintro e w' ⟨rfl, ⟨nd, rfl⟩⟩; refine ⟨_, rfl, ?_⟩))
            go_ret
            exact ⟨by first | rfl | (simp [errW_none, errW_some] <;> rfl) | (simp [*, errW_none, errW_some] <;> rfl), bA HB.out⟩
     ·replace c43 := Bool.eq_false_iff.mpr c43
      subst c43
      rw [if_neg (show ¬ (false = true) by decide)] at H
      try dsimp only at H
      exact absurd H (by simp)
end Go.Proofs.Ytmcobmphmmgdmaa.QFnExactContributions
