import Derived.Test.YtmcobmphmmgdmaaZFnExactIsLegalx0
import Derived.Test.YtmcobmphmmgdmaaZFnExactIsLegalx1
import Derived.Test.YtmcobmphmmgdmaaZFnExactIsLegalx2
import Derived.Test.YtmcobmphmmgdmaaZFnExactIsLegalx7
import Derived.Test.YtmcobmphmmgdmaaZFnExactIsLegalx13
namespace Go.Proofs.Ytmcobmphmmgdmaa.QFnExactIsLegal
open Go.RowKit Go.Proofs.YtmcobmphmmgdmaaW.PrintWords Go.Proofs.YtmcobmphmmgdmaaW.PrintLast Go.Proofs.YtmcobmphmmgdmaaW.PrintMore
attribute [local go_sem] max2_int min2_int max_two min_two max_three min_three max_four min_four
set_option linter.unusedVariables false
set_option linter.unusedSimpArgs false
def laws_FnExactIsLegal.f (k : Nat) (l0_0 : List Int) (l0_1 : List Int) (l0_2 : List Int) (l0_3 : List Bool) (l0_4 : List Bool) (a0_5 : Int) (a0_6 : Int) (a0_7 : Int) (a0_8 : Int) (a1_0 : Int) (a1_1 : Int) : Option (Bool) := (laws_szBetting.f l0_0 l0_1 l0_2 l0_3 l0_4 a0_5 a0_6 a0_7 a0_8 1048576).bind fun t263 => (if t263 < 0 then (some true) else ((laws_toBetting.f k l0_0 l0_1 l0_2 l0_3 l0_4 a0_5 a0_6 a0_7 a0_8).bind fun bt264 => ((laws_toAction.f a1_0 a1_1).bind fun bt283 => ((spec_IsLegal.f k bt264.1 bt264.2.1 bt264.2.2.1 bt264.2.2.2.1 bt264.2.2.2.2.1 bt264.2.2.2.2.2.1 bt264.2.2.2.2.2.2.1 bt264.2.2.2.2.2.2.2.1 bt264.2.2.2.2.2.2.2.2 bt283.1 bt283.2).bind fun t285 => ((laws_toBetting.f k l0_0 l0_1 l0_2 l0_3 l0_4 a0_5 a0_6 a0_7 a0_8).bind fun bt286 => ((laws_toAction.f a1_0 a1_1).bind fun bt306 => ((impl_IsLegal.f k bt286.1 bt286.2.1 bt286.2.2.1 bt286.2.2.2.1 bt286.2.2.2.2.1 bt286.2.2.2.2.2.1 bt286.2.2.2.2.2.2.1 bt286.2.2.2.2.2.2.2.1 bt286.2.2.2.2.2.2.2.2 bt306.1 bt306.2).bind fun t308 => (if (t308 != t285) = true then (none) else ((laws_toBetting.f k l0_0 l0_1 l0_2 l0_3 l0_4 a0_5 a0_6 a0_7 a0_8).bind fun bt309 => ((laws_eqBetting.f k bt286.1 bt286.2.1 bt286.2.2.1 bt286.2.2.2.1 bt286.2.2.2.2.1 bt286.2.2.2.2.2.1 bt286.2.2.2.2.2.2.1 bt286.2.2.2.2.2.2.2.1 bt286.2.2.2.2.2.2.2.2 bt309.1 bt309.2.1 bt309.2.2.1 bt309.2.2.2.1 bt309.2.2.2.2.1 bt309.2.2.2.2.2.1 bt309.2.2.2.2.2.2.1 bt309.2.2.2.2.2.2.2.1 bt309.2.2.2.2.2.2.2.2).bind fun t328 => (if t328 = true then (some true) else (none))))))))))))
theorem laws_FnExactIsLegal.mono : ∀ a0 a1 a2 a3 a4 a5 a6 a7 a8 a9 a10 k, LeO (laws_FnExactIsLegal.f k a0 a1 a2 a3 a4 a5 a6 a7 a8 a9 a10) (laws_FnExactIsLegal.f (k + 1) a0 a1 a2 a3 a4 a5 a6 a7 a8 a9 a10) := by
 intro a0 a1 a2 a3 a4 a5 a6 a7 a8 a9 a10 k
 unfold laws_FnExactIsLegal.f
 repeat' first
   | (with_reducible exact impl_IsLegal.mono _ _ _ _ _ _ _ _ _ _ _ _)
   | (with_reducible exact laws_eqBetting.mono _ _ _ _ _ _ _ _ _ _ _ _ _ _ _ _ _ _ _)
   | (with_reducible exact laws_toBetting.mono _ _ _ _ _ _ _ _ _ _)
   | (with_reducible exact spec_IsLegal.mono _ _ _ _ _ _ _ _ _ _ _ _)
   | (with_reducible exact LeO.refl _)
   | (with_reducible exact LeO.none _)
   | (with_reducible refine LeO.ite ?_ ?_)
   | (with_reducible refine LeO.bind ?_ (fun _ => ?_))
   | exact impl_IsLegal.mono _ _ _ _ _ _ _ _ _ _ _ _
   | exact laws_eqBetting.mono _ _ _ _ _ _ _ _ _ _ _ _ _ _ _ _ _ _ _
   | exact laws_toBetting.mono _ _ _ _ _ _ _ _ _ _
   | exact spec_IsLegal.mono _ _ _ _ _ _ _ _ _ _ _ _
   | exact LeO.none _
   | refine LeO.ite ?_ ?_
   | refine LeO.bind ?_ (fun _ => ?_)
set_option maxHeartbeats 8000000 in
set_option maxRecDepth 100000 in
theorem laws_FnExactIsLegal.calls (k : Nat) (A0_0 : Option Addr) (c0_0 : Nat) (l0_0 : List Int) (A0_1 : Option Addr) (c0_1 : Nat) (l0_1 : List Int) (A0_2 : Option Addr) (c0_2 : Nat) (l0_2 : List Int) (A0_3 : Option Addr) (c0_3 : Nat) (l0_3 : List Bool) (A0_4 : Option Addr) (c0_4 : Nat) (l0_4 : List Bool) (a0_5 : Int) (a0_6 : Int) (a0_7 : Int) (a0_8 : Int) (a1_0 : Int) (a1_1 : Int) (r : Bool) (w : World) (hr0_0 : Kd.C (Kd.int .i64) w A0_0 l0_0.length l0_0) (hc0_0 : l0_0.length ≤ c0_0) (hr0_1 : Kd.C (Kd.int .i64) w A0_1 l0_1.length l0_1) (hc0_1 : l0_1.length ≤ c0_1) (hr0_2 : Kd.C (Kd.int .i64) w A0_2 l0_2.length l0_2) (hc0_2 : l0_2.length ≤ c0_2) (hr0_3 : Kd.C Kd.bool w A0_3 l0_3.length l0_3) (hc0_3 : l0_3.length ≤ c0_3) (hr0_4 : Kd.C Kd.bool w A0_4 l0_4.length l0_4) (hc0_4 : l0_4.length ≤ c0_4) (h : laws_FnExactIsLegal.f k l0_0 l0_1 l0_2 l0_3 l0_4 a0_5 a0_6 a0_7 a0_8 a1_0 a1_1 = some r) :
  Calls Try.prog 12 #[.agg #[.slice A0_0 l0_0.length c0_0, .slice A0_1 l0_1.length c0_1, .slice A0_2 l0_2.length c0_2, .slice A0_3 l0_3.length c0_3, .slice A0_4 l0_4.length c0_4, .int .i64 a0_5, .int .i64 a0_6, .int .i64 a0_7, .int .i64 a0_8], .agg #[.int .i64 a1_0, .int .i64 a1_1]] w fun e w' => e = .returned (.bool r) ∧ Below w.heap.size w w' := by
 have hu25 := Try.underlying25
 have hu45 := Try.underlying45
 have hu28 := Try.underlying28
 have HR0_0 := Aside0.mk hr0_0
 have HC0_0 := Aside0.mk hc0_0
 clear hr0_0 hc0_0
 have HR0_1 := Aside0.mk hr0_1
 have HC0_1 := Aside0.mk hc0_1
 clear hr0_1 hc0_1
 have HR0_2 := Aside0.mk hr0_2
 have HC0_2 := Aside0.mk hc0_2
 clear hr0_2 hc0_2
 have HR0_3 := Aside0.mk hr0_3
 have HC0_3 := Aside0.mk hc0_3
 clear hr0_3 hc0_3
 have HR0_4 := Aside0.mk hr0_4
 have HC0_4 := Aside0.mk hc0_4
 clear hr0_4 hc0_4
 have HB := Aside0.mk (Below.refl w.heap.size w)
 have H : ((laws_szBetting.f l0_0 l0_1 l0_2 l0_3 l0_4 a0_5 a0_6 a0_7 a0_8 1048576).bind fun t263 => (if t263 < 0 then (some true) else ((laws_toBetting.f k l0_0 l0_1 l0_2 l0_3 l0_4 a0_5 a0_6 a0_7 a0_8).bind fun bt264 => ((laws_toAction.f a1_0 a1_1).bind fun bt283 => ((spec_IsLegal.f k bt264.1 bt264.2.1 bt264.2.2.1 bt264.2.2.2.1 bt264.2.2.2.2.1 bt264.2.2.2.2.2.1 bt264.2.2.2.2.2.2.1 bt264.2.2.2.2.2.2.2.1 bt264.2.2.2.2.2.2.2.2 bt283.1 bt283.2).bind fun t285 => ((laws_toBetting.f k l0_0 l0_1 l0_2 l0_3 l0_4 a0_5 a0_6 a0_7 a0_8).bind fun bt286 => ((laws_toAction.f a1_0 a1_1).bind fun bt306 => ((impl_IsLegal.f k bt286.1 bt286.2.1 bt286.2.2.1 bt286.2.2.2.1 bt286.2.2.2.2.1 bt286.2.2.2.2.2.1 bt286.2.2.2.2.2.2.1 bt286.2.2.2.2.2.2.2.1 bt286.2.2.2.2.2.2.2.2 bt306.1 bt306.2).bind fun t308 => (if (t308 != t285) = true then (none) else ((laws_toBetting.f k l0_0 l0_1 l0_2 l0_3 l0_4 a0_5 a0_6 a0_7 a0_8).bind fun bt309 => ((laws_eqBetting.f k bt286.1 bt286.2.1 bt286.2.2.1 bt286.2.2.2.1 bt286.2.2.2.2.1 bt286.2.2.2.2.2.1 bt286.2.2.2.2.2.2.1 bt286.2.2.2.2.2.2.2.1 bt286.2.2.2.2.2.2.2.2 bt309.1 bt309.2.1 bt309.2.2.1 bt309.2.2.2.1 bt309.2.2.2.2.1 bt309.2.2.2.2.2.1 bt309.2.2.2.2.2.2.1 bt309.2.2.2.2.2.2.2.1 bt309.2.2.2.2.2.2.2.2).bind fun t328 => (if t328 = true then (some true) else (none))))))))))))) = some r := h
 clear h
 obtain ⟨t263, A30, H⟩ := Option.bind_eq_some_iff.mp H
 try dsimp only at H
 have A3 := Aside0.mk A30
 clear A30
 by_cases c4 : t263 < 0
 ·rw [if_pos c4] at H
  have c4b0 : decide (t263 < 0) = true := decide_eq_true c4
  clear c4
  obtain rfl := Option.some.inj H
  go_enter Try.func12, Try.ntmps12
  go_wp2_with (first | ((with_reducible refine gate_dst (N := 2) rfl ?_); refine bE 2 #[.slice A0_0 l0_0.length c0_0, .slice A0_1 l0_1.length c0_1, .slice A0_2 l0_2.length c0_2, .slice A0_3 l0_3.length c0_3, .slice A0_4 l0_4.length c0_4, .int .i64 a0_5, .int .i64 a0_6, .int .i64 a0_7, .int .i64 a0_8] 25 ?_; intro gb261 hg w5 hbox hb; have BK261 := Aside0.mk (hbox); have GW261 := Aside0.mk (gE hg (bA HB.out)); have GE261 := Aside0.mk (gE hg (bA HB.out)); replace HB := Aside0.mk (below_step (bA HB.out) hb); clear hb hbox hg) | ((with_reducible refine gate_dst (N := 3) rfl ?_); refine bE 3 #[.int .i64 a1_0, .int .i64 a1_1] 45 ?_; intro gb262 hg w6 hbox hb; have BK262 := Aside0.mk (hbox); have GW262 := Aside0.mk (gE hg (bA HB.out)); have GE262 := Aside0.mk (gE hg (bA HB.out)); replace HB := Aside0.mk (below_step (bA HB.out) hb); have NB261_262 := Aside0.mk ((by rw [hg]; exact Nat.ne_of_lt (blk_lt (kA BK261.out)) : gb261 ≠ gb262)); have NB262_261 := Aside0.mk ((by rw [hg]; exact Nat.ne_of_gt (blk_lt (kA BK261.out)) : gb262 ≠ gb261)); replace BK261 := Aside0.mk (blk_below (kA BK261.out) hb); clear hb hbox hg; have hnb7 := NB261_262.out; have hnc7 := NB262_261.out; obtain ⟨hcz8_0, hcz8_1, hcz8_2, hcz8_3, hcz8_4, hcz8_5, hcz8_6, hcz8_7, hcz8_8, hfz8_0, hfz8_1, hfz8_2, hfz8_3, hfz8_4, hfz8_5, hfz8_6, hfz8_7, hfz8_8⟩ := cz9 BK261.out) | ((with_reducible refine gate_callee (f := 15) rfl ?_); refine gL (some 11) Try.func15 #[.agg #[.slice A0_0 l0_0.length c0_0, .slice A0_1 l0_1.length c0_1, .slice A0_2 l0_2.length c0_2, .slice A0_3 l0_3.length c0_3, .slice A0_4 l0_4.length c0_4, .int .i64 a0_5, .int .i64 a0_6, .int .i64 a0_7, .int .i64 a0_8], .int .i64 1048576] ?_; (with_reducible refine (laws_szBetting.calls _ _ l0_0 _ _ l0_1 _ _ l0_2 _ _ l0_3 _ _ l0_4 a0_5 a0_6 a0_7 a0_8 1048576 t263 _ ?side1 ?side2 ?side3 ?side4 ?side5 ?side6 ?side7 ?side8 ?side9 ?side10 A3.out).mono ?_); (case side1 => exact cA (Kd.C_below HR0_0.out HB.out)); (case side2 => exact HC0_0.out); (case side3 => exact cA (Kd.C_below HR0_1.out HB.out)); (case side4 => exact HC0_1.out); (case side5 => exact cA (Kd.C_below HR0_2.out HB.out)); (case side6 => exact HC0_2.out); (case side7 => exact cA (Kd.C_below HR0_3.out HB.out)); (case side8 => exact HC0_3.out); (case side9 => exact cA (Kd.C_below HR0_4.out HB.out)); (case side10 => exact HC0_4.out); rintro e w9 ⟨rfl, hb⟩; refine ⟨_, rfl, ?_⟩; replace BK261 := Aside0.mk (blk_below (kA BK261.out) hb); replace BK262 := Aside0.mk (blk_below (kA BK262.out) hb); replace HB := Aside0.mk (below_step (bA HB.out) hb); (try clear hb)))
  go_ret
  exact ⟨by first | rfl | (simp [errW_none, errW_some] <;> rfl) | (simp [*, errW_none, errW_some] <;> rfl), bA HB.out⟩
 ·rw [if_neg c4] at H
  have c4b0 : decide (t263 < 0) = false := decide_eq_false c4
  clear c4
  obtain ⟨⟨t264, t267, t270, t273, t276, t279, t280, t281, t282⟩, A100, H⟩ := Option.bind_eq_some_iff.mp H
  try dsimp only at H
  have A10 := Aside0.mk A100
  clear A100
  obtain ⟨⟨t283, t284⟩, A110, H⟩ := Option.bind_eq_some_iff.mp H
  try dsimp only at H
  have A11 := Aside0.mk A110
  clear A110
  obtain ⟨t285, A120, H⟩ := Option.bind_eq_some_iff.mp H
  try dsimp only at H
  have A12 := Aside0.mk A120
  clear A120
  obtain ⟨⟨t286, t289, t292, t295, t298, t301, t302, t303, t304⟩, A130, H⟩ := Option.bind_eq_some_iff.mp H
  try dsimp only at H
  have A13 := Aside0.mk A130
  clear A130
  obtain ⟨⟨t306, t307⟩, A140, H⟩ := Option.bind_eq_some_iff.mp H
  try dsimp only at H
  have A14 := Aside0.mk A140
  clear A140
  obtain ⟨t308, A150, H⟩ := Option.bind_eq_some_iff.mp H
  try dsimp only at H
  have A15 := Aside0.mk A150
  clear A150
  by_cases c16 : (t308 != t285) = true
  ·rw [if_pos c16] at H
   exact absurd H (by simp)
  ·rw [if_neg c16] at H
   have c16b0 : (t308 != t285) = false := by simpa using c16
   (try (have c16b1 : decide (t308 = t285) = true := by simpa using c16))
   (try (have c16b2 : (t308 == t285) = true := by simpa using c16))
   clear c16
   obtain ⟨⟨t309, t312, t315, t318, t321, t324, t325, t326, t327⟩, A170, H⟩ := Option.bind_eq_some_iff.mp H
   try dsimp only at H
   have A17 := Aside0.mk A170
   clear A170
   obtain ⟨t328, A180, H⟩ := Option.bind_eq_some_iff.mp H
   try dsimp only at H
   have A18 := Aside0.mk A180
   clear A180
   by_cases c19 : t328 = true
   ·subst c19
    rw [if_pos rfl] at H
    try dsimp only at H
    obtain rfl := Option.some.inj H
    go_enter Try.func12, Try.ntmps12
    try go_wp2_with (first | ((with_reducible refine gate_dst (N := 2) rfl ?_); refine bE 2 #[.slice A0_0 l0_0.length c0_0, .slice A0_1 l0_1.length c0_1, .slice A0_2 l0_2.length c0_2, .slice A0_3 l0_3.length c0_3, .slice A0_4 l0_4.length c0_4, .int .i64 a0_5, .int .i64 a0_6, .int .i64 a0_7, .int .i64 a0_8] 25 ?_; intro gb261 hg w20 hbox hb; have BK261 := Aside0.mk (hbox); have GW261 := Aside0.mk (gE hg (bA HB.out)); have GE261 := Aside0.mk (gE hg (bA HB.out)); replace HB := Aside0.mk (below_step (bA HB.out) hb); clear hb hbox hg) | ((with_reducible refine gate_dst (N := 3) rfl ?_); refine bE 3 #[.int .i64 a1_0, .int .i64 a1_1] 45 ?_; intro gb262 hg w21 hbox hb; have BK262 := Aside0.mk (hbox); have GW262 := Aside0.mk (gE hg (bA HB.out)); have GE262 := Aside0.mk (gE hg (bA HB.out)); replace HB := Aside0.mk (below_step (bA HB.out) hb); have NB261_262 := Aside0.mk ((by rw [hg]; exact Nat.ne_of_lt (blk_lt (kA BK261.out)) : gb261 ≠ gb262)); have NB262_261 := Aside0.mk ((by rw [hg]; exact Nat.ne_of_gt (blk_lt (kA BK261.out)) : gb262 ≠ gb261)); replace BK261 := Aside0.mk (blk_below (kA BK261.out) hb); clear hb hbox hg; have hnb22 := NB261_262.out; have hnc22 := NB262_261.out; obtain ⟨hcz23_0, hcz23_1, hcz23_2, hcz23_3, hcz23_4, hcz23_5, hcz23_6, hcz23_7, hcz23_8, hfz23_0, hfz23_1, hfz23_2, hfz23_3, hfz23_4, hfz23_5, hfz23_6, hfz23_7, hfz23_8⟩ := cz9 BK261.out) | ((with_reducible refine gate_callee (f := 15) rfl ?_); refine gL (some 11) Try.func15 #[.agg #[.slice A0_0 l0_0.length c0_0, .slice A0_1 l0_1.length c0_1, .slice A0_2 l0_2.length c0_2, .slice A0_3 l0_3.length c0_3, .slice A0_4 l0_4.length c0_4, .int .i64 a0_5, .int .i64 a0_6, .int .i64 a0_7, .int .i64 a0_8], .int .i64 1048576] ?_; (with_reducible refine (laws_szBetting.calls _ _ l0_0 _ _ l0_1 _ _ l0_2 _ _ l0_3 _ _ l0_4 a0_5 a0_6 a0_7 a0_8 1048576 t263 _ ?side1 ?side2 ?side3 ?side4 ?side5 ?side6 ?side7 ?side8 ?side9 ?side10 A3.out).mono ?_); (case side1 => exact cA (Kd.C_below HR0_0.out HB.out)); (case side2 => exact HC0_0.out); (case side3 => exact cA (Kd.C_below HR0_1.out HB.out)); (case side4 => exact HC0_1.out); (case side5 => exact cA (Kd.C_below HR0_2.out HB.out)); (case side6 => exact HC0_2.out); (case side7 => exact cA (Kd.C_below HR0_3.out HB.out)); (case side8 => exact HC0_3.out); (case side9 => exact cA (Kd.C_below HR0_4.out HB.out)); (case side10 => exact HC0_4.out); rintro e w24 ⟨rfl, hb⟩; refine ⟨_, rfl, ?_⟩; replace BK261 := Aside0.mk (blk_below (kA BK261.out) hb); replace BK262 := Aside0.mk (blk_below (kA BK262.out) hb); replace HB := Aside0.mk (below_step (bA HB.out) hb); (try clear hb)))
    replace BK261 := Aside0.mk (blk_drew BK261.out)
    replace BK262 := Aside0.mk (blk_drew BK262.out)
    replace HB := Aside0.mk (below_drew1 HB.out)
    refine start_ (n := 6) (S := fun w' => w'.cell? ⟨gb261, 0, none⟩ = some (.slice A0_0 l0_0.length c0_0) ∧ w'.cell? ⟨gb261, 1, none⟩ = some (.slice A0_1 l0_1.length c0_1) ∧ w'.cell? ⟨gb261, 2, none⟩ = some (.slice A0_2 l0_2.length c0_2) ∧ w'.cell? ⟨gb261, 3, none⟩ = some (.slice A0_3 l0_3.length c0_3) ∧ w'.cell? ⟨gb261, 4, none⟩ = some (.slice A0_4 l0_4.length c0_4) ∧ w'.cell? ⟨gb261, 5, none⟩ = some (.int .i64 a0_5) ∧ w'.cell? ⟨gb261, 6, none⟩ = some (.int .i64 a0_6) ∧ w'.cell? ⟨gb261, 7, none⟩ = some (.int .i64 a0_7) ∧ w'.cell? ⟨gb261, 8, none⟩ = some (.int .i64 a0_8) ∧ w'.cell? ⟨gb262, 0, none⟩ = some (.int .i64 a1_0) ∧ w'.cell? ⟨gb262, 1, none⟩ = some (.int .i64 a1_1)) (ds := []) #[false, false, false, false, false, false] (by kernel_rfl) rfl rfl ⟨(blk_cell BK261.out 0).trans rfl, (blk_cell BK261.out 1).trans rfl, (blk_cell BK261.out 2).trans rfl, (blk_cell BK261.out 3).trans rfl, (blk_cell BK261.out 4).trans rfl, (blk_cell BK261.out 5).trans rfl, (blk_cell BK261.out 6).trans rfl, (blk_cell BK261.out 7).trans rfl, (blk_cell BK261.out 8).trans rfl, (blk_cell BK262.out 0).trans rfl, (blk_cell BK262.out 1).trans rfl⟩ (fun hHeld => ?_)
    generalize w24.drew = w25 at BK261 BK262 HB hHeld ⊢
    refine take_ (i := 0) (N := some 14) (v := ?_) (a' := ?_) #[true, false, false, false, false, false] rfl rfl (by kernel_rfl) (fun _ _ _ h => h) (Or.inl ⟨by rfl, ?_⟩) hHeld ?_ ?_
    rotate_left
    ·rintro w' ⟨s0, s1, s2, s3, s4, s5, s6, s7, s8, s9, s10⟩
     go_simp
     with_reducible rfl
    rotate_left
    ·simp only [Act.put, List.setIfInBounds_toArray, List.set_cons_zero, List.set_cons_succ, i64_w, i32_w]
     rfl
    refine take_ (i := 2) (N := some 16) (v := ?_) (a' := ?_) #[true, false, true, false, false, false] rfl rfl (by kernel_rfl) (fun _ _ _ h => h) (Or.inl ⟨by rfl, ?_⟩) hHeld ?_ ?_
    rotate_left
    ·rintro w' ⟨s0, s1, s2, s3, s4, s5, s6, s7, s8, s9, s10⟩
     go_simp
     with_reducible rfl
    rotate_left
    ·simp only [Act.put, List.setIfInBounds_toArray, List.set_cons_zero, List.set_cons_succ, i64_w, i32_w]
     rfl
    refine one_ (i := 1) (N := some 15) #[true, true, true, false, false, false] rfl rfl (by kernel_rfl) (by decide) (fun K hK => ?_)
    refine gO Try.func17 #[.agg #[.slice A0_0 l0_0.length c0_0, .slice A0_1 l0_1.length c0_1, .slice A0_2 l0_2.length c0_2, .slice A0_3 l0_3.length c0_3, .slice A0_4 l0_4.length c0_4, .int .i64 a0_5, .int .i64 a0_6, .int .i64 a0_7, .int .i64 a0_8]] ?_
    with_reducible refine (laws_toBetting.calls k _ _ l0_0 _ _ l0_1 _ _ l0_2 _ _ l0_3 _ _ l0_4 a0_5 a0_6 a0_7 a0_8 t264 t267 t270 t273 t276 t279 t280 t281 t282 _ ?side1 ?side2 ?side3 ?side4 ?side5 ?side6 ?side7 ?side8 ?side9 ?side10 A10.out).mono ?_
    (case side1 => exact cA (Kd.C_below HR0_0.out HB.out))
    (case side2 => exact HC0_0.out)
    (case side3 => exact cA (Kd.C_below HR0_1.out HB.out))
    (case side4 => exact HC0_1.out)
    (case side5 => exact cA (Kd.C_below HR0_2.out HB.out))
    (case side6 => exact HC0_2.out)
    (case side7 => exact cA (Kd.C_below HR0_3.out HB.out))
    (case side8 => exact HC0_3.out)
    (case side9 => exact cA (Kd.C_below HR0_4.out HB.out))
    (case side10 => exact HC0_4.out)
    rintro e w26 ⟨v265, v268, v271, v274, v277, rfl, ho0, ho1, ho2, ho3, ho4, hb⟩
    refine ⟨_, rfl, ?_⟩
    have HO266 := Aside0.mk (Kd.R_lower ho0 (below_size (bA HB.out)))
    have HO269 := Aside0.mk (Kd.R_lower ho1 (below_size (bA HB.out)))
    have HO272 := Aside0.mk (Kd.R_lower ho2 (below_size (bA HB.out)))
    have HO275 := Aside0.mk (Kd.R_lower ho3 (below_size (bA HB.out)))
    have HO278 := Aside0.mk (Kd.R_lower ho4 (below_size (bA HB.out)))
    replace BK261 := Aside0.mk (blk_below (kA BK261.out) hb)
    replace BK262 := Aside0.mk (blk_below (kA BK262.out) hb)
    replace HB := Aside0.mk (below_step (bA HB.out) hb)
    (try clear hb)
    (try clear ho0)
    (try clear ho1)
    (try clear ho2)
    (try clear ho3)
    (try clear ho4)
    refine hK.out _ _ ⟨(blk_cell BK261.out 0).trans rfl, (blk_cell BK261.out 1).trans rfl, (blk_cell BK261.out 2).trans rfl, (blk_cell BK261.out 3).trans rfl, (blk_cell BK261.out 4).trans rfl, (blk_cell BK261.out 5).trans rfl, (blk_cell BK261.out 6).trans rfl, (blk_cell BK261.out 7).trans rfl, (blk_cell BK261.out 8).trans rfl, (blk_cell BK262.out 0).trans rfl, (blk_cell BK262.out 1).trans rfl⟩ (fun hHeld => ?_)
    clear hK K
    refine nO 15 ?_
    refine one_ (i := 3) (N := some 17) #[true, true, true, true, false, false] rfl rfl (by kernel_rfl) (by decide) (fun K hK => ?_)
    refine gO Try.func42 #[.agg #[.int .i64 a1_0, .int .i64 a1_1]] ?_
    with_reducible refine (laws_toAction.calls a1_0 a1_1 t283 t284 _ A11.out).mono ?_
    rintro e w27 ⟨rfl, hb⟩
    refine ⟨_, rfl, ?_⟩
    replace HO266 := Aside0.mk (Kd.R_below (rA HO266.out) hb)
    replace HO269 := Aside0.mk (Kd.R_below (rA HO269.out) hb)
    replace HO272 := Aside0.mk (Kd.R_below (rA HO272.out) hb)
    replace HO275 := Aside0.mk (Kd.R_below (rA HO275.out) hb)
    replace HO278 := Aside0.mk (Kd.R_below (rA HO278.out) hb)
    replace BK261 := Aside0.mk (blk_below (kA BK261.out) hb)
    replace BK262 := Aside0.mk (blk_below (kA BK262.out) hb)
    replace HB := Aside0.mk (below_step (bA HB.out) hb)
    (try clear hb)
    obtain ⟨Ao28, co28, eo28⟩ := Kd.R_slice HO266.out
    (first | subst eo28 | (injection eo28 with f1_ f2_ f3_; have f4_ := f1_.symm; have f5_ := f3_.symm; clear f1_ f2_ f3_; subst f4_; subst f5_))
    obtain ⟨Ao29, co29, eo29⟩ := Kd.R_slice HO269.out
    (first | subst eo29 | (injection eo29 with f1_ f2_ f3_; have f4_ := f1_.symm; have f5_ := f3_.symm; clear f1_ f2_ f3_; subst f4_; subst f5_))
    obtain ⟨Ao30, co30, eo30⟩ := Kd.R_slice HO272.out
    (first | subst eo30 | (injection eo30 with f1_ f2_ f3_; have f4_ := f1_.symm; have f5_ := f3_.symm; clear f1_ f2_ f3_; subst f4_; subst f5_))
    obtain ⟨Ao31, co31, eo31⟩ := Kd.R_slice HO275.out
    (first | subst eo31 | (injection eo31 with f1_ f2_ f3_; have f4_ := f1_.symm; have f5_ := f3_.symm; clear f1_ f2_ f3_; subst f4_; subst f5_))
    obtain ⟨Ao32, co32, eo32⟩ := Kd.R_slice HO278.out
    (first | subst eo32 | (injection eo32 with f1_ f2_ f3_; have f4_ := f1_.symm; have f5_ := f3_.symm; clear f1_ f2_ f3_; subst f4_; subst f5_))
    refine hK.out _ _ ⟨(blk_cell BK261.out 0).trans rfl, (blk_cell BK261.out 1).trans rfl, (blk_cell BK261.out 2).trans rfl, (blk_cell BK261.out 3).trans rfl, (blk_cell BK261.out 4).trans rfl, (blk_cell BK261.out 5).trans rfl, (blk_cell BK261.out 6).trans rfl, (blk_cell BK261.out 7).trans rfl, (blk_cell BK261.out 8).trans rfl, (blk_cell BK262.out 0).trans rfl, (blk_cell BK262.out 1).trans rfl⟩ (fun hHeld => ?_)
    clear hK K
    refine nO 17 ?_
    refine one_ (i := 4) (N := some 18) #[true, true, true, true, true, false] rfl rfl (by kernel_rfl) (by decide) (fun K hK => ?_)
    refine gO Try.func41 #[.agg #[.slice Ao28 t264.length co28, .slice Ao29 t267.length co29, .slice Ao30 t270.length co30, .slice Ao31 t273.length co31, .slice Ao32 t276.length co32, .int .i64 t279, .int .i64 t280, .int .i64 t281, .int .i64 t282], .agg #[.int .i64 t283, .int .i64 t284]] ?_
    with_reducible refine (spec_IsLegal.calls k _ _ t264 _ _ t267 _ _ t270 _ _ t273 _ _ t276 t279 t280 t281 t282 t283 t284 t285 _ ?side1 ?side2 ?side3 ?side4 ?side5 ?side6 ?side7 ?side8 ?side9 ?side10 A12.out).mono ?_
    (case side1 => exact cA ((Kd.R_reads' HO266.out).2.2))
    (case side2 => exact (Kd.R_reads' HO266.out).2.1)
    (case side3 => exact cA ((Kd.R_reads' HO269.out).2.2))
    (case side4 => exact (Kd.R_reads' HO269.out).2.1)
    (case side5 => exact cA ((Kd.R_reads' HO272.out).2.2))
    (case side6 => exact (Kd.R_reads' HO272.out).2.1)
    (case side7 => exact cA ((Kd.R_reads' HO275.out).2.2))
    (case side8 => exact (Kd.R_reads' HO275.out).2.1)
    (case side9 => exact cA ((Kd.R_reads' HO278.out).2.2))
    (case side10 => exact (Kd.R_reads' HO278.out).2.1)
    rintro e w33 ⟨rfl, hb⟩
    refine ⟨_, rfl, ?_⟩
    replace HO266 := Aside0.mk (Kd.R_below (rA HO266.out) hb)
    replace HO269 := Aside0.mk (Kd.R_below (rA HO269.out) hb)
    replace HO272 := Aside0.mk (Kd.R_below (rA HO272.out) hb)
    replace HO275 := Aside0.mk (Kd.R_below (rA HO275.out) hb)
    replace HO278 := Aside0.mk (Kd.R_below (rA HO278.out) hb)
    replace BK261 := Aside0.mk (blk_below (kA BK261.out) hb)
    replace BK262 := Aside0.mk (blk_below (kA BK262.out) hb)
    replace HB := Aside0.mk (below_step (bA HB.out) hb)
    (try clear hb)
    refine hK.out _ _ ⟨(blk_cell BK261.out 0).trans rfl, (blk_cell BK261.out 1).trans rfl, (blk_cell BK261.out 2).trans rfl, (blk_cell BK261.out 3).trans rfl, (blk_cell BK261.out 4).trans rfl, (blk_cell BK261.out 5).trans rfl, (blk_cell BK261.out 6).trans rfl, (blk_cell BK261.out 7).trans rfl, (blk_cell BK261.out 8).trans rfl, (blk_cell BK262.out 0).trans rfl, (blk_cell BK262.out 1).trans rfl⟩ (fun hHeld => ?_)
    clear hK K
    refine nO 18 ?_
    refine pure_ (i := 5) (N := some 6) (v := ?_) (a' := ?_) #[true, true, true, true, true, true] rfl rfl (by kernel_rfl) (fun _ _ _ h => h) (Or.inl ⟨by rfl, ?_⟩) ?_ ?_
    rotate_left
    ·intro w'
     go_simp
     with_reducible rfl
    rotate_left
    ·simp only [Act.put, List.setIfInBounds_toArray, List.set_cons_zero, List.set_cons_succ, i64_w, i32_w]
     rfl
    refine done_ (by kernel_rfl) ?_
    obtain ⟨hcz34_0, hcz34_1, hcz34_2, hcz34_3, hcz34_4, hcz34_5, hcz34_6, hcz34_7, hcz34_8, hfz34_0, hfz34_1, hfz34_2, hfz34_3, hfz34_4, hfz34_5, hfz34_6, hfz34_7, hfz34_8⟩ := cz9 BK261.out
    try go_wp2_with (first | ((with_reducible refine gate_callee (f := 17) rfl ?_); refine gL (some 20) Try.func17 #[.agg #[.slice A0_0 l0_0.length c0_0, .slice A0_1 l0_1.length c0_1, .slice A0_2 l0_2.length c0_2, .slice A0_3 l0_3.length c0_3, .slice A0_4 l0_4.length c0_4, .int .i64 a0_5, .int .i64 a0_6, .int .i64 a0_7, .int .i64 a0_8]] ?_; (with_reducible refine (laws_toBetting.calls k _ _ l0_0 _ _ l0_1 _ _ l0_2 _ _ l0_3 _ _ l0_4 a0_5 a0_6 a0_7 a0_8 t286 t289 t292 t295 t298 t301 t302 t303 t304 _ ?side1 ?side2 ?side3 ?side4 ?side5 ?side6 ?side7 ?side8 ?side9 ?side10 A13.out).mono ?_); (case side1 => exact cA (Kd.C_below HR0_0.out HB.out)); (case side2 => exact HC0_0.out); (case side3 => exact cA (Kd.C_below HR0_1.out HB.out)); (case side4 => exact HC0_1.out); (case side5 => exact cA (Kd.C_below HR0_2.out HB.out)); (case side6 => exact HC0_2.out); (case side7 => exact cA (Kd.C_below HR0_3.out HB.out)); (case side8 => exact HC0_3.out); (case side9 => exact cA (Kd.C_below HR0_4.out HB.out)); (case side10 => exact HC0_4.out); rintro e w35 ⟨v287, v290, v293, v296, v299, rfl, ho0, ho1, ho2, ho3, ho4, hb⟩; refine ⟨_, rfl, ?_⟩; have HO288 := Aside0.mk (Kd.R_lower (Kd.R_new' (Kd.R_new' (Kd.R_new' ho0 (Kd.R_lt (rA HO266.out))) (Kd.R_lt (rA HO269.out))) (Kd.R_lt (rA HO272.out))) (below_size (bA HB.out))); have HO291 := Aside0.mk (Kd.R_lower (Kd.R_new' (Kd.R_new' (Kd.R_new' ho1 (Kd.R_lt (rA HO266.out))) (Kd.R_lt (rA HO269.out))) (Kd.R_lt (rA HO272.out))) (below_size (bA HB.out))); have HO294 := Aside0.mk (Kd.R_lower (Kd.R_new' (Kd.R_new' (Kd.R_new' ho2 (Kd.R_lt (rA HO266.out))) (Kd.R_lt (rA HO269.out))) (Kd.R_lt (rA HO272.out))) (below_size (bA HB.out))); replace HO266 := Aside0.mk (Kd.R_mono (Kd.R_told (Kd.R_told (Kd.R_told (Kd.R_old (rA HO266.out) hb) (Kd.R_base ho0)) (Kd.R_base ho1)) (Kd.R_base ho2)) (fun _ h_ => h_.1)); replace HO269 := Aside0.mk (Kd.R_mono (Kd.R_told (Kd.R_told (Kd.R_told (Kd.R_old (rA HO269.out) hb) (Kd.R_base ho0)) (Kd.R_base ho1)) (Kd.R_base ho2)) (fun _ h_ => h_.1)); replace HO272 := Aside0.mk (Kd.R_mono (Kd.R_told (Kd.R_told (Kd.R_told (Kd.R_old (rA HO272.out) hb) (Kd.R_base ho0)) (Kd.R_base ho1)) (Kd.R_base ho2)) (fun _ h_ => h_.1)); have HO297 := Aside0.mk (Kd.R_lower (Kd.R_new' (Kd.R_new' ho3 (Kd.R_lt (rA HO275.out))) (Kd.R_lt (rA HO278.out))) (below_size (bA HB.out))); have HO300 := Aside0.mk (Kd.R_lower (Kd.R_new' (Kd.R_new' ho4 (Kd.R_lt (rA HO275.out))) (Kd.R_lt (rA HO278.out))) (below_size (bA HB.out))); replace HO275 := Aside0.mk (Kd.R_mono (Kd.R_told (Kd.R_told (Kd.R_old (rA HO275.out) hb) (Kd.R_base ho3)) (Kd.R_base ho4)) (fun _ h_ => h_.1)); replace HO278 := Aside0.mk (Kd.R_mono (Kd.R_told (Kd.R_told (Kd.R_old (rA HO278.out) hb) (Kd.R_base ho3)) (Kd.R_base ho4)) (fun _ h_ => h_.1)); replace BK261 := Aside0.mk (blk_below (kA BK261.out) hb); replace BK262 := Aside0.mk (blk_below (kA BK262.out) hb); replace HB := Aside0.mk (below_step (bA HB.out) hb); (try clear hb); (try clear ho0); (try clear ho1); (try clear ho2); (try clear ho3); (try clear ho4)) | ((with_reducible refine gate_dst (N := 7) rfl ?_); refine bE 7 #[.slice none 0 0, .slice none 0 0, .slice none 0 0, .slice none 0 0, .slice none 0 0, .int .i64 0, .int .i64 0, .int .i64 0, .int .i64 0] 28 ?_; intro gb305 hg w36 hbox hb; replace HO266 := Aside0.mk (Kd.R_below (rA HO266.out) hb); replace HO269 := Aside0.mk (Kd.R_below (rA HO269.out) hb); replace HO272 := Aside0.mk (Kd.R_below (rA HO272.out) hb); replace HO275 := Aside0.mk (Kd.R_below (rA HO275.out) hb); replace HO278 := Aside0.mk (Kd.R_below (rA HO278.out) hb); replace HO288 := Aside0.mk (Kd.R_below (rA HO288.out) hb); replace HO291 := Aside0.mk (Kd.R_below (rA HO291.out) hb); replace HO294 := Aside0.mk (Kd.R_below (rA HO294.out) hb); replace HO297 := Aside0.mk (Kd.R_below (rA HO297.out) hb); replace HO300 := Aside0.mk (Kd.R_below (rA HO300.out) hb); have BK305 := Aside0.mk (hbox); have GW305 := Aside0.mk (gE hg (bA HB.out)); have GE305 := Aside0.mk (gE hg (bA HB.out)); replace HB := Aside0.mk (below_step (bA HB.out) hb); have NB261_305 := Aside0.mk ((by rw [hg]; exact Nat.ne_of_lt (blk_lt (kA BK261.out)) : gb261 ≠ gb305)); have NB305_261 := Aside0.mk ((by rw [hg]; exact Nat.ne_of_gt (blk_lt (kA BK261.out)) : gb305 ≠ gb261)); replace BK261 := Aside0.mk (blk_below (kA BK261.out) hb); have NB262_305 := Aside0.mk ((by rw [hg]; exact Nat.ne_of_lt (blk_lt (kA BK262.out)) : gb262 ≠ gb305)); have NB305_262 := Aside0.mk ((by rw [hg]; exact Nat.ne_of_gt (blk_lt (kA BK262.out)) : gb305 ≠ gb262)); replace BK262 := Aside0.mk (blk_below (kA BK262.out) hb); clear hb hbox hg; obtain ⟨Ao37, co37, eo37⟩ := Kd.R_slice HO288.out; subst eo37; have hnb38 := NB305_261.out; have hnc38 := NB261_305.out; have hnb39 := NB305_262.out; have hnc39 := NB262_305.out; obtain ⟨hcz40_0, hcz40_1, hcz40_2, hcz40_3, hcz40_4, hcz40_5, hcz40_6, hcz40_7, hcz40_8, hfz40_0, hfz40_1, hfz40_2, hfz40_3, hfz40_4, hfz40_5, hfz40_6, hfz40_7, hfz40_8⟩ := cz9 BK305.out; obtain ⟨Ao41, co41, eo41⟩ := Kd.R_slice HO291.out; subst eo41; obtain ⟨Ao42, co42, eo42⟩ := Kd.R_slice HO294.out; subst eo42; obtain ⟨Ao43, co43, eo43⟩ := Kd.R_slice HO297.out; subst eo43; obtain ⟨Ao44, co44, eo44⟩ := Kd.R_slice HO300.out; subst eo44))
    have n0_ : Aside0 (Kd.R (Kd.int .i64) 2 (((((((((w36.setCell ⟨gb305, 0, none⟩ (.slice Ao37 t286.length co37)).setCell ⟨gb305, 1, none⟩ (.slice Ao41 t289.length co41)).setCell ⟨gb305, 2, none⟩ (.slice Ao42 t292.length co42)).setCell ⟨gb305, 3, none⟩ (.slice Ao43 t295.length co43)).setCell ⟨gb305, 4, none⟩ (.slice Ao44 t298.length co44)).setCell ⟨gb305, 5, none⟩ (.int .i64 t301)).setCell ⟨gb305, 6, none⟩ (.int .i64 t302)).setCell ⟨gb305, 7, none⟩ (.int .i64 t303)).setCell ⟨gb305, 8, none⟩ (.int .i64 t304)) w.heap.size (fun k_ => some k_ ≠ (.slice Ao29 t267.length co29 : Value).ownBlock ∧ some k_ ≠ (.slice Ao30 t270.length co30 : Value).ownBlock ∧ some k_ ≠ (.slice Ao37 t286.length co37 : Value).ownBlock ∧ some k_ ≠ (.slice Ao41 t289.length co41 : Value).ownBlock ∧ some k_ ≠ (.slice Ao42 t292.length co42 : Value).ownBlock) (.slice Ao28 t264.length co28) t264) := ⟨by (with_reducible repeat (first | apply Kd.R_alloc | apply Kd.R_drewN | apply Kd.R_drew)); exact Kd.R_mono (Kd.R_far (p := ⟨gb305, 8, none⟩) (Kd.R_far (p := ⟨gb305, 7, none⟩) (Kd.R_far (p := ⟨gb305, 6, none⟩) (Kd.R_far (p := ⟨gb305, 5, none⟩) (Kd.R_far (p := ⟨gb305, 4, none⟩) (Kd.R_far (p := ⟨gb305, 3, none⟩) (Kd.R_far (p := ⟨gb305, 2, none⟩) (Kd.R_far (p := ⟨gb305, 1, none⟩) (Kd.R_far (p := ⟨gb305, 0, none⟩) (Kd.R_types HO266.out BK305.out (by decide)) (fun _ hk => hk.2) (.slice Ao37 t286.length co37)) (fun _ hk => hk.2) (.slice Ao41 t289.length co41)) (fun _ hk => hk.2) (.slice Ao42 t292.length co42)) (fun _ hk => hk.2) (.slice Ao43 t295.length co43)) (fun _ hk => hk.2) (.slice Ao44 t298.length co44)) (fun _ hk => hk.2) (.int .i64 t301)) (fun _ hk => hk.2) (.int .i64 t302)) (fun _ hk => hk.2) (.int .i64 t303)) (fun _ hk => hk.2) (.int .i64 t304)) (fun _ hk => ⟨hk.1.1.1.1.1, ⟨hk.1.1.1.1.2, ⟨hk.1.1.1.2, ⟨hk.1.1.2, hk.1.2⟩⟩⟩⟩)⟩
    have n1_ : Aside0 (Kd.R (Kd.int .i64) 2 (((((((((w36.setCell ⟨gb305, 0, none⟩ (.slice Ao37 t286.length co37)).setCell ⟨gb305, 1, none⟩ (.slice Ao41 t289.length co41)).setCell ⟨gb305, 2, none⟩ (.slice Ao42 t292.length co42)).setCell ⟨gb305, 3, none⟩ (.slice Ao43 t295.length co43)).setCell ⟨gb305, 4, none⟩ (.slice Ao44 t298.length co44)).setCell ⟨gb305, 5, none⟩ (.int .i64 t301)).setCell ⟨gb305, 6, none⟩ (.int .i64 t302)).setCell ⟨gb305, 7, none⟩ (.int .i64 t303)).setCell ⟨gb305, 8, none⟩ (.int .i64 t304)) w.heap.size (fun k_ => some k_ ≠ (.slice Ao28 t264.length co28 : Value).ownBlock ∧ some k_ ≠ (.slice Ao30 t270.length co30 : Value).ownBlock ∧ some k_ ≠ (.slice Ao37 t286.length co37 : Value).ownBlock ∧ some k_ ≠ (.slice Ao41 t289.length co41 : Value).ownBlock ∧ some k_ ≠ (.slice Ao42 t292.length co42 : Value).ownBlock) (.slice Ao29 t267.length co29) t267) := ⟨by (with_reducible repeat (first | apply Kd.R_alloc | apply Kd.R_drewN | apply Kd.R_drew)); exact Kd.R_mono (Kd.R_far (p := ⟨gb305, 8, none⟩) (Kd.R_far (p := ⟨gb305, 7, none⟩) (Kd.R_far (p := ⟨gb305, 6, none⟩) (Kd.R_far (p := ⟨gb305, 5, none⟩) (Kd.R_far (p := ⟨gb305, 4, none⟩) (Kd.R_far (p := ⟨gb305, 3, none⟩) (Kd.R_far (p := ⟨gb305, 2, none⟩) (Kd.R_far (p := ⟨gb305, 1, none⟩) (Kd.R_far (p := ⟨gb305, 0, none⟩) (Kd.R_types HO269.out BK305.out (by decide)) (fun _ hk => hk.2) (.slice Ao37 t286.length co37)) (fun _ hk => hk.2) (.slice Ao41 t289.length co41)) (fun _ hk => hk.2) (.slice Ao42 t292.length co42)) (fun _ hk => hk.2) (.slice Ao43 t295.length co43)) (fun _ hk => hk.2) (.slice Ao44 t298.length co44)) (fun _ hk => hk.2) (.int .i64 t301)) (fun _ hk => hk.2) (.int .i64 t302)) (fun _ hk => hk.2) (.int .i64 t303)) (fun _ hk => hk.2) (.int .i64 t304)) (fun _ hk => ⟨hk.1.1.1.1.1, ⟨hk.1.1.1.1.2, ⟨hk.1.1.1.2, ⟨hk.1.1.2, hk.1.2⟩⟩⟩⟩)⟩
    have n2_ : Aside0 (Kd.R (Kd.int .i64) 2 (((((((((w36.setCell ⟨gb305, 0, none⟩ (.slice Ao37 t286.length co37)).setCell ⟨gb305, 1, none⟩ (.slice Ao41 t289.length co41)).setCell ⟨gb305, 2, none⟩ (.slice Ao42 t292.length co42)).setCell ⟨gb305, 3, none⟩ (.slice Ao43 t295.length co43)).setCell ⟨gb305, 4, none⟩ (.slice Ao44 t298.length co44)).setCell ⟨gb305, 5, none⟩ (.int .i64 t301)).setCell ⟨gb305, 6, none⟩ (.int .i64 t302)).setCell ⟨gb305, 7, none⟩ (.int .i64 t303)).setCell ⟨gb305, 8, none⟩ (.int .i64 t304)) w.heap.size (fun k_ => some k_ ≠ (.slice Ao28 t264.length co28 : Value).ownBlock ∧ some k_ ≠ (.slice Ao29 t267.length co29 : Value).ownBlock ∧ some k_ ≠ (.slice Ao37 t286.length co37 : Value).ownBlock ∧ some k_ ≠ (.slice Ao41 t289.length co41 : Value).ownBlock ∧ some k_ ≠ (.slice Ao42 t292.length co42 : Value).ownBlock) (.slice Ao30 t270.length co30) t270) := ⟨by (with_reducible repeat (first | apply Kd.R_alloc | apply Kd.R_drewN | apply Kd.R_drew)); exact Kd.R_mono (Kd.R_far (p := ⟨gb305, 8, none⟩) (Kd.R_far (p := ⟨gb305, 7, none⟩) (Kd.R_far (p := ⟨gb305, 6, none⟩) (Kd.R_far (p := ⟨gb305, 5, none⟩) (Kd.R_far (p := ⟨gb305, 4, none⟩) (Kd.R_far (p := ⟨gb305, 3, none⟩) (Kd.R_far (p := ⟨gb305, 2, none⟩) (Kd.R_far (p := ⟨gb305, 1, none⟩) (Kd.R_far (p := ⟨gb305, 0, none⟩) (Kd.R_types HO272.out BK305.out (by decide)) (fun _ hk => hk.2) (.slice Ao37 t286.length co37)) (fun _ hk => hk.2) (.slice Ao41 t289.length co41)) (fun _ hk => hk.2) (.slice Ao42 t292.length co42)) (fun _ hk => hk.2) (.slice Ao43 t295.length co43)) (fun _ hk => hk.2) (.slice Ao44 t298.length co44)) (fun _ hk => hk.2) (.int .i64 t301)) (fun _ hk => hk.2) (.int .i64 t302)) (fun _ hk => hk.2) (.int .i64 t303)) (fun _ hk => hk.2) (.int .i64 t304)) (fun _ hk => ⟨hk.1.1.1.1.1, ⟨hk.1.1.1.1.2, ⟨hk.1.1.1.2, ⟨hk.1.1.2, hk.1.2⟩⟩⟩⟩)⟩
    have n3_ : Aside0 (Kd.R Kd.bool 4 (((((((((w36.setCell ⟨gb305, 0, none⟩ (.slice Ao37 t286.length co37)).setCell ⟨gb305, 1, none⟩ (.slice Ao41 t289.length co41)).setCell ⟨gb305, 2, none⟩ (.slice Ao42 t292.length co42)).setCell ⟨gb305, 3, none⟩ (.slice Ao43 t295.length co43)).setCell ⟨gb305, 4, none⟩ (.slice Ao44 t298.length co44)).setCell ⟨gb305, 5, none⟩ (.int .i64 t301)).setCell ⟨gb305, 6, none⟩ (.int .i64 t302)).setCell ⟨gb305, 7, none⟩ (.int .i64 t303)).setCell ⟨gb305, 8, none⟩ (.int .i64 t304)) w.heap.size (fun k_ => some k_ ≠ (.slice Ao32 t276.length co32 : Value).ownBlock ∧ some k_ ≠ (.slice Ao43 t295.length co43 : Value).ownBlock ∧ some k_ ≠ (.slice Ao44 t298.length co44 : Value).ownBlock) (.slice Ao31 t273.length co31) t273) := ⟨by (with_reducible repeat (first | apply Kd.R_alloc | apply Kd.R_drewN | apply Kd.R_drew)); exact Kd.R_mono (Kd.R_far (p := ⟨gb305, 8, none⟩) (Kd.R_far (p := ⟨gb305, 7, none⟩) (Kd.R_far (p := ⟨gb305, 6, none⟩) (Kd.R_far (p := ⟨gb305, 5, none⟩) (Kd.R_far (p := ⟨gb305, 4, none⟩) (Kd.R_far (p := ⟨gb305, 3, none⟩) (Kd.R_far (p := ⟨gb305, 2, none⟩) (Kd.R_far (p := ⟨gb305, 1, none⟩) (Kd.R_far (p := ⟨gb305, 0, none⟩) (Kd.R_types HO275.out BK305.out (by decide)) (fun _ hk => hk.2) (.slice Ao37 t286.length co37)) (fun _ hk => hk.2) (.slice Ao41 t289.length co41)) (fun _ hk => hk.2) (.slice Ao42 t292.length co42)) (fun _ hk => hk.2) (.slice Ao43 t295.length co43)) (fun _ hk => hk.2) (.slice Ao44 t298.length co44)) (fun _ hk => hk.2) (.int .i64 t301)) (fun _ hk => hk.2) (.int .i64 t302)) (fun _ hk => hk.2) (.int .i64 t303)) (fun _ hk => hk.2) (.int .i64 t304)) (fun _ hk => ⟨hk.1.1.1, ⟨hk.1.1.2, hk.1.2⟩⟩)⟩
    have n4_ : Aside0 (Kd.R Kd.bool 4 (((((((((w36.setCell ⟨gb305, 0, none⟩ (.slice Ao37 t286.length co37)).setCell ⟨gb305, 1, none⟩ (.slice Ao41 t289.length co41)).setCell ⟨gb305, 2, none⟩ (.slice Ao42 t292.length co42)).setCell ⟨gb305, 3, none⟩ (.slice Ao43 t295.length co43)).setCell ⟨gb305, 4, none⟩ (.slice Ao44 t298.length co44)).setCell ⟨gb305, 5, none⟩ (.int .i64 t301)).setCell ⟨gb305, 6, none⟩ (.int .i64 t302)).setCell ⟨gb305, 7, none⟩ (.int .i64 t303)).setCell ⟨gb305, 8, none⟩ (.int .i64 t304)) w.heap.size (fun k_ => some k_ ≠ (.slice Ao31 t273.length co31 : Value).ownBlock ∧ some k_ ≠ (.slice Ao43 t295.length co43 : Value).ownBlock ∧ some k_ ≠ (.slice Ao44 t298.length co44 : Value).ownBlock) (.slice Ao32 t276.length co32) t276) := ⟨by (with_reducible repeat (first | apply Kd.R_alloc | apply Kd.R_drewN | apply Kd.R_drew)); exact Kd.R_mono (Kd.R_far (p := ⟨gb305, 8, none⟩) (Kd.R_far (p := ⟨gb305, 7, none⟩) (Kd.R_far (p := ⟨gb305, 6, none⟩) (Kd.R_far (p := ⟨gb305, 5, none⟩) (Kd.R_far (p := ⟨gb305, 4, none⟩) (Kd.R_far (p := ⟨gb305, 3, none⟩) (Kd.R_far (p := ⟨gb305, 2, none⟩) (Kd.R_far (p := ⟨gb305, 1, none⟩) (Kd.R_far (p := ⟨gb305, 0, none⟩) (Kd.R_types HO278.out BK305.out (by decide)) (fun _ hk => hk.2) (.slice Ao37 t286.length co37)) (fun _ hk => hk.2) (.slice Ao41 t289.length co41)) (fun _ hk => hk.2) (.slice Ao42 t292.length co42)) (fun _ hk => hk.2) (.slice Ao43 t295.length co43)) (fun _ hk => hk.2) (.slice Ao44 t298.length co44)) (fun _ hk => hk.2) (.int .i64 t301)) (fun _ hk => hk.2) (.int .i64 t302)) (fun _ hk => hk.2) (.int .i64 t303)) (fun _ hk => hk.2) (.int .i64 t304)) (fun _ hk => ⟨hk.1.1.1, ⟨hk.1.1.2, hk.1.2⟩⟩)⟩
    have n5_ : Aside0 (Kd.R (Kd.int .i64) 2 (((((((((w36.setCell ⟨gb305, 0, none⟩ (.slice Ao37 t286.length co37)).setCell ⟨gb305, 1, none⟩ (.slice Ao41 t289.length co41)).setCell ⟨gb305, 2, none⟩ (.slice Ao42 t292.length co42)).setCell ⟨gb305, 3, none⟩ (.slice Ao43 t295.length co43)).setCell ⟨gb305, 4, none⟩ (.slice Ao44 t298.length co44)).setCell ⟨gb305, 5, none⟩ (.int .i64 t301)).setCell ⟨gb305, 6, none⟩ (.int .i64 t302)).setCell ⟨gb305, 7, none⟩ (.int .i64 t303)).setCell ⟨gb305, 8, none⟩ (.int .i64 t304)) w.heap.size (fun k_ => some k_ ≠ (.slice Ao28 t264.length co28 : Value).ownBlock ∧ some k_ ≠ (.slice Ao29 t267.length co29 : Value).ownBlock ∧ some k_ ≠ (.slice Ao30 t270.length co30 : Value).ownBlock ∧ some k_ ≠ (.slice Ao41 t289.length co41 : Value).ownBlock ∧ some k_ ≠ (.slice Ao42 t292.length co42 : Value).ownBlock) (.slice Ao37 t286.length co37) t286) := ⟨by (with_reducible repeat (first | apply Kd.R_alloc | apply Kd.R_drewN | apply Kd.R_drew)); exact Kd.R_mono (Kd.R_far (p := ⟨gb305, 8, none⟩) (Kd.R_far (p := ⟨gb305, 7, none⟩) (Kd.R_far (p := ⟨gb305, 6, none⟩) (Kd.R_far (p := ⟨gb305, 5, none⟩) (Kd.R_far (p := ⟨gb305, 4, none⟩) (Kd.R_far (p := ⟨gb305, 3, none⟩) (Kd.R_far (p := ⟨gb305, 2, none⟩) (Kd.R_far (p := ⟨gb305, 1, none⟩) (Kd.R_far (p := ⟨gb305, 0, none⟩) (Kd.R_types HO288.out BK305.out (by decide)) (fun _ hk => hk.2) (.slice Ao37 t286.length co37)) (fun _ hk => hk.2) (.slice Ao41 t289.length co41)) (fun _ hk => hk.2) (.slice Ao42 t292.length co42)) (fun _ hk => hk.2) (.slice Ao43 t295.length co43)) (fun _ hk => hk.2) (.slice Ao44 t298.length co44)) (fun _ hk => hk.2) (.int .i64 t301)) (fun _ hk => hk.2) (.int .i64 t302)) (fun _ hk => hk.2) (.int .i64 t303)) (fun _ hk => hk.2) (.int .i64 t304)) (fun _ hk => ⟨hk.1.1.1.2, ⟨hk.1.1.2, ⟨hk.1.2, ⟨hk.1.1.1.1.1, hk.1.1.1.1.2⟩⟩⟩⟩)⟩
    have n6_ : Aside0 (Kd.R (Kd.int .i64) 2 (((((((((w36.setCell ⟨gb305, 0, none⟩ (.slice Ao37 t286.length co37)).setCell ⟨gb305, 1, none⟩ (.slice Ao41 t289.length co41)).setCell ⟨gb305, 2, none⟩ (.slice Ao42 t292.length co42)).setCell ⟨gb305, 3, none⟩ (.slice Ao43 t295.length co43)).setCell ⟨gb305, 4, none⟩ (.slice Ao44 t298.length co44)).setCell ⟨gb305, 5, none⟩ (.int .i64 t301)).setCell ⟨gb305, 6, none⟩ (.int .i64 t302)).setCell ⟨gb305, 7, none⟩ (.int .i64 t303)).setCell ⟨gb305, 8, none⟩ (.int .i64 t304)) w.heap.size (fun k_ => some k_ ≠ (.slice Ao28 t264.length co28 : Value).ownBlock ∧ some k_ ≠ (.slice Ao29 t267.length co29 : Value).ownBlock ∧ some k_ ≠ (.slice Ao30 t270.length co30 : Value).ownBlock ∧ some k_ ≠ (.slice Ao37 t286.length co37 : Value).ownBlock ∧ some k_ ≠ (.slice Ao42 t292.length co42 : Value).ownBlock) (.slice Ao41 t289.length co41) t289) := ⟨by (with_reducible repeat (first | apply Kd.R_alloc | apply Kd.R_drewN | apply Kd.R_drew)); exact Kd.R_mono (Kd.R_far (p := ⟨gb305, 8, none⟩) (Kd.R_far (p := ⟨gb305, 7, none⟩) (Kd.R_far (p := ⟨gb305, 6, none⟩) (Kd.R_far (p := ⟨gb305, 5, none⟩) (Kd.R_far (p := ⟨gb305, 4, none⟩) (Kd.R_far (p := ⟨gb305, 3, none⟩) (Kd.R_far (p := ⟨gb305, 2, none⟩) (Kd.R_far (p := ⟨gb305, 1, none⟩) (Kd.R_far (p := ⟨gb305, 0, none⟩) (Kd.R_types HO291.out BK305.out (by decide)) (fun _ hk => hk.2) (.slice Ao37 t286.length co37)) (fun _ hk => hk.2) (.slice Ao41 t289.length co41)) (fun _ hk => hk.2) (.slice Ao42 t292.length co42)) (fun _ hk => hk.2) (.slice Ao43 t295.length co43)) (fun _ hk => hk.2) (.slice Ao44 t298.length co44)) (fun _ hk => hk.2) (.int .i64 t301)) (fun _ hk => hk.2) (.int .i64 t302)) (fun _ hk => hk.2) (.int .i64 t303)) (fun _ hk => hk.2) (.int .i64 t304)) (fun _ hk => ⟨hk.1.1.1.2, ⟨hk.1.1.2, ⟨hk.1.2, ⟨hk.1.1.1.1.1, hk.1.1.1.1.2⟩⟩⟩⟩)⟩
    have n7_ : Aside0 (Kd.R (Kd.int .i64) 2 (((((((((w36.setCell ⟨gb305, 0, none⟩ (.slice Ao37 t286.length co37)).setCell ⟨gb305, 1, none⟩ (.slice Ao41 t289.length co41)).setCell ⟨gb305, 2, none⟩ (.slice Ao42 t292.length co42)).setCell ⟨gb305, 3, none⟩ (.slice Ao43 t295.length co43)).setCell ⟨gb305, 4, none⟩ (.slice Ao44 t298.length co44)).setCell ⟨gb305, 5, none⟩ (.int .i64 t301)).setCell ⟨gb305, 6, none⟩ (.int .i64 t302)).setCell ⟨gb305, 7, none⟩ (.int .i64 t303)).setCell ⟨gb305, 8, none⟩ (.int .i64 t304)) w.heap.size (fun k_ => some k_ ≠ (.slice Ao28 t264.length co28 : Value).ownBlock ∧ some k_ ≠ (.slice Ao29 t267.length co29 : Value).ownBlock ∧ some k_ ≠ (.slice Ao30 t270.length co30 : Value).ownBlock ∧ some k_ ≠ (.slice Ao37 t286.length co37 : Value).ownBlock ∧ some k_ ≠ (.slice Ao41 t289.length co41 : Value).ownBlock) (.slice Ao42 t292.length co42) t292) := ⟨by (with_reducible repeat (first | apply Kd.R_alloc | apply Kd.R_drewN | apply Kd.R_drew)); exact Kd.R_mono (Kd.R_far (p := ⟨gb305, 8, none⟩) (Kd.R_far (p := ⟨gb305, 7, none⟩) (Kd.R_far (p := ⟨gb305, 6, none⟩) (Kd.R_far (p := ⟨gb305, 5, none⟩) (Kd.R_far (p := ⟨gb305, 4, none⟩) (Kd.R_far (p := ⟨gb305, 3, none⟩) (Kd.R_far (p := ⟨gb305, 2, none⟩) (Kd.R_far (p := ⟨gb305, 1, none⟩) (Kd.R_far (p := ⟨gb305, 0, none⟩) (Kd.R_types HO294.out BK305.out (by decide)) (fun _ hk => hk.2) (.slice Ao37 t286.length co37)) (fun _ hk => hk.2) (.slice Ao41 t289.length co41)) (fun _ hk => hk.2) (.slice Ao42 t292.length co42)) (fun _ hk => hk.2) (.slice Ao43 t295.length co43)) (fun _ hk => hk.2) (.slice Ao44 t298.length co44)) (fun _ hk => hk.2) (.int .i64 t301)) (fun _ hk => hk.2) (.int .i64 t302)) (fun _ hk => hk.2) (.int .i64 t303)) (fun _ hk => hk.2) (.int .i64 t304)) (fun _ hk => ⟨hk.1.1.1.2, ⟨hk.1.1.2, ⟨hk.1.2, ⟨hk.1.1.1.1.1, hk.1.1.1.1.2⟩⟩⟩⟩)⟩
    have n8_ : Aside0 (Kd.R Kd.bool 4 (((((((((w36.setCell ⟨gb305, 0, none⟩ (.slice Ao37 t286.length co37)).setCell ⟨gb305, 1, none⟩ (.slice Ao41 t289.length co41)).setCell ⟨gb305, 2, none⟩ (.slice Ao42 t292.length co42)).setCell ⟨gb305, 3, none⟩ (.slice Ao43 t295.length co43)).setCell ⟨gb305, 4, none⟩ (.slice Ao44 t298.length co44)).setCell ⟨gb305, 5, none⟩ (.int .i64 t301)).setCell ⟨gb305, 6, none⟩ (.int .i64 t302)).setCell ⟨gb305, 7, none⟩ (.int .i64 t303)).setCell ⟨gb305, 8, none⟩ (.int .i64 t304)) w.heap.size (fun k_ => some k_ ≠ (.slice Ao31 t273.length co31 : Value).ownBlock ∧ some k_ ≠ (.slice Ao32 t276.length co32 : Value).ownBlock ∧ some k_ ≠ (.slice Ao44 t298.length co44 : Value).ownBlock) (.slice Ao43 t295.length co43) t295) := ⟨by (with_reducible repeat (first | apply Kd.R_alloc | apply Kd.R_drewN | apply Kd.R_drew)); exact Kd.R_mono (Kd.R_far (p := ⟨gb305, 8, none⟩) (Kd.R_far (p := ⟨gb305, 7, none⟩) (Kd.R_far (p := ⟨gb305, 6, none⟩) (Kd.R_far (p := ⟨gb305, 5, none⟩) (Kd.R_far (p := ⟨gb305, 4, none⟩) (Kd.R_far (p := ⟨gb305, 3, none⟩) (Kd.R_far (p := ⟨gb305, 2, none⟩) (Kd.R_far (p := ⟨gb305, 1, none⟩) (Kd.R_far (p := ⟨gb305, 0, none⟩) (Kd.R_types HO297.out BK305.out (by decide)) (fun _ hk => hk.2) (.slice Ao37 t286.length co37)) (fun _ hk => hk.2) (.slice Ao41 t289.length co41)) (fun _ hk => hk.2) (.slice Ao42 t292.length co42)) (fun _ hk => hk.2) (.slice Ao43 t295.length co43)) (fun _ hk => hk.2) (.slice Ao44 t298.length co44)) (fun _ hk => hk.2) (.int .i64 t301)) (fun _ hk => hk.2) (.int .i64 t302)) (fun _ hk => hk.2) (.int .i64 t303)) (fun _ hk => hk.2) (.int .i64 t304)) (fun _ hk => ⟨hk.1.1.2, ⟨hk.1.2, hk.1.1.1⟩⟩)⟩
    have n9_ : Aside0 (Kd.R Kd.bool 4 (((((((((w36.setCell ⟨gb305, 0, none⟩ (.slice Ao37 t286.length co37)).setCell ⟨gb305, 1, none⟩ (.slice Ao41 t289.length co41)).setCell ⟨gb305, 2, none⟩ (.slice Ao42 t292.length co42)).setCell ⟨gb305, 3, none⟩ (.slice Ao43 t295.length co43)).setCell ⟨gb305, 4, none⟩ (.slice Ao44 t298.length co44)).setCell ⟨gb305, 5, none⟩ (.int .i64 t301)).setCell ⟨gb305, 6, none⟩ (.int .i64 t302)).setCell ⟨gb305, 7, none⟩ (.int .i64 t303)).setCell ⟨gb305, 8, none⟩ (.int .i64 t304)) w.heap.size (fun k_ => some k_ ≠ (.slice Ao31 t273.length co31 : Value).ownBlock ∧ some k_ ≠ (.slice Ao32 t276.length co32 : Value).ownBlock ∧ some k_ ≠ (.slice Ao43 t295.length co43 : Value).ownBlock) (.slice Ao44 t298.length co44) t298) := ⟨by (with_reducible repeat (first | apply Kd.R_alloc | apply Kd.R_drewN | apply Kd.R_drew)); exact Kd.R_mono (Kd.R_far (p := ⟨gb305, 8, none⟩) (Kd.R_far (p := ⟨gb305, 7, none⟩) (Kd.R_far (p := ⟨gb305, 6, none⟩) (Kd.R_far (p := ⟨gb305, 5, none⟩) (Kd.R_far (p := ⟨gb305, 4, none⟩) (Kd.R_far (p := ⟨gb305, 3, none⟩) (Kd.R_far (p := ⟨gb305, 2, none⟩) (Kd.R_far (p := ⟨gb305, 1, none⟩) (Kd.R_far (p := ⟨gb305, 0, none⟩) (Kd.R_types HO300.out BK305.out (by decide)) (fun _ hk => hk.2) (.slice Ao37 t286.length co37)) (fun _ hk => hk.2) (.slice Ao41 t289.length co41)) (fun _ hk => hk.2) (.slice Ao42 t292.length co42)) (fun _ hk => hk.2) (.slice Ao43 t295.length co43)) (fun _ hk => hk.2) (.slice Ao44 t298.length co44)) (fun _ hk => hk.2) (.int .i64 t301)) (fun _ hk => hk.2) (.int .i64 t302)) (fun _ hk => hk.2) (.int .i64 t303)) (fun _ hk => hk.2) (.int .i64 t304)) (fun _ hk => ⟨hk.1.1.2, ⟨hk.1.2, hk.1.1.1⟩⟩)⟩
    have n10_ : Aside0 ((((((((((w36.setCell ⟨gb305, 0, none⟩ (.slice Ao37 t286.length co37)).setCell ⟨gb305, 1, none⟩ (.slice Ao41 t289.length co41)).setCell ⟨gb305, 2, none⟩ (.slice Ao42 t292.length co42)).setCell ⟨gb305, 3, none⟩ (.slice Ao43 t295.length co43)).setCell ⟨gb305, 4, none⟩ (.slice Ao44 t298.length co44)).setCell ⟨gb305, 5, none⟩ (.int .i64 t301)).setCell ⟨gb305, 6, none⟩ (.int .i64 t302)).setCell ⟨gb305, 7, none⟩ (.int .i64 t303)).setCell ⟨gb305, 8, none⟩ (.int .i64 t304)).heap[gb261]? = some (.cells #[.slice A0_0 l0_0.length c0_0, .slice A0_1 l0_1.length c0_1, .slice A0_2 l0_2.length c0_2, .slice A0_3 l0_3.length c0_3, .slice A0_4 l0_4.length c0_4, .int .i64 a0_5, .int .i64 a0_6, .int .i64 a0_7, .int .i64 a0_8] 25 (0, 0))) := ⟨by (with_reducible repeat (first | refine blk_drewN ?_ _ | refine blk_drew ?_ | refine blk_alloc ?_ _)); refine blk_far ?_ NB261_305.out _; (with_reducible repeat (first | refine blk_drewN ?_ _ | refine blk_drew ?_ | refine blk_alloc ?_ _)); refine blk_far ?_ NB261_305.out _; (with_reducible repeat (first | refine blk_drewN ?_ _ | refine blk_drew ?_ | refine blk_alloc ?_ _)); refine blk_far ?_ NB261_305.out _; (with_reducible repeat (first | refine blk_drewN ?_ _ | refine blk_drew ?_ | refine blk_alloc ?_ _)); refine blk_far ?_ NB261_305.out _; (with_reducible repeat (first | refine blk_drewN ?_ _ | refine blk_drew ?_ | refine blk_alloc ?_ _)); refine blk_far ?_ NB261_305.out _; (with_reducible repeat (first | refine blk_drewN ?_ _ | refine blk_drew ?_ | refine blk_alloc ?_ _)); refine blk_far ?_ NB261_305.out _; (with_reducible repeat (first | refine blk_drewN ?_ _ | refine blk_drew ?_ | refine blk_alloc ?_ _)); refine blk_far ?_ NB261_305.out _; (with_reducible repeat (first | refine blk_drewN ?_ _ | refine blk_drew ?_ | refine blk_alloc ?_ _)); refine blk_far ?_ NB261_305.out _; (with_reducible repeat (first | refine blk_drewN ?_ _ | refine blk_drew ?_ | refine blk_alloc ?_ _)); refine blk_far ?_ NB261_305.out _; (with_reducible repeat (first | refine blk_drewN ?_ _ | refine blk_drew ?_ | refine blk_alloc ?_ _)); exact BK261.out⟩
    have n11_ : Aside0 ((((((((((w36.setCell ⟨gb305, 0, none⟩ (.slice Ao37 t286.length co37)).setCell ⟨gb305, 1, none⟩ (.slice Ao41 t289.length co41)).setCell ⟨gb305, 2, none⟩ (.slice Ao42 t292.length co42)).setCell ⟨gb305, 3, none⟩ (.slice Ao43 t295.length co43)).setCell ⟨gb305, 4, none⟩ (.slice Ao44 t298.length co44)).setCell ⟨gb305, 5, none⟩ (.int .i64 t301)).setCell ⟨gb305, 6, none⟩ (.int .i64 t302)).setCell ⟨gb305, 7, none⟩ (.int .i64 t303)).setCell ⟨gb305, 8, none⟩ (.int .i64 t304)).heap[gb262]? = some (.cells #[.int .i64 a1_0, .int .i64 a1_1] 45 (0, 0))) := ⟨by (with_reducible repeat (first | refine blk_drewN ?_ _ | refine blk_drew ?_ | refine blk_alloc ?_ _)); refine blk_far ?_ NB262_305.out _; (with_reducible repeat (first | refine blk_drewN ?_ _ | refine blk_drew ?_ | refine blk_alloc ?_ _)); refine blk_far ?_ NB262_305.out _; (with_reducible repeat (first | refine blk_drewN ?_ _ | refine blk_drew ?_ | refine blk_alloc ?_ _)); refine blk_far ?_ NB262_305.out _; (with_reducible repeat (first | refine blk_drewN ?_ _ | refine blk_drew ?_ | refine blk_alloc ?_ _)); refine blk_far ?_ NB262_305.out _; (with_reducible repeat (first | refine blk_drewN ?_ _ | refine blk_drew ?_ | refine blk_alloc ?_ _)); refine blk_far ?_ NB262_305.out _; (with_reducible repeat (first | refine blk_drewN ?_ _ | refine blk_drew ?_ | refine blk_alloc ?_ _)); refine blk_far ?_ NB262_305.out _; (with_reducible repeat (first | refine blk_drewN ?_ _ | refine blk_drew ?_ | refine blk_alloc ?_ _)); refine blk_far ?_ NB262_305.out _; (with_reducible repeat (first | refine blk_drewN ?_ _ | refine blk_drew ?_ | refine blk_alloc ?_ _)); refine blk_far ?_ NB262_305.out _; (with_reducible repeat (first | refine blk_drewN ?_ _ | refine blk_drew ?_ | refine blk_alloc ?_ _)); refine blk_far ?_ NB262_305.out _; (with_reducible repeat (first | refine blk_drewN ?_ _ | refine blk_drew ?_ | refine blk_alloc ?_ _)); exact BK262.out⟩
    have n12_ : Aside0 ((((((((((w36.setCell ⟨gb305, 0, none⟩ (.slice Ao37 t286.length co37)).setCell ⟨gb305, 1, none⟩ (.slice Ao41 t289.length co41)).setCell ⟨gb305, 2, none⟩ (.slice Ao42 t292.length co42)).setCell ⟨gb305, 3, none⟩ (.slice Ao43 t295.length co43)).setCell ⟨gb305, 4, none⟩ (.slice Ao44 t298.length co44)).setCell ⟨gb305, 5, none⟩ (.int .i64 t301)).setCell ⟨gb305, 6, none⟩ (.int .i64 t302)).setCell ⟨gb305, 7, none⟩ (.int .i64 t303)).setCell ⟨gb305, 8, none⟩ (.int .i64 t304)).heap[gb305]? = some (.cells #[.slice Ao37 t286.length co37, .slice Ao41 t289.length co41, .slice Ao42 t292.length co42, .slice Ao43 t295.length co43, .slice Ao44 t298.length co44, .int .i64 t301, .int .i64 t302, .int .i64 t303, .int .i64 t304] 28 (0, 0))) := ⟨by (with_reducible repeat (first | refine blk_drewN ?_ _ | refine blk_drew ?_ | refine blk_alloc ?_ _)); refine blk_put (cs := #[.slice Ao37 t286.length co37, .slice Ao41 t289.length co41, .slice Ao42 t292.length co42, .slice Ao43 t295.length co43, .slice Ao44 t298.length co44, .int .i64 t301, .int .i64 t302, .int .i64 t303, .int .i64 0]) ?_ 8 _ rfl; (with_reducible repeat (first | refine blk_drewN ?_ _ | refine blk_drew ?_ | refine blk_alloc ?_ _)); refine blk_put (cs := #[.slice Ao37 t286.length co37, .slice Ao41 t289.length co41, .slice Ao42 t292.length co42, .slice Ao43 t295.length co43, .slice Ao44 t298.length co44, .int .i64 t301, .int .i64 t302, .int .i64 0, .int .i64 0]) ?_ 7 _ rfl; (with_reducible repeat (first | refine blk_drewN ?_ _ | refine blk_drew ?_ | refine blk_alloc ?_ _)); refine blk_put (cs := #[.slice Ao37 t286.length co37, .slice Ao41 t289.length co41, .slice Ao42 t292.length co42, .slice Ao43 t295.length co43, .slice Ao44 t298.length co44, .int .i64 t301, .int .i64 0, .int .i64 0, .int .i64 0]) ?_ 6 _ rfl; (with_reducible repeat (first | refine blk_drewN ?_ _ | refine blk_drew ?_ | refine blk_alloc ?_ _)); refine blk_put (cs := #[.slice Ao37 t286.length co37, .slice Ao41 t289.length co41, .slice Ao42 t292.length co42, .slice Ao43 t295.length co43, .slice Ao44 t298.length co44, .int .i64 0, .int .i64 0, .int .i64 0, .int .i64 0]) ?_ 5 _ rfl; (with_reducible repeat (first | refine blk_drewN ?_ _ | refine blk_drew ?_ | refine blk_alloc ?_ _)); refine blk_put (cs := #[.slice Ao37 t286.length co37, .slice Ao41 t289.length co41, .slice Ao42 t292.length co42, .slice Ao43 t295.length co43, .slice none 0 0, .int .i64 0, .int .i64 0, .int .i64 0, .int .i64 0]) ?_ 4 _ rfl; (with_reducible repeat (first | refine blk_drewN ?_ _ | refine blk_drew ?_ | refine blk_alloc ?_ _)); refine blk_put (cs := #[.slice Ao37 t286.length co37, .slice Ao41 t289.length co41, .slice Ao42 t292.length co42, .slice none 0 0, .slice none 0 0, .int .i64 0, .int .i64 0, .int .i64 0, .int .i64 0]) ?_ 3 _ rfl; (with_reducible repeat (first | refine blk_drewN ?_ _ | refine blk_drew ?_ | refine blk_alloc ?_ _)); refine blk_put (cs := #[.slice Ao37 t286.length co37, .slice Ao41 t289.length co41, .slice none 0 0, .slice none 0 0, .slice none 0 0, .int .i64 0, .int .i64 0, .int .i64 0, .int .i64 0]) ?_ 2 _ rfl; (with_reducible repeat (first | refine blk_drewN ?_ _ | refine blk_drew ?_ | refine blk_alloc ?_ _)); refine blk_put (cs := #[.slice Ao37 t286.length co37, .slice none 0 0, .slice none 0 0, .slice none 0 0, .slice none 0 0, .int .i64 0, .int .i64 0, .int .i64 0, .int .i64 0]) ?_ 1 _ rfl; (with_reducible repeat (first | refine blk_drewN ?_ _ | refine blk_drew ?_ | refine blk_alloc ?_ _)); refine blk_put (cs := #[.slice none 0 0, .slice none 0 0, .slice none 0 0, .slice none 0 0, .slice none 0 0, .int .i64 0, .int .i64 0, .int .i64 0, .int .i64 0]) ?_ 0 _ rfl; (with_reducible repeat (first | refine blk_drewN ?_ _ | refine blk_drew ?_ | refine blk_alloc ?_ _)); exact BK305.out⟩
    have n13_ : Aside0 (Below w.heap.size w (((((((((w36.setCell ⟨gb305, 0, none⟩ (.slice Ao37 t286.length co37)).setCell ⟨gb305, 1, none⟩ (.slice Ao41 t289.length co41)).setCell ⟨gb305, 2, none⟩ (.slice Ao42 t292.length co42)).setCell ⟨gb305, 3, none⟩ (.slice Ao43 t295.length co43)).setCell ⟨gb305, 4, none⟩ (.slice Ao44 t298.length co44)).setCell ⟨gb305, 5, none⟩ (.int .i64 t301)).setCell ⟨gb305, 6, none⟩ (.int .i64 t302)).setCell ⟨gb305, 7, none⟩ (.int .i64 t303)).setCell ⟨gb305, 8, none⟩ (.int .i64 t304))) := ⟨bA HB.out⟩
    (try clear HO266)
    (try clear HO269)
    (try clear HO272)
    (try clear HO275)
    (try clear HO278)
    (try clear HO288)
    (try clear HO291)
    (try clear HO294)
    (try clear HO297)
    (try clear HO300)
    (try clear BK261)
    (try clear BK262)
    (try clear BK305)
    (try clear HB)
    generalize (((((((((w36.setCell ⟨gb305, 0, none⟩ (.slice Ao37 t286.length co37)).setCell ⟨gb305, 1, none⟩ (.slice Ao41 t289.length co41)).setCell ⟨gb305, 2, none⟩ (.slice Ao42 t292.length co42)).setCell ⟨gb305, 3, none⟩ (.slice Ao43 t295.length co43)).setCell ⟨gb305, 4, none⟩ (.slice Ao44 t298.length co44)).setCell ⟨gb305, 5, none⟩ (.int .i64 t301)).setCell ⟨gb305, 6, none⟩ (.int .i64 t302)).setCell ⟨gb305, 7, none⟩ (.int .i64 t303)).setCell ⟨gb305, 8, none⟩ (.int .i64 t304)) = w45 at n0_ n1_ n2_ n3_ n4_ n5_ n6_ n7_ n8_ n9_ n10_ n11_ n12_ n13_ ⊢
    have HO266 := n0_
    have HO269 := n1_
    have HO272 := n2_
    have HO275 := n3_
    have HO278 := n4_
    have HO288 := n5_
    have HO291 := n6_
    have HO294 := n7_
    have HO297 := n8_
    have HO300 := n9_
    have BK261 := n10_
    have BK262 := n11_
    have BK305 := n12_
    have HB := n13_
    clear n0_ n1_ n2_ n3_ n4_ n5_ n6_ n7_ n8_ n9_ n10_ n11_ n12_ n13_
    replace HO266 := Aside0.mk (Kd.R_drew HO266.out)
    replace HO269 := Aside0.mk (Kd.R_drew HO269.out)
    replace HO272 := Aside0.mk (Kd.R_drew HO272.out)
    replace HO275 := Aside0.mk (Kd.R_drew HO275.out)
    replace HO278 := Aside0.mk (Kd.R_drew HO278.out)
    replace HO288 := Aside0.mk (Kd.R_drew HO288.out)
    replace HO291 := Aside0.mk (Kd.R_drew HO291.out)
    replace HO294 := Aside0.mk (Kd.R_drew HO294.out)
    replace HO297 := Aside0.mk (Kd.R_drew HO297.out)
    replace HO300 := Aside0.mk (Kd.R_drew HO300.out)
    replace BK261 := Aside0.mk (blk_drew BK261.out)
    replace BK262 := Aside0.mk (blk_drew BK262.out)
    replace BK305 := Aside0.mk (blk_drew BK305.out)
    replace HB := Aside0.mk (below_drew1 HB.out)
    refine start_ (n := 5) (S := fun w' => w'.cell? ⟨gb305, 0, none⟩ = some (.slice Ao37 t286.length co37) ∧ w'.cell? ⟨gb305, 1, none⟩ = some (.slice Ao41 t289.length co41) ∧ w'.cell? ⟨gb305, 2, none⟩ = some (.slice Ao42 t292.length co42) ∧ w'.cell? ⟨gb305, 3, none⟩ = some (.slice Ao43 t295.length co43) ∧ w'.cell? ⟨gb305, 4, none⟩ = some (.slice Ao44 t298.length co44) ∧ w'.cell? ⟨gb305, 5, none⟩ = some (.int .i64 t301) ∧ w'.cell? ⟨gb305, 6, none⟩ = some (.int .i64 t302) ∧ w'.cell? ⟨gb305, 7, none⟩ = some (.int .i64 t303) ∧ w'.cell? ⟨gb305, 8, none⟩ = some (.int .i64 t304) ∧ w'.cell? ⟨gb262, 0, none⟩ = some (.int .i64 a1_0) ∧ w'.cell? ⟨gb262, 1, none⟩ = some (.int .i64 a1_1)) (ds := []) #[false, false, false, false, false] (by kernel_rfl) rfl rfl ⟨(blk_cell BK305.out 0).trans rfl, (blk_cell BK305.out 1).trans rfl, (blk_cell BK305.out 2).trans rfl, (blk_cell BK305.out 3).trans rfl, (blk_cell BK305.out 4).trans rfl, (blk_cell BK305.out 5).trans rfl, (blk_cell BK305.out 6).trans rfl, (blk_cell BK305.out 7).trans rfl, (blk_cell BK305.out 8).trans rfl, (blk_cell BK262.out 0).trans rfl, (blk_cell BK262.out 1).trans rfl⟩ (fun hHeld => ?_)
    generalize w45.drew = w46 at HO266 HO269 HO272 HO275 HO278 HO288 HO291 HO294 HO297 HO300 BK261 BK262 BK305 HB hHeld ⊢
    refine take_ (i := 0) (N := some 21) (v := ?_) (a' := ?_) #[true, false, false, false, false] rfl rfl (by kernel_rfl) (fun _ _ _ h => h) (Or.inl ⟨by rfl, ?_⟩) hHeld ?_ ?_
    rotate_left
    ·rintro w' ⟨s0, s1, s2, s3, s4, s5, s6, s7, s8, s9, s10⟩
     go_simp
     with_reducible rfl
    rotate_left
    ·simp only [Act.put, List.setIfInBounds_toArray, List.set_cons_zero, List.set_cons_succ, i64_w, i32_w]
     rfl
    refine take_ (i := 1) (N := some 22) (v := ?_) (a' := ?_) #[true, true, false, false, false] rfl rfl (by kernel_rfl) (fun _ _ _ h => h) (Or.inl ⟨by rfl, ?_⟩) hHeld ?_ ?_
    rotate_left
    ·rintro w' ⟨s0, s1, s2, s3, s4, s5, s6, s7, s8, s9, s10⟩
     go_simp
     with_reducible rfl
    rotate_left
    ·simp only [Act.put, List.setIfInBounds_toArray, List.set_cons_zero, List.set_cons_succ, i64_w, i32_w]
     rfl
    refine one_ (i := 2) (N := some 23) #[true, true, true, false, false] rfl rfl (by kernel_rfl) (by decide) (fun K hK => ?_)
    refine gO Try.func42 #[.agg #[.int .i64 a1_0, .int .i64 a1_1]] ?_
    with_reducible refine (laws_toAction.calls a1_0 a1_1 t306 t307 _ A14.out).mono ?_
    rintro e w47 ⟨rfl, hb⟩
    refine ⟨_, rfl, ?_⟩
    replace HO266 := Aside0.mk (Kd.R_below (rA HO266.out) hb)
    replace HO269 := Aside0.mk (Kd.R_below (rA HO269.out) hb)
    replace HO272 := Aside0.mk (Kd.R_below (rA HO272.out) hb)
    replace HO275 := Aside0.mk (Kd.R_below (rA HO275.out) hb)
    replace HO278 := Aside0.mk (Kd.R_below (rA HO278.out) hb)
    replace HO288 := Aside0.mk (Kd.R_below (rA HO288.out) hb)
    replace HO291 := Aside0.mk (Kd.R_below (rA HO291.out) hb)
    replace HO294 := Aside0.mk (Kd.R_below (rA HO294.out) hb)
    replace HO297 := Aside0.mk (Kd.R_below (rA HO297.out) hb)
    replace HO300 := Aside0.mk (Kd.R_below (rA HO300.out) hb)
    replace BK261 := Aside0.mk (blk_below (kA BK261.out) hb)
    replace BK262 := Aside0.mk (blk_below (kA BK262.out) hb)
    replace BK305 := Aside0.mk (blk_below (kA BK305.out) hb)
    replace HB := Aside0.mk (below_step (bA HB.out) hb)
    (try clear hb)
    refine hK.out _ _ ⟨(blk_cell BK305.out 0).trans rfl, (blk_cell BK305.out 1).trans rfl, (blk_cell BK305.out 2).trans rfl, (blk_cell BK305.out 3).trans rfl, (blk_cell BK305.out 4).trans rfl, (blk_cell BK305.out 5).trans rfl, (blk_cell BK305.out 6).trans rfl, (blk_cell BK305.out 7).trans rfl, (blk_cell BK305.out 8).trans rfl, (blk_cell BK262.out 0).trans rfl, (blk_cell BK262.out 1).trans rfl⟩ (fun hHeld => ?_)
    clear hK K
    refine nO 23 ?_
    refine one_ (i := 3) (N := some 24) #[true, true, true, true, false] rfl rfl (by kernel_rfl) (by decide) (fun K hK => ?_)
    refine gO Try.func43 #[.agg #[.slice Ao37 t286.length co37, .slice Ao41 t289.length co41, .slice Ao42 t292.length co42, .slice Ao43 t295.length co43, .slice Ao44 t298.length co44, .int .i64 t301, .int .i64 t302, .int .i64 t303, .int .i64 t304], .agg #[.int .i64 t306, .int .i64 t307]] ?_
    with_reducible refine (impl_IsLegal.calls k _ _ t286 _ _ t289 _ _ t292 _ _ t295 _ _ t298 t301 t302 t303 t304 t306 t307 t308 _ ?side1 ?side2 ?side3 ?side4 ?side5 ?side6 ?side7 ?side8 ?side9 ?side10 A15.out).mono ?_
    (case side1 => exact cA ((Kd.R_reads' HO288.out).2.2))
    (case side2 => exact (Kd.R_reads' HO288.out).2.1)
    (case side3 => exact cA ((Kd.R_reads' HO291.out).2.2))
    (case side4 => exact (Kd.R_reads' HO291.out).2.1)
    (case side5 => exact cA ((Kd.R_reads' HO294.out).2.2))
    (case side6 => exact (Kd.R_reads' HO294.out).2.1)
    (case side7 => exact cA ((Kd.R_reads' HO297.out).2.2))
    (case side8 => exact (Kd.R_reads' HO297.out).2.1)
    (case side9 => exact cA ((Kd.R_reads' HO300.out).2.2))
    (case side10 => exact (Kd.R_reads' HO300.out).2.1)
    rintro e w48 ⟨rfl, hb⟩
    refine ⟨_, rfl, ?_⟩
    replace HO266 := Aside0.mk (Kd.R_below (rA HO266.out) hb)
    replace HO269 := Aside0.mk (Kd.R_below (rA HO269.out) hb)
    replace HO272 := Aside0.mk (Kd.R_below (rA HO272.out) hb)
    replace HO275 := Aside0.mk (Kd.R_below (rA HO275.out) hb)
    replace HO278 := Aside0.mk (Kd.R_below (rA HO278.out) hb)
    replace HO288 := Aside0.mk (Kd.R_below (rA HO288.out) hb)
    replace HO291 := Aside0.mk (Kd.R_below (rA HO291.out) hb)
    replace HO294 := Aside0.mk (Kd.R_below (rA HO294.out) hb)
    replace HO297 := Aside0.mk (Kd.R_below (rA HO297.out) hb)
    replace HO300 := Aside0.mk (Kd.R_below (rA HO300.out) hb)
    replace BK261 := Aside0.mk (blk_below (kA BK261.out) hb)
    replace BK262 := Aside0.mk (blk_below (kA BK262.out) hb)
    replace BK305 := Aside0.mk (blk_below (kA BK305.out) hb)
    replace HB := Aside0.mk (below_step (bA HB.out) hb)
    (try clear hb)
    refine hK.out _ _ ⟨(blk_cell BK305.out 0).trans rfl, (blk_cell BK305.out 1).trans rfl, (blk_cell BK305.out 2).trans rfl, (blk_cell BK305.out 3).trans rfl, (blk_cell BK305.out 4).trans rfl, (blk_cell BK305.out 5).trans rfl, (blk_cell BK305.out 6).trans rfl, (blk_cell BK305.out 7).trans rfl, (blk_cell BK305.out 8).trans rfl, (blk_cell BK262.out 0).trans rfl, (blk_cell BK262.out 1).trans rfl⟩ (fun hHeld => ?_)
    clear hK K
    refine nO 24 ?_
    refine pure_ (i := 4) (N := some 8) (v := ?_) (a' := ?_) #[true, true, true, true, true] rfl rfl (by kernel_rfl) (fun _ _ _ h => h) (Or.inl ⟨by rfl, ?_⟩) ?_ ?_
    rotate_left
    ·intro w'
     go_simp
     with_reducible rfl
    rotate_left
    ·simp only [Act.put, List.setIfInBounds_toArray, List.set_cons_zero, List.set_cons_succ, i64_w, i32_w]
     rfl
    refine done_ (by kernel_rfl) ?_
    try go_wp2
    replace HO266 := Aside0.mk (Kd.R_drew HO266.out)
    replace HO269 := Aside0.mk (Kd.R_drew HO269.out)
    replace HO272 := Aside0.mk (Kd.R_drew HO272.out)
    replace HO275 := Aside0.mk (Kd.R_drew HO275.out)
    replace HO278 := Aside0.mk (Kd.R_drew HO278.out)
    replace HO288 := Aside0.mk (Kd.R_drew HO288.out)
    replace HO291 := Aside0.mk (Kd.R_drew HO291.out)
    replace HO294 := Aside0.mk (Kd.R_drew HO294.out)
    replace HO297 := Aside0.mk (Kd.R_drew HO297.out)
    replace HO300 := Aside0.mk (Kd.R_drew HO300.out)
    replace BK261 := Aside0.mk (blk_drew BK261.out)
    replace BK262 := Aside0.mk (blk_drew BK262.out)
    replace BK305 := Aside0.mk (blk_drew BK305.out)
    replace HB := Aside0.mk (below_drew1 HB.out)
    refine start_ (n := 5) (S := fun w' => w'.cell? ⟨gb305, 0, none⟩ = some (.slice Ao37 t286.length co37) ∧ w'.cell? ⟨gb305, 1, none⟩ = some (.slice Ao41 t289.length co41) ∧ w'.cell? ⟨gb305, 2, none⟩ = some (.slice Ao42 t292.length co42) ∧ w'.cell? ⟨gb305, 3, none⟩ = some (.slice Ao43 t295.length co43) ∧ w'.cell? ⟨gb305, 4, none⟩ = some (.slice Ao44 t298.length co44) ∧ w'.cell? ⟨gb305, 5, none⟩ = some (.int .i64 t301) ∧ w'.cell? ⟨gb305, 6, none⟩ = some (.int .i64 t302) ∧ w'.cell? ⟨gb305, 7, none⟩ = some (.int .i64 t303) ∧ w'.cell? ⟨gb305, 8, none⟩ = some (.int .i64 t304) ∧ w'.cell? ⟨gb261, 0, none⟩ = some (.slice A0_0 l0_0.length c0_0) ∧ w'.cell? ⟨gb261, 1, none⟩ = some (.slice A0_1 l0_1.length c0_1) ∧ w'.cell? ⟨gb261, 2, none⟩ = some (.slice A0_2 l0_2.length c0_2) ∧ w'.cell? ⟨gb261, 3, none⟩ = some (.slice A0_3 l0_3.length c0_3) ∧ w'.cell? ⟨gb261, 4, none⟩ = some (.slice A0_4 l0_4.length c0_4) ∧ w'.cell? ⟨gb261, 5, none⟩ = some (.int .i64 a0_5) ∧ w'.cell? ⟨gb261, 6, none⟩ = some (.int .i64 a0_6) ∧ w'.cell? ⟨gb261, 7, none⟩ = some (.int .i64 a0_7) ∧ w'.cell? ⟨gb261, 8, none⟩ = some (.int .i64 a0_8)) (ds := []) #[false, false, false, false, false] (by kernel_rfl) rfl rfl ⟨(blk_cell BK305.out 0).trans rfl, (blk_cell BK305.out 1).trans rfl, (blk_cell BK305.out 2).trans rfl, (blk_cell BK305.out 3).trans rfl, (blk_cell BK305.out 4).trans rfl, (blk_cell BK305.out 5).trans rfl, (blk_cell BK305.out 6).trans rfl, (blk_cell BK305.out 7).trans rfl, (blk_cell BK305.out 8).trans rfl, (blk_cell BK261.out 0).trans rfl, (blk_cell BK261.out 1).trans rfl, (blk_cell BK261.out 2).trans rfl, (blk_cell BK261.out 3).trans rfl, (blk_cell BK261.out 4).trans rfl, (blk_cell BK261.out 5).trans rfl, (blk_cell BK261.out 6).trans rfl, (blk_cell BK261.out 7).trans rfl, (blk_cell BK261.out 8).trans rfl⟩ (fun hHeld => ?_)
    generalize w48.drew = w49 at HO266 HO269 HO272 HO275 HO278 HO288 HO291 HO294 HO297 HO300 BK261 BK262 BK305 HB hHeld ⊢
    refine take_ (i := 0) (N := some 28) (v := ?_) (a' := ?_) #[true, false, false, false, false] rfl rfl (by kernel_rfl) (fun _ _ _ h => h) (Or.inl ⟨by rfl, ?_⟩) hHeld ?_ ?_
    rotate_left
    ·rintro w' ⟨s0, s1, s2, s3, s4, s5, s6, s7, s8, s9, s10, s11, s12, s13, s14, s15, s16, s17⟩
     go_simp
     with_reducible rfl
    rotate_left
    ·simp only [Act.put, List.setIfInBounds_toArray, List.set_cons_zero, List.set_cons_succ, i64_w, i32_w]
     rfl
    refine take_ (i := 1) (N := some 29) (v := ?_) (a' := ?_) #[true, true, false, false, false] rfl rfl (by kernel_rfl) (fun _ _ _ h => h) (Or.inl ⟨by rfl, ?_⟩) hHeld ?_ ?_
    rotate_left
    ·rintro w' ⟨s0, s1, s2, s3, s4, s5, s6, s7, s8, s9, s10, s11, s12, s13, s14, s15, s16, s17⟩
     go_simp
     with_reducible rfl
    rotate_left
    ·simp only [Act.put, List.setIfInBounds_toArray, List.set_cons_zero, List.set_cons_succ, i64_w, i32_w]
     rfl
    refine one_ (i := 2) (N := some 30) #[true, true, true, false, false] rfl rfl (by kernel_rfl) (by decide) (fun K hK => ?_)
    refine gO Try.func17 #[.agg #[.slice A0_0 l0_0.length c0_0, .slice A0_1 l0_1.length c0_1, .slice A0_2 l0_2.length c0_2, .slice A0_3 l0_3.length c0_3, .slice A0_4 l0_4.length c0_4, .int .i64 a0_5, .int .i64 a0_6, .int .i64 a0_7, .int .i64 a0_8]] ?_
    with_reducible refine (laws_toBetting.calls k _ _ l0_0 _ _ l0_1 _ _ l0_2 _ _ l0_3 _ _ l0_4 a0_5 a0_6 a0_7 a0_8 t309 t312 t315 t318 t321 t324 t325 t326 t327 _ ?side1 ?side2 ?side3 ?side4 ?side5 ?side6 ?side7 ?side8 ?side9 ?side10 A17.out).mono ?_
    (case side1 => exact cA (Kd.C_below HR0_0.out HB.out))
    (case side2 => exact HC0_0.out)
    (case side3 => exact cA (Kd.C_below HR0_1.out HB.out))
    (case side4 => exact HC0_1.out)
    (case side5 => exact cA (Kd.C_below HR0_2.out HB.out))
    (case side6 => exact HC0_2.out)
    (case side7 => exact cA (Kd.C_below HR0_3.out HB.out))
    (case side8 => exact HC0_3.out)
    (case side9 => exact cA (Kd.C_below HR0_4.out HB.out))
    (case side10 => exact HC0_4.out)
    rintro e w50 ⟨v310, v313, v316, v319, v322, rfl, ho0, ho1, ho2, ho3, ho4, hb⟩
    refine ⟨_, rfl, ?_⟩
    have HO311 := Aside0.mk (Kd.R_lower (Kd.R_new' (Kd.R_new' (Kd.R_new' (Kd.R_new' (Kd.R_new' (Kd.R_new' ho0 (Kd.R_lt (rA HO266.out))) (Kd.R_lt (rA HO269.out))) (Kd.R_lt (rA HO272.out))) (Kd.R_lt (rA HO288.out))) (Kd.R_lt (rA HO291.out))) (Kd.R_lt (rA HO294.out))) (below_size (bA HB.out)))
    have HO314 := Aside0.mk (Kd.R_lower (Kd.R_new' (Kd.R_new' (Kd.R_new' (Kd.R_new' (Kd.R_new' (Kd.R_new' ho1 (Kd.R_lt (rA HO266.out))) (Kd.R_lt (rA HO269.out))) (Kd.R_lt (rA HO272.out))) (Kd.R_lt (rA HO288.out))) (Kd.R_lt (rA HO291.out))) (Kd.R_lt (rA HO294.out))) (below_size (bA HB.out)))
    have HO317 := Aside0.mk (Kd.R_lower (Kd.R_new' (Kd.R_new' (Kd.R_new' (Kd.R_new' (Kd.R_new' (Kd.R_new' ho2 (Kd.R_lt (rA HO266.out))) (Kd.R_lt (rA HO269.out))) (Kd.R_lt (rA HO272.out))) (Kd.R_lt (rA HO288.out))) (Kd.R_lt (rA HO291.out))) (Kd.R_lt (rA HO294.out))) (below_size (bA HB.out)))
    replace HO266 := Aside0.mk (Kd.R_mono (Kd.R_told (Kd.R_told (Kd.R_told (Kd.R_old (rA HO266.out) hb) (Kd.R_base ho0)) (Kd.R_base ho1)) (Kd.R_base ho2)) (fun _ h_ => h_.1))
    replace HO269 := Aside0.mk (Kd.R_mono (Kd.R_told (Kd.R_told (Kd.R_told (Kd.R_old (rA HO269.out) hb) (Kd.R_base ho0)) (Kd.R_base ho1)) (Kd.R_base ho2)) (fun _ h_ => h_.1))
    replace HO272 := Aside0.mk (Kd.R_mono (Kd.R_told (Kd.R_told (Kd.R_told (Kd.R_old (rA HO272.out) hb) (Kd.R_base ho0)) (Kd.R_base ho1)) (Kd.R_base ho2)) (fun _ h_ => h_.1))
    replace HO288 := Aside0.mk (Kd.R_mono (Kd.R_told (Kd.R_told (Kd.R_told (Kd.R_old (rA HO288.out) hb) (Kd.R_base ho0)) (Kd.R_base ho1)) (Kd.R_base ho2)) (fun _ h_ => h_.1))
    replace HO291 := Aside0.mk (Kd.R_mono (Kd.R_told (Kd.R_told (Kd.R_told (Kd.R_old (rA HO291.out) hb) (Kd.R_base ho0)) (Kd.R_base ho1)) (Kd.R_base ho2)) (fun _ h_ => h_.1))
    replace HO294 := Aside0.mk (Kd.R_mono (Kd.R_told (Kd.R_told (Kd.R_told (Kd.R_old (rA HO294.out) hb) (Kd.R_base ho0)) (Kd.R_base ho1)) (Kd.R_base ho2)) (fun _ h_ => h_.1))
    have HO320 := Aside0.mk (Kd.R_lower (Kd.R_new' (Kd.R_new' (Kd.R_new' (Kd.R_new' ho3 (Kd.R_lt (rA HO275.out))) (Kd.R_lt (rA HO278.out))) (Kd.R_lt (rA HO297.out))) (Kd.R_lt (rA HO300.out))) (below_size (bA HB.out)))
    have HO323 := Aside0.mk (Kd.R_lower (Kd.R_new' (Kd.R_new' (Kd.R_new' (Kd.R_new' ho4 (Kd.R_lt (rA HO275.out))) (Kd.R_lt (rA HO278.out))) (Kd.R_lt (rA HO297.out))) (Kd.R_lt (rA HO300.out))) (below_size (bA HB.out)))
    replace HO275 := Aside0.mk (Kd.R_mono (Kd.R_told (Kd.R_told (Kd.R_old (rA HO275.out) hb) (Kd.R_base ho3)) (Kd.R_base ho4)) (fun _ h_ => h_.1))
    replace HO278 := Aside0.mk (Kd.R_mono (Kd.R_told (Kd.R_told (Kd.R_old (rA HO278.out) hb) (Kd.R_base ho3)) (Kd.R_base ho4)) (fun _ h_ => h_.1))
    replace HO297 := Aside0.mk (Kd.R_mono (Kd.R_told (Kd.R_told (Kd.R_old (rA HO297.out) hb) (Kd.R_base ho3)) (Kd.R_base ho4)) (fun _ h_ => h_.1))
    replace HO300 := Aside0.mk (Kd.R_mono (Kd.R_told (Kd.R_told (Kd.R_old (rA HO300.out) hb) (Kd.R_base ho3)) (Kd.R_base ho4)) (fun _ h_ => h_.1))
    replace BK261 := Aside0.mk (blk_below (kA BK261.out) hb)
    replace BK262 := Aside0.mk (blk_below (kA BK262.out) hb)
    replace BK305 := Aside0.mk (blk_below (kA BK305.out) hb)
    replace HB := Aside0.mk (below_step (bA HB.out) hb)
    (try clear hb)
    (try clear ho0)
    (try clear ho1)
    (try clear ho2)
    (try clear ho3)
    (try clear ho4)
    obtain ⟨Ao51, co51, eo51⟩ := Kd.R_slice HO311.out
    (first | subst eo51 | (injection eo51 with f1_ f2_ f3_; have f4_ := f1_.symm; have f5_ := f3_.symm; clear f1_ f2_ f3_; subst f4_; subst f5_))
    obtain ⟨Ao52, co52, eo52⟩ := Kd.R_slice HO314.out
    (first | subst eo52 | (injection eo52 with f1_ f2_ f3_; have f4_ := f1_.symm; have f5_ := f3_.symm; clear f1_ f2_ f3_; subst f4_; subst f5_))
    obtain ⟨Ao53, co53, eo53⟩ := Kd.R_slice HO317.out
    (first | subst eo53 | (injection eo53 with f1_ f2_ f3_; have f4_ := f1_.symm; have f5_ := f3_.symm; clear f1_ f2_ f3_; subst f4_; subst f5_))
    obtain ⟨Ao54, co54, eo54⟩ := Kd.R_slice HO320.out
    (first | subst eo54 | (injection eo54 with f1_ f2_ f3_; have f4_ := f1_.symm; have f5_ := f3_.symm; clear f1_ f2_ f3_; subst f4_; subst f5_))
    obtain ⟨Ao55, co55, eo55⟩ := Kd.R_slice HO323.out
    (first | subst eo55 | (injection eo55 with f1_ f2_ f3_; have f4_ := f1_.symm; have f5_ := f3_.symm; clear f1_ f2_ f3_; subst f4_; subst f5_))
    refine hK.out _ _ ⟨(blk_cell BK305.out 0).trans rfl, (blk_cell BK305.out 1).trans rfl, (blk_cell BK305.out 2).trans rfl, (blk_cell BK305.out 3).trans rfl, (blk_cell BK305.out 4).trans rfl, (blk_cell BK305.out 5).trans rfl, (blk_cell BK305.out 6).trans rfl, (blk_cell BK305.out 7).trans rfl, (blk_cell BK305.out 8).trans rfl, (blk_cell BK261.out 0).trans rfl, (blk_cell BK261.out 1).trans rfl, (blk_cell BK261.out 2).trans rfl, (blk_cell BK261.out 3).trans rfl, (blk_cell BK261.out 4).trans rfl, (blk_cell BK261.out 5).trans rfl, (blk_cell BK261.out 6).trans rfl, (blk_cell BK261.out 7).trans rfl, (blk_cell BK261.out 8).trans rfl⟩ (fun hHeld => ?_)
    clear hK K
    refine nO 30 ?_
    refine one_ (i := 3) (N := some 31) #[true, true, true, true, false] rfl rfl (by kernel_rfl) (by decide) (fun K hK => ?_)
    refine gO Try.func19 #[.agg #[.slice Ao37 t286.length co37, .slice Ao41 t289.length co41, .slice Ao42 t292.length co42, .slice Ao43 t295.length co43, .slice Ao44 t298.length co44, .int .i64 t301, .int .i64 t302, .int .i64 t303, .int .i64 t304], .agg #[.slice Ao51 t309.length co51, .slice Ao52 t312.length co52, .slice Ao53 t315.length co53, .slice Ao54 t318.length co54, .slice Ao55 t321.length co55, .int .i64 t324, .int .i64 t325, .int .i64 t326, .int .i64 t327]] ?_
    with_reducible refine (laws_eqBetting.calls k _ _ t286 _ _ t289 _ _ t292 _ _ t295 _ _ t298 t301 t302 t303 t304 _ _ t309 _ _ t312 _ _ t315 _ _ t318 _ _ t321 t324 t325 t326 t327 true _ ?side1 ?side2 ?side3 ?side4 ?side5 ?side6 ?side7 ?side8 ?side9 ?side10 ?side11 ?side12 ?side13 ?side14 ?side15 ?side16 ?side17 ?side18 ?side19 ?side20 A18.out).mono ?_
    (case side1 => exact cA ((Kd.R_reads' HO288.out).2.2))
    (case side2 => exact (Kd.R_reads' HO288.out).2.1)
    (case side3 => exact cA ((Kd.R_reads' HO291.out).2.2))
    (case side4 => exact (Kd.R_reads' HO291.out).2.1)
    (case side5 => exact cA ((Kd.R_reads' HO294.out).2.2))
    (case side6 => exact (Kd.R_reads' HO294.out).2.1)
    (case side7 => exact cA ((Kd.R_reads' HO297.out).2.2))
    (case side8 => exact (Kd.R_reads' HO297.out).2.1)
    (case side9 => exact cA ((Kd.R_reads' HO300.out).2.2))
    (case side10 => exact (Kd.R_reads' HO300.out).2.1)
    (case side11 => exact cA ((Kd.R_reads' HO311.out).2.2))
    (case side12 => exact (Kd.R_reads' HO311.out).2.1)
    (case side13 => exact cA ((Kd.R_reads' HO314.out).2.2))
    (case side14 => exact (Kd.R_reads' HO314.out).2.1)
    (case side15 => exact cA ((Kd.R_reads' HO317.out).2.2))
    (case side16 => exact (Kd.R_reads' HO317.out).2.1)
    (case side17 => exact cA ((Kd.R_reads' HO320.out).2.2))
    (case side18 => exact (Kd.R_reads' HO320.out).2.1)
    (case side19 => exact cA ((Kd.R_reads' HO323.out).2.2))
    (case side20 => exact (Kd.R_reads' HO323.out).2.1)
    rintro e w56 ⟨rfl, hb⟩
    refine ⟨_, rfl, ?_⟩
    replace HO266 := Aside0.mk (Kd.R_below (rA HO266.out) hb)
    replace HO269 := Aside0.mk (Kd.R_below (rA HO269.out) hb)
    replace HO272 := Aside0.mk (Kd.R_below (rA HO272.out) hb)
    replace HO275 := Aside0.mk (Kd.R_below (rA HO275.out) hb)
    replace HO278 := Aside0.mk (Kd.R_below (rA HO278.out) hb)
    replace HO288 := Aside0.mk (Kd.R_below (rA HO288.out) hb)
    replace HO291 := Aside0.mk (Kd.R_below (rA HO291.out) hb)
    replace HO294 := Aside0.mk (Kd.R_below (rA HO294.out) hb)
    replace HO297 := Aside0.mk (Kd.R_below (rA HO297.out) hb)
    replace HO300 := Aside0.mk (Kd.R_below (rA HO300.out) hb)
    replace HO311 := Aside0.mk (Kd.R_below (rA HO311.out) hb)
    replace HO314 := Aside0.mk (Kd.R_below (rA HO314.out) hb)
    replace HO317 := Aside0.mk (Kd.R_below (rA HO317.out) hb)
    replace HO320 := Aside0.mk (Kd.R_below (rA HO320.out) hb)
    replace HO323 := Aside0.mk (Kd.R_below (rA HO323.out) hb)
    replace BK261 := Aside0.mk (blk_below (kA BK261.out) hb)
    replace BK262 := Aside0.mk (blk_below (kA BK262.out) hb)
    replace BK305 := Aside0.mk (blk_below (kA BK305.out) hb)
    replace HB := Aside0.mk (below_step (bA HB.out) hb)
    (try clear hb)
    refine hK.out _ _ ⟨(blk_cell BK305.out 0).trans rfl, (blk_cell BK305.out 1).trans rfl, (blk_cell BK305.out 2).trans rfl, (blk_cell BK305.out 3).trans rfl, (blk_cell BK305.out 4).trans rfl, (blk_cell BK305.out 5).trans rfl, (blk_cell BK305.out 6).trans rfl, (blk_cell BK305.out 7).trans rfl, (blk_cell BK305.out 8).trans rfl, (blk_cell BK261.out 0).trans rfl, (blk_cell BK261.out 1).trans rfl, (blk_cell BK261.out 2).trans rfl, (blk_cell BK261.out 3).trans rfl, (blk_cell BK261.out 4).trans rfl, (blk_cell BK261.out 5).trans rfl, (blk_cell BK261.out 6).trans rfl, (blk_cell BK261.out 7).trans rfl, (blk_cell BK261.out 8).trans rfl⟩ (fun hHeld => ?_)
    clear hK K
    refine nO 31 ?_
    refine pure_ (i := 4) (N := some 32) (v := ?_) (a' := ?_) #[true, true, true, true, true] rfl rfl (by kernel_rfl) (fun _ _ _ h => h) (Or.inl ⟨by rfl, ?_⟩) ?_ ?_
    rotate_left
    ·intro w'
     go_simp
     with_reducible rfl
    rotate_left
    ·simp only [Act.put, List.setIfInBounds_toArray, List.set_cons_zero, List.set_cons_succ, i64_w, i32_w]
     rfl
    refine done_ (by kernel_rfl) ?_
    try go_wp2
    go_ret
    exact ⟨by first | rfl | (simp [errW_none, errW_some] <;> rfl) | (simp [*, errW_none, errW_some] <;> rfl), bA HB.out⟩
   ·replace c19 := Bool.eq_false_iff.mpr c19
    subst c19
    rw [if_neg (show ¬ (false = true) by decide)] at H
    try dsimp only at H
    exact absurd H (by simp)
end Go.Proofs.Ytmcobmphmmgdmaa.QFnExactIsLegal
