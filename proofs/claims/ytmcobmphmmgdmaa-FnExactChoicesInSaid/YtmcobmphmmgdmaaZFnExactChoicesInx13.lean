import Derived.Test.YtmcobmphmmgdmaaZFnExactChoicesInx0
import Derived.Test.YtmcobmphmmgdmaaZFnExactChoicesInx1
import Derived.Test.YtmcobmphmmgdmaaZFnExactChoicesInx2
import Derived.Test.YtmcobmphmmgdmaaZFnExactChoicesInx7
import Derived.Test.YtmcobmphmmgdmaaZFnExactChoicesInx11
import Derived.Test.YtmcobmphmmgdmaaZFnExactChoicesInx12
namespace Go.Proofs.Ytmcobmphmmgdmaa.QFnExactChoicesIn
open Go.RowKit Go.Proofs.YtmcobmphmmgdmaaW.PrintWords Go.Proofs.YtmcobmphmmgdmaaW.PrintLast Go.Proofs.YtmcobmphmmgdmaaW.PrintMore
attribute [local go_sem] max2_int min2_int max_two min_two max_three min_three max_four min_four
set_option linter.unusedVariables false
set_option linter.unusedSimpArgs false
def impl_ChoicesIn.f (k : Nat) (l0_0 : List Int) (l0_1 : List Int) (l0_2 : List Int) (l0_3 : List Bool) (l0_4 : List Bool) (a0_5 : Int) (a0_6 : Int) (a0_7 : Int) (a0_8 : Int) : Option (Bool × Int × Int × Int × Int) := (impl_checkOpen.f k l0_0 l0_1 l0_2 l0_3 l0_4 a0_5 a0_6 a0_7 a0_8).bind fun t244 => (if t244 = 0 then ((impl_choicesIn.f k l0_0 l0_1 l0_2 l0_3 l0_4 a0_5 a0_6 a0_7 a0_8).bind fun bt245 => (some (bt245.1, bt245.2.1, bt245.2.2.1, bt245.2.2.2, 0))) else (some (false, 0, 0, 0, t244)))
theorem impl_ChoicesIn.mono : ∀ a0 a1 a2 a3 a4 a5 a6 a7 a8 k, LeO (impl_ChoicesIn.f k a0 a1 a2 a3 a4 a5 a6 a7 a8) (impl_ChoicesIn.f (k + 1) a0 a1 a2 a3 a4 a5 a6 a7 a8) := by
 intro a0 a1 a2 a3 a4 a5 a6 a7 a8 k
 unfold impl_ChoicesIn.f
 repeat' first
   | (with_reducible exact impl_checkOpen.mono _ _ _ _ _ _ _ _ _ _)
   | (with_reducible exact impl_choicesIn.mono _ _ _ _ _ _ _ _ _ _)
   | (with_reducible exact LeO.refl _)
   | (with_reducible exact LeO.none _)
   | (with_reducible refine LeO.ite ?_ ?_)
   | (with_reducible refine LeO.bind ?_ (fun _ => ?_))
   | exact impl_checkOpen.mono _ _ _ _ _ _ _ _ _ _
   | exact impl_choicesIn.mono _ _ _ _ _ _ _ _ _ _
   | exact LeO.none _
   | refine LeO.ite ?_ ?_
   | refine LeO.bind ?_ (fun _ => ?_)
set_option maxHeartbeats 8000000 in
set_option maxRecDepth 100000 in
theorem impl_ChoicesIn.calls (k : Nat) (A0_0 : Option Addr) (c0_0 : Nat) (l0_0 : List Int) (A0_1 : Option Addr) (c0_1 : Nat) (l0_1 : List Int) (A0_2 : Option Addr) (c0_2 : Nat) (l0_2 : List Int) (A0_3 : Option Addr) (c0_3 : Nat) (l0_3 : List Bool) (A0_4 : Option Addr) (c0_4 : Nat) (l0_4 : List Bool) (a0_5 : Int) (a0_6 : Int) (a0_7 : Int) (a0_8 : Int) (r1 : Bool) (r2 : Int) (r3 : Int) (r4 : Int) (r5 : Int) (w : World) (hr0_0 : Kd.C (Kd.int .i64) w A0_0 l0_0.length l0_0) (hc0_0 : l0_0.length ≤ c0_0) (hr0_1 : Kd.C (Kd.int .i64) w A0_1 l0_1.length l0_1) (hc0_1 : l0_1.length ≤ c0_1) (hr0_2 : Kd.C (Kd.int .i64) w A0_2 l0_2.length l0_2) (hc0_2 : l0_2.length ≤ c0_2) (hr0_3 : Kd.C Kd.bool w A0_3 l0_3.length l0_3) (hc0_3 : l0_3.length ≤ c0_3) (hr0_4 : Kd.C Kd.bool w A0_4 l0_4.length l0_4) (hc0_4 : l0_4.length ≤ c0_4) (h : impl_ChoicesIn.f k l0_0 l0_1 l0_2 l0_3 l0_4 a0_5 a0_6 a0_7 a0_8 = some (r1, r2, r3, r4, r5)) :
  Calls Try.prog 39 #[.agg #[.slice A0_0 l0_0.length c0_0, .slice A0_1 l0_1.length c0_1, .slice A0_2 l0_2.length c0_2, .slice A0_3 l0_3.length c0_3, .slice A0_4 l0_4.length c0_4, .int .i64 a0_5, .int .i64 a0_6, .int .i64 a0_7, .int .i64 a0_8]] w fun e w' => e = .returned (.tuple #[.agg #[.bool r1, .int .i64 r2, .int .i64 r3, .int .i64 r4], .int .i64 r5]) ∧ Below w.heap.size w w' := by
 have hu28 := Try.underlying28
 have hu40 := Try.underlying40
 have HR0_0 := Aside0.mk hr0_0
 have HC0_0 := Aside0.mk hc0_0
 clear hr0_0 hc0_0
 have HR0_1 := Aside0.mk hr0_1
 have HC0_1 := Aside0.mk hc0_1
 clear hr0_1 hc0_1
 have HR0_2 := Aside0.mk hr0_2
 have HC0_2 := Aside0.mk hc0_2
 clear hr0_2 hc0_2
 have HR0_3 := Aside0.mk hr0_3
 have HC0_3 := Aside0.mk hc0_3
 clear hr0_3 hc0_3
 have HR0_4 := Aside0.mk hr0_4
 have HC0_4 := Aside0.mk hc0_4
 clear hr0_4 hc0_4
 have HB := Aside0.mk (Below.refl w.heap.size w)
 have H : ((impl_checkOpen.f k l0_0 l0_1 l0_2 l0_3 l0_4 a0_5 a0_6 a0_7 a0_8).bind fun t244 => (if t244 = 0 then ((impl_choicesIn.f k l0_0 l0_1 l0_2 l0_3 l0_4 a0_5 a0_6 a0_7 a0_8).bind fun bt245 => (some (bt245.1, bt245.2.1, bt245.2.2.1, bt245.2.2.2, 0))) else (some (false, 0, 0, 0, t244)))) = some (r1, r2, r3, r4, r5) := h
 clear h
 obtain ⟨t244, A20, H⟩ := Option.bind_eq_some_iff.mp H
 try dsimp only at H
 have A2 := Aside0.mk A20
 clear A20
 by_cases c3 : t244 = 0
 ·rw [if_pos c3] at H
  have c3b0 : (t244 == 0) = true := beq_iff_eq.mpr c3
  have c3b1 : (t244 != 0) = false := bne_eq_false_iff_eq.mpr c3
  clear c3
  obtain ⟨⟨t245, t246, t247, t248⟩, A40, H⟩ := Option.bind_eq_some_iff.mp H
  try dsimp only at H
  have A4 := Aside0.mk A40
  clear A40
  simp only [Option.some.injEq, Prod.mk.injEq] at H
  obtain ⟨rfl, rfl, rfl, rfl, rfl⟩ := H
  go_enter Try.func39, Try.ntmps39
  go_wp2_with (first | ((with_reducible refine gate_dst (N := 1) rfl ?_); refine bE 1 #[.slice A0_0 l0_0.length c0_0, .slice A0_1 l0_1.length c0_1, .slice A0_2 l0_2.length c0_2, .slice A0_3 l0_3.length c0_3, .slice A0_4 l0_4.length c0_4, .int .i64 a0_5, .int .i64 a0_6, .int .i64 a0_7, .int .i64 a0_8] 28 ?_; intro gb242 hg w5 hbox hb; have BK242 := Aside0.mk (hbox); have GW242 := Aside0.mk (gE hg (bA HB.out)); have GE242 := Aside0.mk (gE hg (bA HB.out)); replace HB := Aside0.mk (below_step (bA HB.out) hb); clear hb hbox hg) | ((with_reducible refine gate_dst (N := 2) rfl ?_); refine bE 2 #[.bool false, .int .i64 0, .int .i64 0, .int .i64 0] 40 ?_; intro gb243 hg w6 hbox hb; have BK243 := Aside0.mk (hbox); have GW243 := Aside0.mk (gE hg (bA HB.out)); have GE243 := Aside0.mk (gE hg (bA HB.out)); replace HB := Aside0.mk (below_step (bA HB.out) hb); have NB242_243 := Aside0.mk ((by rw [hg]; exact Nat.ne_of_lt (blk_lt (kA BK242.out)) : gb242 ≠ gb243)); have NB243_242 := Aside0.mk ((by rw [hg]; exact Nat.ne_of_gt (blk_lt (kA BK242.out)) : gb243 ≠ gb242)); replace BK242 := Aside0.mk (blk_below (kA BK242.out) hb); clear hb hbox hg; have hnb7 := NB242_243.out; have hnc7 := NB243_242.out; obtain ⟨hcz8_0, hcz8_1, hcz8_2, hcz8_3, hcz8_4, hcz8_5, hcz8_6, hcz8_7, hcz8_8, hfz8_0, hfz8_1, hfz8_2, hfz8_3, hfz8_4, hfz8_5, hfz8_6, hfz8_7, hfz8_8⟩ := cz9 BK242.out) | ((with_reducible refine gate_callee (f := 80) rfl ?_); refine gL (some 6) Try.func80 #[.agg #[.slice A0_0 l0_0.length c0_0, .slice A0_1 l0_1.length c0_1, .slice A0_2 l0_2.length c0_2, .slice A0_3 l0_3.length c0_3, .slice A0_4 l0_4.length c0_4, .int .i64 a0_5, .int .i64 a0_6, .int .i64 a0_7, .int .i64 a0_8]] ?_; (with_reducible refine (impl_checkOpen.calls k _ _ l0_0 _ _ l0_1 _ _ l0_2 _ _ l0_3 _ _ l0_4 a0_5 a0_6 a0_7 a0_8 t244 _ ?side1 ?side2 ?side3 ?side4 ?side5 ?side6 ?side7 ?side8 ?side9 ?side10 A2.out).mono ?_); (case side1 => exact cA (Kd.C_below HR0_0.out HB.out)); (case side2 => exact HC0_0.out); (case side3 => exact cA (Kd.C_below HR0_1.out HB.out)); (case side4 => exact HC0_1.out); (case side5 => exact cA (Kd.C_below HR0_2.out HB.out)); (case side6 => exact HC0_2.out); (case side7 => exact cA (Kd.C_below HR0_3.out HB.out)); (case side8 => exact HC0_3.out); (case side9 => exact cA (Kd.C_below HR0_4.out HB.out)); (case side10 => exact HC0_4.out); rintro e w9 ⟨rfl, hb⟩; refine ⟨_, rfl, ?_⟩; replace BK242 := Aside0.mk (blk_below (kA BK242.out) hb); replace BK243 := Aside0.mk (blk_below (kA BK243.out) hb); replace HB := Aside0.mk (below_step (bA HB.out) hb); (try clear hb); obtain ⟨hcz10_0, hcz10_1, hcz10_2, hcz10_3, hcz10_4, hcz10_5, hcz10_6, hcz10_7, hcz10_8, hfz10_0, hfz10_1, hfz10_2, hfz10_3, hfz10_4, hfz10_5, hfz10_6, hfz10_7, hfz10_8⟩ := cz9 BK242.out) | ((with_reducible refine gate_callee (f := 81) rfl ?_); refine gL (some 12) Try.func81 #[.agg #[.slice A0_0 l0_0.length c0_0, .slice A0_1 l0_1.length c0_1, .slice A0_2 l0_2.length c0_2, .slice A0_3 l0_3.length c0_3, .slice A0_4 l0_4.length c0_4, .int .i64 a0_5, .int .i64 a0_6, .int .i64 a0_7, .int .i64 a0_8]] ?_; (with_reducible refine (impl_choicesIn.calls k _ _ l0_0 _ _ l0_1 _ _ l0_2 _ _ l0_3 _ _ l0_4 a0_5 a0_6 a0_7 a0_8 t245 t246 t247 t248 _ ?side1 ?side2 ?side3 ?side4 ?side5 ?side6 ?side7 ?side8 ?side9 ?side10 A4.out).mono ?_); (case side1 => exact cA (Kd.C_below HR0_0.out HB.out)); (case side2 => exact HC0_0.out); (case side3 => exact cA (Kd.C_below HR0_1.out HB.out)); (case side4 => exact HC0_1.out); (case side5 => exact cA (Kd.C_below HR0_2.out HB.out)); (case side6 => exact HC0_2.out); (case side7 => exact cA (Kd.C_below HR0_3.out HB.out)); (case side8 => exact HC0_3.out); (case side9 => exact cA (Kd.C_below HR0_4.out HB.out)); (case side10 => exact HC0_4.out); rintro e w11 ⟨rfl, hb⟩; refine ⟨_, rfl, ?_⟩; replace BK242 := Aside0.mk (blk_below (kA BK242.out) hb); replace BK243 := Aside0.mk (blk_below (kA BK243.out) hb); replace HB := Aside0.mk (below_step (bA HB.out) hb); (try clear hb); obtain ⟨hcz12_0, hcz12_1, hcz12_2, hcz12_3, hfz12_0, hfz12_1, hfz12_2, hfz12_3⟩ := cz4 BK243.out))
  refine bodyPost_ret (results_ct rfl _ _ gb243 40 #[.bool t245, .int .i64 t246, .int .i64 t247, .int .i64 t248] (0, 0) _ rfl (by (with_reducible repeat (first | refine blk_drewN ?_ _ | refine blk_drew ?_ | refine blk_alloc ?_ _)); refine blk_put (cs := #[.bool t245, .int .i64 t246, .int .i64 t247, .int .i64 0]) ?_ 3 _ rfl; (with_reducible repeat (first | refine blk_drewN ?_ _ | refine blk_drew ?_ | refine blk_alloc ?_ _)); refine blk_put (cs := #[.bool t245, .int .i64 t246, .int .i64 0, .int .i64 0]) ?_ 2 _ rfl; (with_reducible repeat (first | refine blk_drewN ?_ _ | refine blk_drew ?_ | refine blk_alloc ?_ _)); refine blk_put (cs := #[.bool t245, .int .i64 0, .int .i64 0, .int .i64 0]) ?_ 1 _ rfl; (with_reducible repeat (first | refine blk_drewN ?_ _ | refine blk_drew ?_ | refine blk_alloc ?_ _)); refine blk_put (cs := #[.bool false, .int .i64 0, .int .i64 0, .int .i64 0]) ?_ 0 _ rfl; (with_reducible repeat (first | refine blk_drewN ?_ _ | refine blk_drew ?_ | refine blk_alloc ?_ _)); exact BK243.out) Try.underlying40 rfl (by kernel_rfl)) rfl ?_
  exact ⟨by first | rfl | (simp [errW_none, errW_some] <;> rfl) | (simp [*, errW_none, errW_some] <;> rfl), bA HB.out⟩
 ·rw [if_neg c3] at H
  have c3b0 : (t244 == 0) = false := beq_eq_false_iff_ne.mpr c3
  have c3b1 : (t244 != 0) = true := bne_iff_ne.mpr c3
  simp only [Option.some.injEq, Prod.mk.injEq] at H
  obtain ⟨rfl, rfl, rfl, rfl, rfl⟩ := H
  go_enter Try.func39, Try.ntmps39
  go_wp2_with (first | ((with_reducible refine gate_dst (N := 1) rfl ?_); refine bE 1 #[.slice A0_0 l0_0.length c0_0, .slice A0_1 l0_1.length c0_1, .slice A0_2 l0_2.length c0_2, .slice A0_3 l0_3.length c0_3, .slice A0_4 l0_4.length c0_4, .int .i64 a0_5, .int .i64 a0_6, .int .i64 a0_7, .int .i64 a0_8] 28 ?_; intro gb242 hg w13 hbox hb; have BK242 := Aside0.mk (hbox); have GW242 := Aside0.mk (gE hg (bA HB.out)); have GE242 := Aside0.mk (gE hg (bA HB.out)); replace HB := Aside0.mk (below_step (bA HB.out) hb); clear hb hbox hg) | ((with_reducible refine gate_dst (N := 2) rfl ?_); refine bE 2 #[.bool false, .int .i64 0, .int .i64 0, .int .i64 0] 40 ?_; intro gb243 hg w14 hbox hb; have BK243 := Aside0.mk (hbox); have GW243 := Aside0.mk (gE hg (bA HB.out)); have GE243 := Aside0.mk (gE hg (bA HB.out)); replace HB := Aside0.mk (below_step (bA HB.out) hb); have NB242_243 := Aside0.mk ((by rw [hg]; exact Nat.ne_of_lt (blk_lt (kA BK242.out)) : gb242 ≠ gb243)); have NB243_242 := Aside0.mk ((by rw [hg]; exact Nat.ne_of_gt (blk_lt (kA BK242.out)) : gb243 ≠ gb242)); replace BK242 := Aside0.mk (blk_below (kA BK242.out) hb); clear hb hbox hg; have hnb15 := NB242_243.out; have hnc15 := NB243_242.out; obtain ⟨hcz16_0, hcz16_1, hcz16_2, hcz16_3, hcz16_4, hcz16_5, hcz16_6, hcz16_7, hcz16_8, hfz16_0, hfz16_1, hfz16_2, hfz16_3, hfz16_4, hfz16_5, hfz16_6, hfz16_7, hfz16_8⟩ := cz9 BK242.out) | ((with_reducible refine gate_callee (f := 80) rfl ?_); refine gL (some 6) Try.func80 #[.agg #[.slice A0_0 l0_0.length c0_0, .slice A0_1 l0_1.length c0_1, .slice A0_2 l0_2.length c0_2, .slice A0_3 l0_3.length c0_3, .slice A0_4 l0_4.length c0_4, .int .i64 a0_5, .int .i64 a0_6, .int .i64 a0_7, .int .i64 a0_8]] ?_; (with_reducible refine (impl_checkOpen.calls k _ _ l0_0 _ _ l0_1 _ _ l0_2 _ _ l0_3 _ _ l0_4 a0_5 a0_6 a0_7 a0_8 t244 _ ?side1 ?side2 ?side3 ?side4 ?side5 ?side6 ?side7 ?side8 ?side9 ?side10 A2.out).mono ?_); (case side1 => exact cA (Kd.C_below HR0_0.out HB.out)); (case side2 => exact HC0_0.out); (case side3 => exact cA (Kd.C_below HR0_1.out HB.out)); (case side4 => exact HC0_1.out); (case side5 => exact cA (Kd.C_below HR0_2.out HB.out)); (case side6 => exact HC0_2.out); (case side7 => exact cA (Kd.C_below HR0_3.out HB.out)); (case side8 => exact HC0_3.out); (case side9 => exact cA (Kd.C_below HR0_4.out HB.out)); (case side10 => exact HC0_4.out); rintro e w17 ⟨rfl, hb⟩; refine ⟨_, rfl, ?_⟩; replace BK242 := Aside0.mk (blk_below (kA BK242.out) hb); replace BK243 := Aside0.mk (blk_below (kA BK243.out) hb); replace HB := Aside0.mk (below_step (bA HB.out) hb); (try clear hb); obtain ⟨hcz18_0, hcz18_1, hcz18_2, hcz18_3, hfz18_0, hfz18_1, hfz18_2, hfz18_3⟩ := cz4 BK243.out))
  refine bodyPost_ret (results_ct rfl _ _ gb243 40 #[.bool false, .int .i64 0, .int .i64 0, .int .i64 0] (0, 0) _ rfl (by (with_reducible repeat (first | refine blk_drewN ?_ _ | refine blk_drew ?_ | refine blk_alloc ?_ _)); refine blk_put (cs := #[.bool false, .int .i64 0, .int .i64 0, .int .i64 0]) ?_ 3 _ rfl; (with_reducible repeat (first | refine blk_drewN ?_ _ | refine blk_drew ?_ | refine blk_alloc ?_ _)); refine blk_put (cs := #[.bool false, .int .i64 0, .int .i64 0, .int .i64 0]) ?_ 2 _ rfl; (with_reducible repeat (first | refine blk_drewN ?_ _ | refine blk_drew ?_ | refine blk_alloc ?_ _)); refine blk_put (cs := #[.bool false, .int .i64 0, .int .i64 0, .int .i64 0]) ?_ 1 _ rfl; (with_reducible repeat (first | refine blk_drewN ?_ _ | refine blk_drew ?_ | refine blk_alloc ?_ _)); refine blk_put (cs := #[.bool false, .int .i64 0, .int .i64 0, .int .i64 0]) ?_ 0 _ rfl; (with_reducible repeat (first | refine blk_drewN ?_ _ | refine blk_drew ?_ | refine blk_alloc ?_ _)); exact BK243.out) Try.underlying40 rfl (by kernel_rfl)) rfl ?_
  exact ⟨by first | rfl | (simp [errW_none, errW_some] <;> rfl) | (simp [*, errW_none, errW_some] <;> rfl), bA HB.out⟩
def laws_eqChoices.f (a0_0 : Bool) (a0_1 : Int) (a0_2 : Int) (a0_3 : Int) (a1_0 : Bool) (a1_1 : Int) (a1_2 : Int) (a1_3 : Int) : Option (Bool) := if (a0_0 != a1_0) = true then (none) else (if a0_1 = a1_1 then (if a0_2 = a1_2 then (if a0_3 = a1_3 then (some true) else (none)) else (none)) else (none))
set_option maxHeartbeats 8000000 in
set_option maxRecDepth 100000 in
theorem laws_eqChoices.calls (a0_0 : Bool) (a0_1 : Int) (a0_2 : Int) (a0_3 : Int) (a1_0 : Bool) (a1_1 : Int) (a1_2 : Int) (a1_3 : Int) (r : Bool) (w : World) (h : laws_eqChoices.f a0_0 a0_1 a0_2 a0_3 a1_0 a1_1 a1_2 a1_3 = some r) :
  Calls Try.prog 40 #[.agg #[.bool a0_0, .int .i64 a0_1, .int .i64 a0_2, .int .i64 a0_3], .agg #[.bool a1_0, .int .i64 a1_1, .int .i64 a1_2, .int .i64 a1_3]] w fun e w' => e = .returned (.bool r) ∧ Below w.heap.size w w' := by
 have hu40 := Try.underlying40
 have HB := Aside0.mk (Below.refl w.heap.size w)
 have H : (if (a0_0 != a1_0) = true then (none) else (if a0_1 = a1_1 then (if a0_2 = a1_2 then (if a0_3 = a1_3 then (some true) else (none)) else (none)) else (none))) = some r := h
 clear h
 by_cases c3 : (a0_0 != a1_0) = true
 ·rw [if_pos c3] at H
  exact absurd H (by simp)
 ·rw [if_neg c3] at H
  have c3b0 : (a0_0 != a1_0) = false := by simpa using c3
  (try (have c3b1 : decide (a0_0 = a1_0) = true := by simpa using c3))
  (try (have c3b2 : (a0_0 == a1_0) = true := by simpa using c3))
  clear c3
  by_cases c4 : a0_1 = a1_1
  ·rw [if_pos c4] at H
   have c4b0 : (a0_1 == a1_1) = true := beq_iff_eq.mpr c4
   have c4b1 : (a0_1 != a1_1) = false := bne_eq_false_iff_eq.mpr c4
   clear c4
   by_cases c5 : a0_2 = a1_2
   ·rw [if_pos c5] at H
    have c5b0 : (a0_2 == a1_2) = true := beq_iff_eq.mpr c5
    have c5b1 : (a0_2 != a1_2) = false := bne_eq_false_iff_eq.mpr c5
    clear c5
    by_cases c6 : a0_3 = a1_3
    ·rw [if_pos c6] at H
     have c6b0 : (a0_3 == a1_3) = true := beq_iff_eq.mpr c6
     have c6b1 : (a0_3 != a1_3) = false := bne_eq_false_iff_eq.mpr c6
     clear c6
     obtain rfl := Option.some.inj H
     go_enter Try.func40, Try.ntmps40
     go_wp2_with (first | ((with_reducible refine gate_dst (N := 2) rfl ?_); refine bE 2 #[.bool a0_0, .int .i64 a0_1, .int .i64 a0_2, .int .i64 a0_3] 40 ?_; intro gb249 hg w7 hbox hb; have BK249 := Aside0.mk (hbox); have GW249 := Aside0.mk (gE hg (bA HB.out)); have GE249 := Aside0.mk (gE hg (bA HB.out)); replace HB := Aside0.mk (below_step (bA HB.out) hb); clear hb hbox hg) | ((with_reducible refine gate_dst (N := 3) rfl ?_); refine bE 3 #[.bool a1_0, .int .i64 a1_1, .int .i64 a1_2, .int .i64 a1_3] 40 ?_; intro gb250 hg w8 hbox hb; have BK250 := Aside0.mk (hbox); have GW250 := Aside0.mk (gE hg (bA HB.out)); have GE250 := Aside0.mk (gE hg (bA HB.out)); replace HB := Aside0.mk (below_step (bA HB.out) hb); have NB249_250 := Aside0.mk ((by rw [hg]; exact Nat.ne_of_lt (blk_lt (kA BK249.out)) : gb249 ≠ gb250)); have NB250_249 := Aside0.mk ((by rw [hg]; exact Nat.ne_of_gt (blk_lt (kA BK249.out)) : gb250 ≠ gb249)); replace BK249 := Aside0.mk (blk_below (kA BK249.out) hb); clear hb hbox hg; have hnb9 := NB249_250.out; have hnc9 := NB250_249.out; obtain ⟨hcz10_0, hcz10_1, hcz10_2, hcz10_3, hfz10_0, hfz10_1, hfz10_2, hfz10_3⟩ := cz4 BK249.out; obtain ⟨hcz11_0, hcz11_1, hcz11_2, hcz11_3, hfz11_0, hfz11_1, hfz11_2, hfz11_3⟩ := cz4 BK250.out))
     go_ret
     exact ⟨by first | rfl | (simp [errW_none, errW_some] <;> rfl) | (simp [*, errW_none, errW_some] <;> rfl), bA HB.out⟩
    ·rw [if_neg c6] at H
     exact absurd H (by simp)
   ·rw [if_neg c5] at H
    exact absurd H (by simp)
  ·rw [if_neg c4] at H
   exact absurd H (by simp)
def laws_FnExactChoicesIn.j0 : Nat → Bool → List Int → List Int → List Int → List Bool → List Bool → Int → Int → Int → Int → List Int → List Int → List Int → List Bool → List Bool → Int → Int → Int → Int → Option (Bool)
 | 0, _, _, _, _, _, _, _, _, _, _, _, _, _, _, _, _, _, _, _ => none
 | k + 1, x35, x252000, x252001, x252002, x252003, x252004, x252005, x252006, x252007, x252008, x298000, x298001, x298002, x298003, x298004, x298005, x298006, x298007, x298008 => if x35 = true then (none) else ((laws_toBetting.f k x252000 x252001 x252002 x252003 x252004 x252005 x252006 x252007 x252008).bind fun bt305 => ((laws_eqBetting.f k x298000 x298001 x298002 x298003 x298004 x298005 x298006 x298007 x298008 bt305.1 bt305.2.1 bt305.2.2.1 bt305.2.2.2.1 bt305.2.2.2.2.1 bt305.2.2.2.2.2.1 bt305.2.2.2.2.2.2.1 bt305.2.2.2.2.2.2.2.1 bt305.2.2.2.2.2.2.2.2).bind fun t324 => (if t324 = true then (some true) else (none))))
def laws_FnExactChoicesIn.f (k : Nat) (l0_0 : List Int) (l0_1 : List Int) (l0_2 : List Int) (l0_3 : List Bool) (l0_4 : List Bool) (a0_5 : Int) (a0_6 : Int) (a0_7 : Int) (a0_8 : Int) : Option (Bool) := (laws_szBetting.f l0_0 l0_1 l0_2 l0_3 l0_4 a0_5 a0_6 a0_7 a0_8 1048576).bind fun t252 => (if t252 < 0 then (some true) else ((laws_toBetting.f k l0_0 l0_1 l0_2 l0_3 l0_4 a0_5 a0_6 a0_7 a0_8).bind fun bt253 => ((spec_ChoicesIn.f k bt253.1 bt253.2.1 bt253.2.2.1 bt253.2.2.2.1 bt253.2.2.2.2.1 bt253.2.2.2.2.2.1 bt253.2.2.2.2.2.2.1 bt253.2.2.2.2.2.2.2.1 bt253.2.2.2.2.2.2.2.2).bind fun bt272 => ((laws_toBetting.f k l0_0 l0_1 l0_2 l0_3 l0_4 a0_5 a0_6 a0_7 a0_8).bind fun bt278 => ((impl_ChoicesIn.f k bt278.1 bt278.2.1 bt278.2.2.1 bt278.2.2.2.1 bt278.2.2.2.2.1 bt278.2.2.2.2.2.1 bt278.2.2.2.2.2.2.1 bt278.2.2.2.2.2.2.2.1 bt278.2.2.2.2.2.2.2.2).bind fun bt298 => ((laws_eqChoices.f bt298.1 bt298.2.1 bt298.2.2.1 bt298.2.2.2.1 bt272.1 bt272.2.1 bt272.2.2.1 bt272.2.2.2.1).bind fun t304 => (if t304 = true then (laws_FnExactChoicesIn.j0 k (bt298.2.2.2.2 != bt272.2.2.2.2) l0_0 l0_1 l0_2 l0_3 l0_4 a0_5 a0_6 a0_7 a0_8 bt278.1 bt278.2.1 bt278.2.2.1 bt278.2.2.2.1 bt278.2.2.2.2.1 bt278.2.2.2.2.2.1 bt278.2.2.2.2.2.2.1 bt278.2.2.2.2.2.2.2.1 bt278.2.2.2.2.2.2.2.2) else (laws_FnExactChoicesIn.j0 k true l0_0 l0_1 l0_2 l0_3 l0_4 a0_5 a0_6 a0_7 a0_8 bt278.1 bt278.2.1 bt278.2.2.1 bt278.2.2.2.1 bt278.2.2.2.2.1 bt278.2.2.2.2.2.1 bt278.2.2.2.2.2.2.1 bt278.2.2.2.2.2.2.2.1 bt278.2.2.2.2.2.2.2.2))))))))
theorem laws_FnExactChoicesIn.mono_l : ∀ k, (∀ y0 y1 y2 y3 y4 y5 y6 y7 y8 y9 y10 y11 y12 y13 y14 y15 y16 y17 y18, LeO (laws_FnExactChoicesIn.j0 k y0 y1 y2 y3 y4 y5 y6 y7 y8 y9 y10 y11 y12 y13 y14 y15 y16 y17 y18) (laws_FnExactChoicesIn.j0 (k + 1) y0 y1 y2 y3 y4 y5 y6 y7 y8 y9 y10 y11 y12 y13 y14 y15 y16 y17 y18))
 | 0 => fun _ _ _ _ _ _ _ _ _ _ _ _ _ _ _ _ _ _ _ r h => by simp [laws_FnExactChoicesIn.j0] at h
 | k + 1 => by
  have ih0 := laws_FnExactChoicesIn.mono_l k
  ·intro y0 y1 y2 y3 y4 y5 y6 y7 y8 y9 y10 y11 y12 y13 y14 y15 y16 y17 y18
   unfold laws_FnExactChoicesIn.j0
   repeat' first
   | (with_reducible exact ih0 _ _ _ _ _ _ _ _ _ _ _ _ _ _ _ _ _ _ _)
   | (with_reducible exact impl_ChoicesIn.mono _ _ _ _ _ _ _ _ _ _)
   | (with_reducible exact laws_eqBetting.mono _ _ _ _ _ _ _ _ _ _ _ _ _ _ _ _ _ _ _)
   | (with_reducible exact laws_toBetting.mono _ _ _ _ _ _ _ _ _ _)
   | (with_reducible exact spec_ChoicesIn.mono _ _ _ _ _ _ _ _ _ _)
   | (with_reducible exact LeO.refl _)
   | (with_reducible exact LeO.none _)
   | (with_reducible refine LeO.ite ?_ ?_)
   | (with_reducible refine LeO.bind ?_ (fun _ => ?_))
   | exact ih0 _ _ _ _ _ _ _ _ _ _ _ _ _ _ _ _ _ _ _
   | exact impl_ChoicesIn.mono _ _ _ _ _ _ _ _ _ _
   | exact laws_eqBetting.mono _ _ _ _ _ _ _ _ _ _ _ _ _ _ _ _ _ _ _
   | exact laws_toBetting.mono _ _ _ _ _ _ _ _ _ _
   | exact spec_ChoicesIn.mono _ _ _ _ _ _ _ _ _ _
   | exact LeO.none _
   | refine LeO.ite ?_ ?_
   | refine LeO.bind ?_ (fun _ => ?_)
theorem laws_FnExactChoicesIn.mono : ∀ a0 a1 a2 a3 a4 a5 a6 a7 a8 k, LeO (laws_FnExactChoicesIn.f k a0 a1 a2 a3 a4 a5 a6 a7 a8) (laws_FnExactChoicesIn.f (k + 1) a0 a1 a2 a3 a4 a5 a6 a7 a8) := by
 intro a0 a1 a2 a3 a4 a5 a6 a7 a8 k
 have ih0 := laws_FnExactChoicesIn.mono_l k
 unfold laws_FnExactChoicesIn.f
 repeat' first
   | (with_reducible exact ih0 _ _ _ _ _ _ _ _ _ _ _ _ _ _ _ _ _ _ _)
   | (with_reducible exact impl_ChoicesIn.mono _ _ _ _ _ _ _ _ _ _)
   | (with_reducible exact laws_eqBetting.mono _ _ _ _ _ _ _ _ _ _ _ _ _ _ _ _ _ _ _)
   | (with_reducible exact laws_toBetting.mono _ _ _ _ _ _ _ _ _ _)
   | (with_reducible exact spec_ChoicesIn.mono _ _ _ _ _ _ _ _ _ _)
   | (with_reducible exact LeO.refl _)
   | (with_reducible exact LeO.none _)
   | (with_reducible refine LeO.ite ?_ ?_)
   | (with_reducible refine LeO.bind ?_ (fun _ => ?_))
   | exact ih0 _ _ _ _ _ _ _ _ _ _ _ _ _ _ _ _ _ _ _
   | exact impl_ChoicesIn.mono _ _ _ _ _ _ _ _ _ _
   | exact laws_eqBetting.mono _ _ _ _ _ _ _ _ _ _ _ _ _ _ _ _ _ _ _
   | exact laws_toBetting.mono _ _ _ _ _ _ _ _ _ _
   | exact spec_ChoicesIn.mono _ _ _ _ _ _ _ _ _ _
   | exact LeO.none _
   | refine LeO.ite ?_ ?_
   | refine LeO.bind ?_ (fun _ => ?_)
set_option maxHeartbeats 8000000 in
set_option maxRecDepth 100000 in
theorem laws_FnExactChoicesIn.calls (k : Nat) (A0_0 : Option Addr) (c0_0 : Nat) (l0_0 : List Int) (A0_1 : Option Addr) (c0_1 : Nat) (l0_1 : List Int) (A0_2 : Option Addr) (c0_2 : Nat) (l0_2 : List Int) (A0_3 : Option Addr) (c0_3 : Nat) (l0_3 : List Bool) (A0_4 : Option Addr) (c0_4 : Nat) (l0_4 : List Bool) (a0_5 : Int) (a0_6 : Int) (a0_7 : Int) (a0_8 : Int) (r : Bool) (w : World) (hr0_0 : Kd.C (Kd.int .i64) w A0_0 l0_0.length l0_0) (hc0_0 : l0_0.length ≤ c0_0) (hr0_1 : Kd.C (Kd.int .i64) w A0_1 l0_1.length l0_1) (hc0_1 : l0_1.length ≤ c0_1) (hr0_2 : Kd.C (Kd.int .i64) w A0_2 l0_2.length l0_2) (hc0_2 : l0_2.length ≤ c0_2) (hr0_3 : Kd.C Kd.bool w A0_3 l0_3.length l0_3) (hc0_3 : l0_3.length ≤ c0_3) (hr0_4 : Kd.C Kd.bool w A0_4 l0_4.length l0_4) (hc0_4 : l0_4.length ≤ c0_4) (h : laws_FnExactChoicesIn.f k l0_0 l0_1 l0_2 l0_3 l0_4 a0_5 a0_6 a0_7 a0_8 = some r) :
  Calls Try.prog 11 #[.agg #[.slice A0_0 l0_0.length c0_0, .slice A0_1 l0_1.length c0_1, .slice A0_2 l0_2.length c0_2, .slice A0_3 l0_3.length c0_3, .slice A0_4 l0_4.length c0_4, .int .i64 a0_5, .int .i64 a0_6, .int .i64 a0_7, .int .i64 a0_8]] w fun e w' => e = .returned (.bool r) ∧ Below w.heap.size w w' := by
 have hu25 := Try.underlying25
 have hu40 := Try.underlying40
 have hu28 := Try.underlying28
 have HR0_0 := Aside0.mk hr0_0
 have HC0_0 := Aside0.mk hc0_0
 clear hr0_0 hc0_0
 have HR0_1 := Aside0.mk hr0_1
 have HC0_1 := Aside0.mk hc0_1
 clear hr0_1 hc0_1
 have HR0_2 := Aside0.mk hr0_2
 have HC0_2 := Aside0.mk hc0_2
 clear hr0_2 hc0_2
 have HR0_3 := Aside0.mk hr0_3
 have HC0_3 := Aside0.mk hc0_3
 clear hr0_3 hc0_3
 have HR0_4 := Aside0.mk hr0_4
 have HC0_4 := Aside0.mk hc0_4
 clear hr0_4 hc0_4
 have HB := Aside0.mk (Below.refl w.heap.size w)
 have H : ((laws_szBetting.f l0_0 l0_1 l0_2 l0_3 l0_4 a0_5 a0_6 a0_7 a0_8 1048576).bind fun t252 => (if t252 < 0 then (some true) else ((laws_toBetting.f k l0_0 l0_1 l0_2 l0_3 l0_4 a0_5 a0_6 a0_7 a0_8).bind fun bt253 => ((spec_ChoicesIn.f k bt253.1 bt253.2.1 bt253.2.2.1 bt253.2.2.2.1 bt253.2.2.2.2.1 bt253.2.2.2.2.2.1 bt253.2.2.2.2.2.2.1 bt253.2.2.2.2.2.2.2.1 bt253.2.2.2.2.2.2.2.2).bind fun bt272 => ((laws_toBetting.f k l0_0 l0_1 l0_2 l0_3 l0_4 a0_5 a0_6 a0_7 a0_8).bind fun bt278 => ((impl_ChoicesIn.f k bt278.1 bt278.2.1 bt278.2.2.1 bt278.2.2.2.1 bt278.2.2.2.2.1 bt278.2.2.2.2.2.1 bt278.2.2.2.2.2.2.1 bt278.2.2.2.2.2.2.2.1 bt278.2.2.2.2.2.2.2.2).bind fun bt298 => ((laws_eqChoices.f bt298.1 bt298.2.1 bt298.2.2.1 bt298.2.2.2.1 bt272.1 bt272.2.1 bt272.2.2.1 bt272.2.2.2.1).bind fun t304 => (if t304 = true then (laws_FnExactChoicesIn.j0 k (bt298.2.2.2.2 != bt272.2.2.2.2) l0_0 l0_1 l0_2 l0_3 l0_4 a0_5 a0_6 a0_7 a0_8 bt278.1 bt278.2.1 bt278.2.2.1 bt278.2.2.2.1 bt278.2.2.2.2.1 bt278.2.2.2.2.2.1 bt278.2.2.2.2.2.2.1 bt278.2.2.2.2.2.2.2.1 bt278.2.2.2.2.2.2.2.2) else (laws_FnExactChoicesIn.j0 k true l0_0 l0_1 l0_2 l0_3 l0_4 a0_5 a0_6 a0_7 a0_8 bt278.1 bt278.2.1 bt278.2.2.1 bt278.2.2.2.1 bt278.2.2.2.2.1 bt278.2.2.2.2.2.1 bt278.2.2.2.2.2.2.1 bt278.2.2.2.2.2.2.2.1 bt278.2.2.2.2.2.2.2.2))))))))) = some r := h
 clear h
 obtain ⟨t252, A20, H⟩ := Option.bind_eq_some_iff.mp H
 try dsimp only at H
 have A2 := Aside0.mk A20
 clear A20
 by_cases c3 : t252 < 0
 ·rw [if_pos c3] at H
  have c3b0 : decide (t252 < 0) = true := decide_eq_true c3
  clear c3
  obtain rfl := Option.some.inj H
  go_enter Try.func11, Try.ntmps11
  go_wp2_with (first | ((with_reducible refine gate_dst (N := 1) rfl ?_); refine bE 1 #[.slice A0_0 l0_0.length c0_0, .slice A0_1 l0_1.length c0_1, .slice A0_2 l0_2.length c0_2, .slice A0_3 l0_3.length c0_3, .slice A0_4 l0_4.length c0_4, .int .i64 a0_5, .int .i64 a0_6, .int .i64 a0_7, .int .i64 a0_8] 25 ?_; intro gb251 hg w4 hbox hb; have BK251 := Aside0.mk (hbox); have GW251 := Aside0.mk (gE hg (bA HB.out)); have GE251 := Aside0.mk (gE hg (bA HB.out)); replace HB := Aside0.mk (below_step (bA HB.out) hb); clear hb hbox hg; obtain ⟨hcz5_0, hcz5_1, hcz5_2, hcz5_3, hcz5_4, hcz5_5, hcz5_6, hcz5_7, hcz5_8, hfz5_0, hfz5_1, hfz5_2, hfz5_3, hfz5_4, hfz5_5, hfz5_6, hfz5_7, hfz5_8⟩ := cz9 BK251.out) | ((with_reducible refine gate_callee (f := 15) rfl ?_); refine gL (some 11) Try.func15 #[.agg #[.slice A0_0 l0_0.length c0_0, .slice A0_1 l0_1.length c0_1, .slice A0_2 l0_2.length c0_2, .slice A0_3 l0_3.length c0_3, .slice A0_4 l0_4.length c0_4, .int .i64 a0_5, .int .i64 a0_6, .int .i64 a0_7, .int .i64 a0_8], .int .i64 1048576] ?_; (with_reducible refine (laws_szBetting.calls _ _ l0_0 _ _ l0_1 _ _ l0_2 _ _ l0_3 _ _ l0_4 a0_5 a0_6 a0_7 a0_8 1048576 t252 _ ?side1 ?side2 ?side3 ?side4 ?side5 ?side6 ?side7 ?side8 ?side9 ?side10 A2.out).mono ?_); (case side1 => exact cA (Kd.C_below HR0_0.out HB.out)); (case side2 => exact HC0_0.out); (case side3 => exact cA (Kd.C_below HR0_1.out HB.out)); (case side4 => exact HC0_1.out); (case side5 => exact cA (Kd.C_below HR0_2.out HB.out)); (case side6 => exact HC0_2.out); (case side7 => exact cA (Kd.C_below HR0_3.out HB.out)); (case side8 => exact HC0_3.out); (case side9 => exact cA (Kd.C_below HR0_4.out HB.out)); (case side10 => exact HC0_4.out); rintro e w6 ⟨rfl, hb⟩; refine ⟨_, rfl, ?_⟩; replace BK251 := Aside0.mk (blk_below (kA BK251.out) hb); replace HB := Aside0.mk (below_step (bA HB.out) hb); (try clear hb)))
  go_ret
  exact ⟨by first | rfl | (simp [errW_none, errW_some] <;> rfl) | (simp [*, errW_none, errW_some] <;> rfl), bA HB.out⟩
 ·rw [if_neg c3] at H
  have c3b0 : decide (t252 < 0) = false := decide_eq_false c3
  clear c3
  obtain ⟨⟨t253, t256, t259, t262, t265, t268, t269, t270, t271⟩, A70, H⟩ := Option.bind_eq_some_iff.mp H
  try dsimp only at H
  have A7 := Aside0.mk A70
  clear A70
  obtain ⟨⟨t272, t273, t274, t275, t276⟩, A80, H⟩ := Option.bind_eq_some_iff.mp H
  try dsimp only at H
  have A8 := Aside0.mk A80
  clear A80
  obtain ⟨⟨t278, t281, t284, t287, t290, t293, t294, t295, t296⟩, A90, H⟩ := Option.bind_eq_some_iff.mp H
  try dsimp only at H
  have A9 := Aside0.mk A90
  clear A90
  obtain ⟨⟨t298, t299, t300, t301, t302⟩, A100, H⟩ := Option.bind_eq_some_iff.mp H
  try dsimp only at H
  have A10 := Aside0.mk A100
  clear A100
  have HC11 := Aside0.mk H
  clear H
  go_enter Try.func11, Try.ntmps11
  go_upto_region 8 with (first | ((with_reducible refine gate_dst (N := 1) rfl ?_); refine bE 1 #[.slice A0_0 l0_0.length c0_0, .slice A0_1 l0_1.length c0_1, .slice A0_2 l0_2.length c0_2, .slice A0_3 l0_3.length c0_3, .slice A0_4 l0_4.length c0_4, .int .i64 a0_5, .int .i64 a0_6, .int .i64 a0_7, .int .i64 a0_8] 25 ?_; intro gb251 hg w12 hbox hb; have BK251 := Aside0.mk (hbox); have GW251 := Aside0.mk (gE hg (bA HB.out)); have GE251 := Aside0.mk (gE hg (bA HB.out)); replace HB := Aside0.mk (below_step (bA HB.out) hb); clear hb hbox hg; obtain ⟨hcz13_0, hcz13_1, hcz13_2, hcz13_3, hcz13_4, hcz13_5, hcz13_6, hcz13_7, hcz13_8, hfz13_0, hfz13_1, hfz13_2, hfz13_3, hfz13_4, hfz13_5, hfz13_6, hfz13_7, hfz13_8⟩ := cz9 BK251.out) | ((with_reducible refine gate_callee (f := 15) rfl ?_); refine gL (some 11) Try.func15 #[.agg #[.slice A0_0 l0_0.length c0_0, .slice A0_1 l0_1.length c0_1, .slice A0_2 l0_2.length c0_2, .slice A0_3 l0_3.length c0_3, .slice A0_4 l0_4.length c0_4, .int .i64 a0_5, .int .i64 a0_6, .int .i64 a0_7, .int .i64 a0_8], .int .i64 1048576] ?_; (with_reducible refine (laws_szBetting.calls _ _ l0_0 _ _ l0_1 _ _ l0_2 _ _ l0_3 _ _ l0_4 a0_5 a0_6 a0_7 a0_8 1048576 t252 _ ?side1 ?side2 ?side3 ?side4 ?side5 ?side6 ?side7 ?side8 ?side9 ?side10 A2.out).mono ?_); (case side1 => exact cA (Kd.C_below HR0_0.out HB.out)); (case side2 => exact HC0_0.out); (case side3 => exact cA (Kd.C_below HR0_1.out HB.out)); (case side4 => exact HC0_1.out); (case side5 => exact cA (Kd.C_below HR0_2.out HB.out)); (case side6 => exact HC0_2.out); (case side7 => exact cA (Kd.C_below HR0_3.out HB.out)); (case side8 => exact HC0_3.out); (case side9 => exact cA (Kd.C_below HR0_4.out HB.out)); (case side10 => exact HC0_4.out); rintro e w14 ⟨rfl, hb⟩; refine ⟨_, rfl, ?_⟩; replace BK251 := Aside0.mk (blk_below (kA BK251.out) hb); replace HB := Aside0.mk (below_step (bA HB.out) hb); (try clear hb); obtain ⟨hcz15_0, hcz15_1, hcz15_2, hcz15_3, hcz15_4, hcz15_5, hcz15_6, hcz15_7, hcz15_8, hfz15_0, hfz15_1, hfz15_2, hfz15_3, hfz15_4, hfz15_5, hfz15_6, hfz15_7, hfz15_8⟩ := cz9 BK251.out) | ((with_reducible refine gate_callee (f := 17) rfl ?_); refine gL (some 16) Try.func17 #[.agg #[.slice A0_0 l0_0.length c0_0, .slice A0_1 l0_1.length c0_1, .slice A0_2 l0_2.length c0_2, .slice A0_3 l0_3.length c0_3, .slice A0_4 l0_4.length c0_4, .int .i64 a0_5, .int .i64 a0_6, .int .i64 a0_7, .int .i64 a0_8]] ?_; (with_reducible refine (laws_toBetting.calls k _ _ l0_0 _ _ l0_1 _ _ l0_2 _ _ l0_3 _ _ l0_4 a0_5 a0_6 a0_7 a0_8 t253 t256 t259 t262 t265 t268 t269 t270 t271 _ ?side1 ?side2 ?side3 ?side4 ?side5 ?side6 ?side7 ?side8 ?side9 ?side10 A7.out).mono ?_); (case side1 => exact cA (Kd.C_below HR0_0.out HB.out)); (case side2 => exact HC0_0.out); (case side3 => exact cA (Kd.C_below HR0_1.out HB.out)); (case side4 => exact HC0_1.out); (case side5 => exact cA (Kd.C_below HR0_2.out HB.out)); (case side6 => exact HC0_2.out); (case side7 => exact cA (Kd.C_below HR0_3.out HB.out)); (case side8 => exact HC0_3.out); (case side9 => exact cA (Kd.C_below HR0_4.out HB.out)); (case side10 => exact HC0_4.out); rintro e w16 ⟨v254, v257, v260, v263, v266, rfl, ho0, ho1, ho2, ho3, ho4, hb⟩; refine ⟨_, rfl, ?_⟩; have HO255 := Aside0.mk (Kd.R_lower ho0 (below_size (bA HB.out))); have HO258 := Aside0.mk (Kd.R_lower ho1 (below_size (bA HB.out))); have HO261 := Aside0.mk (Kd.R_lower ho2 (below_size (bA HB.out))); have HO264 := Aside0.mk (Kd.R_lower ho3 (below_size (bA HB.out))); have HO267 := Aside0.mk (Kd.R_lower ho4 (below_size (bA HB.out))); replace BK251 := Aside0.mk (blk_below (kA BK251.out) hb); replace HB := Aside0.mk (below_step (bA HB.out) hb); (try clear hb); (try clear ho0); (try clear ho1); (try clear ho2); (try clear ho3); (try clear ho4); obtain ⟨Ao17, co17, eo17⟩ := Kd.R_slice HO255.out; subst eo17; obtain ⟨Ao18, co18, eo18⟩ := Kd.R_slice HO258.out; subst eo18; obtain ⟨Ao19, co19, eo19⟩ := Kd.R_slice HO261.out; subst eo19; obtain ⟨Ao20, co20, eo20⟩ := Kd.R_slice HO264.out; subst eo20; obtain ⟨Ao21, co21, eo21⟩ := Kd.R_slice HO267.out; subst eo21) | ((with_reducible refine gate_callee (f := 38) rfl ?_); refine gL (some 17) Try.func38 #[.agg #[.slice Ao17 t253.length co17, .slice Ao18 t256.length co18, .slice Ao19 t259.length co19, .slice Ao20 t262.length co20, .slice Ao21 t265.length co21, .int .i64 t268, .int .i64 t269, .int .i64 t270, .int .i64 t271]] ?_; (with_reducible refine (spec_ChoicesIn.calls k _ _ t253 _ _ t256 _ _ t259 _ _ t262 _ _ t265 t268 t269 t270 t271 t272 t273 t274 t275 t276 _ ?side1 ?side2 ?side3 ?side4 ?side5 ?side6 ?side7 ?side8 ?side9 ?side10 A8.out).mono ?_); (case side1 => exact cA ((Kd.R_reads' HO255.out).2.2)); (case side2 => exact (Kd.R_reads' HO255.out).2.1); (case side3 => exact cA ((Kd.R_reads' HO258.out).2.2)); (case side4 => exact (Kd.R_reads' HO258.out).2.1); (case side5 => exact cA ((Kd.R_reads' HO261.out).2.2)); (case side6 => exact (Kd.R_reads' HO261.out).2.1); (case side7 => exact cA ((Kd.R_reads' HO264.out).2.2)); (case side8 => exact (Kd.R_reads' HO264.out).2.1); (case side9 => exact cA ((Kd.R_reads' HO267.out).2.2)); (case side10 => exact (Kd.R_reads' HO267.out).2.1); rintro e w22 ⟨rfl, hb⟩; refine ⟨_, rfl, ?_⟩; replace HO255 := Aside0.mk (Kd.R_below (rA HO255.out) hb); replace HO258 := Aside0.mk (Kd.R_below (rA HO258.out) hb); replace HO261 := Aside0.mk (Kd.R_below (rA HO261.out) hb); replace HO264 := Aside0.mk (Kd.R_below (rA HO264.out) hb); replace HO267 := Aside0.mk (Kd.R_below (rA HO267.out) hb); replace BK251 := Aside0.mk (blk_below (kA BK251.out) hb); replace HB := Aside0.mk (below_step (bA HB.out) hb); (try clear hb)) | ((with_reducible refine gate_dst (N := 4) rfl ?_); refine bE 4 #[.bool false, .int .i64 0, .int .i64 0, .int .i64 0] 40 ?_; intro gb277 hg w23 hbox hb; replace HO255 := Aside0.mk (Kd.R_below (rA HO255.out) hb); replace HO258 := Aside0.mk (Kd.R_below (rA HO258.out) hb); replace HO261 := Aside0.mk (Kd.R_below (rA HO261.out) hb); replace HO264 := Aside0.mk (Kd.R_below (rA HO264.out) hb); replace HO267 := Aside0.mk (Kd.R_below (rA HO267.out) hb); have BK277 := Aside0.mk (hbox); have GW277 := Aside0.mk (gE hg (bA HB.out)); have GE277 := Aside0.mk (gE hg (bA HB.out)); replace HB := Aside0.mk (below_step (bA HB.out) hb); have NB251_277 := Aside0.mk ((by rw [hg]; exact Nat.ne_of_lt (blk_lt (kA BK251.out)) : gb251 ≠ gb277)); have NB277_251 := Aside0.mk ((by rw [hg]; exact Nat.ne_of_gt (blk_lt (kA BK251.out)) : gb277 ≠ gb251)); replace BK251 := Aside0.mk (blk_below (kA BK251.out) hb); clear hb hbox hg; have hnb24 := NB277_251.out; have hnc24 := NB251_277.out; obtain ⟨hcz25_0, hcz25_1, hcz25_2, hcz25_3, hfz25_0, hfz25_1, hfz25_2, hfz25_3⟩ := cz4 BK277.out; obtain ⟨hcz26_0, hcz26_1, hcz26_2, hcz26_3, hcz26_4, hcz26_5, hcz26_6, hcz26_7, hcz26_8, hfz26_0, hfz26_1, hfz26_2, hfz26_3, hfz26_4, hfz26_5, hfz26_6, hfz26_7, hfz26_8⟩ := cz9 BK251.out) | ((with_reducible refine gate_callee (f := 17) rfl ?_); refine gL (some 21) Try.func17 #[.agg #[.slice A0_0 l0_0.length c0_0, .slice A0_1 l0_1.length c0_1, .slice A0_2 l0_2.length c0_2, .slice A0_3 l0_3.length c0_3, .slice A0_4 l0_4.length c0_4, .int .i64 a0_5, .int .i64 a0_6, .int .i64 a0_7, .int .i64 a0_8]] ?_; (with_reducible refine (laws_toBetting.calls k _ _ l0_0 _ _ l0_1 _ _ l0_2 _ _ l0_3 _ _ l0_4 a0_5 a0_6 a0_7 a0_8 t278 t281 t284 t287 t290 t293 t294 t295 t296 _ ?side1 ?side2 ?side3 ?side4 ?side5 ?side6 ?side7 ?side8 ?side9 ?side10 A9.out).mono ?_); (case side1 => exact Kd.C_below HR0_0.out (bA HB.out)); (case side2 => exact HC0_0.out); (case side3 => exact Kd.C_below HR0_1.out (bA HB.out)); (case side4 => exact HC0_1.out); (case side5 => exact Kd.C_below HR0_2.out (bA HB.out)); (case side6 => exact HC0_2.out); (case side7 => exact Kd.C_below HR0_3.out (bA HB.out)); (case side8 => exact HC0_3.out); (case side9 => exact Kd.C_below HR0_4.out (bA HB.out)); (case side10 => exact HC0_4.out); rintro e w27 ⟨v279, v282, v285, v288, v291, rfl, ho0, ho1, ho2, ho3, ho4, hb⟩; refine ⟨_, rfl, ?_⟩; have HO280 := Aside0.mk (Kd.R_lower (Kd.R_new' (Kd.R_new' (Kd.R_new' ho0 (Kd.R_lt (rA (rF4 HO255.out BK277.out)))) (Kd.R_lt (rA (rF4 HO258.out BK277.out)))) (Kd.R_lt (rA (rF4 HO261.out BK277.out)))) (below_size (bA HB.out))); have HO283 := Aside0.mk (Kd.R_lower (Kd.R_new' (Kd.R_new' (Kd.R_new' ho1 (Kd.R_lt (rA (rF4 HO255.out BK277.out)))) (Kd.R_lt (rA (rF4 HO258.out BK277.out)))) (Kd.R_lt (rA (rF4 HO261.out BK277.out)))) (below_size (bA HB.out))); have HO286 := Aside0.mk (Kd.R_lower (Kd.R_new' (Kd.R_new' (Kd.R_new' ho2 (Kd.R_lt (rA (rF4 HO255.out BK277.out)))) (Kd.R_lt (rA (rF4 HO258.out BK277.out)))) (Kd.R_lt (rA (rF4 HO261.out BK277.out)))) (below_size (bA HB.out))); replace HO255 := Aside0.mk (Kd.R_mono (Kd.R_told (Kd.R_told (Kd.R_told (Kd.R_old (rA (rF4 HO255.out BK277.out)) hb) (Kd.R_base ho0)) (Kd.R_base ho1)) (Kd.R_base ho2)) (fun _ h_ => h_.1)); replace HO258 := Aside0.mk (Kd.R_mono (Kd.R_told (Kd.R_told (Kd.R_told (Kd.R_old (rA (rF4 HO258.out BK277.out)) hb) (Kd.R_base ho0)) (Kd.R_base ho1)) (Kd.R_base ho2)) (fun _ h_ => h_.1)); replace HO261 := Aside0.mk (Kd.R_mono (Kd.R_told (Kd.R_told (Kd.R_told (Kd.R_old (rA (rF4 HO261.out BK277.out)) hb) (Kd.R_base ho0)) (Kd.R_base ho1)) (Kd.R_base ho2)) (fun _ h_ => h_.1)); have HO289 := Aside0.mk (Kd.R_lower (Kd.R_new' (Kd.R_new' ho3 (Kd.R_lt (rA (rF4 HO264.out BK277.out)))) (Kd.R_lt (rA (rF4 HO267.out BK277.out)))) (below_size (bA HB.out))); have HO292 := Aside0.mk (Kd.R_lower (Kd.R_new' (Kd.R_new' ho4 (Kd.R_lt (rA (rF4 HO264.out BK277.out)))) (Kd.R_lt (rA (rF4 HO267.out BK277.out)))) (below_size (bA HB.out))); replace HO264 := Aside0.mk (Kd.R_mono (Kd.R_told (Kd.R_told (Kd.R_old (rA (rF4 HO264.out BK277.out)) hb) (Kd.R_base ho3)) (Kd.R_base ho4)) (fun _ h_ => h_.1)); replace HO267 := Aside0.mk (Kd.R_mono (Kd.R_told (Kd.R_told (Kd.R_old (rA (rF4 HO267.out BK277.out)) hb) (Kd.R_base ho3)) (Kd.R_base ho4)) (fun _ h_ => h_.1)); replace BK251 := Aside0.mk (blk_below (g := gb251) (o := .cells #[.slice A0_0 l0_0.length c0_0, .slice A0_1 l0_1.length c0_1, .slice A0_2 l0_2.length c0_2, .slice A0_3 l0_3.length c0_3, .slice A0_4 l0_4.length c0_4, .int .i64 a0_5, .int .i64 a0_6, .int .i64 a0_7, .int .i64 a0_8] 25 (0, 0)) (by (with_reducible repeat (first | refine blk_drewN ?_ _ | refine blk_drew ?_ | refine blk_alloc ?_ _)); refine blk_far ?_ NB251_277.out _; (with_reducible repeat (first | refine blk_drewN ?_ _ | refine blk_drew ?_ | refine blk_alloc ?_ _)); refine blk_far ?_ NB251_277.out _; (with_reducible repeat (first | refine blk_drewN ?_ _ | refine blk_drew ?_ | refine blk_alloc ?_ _)); refine blk_far ?_ NB251_277.out _; (with_reducible repeat (first | refine blk_drewN ?_ _ | refine blk_drew ?_ | refine blk_alloc ?_ _)); refine blk_far ?_ NB251_277.out _; (with_reducible repeat (first | refine blk_drewN ?_ _ | refine blk_drew ?_ | refine blk_alloc ?_ _)); exact BK251.out) hb); replace BK277 := Aside0.mk (blk_below (g := gb277) (o := .cells #[.bool t272, .int .i64 t273, .int .i64 t274, .int .i64 t275] 40 (0, 0)) (by (with_reducible repeat (first | refine blk_drewN ?_ _ | refine blk_drew ?_ | refine blk_alloc ?_ _)); refine blk_put (cs := #[.bool t272, .int .i64 t273, .int .i64 t274, .int .i64 0]) ?_ 3 _ rfl; (with_reducible repeat (first | refine blk_drewN ?_ _ | refine blk_drew ?_ | refine blk_alloc ?_ _)); refine blk_put (cs := #[.bool t272, .int .i64 t273, .int .i64 0, .int .i64 0]) ?_ 2 _ rfl; (with_reducible repeat (first | refine blk_drewN ?_ _ | refine blk_drew ?_ | refine blk_alloc ?_ _)); refine blk_put (cs := #[.bool t272, .int .i64 0, .int .i64 0, .int .i64 0]) ?_ 1 _ rfl; (with_reducible repeat (first | refine blk_drewN ?_ _ | refine blk_drew ?_ | refine blk_alloc ?_ _)); refine blk_put (cs := #[.bool false, .int .i64 0, .int .i64 0, .int .i64 0]) ?_ 0 _ rfl; (with_reducible repeat (first | refine blk_drewN ?_ _ | refine blk_drew ?_ | refine blk_alloc ?_ _)); exact BK277.out) hb); replace HB := Aside0.mk (below_step (bA HB.out) hb); (try clear hb); (try clear ho0); (try clear ho1); (try clear ho2); (try clear ho3); (try clear ho4)) | ((with_reducible refine gate_dst (N := 6) rfl ?_); refine bE 6 #[.slice none 0 0, .slice none 0 0, .slice none 0 0, .slice none 0 0, .slice none 0 0, .int .i64 0, .int .i64 0, .int .i64 0, .int .i64 0] 28 ?_; intro gb297 hg w28 hbox hb; replace HO255 := Aside0.mk (Kd.R_below (rA HO255.out) hb); replace HO258 := Aside0.mk (Kd.R_below (rA HO258.out) hb); replace HO261 := Aside0.mk (Kd.R_below (rA HO261.out) hb); replace HO264 := Aside0.mk (Kd.R_below (rA HO264.out) hb); replace HO267 := Aside0.mk (Kd.R_below (rA HO267.out) hb); replace HO280 := Aside0.mk (Kd.R_below (rA HO280.out) hb); replace HO283 := Aside0.mk (Kd.R_below (rA HO283.out) hb); replace HO286 := Aside0.mk (Kd.R_below (rA HO286.out) hb); replace HO289 := Aside0.mk (Kd.R_below (rA HO289.out) hb); replace HO292 := Aside0.mk (Kd.R_below (rA HO292.out) hb); have BK297 := Aside0.mk (hbox); have GW297 := Aside0.mk (gE hg (bA HB.out)); have GE297 := Aside0.mk (gE hg (bA HB.out)); replace HB := Aside0.mk (below_step (bA HB.out) hb); have NB251_297 := Aside0.mk ((by rw [hg]; exact Nat.ne_of_lt (blk_lt (kA BK251.out)) : gb251 ≠ gb297)); have NB297_251 := Aside0.mk ((by rw [hg]; exact Nat.ne_of_gt (blk_lt (kA BK251.out)) : gb297 ≠ gb251)); replace BK251 := Aside0.mk (blk_below (kA BK251.out) hb); have NB277_297 := Aside0.mk ((by rw [hg]; exact Nat.ne_of_lt (blk_lt (kA BK277.out)) : gb277 ≠ gb297)); have NB297_277 := Aside0.mk ((by rw [hg]; exact Nat.ne_of_gt (blk_lt (kA BK277.out)) : gb297 ≠ gb277)); replace BK277 := Aside0.mk (blk_below (kA BK277.out) hb); clear hb hbox hg; obtain ⟨Ao29, co29, eo29⟩ := Kd.R_slice HO280.out; subst eo29; have hnb30 := NB297_251.out; have hnc30 := NB251_297.out; have hnb31 := NB297_277.out; have hnc31 := NB277_297.out; obtain ⟨hcz32_0, hcz32_1, hcz32_2, hcz32_3, hcz32_4, hcz32_5, hcz32_6, hcz32_7, hcz32_8, hfz32_0, hfz32_1, hfz32_2, hfz32_3, hfz32_4, hfz32_5, hfz32_6, hfz32_7, hfz32_8⟩ := cz9 BK297.out; obtain ⟨Ao33, co33, eo33⟩ := Kd.R_slice HO283.out; subst eo33; obtain ⟨Ao34, co34, eo34⟩ := Kd.R_slice HO286.out; subst eo34; obtain ⟨Ao35, co35, eo35⟩ := Kd.R_slice HO289.out; subst eo35; obtain ⟨Ao36, co36, eo36⟩ := Kd.R_slice HO292.out; subst eo36) | ((with_reducible refine gate_callee (f := 39) rfl ?_); refine gL (some 24) Try.func39 #[.agg #[.slice Ao29 t278.length co29, .slice Ao33 t281.length co33, .slice Ao34 t284.length co34, .slice Ao35 t287.length co35, .slice Ao36 t290.length co36, .int .i64 t293, .int .i64 t294, .int .i64 t295, .int .i64 t296]] ?_; (with_reducible refine (impl_ChoicesIn.calls k _ _ t278 _ _ t281 _ _ t284 _ _ t287 _ _ t290 t293 t294 t295 t296 t298 t299 t300 t301 t302 _ ?side1 ?side2 ?side3 ?side4 ?side5 ?side6 ?side7 ?side8 ?side9 ?side10 A10.out).mono ?_); (case side1 => refine (Kd.R_reads' (e := 2) (base := w.heap.size) (ok := fun k_ => ((((some k_ ≠ (.slice Ao33 t281.length co33 : Value).ownBlock ∧ some k_ ≠ (.slice Ao34 t284.length co34 : Value).ownBlock) ∧ some k_ ≠ (.slice Ao17 t253.length co17 : Value).ownBlock) ∧ some k_ ≠ (.slice Ao18 t256.length co18 : Value).ownBlock) ∧ some k_ ≠ (.slice Ao19 t259.length co19 : Value).ownBlock)) (n := t278.length) (c := co29) ?_).2.2; exact (rA (rF9 HO280.out BK297.out))); (case side2 => exact (Kd.R_reads' HO280.out).2.1); (case side3 => refine (Kd.R_reads' (e := 2) (base := w.heap.size) (ok := fun k_ => ((((some k_ ≠ (.slice Ao29 t278.length co29 : Value).ownBlock ∧ some k_ ≠ (.slice Ao34 t284.length co34 : Value).ownBlock) ∧ some k_ ≠ (.slice Ao17 t253.length co17 : Value).ownBlock) ∧ some k_ ≠ (.slice Ao18 t256.length co18 : Value).ownBlock) ∧ some k_ ≠ (.slice Ao19 t259.length co19 : Value).ownBlock)) (n := t281.length) (c := co33) ?_).2.2; exact (rA (rF9 HO283.out BK297.out))); (case side4 => exact (Kd.R_reads' HO283.out).2.1); (case side5 => refine (Kd.R_reads' (e := 2) (base := w.heap.size) (ok := fun k_ => ((((some k_ ≠ (.slice Ao29 t278.length co29 : Value).ownBlock ∧ some k_ ≠ (.slice Ao33 t281.length co33 : Value).ownBlock) ∧ some k_ ≠ (.slice Ao17 t253.length co17 : Value).ownBlock) ∧ some k_ ≠ (.slice Ao18 t256.length co18 : Value).ownBlock) ∧ some k_ ≠ (.slice Ao19 t259.length co19 : Value).ownBlock)) (n := t284.length) (c := co34) ?_).2.2; exact (rA (rF9 HO286.out BK297.out))); (case side6 => exact (Kd.R_reads' HO286.out).2.1); (case side7 => refine (Kd.R_reads' (e := 4) (base := w.heap.size) (ok := fun k_ => ((some k_ ≠ (.slice Ao36 t290.length co36 : Value).ownBlock ∧ some k_ ≠ (.slice Ao20 t262.length co20 : Value).ownBlock) ∧ some k_ ≠ (.slice Ao21 t265.length co21 : Value).ownBlock)) (n := t287.length) (c := co35) ?_).2.2; exact (rA (rF9 HO289.out BK297.out))); (case side8 => exact (Kd.R_reads' HO289.out).2.1); (case side9 => refine (Kd.R_reads' (e := 4) (base := w.heap.size) (ok := fun k_ => ((some k_ ≠ (.slice Ao35 t287.length co35 : Value).ownBlock ∧ some k_ ≠ (.slice Ao20 t262.length co20 : Value).ownBlock) ∧ some k_ ≠ (.slice Ao21 t265.length co21 : Value).ownBlock)) (n := t290.length) (c := co36) ?_).2.2; exact (rA (rF9 HO292.out BK297.out))); (case side10 => exact (Kd.R_reads' HO292.out).2.1); rintro e w37 ⟨rfl, hb⟩; refine ⟨_, rfl, ?_⟩; replace HO255 := Aside0.mk (Kd.R_below (rA (rF9 HO255.out BK297.out)) hb); replace HO258 := Aside0.mk (Kd.R_below (rA (rF9 HO258.out BK297.out)) hb); replace HO261 := Aside0.mk (Kd.R_below (rA (rF9 HO261.out BK297.out)) hb); replace HO264 := Aside0.mk (Kd.R_below (rA (rF9 HO264.out BK297.out)) hb); replace HO267 := Aside0.mk (Kd.R_below (rA (rF9 HO267.out BK297.out)) hb); replace HO280 := Aside0.mk (Kd.R_below (rA (rF9 HO280.out BK297.out)) hb); replace HO283 := Aside0.mk (Kd.R_below (rA (rF9 HO283.out BK297.out)) hb); replace HO286 := Aside0.mk (Kd.R_below (rA (rF9 HO286.out BK297.out)) hb); replace HO289 := Aside0.mk (Kd.R_below (rA (rF9 HO289.out BK297.out)) hb); replace HO292 := Aside0.mk (Kd.R_below (rA (rF9 HO292.out BK297.out)) hb); replace BK251 := Aside0.mk (blk_below (g := gb251) (o := .cells #[.slice A0_0 l0_0.length c0_0, .slice A0_1 l0_1.length c0_1, .slice A0_2 l0_2.length c0_2, .slice A0_3 l0_3.length c0_3, .slice A0_4 l0_4.length c0_4, .int .i64 a0_5, .int .i64 a0_6, .int .i64 a0_7, .int .i64 a0_8] 25 (0, 0)) (by (with_reducible repeat (first | refine blk_drewN ?_ _ | refine blk_drew ?_ | refine blk_alloc ?_ _)); refine blk_far ?_ NB251_297.out _; (with_reducible repeat (first | refine blk_drewN ?_ _ | refine blk_drew ?_ | refine blk_alloc ?_ _)); refine blk_far ?_ NB251_297.out _; (with_reducible repeat (first | refine blk_drewN ?_ _ | refine blk_drew ?_ | refine blk_alloc ?_ _)); refine blk_far ?_ NB251_297.out _; (with_reducible repeat (first | refine blk_drewN ?_ _ | refine blk_drew ?_ | refine blk_alloc ?_ _)); refine blk_far ?_ NB251_297.out _; (with_reducible repeat (first | refine blk_drewN ?_ _ | refine blk_drew ?_ | refine blk_alloc ?_ _)); refine blk_far ?_ NB251_297.out _; (with_reducible repeat (first | refine blk_drewN ?_ _ | refine blk_drew ?_ | refine blk_alloc ?_ _)); refine blk_far ?_ NB251_297.out _; (with_reducible repeat (first | refine blk_drewN ?_ _ | refine blk_drew ?_ | refine blk_alloc ?_ _)); refine blk_far ?_ NB251_297.out _; (with_reducible repeat (first | refine blk_drewN ?_ _ | refine blk_drew ?_ | refine blk_alloc ?_ _)); refine blk_far ?_ NB251_297.out _; (with_reducible repeat (first | refine blk_drewN ?_ _ | refine blk_drew ?_ | refine blk_alloc ?_ _)); refine blk_far ?_ NB251_297.out _; (with_reducible repeat (first | refine blk_drewN ?_ _ | refine blk_drew ?_ | refine blk_alloc ?_ _)); exact BK251.out) hb); replace BK277 := Aside0.mk (blk_below (g := gb277) (o := .cells #[.bool t272, .int .i64 t273, .int .i64 t274, .int .i64 t275] 40 (0, 0)) (by (with_reducible repeat (first | refine blk_drewN ?_ _ | refine blk_drew ?_ | refine blk_alloc ?_ _)); refine blk_far ?_ NB277_297.out _; (with_reducible repeat (first | refine blk_drewN ?_ _ | refine blk_drew ?_ | refine blk_alloc ?_ _)); refine blk_far ?_ NB277_297.out _; (with_reducible repeat (first | refine blk_drewN ?_ _ | refine blk_drew ?_ | refine blk_alloc ?_ _)); refine blk_far ?_ NB277_297.out _; (with_reducible repeat (first | refine blk_drewN ?_ _ | refine blk_drew ?_ | refine blk_alloc ?_ _)); refine blk_far ?_ NB277_297.out _; (with_reducible repeat (first | refine blk_drewN ?_ _ | refine blk_drew ?_ | refine blk_alloc ?_ _)); refine blk_far ?_ NB277_297.out _; (with_reducible repeat (first | refine blk_drewN ?_ _ | refine blk_drew ?_ | refine blk_alloc ?_ _)); refine blk_far ?_ NB277_297.out _; (with_reducible repeat (first | refine blk_drewN ?_ _ | refine blk_drew ?_ | refine blk_alloc ?_ _)); refine blk_far ?_ NB277_297.out _; (with_reducible repeat (first | refine blk_drewN ?_ _ | refine blk_drew ?_ | refine blk_alloc ?_ _)); refine blk_far ?_ NB277_297.out _; (with_reducible repeat (first | refine blk_drewN ?_ _ | refine blk_drew ?_ | refine blk_alloc ?_ _)); refine blk_far ?_ NB277_297.out _; (with_reducible repeat (first | refine blk_drewN ?_ _ | refine blk_drew ?_ | refine blk_alloc ?_ _)); exact BK277.out) hb); replace BK297 := Aside0.mk (blk_below (g := gb297) (o := .cells #[.slice Ao29 t278.length co29, .slice Ao33 t281.length co33, .slice Ao34 t284.length co34, .slice Ao35 t287.length co35, .slice Ao36 t290.length co36, .int .i64 t293, .int .i64 t294, .int .i64 t295, .int .i64 t296] 28 (0, 0)) (by (with_reducible repeat (first | refine blk_drewN ?_ _ | refine blk_drew ?_ | refine blk_alloc ?_ _)); refine blk_put (cs := #[.slice Ao29 t278.length co29, .slice Ao33 t281.length co33, .slice Ao34 t284.length co34, .slice Ao35 t287.length co35, .slice Ao36 t290.length co36, .int .i64 t293, .int .i64 t294, .int .i64 t295, .int .i64 0]) ?_ 8 _ rfl; (with_reducible repeat (first | refine blk_drewN ?_ _ | refine blk_drew ?_ | refine blk_alloc ?_ _)); refine blk_put (cs := #[.slice Ao29 t278.length co29, .slice Ao33 t281.length co33, .slice Ao34 t284.length co34, .slice Ao35 t287.length co35, .slice Ao36 t290.length co36, .int .i64 t293, .int .i64 t294, .int .i64 0, .int .i64 0]) ?_ 7 _ rfl; (with_reducible repeat (first | refine blk_drewN ?_ _ | refine blk_drew ?_ | refine blk_alloc ?_ _)); refine blk_put (cs := #[.slice Ao29 t278.length co29, .slice Ao33 t281.length co33, .slice Ao34 t284.length co34, .slice Ao35 t287.length co35, .slice Ao36 t290.length co36, .int .i64 t293, .int .i64 0, .int .i64 0, .int .i64 0]) ?_ 6 _ rfl; (with_reducible repeat (first | refine blk_drewN ?_ _ | refine blk_drew ?_ | refine blk_alloc ?_ _)); refine blk_put (cs := #[.slice Ao29 t278.length co29, .slice Ao33 t281.length co33, .slice Ao34 t284.length co34, .slice Ao35 t287.length co35, .slice Ao36 t290.length co36, .int .i64 0, .int .i64 0, .int .i64 0, .int .i64 0]) ?_ 5 _ rfl; (with_reducible repeat (first | refine blk_drewN ?_ _ | refine blk_drew ?_ | refine blk_alloc ?_ _)); refine blk_put (cs := #[.slice Ao29 t278.length co29, .slice Ao33 t281.length co33, .slice Ao34 t284.length co34, .slice Ao35 t287.length co35, .slice none 0 0, .int .i64 0, .int .i64 0, .int .i64 0, .int .i64 0]) ?_ 4 _ rfl; (with_reducible repeat (first | refine blk_drewN ?_ _ | refine blk_drew ?_ | refine blk_alloc ?_ _)); refine blk_put (cs := #[.slice Ao29 t278.length co29, .slice Ao33 t281.length co33, .slice Ao34 t284.length co34, .slice none 0 0, .slice none 0 0, .int .i64 0, .int .i64 0, .int .i64 0, .int .i64 0]) ?_ 3 _ rfl; (with_reducible repeat (first | refine blk_drewN ?_ _ | refine blk_drew ?_ | refine blk_alloc ?_ _)); refine blk_put (cs := #[.slice Ao29 t278.length co29, .slice Ao33 t281.length co33, .slice none 0 0, .slice none 0 0, .slice none 0 0, .int .i64 0, .int .i64 0, .int .i64 0, .int .i64 0]) ?_ 2 _ rfl; (with_reducible repeat (first | refine blk_drewN ?_ _ | refine blk_drew ?_ | refine blk_alloc ?_ _)); refine blk_put (cs := #[.slice Ao29 t278.length co29, .slice none 0 0, .slice none 0 0, .slice none 0 0, .slice none 0 0, .int .i64 0, .int .i64 0, .int .i64 0, .int .i64 0]) ?_ 1 _ rfl; (with_reducible repeat (first | refine blk_drewN ?_ _ | refine blk_drew ?_ | refine blk_alloc ?_ _)); refine blk_put (cs := #[.slice none 0 0, .slice none 0 0, .slice none 0 0, .slice none 0 0, .slice none 0 0, .int .i64 0, .int .i64 0, .int .i64 0, .int .i64 0]) ?_ 0 _ rfl; (with_reducible repeat (first | refine blk_drewN ?_ _ | refine blk_drew ?_ | refine blk_alloc ?_ _)); exact BK297.out) hb); replace HB := Aside0.mk (below_step (bA HB.out) hb); (try clear hb)) | ((with_reducible refine gate_dst (N := 7) rfl ?_); refine bE 7 #[.bool false, .int .i64 0, .int .i64 0, .int .i64 0] 40 ?_; intro gb303 hg w38 hbox hb; replace HO255 := Aside0.mk (Kd.R_below (rA HO255.out) hb); replace HO258 := Aside0.mk (Kd.R_below (rA HO258.out) hb); replace HO261 := Aside0.mk (Kd.R_below (rA HO261.out) hb); replace HO264 := Aside0.mk (Kd.R_below (rA HO264.out) hb); replace HO267 := Aside0.mk (Kd.R_below (rA HO267.out) hb); replace HO280 := Aside0.mk (Kd.R_below (rA HO280.out) hb); replace HO283 := Aside0.mk (Kd.R_below (rA HO283.out) hb); replace HO286 := Aside0.mk (Kd.R_below (rA HO286.out) hb); replace HO289 := Aside0.mk (Kd.R_below (rA HO289.out) hb); replace HO292 := Aside0.mk (Kd.R_below (rA HO292.out) hb); have BK303 := Aside0.mk (hbox); have GW303 := Aside0.mk (gE hg (bA HB.out)); have GE303 := Aside0.mk (gE hg (bA HB.out)); replace HB := Aside0.mk (below_step (bA HB.out) hb); have NB251_303 := Aside0.mk ((by rw [hg]; exact Nat.ne_of_lt (blk_lt (kA BK251.out)) : gb251 ≠ gb303)); have NB303_251 := Aside0.mk ((by rw [hg]; exact Nat.ne_of_gt (blk_lt (kA BK251.out)) : gb303 ≠ gb251)); replace BK251 := Aside0.mk (blk_below (kA BK251.out) hb); have NB277_303 := Aside0.mk ((by rw [hg]; exact Nat.ne_of_lt (blk_lt (kA BK277.out)) : gb277 ≠ gb303)); have NB303_277 := Aside0.mk ((by rw [hg]; exact Nat.ne_of_gt (blk_lt (kA BK277.out)) : gb303 ≠ gb277)); replace BK277 := Aside0.mk (blk_below (kA BK277.out) hb); have NB297_303 := Aside0.mk ((by rw [hg]; exact Nat.ne_of_lt (blk_lt (kA BK297.out)) : gb297 ≠ gb303)); have NB303_297 := Aside0.mk ((by rw [hg]; exact Nat.ne_of_gt (blk_lt (kA BK297.out)) : gb303 ≠ gb297)); replace BK297 := Aside0.mk (blk_below (kA BK297.out) hb); clear hb hbox hg; have hnb39 := NB303_251.out; have hnc39 := NB251_303.out; have hnb40 := NB303_277.out; have hnc40 := NB277_303.out; have hnb41 := NB303_297.out; have hnc41 := NB297_303.out; obtain ⟨hcz42_0, hcz42_1, hcz42_2, hcz42_3, hfz42_0, hfz42_1, hfz42_2, hfz42_3⟩ := cz4 BK303.out))
  (try simp only [Act.put, List.setIfInBounds_toArray, List.set_cons_zero, List.set_cons_succ])
  go_cut [35] (fun v35 wc => ∃ (kq : Nat) (x35_10 : Bool), v35 = .bool x35_10 ∧ Aside0 (laws_FnExactChoicesIn.j0 kq x35_10 l0_0 l0_1 l0_2 l0_3 l0_4 a0_5 a0_6 a0_7 a0_8 t278 t281 t284 t287 t290 t293 t294 t295 t296 = some r) ∧ Aside0 (kq ≤ k) ∧ Aside0 (Kd.R (Kd.int .i64) 2 wc w.heap.size (fun k_ => some k_ ≠ ((.slice Ao33 t281.length co33) : Value).ownBlock ∧ some k_ ≠ ((.slice Ao34 t284.length co34) : Value).ownBlock) (.slice Ao29 t278.length co29) t278) ∧ Aside0 (Kd.R (Kd.int .i64) 2 wc w.heap.size (fun k_ => some k_ ≠ ((.slice Ao29 t278.length co29) : Value).ownBlock ∧ some k_ ≠ ((.slice Ao34 t284.length co34) : Value).ownBlock) (.slice Ao33 t281.length co33) t281) ∧ Aside0 (Kd.R (Kd.int .i64) 2 wc w.heap.size (fun k_ => some k_ ≠ ((.slice Ao29 t278.length co29) : Value).ownBlock ∧ some k_ ≠ ((.slice Ao33 t281.length co33) : Value).ownBlock) (.slice Ao34 t284.length co34) t284) ∧ Aside0 (Kd.R Kd.bool 4 wc w.heap.size (fun k_ => some k_ ≠ ((.slice Ao36 t290.length co36) : Value).ownBlock) (.slice Ao35 t287.length co35) t287) ∧ Aside0 (Kd.R Kd.bool 4 wc w.heap.size (fun k_ => some k_ ≠ ((.slice Ao35 t287.length co35) : Value).ownBlock) (.slice Ao36 t290.length co36) t290) ∧ Aside0 (wc.heap[gb251]? = some (.cells #[(.slice A0_0 l0_0.length c0_0), (.slice A0_1 l0_1.length c0_1), (.slice A0_2 l0_2.length c0_2), (.slice A0_3 l0_3.length c0_3), (.slice A0_4 l0_4.length c0_4), .int .i64 a0_5, .int .i64 a0_6, .int .i64 a0_7, .int .i64 a0_8] 25 (0, 0))) ∧ Aside0 (wc.heap[gb277]? = some (.cells #[.bool t272, .int .i64 t273, .int .i64 t274, .int .i64 t275] 40 (0, 0))) ∧ Aside0 (wc.heap[gb297]? = some (.cells #[(.slice Ao29 t278.length co29), (.slice Ao33 t281.length co33), (.slice Ao34 t284.length co34), (.slice Ao35 t287.length co35), (.slice Ao36 t290.length co36), .int .i64 t293, .int .i64 t294, .int .i64 t295, .int .i64 t296] 28 (0, 0))) ∧ Aside0 (wc.heap[gb303]? = some (.cells #[.bool t298, .int .i64 t299, .int .i64 t300, .int .i64 t301] 40 (0, 0))) ∧ Aside0 (Below w.heap.size w wc))
  case first =>
   have H := HC11.out
   clear HC11
   obtain ⟨t304, A430, H⟩ := Option.bind_eq_some_iff.mp H
   try dsimp only at H
   have A43 := Aside0.mk A430
   clear A430
   by_cases c44 : t304 = true
   ·subst c44
    rw [if_pos rfl] at H
    try dsimp only at H
    have H' := Aside0.mk H
    clear H
    have hnb45 := NB303_251.out
    have hnc45 := NB251_303.out
    have hnb46 := NB303_277.out
    have hnc46 := NB277_303.out
    have hnb47 := NB303_297.out
    have hnc47 := NB297_303.out
    obtain ⟨hcz48_0, hcz48_1, hcz48_2, hcz48_3, hfz48_0, hfz48_1, hfz48_2, hfz48_3⟩ := cz4 BK303.out
    have hnb49 := NB277_251.out
    have hnc49 := NB251_277.out
    have hnb50 := NB277_297.out
    have hnc50 := NB297_277.out
    obtain ⟨hcz51_0, hcz51_1, hcz51_2, hcz51_3, hfz51_0, hfz51_1, hfz51_2, hfz51_3⟩ := cz4 BK277.out
    go_wp2_with (first | ((with_reducible refine gate_callee (f := 40) rfl ?_); refine gL (some 29) Try.func40 #[.agg #[.bool t298, .int .i64 t299, .int .i64 t300, .int .i64 t301], .agg #[.bool t272, .int .i64 t273, .int .i64 t274, .int .i64 t275]] ?_; (with_reducible refine (laws_eqChoices.calls t298 t299 t300 t301 t272 t273 t274 t275 true _ A43.out).mono ?_); rintro e w52 ⟨rfl, hb⟩; refine ⟨_, rfl, ?_⟩; replace HO255 := Aside0.mk (Kd.R_below (rA (rF4 HO255.out BK303.out)) hb); replace HO258 := Aside0.mk (Kd.R_below (rA (rF4 HO258.out BK303.out)) hb); replace HO261 := Aside0.mk (Kd.R_below (rA (rF4 HO261.out BK303.out)) hb); replace HO264 := Aside0.mk (Kd.R_below (rA (rF4 HO264.out BK303.out)) hb); replace HO267 := Aside0.mk (Kd.R_below (rA (rF4 HO267.out BK303.out)) hb); replace HO280 := Aside0.mk (Kd.R_below (rA (rF4 HO280.out BK303.out)) hb); replace HO283 := Aside0.mk (Kd.R_below (rA (rF4 HO283.out BK303.out)) hb); replace HO286 := Aside0.mk (Kd.R_below (rA (rF4 HO286.out BK303.out)) hb); replace HO289 := Aside0.mk (Kd.R_below (rA (rF4 HO289.out BK303.out)) hb); replace HO292 := Aside0.mk (Kd.R_below (rA (rF4 HO292.out BK303.out)) hb); replace BK251 := Aside0.mk (blk_below (g := gb251) (o := .cells #[.slice A0_0 l0_0.length c0_0, .slice A0_1 l0_1.length c0_1, .slice A0_2 l0_2.length c0_2, .slice A0_3 l0_3.length c0_3, .slice A0_4 l0_4.length c0_4, .int .i64 a0_5, .int .i64 a0_6, .int .i64 a0_7, .int .i64 a0_8] 25 (0, 0)) (by (with_reducible repeat (first | refine blk_drewN ?_ _ | refine blk_drew ?_ | refine blk_alloc ?_ _)); refine blk_far ?_ NB251_303.out _; (with_reducible repeat (first | refine blk_drewN ?_ _ | refine blk_drew ?_ | refine blk_alloc ?_ _)); refine blk_far ?_ NB251_303.out _; (with_reducible repeat (first | refine blk_drewN ?_ _ | refine blk_drew ?_ | refine blk_alloc ?_ _)); refine blk_far ?_ NB251_303.out _; (with_reducible repeat (first | refine blk_drewN ?_ _ | refine blk_drew ?_ | refine blk_alloc ?_ _)); refine blk_far ?_ NB251_303.out _; (with_reducible repeat (first | refine blk_drewN ?_ _ | refine blk_drew ?_ | refine blk_alloc ?_ _)); exact BK251.out) hb); replace BK277 := Aside0.mk (blk_below (g := gb277) (o := .cells #[.bool t272, .int .i64 t273, .int .i64 t274, .int .i64 t275] 40 (0, 0)) (by (with_reducible repeat (first | refine blk_drewN ?_ _ | refine blk_drew ?_ | refine blk_alloc ?_ _)); refine blk_far ?_ NB277_303.out _; (with_reducible repeat (first | refine blk_drewN ?_ _ | refine blk_drew ?_ | refine blk_alloc ?_ _)); refine blk_far ?_ NB277_303.out _; (with_reducible repeat (first | refine blk_drewN ?_ _ | refine blk_drew ?_ | refine blk_alloc ?_ _)); refine blk_far ?_ NB277_303.out _; (with_reducible repeat (first | refine blk_drewN ?_ _ | refine blk_drew ?_ | refine blk_alloc ?_ _)); refine blk_far ?_ NB277_303.out _; (with_reducible repeat (first | refine blk_drewN ?_ _ | refine blk_drew ?_ | refine blk_alloc ?_ _)); exact BK277.out) hb); replace BK297 := Aside0.mk (blk_below (g := gb297) (o := .cells #[.slice Ao29 t278.length co29, .slice Ao33 t281.length co33, .slice Ao34 t284.length co34, .slice Ao35 t287.length co35, .slice Ao36 t290.length co36, .int .i64 t293, .int .i64 t294, .int .i64 t295, .int .i64 t296] 28 (0, 0)) (by (with_reducible repeat (first | refine blk_drewN ?_ _ | refine blk_drew ?_ | refine blk_alloc ?_ _)); refine blk_far ?_ NB297_303.out _; (with_reducible repeat (first | refine blk_drewN ?_ _ | refine blk_drew ?_ | refine blk_alloc ?_ _)); refine blk_far ?_ NB297_303.out _; (with_reducible repeat (first | refine blk_drewN ?_ _ | refine blk_drew ?_ | refine blk_alloc ?_ _)); refine blk_far ?_ NB297_303.out _; (with_reducible repeat (first | refine blk_drewN ?_ _ | refine blk_drew ?_ | refine blk_alloc ?_ _)); refine blk_far ?_ NB297_303.out _; (with_reducible repeat (first | refine blk_drewN ?_ _ | refine blk_drew ?_ | refine blk_alloc ?_ _)); exact BK297.out) hb); replace BK303 := Aside0.mk (blk_below (g := gb303) (o := .cells #[.bool t298, .int .i64 t299, .int .i64 t300, .int .i64 t301] 40 (0, 0)) (by (with_reducible repeat (first | refine blk_drewN ?_ _ | refine blk_drew ?_ | refine blk_alloc ?_ _)); refine blk_put (cs := #[.bool t298, .int .i64 t299, .int .i64 t300, .int .i64 0]) ?_ 3 _ rfl; (with_reducible repeat (first | refine blk_drewN ?_ _ | refine blk_drew ?_ | refine blk_alloc ?_ _)); refine blk_put (cs := #[.bool t298, .int .i64 t299, .int .i64 0, .int .i64 0]) ?_ 2 _ rfl; (with_reducible repeat (first | refine blk_drewN ?_ _ | refine blk_drew ?_ | refine blk_alloc ?_ _)); refine blk_put (cs := #[.bool t298, .int .i64 0, .int .i64 0, .int .i64 0]) ?_ 1 _ rfl; (with_reducible repeat (first | refine blk_drewN ?_ _ | refine blk_drew ?_ | refine blk_alloc ?_ _)); refine blk_put (cs := #[.bool false, .int .i64 0, .int .i64 0, .int .i64 0]) ?_ 0 _ rfl; (with_reducible repeat (first | refine blk_drewN ?_ _ | refine blk_drew ?_ | refine blk_alloc ?_ _)); exact BK303.out) hb); replace HB := Aside0.mk (below_step (bA HB.out) hb); (try clear hb)))
    go_meet
    case rel => exact ⟨_, ((t302 != t276)), (by first | rfl | (simp; done) | (simp [*]; done)), H', ⟨by first | omega | exact Nat.le_refl _⟩, ⟨by (with_reducible repeat (first | apply Kd.R_alloc | apply Kd.R_drewN | apply Kd.R_drew)); exact Kd.R_mono HO280.out (fun _ hk => ⟨hk.1.1.1.1, hk.1.1.1.2⟩)⟩, ⟨by (with_reducible repeat (first | apply Kd.R_alloc | apply Kd.R_drewN | apply Kd.R_drew)); exact Kd.R_mono HO283.out (fun _ hk => ⟨hk.1.1.1.1, hk.1.1.1.2⟩)⟩, ⟨by (with_reducible repeat (first | apply Kd.R_alloc | apply Kd.R_drewN | apply Kd.R_drew)); exact Kd.R_mono HO286.out (fun _ hk => ⟨hk.1.1.1.1, hk.1.1.1.2⟩)⟩, ⟨by (with_reducible repeat (first | apply Kd.R_alloc | apply Kd.R_drewN | apply Kd.R_drew)); exact Kd.R_mono HO289.out (fun _ hk => hk.1.1)⟩, ⟨by (with_reducible repeat (first | apply Kd.R_alloc | apply Kd.R_drewN | apply Kd.R_drew)); exact Kd.R_mono HO292.out (fun _ hk => hk.1.1)⟩, ⟨by (with_reducible repeat (first | refine blk_drewN ?_ _ | refine blk_drew ?_ | refine blk_alloc ?_ _)); exact BK251.out⟩, ⟨by (with_reducible repeat (first | refine blk_drewN ?_ _ | refine blk_drew ?_ | refine blk_alloc ?_ _)); exact BK277.out⟩, ⟨by (with_reducible repeat (first | refine blk_drewN ?_ _ | refine blk_drew ?_ | refine blk_alloc ?_ _)); exact BK297.out⟩, ⟨by (with_reducible repeat (first | refine blk_drewN ?_ _ | refine blk_drew ?_ | refine blk_alloc ?_ _)); exact BK303.out⟩, ⟨bA HB.out⟩⟩
   ·replace c44 := Bool.eq_false_iff.mpr c44
    subst c44
    rw [if_neg (show ¬ (false = true) by decide)] at H
    try dsimp only at H
    have H' := Aside0.mk H
    clear H
    have hnb53 := NB303_251.out
    have hnc53 := NB251_303.out
    have hnb54 := NB303_277.out
    have hnc54 := NB277_303.out
    have hnb55 := NB303_297.out
    have hnc55 := NB297_303.out
    obtain ⟨hcz56_0, hcz56_1, hcz56_2, hcz56_3, hfz56_0, hfz56_1, hfz56_2, hfz56_3⟩ := cz4 BK303.out
    have hnb57 := NB277_251.out
    have hnc57 := NB251_277.out
    have hnb58 := NB277_297.out
    have hnc58 := NB297_277.out
    obtain ⟨hcz59_0, hcz59_1, hcz59_2, hcz59_3, hfz59_0, hfz59_1, hfz59_2, hfz59_3⟩ := cz4 BK277.out
    go_wp2_with (first | ((with_reducible refine gate_callee (f := 40) rfl ?_); refine gL (some 29) Try.func40 #[.agg #[.bool t298, .int .i64 t299, .int .i64 t300, .int .i64 t301], .agg #[.bool t272, .int .i64 t273, .int .i64 t274, .int .i64 t275]] ?_; (with_reducible refine (laws_eqChoices.calls t298 t299 t300 t301 t272 t273 t274 t275 false _ A43.out).mono ?_); rintro e w60 ⟨rfl, hb⟩; refine ⟨_, rfl, ?_⟩; replace HO255 := Aside0.mk (Kd.R_below (rA (rF4 HO255.out BK303.out)) hb); replace HO258 := Aside0.mk (Kd.R_below (rA (rF4 HO258.out BK303.out)) hb); replace HO261 := Aside0.mk (Kd.R_below (rA (rF4 HO261.out BK303.out)) hb); replace HO264 := Aside0.mk (Kd.R_below (rA (rF4 HO264.out BK303.out)) hb); replace HO267 := Aside0.mk (Kd.R_below (rA (rF4 HO267.out BK303.out)) hb); replace HO280 := Aside0.mk (Kd.R_below (rA (rF4 HO280.out BK303.out)) hb); replace HO283 := Aside0.mk (Kd.R_below (rA (rF4 HO283.out BK303.out)) hb); replace HO286 := Aside0.mk (Kd.R_below (rA (rF4 HO286.out BK303.out)) hb); replace HO289 := Aside0.mk (Kd.R_below (rA (rF4 HO289.out BK303.out)) hb); replace HO292 := Aside0.mk (Kd.R_below (rA (rF4 HO292.out BK303.out)) hb); replace BK251 := Aside0.mk (blk_below (g := gb251) (o := .cells #[.slice A0_0 l0_0.length c0_0, .slice A0_1 l0_1.length c0_1, .slice A0_2 l0_2.length c0_2, .slice A0_3 l0_3.length c0_3, .slice A0_4 l0_4.length c0_4, .int .i64 a0_5, .int .i64 a0_6, .int .i64 a0_7, .int .i64 a0_8] 25 (0, 0)) (by (with_reducible repeat (first | refine blk_drewN ?_ _ | refine blk_drew ?_ | refine blk_alloc ?_ _)); refine blk_far ?_ NB251_303.out _; (with_reducible repeat (first | refine blk_drewN ?_ _ | refine blk_drew ?_ | refine blk_alloc ?_ _)); refine blk_far ?_ NB251_303.out _; (with_reducible repeat (first | refine blk_drewN ?_ _ | refine blk_drew ?_ | refine blk_alloc ?_ _)); refine blk_far ?_ NB251_303.out _; (with_reducible repeat (first | refine blk_drewN ?_ _ | refine blk_drew ?_ | refine blk_alloc ?_ _)); refine blk_far ?_ NB251_303.out _; (with_reducible repeat (first | refine blk_drewN ?_ _ | refine blk_drew ?_ | refine blk_alloc ?_ _)); exact BK251.out) hb); replace BK277 := Aside0.mk (blk_below (g := gb277) (o := .cells #[.bool t272, .int .i64 t273, .int .i64 t274, .int .i64 t275] 40 (0, 0)) (by (with_reducible repeat (first | refine blk_drewN ?_ _ | refine blk_drew ?_ | refine blk_alloc ?_ _)); refine blk_far ?_ NB277_303.out _; (with_reducible repeat (first | refine blk_drewN ?_ _ | refine blk_drew ?_ | refine blk_alloc ?_ _)); refine blk_far ?_ NB277_303.out _; (with_reducible repeat (first | refine blk_drewN ?_ _ | refine blk_drew ?_ | refine blk_alloc ?_ _)); refine blk_far ?_ NB277_303.out _; (with_reducible repeat (first | refine blk_drewN ?_ _ | refine blk_drew ?_ | refine blk_alloc ?_ _)); refine blk_far ?_ NB277_303.out _; (with_reducible repeat (first | refine blk_drewN ?_ _ | refine blk_drew ?_ | refine blk_alloc ?_ _)); exact BK277.out) hb); replace BK297 := Aside0.mk (blk_below (g := gb297) (o := .cells #[.slice Ao29 t278.length co29, .slice Ao33 t281.length co33, .slice Ao34 t284.length co34, .slice Ao35 t287.length co35, .slice Ao36 t290.length co36, .int .i64 t293, .int .i64 t294, .int .i64 t295, .int .i64 t296] 28 (0, 0)) (by (with_reducible repeat (first | refine blk_drewN ?_ _ | refine blk_drew ?_ | refine blk_alloc ?_ _)); refine blk_far ?_ NB297_303.out _; (with_reducible repeat (first | refine blk_drewN ?_ _ | refine blk_drew ?_ | refine blk_alloc ?_ _)); refine blk_far ?_ NB297_303.out _; (with_reducible repeat (first | refine blk_drewN ?_ _ | refine blk_drew ?_ | refine blk_alloc ?_ _)); refine blk_far ?_ NB297_303.out _; (with_reducible repeat (first | refine blk_drewN ?_ _ | refine blk_drew ?_ | refine blk_alloc ?_ _)); refine blk_far ?_ NB297_303.out _; (with_reducible repeat (first | refine blk_drewN ?_ _ | refine blk_drew ?_ | refine blk_alloc ?_ _)); exact BK297.out) hb); replace BK303 := Aside0.mk (blk_below (g := gb303) (o := .cells #[.bool t298, .int .i64 t299, .int .i64 t300, .int .i64 t301] 40 (0, 0)) (by (with_reducible repeat (first | refine blk_drewN ?_ _ | refine blk_drew ?_ | refine blk_alloc ?_ _)); refine blk_put (cs := #[.bool t298, .int .i64 t299, .int .i64 t300, .int .i64 0]) ?_ 3 _ rfl; (with_reducible repeat (first | refine blk_drewN ?_ _ | refine blk_drew ?_ | refine blk_alloc ?_ _)); refine blk_put (cs := #[.bool t298, .int .i64 t299, .int .i64 0, .int .i64 0]) ?_ 2 _ rfl; (with_reducible repeat (first | refine blk_drewN ?_ _ | refine blk_drew ?_ | refine blk_alloc ?_ _)); refine blk_put (cs := #[.bool t298, .int .i64 0, .int .i64 0, .int .i64 0]) ?_ 1 _ rfl; (with_reducible repeat (first | refine blk_drewN ?_ _ | refine blk_drew ?_ | refine blk_alloc ?_ _)); refine blk_put (cs := #[.bool false, .int .i64 0, .int .i64 0, .int .i64 0]) ?_ 0 _ rfl; (with_reducible repeat (first | refine blk_drewN ?_ _ | refine blk_drew ?_ | refine blk_alloc ?_ _)); exact BK303.out) hb); replace HB := Aside0.mk (below_step (bA HB.out) hb); (try clear hb)))
    go_meet
    case rel => exact ⟨_, (true), (by first | rfl | (simp; done) | (simp [*]; done)), H', ⟨by first | omega | exact Nat.le_refl _⟩, ⟨by (with_reducible repeat (first | apply Kd.R_alloc | apply Kd.R_drewN | apply Kd.R_drew)); exact Kd.R_mono HO280.out (fun _ hk => ⟨hk.1.1.1.1, hk.1.1.1.2⟩)⟩, ⟨by (with_reducible repeat (first | apply Kd.R_alloc | apply Kd.R_drewN | apply Kd.R_drew)); exact Kd.R_mono HO283.out (fun _ hk => ⟨hk.1.1.1.1, hk.1.1.1.2⟩)⟩, ⟨by (with_reducible repeat (first | apply Kd.R_alloc | apply Kd.R_drewN | apply Kd.R_drew)); exact Kd.R_mono HO286.out (fun _ hk => ⟨hk.1.1.1.1, hk.1.1.1.2⟩)⟩, ⟨by (with_reducible repeat (first | apply Kd.R_alloc | apply Kd.R_drewN | apply Kd.R_drew)); exact Kd.R_mono HO289.out (fun _ hk => hk.1.1)⟩, ⟨by (with_reducible repeat (first | apply Kd.R_alloc | apply Kd.R_drewN | apply Kd.R_drew)); exact Kd.R_mono HO292.out (fun _ hk => hk.1.1)⟩, ⟨by (with_reducible repeat (first | refine blk_drewN ?_ _ | refine blk_drew ?_ | refine blk_alloc ?_ _)); exact BK251.out⟩, ⟨by (with_reducible repeat (first | refine blk_drewN ?_ _ | refine blk_drew ?_ | refine blk_alloc ?_ _)); exact BK277.out⟩, ⟨by (with_reducible repeat (first | refine blk_drewN ?_ _ | refine blk_drew ?_ | refine blk_alloc ?_ _)); exact BK297.out⟩, ⟨by (with_reducible repeat (first | refine blk_drewN ?_ _ | refine blk_drew ?_ | refine blk_alloc ?_ _)); exact BK303.out⟩, ⟨bA HB.out⟩⟩
  case rest =>
   clear HC11
   try clear c1
   try clear c2
   try clear p2
   try clear c3
   try clear c3b0
   try clear c4
   try clear c5
   try clear c11
   try clear c15
   try clear c17
   try clear c24
   try clear c30
   try clear c31
   try clear c38
   try clear c39
   try clear c40
   try clear c41
   try clear c44
   try clear c45
   try clear c46
   try clear c47
   try clear c49
   try clear c50
   try clear c53
   try clear c54
   try clear c55
   try clear c57
   try clear c58
   try clear hcz13_0 hcz13_1 hcz13_2 hcz13_3 hcz13_4 hcz13_5 hcz13_6 hcz13_7 hcz13_8
   try clear hcz15_0 hcz15_1 hcz15_2 hcz15_3 hcz15_4 hcz15_5 hcz15_6 hcz15_7 hcz15_8
   try clear hcz25_0 hcz25_1 hcz25_2 hcz25_3
   try clear hcz26_0 hcz26_1 hcz26_2 hcz26_3 hcz26_4 hcz26_5 hcz26_6 hcz26_7 hcz26_8
   try clear hcz32_0 hcz32_1 hcz32_2 hcz32_3 hcz32_4 hcz32_5 hcz32_6 hcz32_7 hcz32_8
   try clear hcz42_0 hcz42_1 hcz42_2 hcz42_3
   try clear hcz48_0 hcz48_1 hcz48_2 hcz48_3
   try clear hcz51_0 hcz51_1 hcz51_2 hcz51_3
   try clear hcz56_0 hcz56_1 hcz56_2 hcz56_3
   try clear hcz59_0 hcz59_1 hcz59_2 hcz59_3
   try clear hcz5_0 hcz5_1 hcz5_2 hcz5_3 hcz5_4 hcz5_5 hcz5_6 hcz5_7 hcz5_8
   try clear hfz13_0 hfz13_1 hfz13_2 hfz13_3 hfz13_4 hfz13_5 hfz13_6 hfz13_7 hfz13_8
   try clear hfz15_0 hfz15_1 hfz15_2 hfz15_3 hfz15_4 hfz15_5 hfz15_6 hfz15_7 hfz15_8
   try clear hfz25_0 hfz25_1 hfz25_2 hfz25_3
   try clear hfz26_0 hfz26_1 hfz26_2 hfz26_3 hfz26_4 hfz26_5 hfz26_6 hfz26_7 hfz26_8
   try clear hfz32_0 hfz32_1 hfz32_2 hfz32_3 hfz32_4 hfz32_5 hfz32_6 hfz32_7 hfz32_8
   try clear hfz42_0 hfz42_1 hfz42_2 hfz42_3
   try clear hfz48_0 hfz48_1 hfz48_2 hfz48_3
   try clear hfz51_0 hfz51_1 hfz51_2 hfz51_3
   try clear hfz56_0 hfz56_1 hfz56_2 hfz56_3
   try clear hfz59_0 hfz59_1 hfz59_2 hfz59_3
   try clear hfz5_0 hfz5_1 hfz5_2 hfz5_3 hfz5_4 hfz5_5 hfz5_6 hfz5_7 hfz5_8
   obtain ⟨kq, x35_10, rfl, HA, HJ10, HO_298000, HO_298001, HO_298002, HO_298003, HO_298004, BK251, BK277, BK297, BK303, HB⟩ := hcut
   cases kq with
   | zero => exact absurd HA.out (by simp [laws_FnExactChoicesIn.j0])
   | succ kj10 =>
    have H := HA.out
    clear HA
    simp only [laws_FnExactChoicesIn.j0] at H
    by_cases c61 : x35_10 = true
    ·subst c61
     rw [if_pos rfl] at H
     try dsimp only at H
     exact absurd H (by simp)
    ·replace c61 := Bool.eq_false_iff.mpr c61
     subst c61
     rw [if_neg (show ¬ (false = true) by decide)] at H
     try dsimp only at H
     obtain ⟨⟨t305, t308, t311, t314, t317, t320, t321, t322, t323⟩, A620, H⟩ := Option.bind_eq_some_iff.mp H
     try dsimp only at H
     have A62 := Aside0.mk A620
     clear A620
     obtain ⟨t324, A630, H⟩ := Option.bind_eq_some_iff.mp H
     try dsimp only at H
     have A63 := Aside0.mk A630
     clear A630
     by_cases c64 : t324 = true
     ·subst c64
      rw [if_pos rfl] at H
      try dsimp only at H
      obtain rfl := Option.some.inj H
      try go_wp2
      replace HO_298000 := Aside0.mk (Kd.R_drew HO_298000.out)
      replace HO_298001 := Aside0.mk (Kd.R_drew HO_298001.out)
      replace HO_298002 := Aside0.mk (Kd.R_drew HO_298002.out)
      replace HO_298003 := Aside0.mk (Kd.R_drew HO_298003.out)
      replace HO_298004 := Aside0.mk (Kd.R_drew HO_298004.out)
      replace BK251 := Aside0.mk (blk_drew BK251.out)
      replace BK277 := Aside0.mk (blk_drew BK277.out)
      replace BK297 := Aside0.mk (blk_drew BK297.out)
      replace BK303 := Aside0.mk (blk_drew BK303.out)
      replace HB := Aside0.mk (below_drew1 HB.out)
      refine start_ (n := 5) (S := fun w' => w'.cell? ⟨gb297, 0, none⟩ = some (.slice Ao29 t278.length co29) ∧ w'.cell? ⟨gb297, 1, none⟩ = some (.slice Ao33 t281.length co33) ∧ w'.cell? ⟨gb297, 2, none⟩ = some (.slice Ao34 t284.length co34) ∧ w'.cell? ⟨gb297, 3, none⟩ = some (.slice Ao35 t287.length co35) ∧ w'.cell? ⟨gb297, 4, none⟩ = some (.slice Ao36 t290.length co36) ∧ w'.cell? ⟨gb297, 5, none⟩ = some (.int .i64 t293) ∧ w'.cell? ⟨gb297, 6, none⟩ = some (.int .i64 t294) ∧ w'.cell? ⟨gb297, 7, none⟩ = some (.int .i64 t295) ∧ w'.cell? ⟨gb297, 8, none⟩ = some (.int .i64 t296) ∧ w'.cell? ⟨gb251, 0, none⟩ = some (.slice A0_0 l0_0.length c0_0) ∧ w'.cell? ⟨gb251, 1, none⟩ = some (.slice A0_1 l0_1.length c0_1) ∧ w'.cell? ⟨gb251, 2, none⟩ = some (.slice A0_2 l0_2.length c0_2) ∧ w'.cell? ⟨gb251, 3, none⟩ = some (.slice A0_3 l0_3.length c0_3) ∧ w'.cell? ⟨gb251, 4, none⟩ = some (.slice A0_4 l0_4.length c0_4) ∧ w'.cell? ⟨gb251, 5, none⟩ = some (.int .i64 a0_5) ∧ w'.cell? ⟨gb251, 6, none⟩ = some (.int .i64 a0_6) ∧ w'.cell? ⟨gb251, 7, none⟩ = some (.int .i64 a0_7) ∧ w'.cell? ⟨gb251, 8, none⟩ = some (.int .i64 a0_8)) (ds := []) #[false, false, false, false, false] (by kernel_rfl) rfl rfl ⟨(blk_cell BK297.out 0).trans rfl, (blk_cell BK297.out 1).trans rfl, (blk_cell BK297.out 2).trans rfl, (blk_cell BK297.out 3).trans rfl, (blk_cell BK297.out 4).trans rfl, (blk_cell BK297.out 5).trans rfl, (blk_cell BK297.out 6).trans rfl, (blk_cell BK297.out 7).trans rfl, (blk_cell BK297.out 8).trans rfl, (blk_cell BK251.out 0).trans rfl, (blk_cell BK251.out 1).trans rfl, (blk_cell BK251.out 2).trans rfl, (blk_cell BK251.out 3).trans rfl, (blk_cell BK251.out 4).trans rfl, (blk_cell BK251.out 5).trans rfl, (blk_cell BK251.out 6).trans rfl, (blk_cell BK251.out 7).trans rfl, (blk_cell BK251.out 8).trans rfl⟩ (fun hHeld => ?_)
      generalize wc.drew = w65 at HO_298000 HO_298001 HO_298002 HO_298003 HO_298004 BK251 BK277 BK297 BK303 HB hHeld ⊢
      refine take_ (i := 0) (N := some 36) (v := ?_) (a' := ?_) #[true, false, false, false, false] rfl rfl (by kernel_rfl) (fun _ _ _ h => h) (Or.inl ⟨by rfl, ?_⟩) hHeld ?_ ?_
      rotate_left
      ·rintro w' ⟨s0, s1, s2, s3, s4, s5, s6, s7, s8, s9, s10, s11, s12, s13, s14, s15, s16, s17⟩
       go_simp
       with_reducible rfl
      rotate_left
      ·simp only [Act.put, List.setIfInBounds_toArray, List.set_cons_zero, List.set_cons_succ, i64_w, i32_w]
       rfl
      refine take_ (i := 1) (N := some 37) (v := ?_) (a' := ?_) #[true, true, false, false, false] rfl rfl (by kernel_rfl) (fun _ _ _ h => h) (Or.inl ⟨by rfl, ?_⟩) hHeld ?_ ?_
      rotate_left
      ·rintro w' ⟨s0, s1, s2, s3, s4, s5, s6, s7, s8, s9, s10, s11, s12, s13, s14, s15, s16, s17⟩
       go_simp
       with_reducible rfl
      rotate_left
      ·simp only [Act.put, List.setIfInBounds_toArray, List.set_cons_zero, List.set_cons_succ, i64_w, i32_w]
       rfl
      refine one_ (i := 2) (N := some 38) #[true, true, true, false, false] rfl rfl (by kernel_rfl) (by decide) (fun K hK => ?_)
      refine gO Try.func17 #[.agg #[.slice A0_0 l0_0.length c0_0, .slice A0_1 l0_1.length c0_1, .slice A0_2 l0_2.length c0_2, .slice A0_3 l0_3.length c0_3, .slice A0_4 l0_4.length c0_4, .int .i64 a0_5, .int .i64 a0_6, .int .i64 a0_7, .int .i64 a0_8]] ?_
      with_reducible refine (laws_toBetting.calls kj10 _ _ l0_0 _ _ l0_1 _ _ l0_2 _ _ l0_3 _ _ l0_4 a0_5 a0_6 a0_7 a0_8 t305 t308 t311 t314 t317 t320 t321 t322 t323 _ ?side1 ?side2 ?side3 ?side4 ?side5 ?side6 ?side7 ?side8 ?side9 ?side10 A62.out).mono ?_
      (case side1 => exact cA (Kd.C_below HR0_0.out HB.out))
      (case side2 => exact HC0_0.out)
      (case side3 => exact cA (Kd.C_below HR0_1.out HB.out))
      (case side4 => exact HC0_1.out)
      (case side5 => exact cA (Kd.C_below HR0_2.out HB.out))
      (case side6 => exact HC0_2.out)
      (case side7 => exact cA (Kd.C_below HR0_3.out HB.out))
      (case side8 => exact HC0_3.out)
      (case side9 => exact cA (Kd.C_below HR0_4.out HB.out))
      (case side10 => exact HC0_4.out)
      rintro e w66 ⟨v306, v309, v312, v315, v318, rfl, ho0, ho1, ho2, ho3, ho4, hb⟩
      refine ⟨_, rfl, ?_⟩
      have HO307 := Aside0.mk (Kd.R_lower (Kd.R_new' (Kd.R_new' (Kd.R_new' ho0 (Kd.R_lt (rA HO_298000.out))) (Kd.R_lt (rA HO_298001.out))) (Kd.R_lt (rA HO_298002.out))) (below_size (bA HB.out)))
      have HO310 := Aside0.mk (Kd.R_lower (Kd.R_new' (Kd.R_new' (Kd.R_new' ho1 (Kd.R_lt (rA HO_298000.out))) (Kd.R_lt (rA HO_298001.out))) (Kd.R_lt (rA HO_298002.out))) (below_size (bA HB.out)))
      have HO313 := Aside0.mk (Kd.R_lower (Kd.R_new' (Kd.R_new' (Kd.R_new' ho2 (Kd.R_lt (rA HO_298000.out))) (Kd.R_lt (rA HO_298001.out))) (Kd.R_lt (rA HO_298002.out))) (below_size (bA HB.out)))
      replace HO_298000 := Aside0.mk (Kd.R_mono (Kd.R_told (Kd.R_told (Kd.R_told (Kd.R_old (rA HO_298000.out) hb) (Kd.R_base ho0)) (Kd.R_base ho1)) (Kd.R_base ho2)) (fun _ h_ => h_.1))
      replace HO_298001 := Aside0.mk (Kd.R_mono (Kd.R_told (Kd.R_told (Kd.R_told (Kd.R_old (rA HO_298001.out) hb) (Kd.R_base ho0)) (Kd.R_base ho1)) (Kd.R_base ho2)) (fun _ h_ => h_.1))
      replace HO_298002 := Aside0.mk (Kd.R_mono (Kd.R_told (Kd.R_told (Kd.R_told (Kd.R_old (rA HO_298002.out) hb) (Kd.R_base ho0)) (Kd.R_base ho1)) (Kd.R_base ho2)) (fun _ h_ => h_.1))
      have HO316 := Aside0.mk (Kd.R_lower (Kd.R_new' (Kd.R_new' ho3 (Kd.R_lt (rA HO_298003.out))) (Kd.R_lt (rA HO_298004.out))) (below_size (bA HB.out)))
      have HO319 := Aside0.mk (Kd.R_lower (Kd.R_new' (Kd.R_new' ho4 (Kd.R_lt (rA HO_298003.out))) (Kd.R_lt (rA HO_298004.out))) (below_size (bA HB.out)))
      replace HO_298003 := Aside0.mk (Kd.R_mono (Kd.R_told (Kd.R_told (Kd.R_old (rA HO_298003.out) hb) (Kd.R_base ho3)) (Kd.R_base ho4)) (fun _ h_ => h_.1))
      replace HO_298004 := Aside0.mk (Kd.R_mono (Kd.R_told (Kd.R_told (Kd.R_old (rA HO_298004.out) hb) (Kd.R_base ho3)) (Kd.R_base ho4)) (fun _ h_ => h_.1))
      replace BK251 := Aside0.mk (blk_below (kA BK251.out) hb)
      replace BK277 := Aside0.mk (blk_below (kA BK277.out) hb)
      replace BK297 := Aside0.mk (blk_below (kA BK297.out) hb)
      replace BK303 := Aside0.mk (blk_below (kA BK303.out) hb)
      replace HB := Aside0.mk (below_step (bA HB.out) hb)
      (try clear hb)
      (try clear ho0)
      (try clear ho1)
      (try clear ho2)
      (try clear ho3)
      (try clear ho4)
      obtain ⟨Ao67, co67, eo67⟩ := Kd.R_slice HO307.out
      (first | subst eo67 | (injection eo67 with f1_ f2_ f3_; have f4_ := f1_.symm; have f5_ := f3_.symm; clear f1_ f2_ f3_; subst f4_; subst f5_))
      obtain ⟨Ao68, co68, eo68⟩ := Kd.R_slice HO310.out
      (first | subst eo68 | (injection eo68 with f1_ f2_ f3_; have f4_ := f1_.symm; have f5_ := f3_.symm; clear f1_ f2_ f3_; subst f4_; subst f5_))
      obtain ⟨Ao69, co69, eo69⟩ := Kd.R_slice HO313.out
      (first | subst eo69 | (injection eo69 with f1_ f2_ f3_; have f4_ := f1_.symm; have f5_ := f3_.symm; clear f1_ f2_ f3_; subst f4_; subst f5_))
      obtain ⟨Ao70, co70, eo70⟩ := Kd.R_slice HO316.out
      (first | subst eo70 | (injection eo70 with f1_ f2_ f3_; have f4_ := f1_.symm; have f5_ := f3_.symm; clear f1_ f2_ f3_; subst f4_; subst f5_))
      obtain ⟨Ao71, co71, eo71⟩ := Kd.R_slice HO319.out
      (first | subst eo71 | (injection eo71 with f1_ f2_ f3_; have f4_ := f1_.symm; have f5_ := f3_.symm; clear f1_ f2_ f3_; subst f4_; subst f5_))
      refine hK.out _ _ ⟨(blk_cell BK297.out 0).trans rfl, (blk_cell BK297.out 1).trans rfl, (blk_cell BK297.out 2).trans rfl, (blk_cell BK297.out 3).trans rfl, (blk_cell BK297.out 4).trans rfl, (blk_cell BK297.out 5).trans rfl, (blk_cell BK297.out 6).trans rfl, (blk_cell BK297.out 7).trans rfl, (blk_cell BK297.out 8).trans rfl, (blk_cell BK251.out 0).trans rfl, (blk_cell BK251.out 1).trans rfl, (blk_cell BK251.out 2).trans rfl, (blk_cell BK251.out 3).trans rfl, (blk_cell BK251.out 4).trans rfl, (blk_cell BK251.out 5).trans rfl, (blk_cell BK251.out 6).trans rfl, (blk_cell BK251.out 7).trans rfl, (blk_cell BK251.out 8).trans rfl⟩ (fun hHeld => ?_)
      clear hK K
      refine nO 38 ?_
      refine one_ (i := 3) (N := some 39) #[true, true, true, true, false] rfl rfl (by kernel_rfl) (by decide) (fun K hK => ?_)
      refine gO Try.func19 #[.agg #[.slice Ao29 t278.length co29, .slice Ao33 t281.length co33, .slice Ao34 t284.length co34, .slice Ao35 t287.length co35, .slice Ao36 t290.length co36, .int .i64 t293, .int .i64 t294, .int .i64 t295, .int .i64 t296], .agg #[.slice Ao67 t305.length co67, .slice Ao68 t308.length co68, .slice Ao69 t311.length co69, .slice Ao70 t314.length co70, .slice Ao71 t317.length co71, .int .i64 t320, .int .i64 t321, .int .i64 t322, .int .i64 t323]] ?_
      with_reducible refine (laws_eqBetting.calls kj10 _ _ t278 _ _ t281 _ _ t284 _ _ t287 _ _ t290 t293 t294 t295 t296 _ _ t305 _ _ t308 _ _ t311 _ _ t314 _ _ t317 t320 t321 t322 t323 true _ ?side1 ?side2 ?side3 ?side4 ?side5 ?side6 ?side7 ?side8 ?side9 ?side10 ?side11 ?side12 ?side13 ?side14 ?side15 ?side16 ?side17 ?side18 ?side19 ?side20 A63.out).mono ?_
      (case side1 => exact cA ((Kd.R_reads' HO_298000.out).2.2))
      (case side2 => exact (Kd.R_reads' HO_298000.out).2.1)
      (case side3 => exact cA ((Kd.R_reads' HO_298001.out).2.2))
      (case side4 => exact (Kd.R_reads' HO_298001.out).2.1)
      (case side5 => exact cA ((Kd.R_reads' HO_298002.out).2.2))
      (case side6 => exact (Kd.R_reads' HO_298002.out).2.1)
      (case side7 => exact cA ((Kd.R_reads' HO_298003.out).2.2))
      (case side8 => exact (Kd.R_reads' HO_298003.out).2.1)
      (case side9 => exact cA ((Kd.R_reads' HO_298004.out).2.2))
      (case side10 => exact (Kd.R_reads' HO_298004.out).2.1)
      (case side11 => exact cA ((Kd.R_reads' HO307.out).2.2))
      (case side12 => exact (Kd.R_reads' HO307.out).2.1)
      (case side13 => exact cA ((Kd.R_reads' HO310.out).2.2))
      (case side14 => exact (Kd.R_reads' HO310.out).2.1)
      (case side15 => exact cA ((Kd.R_reads' HO313.out).2.2))
      (case side16 => exact (Kd.R_reads' HO313.out).2.1)
      (case side17 => exact cA ((Kd.R_reads' HO316.out).2.2))
      (case side18 => exact (Kd.R_reads' HO316.out).2.1)
      (case side19 => exact cA ((Kd.R_reads' HO319.out).2.2))
      (case side20 => exact (Kd.R_reads' HO319.out).2.1)
      rintro e w72 ⟨rfl, hb⟩
      refine ⟨_, rfl, ?_⟩
      replace HO_298000 := Aside0.mk (Kd.R_below (rA HO_298000.out) hb)
      replace HO_298001 := Aside0.mk (Kd.R_below (rA HO_298001.out) hb)
      replace HO_298002 := Aside0.mk (Kd.R_below (rA HO_298002.out) hb)
      replace HO_298003 := Aside0.mk (Kd.R_below (rA HO_298003.out) hb)
      replace HO_298004 := Aside0.mk (Kd.R_below (rA HO_298004.out) hb)
      replace HO307 := Aside0.mk (Kd.R_below (rA HO307.out) hb)
      replace HO310 := Aside0.mk (Kd.R_below (rA HO310.out) hb)
      replace HO313 := Aside0.mk (Kd.R_below (rA HO313.out) hb)
      replace HO316 := Aside0.mk (Kd.R_below (rA HO316.out) hb)
      replace HO319 := Aside0.mk (Kd.R_below (rA HO319.out) hb)
      replace BK251 := Aside0.mk (blk_below (kA BK251.out) hb)
      replace BK277 := Aside0.mk (blk_below (kA BK277.out) hb)
      replace BK297 := Aside0.mk (blk_below (kA BK297.out) hb)
      replace BK303 := Aside0.mk (blk_below (kA BK303.out) hb)
      replace HB := Aside0.mk (below_step (bA HB.out) hb)
      (try clear hb)
      refine hK.out _ _ ⟨(blk_cell BK297.out 0).trans rfl, (blk_cell BK297.out 1).trans rfl, (blk_cell BK297.out 2).trans rfl, (blk_cell BK297.out 3).trans rfl, (blk_cell BK297.out 4).trans rfl, (blk_cell BK297.out 5).trans rfl, (blk_cell BK297.out 6).trans rfl, (blk_cell BK297.out 7).trans rfl, (blk_cell BK297.out 8).trans rfl, (blk_cell BK251.out 0).trans rfl, (blk_cell BK251.out 1).trans rfl, (blk_cell BK251.out 2).trans rfl, (blk_cell BK251.out 3).trans rfl, (blk_cell BK251.out 4).trans rfl, (blk_cell BK251.out 5).trans rfl, (blk_cell BK251.out 6).trans rfl, (blk_cell BK251.out 7).trans rfl, (blk_cell BK251.out 8).trans rfl⟩ (fun hHeld => ?_)
      clear hK K
      refine nO 39 ?_
      refine pure_ (i := 4) (N := some 40) (v := ?_) (a' := ?_) #[true, true, true, true, true] rfl rfl (by kernel_rfl) (fun _ _ _ h => h) (Or.inl ⟨by rfl, ?_⟩) ?_ ?_
      rotate_left
      ·intro w'
       go_simp
       with_reducible rfl
      rotate_left
      ·simp only [Act.put, List.setIfInBounds_toArray, List.set_cons_zero, List.set_cons_succ, i64_w, i32_w]
       rfl
      refine done_ (by kernel_rfl) ?_
      try go_wp2
      go_ret
      exact ⟨by first | rfl | (simp [errW_none, errW_some] <;> rfl) | (simp [*, errW_none, errW_some] <;> rfl), bA HB.out⟩
     ·replace c64 := Bool.eq_false_iff.mpr c64
      subst c64
      rw [if_neg (show ¬ (false = true) by decide)] at H
      try dsimp only at H
      exact absurd H (by simp)
end Go.Proofs.Ytmcobmphmmgdmaa.QFnExactChoicesIn
