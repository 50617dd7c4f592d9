import Derived.Test.YtmcobmphmmgdmaaZFnExactIsSettledx0
import Derived.Test.YtmcobmphmmgdmaaZFnExactIsSettledx1
import Derived.Test.YtmcobmphmmgdmaaZFnExactIsSettledx2
import Derived.Test.YtmcobmphmmgdmaaZFnExactIsSettledx5
import Derived.Test.YtmcobmphmmgdmaaZFnExactIsSettledx10
namespace Go.Proofs.Ytmcobmphmmgdmaa.QFnExactIsSettled
open Go.RowKit Go.Proofs.YtmcobmphmmgdmaaW.PrintWords Go.Proofs.YtmcobmphmmgdmaaW.PrintLast Go.Proofs.YtmcobmphmmgdmaaW.PrintMore
attribute [local go_sem] max2_int min2_int max_two min_two max_three min_three max_four min_four
set_option linter.unusedVariables false
set_option linter.unusedSimpArgs false
def laws_FnExactIsSettled.f (k : Nat) (l0_0 : List Int) (l0_1 : List Int) (l0_2 : List Int) (l0_3 : List Bool) (l0_4 : List Bool) (a0_5 : Int) (a0_6 : Int) (a0_7 : Int) (a0_8 : Int) : Option (Bool) := (laws_szBetting.f l0_0 l0_1 l0_2 l0_3 l0_4 a0_5 a0_6 a0_7 a0_8 1048576).bind fun t240 => (if t240 < 0 then (some true) else ((laws_toBetting.f k l0_0 l0_1 l0_2 l0_3 l0_4 a0_5 a0_6 a0_7 a0_8).bind fun bt241 => ((spec_IsSettled.f k bt241.1 bt241.2.1 bt241.2.2.1 bt241.2.2.2.1 bt241.2.2.2.2.1 bt241.2.2.2.2.2.1 bt241.2.2.2.2.2.2.1 bt241.2.2.2.2.2.2.2.1 bt241.2.2.2.2.2.2.2.2).bind fun t260 => ((laws_toBetting.f k l0_0 l0_1 l0_2 l0_3 l0_4 a0_5 a0_6 a0_7 a0_8).bind fun bt261 => ((impl_IsSettled.f k bt261.1 bt261.2.1 bt261.2.2.1 bt261.2.2.2.1 bt261.2.2.2.2.1 bt261.2.2.2.2.2.1 bt261.2.2.2.2.2.2.1 bt261.2.2.2.2.2.2.2.1 bt261.2.2.2.2.2.2.2.2).bind fun t281 => (if (t281 != t260) = true then (none) else ((laws_toBetting.f k l0_0 l0_1 l0_2 l0_3 l0_4 a0_5 a0_6 a0_7 a0_8).bind fun bt282 => ((laws_eqBetting.f k bt261.1 bt261.2.1 bt261.2.2.1 bt261.2.2.2.1 bt261.2.2.2.2.1 bt261.2.2.2.2.2.1 bt261.2.2.2.2.2.2.1 bt261.2.2.2.2.2.2.2.1 bt261.2.2.2.2.2.2.2.2 bt282.1 bt282.2.1 bt282.2.2.1 bt282.2.2.2.1 bt282.2.2.2.2.1 bt282.2.2.2.2.2.1 bt282.2.2.2.2.2.2.1 bt282.2.2.2.2.2.2.2.1 bt282.2.2.2.2.2.2.2.2).bind fun t301 => (if t301 = true then (some true) else (none))))))))))
theorem laws_FnExactIsSettled.mono : ∀ a0 a1 a2 a3 a4 a5 a6 a7 a8 k, LeO (laws_FnExactIsSettled.f k a0 a1 a2 a3 a4 a5 a6 a7 a8) (laws_FnExactIsSettled.f (k + 1) a0 a1 a2 a3 a4 a5 a6 a7 a8) := by
 intro a0 a1 a2 a3 a4 a5 a6 a7 a8 k
 unfold laws_FnExactIsSettled.f
 repeat' first
   | (with_reducible exact impl_IsSettled.mono _ _ _ _ _ _ _ _ _ _)
   | (with_reducible exact laws_eqBetting.mono _ _ _ _ _ _ _ _ _ _ _ _ _ _ _ _ _ _ _)
   | (with_reducible exact laws_toBetting.mono _ _ _ _ _ _ _ _ _ _)
   | (with_reducible exact spec_IsSettled.mono _ _ _ _ _ _ _ _ _ _)
   | (with_reducible exact LeO.refl _)
   | (with_reducible exact LeO.none _)
   | (with_reducible refine LeO.ite ?_ ?_)
   | (with_reducible refine LeO.bind ?_ (fun _ => ?_))
   | exact impl_IsSettled.mono _ _ _ _ _ _ _ _ _ _
   | exact laws_eqBetting.mono _ _ _ _ _ _ _ _ _ _ _ _ _ _ _ _ _ _ _
   | exact laws_toBetting.mono _ _ _ _ _ _ _ _ _ _
   | exact spec_IsSettled.mono _ _ _ _ _ _ _ _ _ _
   | exact LeO.none _
   | refine LeO.ite ?_ ?_
   | refine LeO.bind ?_ (fun _ => ?_)
set_option maxHeartbeats 8000000 in
set_option maxRecDepth 100000 in
theorem laws_FnExactIsSettled.calls (k : Nat) (A0_0 : Option Addr) (c0_0 : Nat) (l0_0 : List Int) (A0_1 : Option Addr) (c0_1 : Nat) (l0_1 : List Int) (A0_2 : Option Addr) (c0_2 : Nat) (l0_2 : List Int) (A0_3 : Option Addr) (c0_3 : Nat) (l0_3 : List Bool) (A0_4 : Option Addr) (c0_4 : Nat) (l0_4 : List Bool) (a0_5 : Int) (a0_6 : Int) (a0_7 : Int) (a0_8 : Int) (r : Bool) (w : World) (hr0_0 : Kd.C (Kd.int .i64) w A0_0 l0_0.length l0_0) (hc0_0 : l0_0.length ≤ c0_0) (hr0_1 : Kd.C (Kd.int .i64) w A0_1 l0_1.length l0_1) (hc0_1 : l0_1.length ≤ c0_1) (hr0_2 : Kd.C (Kd.int .i64) w A0_2 l0_2.length l0_2) (hc0_2 : l0_2.length ≤ c0_2) (hr0_3 : Kd.C Kd.bool w A0_3 l0_3.length l0_3) (hc0_3 : l0_3.length ≤ c0_3) (hr0_4 : Kd.C Kd.bool w A0_4 l0_4.length l0_4) (hc0_4 : l0_4.length ≤ c0_4) (h : laws_FnExactIsSettled.f k l0_0 l0_1 l0_2 l0_3 l0_4 a0_5 a0_6 a0_7 a0_8 = some r) :
  Calls Try.prog 10 #[.agg #[.slice A0_0 l0_0.length c0_0, .slice A0_1 l0_1.length c0_1, .slice A0_2 l0_2.length c0_2, .slice A0_3 l0_3.length c0_3, .slice A0_4 l0_4.length c0_4, .int .i64 a0_5, .int .i64 a0_6, .int .i64 a0_7, .int .i64 a0_8]] w fun e w' => e = .returned (.bool r) ∧ Below w.heap.size w w' := by
 have hu25 := Try.underlying25
 have hu28 := Try.underlying28
 have HR0_0 := Aside0.mk hr0_0
 have HC0_0 := Aside0.mk hc0_0
 clear hr0_0 hc0_0
 have HR0_1 := Aside0.mk hr0_1
 have HC0_1 := Aside0.mk hc0_1
 clear hr0_1 hc0_1
 have HR0_2 := Aside0.mk hr0_2
 have HC0_2 := Aside0.mk hc0_2
 clear hr0_2 hc0_2
 have HR0_3 := Aside0.mk hr0_3
 have HC0_3 := Aside0.mk hc0_3
 clear hr0_3 hc0_3
 have HR0_4 := Aside0.mk hr0_4
 have HC0_4 := Aside0.mk hc0_4
 clear hr0_4 hc0_4
 have HB := Aside0.mk (Below.refl w.heap.size w)
 have H : ((laws_szBetting.f l0_0 l0_1 l0_2 l0_3 l0_4 a0_5 a0_6 a0_7 a0_8 1048576).bind fun t240 => (if t240 < 0 then (some true) else ((laws_toBetting.f k l0_0 l0_1 l0_2 l0_3 l0_4 a0_5 a0_6 a0_7 a0_8).bind fun bt241 => ((spec_IsSettled.f k bt241.1 bt241.2.1 bt241.2.2.1 bt241.2.2.2.1 bt241.2.2.2.2.1 bt241.2.2.2.2.2.1 bt241.2.2.2.2.2.2.1 bt241.2.2.2.2.2.2.2.1 bt241.2.2.2.2.2.2.2.2).bind fun t260 => ((laws_toBetting.f k l0_0 l0_1 l0_2 l0_3 l0_4 a0_5 a0_6 a0_7 a0_8).bind fun bt261 => ((impl_IsSettled.f k bt261.1 bt261.2.1 bt261.2.2.1 bt261.2.2.2.1 bt261.2.2.2.2.1 bt261.2.2.2.2.2.1 bt261.2.2.2.2.2.2.1 bt261.2.2.2.2.2.2.2.1 bt261.2.2.2.2.2.2.2.2).bind fun t281 => (if (t281 != t260) = true then (none) else ((laws_toBetting.f k l0_0 l0_1 l0_2 l0_3 l0_4 a0_5 a0_6 a0_7 a0_8).bind fun bt282 => ((laws_eqBetting.f k bt261.1 bt261.2.1 bt261.2.2.1 bt261.2.2.2.1 bt261.2.2.2.2.1 bt261.2.2.2.2.2.1 bt261.2.2.2.2.2.2.1 bt261.2.2.2.2.2.2.2.1 bt261.2.2.2.2.2.2.2.2 bt282.1 bt282.2.1 bt282.2.2.1 bt282.2.2.2.1 bt282.2.2.2.2.1 bt282.2.2.2.2.2.1 bt282.2.2.2.2.2.2.1 bt282.2.2.2.2.2.2.2.1 bt282.2.2.2.2.2.2.2.2).bind fun t301 => (if t301 = true then (some true) else (none))))))))))) = some r := h
 clear h
 obtain ⟨t240, A20, H⟩ := Option.bind_eq_some_iff.mp H
 try dsimp only at H
 have A2 := Aside0.mk A20
 clear A20
 by_cases c3 : t240 < 0
 ·rw [if_pos c3] at H
  have c3b0 : decide (t240 < 0) = true := decide_eq_true c3
  clear c3
  obtain rfl := Option.some.inj H
  go_enter Try.func10, Try.ntmps10
  go_wp2_with (first | ((with_reducible refine gate_dst (N := 1) rfl ?_); refine bE 1 #[.slice A0_0 l0_0.length c0_0, .slice A0_1 l0_1.length c0_1, .slice A0_2 l0_2.length c0_2, .slice A0_3 l0_3.length c0_3, .slice A0_4 l0_4.length c0_4, .int .i64 a0_5, .int .i64 a0_6, .int .i64 a0_7, .int .i64 a0_8] 25 ?_; intro gb239 hg w4 hbox hb; have BK239 := Aside0.mk (hbox); have GW239 := Aside0.mk (gE hg (bA HB.out)); have GE239 := Aside0.mk (gE hg (bA HB.out)); replace HB := Aside0.mk (below_step (bA HB.out) hb); clear hb hbox hg; obtain ⟨hcz5_0, hcz5_1, hcz5_2, hcz5_3, hcz5_4, hcz5_5, hcz5_6, hcz5_7, hcz5_8, hfz5_0, hfz5_1, hfz5_2, hfz5_3, hfz5_4, hfz5_5, hfz5_6, hfz5_7, hfz5_8⟩ := cz9 BK239.out) | ((with_reducible refine gate_callee (f := 15) rfl ?_); refine gL (some 9) Try.func15 #[.agg #[.slice A0_0 l0_0.length c0_0, .slice A0_1 l0_1.length c0_1, .slice A0_2 l0_2.length c0_2, .slice A0_3 l0_3.length c0_3, .slice A0_4 l0_4.length c0_4, .int .i64 a0_5, .int .i64 a0_6, .int .i64 a0_7, .int .i64 a0_8], .int .i64 1048576] ?_; (with_reducible refine (laws_szBetting.calls _ _ l0_0 _ _ l0_1 _ _ l0_2 _ _ l0_3 _ _ l0_4 a0_5 a0_6 a0_7 a0_8 1048576 t240 _ ?side1 ?side2 ?side3 ?side4 ?side5 ?side6 ?side7 ?side8 ?side9 ?side10 A2.out).mono ?_); (case side1 => exact cA (Kd.C_below HR0_0.out HB.out)); (case side2 => exact HC0_0.out); (case side3 => exact cA (Kd.C_below HR0_1.out HB.out)); (case side4 => exact HC0_1.out); (case side5 => exact cA (Kd.C_below HR0_2.out HB.out)); (case side6 => exact HC0_2.out); (case side7 => exact cA (Kd.C_below HR0_3.out HB.out)); (case side8 => exact HC0_3.out); (case side9 => exact cA (Kd.C_below HR0_4.out HB.out)); (case side10 => exact HC0_4.out); rintro e w6 ⟨rfl, hb⟩; refine ⟨_, rfl, ?_⟩; replace BK239 := Aside0.mk (blk_below (kA BK239.out) hb); replace HB := Aside0.mk (below_step (bA HB.out) hb); (try clear hb)))
  go_ret
  exact ⟨by first | rfl | (simp [errW_none, errW_some] <;> rfl) | (simp [*, errW_none, errW_some] <;> rfl), bA HB.out⟩
 ·rw [if_neg c3] at H
  have c3b0 : decide (t240 < 0) = false := decide_eq_false c3
  clear c3
  obtain ⟨⟨t241, t244, t247, t250, t253, t256, t257, t258, t259⟩, A70, H⟩ := Option.bind_eq_some_iff.mp H
  try dsimp only at H
  have A7 := Aside0.mk A70
  clear A70
  obtain ⟨t260, A80, H⟩ := Option.bind_eq_some_iff.mp H
  try dsimp only at H
  have A8 := Aside0.mk A80
  clear A80
  obtain ⟨⟨t261, t264, t267, t270, t273, t276, t277, t278, t279⟩, A90, H⟩ := Option.bind_eq_some_iff.mp H
  try dsimp only at H
  have A9 := Aside0.mk A90
  clear A90
  obtain ⟨t281, A100, H⟩ := Option.bind_eq_some_iff.mp H
  try dsimp only at H
  have A10 := Aside0.mk A100
  clear A100
  by_cases c11 : (t281 != t260) = true
  ·rw [if_pos c11] at H
   exact absurd H (by simp)
  ·rw [if_neg c11] at H
   have c11b0 : (t281 != t260) = false := by simpa using c11
   (try (have c11b1 : decide (t281 = t260) = true := by simpa using c11))
   (try (have c11b2 : (t281 == t260) = true := by simpa using c11))
   clear c11
   obtain ⟨⟨t282, t285, t288, t291, t294, t297, t298, t299, t300⟩, A120, H⟩ := Option.bind_eq_some_iff.mp H
   try dsimp only at H
   have A12 := Aside0.mk A120
   clear A120
   obtain ⟨t301, A130, H⟩ := Option.bind_eq_some_iff.mp H
   try dsimp only at H
   have A13 := Aside0.mk A130
   clear A130
   by_cases c14 : t301 = true
   ·subst c14
    rw [if_pos rfl] at H
    try dsimp only at H
    obtain rfl := Option.some.inj H
    go_enter Try.func10, Try.ntmps10
    try go_wp2_with (first | ((with_reducible refine gate_dst (N := 1) rfl ?_); refine bE 1 #[.slice A0_0 l0_0.length c0_0, .slice A0_1 l0_1.length c0_1, .slice A0_2 l0_2.length c0_2, .slice A0_3 l0_3.length c0_3, .slice A0_4 l0_4.length c0_4, .int .i64 a0_5, .int .i64 a0_6, .int .i64 a0_7, .int .i64 a0_8] 25 ?_; intro gb239 hg w15 hbox hb; have BK239 := Aside0.mk (hbox); have GW239 := Aside0.mk (gE hg (bA HB.out)); have GE239 := Aside0.mk (gE hg (bA HB.out)); replace HB := Aside0.mk (below_step (bA HB.out) hb); clear hb hbox hg; obtain ⟨hcz16_0, hcz16_1, hcz16_2, hcz16_3, hcz16_4, hcz16_5, hcz16_6, hcz16_7, hcz16_8, hfz16_0, hfz16_1, hfz16_2, hfz16_3, hfz16_4, hfz16_5, hfz16_6, hfz16_7, hfz16_8⟩ := cz9 BK239.out) | ((with_reducible refine gate_callee (f := 15) rfl ?_); refine gL (some 9) Try.func15 #[.agg #[.slice A0_0 l0_0.length c0_0, .slice A0_1 l0_1.length c0_1, .slice A0_2 l0_2.length c0_2, .slice A0_3 l0_3.length c0_3, .slice A0_4 l0_4.length c0_4, .int .i64 a0_5, .int .i64 a0_6, .int .i64 a0_7, .int .i64 a0_8], .int .i64 1048576] ?_; (with_reducible refine (laws_szBetting.calls _ _ l0_0 _ _ l0_1 _ _ l0_2 _ _ l0_3 _ _ l0_4 a0_5 a0_6 a0_7 a0_8 1048576 t240 _ ?side1 ?side2 ?side3 ?side4 ?side5 ?side6 ?side7 ?side8 ?side9 ?side10 A2.out).mono ?_); (case side1 => exact cA (Kd.C_below HR0_0.out HB.out)); (case side2 => exact HC0_0.out); (case side3 => exact cA (Kd.C_below HR0_1.out HB.out)); (case side4 => exact HC0_1.out); (case side5 => exact cA (Kd.C_below HR0_2.out HB.out)); (case side6 => exact HC0_2.out); (case side7 => exact cA (Kd.C_below HR0_3.out HB.out)); (case side8 => exact HC0_3.out); (case side9 => exact cA (Kd.C_below HR0_4.out HB.out)); (case side10 => exact HC0_4.out); rintro e w17 ⟨rfl, hb⟩; refine ⟨_, rfl, ?_⟩; replace BK239 := Aside0.mk (blk_below (kA BK239.out) hb); replace HB := Aside0.mk (below_step (bA HB.out) hb); (try clear hb); obtain ⟨hcz18_0, hcz18_1, hcz18_2, hcz18_3, hcz18_4, hcz18_5, hcz18_6, hcz18_7, hcz18_8, hfz18_0, hfz18_1, hfz18_2, hfz18_3, hfz18_4, hfz18_5, hfz18_6, hfz18_7, hfz18_8⟩ := cz9 BK239.out) | ((with_reducible refine gate_callee (f := 17) rfl ?_); refine gL (some 13) Try.func17 #[.agg #[.slice A0_0 l0_0.length c0_0, .slice A0_1 l0_1.length c0_1, .slice A0_2 l0_2.length c0_2, .slice A0_3 l0_3.length c0_3, .slice A0_4 l0_4.length c0_4, .int .i64 a0_5, .int .i64 a0_6, .int .i64 a0_7, .int .i64 a0_8]] ?_; (with_reducible refine (laws_toBetting.calls k _ _ l0_0 _ _ l0_1 _ _ l0_2 _ _ l0_3 _ _ l0_4 a0_5 a0_6 a0_7 a0_8 t241 t244 t247 t250 t253 t256 t257 t258 t259 _ ?side1 ?side2 ?side3 ?side4 ?side5 ?side6 ?side7 ?side8 ?side9 ?side10 A7.out).mono ?_); (case side1 => exact cA (Kd.C_below HR0_0.out HB.out)); (case side2 => exact HC0_0.out); (case side3 => exact cA (Kd.C_below HR0_1.out HB.out)); (case side4 => exact HC0_1.out); (case side5 => exact cA (Kd.C_below HR0_2.out HB.out)); (case side6 => exact HC0_2.out); (case side7 => exact cA (Kd.C_below HR0_3.out HB.out)); (case side8 => exact HC0_3.out); (case side9 => exact cA (Kd.C_below HR0_4.out HB.out)); (case side10 => exact HC0_4.out); rintro e w19 ⟨v242, v245, v248, v251, v254, rfl, ho0, ho1, ho2, ho3, ho4, hb⟩; refine ⟨_, rfl, ?_⟩; have HO243 := Aside0.mk (Kd.R_lower ho0 (below_size (bA HB.out))); have HO246 := Aside0.mk (Kd.R_lower ho1 (below_size (bA HB.out))); have HO249 := Aside0.mk (Kd.R_lower ho2 (below_size (bA HB.out))); have HO252 := Aside0.mk (Kd.R_lower ho3 (below_size (bA HB.out))); have HO255 := Aside0.mk (Kd.R_lower ho4 (below_size (bA HB.out))); replace BK239 := Aside0.mk (blk_below (kA BK239.out) hb); replace HB := Aside0.mk (below_step (bA HB.out) hb); (try clear hb); (try clear ho0); (try clear ho1); (try clear ho2); (try clear ho3); (try clear ho4); obtain ⟨Ao20, co20, eo20⟩ := Kd.R_slice HO243.out; subst eo20; obtain ⟨Ao21, co21, eo21⟩ := Kd.R_slice HO246.out; subst eo21; obtain ⟨Ao22, co22, eo22⟩ := Kd.R_slice HO249.out; subst eo22; obtain ⟨Ao23, co23, eo23⟩ := Kd.R_slice HO252.out; subst eo23; obtain ⟨Ao24, co24, eo24⟩ := Kd.R_slice HO255.out; subst eo24) | ((with_reducible refine gate_callee (f := 36) rfl ?_); refine gL (some 14) Try.func36 #[.agg #[.slice Ao20 t241.length co20, .slice Ao21 t244.length co21, .slice Ao22 t247.length co22, .slice Ao23 t250.length co23, .slice Ao24 t253.length co24, .int .i64 t256, .int .i64 t257, .int .i64 t258, .int .i64 t259]] ?_; (with_reducible refine (spec_IsSettled.calls k _ _ t241 _ _ t244 _ _ t247 _ _ t250 _ _ t253 t256 t257 t258 t259 t260 _ ?side1 ?side2 ?side3 ?side4 ?side5 ?side6 ?side7 ?side8 ?side9 ?side10 A8.out).mono ?_); (case side1 => exact cA ((Kd.R_reads' HO243.out).2.2)); (case side2 => exact (Kd.R_reads' HO243.out).2.1); (case side3 => exact cA ((Kd.R_reads' HO246.out).2.2)); (case side4 => exact (Kd.R_reads' HO246.out).2.1); (case side5 => exact cA ((Kd.R_reads' HO249.out).2.2)); (case side6 => exact (Kd.R_reads' HO249.out).2.1); (case side7 => exact cA ((Kd.R_reads' HO252.out).2.2)); (case side8 => exact (Kd.R_reads' HO252.out).2.1); (case side9 => exact cA ((Kd.R_reads' HO255.out).2.2)); (case side10 => exact (Kd.R_reads' HO255.out).2.1); rintro e w25 ⟨rfl, hb⟩; refine ⟨_, rfl, ?_⟩; replace HO243 := Aside0.mk (Kd.R_below (rA HO243.out) hb); replace HO246 := Aside0.mk (Kd.R_below (rA HO246.out) hb); replace HO249 := Aside0.mk (Kd.R_below (rA HO249.out) hb); replace HO252 := Aside0.mk (Kd.R_below (rA HO252.out) hb); replace HO255 := Aside0.mk (Kd.R_below (rA HO255.out) hb); replace BK239 := Aside0.mk (blk_below (kA BK239.out) hb); replace HB := Aside0.mk (below_step (bA HB.out) hb); (try clear hb); obtain ⟨hcz26_0, hcz26_1, hcz26_2, hcz26_3, hcz26_4, hcz26_5, hcz26_6, hcz26_7, hcz26_8, hfz26_0, hfz26_1, hfz26_2, hfz26_3, hfz26_4, hfz26_5, hfz26_6, hfz26_7, hfz26_8⟩ := cz9 BK239.out) | ((with_reducible refine gate_callee (f := 17) rfl ?_); refine gL (some 16) Try.func17 #[.agg #[.slice A0_0 l0_0.length c0_0, .slice A0_1 l0_1.length c0_1, .slice A0_2 l0_2.length c0_2, .slice A0_3 l0_3.length c0_3, .slice A0_4 l0_4.length c0_4, .int .i64 a0_5, .int .i64 a0_6, .int .i64 a0_7, .int .i64 a0_8]] ?_; (with_reducible refine (laws_toBetting.calls k _ _ l0_0 _ _ l0_1 _ _ l0_2 _ _ l0_3 _ _ l0_4 a0_5 a0_6 a0_7 a0_8 t261 t264 t267 t270 t273 t276 t277 t278 t279 _ ?side1 ?side2 ?side3 ?side4 ?side5 ?side6 ?side7 ?side8 ?side9 ?side10 A9.out).mono ?_); (case side1 => exact cA (Kd.C_below HR0_0.out HB.out)); (case side2 => exact HC0_0.out); (case side3 => exact cA (Kd.C_below HR0_1.out HB.out)); (case side4 => exact HC0_1.out); (case side5 => exact cA (Kd.C_below HR0_2.out HB.out)); (case side6 => exact HC0_2.out); (case side7 => exact cA (Kd.C_below HR0_3.out HB.out)); (case side8 => exact HC0_3.out); (case side9 => exact cA (Kd.C_below HR0_4.out HB.out)); (case side10 => exact HC0_4.out); rintro e w27 ⟨v262, v265, v268, v271, v274, rfl, ho0, ho1, ho2, ho3, ho4, hb⟩; refine ⟨_, rfl, ?_⟩; have HO263 := Aside0.mk (Kd.R_lower (Kd.R_new' (Kd.R_new' (Kd.R_new' ho0 (Kd.R_lt (rA HO243.out))) (Kd.R_lt (rA HO246.out))) (Kd.R_lt (rA HO249.out))) (below_size (bA HB.out))); have HO266 := Aside0.mk (Kd.R_lower (Kd.R_new' (Kd.R_new' (Kd.R_new' ho1 (Kd.R_lt (rA HO243.out))) (Kd.R_lt (rA HO246.out))) (Kd.R_lt (rA HO249.out))) (below_size (bA HB.out))); have HO269 := Aside0.mk (Kd.R_lower (Kd.R_new' (Kd.R_new' (Kd.R_new' ho2 (Kd.R_lt (rA HO243.out))) (Kd.R_lt (rA HO246.out))) (Kd.R_lt (rA HO249.out))) (below_size (bA HB.out))); replace HO243 := Aside0.mk (Kd.R_mono (Kd.R_told (Kd.R_told (Kd.R_told (Kd.R_old (rA HO243.out) hb) (Kd.R_base ho0)) (Kd.R_base ho1)) (Kd.R_base ho2)) (fun _ h_ => h_.1)); replace HO246 := Aside0.mk (Kd.R_mono (Kd.R_told (Kd.R_told (Kd.R_told (Kd.R_old (rA HO246.out) hb) (Kd.R_base ho0)) (Kd.R_base ho1)) (Kd.R_base ho2)) (fun _ h_ => h_.1)); replace HO249 := Aside0.mk (Kd.R_mono (Kd.R_told (Kd.R_told (Kd.R_told (Kd.R_old (rA HO249.out) hb) (Kd.R_base ho0)) (Kd.R_base ho1)) (Kd.R_base ho2)) (fun _ h_ => h_.1)); have HO272 := Aside0.mk (Kd.R_lower (Kd.R_new' (Kd.R_new' ho3 (Kd.R_lt (rA HO252.out))) (Kd.R_lt (rA HO255.out))) (below_size (bA HB.out))); have HO275 := Aside0.mk (Kd.R_lower (Kd.R_new' (Kd.R_new' ho4 (Kd.R_lt (rA HO252.out))) (Kd.R_lt (rA HO255.out))) (below_size (bA HB.out))); replace HO252 := Aside0.mk (Kd.R_mono (Kd.R_told (Kd.R_told (Kd.R_old (rA HO252.out) hb) (Kd.R_base ho3)) (Kd.R_base ho4)) (fun _ h_ => h_.1)); replace HO255 := Aside0.mk (Kd.R_mono (Kd.R_told (Kd.R_told (Kd.R_old (rA HO255.out) hb) (Kd.R_base ho3)) (Kd.R_base ho4)) (fun _ h_ => h_.1)); replace BK239 := Aside0.mk (blk_below (kA BK239.out) hb); replace HB := Aside0.mk (below_step (bA HB.out) hb); (try clear hb); (try clear ho0); (try clear ho1); (try clear ho2); (try clear ho3); (try clear ho4)) | ((with_reducible refine gate_dst (N := 5) rfl ?_); refine bE 5 #[.slice none 0 0, .slice none 0 0, .slice none 0 0, .slice none 0 0, .slice none 0 0, .int .i64 0, .int .i64 0, .int .i64 0, .int .i64 0] 28 ?_; intro gb280 hg w28 hbox hb; replace HO243 := Aside0.mk (Kd.R_below (rA HO243.out) hb); replace HO246 := Aside0.mk (Kd.R_below (rA HO246.out) hb); replace HO249 := Aside0.mk (Kd.R_below (rA HO249.out) hb); replace HO252 := Aside0.mk (Kd.R_below (rA HO252.out) hb); replace HO255 := Aside0.mk (Kd.R_below (rA HO255.out) hb); replace HO263 := Aside0.mk (Kd.R_below (rA HO263.out) hb); replace HO266 := Aside0.mk (Kd.R_below (rA HO266.out) hb); replace HO269 := Aside0.mk (Kd.R_below (rA HO269.out) hb); replace HO272 := Aside0.mk (Kd.R_below (rA HO272.out) hb); replace HO275 := Aside0.mk (Kd.R_below (rA HO275.out) hb); have BK280 := Aside0.mk (hbox); have GW280 := Aside0.mk (gE hg (bA HB.out)); have GE280 := Aside0.mk (gE hg (bA HB.out)); replace HB := Aside0.mk (below_step (bA HB.out) hb); have NB239_280 := Aside0.mk ((by rw [hg]; exact Nat.ne_of_lt (blk_lt (kA BK239.out)) : gb239 ≠ gb280)); have NB280_239 := Aside0.mk ((by rw [hg]; exact Nat.ne_of_gt (blk_lt (kA BK239.out)) : gb280 ≠ gb239)); replace BK239 := Aside0.mk (blk_below (kA BK239.out) hb); clear hb hbox hg; obtain ⟨Ao29, co29, eo29⟩ := Kd.R_slice HO263.out; subst eo29; have hnb30 := NB280_239.out; have hnc30 := NB239_280.out; obtain ⟨hcz31_0, hcz31_1, hcz31_2, hcz31_3, hcz31_4, hcz31_5, hcz31_6, hcz31_7, hcz31_8, hfz31_0, hfz31_1, hfz31_2, hfz31_3, hfz31_4, hfz31_5, hfz31_6, hfz31_7, hfz31_8⟩ := cz9 BK280.out; obtain ⟨Ao32, co32, eo32⟩ := Kd.R_slice HO266.out; subst eo32; obtain ⟨Ao33, co33, eo33⟩ := Kd.R_slice HO269.out; subst eo33; obtain ⟨Ao34, co34, eo34⟩ := Kd.R_slice HO272.out; subst eo34; obtain ⟨Ao35, co35, eo35⟩ := Kd.R_slice HO275.out; subst eo35) | ((with_reducible refine gate_callee (f := 37) rfl ?_); refine gL (some 18) Try.func37 #[.agg #[.slice Ao29 t261.length co29, .slice Ao32 t264.length co32, .slice Ao33 t267.length co33, .slice Ao34 t270.length co34, .slice Ao35 t273.length co35, .int .i64 t276, .int .i64 t277, .int .i64 t278, .int .i64 t279]] ?_; (with_reducible refine (impl_IsSettled.calls k _ _ t261 _ _ t264 _ _ t267 _ _ t270 _ _ t273 t276 t277 t278 t279 t281 _ ?side1 ?side2 ?side3 ?side4 ?side5 ?side6 ?side7 ?side8 ?side9 ?side10 A10.out).mono ?_); (case side1 => refine (Kd.R_reads' (e := 2) (base := w.heap.size) (ok := fun k_ => ((((some k_ ≠ (.slice Ao32 t264.length co32 : Value).ownBlock ∧ some k_ ≠ (.slice Ao33 t267.length co33 : Value).ownBlock) ∧ some k_ ≠ (.slice Ao20 t241.length co20 : Value).ownBlock) ∧ some k_ ≠ (.slice Ao21 t244.length co21 : Value).ownBlock) ∧ some k_ ≠ (.slice Ao22 t247.length co22 : Value).ownBlock)) (n := t261.length) (c := co29) ?_).2.2; exact (rA (rF9 HO263.out BK280.out))); (case side2 => exact (Kd.R_reads' HO263.out).2.1); (case side3 => refine (Kd.R_reads' (e := 2) (base := w.heap.size) (ok := fun k_ => ((((some k_ ≠ (.slice Ao29 t261.length co29 : Value).ownBlock ∧ some k_ ≠ (.slice Ao33 t267.length co33 : Value).ownBlock) ∧ some k_ ≠ (.slice Ao20 t241.length co20 : Value).ownBlock) ∧ some k_ ≠ (.slice Ao21 t244.length co21 : Value).ownBlock) ∧ some k_ ≠ (.slice Ao22 t247.length co22 : Value).ownBlock)) (n := t264.length) (c := co32) ?_).2.2; exact (rA (rF9 HO266.out BK280.out))); (case side4 => exact (Kd.R_reads' HO266.out).2.1); (case side5 => refine (Kd.R_reads' (e := 2) (base := w.heap.size) (ok := fun k_ => ((((some k_ ≠ (.slice Ao29 t261.length co29 : Value).ownBlock ∧ some k_ ≠ (.slice Ao32 t264.length co32 : Value).ownBlock) ∧ some k_ ≠ (.slice Ao20 t241.length co20 : Value).ownBlock) ∧ some k_ ≠ (.slice Ao21 t244.length co21 : Value).ownBlock) ∧ some k_ ≠ (.slice Ao22 t247.length co22 : Value).ownBlock)) (n := t267.length) (c := co33) ?_).2.2; exact (rA (rF9 HO269.out BK280.out))); (case side6 => exact (Kd.R_reads' HO269.out).2.1); (case side7 => refine (Kd.R_reads' (e := 4) (base := w.heap.size) (ok := fun k_ => ((some k_ ≠ (.slice Ao35 t273.length co35 : Value).ownBlock ∧ some k_ ≠ (.slice Ao23 t250.length co23 : Value).ownBlock) ∧ some k_ ≠ (.slice Ao24 t253.length co24 : Value).ownBlock)) (n := t270.length) (c := co34) ?_).2.2; exact (rA (rF9 HO272.out BK280.out))); (case side8 => exact (Kd.R_reads' HO272.out).2.1); (case side9 => refine (Kd.R_reads' (e := 4) (base := w.heap.size) (ok := fun k_ => ((some k_ ≠ (.slice Ao34 t270.length co34 : Value).ownBlock ∧ some k_ ≠ (.slice Ao23 t250.length co23 : Value).ownBlock) ∧ some k_ ≠ (.slice Ao24 t253.length co24 : Value).ownBlock)) (n := t273.length) (c := co35) ?_).2.2; exact (rA (rF9 HO275.out BK280.out))); (case side10 => exact (Kd.R_reads' HO275.out).2.1); rintro e w36 ⟨rfl, hb⟩; refine ⟨_, rfl, ?_⟩; replace HO243 := Aside0.mk (Kd.R_below (rA (rF9 HO243.out BK280.out)) hb); replace HO246 := Aside0.mk (Kd.R_below (rA (rF9 HO246.out BK280.out)) hb); replace HO249 := Aside0.mk (Kd.R_below (rA (rF9 HO249.out BK280.out)) hb); replace HO252 := Aside0.mk (Kd.R_below (rA (rF9 HO252.out BK280.out)) hb); replace HO255 := Aside0.mk (Kd.R_below (rA (rF9 HO255.out BK280.out)) hb); replace HO263 := Aside0.mk (Kd.R_below (rA (rF9 HO263.out BK280.out)) hb); replace HO266 := Aside0.mk (Kd.R_below (rA (rF9 HO266.out BK280.out)) hb); replace HO269 := Aside0.mk (Kd.R_below (rA (rF9 HO269.out BK280.out)) hb); replace HO272 := Aside0.mk (Kd.R_below (rA (rF9 HO272.out BK280.out)) hb); replace HO275 := Aside0.mk (Kd.R_below (rA (rF9 HO275.out BK280.out)) hb); replace BK239 := Aside0.mk (blk_below (g := gb239) (o := .cells #[.slice A0_0 l0_0.length c0_0, .slice A0_1 l0_1.length c0_1, .slice A0_2 l0_2.length c0_2, .slice A0_3 l0_3.length c0_3, .slice A0_4 l0_4.length c0_4, .int .i64 a0_5, .int .i64 a0_6, .int .i64 a0_7, .int .i64 a0_8] 25 (0, 0)) (by (with_reducible repeat (first | refine blk_drewN ?_ _ | refine blk_drew ?_ | refine blk_alloc ?_ _)); refine blk_far ?_ NB239_280.out _; (with_reducible repeat (first | refine blk_drewN ?_ _ | refine blk_drew ?_ | refine blk_alloc ?_ _)); refine blk_far ?_ NB239_280.out _; (with_reducible repeat (first | refine blk_drewN ?_ _ | refine blk_drew ?_ | refine blk_alloc ?_ _)); refine blk_far ?_ NB239_280.out _; (with_reducible repeat (first | refine blk_drewN ?_ _ | refine blk_drew ?_ | refine blk_alloc ?_ _)); refine blk_far ?_ NB239_280.out _; (with_reducible repeat (first | refine blk_drewN ?_ _ | refine blk_drew ?_ | refine blk_alloc ?_ _)); refine blk_far ?_ NB239_280.out _; (with_reducible repeat (first | refine blk_drewN ?_ _ | refine blk_drew ?_ | refine blk_alloc ?_ _)); refine blk_far ?_ NB239_280.out _; (with_reducible repeat (first | refine blk_drewN ?_ _ | refine blk_drew ?_ | refine blk_alloc ?_ _)); refine blk_far ?_ NB239_280.out _; (with_reducible repeat (first | refine blk_drewN ?_ _ | refine blk_drew ?_ | refine blk_alloc ?_ _)); refine blk_far ?_ NB239_280.out _; (with_reducible repeat (first | refine blk_drewN ?_ _ | refine blk_drew ?_ | refine blk_alloc ?_ _)); refine blk_far ?_ NB239_280.out _; (with_reducible repeat (first | refine blk_drewN ?_ _ | refine blk_drew ?_ | refine blk_alloc ?_ _)); exact BK239.out) hb); replace BK280 := Aside0.mk (blk_below (g := gb280) (o := .cells #[.slice Ao29 t261.length co29, .slice Ao32 t264.length co32, .slice Ao33 t267.length co33, .slice Ao34 t270.length co34, .slice Ao35 t273.length co35, .int .i64 t276, .int .i64 t277, .int .i64 t278, .int .i64 t279] 28 (0, 0)) (by (with_reducible repeat (first | refine blk_drewN ?_ _ | refine blk_drew ?_ | refine blk_alloc ?_ _)); refine blk_put (cs := #[.slice Ao29 t261.length co29, .slice Ao32 t264.length co32, .slice Ao33 t267.length co33, .slice Ao34 t270.length co34, .slice Ao35 t273.length co35, .int .i64 t276, .int .i64 t277, .int .i64 t278, .int .i64 0]) ?_ 8 _ rfl; (with_reducible repeat (first | refine blk_drewN ?_ _ | refine blk_drew ?_ | refine blk_alloc ?_ _)); refine blk_put (cs := #[.slice Ao29 t261.length co29, .slice Ao32 t264.length co32, .slice Ao33 t267.length co33, .slice Ao34 t270.length co34, .slice Ao35 t273.length co35, .int .i64 t276, .int .i64 t277, .int .i64 0, .int .i64 0]) ?_ 7 _ rfl; (with_reducible repeat (first | refine blk_drewN ?_ _ | refine blk_drew ?_ | refine blk_alloc ?_ _)); refine blk_put (cs := #[.slice Ao29 t261.length co29, .slice Ao32 t264.length co32, .slice Ao33 t267.length co33, .slice Ao34 t270.length co34, .slice Ao35 t273.length co35, .int .i64 t276, .int .i64 0, .int .i64 0, .int .i64 0]) ?_ 6 _ rfl; (with_reducible repeat (first | refine blk_drewN ?_ _ | refine blk_drew ?_ | refine blk_alloc ?_ _)); refine blk_put (cs := #[.slice Ao29 t261.length co29, .slice Ao32 t264.length co32, .slice Ao33 t267.length co33, .slice Ao34 t270.length co34, .slice Ao35 t273.length co35, .int .i64 0, .int .i64 0, .int .i64 0, .int .i64 0]) ?_ 5 _ rfl; (with_reducible repeat (first | refine blk_drewN ?_ _ | refine blk_drew ?_ | refine blk_alloc ?_ _)); refine blk_put (cs := #[.slice Ao29 t261.length co29, .slice Ao32 t264.length co32, .slice Ao33 t267.length co33, .slice Ao34 t270.length co34, .slice none 0 0, .int .i64 0, .int .i64 0, .int .i64 0, .int .i64 0]) ?_ 4 _ rfl; (with_reducible repeat (first | refine blk_drewN ?_ _ | refine blk_drew ?_ | refine blk_alloc ?_ _)); refine blk_put (cs := #[.slice Ao29 t261.length co29, .slice Ao32 t264.length co32, .slice Ao33 t267.length co33, .slice none 0 0, .slice none 0 0, .int .i64 0, .int .i64 0, .int .i64 0, .int .i64 0]) ?_ 3 _ rfl; (with_reducible repeat (first | refine blk_drewN ?_ _ | refine blk_drew ?_ | refine blk_alloc ?_ _)); refine blk_put (cs := #[.slice Ao29 t261.length co29, .slice Ao32 t264.length co32, .slice none 0 0, .slice none 0 0, .slice none 0 0, .int .i64 0, .int .i64 0, .int .i64 0, .int .i64 0]) ?_ 2 _ rfl; (with_reducible repeat (first | refine blk_drewN ?_ _ | refine blk_drew ?_ | refine blk_alloc ?_ _)); refine blk_put (cs := #[.slice Ao29 t261.length co29, .slice none 0 0, .slice none 0 0, .slice none 0 0, .slice none 0 0, .int .i64 0, .int .i64 0, .int .i64 0, .int .i64 0]) ?_ 1 _ rfl; (with_reducible repeat (first | refine blk_drewN ?_ _ | refine blk_drew ?_ | refine blk_alloc ?_ _)); refine blk_put (cs := #[.slice none 0 0, .slice none 0 0, .slice none 0 0, .slice none 0 0, .slice none 0 0, .int .i64 0, .int .i64 0, .int .i64 0, .int .i64 0]) ?_ 0 _ rfl; (with_reducible repeat (first | refine blk_drewN ?_ _ | refine blk_drew ?_ | refine blk_alloc ?_ _)); exact BK280.out) hb); replace HB := Aside0.mk (below_step (bA HB.out) hb); (try clear hb)))
    replace HO243 := Aside0.mk (Kd.R_drew HO243.out)
    replace HO246 := Aside0.mk (Kd.R_drew HO246.out)
    replace HO249 := Aside0.mk (Kd.R_drew HO249.out)
    replace HO252 := Aside0.mk (Kd.R_drew HO252.out)
    replace HO255 := Aside0.mk (Kd.R_drew HO255.out)
    replace HO263 := Aside0.mk (Kd.R_drew HO263.out)
    replace HO266 := Aside0.mk (Kd.R_drew HO266.out)
    replace HO269 := Aside0.mk (Kd.R_drew HO269.out)
    replace HO272 := Aside0.mk (Kd.R_drew HO272.out)
    replace HO275 := Aside0.mk (Kd.R_drew HO275.out)
    replace BK239 := Aside0.mk (blk_drew BK239.out)
    replace BK280 := Aside0.mk (blk_drew BK280.out)
    replace HB := Aside0.mk (below_drew1 HB.out)
    refine start_ (n := 5) (S := fun w' => w'.cell? ⟨gb280, 0, none⟩ = some (.slice Ao29 t261.length co29) ∧ w'.cell? ⟨gb280, 1, none⟩ = some (.slice Ao32 t264.length co32) ∧ w'.cell? ⟨gb280, 2, none⟩ = some (.slice Ao33 t267.length co33) ∧ w'.cell? ⟨gb280, 3, none⟩ = some (.slice Ao34 t270.length co34) ∧ w'.cell? ⟨gb280, 4, none⟩ = some (.slice Ao35 t273.length co35) ∧ w'.cell? ⟨gb280, 5, none⟩ = some (.int .i64 t276) ∧ w'.cell? ⟨gb280, 6, none⟩ = some (.int .i64 t277) ∧ w'.cell? ⟨gb280, 7, none⟩ = some (.int .i64 t278) ∧ w'.cell? ⟨gb280, 8, none⟩ = some (.int .i64 t279) ∧ w'.cell? ⟨gb239, 0, none⟩ = some (.slice A0_0 l0_0.length c0_0) ∧ w'.cell? ⟨gb239, 1, none⟩ = some (.slice A0_1 l0_1.length c0_1) ∧ w'.cell? ⟨gb239, 2, none⟩ = some (.slice A0_2 l0_2.length c0_2) ∧ w'.cell? ⟨gb239, 3, none⟩ = some (.slice A0_3 l0_3.length c0_3) ∧ w'.cell? ⟨gb239, 4, none⟩ = some (.slice A0_4 l0_4.length c0_4) ∧ w'.cell? ⟨gb239, 5, none⟩ = some (.int .i64 a0_5) ∧ w'.cell? ⟨gb239, 6, none⟩ = some (.int .i64 a0_6) ∧ w'.cell? ⟨gb239, 7, none⟩ = some (.int .i64 a0_7) ∧ w'.cell? ⟨gb239, 8, none⟩ = some (.int .i64 a0_8)) (ds := []) #[false, false, false, false, false] (by kernel_rfl) rfl rfl ⟨(blk_cell BK280.out 0).trans rfl, (blk_cell BK280.out 1).trans rfl, (blk_cell BK280.out 2).trans rfl, (blk_cell BK280.out 3).trans rfl, (blk_cell BK280.out 4).trans rfl, (blk_cell BK280.out 5).trans rfl, (blk_cell BK280.out 6).trans rfl, (blk_cell BK280.out 7).trans rfl, (blk_cell BK280.out 8).trans rfl, (blk_cell BK239.out 0).trans rfl, (blk_cell BK239.out 1).trans rfl, (blk_cell BK239.out 2).trans rfl, (blk_cell BK239.out 3).trans rfl, (blk_cell BK239.out 4).trans rfl, (blk_cell BK239.out 5).trans rfl, (blk_cell BK239.out 6).trans rfl, (blk_cell BK239.out 7).trans rfl, (blk_cell BK239.out 8).trans rfl⟩ (fun hHeld => ?_)
    generalize w36.drew = w37 at HO243 HO246 HO249 HO252 HO255 HO263 HO266 HO269 HO272 HO275 BK239 BK280 HB hHeld ⊢
    refine take_ (i := 0) (N := some 22) (v := ?_) (a' := ?_) #[true, false, false, false, false] rfl rfl (by kernel_rfl) (fun _ _ _ h => h) (Or.inl ⟨by rfl, ?_⟩) hHeld ?_ ?_
    rotate_left
    ·rintro w' ⟨s0, s1, s2, s3, s4, s5, s6, s7, s8, s9, s10, s11, s12, s13, s14, s15, s16, s17⟩
     go_simp
     with_reducible rfl
    rotate_left
    ·simp only [Act.put, List.setIfInBounds_toArray, List.set_cons_zero, List.set_cons_succ, i64_w, i32_w]
     rfl
    refine take_ (i := 1) (N := some 23) (v := ?_) (a' := ?_) #[true, true, false, false, false] rfl rfl (by kernel_rfl) (fun _ _ _ h => h) (Or.inl ⟨by rfl, ?_⟩) hHeld ?_ ?_
    rotate_left
    ·rintro w' ⟨s0, s1, s2, s3, s4, s5, s6, s7, s8, s9, s10, s11, s12, s13, s14, s15, s16, s17⟩
     go_simp
     with_reducible rfl
    rotate_left
    ·simp only [Act.put, List.setIfInBounds_toArray, List.set_cons_zero, List.set_cons_succ, i64_w, i32_w]
     rfl
    refine one_ (i := 2) (N := some 24) #[true, true, true, false, false] rfl rfl (by kernel_rfl) (by decide) (fun K hK => ?_)
    refine gO Try.func17 #[.agg #[.slice A0_0 l0_0.length c0_0, .slice A0_1 l0_1.length c0_1, .slice A0_2 l0_2.length c0_2, .slice A0_3 l0_3.length c0_3, .slice A0_4 l0_4.length c0_4, .int .i64 a0_5, .int .i64 a0_6, .int .i64 a0_7, .int .i64 a0_8]] ?_
    with_reducible refine (laws_toBetting.calls k _ _ l0_0 _ _ l0_1 _ _ l0_2 _ _ l0_3 _ _ l0_4 a0_5 a0_6 a0_7 a0_8 t282 t285 t288 t291 t294 t297 t298 t299 t300 _ ?side1 ?side2 ?side3 ?side4 ?side5 ?side6 ?side7 ?side8 ?side9 ?side10 A12.out).mono ?_
    (case side1 => exact cA (Kd.C_below HR0_0.out HB.out))
    (case side2 => exact HC0_0.out)
    (case side3 => exact cA (Kd.C_below HR0_1.out HB.out))
    (case side4 => exact HC0_1.out)
    (case side5 => exact cA (Kd.C_below HR0_2.out HB.out))
    (case side6 => exact HC0_2.out)
    (case side7 => exact cA (Kd.C_below HR0_3.out HB.out))
    (case side8 => exact HC0_3.out)
    (case side9 => exact cA (Kd.C_below HR0_4.out HB.out))
    (case side10 => exact HC0_4.out)
    rintro e w38 ⟨v283, v286, v289, v292, v295, rfl, ho0, ho1, ho2, ho3, ho4, hb⟩
    refine ⟨_, rfl, ?_⟩
    have HO284 := Aside0.mk (Kd.R_lower (Kd.R_new' (Kd.R_new' (Kd.R_new' (Kd.R_new' (Kd.R_new' (Kd.R_new' ho0 (Kd.R_lt (rA HO243.out))) (Kd.R_lt (rA HO246.out))) (Kd.R_lt (rA HO249.out))) (Kd.R_lt (rA HO263.out))) (Kd.R_lt (rA HO266.out))) (Kd.R_lt (rA HO269.out))) (below_size (bA HB.out)))
    have HO287 := Aside0.mk (Kd.R_lower (Kd.R_new' (Kd.R_new' (Kd.R_new' (Kd.R_new' (Kd.R_new' (Kd.R_new' ho1 (Kd.R_lt (rA HO243.out))) (Kd.R_lt (rA HO246.out))) (Kd.R_lt (rA HO249.out))) (Kd.R_lt (rA HO263.out))) (Kd.R_lt (rA HO266.out))) (Kd.R_lt (rA HO269.out))) (below_size (bA HB.out)))
    have HO290 := Aside0.mk (Kd.R_lower (Kd.R_new' (Kd.R_new' (Kd.R_new' (Kd.R_new' (Kd.R_new' (Kd.R_new' ho2 (Kd.R_lt (rA HO243.out))) (Kd.R_lt (rA HO246.out))) (Kd.R_lt (rA HO249.out))) (Kd.R_lt (rA HO263.out))) (Kd.R_lt (rA HO266.out))) (Kd.R_lt (rA HO269.out))) (below_size (bA HB.out)))
    replace HO243 := Aside0.mk (Kd.R_mono (Kd.R_told (Kd.R_told (Kd.R_told (Kd.R_old (rA HO243.out) hb) (Kd.R_base ho0)) (Kd.R_base ho1)) (Kd.R_base ho2)) (fun _ h_ => h_.1))
    replace HO246 := Aside0.mk (Kd.R_mono (Kd.R_told (Kd.R_told (Kd.R_told (Kd.R_old (rA HO246.out) hb) (Kd.R_base ho0)) (Kd.R_base ho1)) (Kd.R_base ho2)) (fun _ h_ => h_.1))
    replace HO249 := Aside0.mk (Kd.R_mono (Kd.R_told (Kd.R_told (Kd.R_told (Kd.R_old (rA HO249.out) hb) (Kd.R_base ho0)) (Kd.R_base ho1)) (Kd.R_base ho2)) (fun _ h_ => h_.1))
    replace HO263 := Aside0.mk (Kd.R_mono (Kd.R_told (Kd.R_told (Kd.R_told (Kd.R_old (rA HO263.out) hb) (Kd.R_base ho0)) (Kd.R_base ho1)) (Kd.R_base ho2)) (fun _ h_ => h_.1))
    replace HO266 := Aside0.mk (Kd.R_mono (Kd.R_told (Kd.R_told (Kd.R_told (Kd.R_old (rA HO266.out) hb) (Kd.R_base ho0)) (Kd.R_base ho1)) (Kd.R_base ho2)) (fun _ h_ => h_.1))
    replace HO269 := Aside0.mk (Kd.R_mono (Kd.R_told (Kd.R_told (Kd.R_told (Kd.R_old (rA HO269.out) hb) (Kd.R_base ho0)) (Kd.R_base ho1)) (Kd.R_base ho2)) (fun _ h_ => h_.1))
    have HO293 := Aside0.mk (Kd.R_lower (Kd.R_new' (Kd.R_new' (Kd.R_new' (Kd.R_new' ho3 (Kd.R_lt (rA HO252.out))) (Kd.R_lt (rA HO255.out))) (Kd.R_lt (rA HO272.out))) (Kd.R_lt (rA HO275.out))) (below_size (bA HB.out)))
    have HO296 := Aside0.mk (Kd.R_lower (Kd.R_new' (Kd.R_new' (Kd.R_new' (Kd.R_new' ho4 (Kd.R_lt (rA HO252.out))) (Kd.R_lt (rA HO255.out))) (Kd.R_lt (rA HO272.out))) (Kd.R_lt (rA HO275.out))) (below_size (bA HB.out)))
    replace HO252 := Aside0.mk (Kd.R_mono (Kd.R_told (Kd.R_told (Kd.R_old (rA HO252.out) hb) (Kd.R_base ho3)) (Kd.R_base ho4)) (fun _ h_ => h_.1))
    replace HO255 := Aside0.mk (Kd.R_mono (Kd.R_told (Kd.R_told (Kd.R_old (rA HO255.out) hb) (Kd.R_base ho3)) (Kd.R_base ho4)) (fun _ h_ => h_.1))
    replace HO272 := Aside0.mk (Kd.R_mono (Kd.R_told (Kd.R_told (Kd.R_old (rA HO272.out) hb) (Kd.R_base ho3)) (Kd.R_base ho4)) (fun _ h_ => h_.1))
    replace HO275 := Aside0.mk (Kd.R_mono (Kd.R_told (Kd.R_told (Kd.R_old (rA HO275.out) hb) (Kd.R_base ho3)) (Kd.R_base ho4)) (fun _ h_ => h_.1))
    replace BK239 := Aside0.mk (blk_below (kA BK239.out) hb)
    replace BK280 := Aside0.mk (blk_below (kA BK280.out) hb)
    replace HB := Aside0.mk (below_step (bA HB.out) hb)
    (try clear hb)
    (try clear ho0)
    (try clear ho1)
    (try clear ho2)
    (try clear ho3)
    (try clear ho4)
    obtain ⟨Ao39, co39, eo39⟩ := Kd.R_slice HO284.out
    (first | subst eo39 | (injection eo39 with f1_ f2_ f3_; have f4_ := f1_.symm; have f5_ := f3_.symm; clear f1_ f2_ f3_; subst f4_; subst f5_))
    obtain ⟨Ao40, co40, eo40⟩ := Kd.R_slice HO287.out
    (first | subst eo40 | (injection eo40 with f1_ f2_ f3_; have f4_ := f1_.symm; have f5_ := f3_.symm; clear f1_ f2_ f3_; subst f4_; subst f5_))
    obtain ⟨Ao41, co41, eo41⟩ := Kd.R_slice HO290.out
    (first | subst eo41 | (injection eo41 with f1_ f2_ f3_; have f4_ := f1_.symm; have f5_ := f3_.symm; clear f1_ f2_ f3_; subst f4_; subst f5_))
    obtain ⟨Ao42, co42, eo42⟩ := Kd.R_slice HO293.out
    (first | subst eo42 | (injection eo42 with f1_ f2_ f3_; have f4_ := f1_.symm; have f5_ := f3_.symm; clear f1_ f2_ f3_; subst f4_; subst f5_))
    obtain ⟨Ao43, co43, eo43⟩ := Kd.R_slice HO296.out
    (first | subst eo43 | (injection eo43 with f1_ f2_ f3_; have f4_ := f1_.symm; have f5_ := f3_.symm; clear f1_ f2_ f3_; subst f4_; subst f5_))
    refine hK.out _ _ ⟨(blk_cell BK280.out 0).trans rfl, (blk_cell BK280.out 1).trans rfl, (blk_cell BK280.out 2).trans rfl, (blk_cell BK280.out 3).trans rfl, (blk_cell BK280.out 4).trans rfl, (blk_cell BK280.out 5).trans rfl, (blk_cell BK280.out 6).trans rfl, (blk_cell BK280.out 7).trans rfl, (blk_cell BK280.out 8).trans rfl, (blk_cell BK239.out 0).trans rfl, (blk_cell BK239.out 1).trans rfl, (blk_cell BK239.out 2).trans rfl, (blk_cell BK239.out 3).trans rfl, (blk_cell BK239.out 4).trans rfl, (blk_cell BK239.out 5).trans rfl, (blk_cell BK239.out 6).trans rfl, (blk_cell BK239.out 7).trans rfl, (blk_cell BK239.out 8).trans rfl⟩ (fun hHeld => ?_)
    clear hK K
    refine nO 24 ?_
    refine one_ (i := 3) (N := some 25) #[true, true, true, true, false] rfl rfl (by kernel_rfl) (by decide) (fun K hK => ?_)
    refine gO Try.func19 #[.agg #[.slice Ao29 t261.length co29, .slice Ao32 t264.length co32, .slice Ao33 t267.length co33, .slice Ao34 t270.length co34, .slice Ao35 t273.length co35, .int .i64 t276, .int .i64 t277, .int .i64 t278, .int .i64 t279], .agg #[.slice Ao39 t282.length co39, .slice Ao40 t285.length co40, .slice Ao41 t288.length co41, .slice Ao42 t291.length co42, .slice Ao43 t294.length co43, .int .i64 t297, .int .i64 t298, .int .i64 t299, .int .i64 t300]] ?_
    with_reducible refine (laws_eqBetting.calls k _ _ t261 _ _ t264 _ _ t267 _ _ t270 _ _ t273 t276 t277 t278 t279 _ _ t282 _ _ t285 _ _ t288 _ _ t291 _ _ t294 t297 t298 t299 t300 true _ ?side1 ?side2 ?side3 ?side4 ?side5 ?side6 ?side7 ?side8 ?side9 ?side10 ?side11 ?side12 ?side13 ?side14 ?side15 ?side16 ?side17 ?side18 ?side19 ?side20 A13.out).mono ?_
    (case side1 => exact cA ((Kd.R_reads' HO263.out).2.2))
    (case side2 => exact (Kd.R_reads' HO263.out).2.1)
    (case side3 => exact cA ((Kd.R_reads' HO266.out).2.2))
    (case side4 => exact (Kd.R_reads' HO266.out).2.1)
    (case side5 => exact cA ((Kd.R_reads' HO269.out).2.2))
    (case side6 => exact (Kd.R_reads' HO269.out).2.1)
    (case side7 => exact cA ((Kd.R_reads' HO272.out).2.2))
    (case side8 => exact (Kd.R_reads' HO272.out).2.1)
    (case side9 => exact cA ((Kd.R_reads' HO275.out).2.2))
    (case side10 => exact (Kd.R_reads' HO275.out).2.1)
    (case side11 => exact cA ((Kd.R_reads' HO284.out).2.2))
    (case side12 => exact (Kd.R_reads' HO284.out).2.1)
    (case side13 => exact cA ((Kd.R_reads' HO287.out).2.2))
    (case side14 => exact (Kd.R_reads' HO287.out).2.1)
    (case side15 => exact cA ((Kd.R_reads' HO290.out).2.2))
    (case side16 => exact (Kd.R_reads' HO290.out).2.1)
    (case side17 => exact cA ((Kd.R_reads' HO293.out).2.2))
    (case side18 => exact (Kd.R_reads' HO293.out).2.1)
    (case side19 => exact cA ((Kd.R_reads' HO296.out).2.2))
    (case side20 => exact (Kd.R_reads' HO296.out).2.1)
    rintro e w44 ⟨rfl, hb⟩
    refine ⟨_, rfl, ?_⟩
    replace HO243 := Aside0.mk (Kd.R_below (rA HO243.out) hb)
    replace HO246 := Aside0.mk (Kd.R_below (rA HO246.out) hb)
    replace HO249 := Aside0.mk (Kd.R_below (rA HO249.out) hb)
    replace HO252 := Aside0.mk (Kd.R_below (rA HO252.out) hb)
    replace HO255 := Aside0.mk (Kd.R_below (rA HO255.out) hb)
    replace HO263 := Aside0.mk (Kd.R_below (rA HO263.out) hb)
    replace HO266 := Aside0.mk (Kd.R_below (rA HO266.out) hb)
    replace HO269 := Aside0.mk (Kd.R_below (rA HO269.out) hb)
    replace HO272 := Aside0.mk (Kd.R_below (rA HO272.out) hb)
    replace HO275 := Aside0.mk (Kd.R_below (rA HO275.out) hb)
    replace HO284 := Aside0.mk (Kd.R_below (rA HO284.out) hb)
    replace HO287 := Aside0.mk (Kd.R_below (rA HO287.out) hb)
    replace HO290 := Aside0.mk (Kd.R_below (rA HO290.out) hb)
    replace HO293 := Aside0.mk (Kd.R_below (rA HO293.out) hb)
    replace HO296 := Aside0.mk (Kd.R_below (rA HO296.out) hb)
    replace BK239 := Aside0.mk (blk_below (kA BK239.out) hb)
    replace BK280 := Aside0.mk (blk_below (kA BK280.out) hb)
    replace HB := Aside0.mk (below_step (bA HB.out) hb)
    (try clear hb)
    refine hK.out _ _ ⟨(blk_cell BK280.out 0).trans rfl, (blk_cell BK280.out 1).trans rfl, (blk_cell BK280.out 2).trans rfl, (blk_cell BK280.out 3).trans rfl, (blk_cell BK280.out 4).trans rfl, (blk_cell BK280.out 5).trans rfl, (blk_cell BK280.out 6).trans rfl, (blk_cell BK280.out 7).trans rfl, (blk_cell BK280.out 8).trans rfl, (blk_cell BK239.out 0).trans rfl, (blk_cell BK239.out 1).trans rfl, (blk_cell BK239.out 2).trans rfl, (blk_cell BK239.out 3).trans rfl, (blk_cell BK239.out 4).trans rfl, (blk_cell BK239.out 5).trans rfl, (blk_cell BK239.out 6).trans rfl, (blk_cell BK239.out 7).trans rfl, (blk_cell BK239.out 8).trans rfl⟩ (fun hHeld => ?_)
    clear hK K
    refine nO 25 ?_
    refine pure_ (i := 4) (N := some 26) (v := ?_) (a' := ?_) #[true, true, true, true, true] rfl rfl (by kernel_rfl) (fun _ _ _ h => h) (Or.inl ⟨by rfl, ?_⟩) ?_ ?_
    rotate_left
    ·intro w'
     go_simp
     with_reducible rfl
    rotate_left
    ·simp only [Act.put, List.setIfInBounds_toArray, List.set_cons_zero, List.set_cons_succ, i64_w, i32_w]
     rfl
    refine done_ (by kernel_rfl) ?_
    try go_wp2
    go_ret
    exact ⟨by first | rfl | (simp [errW_none, errW_some] <;> rfl) | (simp [*, errW_none, errW_some] <;> rfl), bA HB.out⟩
   ·replace c14 := Bool.eq_false_iff.mpr c14
    subst c14
    rw [if_neg (show ¬ (false = true) by decide)] at H
    try dsimp only at H
    exact absurd H (by simp)
end Go.Proofs.Ytmcobmphmmgdmaa.QFnExactIsSettled
