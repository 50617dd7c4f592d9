import Derived.Test.YtdagljakajpdjaaZFnExactNextTablex0
import Derived.Test.YtdagljakajpdjaaZFnExactNextTablex3
namespace Go.Proofs.Ytdagljakajpdjaa.QFnExactNextTable
open Go.RowKit Go.Proofs.YtdagljakajpdjaaW.PrintWords Go.Proofs.YtdagljakajpdjaaW.PrintLast Go.Proofs.YtdagljakajpdjaaW.PrintMore
attribute [local go_sem] max2_int min2_int max_two min_two max_three min_three max_four min_four
set_option linter.unusedVariables false
set_option linter.unusedSimpArgs false
def impl_IsTable.f (k : Nat) (l0_0 : List Int) (a0_1 : Int) (a0_2 : Int) (a0_3 : Int) (a0_4 : Int) (a0_5 : Int) : Option (Bool) := (impl_within.f (l0_0.length : Int) 2 6).bind fun t158 => (if t158 = true then ((impl_allWithin.f k l0_0 1 100000).bind fun t159 => (if t159 = true then ((impl_within.f a0_1 0 (wrap64 ((l0_0.length : Int) - 1))).bind fun t160 => (if t160 = true then ((impl_within.f a0_3 1 100000).bind fun t161 => (if t161 = true then ((impl_within.f a0_2 0 a0_3).bind fun t162 => (if t162 = true then ((impl_within.f a0_4 0 100000).bind fun t163 => (if t163 = true then ((impl_within.f a0_5 0 2).bind fun t164 => (some t164)) else (some false))) else (some false))) else (some false))) else (some false))) else (some false))) else (some false))
theorem impl_IsTable.mono : ∀ a0 a1 a2 a3 a4 a5 k, LeO (impl_IsTable.f k a0 a1 a2 a3 a4 a5) (impl_IsTable.f (k + 1) a0 a1 a2 a3 a4 a5) := by
 intro a0 a1 a2 a3 a4 a5 k
 unfold impl_IsTable.f
 repeat' first
   | (with_reducible exact impl_allWithin.mono _ _ _ _)
   | (with_reducible exact LeO.refl _)
   | (with_reducible exact LeO.none _)
   | (with_reducible refine LeO.ite ?_ ?_)
   | (with_reducible refine LeO.bind ?_ (fun _ => ?_))
   | exact impl_allWithin.mono _ _ _ _
   | exact LeO.none _
   | refine LeO.ite ?_ ?_
   | refine LeO.bind ?_ (fun _ => ?_)
set_option maxHeartbeats 8000000 in
set_option maxRecDepth 100000 in
theorem impl_IsTable.calls (k : Nat) (A0_0 : Option Addr) (c0_0 : Nat) (l0_0 : List Int) (a0_1 : Int) (a0_2 : Int) (a0_3 : Int) (a0_4 : Int) (a0_5 : Int) (r : Bool) (w : World) (hr0_0 : Kd.C (Kd.int .i64) w A0_0 l0_0.length l0_0) (hc0_0 : l0_0.length ≤ c0_0) (h : impl_IsTable.f k l0_0 a0_1 a0_2 a0_3 a0_4 a0_5 = some r) :
  Calls Try.prog 17 #[.agg #[.slice A0_0 l0_0.length c0_0, .int .i64 a0_1, .int .i64 a0_2, .int .i64 a0_3, .int .i64 a0_4, .int .i64 a0_5]] w fun e w' => e = .returned (.bool r) ∧ Below w.heap.size w w' := by
 have hu27 := Try.underlying27
 have HR0_0 := Aside0.mk hr0_0
 have HC0_0 := Aside0.mk hc0_0
 clear hr0_0 hc0_0
 have HB := Aside0.mk (Below.refl w.heap.size w)
 have H : ((impl_within.f (l0_0.length : Int) 2 6).bind fun t158 => (if t158 = true then ((impl_allWithin.f k l0_0 1 100000).bind fun t159 => (if t159 = true then ((impl_within.f a0_1 0 (wrap64 ((l0_0.length : Int) - 1))).bind fun t160 => (if t160 = true then ((impl_within.f a0_3 1 100000).bind fun t161 => (if t161 = true then ((impl_within.f a0_2 0 a0_3).bind fun t162 => (if t162 = true then ((impl_within.f a0_4 0 100000).bind fun t163 => (if t163 = true then ((impl_within.f a0_5 0 2).bind fun t164 => (some t164)) else (some false))) else (some false))) else (some false))) else (some false))) else (some false))) else (some false))) = some r := h
 clear h
 obtain ⟨t158, A20, H⟩ := Option.bind_eq_some_iff.mp H
 try dsimp only at H
 have A2 := Aside0.mk A20
 clear A20
 by_cases c3 : t158 = true
 ·subst c3
  rw [if_pos rfl] at H
  try dsimp only at H
  obtain ⟨t159, A40, H⟩ := Option.bind_eq_some_iff.mp H
  try dsimp only at H
  have A4 := Aside0.mk A40
  clear A40
  by_cases c5 : t159 = true
  ·subst c5
   rw [if_pos rfl] at H
   try dsimp only at H
   obtain ⟨t160, A60, H⟩ := Option.bind_eq_some_iff.mp H
   try dsimp only at H
   have A6 := Aside0.mk A60
   clear A60
   by_cases c7 : t160 = true
   ·subst c7
    rw [if_pos rfl] at H
    try dsimp only at H
    obtain ⟨t161, A80, H⟩ := Option.bind_eq_some_iff.mp H
    try dsimp only at H
    have A8 := Aside0.mk A80
    clear A80
    by_cases c9 : t161 = true
    ·subst c9
     rw [if_pos rfl] at H
     try dsimp only at H
     obtain ⟨t162, A100, H⟩ := Option.bind_eq_some_iff.mp H
     try dsimp only at H
     have A10 := Aside0.mk A100
     clear A100
     by_cases c11 : t162 = true
     ·subst c11
      rw [if_pos rfl] at H
      try dsimp only at H
      obtain ⟨t163, A120, H⟩ := Option.bind_eq_some_iff.mp H
      try dsimp only at H
      have A12 := Aside0.mk A120
      clear A120
      by_cases c13 : t163 = true
      ·subst c13
       rw [if_pos rfl] at H
       try dsimp only at H
       obtain ⟨t164, A140, H⟩ := Option.bind_eq_some_iff.mp H
       try dsimp only at H
       have A14 := Aside0.mk A140
       clear A140
       obtain rfl := Option.some.inj H
       go_enter Try.func17, Try.ntmps17
       go_wp2_with (first | ((with_reducible refine gate_dst (N := 1) rfl ?_); (try (refine gate_guard (by rfl) ?_; dsimp only)); refine bE 1 #[.slice A0_0 l0_0.length c0_0, .int .i64 a0_1, .int .i64 a0_2, .int .i64 a0_3, .int .i64 a0_4, .int .i64 a0_5] 27 ?_; intro gb157 hg w15 hbox hb; have BK157 := Aside0.mk (hbox); have GW157 := Aside0.mk (gE hg (bA HB.out)); have GE157 := Aside0.mk (gE hg (bA HB.out)); replace HB := Aside0.mk (below_step (bA HB.out) hb); clear hb hbox hg; obtain ⟨hcz16_0, hcz16_1, hcz16_2, hcz16_3, hcz16_4, hcz16_5, hfz16_0, hfz16_1, hfz16_2, hfz16_3, hfz16_4, hfz16_5⟩ := cz6 BK157.out) | ((with_reducible refine gate_callee (f := 50) rfl ?_); refine gL (some 6) Try.func50 #[.int .i64 (l0_0.length : Int), .int .i64 2, .int .i64 6] ?_; (with_reducible refine (impl_within.calls (l0_0.length : Int) 2 6 true _ A2.out).mono ?_); rintro e w' ⟨rfl, ⟨nd, rfl⟩⟩; refine ⟨_, rfl, ?_⟩) | (go_at_call 51; (with_reducible refine (impl_allWithin.calls k _ _ l0_0 1 100000 true _ ?side1 ?side2 A4.out).mono ?_); (case side1 => exact cA (Kd.C_below HR0_0.out (bA HB.out))); (case side2 => exact HC0_0.out); rintro e w' ⟨rfl, ⟨nd, rfl⟩⟩) | (go_at_call 50; (with_reducible refine (impl_within.calls a0_1 0 (wrap64 ((l0_0.length : Int) - 1)) true _ A6.out).mono ?_); rintro e w' ⟨rfl, ⟨nd, rfl⟩⟩) | (go_at_call 50; (with_reducible refine (impl_within.calls a0_3 1 100000 true _ A8.out).mono ?_); rintro e w' ⟨rfl, ⟨nd, rfl⟩⟩) | (go_at_call 50; (with_reducible refine (impl_within.calls a0_2 0 a0_3 true _ A10.out).mono ?_); rintro e w' ⟨rfl, ⟨nd, rfl⟩⟩) | (go_at_call 50; (with_reducible refine (impl_within.calls a0_4 0 100000 true _ A12.out).mono ?_); rintro e w' ⟨rfl, ⟨nd, rfl⟩⟩) | (go_at_call 50; (with_reducible refine (impl_within.calls a0_5 0 2 t164 _ A14.out).mono ?_); rintro e w' ⟨rfl, ⟨nd, rfl⟩⟩))
       go_ret
       exact ⟨by first | rfl | (simp [errW_none, errW_some] <;> rfl) | (simp [*, errW_none, errW_some] <;> rfl), bA HB.out⟩
      ·replace c13 := Bool.eq_false_iff.mpr c13
       subst c13
       rw [if_neg (show ¬ (false = true) by decide)] at H
       try dsimp only at H
       obtain rfl := Option.some.inj H
       go_enter Try.func17, Try.ntmps17
       go_wp2_with (first | ((with_reducible refine gate_dst (N := 1) rfl ?_); (try (refine gate_guard (by rfl) ?_; dsimp only)); refine bE 1 #[.slice A0_0 l0_0.length c0_0, .int .i64 a0_1, .int .i64 a0_2, .int .i64 a0_3, .int .i64 a0_4, .int .i64 a0_5] 27 ?_; intro gb157 hg w17 hbox hb; have BK157 := Aside0.mk (hbox); have GW157 := Aside0.mk (gE hg (bA HB.out)); have GE157 := Aside0.mk (gE hg (bA HB.out)); replace HB := Aside0.mk (below_step (bA HB.out) hb); clear hb hbox hg; obtain ⟨hcz18_0, hcz18_1, hcz18_2, hcz18_3, hcz18_4, hcz18_5, hfz18_0, hfz18_1, hfz18_2, hfz18_3, hfz18_4, hfz18_5⟩ := cz6 BK157.out) | ((with_reducible refine gate_callee (f := 50) rfl ?_); refine gL (some 6) Try.func50 #[.int .i64 (l0_0.length : Int), .int .i64 2, .int .i64 6] ?_; (with_reducible refine (impl_within.calls (l0_0.length : Int) 2 6 true _ A2.out).mono ?_); rintro e w' ⟨rfl, ⟨nd, rfl⟩⟩; refine ⟨_, rfl, ?_⟩) | (go_at_call 51; (with_reducible refine (impl_allWithin.calls k _ _ l0_0 1 100000 true _ ?side1 ?side2 A4.out).mono ?_); (case side1 => exact cA (Kd.C_below HR0_0.out (bA HB.out))); (case side2 => exact HC0_0.out); rintro e w' ⟨rfl, ⟨nd, rfl⟩⟩) | (go_at_call 50; (with_reducible refine (impl_within.calls a0_1 0 (wrap64 ((l0_0.length : Int) - 1)) true _ A6.out).mono ?_); rintro e w' ⟨rfl, ⟨nd, rfl⟩⟩) | (go_at_call 50; (with_reducible refine (impl_within.calls a0_3 1 100000 true _ A8.out).mono ?_); rintro e w' ⟨rfl, ⟨nd, rfl⟩⟩) | (go_at_call 50; (with_reducible refine (impl_within.calls a0_2 0 a0_3 true _ A10.out).mono ?_); rintro e w' ⟨rfl, ⟨nd, rfl⟩⟩) | (go_at_call 50; (with_reducible refine (impl_within.calls a0_4 0 100000 false _ A12.out).mono ?_); rintro e w' ⟨rfl, ⟨nd, rfl⟩⟩))
       go_ret
       exact ⟨by first | rfl | (simp [errW_none, errW_some] <;> rfl) | (simp [*, errW_none, errW_some] <;> rfl), bA HB.out⟩
     ·replace c11 := Bool.eq_false_iff.mpr c11
      subst c11
      rw [if_neg (show ¬ (false = true) by decide)] at H
      try dsimp only at H
      obtain rfl := Option.some.inj H
      go_enter Try.func17, Try.ntmps17
      go_wp2_with (first | ((with_reducible refine gate_dst (N := 1) rfl ?_); (try (refine gate_guard (by rfl) ?_; dsimp only)); refine bE 1 #[.slice A0_0 l0_0.length c0_0, .int .i64 a0_1, .int .i64 a0_2, .int .i64 a0_3, .int .i64 a0_4, .int .i64 a0_5] 27 ?_; intro gb157 hg w19 hbox hb; have BK157 := Aside0.mk (hbox); have GW157 := Aside0.mk (gE hg (bA HB.out)); have GE157 := Aside0.mk (gE hg (bA HB.out)); replace HB := Aside0.mk (below_step (bA HB.out) hb); clear hb hbox hg; obtain ⟨hcz20_0, hcz20_1, hcz20_2, hcz20_3, hcz20_4, hcz20_5, hfz20_0, hfz20_1, hfz20_2, hfz20_3, hfz20_4, hfz20_5⟩ := cz6 BK157.out) | ((with_reducible refine gate_callee (f := 50) rfl ?_); refine gL (some 6) Try.func50 #[.int .i64 (l0_0.length : Int), .int .i64 2, .int .i64 6] ?_; (with_reducible refine (impl_within.calls (l0_0.length : Int) 2 6 true _ A2.out).mono ?_); rintro e w' ⟨rfl, ⟨nd, rfl⟩⟩; refine ⟨_, rfl, ?_⟩) | (go_at_call 51; (with_reducible refine (impl_allWithin.calls k _ _ l0_0 1 100000 true _ ?side1 ?side2 A4.out).mono ?_); (case side1 => exact cA (Kd.C_below HR0_0.out (bA HB.out))); (case side2 => exact HC0_0.out); rintro e w' ⟨rfl, ⟨nd, rfl⟩⟩) | (go_at_call 50; (with_reducible refine (impl_within.calls a0_1 0 (wrap64 ((l0_0.length : Int) - 1)) true _ A6.out).mono ?_); rintro e w' ⟨rfl, ⟨nd, rfl⟩⟩) | (go_at_call 50; (with_reducible refine (impl_within.calls a0_3 1 100000 true _ A8.out).mono ?_); rintro e w' ⟨rfl, ⟨nd, rfl⟩⟩) | (go_at_call 50; (with_reducible refine (impl_within.calls a0_2 0 a0_3 false _ A10.out).mono ?_); rintro e w' ⟨rfl, ⟨nd, rfl⟩⟩))
      go_ret
      exact ⟨by first | rfl | (simp [errW_none, errW_some] <;> rfl) | (simp [*, errW_none, errW_some] <;> rfl), bA HB.out⟩
    ·replace c9 := Bool.eq_false_iff.mpr c9
     subst c9
     rw [if_neg (show ¬ (false = true) by decide)] at H
     try dsimp only at H
     obtain rfl := Option.some.inj H
     go_enter Try.func17, Try.ntmps17
     go_wp2_with (first | ((with_reducible refine gate_dst (N := 1) rfl ?_); (try (refine gate_guard (by rfl) ?_; dsimp only)); refine bE 1 #[.slice A0_0 l0_0.length c0_0, .int .i64 a0_1, .int .i64 a0_2, .int .i64 a0_3, .int .i64 a0_4, .int .i64 a0_5] 27 ?_; intro gb157 hg w21 hbox hb; have BK157 := Aside0.mk (hbox); have GW157 := Aside0.mk (gE hg (bA HB.out)); have GE157 := Aside0.mk (gE hg (bA HB.out)); replace HB := Aside0.mk (below_step (bA HB.out) hb); clear hb hbox hg; obtain ⟨hcz22_0, hcz22_1, hcz22_2, hcz22_3, hcz22_4, hcz22_5, hfz22_0, hfz22_1, hfz22_2, hfz22_3, hfz22_4, hfz22_5⟩ := cz6 BK157.out) | ((with_reducible refine gate_callee (f := 50) rfl ?_); refine gL (some 6) Try.func50 #[.int .i64 (l0_0.length : Int), .int .i64 2, .int .i64 6] ?_; (with_reducible refine (impl_within.calls (l0_0.length : Int) 2 6 true _ A2.out).mono ?_); rintro e w' ⟨rfl, ⟨nd, rfl⟩⟩; refine ⟨_, rfl, ?_⟩) | (go_at_call 51; (with_reducible refine (impl_allWithin.calls k _ _ l0_0 1 100000 true _ ?side1 ?side2 A4.out).mono ?_); (case side1 => exact cA (Kd.C_below HR0_0.out (bA HB.out))); (case side2 => exact HC0_0.out); rintro e w' ⟨rfl, ⟨nd, rfl⟩⟩) | (go_at_call 50; (with_reducible refine (impl_within.calls a0_1 0 (wrap64 ((l0_0.length : Int) - 1)) true _ A6.out).mono ?_); rintro e w' ⟨rfl, ⟨nd, rfl⟩⟩) | (go_at_call 50; (with_reducible refine (impl_within.calls a0_3 1 100000 false _ A8.out).mono ?_); rintro e w' ⟨rfl, ⟨nd, rfl⟩⟩))
     go_ret
     exact ⟨by first | rfl | (simp [errW_none, errW_some] <;> rfl) | (simp [*, errW_none, errW_some] <;> rfl), bA HB.out⟩
   ·replace c7 := Bool.eq_false_iff.mpr c7
    subst c7
    rw [if_neg (show ¬ (false = true) by decide)] at H
    try dsimp only at H
    obtain rfl := Option.some.inj H
    go_enter Try.func17, Try.ntmps17
    go_wp2_with (first | ((with_reducible refine gate_dst (N := 1) rfl ?_); (try (refine gate_guard (by rfl) ?_; dsimp only)); refine bE 1 #[.slice A0_0 l0_0.length c0_0, .int .i64 a0_1, .int .i64 a0_2, .int .i64 a0_3, .int .i64 a0_4, .int .i64 a0_5] 27 ?_; intro gb157 hg w23 hbox hb; have BK157 := Aside0.mk (hbox); have GW157 := Aside0.mk (gE hg (bA HB.out)); have GE157 := Aside0.mk (gE hg (bA HB.out)); replace HB := Aside0.mk (below_step (bA HB.out) hb); clear hb hbox hg; obtain ⟨hcz24_0, hcz24_1, hcz24_2, hcz24_3, hcz24_4, hcz24_5, hfz24_0, hfz24_1, hfz24_2, hfz24_3, hfz24_4, hfz24_5⟩ := cz6 BK157.out) | ((with_reducible refine gate_callee (f := 50) rfl ?_); refine gL (some 6) Try.func50 #[.int .i64 (l0_0.length : Int), .int .i64 2, .int .i64 6] ?_; (with_reducible refine (impl_within.calls (l0_0.length : Int) 2 6 true _ A2.out).mono ?_); rintro e w' ⟨rfl, ⟨nd, rfl⟩⟩; refine ⟨_, rfl, ?_⟩) | (go_at_call 51; (with_reducible refine (impl_allWithin.calls k _ _ l0_0 1 100000 true _ ?side1 ?side2 A4.out).mono ?_); (case side1 => exact cA (Kd.C_below HR0_0.out (bA HB.out))); (case side2 => exact HC0_0.out); rintro e w' ⟨rfl, ⟨nd, rfl⟩⟩) | (go_at_call 50; (with_reducible refine (impl_within.calls a0_1 0 (wrap64 ((l0_0.length : Int) - 1)) false _ A6.out).mono ?_); rintro e w' ⟨rfl, ⟨nd, rfl⟩⟩))
    go_ret
    exact ⟨by first | rfl | (simp [errW_none, errW_some] <;> rfl) | (simp [*, errW_none, errW_some] <;> rfl), bA HB.out⟩
  ·replace c5 := Bool.eq_false_iff.mpr c5
   subst c5
   rw [if_neg (show ¬ (false = true) by decide)] at H
   try dsimp only at H
   obtain rfl := Option.some.inj H
   go_enter Try.func17, Try.ntmps17
   go_wp2_with (first | ((with_reducible refine gate_dst (N := 1) rfl ?_); (try (refine gate_guard (by rfl) ?_; dsimp only)); refine bE 1 #[.slice A0_0 l0_0.length c0_0, .int .i64 a0_1, .int .i64 a0_2, .int .i64 a0_3, .int .i64 a0_4, .int .i64 a0_5] 27 ?_; intro gb157 hg w25 hbox hb; have BK157 := Aside0.mk (hbox); have GW157 := Aside0.mk (gE hg (bA HB.out)); have GE157 := Aside0.mk (gE hg (bA HB.out)); replace HB := Aside0.mk (below_step (bA HB.out) hb); clear hb hbox hg; obtain ⟨hcz26_0, hcz26_1, hcz26_2, hcz26_3, hcz26_4, hcz26_5, hfz26_0, hfz26_1, hfz26_2, hfz26_3, hfz26_4, hfz26_5⟩ := cz6 BK157.out) | ((with_reducible refine gate_callee (f := 50) rfl ?_); refine gL (some 6) Try.func50 #[.int .i64 (l0_0.length : Int), .int .i64 2, .int .i64 6] ?_; (with_reducible refine (impl_within.calls (l0_0.length : Int) 2 6 true _ A2.out).mono ?_); rintro e w' ⟨rfl, ⟨nd, rfl⟩⟩; refine ⟨_, rfl, ?_⟩) | (go_at_call 51; (with_reducible refine (impl_allWithin.calls k _ _ l0_0 1 100000 false _ ?side1 ?side2 A4.out).mono ?_); (case side1 => exact cA (Kd.C_below HR0_0.out (bA HB.out))); (case side2 => exact HC0_0.out); rintro e w' ⟨rfl, ⟨nd, rfl⟩⟩))
   go_ret
   exact ⟨by first | rfl | (simp [errW_none, errW_some] <;> rfl) | (simp [*, errW_none, errW_some] <;> rfl), bA HB.out⟩
 ·replace c3 := Bool.eq_false_iff.mpr c3
  subst c3
  rw [if_neg (show ¬ (false = true) by decide)] at H
  try dsimp only at H
  obtain rfl := Option.some.inj H
  go_enter Try.func17, Try.ntmps17
  go_wp2_with (first | ((with_reducible refine gate_dst (N := 1) rfl ?_); (try (refine gate_guard (by rfl) ?_; dsimp only)); refine bE 1 #[.slice A0_0 l0_0.length c0_0, .int .i64 a0_1, .int .i64 a0_2, .int .i64 a0_3, .int .i64 a0_4, .int .i64 a0_5] 27 ?_; intro gb157 hg w27 hbox hb; have BK157 := Aside0.mk (hbox); have GW157 := Aside0.mk (gE hg (bA HB.out)); have GE157 := Aside0.mk (gE hg (bA HB.out)); replace HB := Aside0.mk (below_step (bA HB.out) hb); clear hb hbox hg; obtain ⟨hcz28_0, hcz28_1, hcz28_2, hcz28_3, hcz28_4, hcz28_5, hfz28_0, hfz28_1, hfz28_2, hfz28_3, hfz28_4, hfz28_5⟩ := cz6 BK157.out) | ((with_reducible refine gate_callee (f := 50) rfl ?_); refine gL (some 6) Try.func50 #[.int .i64 (l0_0.length : Int), .int .i64 2, .int .i64 6] ?_; (with_reducible refine (impl_within.calls (l0_0.length : Int) 2 6 false _ A2.out).mono ?_); rintro e w' ⟨rfl, ⟨nd, rfl⟩⟩; refine ⟨_, rfl, ?_⟩))
  go_ret
  exact ⟨by first | rfl | (simp [errW_none, errW_some] <;> rfl) | (simp [*, errW_none, errW_some] <;> rfl), bA HB.out⟩
def impl_leftOf.f (a0 : Int) (a1 : Int) : Option (Int) := if a1 = 0 then (none) else (some (Int.tmod (wrap64 (a0 + 1)) a1))
set_option maxHeartbeats 8000000 in
set_option maxRecDepth 100000 in
theorem impl_leftOf.calls (a0 : Int) (a1 : Int) (r : Int) (w : World) (h : impl_leftOf.f a0 a1 = some r) :
  Calls Try.prog 64 #[.int .i64 a0, .int .i64 a1] w fun e w' => e = .returned (.int .i64 r) ∧ Drawn0 w w' := by
 have H : (if a1 = 0 then (none) else (some (Int.tmod (wrap64 (a0 + 1)) a1))) = some r := h
 clear h
 by_cases c3 : a1 = 0
 ·rw [if_pos c3] at H
  exact absurd H (by simp)
 rw [if_neg c3] at H
 have c3b0 : (a1 == 0) = false := beq_eq_false_iff_ne.mpr c3
 have c3b1 : (a1 != 0) = true := bne_iff_ne.mpr c3
 obtain rfl := Option.some.inj H
 go_enter Try.func64, Try.ntmps64
 go_wp2
 go_ret
 exact ⟨by first | rfl | (simp; done) | (simp [*]; done), by repeat (first | exact Drawn0.refl _ | apply Drawn0.step)⟩
end Go.Proofs.Ytdagljakajpdjaa.QFnExactNextTable
