import Derived.Test.YtmcobmphmmgdmaaZFnExactIsLegalx0
import Derived.Test.YtmcobmphmmgdmaaZFnExactIsLegalx7
import Derived.Test.YtmcobmphmmgdmaaZFnExactIsLegalx11
import Derived.Test.YtmcobmphmmgdmaaZFnExactIsLegalx12
namespace Go.Proofs.Ytmcobmphmmgdmaa.QFnExactIsLegal
open Go.RowKit Go.Proofs.YtmcobmphmmgdmaaW.PrintWords Go.Proofs.YtmcobmphmmgdmaaW.PrintLast Go.Proofs.YtmcobmphmmgdmaaW.PrintMore
attribute [local go_sem] max2_int min2_int max_two min_two max_three min_three max_four min_four
set_option linter.unusedVariables false
set_option linter.unusedSimpArgs false
def impl_isLegal.f (a0_0 : Bool) (a0_1 : Int) (a0_2 : Int) (a0_3 : Int) (a1_0 : Int) (a1_1 : Int) : Option (Bool) := if a1_0 = 0 then (some (a1_1 == 0)) else (if a1_0 = 1 then (if a0_0 = true then (some (a1_1 == 0)) else (some false)) else (if a1_0 = 2 then (if a0_1 > 0 then (some (a1_1 == 0)) else (some false)) else (if a1_0 = 3 then (if a0_3 > 0 then ((impl_within.f a1_1 a0_2 a0_3).bind fun t252 => (some t252)) else (some false)) else (some false))))
set_option maxHeartbeats 8000000 in
set_option maxRecDepth 100000 in
theorem impl_isLegal.calls (a0_0 : Bool) (a0_1 : Int) (a0_2 : Int) (a0_3 : Int) (a1_0 : Int) (a1_1 : Int) (r : Bool) (w : World) (h : impl_isLegal.f a0_0 a0_1 a0_2 a0_3 a1_0 a1_1 = some r) :
  Calls Try.prog 83 #[.agg #[.bool a0_0, .int .i64 a0_1, .int .i64 a0_2, .int .i64 a0_3], .agg #[.int .i64 a1_0, .int .i64 a1_1]] w fun e w' => e = .returned (.bool r) ∧ Below w.heap.size w w' := by
 have hu40 := Try.underlying40
 have hu47 := Try.underlying47
 have HB := Aside0.mk (Below.refl w.heap.size w)
 have H : (if a1_0 = 0 then (some (a1_1 == 0)) else (if a1_0 = 1 then (if a0_0 = true then (some (a1_1 == 0)) else (some false)) else (if a1_0 = 2 then (if a0_1 > 0 then (some (a1_1 == 0)) else (some false)) else (if a1_0 = 3 then (if a0_3 > 0 then ((impl_within.f a1_1 a0_2 a0_3).bind fun t252 => (some t252)) else (some false)) else (some false))))) = some r := h
 clear h
 by_cases c3 : a1_0 = 0
 ·rw [if_pos c3] at H
  have c3b0 : (a1_0 == 0) = true := beq_iff_eq.mpr c3
  have c3b1 : (a1_0 != 0) = false := bne_eq_false_iff_eq.mpr c3
  clear c3
  obtain rfl := Option.some.inj H
  go_enter Try.func83, Try.ntmps83
  go_wp2_with (first | ((with_reducible refine gate_dst (N := 2) rfl ?_); refine bE 2 #[.bool a0_0, .int .i64 a0_1, .int .i64 a0_2, .int .i64 a0_3] 40 ?_; intro gb250 hg w4 hbox hb; have BK250 := Aside0.mk (hbox); have GW250 := Aside0.mk (gE hg (bA HB.out)); have GE250 := Aside0.mk (gE hg (bA HB.out)); replace HB := Aside0.mk (below_step (bA HB.out) hb); clear hb hbox hg) | ((with_reducible refine gate_dst (N := 3) rfl ?_); refine bE 3 #[.int .i64 a1_0, .int .i64 a1_1] 47 ?_; intro gb251 hg w5 hbox hb; have BK251 := Aside0.mk (hbox); have GW251 := Aside0.mk (gE hg (bA HB.out)); have GE251 := Aside0.mk (gE hg (bA HB.out)); replace HB := Aside0.mk (below_step (bA HB.out) hb); have NB250_251 := Aside0.mk ((by rw [hg]; exact Nat.ne_of_lt (blk_lt (kA BK250.out)) : gb250 ≠ gb251)); have NB251_250 := Aside0.mk ((by rw [hg]; exact Nat.ne_of_gt (blk_lt (kA BK250.out)) : gb251 ≠ gb250)); replace BK250 := Aside0.mk (blk_below (kA BK250.out) hb); clear hb hbox hg; have hnb6 := NB251_250.out; have hnc6 := NB250_251.out; obtain ⟨hcz7_0, hcz7_1, hfz7_0, hfz7_1⟩ := cz2 BK251.out))
  go_ret
  exact ⟨by first | rfl | (simp [errW_none, errW_some] <;> rfl) | (simp [*, errW_none, errW_some] <;> rfl), bA HB.out⟩
 ·rw [if_neg c3] at H
  have c3b0 : (a1_0 == 0) = false := beq_eq_false_iff_ne.mpr c3
  have c3b1 : (a1_0 != 0) = true := bne_iff_ne.mpr c3
  by_cases c8 : a1_0 = 1
  ·rw [if_pos c8] at H
   have c8b0 : (a1_0 == 1) = true := beq_iff_eq.mpr c8
   have c8b1 : (a1_0 != 1) = false := bne_eq_false_iff_eq.mpr c8
   clear c8
   by_cases c9 : a0_0 = true
   ·subst c9
    rw [if_pos rfl] at H
    try dsimp only at H
    obtain rfl := Option.some.inj H
    go_enter Try.func83, Try.ntmps83
    go_wp2_with (first | ((with_reducible refine gate_dst (N := 2) rfl ?_); refine bE 2 #[.bool true, .int .i64 a0_1, .int .i64 a0_2, .int .i64 a0_3] 40 ?_; intro gb250 hg w10 hbox hb; have BK250 := Aside0.mk (hbox); have GW250 := Aside0.mk (gE hg (bA HB.out)); have GE250 := Aside0.mk (gE hg (bA HB.out)); replace HB := Aside0.mk (below_step (bA HB.out) hb); clear hb hbox hg) | ((with_reducible refine gate_dst (N := 3) rfl ?_); refine bE 3 #[.int .i64 a1_0, .int .i64 a1_1] 47 ?_; intro gb251 hg w11 hbox hb; have BK251 := Aside0.mk (hbox); have GW251 := Aside0.mk (gE hg (bA HB.out)); have GE251 := Aside0.mk (gE hg (bA HB.out)); replace HB := Aside0.mk (below_step (bA HB.out) hb); have NB250_251 := Aside0.mk ((by rw [hg]; exact Nat.ne_of_lt (blk_lt (kA BK250.out)) : gb250 ≠ gb251)); have NB251_250 := Aside0.mk ((by rw [hg]; exact Nat.ne_of_gt (blk_lt (kA BK250.out)) : gb251 ≠ gb250)); replace BK250 := Aside0.mk (blk_below (kA BK250.out) hb); clear hb hbox hg; have hnb12 := NB251_250.out; have hnc12 := NB250_251.out; obtain ⟨hcz13_0, hcz13_1, hfz13_0, hfz13_1⟩ := cz2 BK251.out; obtain ⟨hcz14_0, hcz14_1, hcz14_2, hcz14_3, hfz14_0, hfz14_1, hfz14_2, hfz14_3⟩ := cz4 BK250.out))
    go_ret
    exact ⟨by first | rfl | (simp [errW_none, errW_some] <;> rfl) | (simp [*, errW_none, errW_some] <;> rfl), bA HB.out⟩
   ·replace c9 := Bool.eq_false_iff.mpr c9
    subst c9
    rw [if_neg (show ¬ (false = true) by decide)] at H
    try dsimp only at H
    obtain rfl := Option.some.inj H
    go_enter Try.func83, Try.ntmps83
    go_wp2_with (first | ((with_reducible refine gate_dst (N := 2) rfl ?_); refine bE 2 #[.bool false, .int .i64 a0_1, .int .i64 a0_2, .int .i64 a0_3] 40 ?_; intro gb250 hg w15 hbox hb; have BK250 := Aside0.mk (hbox); have GW250 := Aside0.mk (gE hg (bA HB.out)); have GE250 := Aside0.mk (gE hg (bA HB.out)); replace HB := Aside0.mk (below_step (bA HB.out) hb); clear hb hbox hg) | ((with_reducible refine gate_dst (N := 3) rfl ?_); refine bE 3 #[.int .i64 a1_0, .int .i64 a1_1] 47 ?_; intro gb251 hg w16 hbox hb; have BK251 := Aside0.mk (hbox); have GW251 := Aside0.mk (gE hg (bA HB.out)); have GE251 := Aside0.mk (gE hg (bA HB.out)); replace HB := Aside0.mk (below_step (bA HB.out) hb); have NB250_251 := Aside0.mk ((by rw [hg]; exact Nat.ne_of_lt (blk_lt (kA BK250.out)) : gb250 ≠ gb251)); have NB251_250 := Aside0.mk ((by rw [hg]; exact Nat.ne_of_gt (blk_lt (kA BK250.out)) : gb251 ≠ gb250)); replace BK250 := Aside0.mk (blk_below (kA BK250.out) hb); clear hb hbox hg; have hnb17 := NB251_250.out; have hnc17 := NB250_251.out; obtain ⟨hcz18_0, hcz18_1, hfz18_0, hfz18_1⟩ := cz2 BK251.out; obtain ⟨hcz19_0, hcz19_1, hcz19_2, hcz19_3, hfz19_0, hfz19_1, hfz19_2, hfz19_3⟩ := cz4 BK250.out))
    go_ret
    exact ⟨by first | rfl | (simp [errW_none, errW_some] <;> rfl) | (simp [*, errW_none, errW_some] <;> rfl), bA HB.out⟩
  ·rw [if_neg c8] at H
   have c8b0 : (a1_0 == 1) = false := beq_eq_false_iff_ne.mpr c8
   have c8b1 : (a1_0 != 1) = true := bne_iff_ne.mpr c8
   by_cases c20 : a1_0 = 2
   ·rw [if_pos c20] at H
    have c20b0 : (a1_0 == 2) = true := beq_iff_eq.mpr c20
    have c20b1 : (a1_0 != 2) = false := bne_eq_false_iff_eq.mpr c20
    clear c20
    by_cases c21 : a0_1 > 0
    ·rw [if_pos c21] at H
     have c21b0 : decide (0 < a0_1) = true := decide_eq_true c21
     clear c21
     obtain rfl := Option.some.inj H
     go_enter Try.func83, Try.ntmps83
     go_wp2_with (first | ((with_reducible refine gate_dst (N := 2) rfl ?_); refine bE 2 #[.bool a0_0, .int .i64 a0_1, .int .i64 a0_2, .int .i64 a0_3] 40 ?_; intro gb250 hg w22 hbox hb; have BK250 := Aside0.mk (hbox); have GW250 := Aside0.mk (gE hg (bA HB.out)); have GE250 := Aside0.mk (gE hg (bA HB.out)); replace HB := Aside0.mk (below_step (bA HB.out) hb); clear hb hbox hg) | ((with_reducible refine gate_dst (N := 3) rfl ?_); refine bE 3 #[.int .i64 a1_0, .int .i64 a1_1] 47 ?_; intro gb251 hg w23 hbox hb; have BK251 := Aside0.mk (hbox); have GW251 := Aside0.mk (gE hg (bA HB.out)); have GE251 := Aside0.mk (gE hg (bA HB.out)); replace HB := Aside0.mk (below_step (bA HB.out) hb); have NB250_251 := Aside0.mk ((by rw [hg]; exact Nat.ne_of_lt (blk_lt (kA BK250.out)) : gb250 ≠ gb251)); have NB251_250 := Aside0.mk ((by rw [hg]; exact Nat.ne_of_gt (blk_lt (kA BK250.out)) : gb251 ≠ gb250)); replace BK250 := Aside0.mk (blk_below (kA BK250.out) hb); clear hb hbox hg; have hnb24 := NB251_250.out; have hnc24 := NB250_251.out; obtain ⟨hcz25_0, hcz25_1, hfz25_0, hfz25_1⟩ := cz2 BK251.out; obtain ⟨hcz26_0, hcz26_1, hcz26_2, hcz26_3, hfz26_0, hfz26_1, hfz26_2, hfz26_3⟩ := cz4 BK250.out))
     go_ret
     exact ⟨by first | rfl | (simp [errW_none, errW_some] <;> rfl) | (simp [*, errW_none, errW_some] <;> rfl), bA HB.out⟩
    ·rw [if_neg c21] at H
     have c21b0 : decide (0 < a0_1) = false := decide_eq_false c21
     clear c21
     obtain rfl := Option.some.inj H
     go_enter Try.func83, Try.ntmps83
     go_wp2_with (first | ((with_reducible refine gate_dst (N := 2) rfl ?_); refine bE 2 #[.bool a0_0, .int .i64 a0_1, .int .i64 a0_2, .int .i64 a0_3] 40 ?_; intro gb250 hg w27 hbox hb; have BK250 := Aside0.mk (hbox); have GW250 := Aside0.mk (gE hg (bA HB.out)); have GE250 := Aside0.mk (gE hg (bA HB.out)); replace HB := Aside0.mk (below_step (bA HB.out) hb); clear hb hbox hg) | ((with_reducible refine gate_dst (N := 3) rfl ?_); refine bE 3 #[.int .i64 a1_0, .int .i64 a1_1] 47 ?_; intro gb251 hg w28 hbox hb; have BK251 := Aside0.mk (hbox); have GW251 := Aside0.mk (gE hg (bA HB.out)); have GE251 := Aside0.mk (gE hg (bA HB.out)); replace HB := Aside0.mk (below_step (bA HB.out) hb); have NB250_251 := Aside0.mk ((by rw [hg]; exact Nat.ne_of_lt (blk_lt (kA BK250.out)) : gb250 ≠ gb251)); have NB251_250 := Aside0.mk ((by rw [hg]; exact Nat.ne_of_gt (blk_lt (kA BK250.out)) : gb251 ≠ gb250)); replace BK250 := Aside0.mk (blk_below (kA BK250.out) hb); clear hb hbox hg; have hnb29 := NB251_250.out; have hnc29 := NB250_251.out; obtain ⟨hcz30_0, hcz30_1, hfz30_0, hfz30_1⟩ := cz2 BK251.out; obtain ⟨hcz31_0, hcz31_1, hcz31_2, hcz31_3, hfz31_0, hfz31_1, hfz31_2, hfz31_3⟩ := cz4 BK250.out))
     go_ret
     exact ⟨by first | rfl | (simp [errW_none, errW_some] <;> rfl) | (simp [*, errW_none, errW_some] <;> rfl), bA HB.out⟩
   ·rw [if_neg c20] at H
    have c20b0 : (a1_0 == 2) = false := beq_eq_false_iff_ne.mpr c20
    have c20b1 : (a1_0 != 2) = true := bne_iff_ne.mpr c20
    by_cases c32 : a1_0 = 3
    ·rw [if_pos c32] at H
     have c32b0 : (a1_0 == 3) = true := beq_iff_eq.mpr c32
     have c32b1 : (a1_0 != 3) = false := bne_eq_false_iff_eq.mpr c32
     clear c32
     by_cases c33 : a0_3 > 0
     ·rw [if_pos c33] at H
      have c33b0 : decide (0 < a0_3) = true := decide_eq_true c33
      clear c33
      obtain ⟨t252, A340, H⟩ := Option.bind_eq_some_iff.mp H
      try dsimp only at H
      have A34 := Aside0.mk A340
      clear A340
      obtain rfl := Option.some.inj H
      go_enter Try.func83, Try.ntmps83
      go_wp2_with (first | ((with_reducible refine gate_dst (N := 2) rfl ?_); refine bE 2 #[.bool a0_0, .int .i64 a0_1, .int .i64 a0_2, .int .i64 a0_3] 40 ?_; intro gb250 hg w35 hbox hb; have BK250 := Aside0.mk (hbox); have GW250 := Aside0.mk (gE hg (bA HB.out)); have GE250 := Aside0.mk (gE hg (bA HB.out)); replace HB := Aside0.mk (below_step (bA HB.out) hb); clear hb hbox hg) | ((with_reducible refine gate_dst (N := 3) rfl ?_); refine bE 3 #[.int .i64 a1_0, .int .i64 a1_1] 47 ?_; intro gb251 hg w36 hbox hb; have BK251 := Aside0.mk (hbox); have GW251 := Aside0.mk (gE hg (bA HB.out)); have GE251 := Aside0.mk (gE hg (bA HB.out)); replace HB := Aside0.mk (below_step (bA HB.out) hb); have NB250_251 := Aside0.mk ((by rw [hg]; exact Nat.ne_of_lt (blk_lt (kA BK250.out)) : gb250 ≠ gb251)); have NB251_250 := Aside0.mk ((by rw [hg]; exact Nat.ne_of_gt (blk_lt (kA BK250.out)) : gb251 ≠ gb250)); replace BK250 := Aside0.mk (blk_below (kA BK250.out) hb); clear hb hbox hg; have hnb37 := NB251_250.out; have hnc37 := NB250_251.out; obtain ⟨hcz38_0, hcz38_1, hfz38_0, hfz38_1⟩ := cz2 BK251.out; obtain ⟨hcz39_0, hcz39_1, hcz39_2, hcz39_3, hfz39_0, hfz39_1, hfz39_2, hfz39_3⟩ := cz4 BK250.out) | (go_at_call 63; (with_reducible refine (impl_within.calls a1_1 a0_2 a0_3 t252 _ A34.out).mono ?_); rintro e w' ⟨rfl, ⟨nd, rfl⟩⟩))
      go_ret
      exact ⟨by first | rfl | (simp [errW_none, errW_some] <;> rfl) | (simp [*, errW_none, errW_some] <;> rfl), bA HB.out⟩
     ·rw [if_neg c33] at H
      have c33b0 : decide (0 < a0_3) = false := decide_eq_false c33
      clear c33
      obtain rfl := Option.some.inj H
      go_enter Try.func83, Try.ntmps83
      go_wp2_with (first | ((with_reducible refine gate_dst (N := 2) rfl ?_); refine bE 2 #[.bool a0_0, .int .i64 a0_1, .int .i64 a0_2, .int .i64 a0_3] 40 ?_; intro gb250 hg w40 hbox hb; have BK250 := Aside0.mk (hbox); have GW250 := Aside0.mk (gE hg (bA HB.out)); have GE250 := Aside0.mk (gE hg (bA HB.out)); replace HB := Aside0.mk (below_step (bA HB.out) hb); clear hb hbox hg) | ((with_reducible refine gate_dst (N := 3) rfl ?_); refine bE 3 #[.int .i64 a1_0, .int .i64 a1_1] 47 ?_; intro gb251 hg w41 hbox hb; have BK251 := Aside0.mk (hbox); have GW251 := Aside0.mk (gE hg (bA HB.out)); have GE251 := Aside0.mk (gE hg (bA HB.out)); replace HB := Aside0.mk (below_step (bA HB.out) hb); have NB250_251 := Aside0.mk ((by rw [hg]; exact Nat.ne_of_lt (blk_lt (kA BK250.out)) : gb250 ≠ gb251)); have NB251_250 := Aside0.mk ((by rw [hg]; exact Nat.ne_of_gt (blk_lt (kA BK250.out)) : gb251 ≠ gb250)); replace BK250 := Aside0.mk (blk_below (kA BK250.out) hb); clear hb hbox hg; have hnb42 := NB251_250.out; have hnc42 := NB250_251.out; obtain ⟨hcz43_0, hcz43_1, hfz43_0, hfz43_1⟩ := cz2 BK251.out; obtain ⟨hcz44_0, hcz44_1, hcz44_2, hcz44_3, hfz44_0, hfz44_1, hfz44_2, hfz44_3⟩ := cz4 BK250.out))
      go_ret
      exact ⟨by first | rfl | (simp [errW_none, errW_some] <;> rfl) | (simp [*, errW_none, errW_some] <;> rfl), bA HB.out⟩
    ·rw [if_neg c32] at H
     have c32b0 : (a1_0 == 3) = false := beq_eq_false_iff_ne.mpr c32
     have c32b1 : (a1_0 != 3) = true := bne_iff_ne.mpr c32
     obtain rfl := Option.some.inj H
     go_enter Try.func83, Try.ntmps83
     go_wp2_with (first | ((with_reducible refine gate_dst (N := 2) rfl ?_); refine bE 2 #[.bool a0_0, .int .i64 a0_1, .int .i64 a0_2, .int .i64 a0_3] 40 ?_; intro gb250 hg w45 hbox hb; have BK250 := Aside0.mk (hbox); have GW250 := Aside0.mk (gE hg (bA HB.out)); have GE250 := Aside0.mk (gE hg (bA HB.out)); replace HB := Aside0.mk (below_step (bA HB.out) hb); clear hb hbox hg) | ((with_reducible refine gate_dst (N := 3) rfl ?_); refine bE 3 #[.int .i64 a1_0, .int .i64 a1_1] 47 ?_; intro gb251 hg w46 hbox hb; have BK251 := Aside0.mk (hbox); have GW251 := Aside0.mk (gE hg (bA HB.out)); have GE251 := Aside0.mk (gE hg (bA HB.out)); replace HB := Aside0.mk (below_step (bA HB.out) hb); have NB250_251 := Aside0.mk ((by rw [hg]; exact Nat.ne_of_lt (blk_lt (kA BK250.out)) : gb250 ≠ gb251)); have NB251_250 := Aside0.mk ((by rw [hg]; exact Nat.ne_of_gt (blk_lt (kA BK250.out)) : gb251 ≠ gb250)); replace BK250 := Aside0.mk (blk_below (kA BK250.out) hb); clear hb hbox hg; have hnb47 := NB251_250.out; have hnc47 := NB250_251.out; obtain ⟨hcz48_0, hcz48_1, hfz48_0, hfz48_1⟩ := cz2 BK251.out))
     go_ret
     exact ⟨by first | rfl | (simp [errW_none, errW_some] <;> rfl) | (simp [*, errW_none, errW_some] <;> rfl), bA HB.out⟩
def impl_IsLegal.f (k : Nat) (l0_0 : List Int) (l0_1 : List Int) (l0_2 : List Int) (l0_3 : List Bool) (l0_4 : List Bool) (a0_5 : Int) (a0_6 : Int) (a0_7 : Int) (a0_8 : Int) (a1_0 : Int) (a1_1 : Int) : Option (Bool) := (impl_IsOpen.f k l0_0 l0_1 l0_2 l0_3 l0_4 a0_5 a0_6 a0_7 a0_8).bind fun t255 => (if t255 = true then ((impl_choicesIn.f k l0_0 l0_1 l0_2 l0_3 l0_4 a0_5 a0_6 a0_7 a0_8).bind fun bt256 => ((impl_isLegal.f bt256.1 bt256.2.1 bt256.2.2.1 bt256.2.2.2 a1_0 a1_1).bind fun t260 => (some t260))) else (some false))
theorem impl_IsLegal.mono : ∀ a0 a1 a2 a3 a4 a5 a6 a7 a8 a9 a10 k, LeO (impl_IsLegal.f k a0 a1 a2 a3 a4 a5 a6 a7 a8 a9 a10) (impl_IsLegal.f (k + 1) a0 a1 a2 a3 a4 a5 a6 a7 a8 a9 a10) := by
 intro a0 a1 a2 a3 a4 a5 a6 a7 a8 a9 a10 k
 unfold impl_IsLegal.f
 repeat' first
   | (with_reducible exact impl_IsOpen.mono _ _ _ _ _ _ _ _ _ _)
   | (with_reducible exact impl_choicesIn.mono _ _ _ _ _ _ _ _ _ _)
   | (with_reducible exact LeO.refl _)
   | (with_reducible exact LeO.none _)
   | (with_reducible refine LeO.ite ?_ ?_)
   | (with_reducible refine LeO.bind ?_ (fun _ => ?_))
   | exact impl_IsOpen.mono _ _ _ _ _ _ _ _ _ _
   | exact impl_choicesIn.mono _ _ _ _ _ _ _ _ _ _
   | exact LeO.none _
   | refine LeO.ite ?_ ?_
   | refine LeO.bind ?_ (fun _ => ?_)
def impl_IsLegal.T1 : Bool × List (List Nat × List Nat) := (true, [([], []), ([0], [0]), ([1, 1], [1]), ([2], [2]), ([3, 2, 2], [2, 3]), ([2], [2]), ([4, 5, 4, 2], [2, 4, 5]), ([2, 6], [2, 6]), ([7, 6, 0, 1, 2, 3, 4, 5, 6, 7], [7])])
def impl_IsLegal.B1 : List Nat := [0, 1, 3, 7, 15, 7, 63, 127, 255]
theorem impl_IsLegal.tab1 : rtab .any (opsOf Try.f43 1) = impl_IsLegal.T1 := by kernel_rfl
theorem impl_IsLegal.bits1 : waitsOk impl_IsLegal.T1.2 impl_IsLegal.B1 = true := by kernel_rfl
set_option maxHeartbeats 8000000 in
set_option maxRecDepth 100000 in
theorem impl_IsLegal.calls (k : Nat) (A0_0 : Option Addr) (c0_0 : Nat) (l0_0 : List Int) (A0_1 : Option Addr) (c0_1 : Nat) (l0_1 : List Int) (A0_2 : Option Addr) (c0_2 : Nat) (l0_2 : List Int) (A0_3 : Option Addr) (c0_3 : Nat) (l0_3 : List Bool) (A0_4 : Option Addr) (c0_4 : Nat) (l0_4 : List Bool) (a0_5 : Int) (a0_6 : Int) (a0_7 : Int) (a0_8 : Int) (a1_0 : Int) (a1_1 : Int) (r : Bool) (w : World) (hr0_0 : Kd.C (Kd.int .i64) w A0_0 l0_0.length l0_0) (hc0_0 : l0_0.length ≤ c0_0) (hr0_1 : Kd.C (Kd.int .i64) w A0_1 l0_1.length l0_1) (hc0_1 : l0_1.length ≤ c0_1) (hr0_2 : Kd.C (Kd.int .i64) w A0_2 l0_2.length l0_2) (hc0_2 : l0_2.length ≤ c0_2) (hr0_3 : Kd.C Kd.bool w A0_3 l0_3.length l0_3) (hc0_3 : l0_3.length ≤ c0_3) (hr0_4 : Kd.C Kd.bool w A0_4 l0_4.length l0_4) (hc0_4 : l0_4.length ≤ c0_4) (h : impl_IsLegal.f k l0_0 l0_1 l0_2 l0_3 l0_4 a0_5 a0_6 a0_7 a0_8 a1_0 a1_1 = some r) :
  Calls Try.prog 43 #[.agg #[.slice A0_0 l0_0.length c0_0, .slice A0_1 l0_1.length c0_1, .slice A0_2 l0_2.length c0_2, .slice A0_3 l0_3.length c0_3, .slice A0_4 l0_4.length c0_4, .int .i64 a0_5, .int .i64 a0_6, .int .i64 a0_7, .int .i64 a0_8], .agg #[.int .i64 a1_0, .int .i64 a1_1]] w fun e w' => e = .returned (.bool r) ∧ Below w.heap.size w w' := by
 have hu28 := Try.underlying28
 have hu47 := Try.underlying47
 have HR0_0 := Aside0.mk hr0_0
 have HC0_0 := Aside0.mk hc0_0
 clear hr0_0 hc0_0
 have HR0_1 := Aside0.mk hr0_1
 have HC0_1 := Aside0.mk hc0_1
 clear hr0_1 hc0_1
 have HR0_2 := Aside0.mk hr0_2
 have HC0_2 := Aside0.mk hc0_2
 clear hr0_2 hc0_2
 have HR0_3 := Aside0.mk hr0_3
 have HC0_3 := Aside0.mk hc0_3
 clear hr0_3 hc0_3
 have HR0_4 := Aside0.mk hr0_4
 have HC0_4 := Aside0.mk hc0_4
 clear hr0_4 hc0_4
 have HB := Aside0.mk (Below.refl w.heap.size w)
 have H : ((impl_IsOpen.f k l0_0 l0_1 l0_2 l0_3 l0_4 a0_5 a0_6 a0_7 a0_8).bind fun t255 => (if t255 = true then ((impl_choicesIn.f k l0_0 l0_1 l0_2 l0_3 l0_4 a0_5 a0_6 a0_7 a0_8).bind fun bt256 => ((impl_isLegal.f bt256.1 bt256.2.1 bt256.2.2.1 bt256.2.2.2 a1_0 a1_1).bind fun t260 => (some t260))) else (some false))) = some r := h
 clear h
 obtain ⟨t255, A30, H⟩ := Option.bind_eq_some_iff.mp H
 try dsimp only at H
 have A3 := Aside0.mk A30
 clear A30
 by_cases c4 : t255 = true
 ·subst c4
  rw [if_pos rfl] at H
  try dsimp only at H
  obtain ⟨⟨t256, t257, t258, t259⟩, A50, H⟩ := Option.bind_eq_some_iff.mp H
  try dsimp only at H
  have A5 := Aside0.mk A50
  clear A50
  obtain ⟨t260, A60, H⟩ := Option.bind_eq_some_iff.mp H
  try dsimp only at H
  have A6 := Aside0.mk A60
  clear A60
  obtain rfl := Option.some.inj H
  go_enter Try.func43, Try.ntmps43
  try go_wp2_with (first | ((with_reducible refine gate_dst (N := 2) rfl ?_); refine bE 2 #[.slice A0_0 l0_0.length c0_0, .slice A0_1 l0_1.length c0_1, .slice A0_2 l0_2.length c0_2, .slice A0_3 l0_3.length c0_3, .slice A0_4 l0_4.length c0_4, .int .i64 a0_5, .int .i64 a0_6, .int .i64 a0_7, .int .i64 a0_8] 28 ?_; intro gb253 hg w7 hbox hb; have BK253 := Aside0.mk (hbox); have GW253 := Aside0.mk (gE hg (bA HB.out)); have GE253 := Aside0.mk (gE hg (bA HB.out)); replace HB := Aside0.mk (below_step (bA HB.out) hb); clear hb hbox hg) | ((with_reducible refine gate_dst (N := 3) rfl ?_); refine bE 3 #[.int .i64 a1_0, .int .i64 a1_1] 47 ?_; intro gb254 hg w8 hbox hb; have BK254 := Aside0.mk (hbox); have GW254 := Aside0.mk (gE hg (bA HB.out)); have GE254 := Aside0.mk (gE hg (bA HB.out)); replace HB := Aside0.mk (below_step (bA HB.out) hb); have NB253_254 := Aside0.mk ((by rw [hg]; exact Nat.ne_of_lt (blk_lt (kA BK253.out)) : gb253 ≠ gb254)); have NB254_253 := Aside0.mk ((by rw [hg]; exact Nat.ne_of_gt (blk_lt (kA BK253.out)) : gb254 ≠ gb253)); replace BK253 := Aside0.mk (blk_below (kA BK253.out) hb); clear hb hbox hg))
  replace BK253 := Aside0.mk (blk_drew BK253.out)
  replace BK254 := Aside0.mk (blk_drew BK254.out)
  replace HB := Aside0.mk (below_drew1 HB.out)
  refine start_ (n := 9) (S := fun w' => w'.cell? ⟨gb253, 0, none⟩ = some (.slice A0_0 l0_0.length c0_0) ∧ w'.cell? ⟨gb253, 1, none⟩ = some (.slice A0_1 l0_1.length c0_1) ∧ w'.cell? ⟨gb253, 2, none⟩ = some (.slice A0_2 l0_2.length c0_2) ∧ w'.cell? ⟨gb253, 3, none⟩ = some (.slice A0_3 l0_3.length c0_3) ∧ w'.cell? ⟨gb253, 4, none⟩ = some (.slice A0_4 l0_4.length c0_4) ∧ w'.cell? ⟨gb253, 5, none⟩ = some (.int .i64 a0_5) ∧ w'.cell? ⟨gb253, 6, none⟩ = some (.int .i64 a0_6) ∧ w'.cell? ⟨gb253, 7, none⟩ = some (.int .i64 a0_7) ∧ w'.cell? ⟨gb253, 8, none⟩ = some (.int .i64 a0_8) ∧ w'.cell? ⟨gb254, 0, none⟩ = some (.int .i64 a1_0) ∧ w'.cell? ⟨gb254, 1, none⟩ = some (.int .i64 a1_1)) (ds := []) #[false, false, false, false, false, false, false, false, false] (by kernel_rfl) rfl rfl ⟨(blk_cell BK253.out 0).trans rfl, (blk_cell BK253.out 1).trans rfl, (blk_cell BK253.out 2).trans rfl, (blk_cell BK253.out 3).trans rfl, (blk_cell BK253.out 4).trans rfl, (blk_cell BK253.out 5).trans rfl, (blk_cell BK253.out 6).trans rfl, (blk_cell BK253.out 7).trans rfl, (blk_cell BK253.out 8).trans rfl, (blk_cell BK254.out 0).trans rfl, (blk_cell BK254.out 1).trans rfl⟩ (fun hHeld => ?_); refine with_tabW impl_IsLegal.tab1 impl_IsLegal.bits1 (fun HT_ HW_ => ?_)
  generalize w8.drew = w9 at BK253 BK254 HB hHeld ⊢
  refine tI 0 (some 5) #[true, false, false, false, false, false, false, false, false] HT_.out HW_.out hHeld ?_
  refine one_ (i := 1) (N := some 6) #[true, true, false, false, false, false, false, false, false] rfl rfl (one_of HT_.out (by kernel_rfl)) (by decide) (fun K hK => ?_)
  refine gO Try.func27 #[.agg #[.slice A0_0 l0_0.length c0_0, .slice A0_1 l0_1.length c0_1, .slice A0_2 l0_2.length c0_2, .slice A0_3 l0_3.length c0_3, .slice A0_4 l0_4.length c0_4, .int .i64 a0_5, .int .i64 a0_6, .int .i64 a0_7, .int .i64 a0_8]] ?_
  with_reducible refine (impl_IsOpen.calls k _ _ l0_0 _ _ l0_1 _ _ l0_2 _ _ l0_3 _ _ l0_4 a0_5 a0_6 a0_7 a0_8 true _ ?side1 ?side2 ?side3 ?side4 ?side5 ?side6 ?side7 ?side8 ?side9 ?side10 A3.out).mono ?_
  (case side1 => exact cA (Kd.C_below HR0_0.out HB.out))
  (case side2 => exact HC0_0.out)
  (case side3 => exact cA (Kd.C_below HR0_1.out HB.out))
  (case side4 => exact HC0_1.out)
  (case side5 => exact cA (Kd.C_below HR0_2.out HB.out))
  (case side6 => exact HC0_2.out)
  (case side7 => exact cA (Kd.C_below HR0_3.out HB.out))
  (case side8 => exact HC0_3.out)
  (case side9 => exact cA (Kd.C_below HR0_4.out HB.out))
  (case side10 => exact HC0_4.out)
  rintro e w10 ⟨rfl, hb⟩
  refine ⟨_, rfl, ?_⟩
  replace BK253 := Aside0.mk (blk_below (kA BK253.out) hb)
  replace BK254 := Aside0.mk (blk_below (kA BK254.out) hb)
  replace HB := Aside0.mk (below_step (bA HB.out) hb)
  (try clear hb)
  refine hK.out _ _ ⟨(blk_cell BK253.out 0).trans rfl, (blk_cell BK253.out 1).trans rfl, (blk_cell BK253.out 2).trans rfl, (blk_cell BK253.out 3).trans rfl, (blk_cell BK253.out 4).trans rfl, (blk_cell BK253.out 5).trans rfl, (blk_cell BK253.out 6).trans rfl, (blk_cell BK253.out 7).trans rfl, (blk_cell BK253.out 8).trans rfl, (blk_cell BK254.out 0).trans rfl, (blk_cell BK254.out 1).trans rfl⟩ (fun hHeld => ?_)
  clear hK K
  refine nO 6 ?_
  refine pI 2 (some 7) #[true, true, true, false, false, false, false, false, false] HT_.out ?_
  refine tI 3 (some 8) #[true, true, true, true, false, false, false, false, false] HT_.out HW_.out hHeld ?_
  refine tI 5 (some 10) #[true, true, true, true, false, true, false, false, false] HT_.out HW_.out hHeld ?_
  refine one_ (i := 4) (N := some 9) #[true, true, true, true, true, true, false, false, false] rfl rfl (one_of HT_.out (by kernel_rfl)) (by decide) (fun K hK => ?_)
  refine gO Try.func81 #[.agg #[.slice A0_0 l0_0.length c0_0, .slice A0_1 l0_1.length c0_1, .slice A0_2 l0_2.length c0_2, .slice A0_3 l0_3.length c0_3, .slice A0_4 l0_4.length c0_4, .int .i64 a0_5, .int .i64 a0_6, .int .i64 a0_7, .int .i64 a0_8]] ?_
  with_reducible refine (impl_choicesIn.calls k _ _ l0_0 _ _ l0_1 _ _ l0_2 _ _ l0_3 _ _ l0_4 a0_5 a0_6 a0_7 a0_8 t256 t257 t258 t259 _ ?side1 ?side2 ?side3 ?side4 ?side5 ?side6 ?side7 ?side8 ?side9 ?side10 A5.out).mono ?_
  (case side1 => exact cA (Kd.C_below HR0_0.out HB.out))
  (case side2 => exact HC0_0.out)
  (case side3 => exact cA (Kd.C_below HR0_1.out HB.out))
  (case side4 => exact HC0_1.out)
  (case side5 => exact cA (Kd.C_below HR0_2.out HB.out))
  (case side6 => exact HC0_2.out)
  (case side7 => exact cA (Kd.C_below HR0_3.out HB.out))
  (case side8 => exact HC0_3.out)
  (case side9 => exact cA (Kd.C_below HR0_4.out HB.out))
  (case side10 => exact HC0_4.out)
  rintro e w11 ⟨rfl, hb⟩
  refine ⟨_, rfl, ?_⟩
  replace BK253 := Aside0.mk (blk_below (kA BK253.out) hb)
  replace BK254 := Aside0.mk (blk_below (kA BK254.out) hb)
  replace HB := Aside0.mk (below_step (bA HB.out) hb)
  (try clear hb)
  refine hK.out _ _ ⟨(blk_cell BK253.out 0).trans rfl, (blk_cell BK253.out 1).trans rfl, (blk_cell BK253.out 2).trans rfl, (blk_cell BK253.out 3).trans rfl, (blk_cell BK253.out 4).trans rfl, (blk_cell BK253.out 5).trans rfl, (blk_cell BK253.out 6).trans rfl, (blk_cell BK253.out 7).trans rfl, (blk_cell BK253.out 8).trans rfl, (blk_cell BK254.out 0).trans rfl, (blk_cell BK254.out 1).trans rfl⟩ (fun hHeld => ?_)
  clear hK K
  refine nO 9 ?_
  refine one_ (i := 6) (N := some 11) #[true, true, true, true, true, true, true, false, false] rfl rfl (one_of HT_.out (by kernel_rfl)) (by decide) (fun K hK => ?_)
  refine gO Try.func83 #[.agg #[.bool t256, .int .i64 t257, .int .i64 t258, .int .i64 t259], .agg #[.int .i64 a1_0, .int .i64 a1_1]] ?_
  with_reducible refine (impl_isLegal.calls t256 t257 t258 t259 a1_0 a1_1 t260 _ A6.out).mono ?_
  rintro e w12 ⟨rfl, hb⟩
  refine ⟨_, rfl, ?_⟩
  replace BK253 := Aside0.mk (blk_below (kA BK253.out) hb)
  replace BK254 := Aside0.mk (blk_below (kA BK254.out) hb)
  replace HB := Aside0.mk (below_step (bA HB.out) hb)
  (try clear hb)
  refine hK.out _ _ ⟨(blk_cell BK253.out 0).trans rfl, (blk_cell BK253.out 1).trans rfl, (blk_cell BK253.out 2).trans rfl, (blk_cell BK253.out 3).trans rfl, (blk_cell BK253.out 4).trans rfl, (blk_cell BK253.out 5).trans rfl, (blk_cell BK253.out 6).trans rfl, (blk_cell BK253.out 7).trans rfl, (blk_cell BK253.out 8).trans rfl, (blk_cell BK254.out 0).trans rfl, (blk_cell BK254.out 1).trans rfl⟩ (fun hHeld => ?_)
  clear hK K
  refine nO 11 ?_
  refine pI 7 (some 12) #[true, true, true, true, true, true, true, true, false] HT_.out ?_
  refine pI 8 (some 4) #[true, true, true, true, true, true, true, true, true] HT_.out ?_
  refine done_ (done_of HT_.out (by kernel_rfl)) ?_
  try go_wp2
  go_ret
  exact ⟨by first | rfl | (simp [errW_none, errW_some] <;> rfl) | (simp [*, errW_none, errW_some] <;> rfl), bA HB.out⟩
 ·replace c4 := Bool.eq_false_iff.mpr c4
  subst c4
  rw [if_neg (show ¬ (false = true) by decide)] at H
  try dsimp only at H
  obtain rfl := Option.some.inj H
  go_enter Try.func43, Try.ntmps43
  try go_wp2_with (first | ((with_reducible refine gate_dst (N := 2) rfl ?_); refine bE 2 #[.slice A0_0 l0_0.length c0_0, .slice A0_1 l0_1.length c0_1, .slice A0_2 l0_2.length c0_2, .slice A0_3 l0_3.length c0_3, .slice A0_4 l0_4.length c0_4, .int .i64 a0_5, .int .i64 a0_6, .int .i64 a0_7, .int .i64 a0_8] 28 ?_; intro gb253 hg w13 hbox hb; have BK253 := Aside0.mk (hbox); have GW253 := Aside0.mk (gE hg (bA HB.out)); have GE253 := Aside0.mk (gE hg (bA HB.out)); replace HB := Aside0.mk (below_step (bA HB.out) hb); clear hb hbox hg) | ((with_reducible refine gate_dst (N := 3) rfl ?_); refine bE 3 #[.int .i64 a1_0, .int .i64 a1_1] 47 ?_; intro gb254 hg w14 hbox hb; have BK254 := Aside0.mk (hbox); have GW254 := Aside0.mk (gE hg (bA HB.out)); have GE254 := Aside0.mk (gE hg (bA HB.out)); replace HB := Aside0.mk (below_step (bA HB.out) hb); have NB253_254 := Aside0.mk ((by rw [hg]; exact Nat.ne_of_lt (blk_lt (kA BK253.out)) : gb253 ≠ gb254)); have NB254_253 := Aside0.mk ((by rw [hg]; exact Nat.ne_of_gt (blk_lt (kA BK253.out)) : gb254 ≠ gb253)); replace BK253 := Aside0.mk (blk_below (kA BK253.out) hb); clear hb hbox hg))
  replace BK253 := Aside0.mk (blk_drew BK253.out)
  replace BK254 := Aside0.mk (blk_drew BK254.out)
  replace HB := Aside0.mk (below_drew1 HB.out)
  refine start_ (n := 9) (S := fun w' => w'.cell? ⟨gb253, 0, none⟩ = some (.slice A0_0 l0_0.length c0_0) ∧ w'.cell? ⟨gb253, 1, none⟩ = some (.slice A0_1 l0_1.length c0_1) ∧ w'.cell? ⟨gb253, 2, none⟩ = some (.slice A0_2 l0_2.length c0_2) ∧ w'.cell? ⟨gb253, 3, none⟩ = some (.slice A0_3 l0_3.length c0_3) ∧ w'.cell? ⟨gb253, 4, none⟩ = some (.slice A0_4 l0_4.length c0_4) ∧ w'.cell? ⟨gb253, 5, none⟩ = some (.int .i64 a0_5) ∧ w'.cell? ⟨gb253, 6, none⟩ = some (.int .i64 a0_6) ∧ w'.cell? ⟨gb253, 7, none⟩ = some (.int .i64 a0_7) ∧ w'.cell? ⟨gb253, 8, none⟩ = some (.int .i64 a0_8)) (ds := []) #[false, false, false, false, false, false, false, false, false] (by kernel_rfl) rfl rfl (cy9 BK253.out) (fun hHeld => ?_); refine with_tabW impl_IsLegal.tab1 impl_IsLegal.bits1 (fun HT_ HW_ => ?_)
  generalize w14.drew = w15 at BK253 BK254 HB hHeld ⊢
  refine tI 0 (some 5) #[true, false, false, false, false, false, false, false, false] HT_.out HW_.out hHeld ?_
  refine one_ (i := 1) (N := some 6) #[true, true, false, false, false, false, false, false, false] rfl rfl (one_of HT_.out (by kernel_rfl)) (by decide) (fun K hK => ?_)
  refine gO Try.func27 #[.agg #[.slice A0_0 l0_0.length c0_0, .slice A0_1 l0_1.length c0_1, .slice A0_2 l0_2.length c0_2, .slice A0_3 l0_3.length c0_3, .slice A0_4 l0_4.length c0_4, .int .i64 a0_5, .int .i64 a0_6, .int .i64 a0_7, .int .i64 a0_8]] ?_
  with_reducible refine (impl_IsOpen.calls k _ _ l0_0 _ _ l0_1 _ _ l0_2 _ _ l0_3 _ _ l0_4 a0_5 a0_6 a0_7 a0_8 false _ ?side1 ?side2 ?side3 ?side4 ?side5 ?side6 ?side7 ?side8 ?side9 ?side10 A3.out).mono ?_
  (case side1 => exact cA (Kd.C_below HR0_0.out HB.out))
  (case side2 => exact HC0_0.out)
  (case side3 => exact cA (Kd.C_below HR0_1.out HB.out))
  (case side4 => exact HC0_1.out)
  (case side5 => exact cA (Kd.C_below HR0_2.out HB.out))
  (case side6 => exact HC0_2.out)
  (case side7 => exact cA (Kd.C_below HR0_3.out HB.out))
  (case side8 => exact HC0_3.out)
  (case side9 => exact cA (Kd.C_below HR0_4.out HB.out))
  (case side10 => exact HC0_4.out)
  rintro e w16 ⟨rfl, hb⟩
  refine ⟨_, rfl, ?_⟩
  replace BK253 := Aside0.mk (blk_below (kA BK253.out) hb)
  replace BK254 := Aside0.mk (blk_below (kA BK254.out) hb)
  replace HB := Aside0.mk (below_step (bA HB.out) hb)
  (try clear hb)
  refine hK.out _ _ (cy9 BK253.out) (fun hHeld => ?_)
  clear hK K
  refine nO 6 ?_
  refine pI 2 (some 7) #[true, true, true, false, false, false, false, false, false] HT_.out ?_
  refine pU 3 (some 8) #[true, true, true, true, false, false, false, false, false] HT_.out ?_
  refine pU 4 (some 9) #[true, true, true, true, true, false, false, false, false] HT_.out ?_
  refine pU 5 (some 10) #[true, true, true, true, true, true, false, false, false] HT_.out ?_
  refine pU 6 (some 11) #[true, true, true, true, true, true, true, false, false] HT_.out ?_
  refine pI 7 (some 12) #[true, true, true, true, true, true, true, true, false] HT_.out ?_
  refine pI 8 (some 4) #[true, true, true, true, true, true, true, true, true] HT_.out ?_
  refine done_ (done_of HT_.out (by kernel_rfl)) ?_
  try go_wp2
  go_ret
  exact ⟨by first | rfl | (simp [errW_none, errW_some] <;> rfl) | (simp [*, errW_none, errW_some] <;> rfl), bA HB.out⟩
end Go.Proofs.Ytmcobmphmmgdmaa.QFnExactIsLegal
