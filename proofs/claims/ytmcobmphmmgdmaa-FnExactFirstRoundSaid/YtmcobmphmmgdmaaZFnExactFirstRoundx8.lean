import Derived.Test.YtmcobmphmmgdmaaZFnExactFirstRoundx0
import Derived.Test.YtmcobmphmmgdmaaZFnExactFirstRoundx7
namespace Go.Proofs.Ytmcobmphmmgdmaa.QFnExactFirstRound
open Go.RowKit Go.Proofs.YtmcobmphmmgdmaaW.PrintWords Go.Proofs.YtmcobmphmmgdmaaW.PrintLast Go.Proofs.YtmcobmphmmgdmaaW.PrintMore
attribute [local go_sem] max2_int min2_int max_two min_two max_three min_three max_four min_four
set_option linter.unusedVariables false
set_option linter.unusedSimpArgs false
def impl_blindsOf.f (k : Nat) (l0_0 : List Int) (a0_1 : Int) (a0_2 : Int) (a0_3 : Int) (a0_4 : Int) (a0_5 : Int) : Option (List Int) := if 0 ≤ (l0_0.length : Int) then (if ((l0_0.length : Int) : Int).toNat ≤ 35184372088832 then ((some (List.replicate ((l0_0.length : Int) : Int).toNat 0 : List Int)).bind fun y269 => ((impl_antesOf.f k l0_0 a0_1 a0_2 a0_3 a0_4 a0_5).bind fun t272 => ((impl_blindSeats.f l0_0 a0_1 a0_2 a0_3 a0_4 a0_5).bind fun bt275 => (if 0 ≤ bt275.1 then (if bt275.1 < (l0_0.length : Int) then (if bt275.1 < (t272.length : Int) then (if bt275.1 < (y269.length : Int) then (if 0 ≤ bt275.2 then (if bt275.2 < (l0_0.length : Int) then (if bt275.2 < (t272.length : Int) then (if bt275.2 < (y269.length : Int) then (some ((y269.set (bt275.1 : Int).toNat (mn a0_2 (wrap64 ((rd l0_0 bt275.1) - (rd t272 bt275.1))))).set (bt275.2 : Int).toNat (mn a0_3 (wrap64 ((rd l0_0 bt275.2) - (rd t272 bt275.2)))))) else (none)) else (none)) else (none)) else (none)) else (none)) else (none)) else (none)) else (none))))) else (none)) else (none)
theorem impl_blindsOf.mono : ∀ a0 a1 a2 a3 a4 a5 k, LeO (impl_blindsOf.f k a0 a1 a2 a3 a4 a5) (impl_blindsOf.f (k + 1) a0 a1 a2 a3 a4 a5) := by
 intro a0 a1 a2 a3 a4 a5 k
 unfold impl_blindsOf.f
 repeat' first
   | (with_reducible exact impl_antesOf.mono _ _ _ _ _ _ _)
   | (with_reducible exact LeO.refl _)
   | (with_reducible exact LeO.none _)
   | (with_reducible refine LeO.ite ?_ ?_)
   | (with_reducible refine LeO.bind ?_ (fun _ => ?_))
   | exact impl_antesOf.mono _ _ _ _ _ _ _
   | exact LeO.none _
   | refine LeO.ite ?_ ?_
   | refine LeO.bind ?_ (fun _ => ?_)
def impl_blindsOf.T4 : Bool × List (List Nat × List Nat) := (true, [([], []), ([], []), ([], []), ([2], [2]), ([], []), ([4], [4]), ([], []), ([5, 6], [5, 6]), ([7], [7]), ([], []), ([], []), ([9, 10], [9, 10]), ([11], [11]), ([8, 12], [8, 12]), ([3, 13], [3, 13]), ([0, 1, 0, 1, 2, 3, 4, 5, 6, 7, 8, 9, 10, 11, 12, 13, 14], [0, 1]), ([15, 14, 0, 1, 2, 3, 4, 5, 6, 7, 8, 9, 10, 11, 12, 13, 14], [14, 15])])
def impl_blindsOf.B4 : List Nat := [0, 0, 0, 4, 0, 16, 0, 112, 240, 0, 0, 1536, 3584, 8176, 16380, 32767, 65535]
theorem impl_blindsOf.tab4 : rtab .any (opsOf Try.f90 4) = impl_blindsOf.T4 := by kernel_rfl
theorem impl_blindsOf.bits4 : waitsOk impl_blindsOf.T4.2 impl_blindsOf.B4 = true := by kernel_rfl
def impl_blindsOf.T5 : Bool × List (List Nat × List Nat) := (true, [([], []), ([], []), ([], []), ([2], [2]), ([], []), ([4], [4]), ([], []), ([5, 6], [5, 6]), ([7], [7]), ([], []), ([], []), ([9, 10], [9, 10]), ([11], [11]), ([8, 12], [8, 12]), ([3, 13], [3, 13]), ([0, 1, 0, 1, 2, 3, 4, 5, 6, 7, 8, 9, 10, 11, 12, 13, 14], [0, 1]), ([15, 14, 0, 1, 2, 3, 4, 5, 6, 7, 8, 9, 10, 11, 12, 13, 14], [14, 15])])
def impl_blindsOf.B5 : List Nat := [0, 0, 0, 4, 0, 16, 0, 112, 240, 0, 0, 1536, 3584, 8176, 16380, 32767, 65535]
theorem impl_blindsOf.tab5 : rtab .any (opsOf Try.f90 5) = impl_blindsOf.T5 := by kernel_rfl
theorem impl_blindsOf.bits5 : waitsOk impl_blindsOf.T5.2 impl_blindsOf.B5 = true := by kernel_rfl
set_option maxHeartbeats 8000000 in
set_option maxRecDepth 100000 in
theorem impl_blindsOf.calls (k : Nat) (A0_0 : Option Addr) (c0_0 : Nat) (l0_0 : List Int) (a0_1 : Int) (a0_2 : Int) (a0_3 : Int) (a0_4 : Int) (a0_5 : Int) (r : List Int) (w : World) (hr0_0 : Kd.C (Kd.int .i64) w A0_0 l0_0.length l0_0) (hc0_0 : l0_0.length ≤ c0_0) (h : impl_blindsOf.f k l0_0 a0_1 a0_2 a0_3 a0_4 a0_5 = some r) :
  Calls Try.prog 90 #[.agg #[.slice A0_0 l0_0.length c0_0, .int .i64 a0_1, .int .i64 a0_2, .int .i64 a0_3, .int .i64 a0_4, .int .i64 a0_5]] w fun e w' => ∃ v0_ : Value, e = .returned (v0_) ∧ Kd.R (Kd.int .i64) 2 w' w.heap.size (fun _ => True) v0_ r ∧ Below w.heap.size w w' := by
 have hu59 := Try.underlying59
 have HR0_0 := Aside0.mk hr0_0
 have HC0_0 := Aside0.mk hc0_0
 clear hr0_0 hc0_0
 have HB := Aside0.mk (Below.refl w.heap.size w)
 have H : (if 0 ≤ (l0_0.length : Int) then (if ((l0_0.length : Int) : Int).toNat ≤ 35184372088832 then ((some (List.replicate ((l0_0.length : Int) : Int).toNat 0 : List Int)).bind fun y269 => ((impl_antesOf.f k l0_0 a0_1 a0_2 a0_3 a0_4 a0_5).bind fun t272 => ((impl_blindSeats.f l0_0 a0_1 a0_2 a0_3 a0_4 a0_5).bind fun bt275 => (if 0 ≤ bt275.1 then (if bt275.1 < (l0_0.length : Int) then (if bt275.1 < (t272.length : Int) then (if bt275.1 < (y269.length : Int) then (if 0 ≤ bt275.2 then (if bt275.2 < (l0_0.length : Int) then (if bt275.2 < (t272.length : Int) then (if bt275.2 < (y269.length : Int) then (some ((y269.set (bt275.1 : Int).toNat (mn a0_2 (wrap64 ((rd l0_0 bt275.1) - (rd t272 bt275.1))))).set (bt275.2 : Int).toNat (mn a0_3 (wrap64 ((rd l0_0 bt275.2) - (rd t272 bt275.2)))))) else (none)) else (none)) else (none)) else (none)) else (none)) else (none)) else (none)) else (none))))) else (none)) else (none)) = some r := h
 clear h
 by_cases c2 : 0 ≤ (l0_0.length : Int)
 ·rw [if_pos c2] at H
  have c2b0 := eq_true c2
  have c2b1 : decide (0 ≤ (l0_0.length : Int)) = true := decide_eq_true c2
  clear c2
  by_cases c3 : ((l0_0.length : Int) : Int).toNat ≤ 35184372088832
  rotate_left
  ·rw [if_neg c3] at H
   exact absurd H (by simp)
  rw [if_pos c3] at H
  have c3b0 := eq_true c3
  have c3b1 : decide (((l0_0.length : Int) : Int).toNat ≤ 35184372088832) = true := decide_eq_true c3
  clear c3
  obtain ⟨y269, hy269⟩ : ∃ y_ : List Int, y_ = (List.replicate ((l0_0.length : Int) : Int).toNat 0) := ⟨_, rfl⟩
  replace H : ((impl_antesOf.f k l0_0 a0_1 a0_2 a0_3 a0_4 a0_5).bind fun t272 => ((impl_blindSeats.f l0_0 a0_1 a0_2 a0_3 a0_4 a0_5).bind fun bt275 => (if 0 ≤ bt275.1 then (if bt275.1 < (l0_0.length : Int) then (if bt275.1 < (t272.length : Int) then (if bt275.1 < (y269.length : Int) then (if 0 ≤ bt275.2 then (if bt275.2 < (l0_0.length : Int) then (if bt275.2 < (t272.length : Int) then (if bt275.2 < (y269.length : Int) then (some ((y269.set (bt275.1 : Int).toNat (mn a0_2 (wrap64 ((rd l0_0 bt275.1) - (rd t272 bt275.1))))).set (bt275.2 : Int).toNat (mn a0_3 (wrap64 ((rd l0_0 bt275.2) - (rd t272 bt275.2)))))) else (none)) else (none)) else (none)) else (none)) else (none)) else (none)) else (none)) else (none)))) = some r := by first | (rw [hy269]; with_reducible exact H) | (have H2_ := (Option.bind_some _ _).symm.trans H; rw [hy269]; with_reducible exact H2_) | (have H2_ := (Option.bind_some _ _).symm.trans H; with_reducible exact H2_) | with_reducible exact H | (rw [hy269]; exact H) | exact H
  have Ny269 := Aside0.mk hy269
  clear hy269
  obtain ⟨t272, A40, H⟩ := Option.bind_eq_some_iff.mp H
  try dsimp only at H
  have A4 := Aside0.mk A40
  clear A40
  obtain ⟨⟨t275, t276⟩, A50, H⟩ := Option.bind_eq_some_iff.mp H
  try dsimp only at H
  have A5 := Aside0.mk A50
  clear A50
  by_cases c6 : 0 ≤ t275
  rotate_left
  ·rw [if_neg c6] at H
   exact absurd H (by simp)
  rw [if_pos c6] at H
  have c6b0 : decide (0 ≤ t275) = true := decide_eq_true c6
  clear c6
  by_cases c7 : t275 < (l0_0.length : Int)
  rotate_left
  ·rw [if_neg c7] at H
   exact absurd H (by simp)
  rw [if_pos c7] at H
  have c7b0 : decide (t275 < (l0_0.length : Int)) = true := decide_eq_true c7
  clear c7
  by_cases c8 : t275 < (t272.length : Int)
  rotate_left
  ·rw [if_neg c8] at H
   exact absurd H (by simp)
  rw [if_pos c8] at H
  have c8b0 : decide (t275 < (t272.length : Int)) = true := decide_eq_true c8
  clear c8
  obtain ⟨ji9, hji9⟩ : ∃ j_ : Int, (mn a0_2 (wrap64 ((rd l0_0 t275) - (rd t272 t275)))) = j_ := ⟨_, rfl⟩
  replace H : (if t275 < (y269.length : Int) then (if 0 ≤ t276 then (if t276 < (l0_0.length : Int) then (if t276 < (t272.length : Int) then (if t276 < (y269.length : Int) then (some ((y269.set (t275 : Int).toNat (ji9)).set (t276 : Int).toNat (mn a0_3 (wrap64 ((rd l0_0 t276) - (rd t272 t276)))))) else (none)) else (none)) else (none)) else (none)) else (none)) = some r := by first | (rw [hji9] at H; exact H) | (simp only [hji9] at H ⊢; exact H)
  (try rw [hji9] at A4)
  (try rw [hji9] at A5)
  have hji9_ : (if (wrap64 ((rd l0_0 t275) - (rd t272 t275))) < a0_2 then (wrap64 ((rd l0_0 t275) - (rd t272 t275))) else a0_2) = ji9 := hji9
  by_cases c10 : t275 < (y269.length : Int)
  rotate_left
  ·rw [if_neg c10] at H
   exact absurd H (by simp)
  rw [if_pos c10] at H
  have c10b0 : decide (t275 < (y269.length : Int)) = true := decide_eq_true c10
  clear c10
  obtain ⟨y279, hy279⟩ : ∃ y_ : List Int, y_ = (y269.set (t275 : Int).toNat (ji9)) := ⟨_, rfl⟩
  replace H : (if 0 ≤ t276 then (if t276 < (l0_0.length : Int) then (if t276 < (t272.length : Int) then (if t276 < (y269.length : Int) then (some (y279.set (t276 : Int).toNat (mn a0_3 (wrap64 ((rd l0_0 t276) - (rd t272 t276)))))) else (none)) else (none)) else (none)) else (none)) = some r := by first | (rw [hy279]; with_reducible exact H) | (have H2_ := (Option.bind_some _ _).symm.trans H; rw [hy279]; with_reducible exact H2_) | (have H2_ := (Option.bind_some _ _).symm.trans H; with_reducible exact H2_) | with_reducible exact H | (rw [hy279]; exact H) | exact H
  have Ny279 := Aside0.mk hy279
  clear hy279
  by_cases c12 : 0 ≤ t276
  rotate_left
  ·rw [if_neg c12] at H
   exact absurd H (by simp)
  rw [if_pos c12] at H
  have c12b0 : decide (0 ≤ t276) = true := decide_eq_true c12
  clear c12
  by_cases c13 : t276 < (l0_0.length : Int)
  rotate_left
  ·rw [if_neg c13] at H
   exact absurd H (by simp)
  rw [if_pos c13] at H
  have c13b0 : decide (t276 < (l0_0.length : Int)) = true := decide_eq_true c13
  clear c13
  by_cases c14 : t276 < (t272.length : Int)
  rotate_left
  ·rw [if_neg c14] at H
   exact absurd H (by simp)
  rw [if_pos c14] at H
  have c14b0 : decide (t276 < (t272.length : Int)) = true := decide_eq_true c14
  clear c14
  obtain ⟨ji15, hji15⟩ : ∃ j_ : Int, (mn a0_3 (wrap64 ((rd l0_0 t276) - (rd t272 t276)))) = j_ := ⟨_, rfl⟩
  replace H : (if t276 < (y269.length : Int) then (some (y279.set (t276 : Int).toNat (ji15))) else (none)) = some r := by first | (rw [hji15] at H; exact H) | (simp only [hji15] at H ⊢; exact H)
  (try rw [hji15] at A4)
  (try rw [hji15] at A5)
  have hji15_ : (if (wrap64 ((rd l0_0 t276) - (rd t272 t276))) < a0_3 then (wrap64 ((rd l0_0 t276) - (rd t272 t276))) else a0_3) = ji15 := hji15
  by_cases c16 : t276 < (y269.length : Int)
  rotate_left
  ·rw [if_neg c16] at H
   exact absurd H (by simp)
  rw [if_pos c16] at H
  have c16b0 : decide (t276 < (y269.length : Int)) = true := decide_eq_true c16
  clear c16
  obtain ⟨y282, hy282⟩ : ∃ y_ : List Int, y_ = (y279.set (t276 : Int).toNat (ji15)) := ⟨_, rfl⟩
  replace H : (some y282) = some r := by first | (rw [hy282]; with_reducible exact H) | (have H2_ := (Option.bind_some _ _).symm.trans H; rw [hy282]; with_reducible exact H2_) | (have H2_ := (Option.bind_some _ _).symm.trans H; with_reducible exact H2_) | with_reducible exact H | (rw [hy282]; exact H) | exact H
  have Ny282 := Aside0.mk hy282
  clear hy282
  obtain rfl := Option.some.inj H
  go_enter Try.func90, Try.ntmps90
  try go_wp2_with (first | ((with_reducible refine gate_dst (N := 1) rfl ?_); refine bE 1 #[.slice A0_0 l0_0.length c0_0, .int .i64 a0_1, .int .i64 a0_2, .int .i64 a0_3, .int .i64 a0_4, .int .i64 a0_5] 59 ?_; intro gb268 hg w18 hbox hb; have BK268 := Aside0.mk (hbox); have GW268 := Aside0.mk (gE hg (bA HB.out)); have GE268 := Aside0.mk (gE hg (bA HB.out)); replace HB := Aside0.mk (below_step (bA HB.out) hb); clear hb hbox hg; obtain ⟨hcz19_0, hcz19_1, hcz19_2, hcz19_3, hcz19_4, hcz19_5, hfz19_0, hfz19_1, hfz19_2, hfz19_3, hfz19_4, hfz19_5⟩ := cz6 BK268.out) | ((with_reducible refine gate_dst (N := 10) rfl ?_); refine Kd.R_make (Kd.int .i64) _ 2 rfl (N := 10) rfl 22 _ _ rfl (l0_0.length : Int) rfl rfl Try.underlying22 (.int .i64 0) 8 info2 rfl (by decide) (by omega) 0 (ok := fun _ => True) (okp := fun _ => True) rfl (fun _ hk => hk) trivial (dA) (Nat.le_trans (Nat.mul_le_mul_right _ (dA : (l0_0.length : Int).toNat ≤ 35184372088832)) (by omega)) (Below.refl _ _) (Nat.le_refl _) ?_; intro v270 w20 ho21 hb hg_ hnew_; clear hg_ hnew_; (first | rw [← Ny269.out] at ho21 | (simp only [Int.reduceToNat] at ho21; rw [← Ny269.out] at ho21)); have HO271 := Aside0.mk (Kd.R_lower ho21 (below_size (bA HB.out))); replace BK268 := Aside0.mk (blk_below (kA BK268.out) hb); replace HB := Aside0.mk (below_step (bA HB.out) hb); clear hb ho21; obtain ⟨hcz22_0, hcz22_1, hcz22_2, hcz22_3, hcz22_4, hcz22_5, hfz22_0, hfz22_1, hfz22_2, hfz22_3, hfz22_4, hfz22_5⟩ := cz6 BK268.out) | ((with_reducible refine gate_callee (f := 91) rfl ?_); refine gL (some 12) Try.func91 #[.agg #[.slice A0_0 l0_0.length c0_0, .int .i64 a0_1, .int .i64 a0_2, .int .i64 a0_3, .int .i64 a0_4, .int .i64 a0_5]] ?_; (with_reducible refine (impl_antesOf.calls k _ _ l0_0 a0_1 a0_2 a0_3 a0_4 a0_5 t272 _ ?side1 ?side2 A4.out).mono ?_); (case side1 => exact cA (Kd.C_below HR0_0.out HB.out)); (case side2 => exact HC0_0.out); rintro e w23 ⟨v273, rfl, ho0, hb⟩; refine ⟨_, rfl, ?_⟩; have HO274 := Aside0.mk (Kd.R_lower (Kd.R_new' ho0 (Kd.R_lt (rA HO271.out))) (below_size (bA HB.out))); replace HO271 := Aside0.mk (Kd.R_elder' (rA HO271.out) (Kd.R_base ho0) hb); replace BK268 := Aside0.mk (blk_below (kA BK268.out) hb); replace HB := Aside0.mk (below_step (bA HB.out) hb); (try clear hb); (try clear ho0); obtain ⟨hcz24_0, hcz24_1, hcz24_2, hcz24_3, hcz24_4, hcz24_5, hfz24_0, hfz24_1, hfz24_2, hfz24_3, hfz24_4, hfz24_5⟩ := cz6 BK268.out) | ((with_reducible refine gate_callee (f := 108) rfl ?_); refine gL (some 15) Try.func108 #[.agg #[.slice A0_0 l0_0.length c0_0, .int .i64 a0_1, .int .i64 a0_2, .int .i64 a0_3, .int .i64 a0_4, .int .i64 a0_5]] ?_; (with_reducible refine (impl_blindSeats.calls _ _ l0_0 a0_1 a0_2 a0_3 a0_4 a0_5 t275 t276 _ ?side1 ?side2 A5.out).mono ?_); (case side1 => exact cA (Kd.C_below HR0_0.out HB.out)); (case side2 => exact HC0_0.out); rintro e w25 ⟨rfl, hb⟩; refine ⟨_, rfl, ?_⟩; replace HO271 := Aside0.mk (Kd.R_below (rA HO271.out) hb); replace HO274 := Aside0.mk (Kd.R_below (rA HO274.out) hb); replace BK268 := Aside0.mk (blk_below (kA BK268.out) hb); replace HB := Aside0.mk (below_step (bA HB.out) hb); (try clear hb)))
  replace HO271 := Aside0.mk (Kd.R_drew HO271.out)
  replace HO274 := Aside0.mk (Kd.R_drew HO274.out)
  replace BK268 := Aside0.mk (blk_drew BK268.out)
  replace HB := Aside0.mk (below_drew1 HB.out)
  have p277 : 0 ≤ (t275 : Int) := dA
  have q277 : t275 < (l0_0.length : Int) := dA
  obtain ⟨ad277, e277, hx277_0⟩ := Kd.at_int HR0_0.out t275 p277 q277
  have hw277_0 := hx277_0
  cases e277
  replace hx277_0 := (HB.out.cell (World.block_lt_of_cell? w _ hx277_0)).trans hx277_0
  replace p277 := eq_true p277
  replace q277 := eq_true q277
  obtain ⟨Ao27, co27, eo27⟩ := Kd.R_slice HO274.out
  (first | subst eo27 | (injection eo27 with f1_ f2_ f3_; have f4_ := f1_.symm; have f5_ := f3_.symm; clear f1_ f2_ f3_; subst f4_; subst f5_))
  have p278 : 0 ≤ (t275 : Int) := dA
  have q278 : t275 < (t272.length : Int) := dA
  obtain ⟨ad278, e278, hx278_0⟩ := Kd.at_int (Kd.R_reads' HO274.out).2.2 t275 p278 q278
  cases e278
  replace p278 := eq_true p278
  replace q278 := eq_true q278
  have p11 : 0 ≤ (t275 : Int) := dA
  have q11 : (t275 : Int) < ((y269.length : Int) : Int) := dA
  obtain ⟨go11, co11, eo11, gb11, gl11, cl11, HG11⟩ := Kd.R_form HO271.out (by omega)
  (first | cases eo11 | (injection eo11 with ea_ en_ ec_; (first | subst ea_ | (injection ea_ with ea_; subst ea_)); subst ec_; clear en_))
  have GB11 := Aside0.mk gb11
  have GG11 := Aside0.mk HG11
  clear gb11 gl11 HG11
  obtain ⟨hx11_0, hf11_0⟩ := Kd.R_celln 0 HO271.out (t275 : Int) p11 q11
  replace p11 := eq_true p11
  replace q11 := eq_true q11
  have HP28 := Kd.R_putn HO271.out (t275 : Int) ji9
  rw [← Ny279.out] at HP28
  have HQ28 := Aside0.mk HP28
  clear HP28
  refine start_ (n := 17) (S := fun w' => w'.cell? ⟨gb268, 0, none⟩ = some (.slice (some ad277) l0_0.length c0_0) ∧ w'.cell? ⟨gb268, 1, none⟩ = some (.int .i64 a0_1) ∧ w'.cell? ⟨gb268, 2, none⟩ = some (.int .i64 a0_2) ∧ w'.cell? ⟨gb268, 3, none⟩ = some (.int .i64 a0_3) ∧ w'.cell? ⟨gb268, 4, none⟩ = some (.int .i64 a0_4) ∧ w'.cell? ⟨gb268, 5, none⟩ = some (.int .i64 a0_5) ∧ w'.cell? (ad277.add (t275).toNat) = some (.int .i64 (rd l0_0 t275)) ∧ w'.cell? (ad278.add (t275).toNat) = some (.int .i64 (rd t272 t275))) (ds := [16]) #[false, false, false, false, false, false, false, false, false, false, false, false, false, false, false, false, false] (by kernel_rfl) rfl rfl ⟨(blk_cell BK268.out 0).trans rfl, (blk_cell BK268.out 1).trans rfl, (blk_cell BK268.out 2).trans rfl, (blk_cell BK268.out 3).trans rfl, (blk_cell BK268.out 4).trans rfl, (blk_cell BK268.out 5).trans rfl, ((HB.out.cell (World.block_lt_of_cell? w _ hw277_0)).trans hw277_0), hx278_0⟩ (fun hHeld => ?_); refine with_tabW impl_blindsOf.tab4 impl_blindsOf.bits4 (fun HT_ HW_ => ?_)
  generalize w25.drew = w26 at HO271 HO274 BK268 HB GG11 HQ28 hf11_0 hx11_0 hx277_0 hx278_0 hHeld ⊢
  refine pI 0 (some 18) #[true, false, false, false, false, false, false, false, false, false, false, false, false, false, false, false, false] HT_.out ?_
  refine pI 1 (some 19) #[true, true, false, false, false, false, false, false, false, false, false, false, false, false, false, false, false] HT_.out ?_
  refine pI 2 (some 20) #[true, true, true, false, false, false, false, false, false, false, false, false, false, false, false, false, false] HT_.out ?_
  refine pI 4 (some 22) #[true, true, true, false, true, false, false, false, false, false, false, false, false, false, false, false, false] HT_.out ?_
  refine pI 6 (some 24) #[true, true, true, false, true, false, true, false, false, false, false, false, false, false, false, false, false] HT_.out ?_
  refine pI 9 (some 27) #[true, true, true, false, true, false, true, false, false, true, false, false, false, false, false, false, false] HT_.out ?_
  refine pI 10 (some 28) #[true, true, true, false, true, false, true, false, false, true, true, false, false, false, false, false, false] HT_.out ?_
  refine pI 11 (some 29) #[true, true, true, false, true, false, true, false, false, true, true, true, false, false, false, false, false] HT_.out ?_
  refine tI 3 (some 21) #[true, true, true, true, true, false, true, false, false, true, true, true, false, false, false, false, false] HT_.out HW_.out hHeld ?_
  refine tI 5 (some 23) #[true, true, true, true, true, true, true, false, false, true, true, true, false, false, false, false, false] HT_.out HW_.out hHeld ?_
  refine pI 7 (some 25) #[true, true, true, true, true, true, true, true, false, true, true, true, false, false, false, false, false] HT_.out ?_
  refine tI 8 (some 26) #[true, true, true, true, true, true, true, true, true, true, true, true, false, false, false, false, false] HT_.out HW_.out hHeld ?_
  refine tI 12 (some 30) #[true, true, true, true, true, true, true, true, true, true, true, true, true, false, false, false, false] HT_.out HW_.out hHeld ?_
  refine pI 13 (some 31) #[true, true, true, true, true, true, true, true, true, true, true, true, true, true, false, false, false] HT_.out ?_
  refine pI 14 (some 32) #[true, true, true, true, true, true, true, true, true, true, true, true, true, true, true, false, false] HT_.out ?_
  refine pI 15 (some 33) #[true, true, true, true, true, true, true, true, true, true, true, true, true, true, true, true, false] HT_.out ?_
  refine last_ (i := 16) (N := none) #[true, true, true, true, true, true, true, true, true, true, true, true, true, true, true, true, true] rfl rfl (one_of HT_.out (by kernel_rfl)) (by decide) (fun K hK => ?_)
  refine skip_ (w1 := ?_) (by rfl) rfl ?_ ?_
  rotate_left
  ·go_simp
   rfl
  refine hK.out _ _ ?_
  clear hK K
  refine done_ (done_of HT_.out (by kernel_rfl)) ?_
  try go_wp2
  have n0_ : Aside0 (Kd.R (Kd.int .i64) 2 (w26.setCell ⟨go11, (t275 : Int).toNat, none⟩ (.int .i64 ji9)) w.heap.size (fun k_ => some k_ ≠ (.slice (some ad278) t272.length co27 : Value).ownBlock) (.slice (some ⟨go11, 0, none⟩) y269.length co11) y279) := ⟨by (with_reducible repeat (first | apply Kd.R_alloc | apply Kd.R_drewN | apply Kd.R_drew)); exact Kd.R_mono HQ28.out (fun _ hk => hk.2)⟩
  have n1_ : Aside0 (Kd.R (Kd.int .i64) 2 (w26.setCell ⟨go11, (t275 : Int).toNat, none⟩ (.int .i64 ji9)) w.heap.size (fun k_ => some k_ ≠ (.slice (some ⟨go11, 0, none⟩) y269.length co11 : Value).ownBlock) (.slice (some ad278) t272.length co27) t272) := ⟨by (with_reducible repeat (first | apply Kd.R_alloc | apply Kd.R_drewN | apply Kd.R_drew)); exact Kd.R_mono (Kd.R_far (p := ⟨go11, (t275 : Int).toNat, none⟩) (Kd.R_mono HO274.out (fun k_ hk => (⟨hk, fun e_ => hk.2 (by rw [e_]; rfl)⟩ : _ ∧ k_ ≠ go11))) (fun _ hk => hk.2) (.int .i64 ji9)) (fun _ hk => hk.1.2)⟩
  have n2_ : Aside0 ((w26.setCell ⟨go11, (t275 : Int).toNat, none⟩ (.int .i64 ji9)).heap[gb268]? = some (.cells #[.slice (some ad277) l0_0.length c0_0, .int .i64 a0_1, .int .i64 a0_2, .int .i64 a0_3, .int .i64 a0_4, .int .i64 a0_5] 59 (0, 0))) := ⟨by (with_reducible repeat (first | refine blk_drewN ?_ _ | refine blk_drew ?_ | refine blk_alloc ?_ _)); refine blk_far ?_ (by have h_ := Kd.R_ne HO271.out BK268.out (by decide); intro e_; exact h_ (by rw [e_]; rfl)) _; (with_reducible repeat (first | refine blk_drewN ?_ _ | refine blk_drew ?_ | refine blk_alloc ?_ _)); exact BK268.out⟩
  have n3_ : Aside0 (Below w.heap.size w (w26.setCell ⟨go11, (t275 : Int).toNat, none⟩ (.int .i64 ji9))) := ⟨by repeat (first | (with_reducible first | exact HB.out | apply below_alloc | apply pw_below_drewN | apply below_drew1 | refine below_set ?_ GB11.out | refine below_set ?_ GE268.out) | exact HB.out)⟩
  (try clear HO271)
  (try clear HO274)
  (try clear BK268)
  (try clear HB)
  generalize (w26.setCell ⟨go11, (t275 : Int).toNat, none⟩ (.int .i64 ji9)) = w29 at n0_ n1_ n2_ n3_ ⊢
  have HO271 := n0_
  have HO274 := n1_
  have BK268 := n2_
  have HB := n3_
  clear n0_ n1_ n2_ n3_
  replace HO271 := Aside0.mk (Kd.R_drew HO271.out)
  replace HO274 := Aside0.mk (Kd.R_drew HO274.out)
  replace BK268 := Aside0.mk (blk_drew BK268.out)
  replace HB := Aside0.mk (below_drew1 HB.out)
  have p280 : 0 ≤ (t276 : Int) := dA
  have q280 : t276 < (l0_0.length : Int) := dA
  obtain ⟨ad280, e280, hx280_0⟩ := Kd.at_int HR0_0.out t276 p280 q280
  have hw280_0 := hx280_0
  obtain rfl : ad277 = ad280 := (by injection e280)
  replace hx280_0 := (HB.out.cell (World.block_lt_of_cell? w _ hx280_0)).trans hx280_0
  replace p280 := eq_true p280
  replace q280 := eq_true q280
  have p281 : 0 ≤ (t276 : Int) := dA
  have q281 : t276 < (t272.length : Int) := dA
  obtain ⟨ad281, e281, hx281_0⟩ := Kd.at_int (Kd.R_reads' HO274.out).2.2 t276 p281 q281
  obtain rfl : ad278 = ad281 := (by injection e281)
  replace p281 := eq_true p281
  replace q281 := eq_true q281
  have p17 : 0 ≤ (t276 : Int) := dA
  have q17 : (t276 : Int) < ((y269.length : Int) : Int) := dA
  obtain ⟨hx17_0, hf17_0⟩ := Kd.R_celln 0 HO271.out (t276 : Int) p17 q17
  replace p17 := eq_true p17
  replace q17 := eq_true q17
  have HP31 := Kd.R_putn HO271.out (t276 : Int) ji15
  rw [← Ny282.out] at HP31
  have HQ31 := Aside0.mk HP31
  clear HP31
  refine start_ (n := 17) (S := fun w' => w'.cell? ⟨gb268, 0, none⟩ = some (.slice (some ad277) l0_0.length c0_0) ∧ w'.cell? ⟨gb268, 1, none⟩ = some (.int .i64 a0_1) ∧ w'.cell? ⟨gb268, 2, none⟩ = some (.int .i64 a0_2) ∧ w'.cell? ⟨gb268, 3, none⟩ = some (.int .i64 a0_3) ∧ w'.cell? ⟨gb268, 4, none⟩ = some (.int .i64 a0_4) ∧ w'.cell? ⟨gb268, 5, none⟩ = some (.int .i64 a0_5) ∧ w'.cell? (ad277.add (t276).toNat) = some (.int .i64 (rd l0_0 t276)) ∧ w'.cell? (ad278.add (t276).toNat) = some (.int .i64 (rd t272 t276))) (ds := [16]) #[false, false, false, false, false, false, false, false, false, false, false, false, false, false, false, false, false] (by kernel_rfl) rfl rfl ⟨(blk_cell BK268.out 0).trans rfl, (blk_cell BK268.out 1).trans rfl, (blk_cell BK268.out 2).trans rfl, (blk_cell BK268.out 3).trans rfl, (blk_cell BK268.out 4).trans rfl, (blk_cell BK268.out 5).trans rfl, ((HB.out.cell (World.block_lt_of_cell? w _ hw280_0)).trans hw280_0), hx281_0⟩ (fun hHeld => ?_); refine with_tabW impl_blindsOf.tab5 impl_blindsOf.bits5 (fun HT_ HW_ => ?_)
  generalize w29.drew = w30 at HO271 HO274 BK268 HB HQ28 HQ31 hf17_0 hx17_0 hx280_0 hx281_0 hHeld ⊢
  refine pI 0 (some 34) #[true, false, false, false, false, false, false, false, false, false, false, false, false, false, false, false, false] HT_.out ?_
  refine pI 1 (some 35) #[true, true, false, false, false, false, false, false, false, false, false, false, false, false, false, false, false] HT_.out ?_
  refine pI 2 (some 36) #[true, true, true, false, false, false, false, false, false, false, false, false, false, false, false, false, false] HT_.out ?_
  refine pI 4 (some 38) #[true, true, true, false, true, false, false, false, false, false, false, false, false, false, false, false, false] HT_.out ?_
  refine pI 6 (some 40) #[true, true, true, false, true, false, true, false, false, false, false, false, false, false, false, false, false] HT_.out ?_
  refine pI 9 (some 43) #[true, true, true, false, true, false, true, false, false, true, false, false, false, false, false, false, false] HT_.out ?_
  refine pI 10 (some 44) #[true, true, true, false, true, false, true, false, false, true, true, false, false, false, false, false, false] HT_.out ?_
  refine pI 11 (some 45) #[true, true, true, false, true, false, true, false, false, true, true, true, false, false, false, false, false] HT_.out ?_
  refine tI 3 (some 37) #[true, true, true, true, true, false, true, false, false, true, true, true, false, false, false, false, false] HT_.out HW_.out hHeld ?_
  refine tI 5 (some 39) #[true, true, true, true, true, true, true, false, false, true, true, true, false, false, false, false, false] HT_.out HW_.out hHeld ?_
  refine pI 7 (some 41) #[true, true, true, true, true, true, true, true, false, true, true, true, false, false, false, false, false] HT_.out ?_
  refine tI 8 (some 42) #[true, true, true, true, true, true, true, true, true, true, true, true, false, false, false, false, false] HT_.out HW_.out hHeld ?_
  refine tI 12 (some 46) #[true, true, true, true, true, true, true, true, true, true, true, true, true, false, false, false, false] HT_.out HW_.out hHeld ?_
  refine pI 13 (some 47) #[true, true, true, true, true, true, true, true, true, true, true, true, true, true, false, false, false] HT_.out ?_
  refine pI 14 (some 48) #[true, true, true, true, true, true, true, true, true, true, true, true, true, true, true, false, false] HT_.out ?_
  refine pI 15 (some 49) #[true, true, true, true, true, true, true, true, true, true, true, true, true, true, true, true, false] HT_.out ?_
  refine last_ (i := 16) (N := none) #[true, true, true, true, true, true, true, true, true, true, true, true, true, true, true, true, true] rfl rfl (one_of HT_.out (by kernel_rfl)) (by decide) (fun K hK => ?_)
  refine skip_ (w1 := ?_) (by rfl) rfl ?_ ?_
  rotate_left
  ·go_simp
   rfl
  refine hK.out _ _ ?_
  clear hK K
  refine done_ (done_of HT_.out (by kernel_rfl)) ?_
  try go_wp2
  go_ret
  exact ⟨_, by first | rfl | (simp [errW_none, errW_some] <;> rfl) | (simp only [← hji9, ← hji15]; first | rfl | (simp [errW_none, errW_some] <;> rfl)) | (simp [*, errW_none, errW_some] <;> rfl), by (with_reducible repeat (first | apply Kd.R_alloc | apply Kd.R_drewN | apply Kd.R_drew)); exact Kd.R_mono HQ31.out (fun _ hk => trivial), by repeat (first | (with_reducible first | exact HB.out | apply below_alloc | apply pw_below_drewN | apply below_drew1 | refine below_set ?_ GB11.out | refine below_set ?_ GE268.out) | exact HB.out)⟩
 ·rw [if_neg c2] at H
  exact absurd H (by simp)
def impl_firstSeat.f (l0_0 : List Int) (a0_1 : Int) (a0_2 : Int) (a0_3 : Int) (a0_4 : Int) (a0_5 : Int) (a1 : Int) : Option (Int) := if a1 = 0 then ((impl_blindSeats.f l0_0 a0_1 a0_2 a0_3 a0_4 a0_5).bind fun bt284 => ((impl_leftOf.f bt284.2 (l0_0.length : Int)).bind fun t286 => (some t286))) else ((impl_leftOf.f a0_1 (l0_0.length : Int)).bind fun t287 => (some t287))
set_option maxHeartbeats 8000000 in
set_option maxRecDepth 100000 in
theorem impl_firstSeat.calls (A0_0 : Option Addr) (c0_0 : Nat) (l0_0 : List Int) (a0_1 : Int) (a0_2 : Int) (a0_3 : Int) (a0_4 : Int) (a0_5 : Int) (a1 : Int) (r : Int) (w : World) (hr0_0 : Kd.C (Kd.int .i64) w A0_0 l0_0.length l0_0) (hc0_0 : l0_0.length ≤ c0_0) (h : impl_firstSeat.f l0_0 a0_1 a0_2 a0_3 a0_4 a0_5 a1 = some r) :
  Calls Try.prog 92 #[.agg #[.slice A0_0 l0_0.length c0_0, .int .i64 a0_1, .int .i64 a0_2, .int .i64 a0_3, .int .i64 a0_4, .int .i64 a0_5], .int .i64 a1] w fun e w' => e = .returned (.int .i64 r) ∧ Below w.heap.size w w' := by
 have hu59 := Try.underlying59
 have HR0_0 := Aside0.mk hr0_0
 have HC0_0 := Aside0.mk hc0_0
 clear hr0_0 hc0_0
 have HB := Aside0.mk (Below.refl w.heap.size w)
 have H : (if a1 = 0 then ((impl_blindSeats.f l0_0 a0_1 a0_2 a0_3 a0_4 a0_5).bind fun bt284 => ((impl_leftOf.f bt284.2 (l0_0.length : Int)).bind fun t286 => (some t286))) else ((impl_leftOf.f a0_1 (l0_0.length : Int)).bind fun t287 => (some t287))) = some r := h
 clear h
 by_cases c3 : a1 = 0
 ·rw [if_pos c3] at H
  have c3b0 : (a1 == 0) = true := beq_iff_eq.mpr c3
  have c3b1 : (a1 != 0) = false := bne_eq_false_iff_eq.mpr c3
  clear c3
  obtain ⟨⟨t284, t285⟩, A40, H⟩ := Option.bind_eq_some_iff.mp H
  try dsimp only at H
  have A4 := Aside0.mk A40
  clear A40
  obtain ⟨t286, A50, H⟩ := Option.bind_eq_some_iff.mp H
  try dsimp only at H
  have A5 := Aside0.mk A50
  clear A50
  obtain rfl := Option.some.inj H
  go_enter Try.func92, Try.ntmps92
  go_wp2_with (first | ((with_reducible refine gate_dst (N := 2) rfl ?_); refine bE 2 #[.slice A0_0 l0_0.length c0_0, .int .i64 a0_1, .int .i64 a0_2, .int .i64 a0_3, .int .i64 a0_4, .int .i64 a0_5] 59 ?_; intro gb283 hg w6 hbox hb; have BK283 := Aside0.mk (hbox); have GW283 := Aside0.mk (gE hg (bA HB.out)); have GE283 := Aside0.mk (gE hg (bA HB.out)); replace HB := Aside0.mk (below_step (bA HB.out) hb); clear hb hbox hg; obtain ⟨hcz7_0, hcz7_1, hcz7_2, hcz7_3, hcz7_4, hcz7_5, hfz7_0, hfz7_1, hfz7_2, hfz7_3, hfz7_4, hfz7_5⟩ := cz6 BK283.out) | ((with_reducible refine gate_callee (f := 108) rfl ?_); refine gL (some 12) Try.func108 #[.agg #[.slice A0_0 l0_0.length c0_0, .int .i64 a0_1, .int .i64 a0_2, .int .i64 a0_3, .int .i64 a0_4, .int .i64 a0_5]] ?_; (with_reducible refine (impl_blindSeats.calls _ _ l0_0 a0_1 a0_2 a0_3 a0_4 a0_5 t284 t285 _ ?side1 ?side2 A4.out).mono ?_); (case side1 => exact cA (Kd.C_below HR0_0.out HB.out)); (case side2 => exact HC0_0.out); rintro e w8 ⟨rfl, hb⟩; refine ⟨_, rfl, ?_⟩; replace BK283 := Aside0.mk (blk_below (kA BK283.out) hb); replace HB := Aside0.mk (below_step (bA HB.out) hb); (try clear hb); obtain ⟨hcz9_0, hcz9_1, hcz9_2, hcz9_3, hcz9_4, hcz9_5, hfz9_0, hfz9_1, hfz9_2, hfz9_3, hfz9_4, hfz9_5⟩ := cz6 BK283.out) | ((with_reducible refine gate_callee (f := 109) rfl ?_); refine gL (some 19) Try.func109 #[.int .i64 t285, .int .i64 (l0_0.length : Int)] ?_; (with_reducible refine (impl_leftOf.calls t285 (l0_0.length : Int) t286 _ A5.out).mono ?_); rintro e w' ⟨rfl, ⟨nd, rfl⟩⟩; refine ⟨_, rfl, ?_⟩))
  go_ret
  exact ⟨by first | rfl | (simp [errW_none, errW_some] <;> rfl) | (simp [*, errW_none, errW_some] <;> rfl), bA HB.out⟩
 ·rw [if_neg c3] at H
  have c3b0 : (a1 == 0) = false := beq_eq_false_iff_ne.mpr c3
  have c3b1 : (a1 != 0) = true := bne_iff_ne.mpr c3
  obtain ⟨t287, A100, H⟩ := Option.bind_eq_some_iff.mp H
  try dsimp only at H
  have A10 := Aside0.mk A100
  clear A100
  obtain rfl := Option.some.inj H
  go_enter Try.func92, Try.ntmps92
  go_wp2_with (first | ((with_reducible refine gate_dst (N := 2) rfl ?_); refine bE 2 #[.slice A0_0 l0_0.length c0_0, .int .i64 a0_1, .int .i64 a0_2, .int .i64 a0_3, .int .i64 a0_4, .int .i64 a0_5] 59 ?_; intro gb283 hg w11 hbox hb; have BK283 := Aside0.mk (hbox); have GW283 := Aside0.mk (gE hg (bA HB.out)); have GE283 := Aside0.mk (gE hg (bA HB.out)); replace HB := Aside0.mk (below_step (bA HB.out) hb); clear hb hbox hg; obtain ⟨hcz12_0, hcz12_1, hcz12_2, hcz12_3, hcz12_4, hcz12_5, hfz12_0, hfz12_1, hfz12_2, hfz12_3, hfz12_4, hfz12_5⟩ := cz6 BK283.out) | ((with_reducible refine gate_callee (f := 109) rfl ?_); refine gL (some 19) Try.func109 #[.int .i64 a0_1, .int .i64 (l0_0.length : Int)] ?_; (with_reducible refine (impl_leftOf.calls a0_1 (l0_0.length : Int) t287 _ A10.out).mono ?_); rintro e w' ⟨rfl, ⟨nd, rfl⟩⟩; refine ⟨_, rfl, ?_⟩))
  go_ret
  exact ⟨by first | rfl | (simp [errW_none, errW_some] <;> rfl) | (simp [*, errW_none, errW_some] <;> rfl), bA HB.out⟩
def impl_canAct.f (l0_0 : List Int) (l0_1 : List Int) (l0_2 : List Int) (l0_3 : List Bool) (l0_4 : List Bool) (a0_5 : Int) (a0_6 : Int) (a0_7 : Int) (a0_8 : Int) (a1 : Int) : Option (Bool) := if 0 ≤ a1 then (if a1 < (l0_3.length : Int) then (if rdOf false l0_3 a1 = true then (some false) else (if a1 < (l0_0.length : Int) then (some (decide ((rd l0_0 a1) > 0))) else (none))) else (none)) else (none)
set_option maxHeartbeats 8000000 in
set_option maxRecDepth 100000 in
theorem impl_canAct.calls (A0_0 : Option Addr) (c0_0 : Nat) (l0_0 : List Int) (A0_1 : Option Addr) (c0_1 : Nat) (l0_1 : List Int) (A0_2 : Option Addr) (c0_2 : Nat) (l0_2 : List Int) (A0_3 : Option Addr) (c0_3 : Nat) (l0_3 : List Bool) (A0_4 : Option Addr) (c0_4 : Nat) (l0_4 : List Bool) (a0_5 : Int) (a0_6 : Int) (a0_7 : Int) (a0_8 : Int) (a1 : Int) (r : Bool) (w : World) (hr0_0 : Kd.C (Kd.int .i64) w A0_0 l0_0.length l0_0) (hc0_0 : l0_0.length ≤ c0_0) (hr0_1 : Kd.C (Kd.int .i64) w A0_1 l0_1.length l0_1) (hc0_1 : l0_1.length ≤ c0_1) (hr0_2 : Kd.C (Kd.int .i64) w A0_2 l0_2.length l0_2) (hc0_2 : l0_2.length ≤ c0_2) (hr0_3 : Kd.C Kd.bool w A0_3 l0_3.length l0_3) (hc0_3 : l0_3.length ≤ c0_3) (hr0_4 : Kd.C Kd.bool w A0_4 l0_4.length l0_4) (hc0_4 : l0_4.length ≤ c0_4) (h : impl_canAct.f l0_0 l0_1 l0_2 l0_3 l0_4 a0_5 a0_6 a0_7 a0_8 a1 = some r) :
  Calls Try.prog 77 #[.agg #[.slice A0_0 l0_0.length c0_0, .slice A0_1 l0_1.length c0_1, .slice A0_2 l0_2.length c0_2, .slice A0_3 l0_3.length c0_3, .slice A0_4 l0_4.length c0_4, .int .i64 a0_5, .int .i64 a0_6, .int .i64 a0_7, .int .i64 a0_8], .int .i64 a1] w fun e w' => e = .returned (.bool r) ∧ Below w.heap.size w w' := by
 have hu28 := Try.underlying28
 have HR0_0 := Aside0.mk hr0_0
 have HC0_0 := Aside0.mk hc0_0
 clear hr0_0 hc0_0
 have HR0_1 := Aside0.mk hr0_1
 have HC0_1 := Aside0.mk hc0_1
 clear hr0_1 hc0_1
 have HR0_2 := Aside0.mk hr0_2
 have HC0_2 := Aside0.mk hc0_2
 clear hr0_2 hc0_2
 have HR0_3 := Aside0.mk hr0_3
 have HC0_3 := Aside0.mk hc0_3
 clear hr0_3 hc0_3
 have HR0_4 := Aside0.mk hr0_4
 have HC0_4 := Aside0.mk hc0_4
 clear hr0_4 hc0_4
 have HB := Aside0.mk (Below.refl w.heap.size w)
 have H : (if 0 ≤ a1 then (if a1 < (l0_3.length : Int) then (if rdOf false l0_3 a1 = true then (some false) else (if a1 < (l0_0.length : Int) then (some (decide ((rd l0_0 a1) > 0))) else (none))) else (none)) else (none)) = some r := h
 clear h
 by_cases c3 : 0 ≤ a1
 ·rw [if_pos c3] at H
  have c3b0 : decide (0 ≤ a1) = true := decide_eq_true c3
  clear c3
  by_cases c4 : a1 < (l0_3.length : Int)
  rotate_left
  ·rw [if_neg c4] at H
   exact absurd H (by simp)
  rw [if_pos c4] at H
  have c4b0 : decide (a1 < (l0_3.length : Int)) = true := decide_eq_true c4
  clear c4
  obtain ⟨bq5, hbq5⟩ : ∃ b_ : Bool, b_ = (rdOf false l0_3 a1) := ⟨_, rfl⟩
  replace H : (if bq5 = true then (some false) else (if a1 < (l0_0.length : Int) then (some (decide ((rd l0_0 a1) > 0))) else (none))) = some r := by rw [← hbq5] at H; exact H
  have Nbq5 := Aside0.mk hbq5
  clear hbq5
  by_cases c6 : bq5 = true
  ·subst c6
   rw [if_pos rfl] at H
   try dsimp only at H
   obtain rfl := Option.some.inj H
   go_enter Try.func77, Try.ntmps77
   go_wp2_with (first | ((with_reducible refine gate_dst (N := 2) rfl ?_); refine bE 2 #[.slice A0_0 l0_0.length c0_0, .slice A0_1 l0_1.length c0_1, .slice A0_2 l0_2.length c0_2, .slice A0_3 l0_3.length c0_3, .slice A0_4 l0_4.length c0_4, .int .i64 a0_5, .int .i64 a0_6, .int .i64 a0_7, .int .i64 a0_8] 28 ?_; intro gb288 hg w7 hbox hb; have BK288 := Aside0.mk (hbox); have GW288 := Aside0.mk (gE hg (bA HB.out)); have GE288 := Aside0.mk (gE hg (bA HB.out)); replace HB := Aside0.mk (below_step (bA HB.out) hb); clear hb hbox hg; obtain ⟨hcz8_0, hcz8_1, hcz8_2, hcz8_3, hcz8_4, hcz8_5, hcz8_6, hcz8_7, hcz8_8, hfz8_0, hfz8_1, hfz8_2, hfz8_3, hfz8_4, hfz8_5, hfz8_6, hfz8_7, hfz8_8⟩ := cz9 BK288.out; have p289 : 0 ≤ (a1 : Int) := dA; have q289 : a1 < (l0_3.length : Int) := dA; obtain ⟨ad289, e289, hx289_0⟩ := Kd.at_bool HR0_3.out a1 p289 q289; (try rw [← Nbq5.out] at hx289_0); cases e289; replace hx289_0 := (HB.out.cell (World.block_lt_of_cell? w _ hx289_0)).trans hx289_0; replace p289 := eq_true p289; replace q289 := eq_true q289))
   go_ret
   exact ⟨by first | rfl | (simp [errW_none, errW_some] <;> rfl) | (simp [*, errW_none, errW_some] <;> rfl), bA HB.out⟩
  ·replace c6 := Bool.eq_false_iff.mpr c6
   subst c6
   rw [if_neg (show ¬ (false = true) by decide)] at H
   try dsimp only at H
   by_cases c9 : a1 < (l0_0.length : Int)
   rotate_left
   ·rw [if_neg c9] at H
    exact absurd H (by simp)
   rw [if_pos c9] at H
   have c9b0 : decide (a1 < (l0_0.length : Int)) = true := decide_eq_true c9
   clear c9
   obtain rfl := Option.some.inj H
   go_enter Try.func77, Try.ntmps77
   go_wp2_with (first | ((with_reducible refine gate_dst (N := 2) rfl ?_); refine bE 2 #[.slice A0_0 l0_0.length c0_0, .slice A0_1 l0_1.length c0_1, .slice A0_2 l0_2.length c0_2, .slice A0_3 l0_3.length c0_3, .slice A0_4 l0_4.length c0_4, .int .i64 a0_5, .int .i64 a0_6, .int .i64 a0_7, .int .i64 a0_8] 28 ?_; intro gb288 hg w10 hbox hb; have BK288 := Aside0.mk (hbox); have GW288 := Aside0.mk (gE hg (bA HB.out)); have GE288 := Aside0.mk (gE hg (bA HB.out)); replace HB := Aside0.mk (below_step (bA HB.out) hb); clear hb hbox hg; obtain ⟨hcz11_0, hcz11_1, hcz11_2, hcz11_3, hcz11_4, hcz11_5, hcz11_6, hcz11_7, hcz11_8, hfz11_0, hfz11_1, hfz11_2, hfz11_3, hfz11_4, hfz11_5, hfz11_6, hfz11_7, hfz11_8⟩ := cz9 BK288.out; have p289 : 0 ≤ (a1 : Int) := dA; have q289 : a1 < (l0_3.length : Int) := dA; obtain ⟨ad289, e289, hx289_0⟩ := Kd.at_bool HR0_3.out a1 p289 q289; (try rw [← Nbq5.out] at hx289_0); cases e289; replace hx289_0 := (HB.out.cell (World.block_lt_of_cell? w _ hx289_0)).trans hx289_0; replace p289 := eq_true p289; replace q289 := eq_true q289; have p290 : 0 ≤ (a1 : Int) := dA; have q290 : a1 < (l0_0.length : Int) := dA; obtain ⟨ad290, e290, hx290_0⟩ := Kd.at_int HR0_0.out a1 p290 q290; cases e290; replace hx290_0 := (HB.out.cell (World.block_lt_of_cell? w _ hx290_0)).trans hx290_0; replace p290 := eq_true p290; replace q290 := eq_true q290))
   go_ret
   exact ⟨by first | rfl | (simp [errW_none, errW_some] <;> rfl) | (simp [*, errW_none, errW_some] <;> rfl), bA HB.out⟩
 ·rw [if_neg c3] at H
  exact absurd H (by simp)
def slices_Max_int64_int64.l0 : Nat → List Int → Int → Int → Option (Int)
 | 0, _, _, _ => none
 | k + 1, x0, x3, x4 => if x4 < (x0.length : Int) then (if 0 ≤ x4 then (slices_Max_int64_int64.l0 k x0 (mx x3 (rd x0 x4)) (wrap64 (x4 + 1))) else (none)) else (some x3)
def slices_Max_int64_int64.f (k : Nat) (l0 : List Int) : Option (Int) := if (l0.length : Int) < 1 then (none) else (if 0 < (l0.length : Int) then (slices_Max_int64_int64.l0 k l0 (rd l0 0) 1) else (none))
theorem slices_Max_int64_int64.mono_l : ∀ k, (∀ y0 y1 y2, LeO (slices_Max_int64_int64.l0 k y0 y1 y2) (slices_Max_int64_int64.l0 (k + 1) y0 y1 y2))
 | 0 => fun _ _ _ r h => by simp [slices_Max_int64_int64.l0] at h
 | k + 1 => by
  have ih0 := slices_Max_int64_int64.mono_l k
  ·intro y0 y1 y2
   unfold slices_Max_int64_int64.l0
   repeat' first
   | (with_reducible exact ih0 _ _ _)
   | (with_reducible exact LeO.refl _)
   | (with_reducible exact LeO.none _)
   | (with_reducible refine LeO.ite ?_ ?_)
   | (with_reducible refine LeO.bind ?_ (fun _ => ?_))
   | exact ih0 _ _ _
   | exact LeO.none _
   | refine LeO.ite ?_ ?_
   | refine LeO.bind ?_ (fun _ => ?_)
theorem slices_Max_int64_int64.mono : ∀ a0 k, LeO (slices_Max_int64_int64.f k a0) (slices_Max_int64_int64.f (k + 1) a0) := by
 intro a0 k
 have ih0 := slices_Max_int64_int64.mono_l k
 unfold slices_Max_int64_int64.f
 repeat' first
   | (with_reducible exact ih0 _ _ _)
   | (with_reducible exact LeO.refl _)
   | (with_reducible exact LeO.none _)
   | (with_reducible refine LeO.ite ?_ ?_)
   | (with_reducible refine LeO.bind ?_ (fun _ => ?_))
   | exact ih0 _ _ _
   | exact LeO.none _
   | refine LeO.ite ?_ ?_
   | refine LeO.bind ?_ (fun _ => ?_)
set_option maxHeartbeats 8000000 in
set_option maxRecDepth 100000 in
theorem slices_Max_int64_int64.calls (k : Nat) (A0 : Option Addr) (c0 : Nat) (l0 : List Int) (r : Int) (w : World) (hr0 : Kd.C (Kd.int .i64) w A0 l0.length l0) (hc0 : l0.length ≤ c0) (h : slices_Max_int64_int64.f k l0 = some r) :
  Calls Try.prog 98 #[.slice A0 l0.length c0] w fun e w' => e = .returned (.int .i64 r) ∧ Below w.heap.size w w' := by
 have HR0 := Aside0.mk hr0
 have HC0 := Aside0.mk hc0
 clear hr0 hc0
 have HB := Aside0.mk (Below.refl w.heap.size w)
 have H : (if (l0.length : Int) < 1 then (none) else (if 0 < (l0.length : Int) then (slices_Max_int64_int64.l0 k l0 (rd l0 0) 1) else (none))) = some r := h
 clear h
 by_cases c2 : (l0.length : Int) < 1
 ·rw [if_pos c2] at H
  exact absurd H (by simp)
 rw [if_neg c2] at H
 have c2b0 : decide ((l0.length : Int) < 1) = false := decide_eq_false c2
 have c2b1 : decide (l0.length < 1) = false := decide_eq_false (by omega)
 clear c2
 by_cases c3 : 0 < (l0.length : Int)
 ·rw [if_pos c3] at H
  have c3b0 : decide (0 < (l0.length : Int)) = true := decide_eq_true c3
  have c3b1 : decide (0 < l0.length) = true := decide_eq_true (by omega)
  clear c3
  have H' := Aside0.mk H
  clear H
  have p291 : 0 ≤ (0 : Int) := (by omega)
  have q291 : 0 < (l0.length : Int) := dA
  obtain ⟨ad291, e291, hx291_0⟩ := Kd.at_int HR0.out 0 p291 q291
  cases e291
  have qi291 : (0 < l0.length) = True := eq_true (by omega)
  (try rw [show ((0 : Int)).toNat = 0 from rfl] at hx291_0)
  (try rw [Addr.add_zero'] at hx291_0)
  replace p291 := eq_true p291
  replace q291 := eq_true q291
  go_enter Try.func98, Try.ntmps98
  go_wp2
  go_loopg [3, 4] k (fun kq v3 v4 w' => ∃ (x3_1 : Int) (x4_1 : Int), v3 = .int .i64 x3_1 ∧ v4 = .int .i64 x4_1 ∧ Aside0 (slices_Max_int64_int64.l0 kq l0 x3_1 x4_1 = some r) ∧ Aside0 (kq ≤ k) ∧ Aside0 (Below w.heap.size w w'))
  case atStart => exact ⟨(rd l0 0), (1), (by first | rfl | (simp; done) | (simp [*]; done)), (by first | rfl | (simp; done) | (simp [*]; done)), H', ⟨Nat.le_refl _⟩, ⟨bA HB.out⟩⟩
  case round =>
   clear H'
   try clear c2
   try clear c2b0
   try clear c2b1
   try clear p2
   try clear q2
   try clear hx2
   try clear qi2
   try clear c3
   try clear c3b0
   try clear c3b1
   try clear hx291_0
   try clear p291
   try clear q291
   obtain ⟨x3_1, x4_1, rfl, rfl, HA, HK1, HB⟩ := hrel
   cases gk with
   | zero => exact absurd HA.out (by simp [slices_Max_int64_int64.l0])
   | succ k1 =>
    have H := HA.out
    clear HA
    simp only [slices_Max_int64_int64.l0] at H
    by_cases c4 : x4_1 < (l0.length : Int)
    ·rw [if_pos c4] at H
     have c4b0 : decide (x4_1 < (l0.length : Int)) = true := decide_eq_true c4
     clear c4
     by_cases c5 : 0 ≤ x4_1
     rotate_left
     ·rw [if_neg c5] at H
      exact absurd H (by simp)
     rw [if_pos c5] at H
     have c5b0 : decide (0 ≤ x4_1) = true := decide_eq_true c5
     clear c5
     obtain ⟨ji6, hji6⟩ : ∃ j_ : Int, (mx x3_1 (rd l0 x4_1)) = j_ := ⟨_, rfl⟩
     replace H : (slices_Max_int64_int64.l0 k1 l0 ji6 (wrap64 (x4_1 + 1))) = some r := by first | (rw [hji6] at H; exact H) | (simp only [hji6] at H ⊢; exact H)
     have hji6_ : (if x3_1 < (rd l0 x4_1) then (rd l0 x4_1) else x3_1) = ji6 := hji6
     have H' := Aside0.mk H
     clear H
     have p292 : 0 ≤ (x4_1 : Int) := dA
     have q292 : x4_1 < (l0.length : Int) := dA
     obtain ⟨ad292, e292, hx292_0⟩ := Kd.at_int HR0.out x4_1 p292 q292
     obtain rfl : ad291 = ad292 := (by injection e292)
     replace hx292_0 := (HB.out.cell (World.block_lt_of_cell? w _ hx292_0)).trans hx292_0
     replace p292 := eq_true p292
     replace q292 := eq_true q292
     go_wp2
     go_roundg k1
     case measure => have := HK1.out; omega
     case rel => exact ⟨(ji6), (wrap64 (x4_1 + 1)), (by first | rfl | (simp; done) | (simp only [← hji6] <;> (first | rfl | simp)) | (simp [*]; done)), (by first | rfl | (simp; done) | (simp [*]; done)), H', ⟨by have := HK1.out; omega⟩, ⟨bA HB.out⟩⟩
    ·rw [if_neg c4] at H
     have c4b0 : decide (x4_1 < (l0.length : Int)) = false := decide_eq_false c4
     clear c4
     obtain rfl := Option.some.inj H
     go_wp2
     go_ret
     exact ⟨by first | rfl | (simp [errW_none, errW_some] <;> rfl) | (simp [*, errW_none, errW_some] <;> rfl), bA HB.out⟩
 ·rw [if_neg c3] at H
  exact absurd H (by simp)
end Go.Proofs.Ytmcobmphmmgdmaa.QFnExactFirstRound
