import Derived.Test.YtmcobmphmmgdmaaZFnExactFirstRoundx0
import Derived.Test.YtmcobmphmmgdmaaZFnExactFirstRoundx2
namespace Go.Proofs.Ytmcobmphmmgdmaa.QFnExactFirstRound
open Go.RowKit Go.Proofs.YtmcobmphmmgdmaaW.PrintWords Go.Proofs.YtmcobmphmmgdmaaW.PrintLast Go.Proofs.YtmcobmphmmgdmaaW.PrintMore
attribute [local go_sem] max2_int min2_int max_two min_two max_three min_three max_four min_four
set_option linter.unusedVariables false
set_option linter.unusedSimpArgs false
def spec_l09Bets.f (k : Nat) (l0_0 : List Int) (a0_1 : Int) (a0_2 : Int) (a0_3 : Int) (a0_4 : Int) (a0_5 : Int) : Option (List Int) := (spec_l09Antes.f k l0_0 a0_1 a0_2 a0_3 a0_4 a0_5).bind fun t149 => (if 0 ≤ (l0_0.length : Int) then (if ((l0_0.length : Int) : Int).toNat ≤ 35184372088832 then ((some (List.replicate ((l0_0.length : Int) : Int).toNat 0 : List Int)).bind fun y152 => ((spec_l09Blinds.f l0_0 a0_1 a0_2 a0_3 a0_4 a0_5).bind fun bt155 => (if 0 ≤ bt155.1 then (if bt155.1 < (l0_0.length : Int) then (if bt155.1 < (t149.length : Int) then (if bt155.1 < (y152.length : Int) then (if 0 ≤ bt155.2 then (if bt155.2 < (l0_0.length : Int) then (if bt155.2 < (t149.length : Int) then (if bt155.2 < (y152.length : Int) then (some ((y152.set (bt155.1 : Int).toNat (mn a0_2 (wrap64 ((rd l0_0 bt155.1) - (rd t149 bt155.1))))).set (bt155.2 : Int).toNat (mn a0_3 (wrap64 ((rd l0_0 bt155.2) - (rd t149 bt155.2)))))) else (none)) else (none)) else (none)) else (none)) else (none)) else (none)) else (none)) else (none)))) else (none)) else (none))
theorem spec_l09Bets.mono : ∀ a0 a1 a2 a3 a4 a5 k, LeO (spec_l09Bets.f k a0 a1 a2 a3 a4 a5) (spec_l09Bets.f (k + 1) a0 a1 a2 a3 a4 a5) := by
 intro a0 a1 a2 a3 a4 a5 k
 unfold spec_l09Bets.f
 repeat' first
   | (with_reducible exact spec_l09Antes.mono _ _ _ _ _ _ _)
   | (with_reducible exact LeO.refl _)
   | (with_reducible exact LeO.none _)
   | (with_reducible refine LeO.ite ?_ ?_)
   | (with_reducible refine LeO.bind ?_ (fun _ => ?_))
   | exact spec_l09Antes.mono _ _ _ _ _ _ _
   | exact LeO.none _
   | refine LeO.ite ?_ ?_
   | refine LeO.bind ?_ (fun _ => ?_)
def spec_l09Bets.T4 : Bool × List (List Nat × List Nat) := (true, [([], []), ([], []), ([], []), ([2], [2]), ([], []), ([4], [4]), ([], []), ([5, 6], [5, 6]), ([7], [7]), ([], []), ([], []), ([9, 10], [9, 10]), ([11], [11]), ([8, 12], [8, 12]), ([3, 13], [3, 13]), ([0, 1, 0, 1, 2, 3, 4, 5, 6, 7, 8, 9, 10, 11, 12, 13, 14], [0, 1]), ([15, 14, 0, 1, 2, 3, 4, 5, 6, 7, 8, 9, 10, 11, 12, 13, 14], [14, 15])])
def spec_l09Bets.B4 : List Nat := [0, 0, 0, 4, 0, 16, 0, 112, 240, 0, 0, 1536, 3584, 8176, 16380, 32767, 65535]
theorem spec_l09Bets.tab4 : rtab .any (opsOf Try.f105 4) = spec_l09Bets.T4 := by kernel_rfl
theorem spec_l09Bets.bits4 : waitsOk spec_l09Bets.T4.2 spec_l09Bets.B4 = true := by kernel_rfl
def spec_l09Bets.T5 : Bool × List (List Nat × List Nat) := (true, [([], []), ([], []), ([], []), ([2], [2]), ([], []), ([4], [4]), ([], []), ([5, 6], [5, 6]), ([7], [7]), ([], []), ([], []), ([9, 10], [9, 10]), ([11], [11]), ([8, 12], [8, 12]), ([3, 13], [3, 13]), ([0, 1, 0, 1, 2, 3, 4, 5, 6, 7, 8, 9, 10, 11, 12, 13, 14], [0, 1]), ([15, 14, 0, 1, 2, 3, 4, 5, 6, 7, 8, 9, 10, 11, 12, 13, 14], [14, 15])])
def spec_l09Bets.B5 : List Nat := [0, 0, 0, 4, 0, 16, 0, 112, 240, 0, 0, 1536, 3584, 8176, 16380, 32767, 65535]
theorem spec_l09Bets.tab5 : rtab .any (opsOf Try.f105 5) = spec_l09Bets.T5 := by kernel_rfl
theorem spec_l09Bets.bits5 : waitsOk spec_l09Bets.T5.2 spec_l09Bets.B5 = true := by kernel_rfl
set_option maxHeartbeats 8000000 in
set_option maxRecDepth 100000 in
theorem spec_l09Bets.calls (k : Nat) (A0_0 : Option Addr) (c0_0 : Nat) (l0_0 : List Int) (a0_1 : Int) (a0_2 : Int) (a0_3 : Int) (a0_4 : Int) (a0_5 : Int) (r : List Int) (w : World) (hr0_0 : Kd.C (Kd.int .i64) w A0_0 l0_0.length l0_0) (hc0_0 : l0_0.length ≤ c0_0) (h : spec_l09Bets.f k l0_0 a0_1 a0_2 a0_3 a0_4 a0_5 = some r) :
  Calls Try.prog 105 #[.agg #[.slice A0_0 l0_0.length c0_0, .int .i64 a0_1, .int .i64 a0_2, .int .i64 a0_3, .int .i64 a0_4, .int .i64 a0_5]] w fun e w' => ∃ v0_ : Value, e = .returned (v0_) ∧ Kd.R (Kd.int .i64) 2 w' w.heap.size (fun _ => True) v0_ r ∧ Below w.heap.size w w' := by
 have hu59 := Try.underlying59
 have HR0_0 := Aside0.mk hr0_0
 have HC0_0 := Aside0.mk hc0_0
 clear hr0_0 hc0_0
 have HB := Aside0.mk (Below.refl w.heap.size w)
 have H : ((spec_l09Antes.f k l0_0 a0_1 a0_2 a0_3 a0_4 a0_5).bind fun t149 => (if 0 ≤ (l0_0.length : Int) then (if ((l0_0.length : Int) : Int).toNat ≤ 35184372088832 then ((some (List.replicate ((l0_0.length : Int) : Int).toNat 0 : List Int)).bind fun y152 => ((spec_l09Blinds.f l0_0 a0_1 a0_2 a0_3 a0_4 a0_5).bind fun bt155 => (if 0 ≤ bt155.1 then (if bt155.1 < (l0_0.length : Int) then (if bt155.1 < (t149.length : Int) then (if bt155.1 < (y152.length : Int) then (if 0 ≤ bt155.2 then (if bt155.2 < (l0_0.length : Int) then (if bt155.2 < (t149.length : Int) then (if bt155.2 < (y152.length : Int) then (some ((y152.set (bt155.1 : Int).toNat (mn a0_2 (wrap64 ((rd l0_0 bt155.1) - (rd t149 bt155.1))))).set (bt155.2 : Int).toNat (mn a0_3 (wrap64 ((rd l0_0 bt155.2) - (rd t149 bt155.2)))))) else (none)) else (none)) else (none)) else (none)) else (none)) else (none)) else (none)) else (none)))) else (none)) else (none))) = some r := h
 clear h
 obtain ⟨t149, A20, H⟩ := Option.bind_eq_some_iff.mp H
 try dsimp only at H
 have A2 := Aside0.mk A20
 clear A20
 by_cases c3 : 0 ≤ (l0_0.length : Int)
 ·rw [if_pos c3] at H
  have c3b0 := eq_true c3
  have c3b1 : decide (0 ≤ (l0_0.length : Int)) = true := decide_eq_true c3
  clear c3
  by_cases c4 : ((l0_0.length : Int) : Int).toNat ≤ 35184372088832
  rotate_left
  ·rw [if_neg c4] at H
   exact absurd H (by simp)
  rw [if_pos c4] at H
  have c4b0 := eq_true c4
  have c4b1 : decide (((l0_0.length : Int) : Int).toNat ≤ 35184372088832) = true := decide_eq_true c4
  clear c4
  obtain ⟨y152, hy152⟩ : ∃ y_ : List Int, y_ = (List.replicate ((l0_0.length : Int) : Int).toNat 0) := ⟨_, rfl⟩
  replace H : ((spec_l09Blinds.f l0_0 a0_1 a0_2 a0_3 a0_4 a0_5).bind fun bt155 => (if 0 ≤ bt155.1 then (if bt155.1 < (l0_0.length : Int) then (if bt155.1 < (t149.length : Int) then (if bt155.1 < (y152.length : Int) then (if 0 ≤ bt155.2 then (if bt155.2 < (l0_0.length : Int) then (if bt155.2 < (t149.length : Int) then (if bt155.2 < (y152.length : Int) then (some ((y152.set (bt155.1 : Int).toNat (mn a0_2 (wrap64 ((rd l0_0 bt155.1) - (rd t149 bt155.1))))).set (bt155.2 : Int).toNat (mn a0_3 (wrap64 ((rd l0_0 bt155.2) - (rd t149 bt155.2)))))) else (none)) else (none)) else (none)) else (none)) else (none)) else (none)) else (none)) else (none))) = some r := by first | (rw [hy152]; with_reducible exact H) | (have H2_ := (Option.bind_some _ _).symm.trans H; rw [hy152]; with_reducible exact H2_) | (have H2_ := (Option.bind_some _ _).symm.trans H; with_reducible exact H2_) | with_reducible exact H | (rw [hy152]; exact H) | exact H
  have Ny152 := Aside0.mk hy152
  clear hy152
  obtain ⟨⟨t155, t156⟩, A50, H⟩ := Option.bind_eq_some_iff.mp H
  try dsimp only at H
  have A5 := Aside0.mk A50
  clear A50
  by_cases c6 : 0 ≤ t155
  rotate_left
  ·rw [if_neg c6] at H
   exact absurd H (by simp)
  rw [if_pos c6] at H
  have c6b0 : decide (0 ≤ t155) = true := decide_eq_true c6
  clear c6
  by_cases c7 : t155 < (l0_0.length : Int)
  rotate_left
  ·rw [if_neg c7] at H
   exact absurd H (by simp)
  rw [if_pos c7] at H
  have c7b0 : decide (t155 < (l0_0.length : Int)) = true := decide_eq_true c7
  clear c7
  by_cases c8 : t155 < (t149.length : Int)
  rotate_left
  ·rw [if_neg c8] at H
   exact absurd H (by simp)
  rw [if_pos c8] at H
  have c8b0 : decide (t155 < (t149.length : Int)) = true := decide_eq_true c8
  clear c8
  obtain ⟨ji9, hji9⟩ : ∃ j_ : Int, (mn a0_2 (wrap64 ((rd l0_0 t155) - (rd t149 t155)))) = j_ := ⟨_, rfl⟩
  replace H : (if t155 < (y152.length : Int) then (if 0 ≤ t156 then (if t156 < (l0_0.length : Int) then (if t156 < (t149.length : Int) then (if t156 < (y152.length : Int) then (some ((y152.set (t155 : Int).toNat (ji9)).set (t156 : Int).toNat (mn a0_3 (wrap64 ((rd l0_0 t156) - (rd t149 t156)))))) else (none)) else (none)) else (none)) else (none)) else (none)) = some r := by first | (rw [hji9] at H; exact H) | (simp only [hji9] at H ⊢; exact H)
  (try rw [hji9] at A2)
  (try rw [hji9] at A5)
  have hji9_ : (if (wrap64 ((rd l0_0 t155) - (rd t149 t155))) < a0_2 then (wrap64 ((rd l0_0 t155) - (rd t149 t155))) else a0_2) = ji9 := hji9
  by_cases c10 : t155 < (y152.length : Int)
  rotate_left
  ·rw [if_neg c10] at H
   exact absurd H (by simp)
  rw [if_pos c10] at H
  have c10b0 : decide (t155 < (y152.length : Int)) = true := decide_eq_true c10
  clear c10
  obtain ⟨y159, hy159⟩ : ∃ y_ : List Int, y_ = (y152.set (t155 : Int).toNat (ji9)) := ⟨_, rfl⟩
  replace H : (if 0 ≤ t156 then (if t156 < (l0_0.length : Int) then (if t156 < (t149.length : Int) then (if t156 < (y152.length : Int) then (some (y159.set (t156 : Int).toNat (mn a0_3 (wrap64 ((rd l0_0 t156) - (rd t149 t156)))))) else (none)) else (none)) else (none)) else (none)) = some r := by first | (rw [hy159]; with_reducible exact H) | (have H2_ := (Option.bind_some _ _).symm.trans H; rw [hy159]; with_reducible exact H2_) | (have H2_ := (Option.bind_some _ _).symm.trans H; with_reducible exact H2_) | with_reducible exact H | (rw [hy159]; exact H) | exact H
  have Ny159 := Aside0.mk hy159
  clear hy159
  by_cases c12 : 0 ≤ t156
  rotate_left
  ·rw [if_neg c12] at H
   exact absurd H (by simp)
  rw [if_pos c12] at H
  have c12b0 : decide (0 ≤ t156) = true := decide_eq_true c12
  clear c12
  by_cases c13 : t156 < (l0_0.length : Int)
  rotate_left
  ·rw [if_neg c13] at H
   exact absurd H (by simp)
  rw [if_pos c13] at H
  have c13b0 : decide (t156 < (l0_0.length : Int)) = true := decide_eq_true c13
  clear c13
  by_cases c14 : t156 < (t149.length : Int)
  rotate_left
  ·rw [if_neg c14] at H
   exact absurd H (by simp)
  rw [if_pos c14] at H
  have c14b0 : decide (t156 < (t149.length : Int)) = true := decide_eq_true c14
  clear c14
  obtain ⟨ji15, hji15⟩ : ∃ j_ : Int, (mn a0_3 (wrap64 ((rd l0_0 t156) - (rd t149 t156)))) = j_ := ⟨_, rfl⟩
  replace H : (if t156 < (y152.length : Int) then (some (y159.set (t156 : Int).toNat (ji15))) else (none)) = some r := by first | (rw [hji15] at H; exact H) | (simp only [hji15] at H ⊢; exact H)
  (try rw [hji15] at A2)
  (try rw [hji15] at A5)
  have hji15_ : (if (wrap64 ((rd l0_0 t156) - (rd t149 t156))) < a0_3 then (wrap64 ((rd l0_0 t156) - (rd t149 t156))) else a0_3) = ji15 := hji15
  by_cases c16 : t156 < (y152.length : Int)
  rotate_left
  ·rw [if_neg c16] at H
   exact absurd H (by simp)
  rw [if_pos c16] at H
  have c16b0 : decide (t156 < (y152.length : Int)) = true := decide_eq_true c16
  clear c16
  obtain ⟨y162, hy162⟩ : ∃ y_ : List Int, y_ = (y159.set (t156 : Int).toNat (ji15)) := ⟨_, rfl⟩
  replace H : (some y162) = some r := by first | (rw [hy162]; with_reducible exact H) | (have H2_ := (Option.bind_some _ _).symm.trans H; rw [hy162]; with_reducible exact H2_) | (have H2_ := (Option.bind_some _ _).symm.trans H; with_reducible exact H2_) | with_reducible exact H | (rw [hy162]; exact H) | exact H
  have Ny162 := Aside0.mk hy162
  clear hy162
  obtain rfl := Option.some.inj H
  go_enter Try.func105, Try.ntmps105
  try go_wp2_with (first | ((with_reducible refine gate_dst (N := 1) rfl ?_); refine bE 1 #[.slice A0_0 l0_0.length c0_0, .int .i64 a0_1, .int .i64 a0_2, .int .i64 a0_3, .int .i64 a0_4, .int .i64 a0_5] 59 ?_; intro gb148 hg w18 hbox hb; have BK148 := Aside0.mk (hbox); have GW148 := Aside0.mk (gE hg (bA HB.out)); have GE148 := Aside0.mk (gE hg (bA HB.out)); replace HB := Aside0.mk (below_step (bA HB.out) hb); clear hb hbox hg; obtain ⟨hcz19_0, hcz19_1, hcz19_2, hcz19_3, hcz19_4, hcz19_5, hfz19_0, hfz19_1, hfz19_2, hfz19_3, hfz19_4, hfz19_5⟩ := cz6 BK148.out) | ((with_reducible refine gate_callee (f := 104) rfl ?_); refine gL (some 8) Try.func104 #[.agg #[.slice A0_0 l0_0.length c0_0, .int .i64 a0_1, .int .i64 a0_2, .int .i64 a0_3, .int .i64 a0_4, .int .i64 a0_5]] ?_; (with_reducible refine (spec_l09Antes.calls k _ _ l0_0 a0_1 a0_2 a0_3 a0_4 a0_5 t149 _ ?side1 ?side2 A2.out).mono ?_); (case side1 => exact cA (Kd.C_below HR0_0.out HB.out)); (case side2 => exact HC0_0.out); rintro e w20 ⟨v150, rfl, ho0, hb⟩; refine ⟨_, rfl, ?_⟩; have HO151 := Aside0.mk (Kd.R_lower ho0 (below_size (bA HB.out))); replace BK148 := Aside0.mk (blk_below (kA BK148.out) hb); replace HB := Aside0.mk (below_step (bA HB.out) hb); (try clear hb); (try clear ho0); obtain ⟨hcz21_0, hcz21_1, hcz21_2, hcz21_3, hcz21_4, hcz21_5, hfz21_0, hfz21_1, hfz21_2, hfz21_3, hfz21_4, hfz21_5⟩ := cz6 BK148.out) | ((with_reducible refine gate_dst (N := 12) rfl ?_); refine Kd.R_make (Kd.int .i64) _ 2 rfl (N := 12) rfl 22 _ _ rfl (l0_0.length : Int) rfl rfl Try.underlying22 (.int .i64 0) 8 info2 rfl (by decide) (by omega) 0 (ok := fun _ => True) (okp := fun _ => True) rfl (fun _ hk => hk) trivial (dA) (Nat.le_trans (Nat.mul_le_mul_right _ (dA : (l0_0.length : Int).toNat ≤ 35184372088832)) (by omega)) (Below.refl _ _) (Nat.le_refl _) ?_; intro v153 w22 ho23 hb hg_ hnew_; clear hg_ hnew_; (first | rw [← Ny152.out] at ho23 | (simp only [Int.reduceToNat] at ho23; rw [← Ny152.out] at ho23)); have HO154 := Aside0.mk (Kd.R_lower (Kd.R_new' ho23 (Kd.R_lt (rA HO151.out))) (below_size (bA HB.out))); replace HO151 := Aside0.mk (Kd.R_elder' (rA HO151.out) (Kd.R_base ho23) hb); replace BK148 := Aside0.mk (blk_below (kA BK148.out) hb); replace HB := Aside0.mk (below_step (bA HB.out) hb); clear hb ho23; obtain ⟨hcz24_0, hcz24_1, hcz24_2, hcz24_3, hcz24_4, hcz24_5, hfz24_0, hfz24_1, hfz24_2, hfz24_3, hfz24_4, hfz24_5⟩ := cz6 BK148.out) | ((with_reducible refine gate_callee (f := 112) rfl ?_); refine gL (some 15) Try.func112 #[.agg #[.slice A0_0 l0_0.length c0_0, .int .i64 a0_1, .int .i64 a0_2, .int .i64 a0_3, .int .i64 a0_4, .int .i64 a0_5]] ?_; (with_reducible refine (spec_l09Blinds.calls _ _ l0_0 a0_1 a0_2 a0_3 a0_4 a0_5 t155 t156 _ ?side1 ?side2 A5.out).mono ?_); (case side1 => exact cA (Kd.C_below HR0_0.out HB.out)); (case side2 => exact HC0_0.out); rintro e w25 ⟨rfl, hb⟩; refine ⟨_, rfl, ?_⟩; replace HO151 := Aside0.mk (Kd.R_below (rA HO151.out) hb); replace HO154 := Aside0.mk (Kd.R_below (rA HO154.out) hb); replace BK148 := Aside0.mk (blk_below (kA BK148.out) hb); replace HB := Aside0.mk (below_step (bA HB.out) hb); (try clear hb)))
  replace HO151 := Aside0.mk (Kd.R_drew HO151.out)
  replace HO154 := Aside0.mk (Kd.R_drew HO154.out)
  replace BK148 := Aside0.mk (blk_drew BK148.out)
  replace HB := Aside0.mk (below_drew1 HB.out)
  have p157 : 0 ≤ (t155 : Int) := dA
  have q157 : t155 < (l0_0.length : Int) := dA
  obtain ⟨ad157, e157, hx157_0⟩ := Kd.at_int HR0_0.out t155 p157 q157
  have hw157_0 := hx157_0
  cases e157
  replace hx157_0 := (HB.out.cell (World.block_lt_of_cell? w _ hx157_0)).trans hx157_0
  replace p157 := eq_true p157
  replace q157 := eq_true q157
  obtain ⟨Ao27, co27, eo27⟩ := Kd.R_slice HO151.out
  (first | subst eo27 | (injection eo27 with f1_ f2_ f3_; have f4_ := f1_.symm; have f5_ := f3_.symm; clear f1_ f2_ f3_; subst f4_; subst f5_))
  have p158 : 0 ≤ (t155 : Int) := dA
  have q158 : t155 < (t149.length : Int) := dA
  obtain ⟨ad158, e158, hx158_0⟩ := Kd.at_int (Kd.R_reads' HO151.out).2.2 t155 p158 q158
  cases e158
  replace p158 := eq_true p158
  replace q158 := eq_true q158
  have p11 : 0 ≤ (t155 : Int) := dA
  have q11 : (t155 : Int) < ((y152.length : Int) : Int) := dA
  obtain ⟨go11, co11, eo11, gb11, gl11, cl11, HG11⟩ := Kd.R_form HO154.out (by omega)
  (first | cases eo11 | (injection eo11 with ea_ en_ ec_; (first | subst ea_ | (injection ea_ with ea_; subst ea_)); subst ec_; clear en_))
  have GB11 := Aside0.mk gb11
  have GG11 := Aside0.mk HG11
  clear gb11 gl11 HG11
  obtain ⟨hx11_0, hf11_0⟩ := Kd.R_celln 0 HO154.out (t155 : Int) p11 q11
  replace p11 := eq_true p11
  replace q11 := eq_true q11
  have HP28 := Kd.R_putn HO154.out (t155 : Int) ji9
  rw [← Ny159.out] at HP28
  have HQ28 := Aside0.mk HP28
  clear HP28
  refine start_ (n := 17) (S := fun w' => w'.cell? ⟨gb148, 0, none⟩ = some (.slice (some ad157) l0_0.length c0_0) ∧ w'.cell? ⟨gb148, 1, none⟩ = some (.int .i64 a0_1) ∧ w'.cell? ⟨gb148, 2, none⟩ = some (.int .i64 a0_2) ∧ w'.cell? ⟨gb148, 3, none⟩ = some (.int .i64 a0_3) ∧ w'.cell? ⟨gb148, 4, none⟩ = some (.int .i64 a0_4) ∧ w'.cell? ⟨gb148, 5, none⟩ = some (.int .i64 a0_5) ∧ w'.cell? (ad157.add (t155).toNat) = some (.int .i64 (rd l0_0 t155)) ∧ w'.cell? (ad158.add (t155).toNat) = some (.int .i64 (rd t149 t155))) (ds := [16]) #[false, false, false, false, false, false, false, false, false, false, false, false, false, false, false, false, false] (by kernel_rfl) rfl rfl ⟨(blk_cell BK148.out 0).trans rfl, (blk_cell BK148.out 1).trans rfl, (blk_cell BK148.out 2).trans rfl, (blk_cell BK148.out 3).trans rfl, (blk_cell BK148.out 4).trans rfl, (blk_cell BK148.out 5).trans rfl, ((HB.out.cell (World.block_lt_of_cell? w _ hw157_0)).trans hw157_0), hx158_0⟩ (fun hHeld => ?_); refine with_tabW spec_l09Bets.tab4 spec_l09Bets.bits4 (fun HT_ HW_ => ?_)
  generalize w25.drew = w26 at HO151 HO154 BK148 HB GG11 HQ28 hf11_0 hx11_0 hx157_0 hx158_0 hHeld ⊢
  refine pI 0 (some 18) #[true, false, false, false, false, false, false, false, false, false, false, false, false, false, false, false, false] HT_.out ?_
  refine pI 1 (some 19) #[true, true, false, false, false, false, false, false, false, false, false, false, false, false, false, false, false] HT_.out ?_
  refine pI 2 (some 20) #[true, true, true, false, false, false, false, false, false, false, false, false, false, false, false, false, false] HT_.out ?_
  refine pI 4 (some 22) #[true, true, true, false, true, false, false, false, false, false, false, false, false, false, false, false, false] HT_.out ?_
  refine pI 6 (some 24) #[true, true, true, false, true, false, true, false, false, false, false, false, false, false, false, false, false] HT_.out ?_
  refine pI 9 (some 27) #[true, true, true, false, true, false, true, false, false, true, false, false, false, false, false, false, false] HT_.out ?_
  refine pI 10 (some 28) #[true, true, true, false, true, false, true, false, false, true, true, false, false, false, false, false, false] HT_.out ?_
  refine pI 11 (some 29) #[true, true, true, false, true, false, true, false, false, true, true, true, false, false, false, false, false] HT_.out ?_
  refine tI 3 (some 21) #[true, true, true, true, true, false, true, false, false, true, true, true, false, false, false, false, false] HT_.out HW_.out hHeld ?_
  refine tI 5 (some 23) #[true, true, true, true, true, true, true, false, false, true, true, true, false, false, false, false, false] HT_.out HW_.out hHeld ?_
  refine pI 7 (some 25) #[true, true, true, true, true, true, true, true, false, true, true, true, false, false, false, false, false] HT_.out ?_
  refine tI 8 (some 26) #[true, true, true, true, true, true, true, true, true, true, true, true, false, false, false, false, false] HT_.out HW_.out hHeld ?_
  refine tI 12 (some 30) #[true, true, true, true, true, true, true, true, true, true, true, true, true, false, false, false, false] HT_.out HW_.out hHeld ?_
  refine pI 13 (some 31) #[true, true, true, true, true, true, true, true, true, true, true, true, true, true, false, false, false] HT_.out ?_
  refine pI 14 (some 32) #[true, true, true, true, true, true, true, true, true, true, true, true, true, true, true, false, false] HT_.out ?_
  refine pI 15 (some 33) #[true, true, true, true, true, true, true, true, true, true, true, true, true, true, true, true, false] HT_.out ?_
  refine last_ (i := 16) (N := none) #[true, true, true, true, true, true, true, true, true, true, true, true, true, true, true, true, true] rfl rfl (one_of HT_.out (by kernel_rfl)) (by decide) (fun K hK => ?_)
  refine skip_ (w1 := ?_) (by rfl) rfl ?_ ?_
  rotate_left
  ·go_simp
   rfl
  refine hK.out _ _ ?_
  clear hK K
  refine done_ (done_of HT_.out (by kernel_rfl)) ?_
  try go_wp2
  have n0_ : Aside0 (Kd.R (Kd.int .i64) 2 (w26.setCell ⟨go11, (t155 : Int).toNat, none⟩ (.int .i64 ji9)) w.heap.size (fun k_ => some k_ ≠ (.slice (some ⟨go11, 0, none⟩) y152.length co11 : Value).ownBlock) (.slice (some ad158) t149.length co27) t149) := ⟨by (with_reducible repeat (first | apply Kd.R_alloc | apply Kd.R_drewN | apply Kd.R_drew)); exact Kd.R_mono (Kd.R_far (p := ⟨go11, (t155 : Int).toNat, none⟩) (Kd.R_mono HO151.out (fun k_ hk => (⟨hk, fun e_ => hk.2 (by rw [e_]; rfl)⟩ : _ ∧ k_ ≠ go11))) (fun _ hk => hk.2) (.int .i64 ji9)) (fun _ hk => hk.1.2)⟩
  have n1_ : Aside0 (Kd.R (Kd.int .i64) 2 (w26.setCell ⟨go11, (t155 : Int).toNat, none⟩ (.int .i64 ji9)) w.heap.size (fun k_ => some k_ ≠ (.slice (some ad158) t149.length co27 : Value).ownBlock) (.slice (some ⟨go11, 0, none⟩) y152.length co11) y159) := ⟨by (with_reducible repeat (first | apply Kd.R_alloc | apply Kd.R_drewN | apply Kd.R_drew)); exact Kd.R_mono HQ28.out (fun _ hk => hk.2)⟩
  have n2_ : Aside0 ((w26.setCell ⟨go11, (t155 : Int).toNat, none⟩ (.int .i64 ji9)).heap[gb148]? = some (.cells #[.slice (some ad157) l0_0.length c0_0, .int .i64 a0_1, .int .i64 a0_2, .int .i64 a0_3, .int .i64 a0_4, .int .i64 a0_5] 59 (0, 0))) := ⟨by (with_reducible repeat (first | refine blk_drewN ?_ _ | refine blk_drew ?_ | refine blk_alloc ?_ _)); refine blk_far ?_ (by have h_ := Kd.R_ne HO154.out BK148.out (by decide); intro e_; exact h_ (by rw [e_]; rfl)) _; (with_reducible repeat (first | refine blk_drewN ?_ _ | refine blk_drew ?_ | refine blk_alloc ?_ _)); exact BK148.out⟩
  have n3_ : Aside0 (Below w.heap.size w (w26.setCell ⟨go11, (t155 : Int).toNat, none⟩ (.int .i64 ji9))) := ⟨by repeat (first | (with_reducible first | exact HB.out | apply below_alloc | apply pw_below_drewN | apply below_drew1 | refine below_set ?_ GB11.out | refine below_set ?_ GE148.out) | exact HB.out)⟩
  (try clear HO151)
  (try clear HO154)
  (try clear BK148)
  (try clear HB)
  generalize (w26.setCell ⟨go11, (t155 : Int).toNat, none⟩ (.int .i64 ji9)) = w29 at n0_ n1_ n2_ n3_ ⊢
  have HO151 := n0_
  have HO154 := n1_
  have BK148 := n2_
  have HB := n3_
  clear n0_ n1_ n2_ n3_
  replace HO151 := Aside0.mk (Kd.R_drew HO151.out)
  replace HO154 := Aside0.mk (Kd.R_drew HO154.out)
  replace BK148 := Aside0.mk (blk_drew BK148.out)
  replace HB := Aside0.mk (below_drew1 HB.out)
  have p160 : 0 ≤ (t156 : Int) := dA
  have q160 : t156 < (l0_0.length : Int) := dA
  obtain ⟨ad160, e160, hx160_0⟩ := Kd.at_int HR0_0.out t156 p160 q160
  have hw160_0 := hx160_0
  obtain rfl : ad157 = ad160 := (by injection e160)
  replace hx160_0 := (HB.out.cell (World.block_lt_of_cell? w _ hx160_0)).trans hx160_0
  replace p160 := eq_true p160
  replace q160 := eq_true q160
  have p161 : 0 ≤ (t156 : Int) := dA
  have q161 : t156 < (t149.length : Int) := dA
  obtain ⟨ad161, e161, hx161_0⟩ := Kd.at_int (Kd.R_reads' HO151.out).2.2 t156 p161 q161
  obtain rfl : ad158 = ad161 := (by injection e161)
  replace p161 := eq_true p161
  replace q161 := eq_true q161
  have p17 : 0 ≤ (t156 : Int) := dA
  have q17 : (t156 : Int) < ((y152.length : Int) : Int) := dA
  obtain ⟨hx17_0, hf17_0⟩ := Kd.R_celln 0 HO154.out (t156 : Int) p17 q17
  replace p17 := eq_true p17
  replace q17 := eq_true q17
  have HP31 := Kd.R_putn HO154.out (t156 : Int) ji15
  rw [← Ny162.out] at HP31
  have HQ31 := Aside0.mk HP31
  clear HP31
  refine start_ (n := 17) (S := fun w' => w'.cell? ⟨gb148, 0, none⟩ = some (.slice (some ad157) l0_0.length c0_0) ∧ w'.cell? ⟨gb148, 1, none⟩ = some (.int .i64 a0_1) ∧ w'.cell? ⟨gb148, 2, none⟩ = some (.int .i64 a0_2) ∧ w'.cell? ⟨gb148, 3, none⟩ = some (.int .i64 a0_3) ∧ w'.cell? ⟨gb148, 4, none⟩ = some (.int .i64 a0_4) ∧ w'.cell? ⟨gb148, 5, none⟩ = some (.int .i64 a0_5) ∧ w'.cell? (ad157.add (t156).toNat) = some (.int .i64 (rd l0_0 t156)) ∧ w'.cell? (ad158.add (t156).toNat) = some (.int .i64 (rd t149 t156))) (ds := [16]) #[false, false, false, false, false, false, false, false, false, false, false, false, false, false, false, false, false] (by kernel_rfl) rfl rfl ⟨(blk_cell BK148.out 0).trans rfl, (blk_cell BK148.out 1).trans rfl, (blk_cell BK148.out 2).trans rfl, (blk_cell BK148.out 3).trans rfl, (blk_cell BK148.out 4).trans rfl, (blk_cell BK148.out 5).trans rfl, ((HB.out.cell (World.block_lt_of_cell? w _ hw160_0)).trans hw160_0), hx161_0⟩ (fun hHeld => ?_); refine with_tabW spec_l09Bets.tab5 spec_l09Bets.bits5 (fun HT_ HW_ => ?_)
  generalize w29.drew = w30 at HO151 HO154 BK148 HB HQ28 HQ31 hf17_0 hx160_0 hx161_0 hx17_0 hHeld ⊢
  refine pI 0 (some 34) #[true, false, false, false, false, false, false, false, false, false, false, false, false, false, false, false, false] HT_.out ?_
  refine pI 1 (some 35) #[true, true, false, false, false, false, false, false, false, false, false, false, false, false, false, false, false] HT_.out ?_
  refine pI 2 (some 36) #[true, true, true, false, false, false, false, false, false, false, false, false, false, false, false, false, false] HT_.out ?_
  refine pI 4 (some 38) #[true, true, true, false, true, false, false, false, false, false, false, false, false, false, false, false, false] HT_.out ?_
  refine pI 6 (some 40) #[true, true, true, false, true, false, true, false, false, false, false, false, false, false, false, false, false] HT_.out ?_
  refine pI 9 (some 43) #[true, true, true, false, true, false, true, false, false, true, false, false, false, false, false, false, false] HT_.out ?_
  refine pI 10 (some 44) #[true, true, true, false, true, false, true, false, false, true, true, false, false, false, false, false, false] HT_.out ?_
  refine pI 11 (some 45) #[true, true, true, false, true, false, true, false, false, true, true, true, false, false, false, false, false] HT_.out ?_
  refine tI 3 (some 37) #[true, true, true, true, true, false, true, false, false, true, true, true, false, false, false, false, false] HT_.out HW_.out hHeld ?_
  refine tI 5 (some 39) #[true, true, true, true, true, true, true, false, false, true, true, true, false, false, false, false, false] HT_.out HW_.out hHeld ?_
  refine pI 7 (some 41) #[true, true, true, true, true, true, true, true, false, true, true, true, false, false, false, false, false] HT_.out ?_
  refine tI 8 (some 42) #[true, true, true, true, true, true, true, true, true, true, true, true, false, false, false, false, false] HT_.out HW_.out hHeld ?_
  refine tI 12 (some 46) #[true, true, true, true, true, true, true, true, true, true, true, true, true, false, false, false, false] HT_.out HW_.out hHeld ?_
  refine pI 13 (some 47) #[true, true, true, true, true, true, true, true, true, true, true, true, true, true, false, false, false] HT_.out ?_
  refine pI 14 (some 48) #[true, true, true, true, true, true, true, true, true, true, true, true, true, true, true, false, false] HT_.out ?_
  refine pI 15 (some 49) #[true, true, true, true, true, true, true, true, true, true, true, true, true, true, true, true, false] HT_.out ?_
  refine last_ (i := 16) (N := none) #[true, true, true, true, true, true, true, true, true, true, true, true, true, true, true, true, true] rfl rfl (one_of HT_.out (by kernel_rfl)) (by decide) (fun K hK => ?_)
  refine skip_ (w1 := ?_) (by rfl) rfl ?_ ?_
  rotate_left
  ·go_simp
   rfl
  refine hK.out _ _ ?_
  clear hK K
  refine done_ (done_of HT_.out (by kernel_rfl)) ?_
  try go_wp2
  go_ret
  exact ⟨_, by first | rfl | (simp [errW_none, errW_some] <;> rfl) | (simp only [← hji9, ← hji15]; first | rfl | (simp [errW_none, errW_some] <;> rfl)) | (simp [*, errW_none, errW_some] <;> rfl), by (with_reducible repeat (first | apply Kd.R_alloc | apply Kd.R_drewN | apply Kd.R_drew)); exact Kd.R_mono HQ31.out (fun _ hk => trivial), by repeat (first | (with_reducible first | exact HB.out | apply below_alloc | apply pw_below_drewN | apply below_drew1 | refine below_set ?_ GB11.out | refine below_set ?_ GE148.out) | exact HB.out)⟩
 ·rw [if_neg c3] at H
  exact absurd H (by simp)
def spec_l09First.f (l0_0 : List Int) (a0_1 : Int) (a0_2 : Int) (a0_3 : Int) (a0_4 : Int) (a0_5 : Int) (a1 : Int) : Option (Int) := if a1 = 0 then ((spec_l09Blinds.f l0_0 a0_1 a0_2 a0_3 a0_4 a0_5).bind fun bt164 => ((spec_l09Left.f bt164.2 (l0_0.length : Int)).bind fun t166 => (some t166))) else ((spec_l09Left.f a0_1 (l0_0.length : Int)).bind fun t167 => (some t167))
set_option maxHeartbeats 8000000 in
set_option maxRecDepth 100000 in
theorem spec_l09First.calls (A0_0 : Option Addr) (c0_0 : Nat) (l0_0 : List Int) (a0_1 : Int) (a0_2 : Int) (a0_3 : Int) (a0_4 : Int) (a0_5 : Int) (a1 : Int) (r : Int) (w : World) (hr0_0 : Kd.C (Kd.int .i64) w A0_0 l0_0.length l0_0) (hc0_0 : l0_0.length ≤ c0_0) (h : spec_l09First.f l0_0 a0_1 a0_2 a0_3 a0_4 a0_5 a1 = some r) :
  Calls Try.prog 106 #[.agg #[.slice A0_0 l0_0.length c0_0, .int .i64 a0_1, .int .i64 a0_2, .int .i64 a0_3, .int .i64 a0_4, .int .i64 a0_5], .int .i64 a1] w fun e w' => e = .returned (.int .i64 r) ∧ Below w.heap.size w w' := by
 have hu59 := Try.underlying59
 have HR0_0 := Aside0.mk hr0_0
 have HC0_0 := Aside0.mk hc0_0
 clear hr0_0 hc0_0
 have HB := Aside0.mk (Below.refl w.heap.size w)
 have H : (if a1 = 0 then ((spec_l09Blinds.f l0_0 a0_1 a0_2 a0_3 a0_4 a0_5).bind fun bt164 => ((spec_l09Left.f bt164.2 (l0_0.length : Int)).bind fun t166 => (some t166))) else ((spec_l09Left.f a0_1 (l0_0.length : Int)).bind fun t167 => (some t167))) = some r := h
 clear h
 by_cases c3 : a1 = 0
 ·rw [if_pos c3] at H
  have c3b0 : (a1 == 0) = true := beq_iff_eq.mpr c3
  have c3b1 : (a1 != 0) = false := bne_eq_false_iff_eq.mpr c3
  clear c3
  obtain ⟨⟨t164, t165⟩, A40, H⟩ := Option.bind_eq_some_iff.mp H
  try dsimp only at H
  have A4 := Aside0.mk A40
  clear A40
  obtain ⟨t166, A50, H⟩ := Option.bind_eq_some_iff.mp H
  try dsimp only at H
  have A5 := Aside0.mk A50
  clear A50
  obtain rfl := Option.some.inj H
  go_enter Try.func106, Try.ntmps106
  go_wp2_with (first | ((with_reducible refine gate_dst (N := 2) rfl ?_); refine bE 2 #[.slice A0_0 l0_0.length c0_0, .int .i64 a0_1, .int .i64 a0_2, .int .i64 a0_3, .int .i64 a0_4, .int .i64 a0_5] 59 ?_; intro gb163 hg w6 hbox hb; have BK163 := Aside0.mk (hbox); have GW163 := Aside0.mk (gE hg (bA HB.out)); have GE163 := Aside0.mk (gE hg (bA HB.out)); replace HB := Aside0.mk (below_step (bA HB.out) hb); clear hb hbox hg; obtain ⟨hcz7_0, hcz7_1, hcz7_2, hcz7_3, hcz7_4, hcz7_5, hfz7_0, hfz7_1, hfz7_2, hfz7_3, hfz7_4, hfz7_5⟩ := cz6 BK163.out) | ((with_reducible refine gate_callee (f := 112) rfl ?_); refine gL (some 15) Try.func112 #[.agg #[.slice A0_0 l0_0.length c0_0, .int .i64 a0_1, .int .i64 a0_2, .int .i64 a0_3, .int .i64 a0_4, .int .i64 a0_5]] ?_; (with_reducible refine (spec_l09Blinds.calls _ _ l0_0 a0_1 a0_2 a0_3 a0_4 a0_5 t164 t165 _ ?side1 ?side2 A4.out).mono ?_); (case side1 => exact cA (Kd.C_below HR0_0.out HB.out)); (case side2 => exact HC0_0.out); rintro e w8 ⟨rfl, hb⟩; refine ⟨_, rfl, ?_⟩; replace BK163 := Aside0.mk (blk_below (kA BK163.out) hb); replace HB := Aside0.mk (below_step (bA HB.out) hb); (try clear hb)) | ((with_reducible refine gate_callee (f := 113) rfl ?_); refine gL (some 20) Try.func113 #[.int .i64 t165, .int .i64 (l0_0.length : Int)] ?_; (with_reducible refine (spec_l09Left.calls t165 (l0_0.length : Int) t166 _ A5.out).mono ?_); rintro e w' ⟨rfl, ⟨nd, rfl⟩⟩; refine ⟨_, rfl, ?_⟩))
  go_ret
  exact ⟨by first | rfl | (simp [errW_none, errW_some] <;> rfl) | (simp [*, errW_none, errW_some] <;> rfl), bA HB.out⟩
 ·rw [if_neg c3] at H
  have c3b0 : (a1 == 0) = false := beq_eq_false_iff_ne.mpr c3
  have c3b1 : (a1 != 0) = true := bne_iff_ne.mpr c3
  obtain ⟨t167, A90, H⟩ := Option.bind_eq_some_iff.mp H
  try dsimp only at H
  have A9 := Aside0.mk A90
  clear A90
  obtain rfl := Option.some.inj H
  go_enter Try.func106, Try.ntmps106
  go_wp2_with (first | ((with_reducible refine gate_dst (N := 2) rfl ?_); refine bE 2 #[.slice A0_0 l0_0.length c0_0, .int .i64 a0_1, .int .i64 a0_2, .int .i64 a0_3, .int .i64 a0_4, .int .i64 a0_5] 59 ?_; intro gb163 hg w10 hbox hb; have BK163 := Aside0.mk (hbox); have GW163 := Aside0.mk (gE hg (bA HB.out)); have GE163 := Aside0.mk (gE hg (bA HB.out)); replace HB := Aside0.mk (below_step (bA HB.out) hb); clear hb hbox hg; obtain ⟨hcz11_0, hcz11_1, hcz11_2, hcz11_3, hcz11_4, hcz11_5, hfz11_0, hfz11_1, hfz11_2, hfz11_3, hfz11_4, hfz11_5⟩ := cz6 BK163.out) | ((with_reducible refine gate_callee (f := 113) rfl ?_); refine gL (some 24) Try.func113 #[.int .i64 a0_1, .int .i64 (l0_0.length : Int)] ?_; (with_reducible refine (spec_l09Left.calls a0_1 (l0_0.length : Int) t167 _ A9.out).mono ?_); rintro e w' ⟨rfl, ⟨nd, rfl⟩⟩; refine ⟨_, rfl, ?_⟩))
  go_ret
  exact ⟨by first | rfl | (simp [errW_none, errW_some] <;> rfl) | (simp [*, errW_none, errW_some] <;> rfl), bA HB.out⟩
def spec_l10Can.f (l0_0 : List Int) (l0_1 : List Int) (l0_2 : List Int) (l0_3 : List Bool) (l0_4 : List Bool) (a0_5 : Int) (a0_6 : Int) (a0_7 : Int) (a0_8 : Int) (a1 : Int) : Option (Bool) := if 0 ≤ a1 then (if a1 < (l0_3.length : Int) then (if rdOf false l0_3 a1 = true then (some false) else (if a1 < (l0_0.length : Int) then (some (decide ((rd l0_0 a1) > 0))) else (none))) else (none)) else (none)
set_option maxHeartbeats 8000000 in
set_option maxRecDepth 100000 in
theorem spec_l10Can.calls (A0_0 : Option Addr) (c0_0 : Nat) (l0_0 : List Int) (A0_1 : Option Addr) (c0_1 : Nat) (l0_1 : List Int) (A0_2 : Option Addr) (c0_2 : Nat) (l0_2 : List Int) (A0_3 : Option Addr) (c0_3 : Nat) (l0_3 : List Bool) (A0_4 : Option Addr) (c0_4 : Nat) (l0_4 : List Bool) (a0_5 : Int) (a0_6 : Int) (a0_7 : Int) (a0_8 : Int) (a1 : Int) (r : Bool) (w : World) (hr0_0 : Kd.C (Kd.int .i64) w A0_0 l0_0.length l0_0) (hc0_0 : l0_0.length ≤ c0_0) (hr0_1 : Kd.C (Kd.int .i64) w A0_1 l0_1.length l0_1) (hc0_1 : l0_1.length ≤ c0_1) (hr0_2 : Kd.C (Kd.int .i64) w A0_2 l0_2.length l0_2) (hc0_2 : l0_2.length ≤ c0_2) (hr0_3 : Kd.C Kd.bool w A0_3 l0_3.length l0_3) (hc0_3 : l0_3.length ≤ c0_3) (hr0_4 : Kd.C Kd.bool w A0_4 l0_4.length l0_4) (hc0_4 : l0_4.length ≤ c0_4) (h : spec_l10Can.f l0_0 l0_1 l0_2 l0_3 l0_4 a0_5 a0_6 a0_7 a0_8 a1 = some r) :
  Calls Try.prog 97 #[.agg #[.slice A0_0 l0_0.length c0_0, .slice A0_1 l0_1.length c0_1, .slice A0_2 l0_2.length c0_2, .slice A0_3 l0_3.length c0_3, .slice A0_4 l0_4.length c0_4, .int .i64 a0_5, .int .i64 a0_6, .int .i64 a0_7, .int .i64 a0_8], .int .i64 a1] w fun e w' => e = .returned (.bool r) ∧ Below w.heap.size w w' := by
 have hu28 := Try.underlying28
 have HR0_0 := Aside0.mk hr0_0
 have HC0_0 := Aside0.mk hc0_0
 clear hr0_0 hc0_0
 have HR0_1 := Aside0.mk hr0_1
 have HC0_1 := Aside0.mk hc0_1
 clear hr0_1 hc0_1
 have HR0_2 := Aside0.mk hr0_2
 have HC0_2 := Aside0.mk hc0_2
 clear hr0_2 hc0_2
 have HR0_3 := Aside0.mk hr0_3
 have HC0_3 := Aside0.mk hc0_3
 clear hr0_3 hc0_3
 have HR0_4 := Aside0.mk hr0_4
 have HC0_4 := Aside0.mk hc0_4
 clear hr0_4 hc0_4
 have HB := Aside0.mk (Below.refl w.heap.size w)
 have H : (if 0 ≤ a1 then (if a1 < (l0_3.length : Int) then (if rdOf false l0_3 a1 = true then (some false) else (if a1 < (l0_0.length : Int) then (some (decide ((rd l0_0 a1) > 0))) else (none))) else (none)) else (none)) = some r := h
 clear h
 by_cases c3 : 0 ≤ a1
 ·rw [if_pos c3] at H
  have c3b0 : decide (0 ≤ a1) = true := decide_eq_true c3
  clear c3
  by_cases c4 : a1 < (l0_3.length : Int)
  rotate_left
  ·rw [if_neg c4] at H
   exact absurd H (by simp)
  rw [if_pos c4] at H
  have c4b0 : decide (a1 < (l0_3.length : Int)) = true := decide_eq_true c4
  clear c4
  obtain ⟨bq5, hbq5⟩ : ∃ b_ : Bool, b_ = (rdOf false l0_3 a1) := ⟨_, rfl⟩
  replace H : (if bq5 = true then (some false) else (if a1 < (l0_0.length : Int) then (some (decide ((rd l0_0 a1) > 0))) else (none))) = some r := by rw [← hbq5] at H; exact H
  have Nbq5 := Aside0.mk hbq5
  clear hbq5
  by_cases c6 : bq5 = true
  ·subst c6
   rw [if_pos rfl] at H
   try dsimp only at H
   obtain rfl := Option.some.inj H
   go_enter Try.func97, Try.ntmps97
   go_wp2_with (first | ((with_reducible refine gate_dst (N := 2) rfl ?_); refine bE 2 #[.slice A0_0 l0_0.length c0_0, .slice A0_1 l0_1.length c0_1, .slice A0_2 l0_2.length c0_2, .slice A0_3 l0_3.length c0_3, .slice A0_4 l0_4.length c0_4, .int .i64 a0_5, .int .i64 a0_6, .int .i64 a0_7, .int .i64 a0_8] 28 ?_; intro gb168 hg w7 hbox hb; have BK168 := Aside0.mk (hbox); have GW168 := Aside0.mk (gE hg (bA HB.out)); have GE168 := Aside0.mk (gE hg (bA HB.out)); replace HB := Aside0.mk (below_step (bA HB.out) hb); clear hb hbox hg; obtain ⟨hcz8_0, hcz8_1, hcz8_2, hcz8_3, hcz8_4, hcz8_5, hcz8_6, hcz8_7, hcz8_8, hfz8_0, hfz8_1, hfz8_2, hfz8_3, hfz8_4, hfz8_5, hfz8_6, hfz8_7, hfz8_8⟩ := cz9 BK168.out; have p169 : 0 ≤ (a1 : Int) := dA; have q169 : a1 < (l0_3.length : Int) := dA; obtain ⟨ad169, e169, hx169_0⟩ := Kd.at_bool HR0_3.out a1 p169 q169; (try rw [← Nbq5.out] at hx169_0); cases e169; replace hx169_0 := (HB.out.cell (World.block_lt_of_cell? w _ hx169_0)).trans hx169_0; replace p169 := eq_true p169; replace q169 := eq_true q169))
   go_ret
   exact ⟨by first | rfl | (simp [errW_none, errW_some] <;> rfl) | (simp [*, errW_none, errW_some] <;> rfl), bA HB.out⟩
  ·replace c6 := Bool.eq_false_iff.mpr c6
   subst c6
   rw [if_neg (show ¬ (false = true) by decide)] at H
   try dsimp only at H
   by_cases c9 : a1 < (l0_0.length : Int)
   rotate_left
   ·rw [if_neg c9] at H
    exact absurd H (by simp)
   rw [if_pos c9] at H
   have c9b0 : decide (a1 < (l0_0.length : Int)) = true := decide_eq_true c9
   clear c9
   obtain rfl := Option.some.inj H
   go_enter Try.func97, Try.ntmps97
   go_wp2_with (first | ((with_reducible refine gate_dst (N := 2) rfl ?_); refine bE 2 #[.slice A0_0 l0_0.length c0_0, .slice A0_1 l0_1.length c0_1, .slice A0_2 l0_2.length c0_2, .slice A0_3 l0_3.length c0_3, .slice A0_4 l0_4.length c0_4, .int .i64 a0_5, .int .i64 a0_6, .int .i64 a0_7, .int .i64 a0_8] 28 ?_; intro gb168 hg w10 hbox hb; have BK168 := Aside0.mk (hbox); have GW168 := Aside0.mk (gE hg (bA HB.out)); have GE168 := Aside0.mk (gE hg (bA HB.out)); replace HB := Aside0.mk (below_step (bA HB.out) hb); clear hb hbox hg; obtain ⟨hcz11_0, hcz11_1, hcz11_2, hcz11_3, hcz11_4, hcz11_5, hcz11_6, hcz11_7, hcz11_8, hfz11_0, hfz11_1, hfz11_2, hfz11_3, hfz11_4, hfz11_5, hfz11_6, hfz11_7, hfz11_8⟩ := cz9 BK168.out; have p169 : 0 ≤ (a1 : Int) := dA; have q169 : a1 < (l0_3.length : Int) := dA; obtain ⟨ad169, e169, hx169_0⟩ := Kd.at_bool HR0_3.out a1 p169 q169; (try rw [← Nbq5.out] at hx169_0); cases e169; replace hx169_0 := (HB.out.cell (World.block_lt_of_cell? w _ hx169_0)).trans hx169_0; replace p169 := eq_true p169; replace q169 := eq_true q169; have p170 : 0 ≤ (a1 : Int) := dA; have q170 : a1 < (l0_0.length : Int) := dA; obtain ⟨ad170, e170, hx170_0⟩ := Kd.at_int HR0_0.out a1 p170 q170; cases e170; replace hx170_0 := (HB.out.cell (World.block_lt_of_cell? w _ hx170_0)).trans hx170_0; replace p170 := eq_true p170; replace q170 := eq_true q170))
   go_ret
   exact ⟨by first | rfl | (simp [errW_none, errW_some] <;> rfl) | (simp [*, errW_none, errW_some] <;> rfl), bA HB.out⟩
 ·rw [if_neg c3] at H
  exact absurd H (by simp)
def spec_l10Count.l0 : Nat → Int → Int → List Int → List Int → List Int → List Bool → List Bool → Int → Int → Int → Int → Option (Int)
 | 0, _, _, _, _, _, _, _, _, _, _, _ => none
 | k + 1, x3, x4, x172000, x172001, x172002, x172003, x172004, x172005, x172006, x172007, x172008 => if x4 < (x172000.length : Int) then ((spec_l10Can.f x172000 x172001 x172002 x172003 x172004 x172005 x172006 x172007 x172008 x4).bind fun t172 => (if t172 = true then (spec_l10Count.l0 k (wrap64 (x3 + 1)) (wrap64 (x4 + 1)) x172000 x172001 x172002 x172003 x172004 x172005 x172006 x172007 x172008) else (spec_l10Count.l0 k x3 (wrap64 (x4 + 1)) x172000 x172001 x172002 x172003 x172004 x172005 x172006 x172007 x172008))) else (some x3)
def spec_l10Count.f (k : Nat) (l0_0 : List Int) (l0_1 : List Int) (l0_2 : List Int) (l0_3 : List Bool) (l0_4 : List Bool) (a0_5 : Int) (a0_6 : Int) (a0_7 : Int) (a0_8 : Int) : Option (Int) := spec_l10Count.l0 k 0 0 l0_0 l0_1 l0_2 l0_3 l0_4 a0_5 a0_6 a0_7 a0_8
theorem spec_l10Count.mono_l : ∀ k, (∀ y0 y1 y2 y3 y4 y5 y6 y7 y8 y9 y10, LeO (spec_l10Count.l0 k y0 y1 y2 y3 y4 y5 y6 y7 y8 y9 y10) (spec_l10Count.l0 (k + 1) y0 y1 y2 y3 y4 y5 y6 y7 y8 y9 y10))
 | 0 => fun _ _ _ _ _ _ _ _ _ _ _ r h => by simp [spec_l10Count.l0] at h
 | k + 1 => by
  have ih0 := spec_l10Count.mono_l k
  ·intro y0 y1 y2 y3 y4 y5 y6 y7 y8 y9 y10
   unfold spec_l10Count.l0
   repeat' first
   | (with_reducible exact ih0 _ _ _ _ _ _ _ _ _ _ _)
   | (with_reducible exact LeO.refl _)
   | (with_reducible exact LeO.none _)
   | (with_reducible refine LeO.ite ?_ ?_)
   | (with_reducible refine LeO.bind ?_ (fun _ => ?_))
   | exact ih0 _ _ _ _ _ _ _ _ _ _ _
   | exact LeO.none _
   | refine LeO.ite ?_ ?_
   | refine LeO.bind ?_ (fun _ => ?_)
theorem spec_l10Count.mono : ∀ a0 a1 a2 a3 a4 a5 a6 a7 a8 k, LeO (spec_l10Count.f k a0 a1 a2 a3 a4 a5 a6 a7 a8) (spec_l10Count.f (k + 1) a0 a1 a2 a3 a4 a5 a6 a7 a8) := by
 intro a0 a1 a2 a3 a4 a5 a6 a7 a8 k
 have ih0 := spec_l10Count.mono_l k
 unfold spec_l10Count.f
 repeat' first
   | (with_reducible exact ih0 _ _ _ _ _ _ _ _ _ _ _)
   | (with_reducible exact LeO.refl _)
   | (with_reducible exact LeO.none _)
   | (with_reducible refine LeO.ite ?_ ?_)
   | (with_reducible refine LeO.bind ?_ (fun _ => ?_))
   | exact ih0 _ _ _ _ _ _ _ _ _ _ _
   | exact LeO.none _
   | refine LeO.ite ?_ ?_
   | refine LeO.bind ?_ (fun _ => ?_)
set_option maxHeartbeats 8000000 in
set_option maxRecDepth 100000 in
theorem spec_l10Count.calls (k : Nat) (A0_0 : Option Addr) (c0_0 : Nat) (l0_0 : List Int) (A0_1 : Option Addr) (c0_1 : Nat) (l0_1 : List Int) (A0_2 : Option Addr) (c0_2 : Nat) (l0_2 : List Int) (A0_3 : Option Addr) (c0_3 : Nat) (l0_3 : List Bool) (A0_4 : Option Addr) (c0_4 : Nat) (l0_4 : List Bool) (a0_5 : Int) (a0_6 : Int) (a0_7 : Int) (a0_8 : Int) (r : Int) (w : World) (hr0_0 : Kd.C (Kd.int .i64) w A0_0 l0_0.length l0_0) (hc0_0 : l0_0.length ≤ c0_0) (hr0_1 : Kd.C (Kd.int .i64) w A0_1 l0_1.length l0_1) (hc0_1 : l0_1.length ≤ c0_1) (hr0_2 : Kd.C (Kd.int .i64) w A0_2 l0_2.length l0_2) (hc0_2 : l0_2.length ≤ c0_2) (hr0_3 : Kd.C Kd.bool w A0_3 l0_3.length l0_3) (hc0_3 : l0_3.length ≤ c0_3) (hr0_4 : Kd.C Kd.bool w A0_4 l0_4.length l0_4) (hc0_4 : l0_4.length ≤ c0_4) (h : spec_l10Count.f k l0_0 l0_1 l0_2 l0_3 l0_4 a0_5 a0_6 a0_7 a0_8 = some r) :
  Calls Try.prog 76 #[.agg #[.slice A0_0 l0_0.length c0_0, .slice A0_1 l0_1.length c0_1, .slice A0_2 l0_2.length c0_2, .slice A0_3 l0_3.length c0_3, .slice A0_4 l0_4.length c0_4, .int .i64 a0_5, .int .i64 a0_6, .int .i64 a0_7, .int .i64 a0_8]] w fun e w' => e = .returned (.int .i64 r) ∧ Below w.heap.size w w' := by
 have hu28 := Try.underlying28
 have HR0_0 := Aside0.mk hr0_0
 have HC0_0 := Aside0.mk hc0_0
 clear hr0_0 hc0_0
 have HR0_1 := Aside0.mk hr0_1
 have HC0_1 := Aside0.mk hc0_1
 clear hr0_1 hc0_1
 have HR0_2 := Aside0.mk hr0_2
 have HC0_2 := Aside0.mk hc0_2
 clear hr0_2 hc0_2
 have HR0_3 := Aside0.mk hr0_3
 have HC0_3 := Aside0.mk hc0_3
 clear hr0_3 hc0_3
 have HR0_4 := Aside0.mk hr0_4
 have HC0_4 := Aside0.mk hc0_4
 clear hr0_4 hc0_4
 have HB := Aside0.mk (Below.refl w.heap.size w)
 have H : (spec_l10Count.l0 k 0 0 l0_0 l0_1 l0_2 l0_3 l0_4 a0_5 a0_6 a0_7 a0_8) = some r := h
 clear h
 have H' := Aside0.mk H
 clear H
 go_enter Try.func76, Try.ntmps76
 go_wp2_with (first | ((with_reducible refine gate_dst (N := 1) rfl ?_); refine bE 1 #[.slice A0_0 l0_0.length c0_0, .slice A0_1 l0_1.length c0_1, .slice A0_2 l0_2.length c0_2, .slice A0_3 l0_3.length c0_3, .slice A0_4 l0_4.length c0_4, .int .i64 a0_5, .int .i64 a0_6, .int .i64 a0_7, .int .i64 a0_8] 28 ?_; intro gb171 hg w2 hbox hb; have BK171 := Aside0.mk (hbox); have GW171 := Aside0.mk (gE hg (bA HB.out)); have GE171 := Aside0.mk (gE hg (bA HB.out)); replace HB := Aside0.mk (below_step (bA HB.out) hb); clear hb hbox hg))
 go_loopg [3, 4] k (fun kq v3 v4 w' => ∃ (x3_1 : Int) (x4_1 : Int), v3 = .int .i64 x3_1 ∧ v4 = .int .i64 x4_1 ∧ Aside0 (spec_l10Count.l0 kq x3_1 x4_1 l0_0 l0_1 l0_2 l0_3 l0_4 a0_5 a0_6 a0_7 a0_8 = some r) ∧ Aside0 (kq ≤ k) ∧ Aside0 (w'.heap[gb171]? = some (.cells #[(.slice A0_0 l0_0.length c0_0), (.slice A0_1 l0_1.length c0_1), (.slice A0_2 l0_2.length c0_2), (.slice A0_3 l0_3.length c0_3), (.slice A0_4 l0_4.length c0_4), .int .i64 a0_5, .int .i64 a0_6, .int .i64 a0_7, .int .i64 a0_8] 28 (0, 0))) ∧ Aside0 (Below w.heap.size w w'))
 case atStart => exact ⟨(0), (0), (by first | rfl | (simp; done) | (simp [*]; done)), (by first | rfl | (simp; done) | (simp [*]; done)), H', ⟨Nat.le_refl _⟩, ⟨by (with_reducible repeat (first | refine blk_drewN ?_ _ | refine blk_drew ?_ | refine blk_alloc ?_ _)); exact BK171.out⟩, ⟨bA HB.out⟩⟩
 case round =>
  clear H'
  try clear p2
  obtain ⟨x3_1, x4_1, rfl, rfl, HA, HK1, BK171, HB⟩ := hrel
  cases gk with
  | zero => exact absurd HA.out (by simp [spec_l10Count.l0])
  | succ k1 =>
   have H := HA.out
   clear HA
   simp only [spec_l10Count.l0] at H
   by_cases c3 : x4_1 < (l0_0.length : Int)
   ·rw [if_pos c3] at H
    have c3b0 : decide (x4_1 < (l0_0.length : Int)) = true := decide_eq_true c3
    clear c3
    obtain ⟨t172, A40, H⟩ := Option.bind_eq_some_iff.mp H
    try dsimp only at H
    have A4 := Aside0.mk A40
    clear A40
    by_cases c5 : t172 = true
    ·subst c5
     rw [if_pos rfl] at H
     try dsimp only at H
     have H' := Aside0.mk H
     clear H
     obtain ⟨hcz6_0, hcz6_1, hcz6_2, hcz6_3, hcz6_4, hcz6_5, hcz6_6, hcz6_7, hcz6_8, hfz6_0, hfz6_1, hfz6_2, hfz6_3, hfz6_4, hfz6_5, hfz6_6, hfz6_7, hfz6_8⟩ := cz9 BK171.out
     go_wp2_with (first | ((with_reducible refine gate_callee (f := 97) rfl ?_); refine gL (some 14) Try.func97 #[.agg #[.slice A0_0 l0_0.length c0_0, .slice A0_1 l0_1.length c0_1, .slice A0_2 l0_2.length c0_2, .slice A0_3 l0_3.length c0_3, .slice A0_4 l0_4.length c0_4, .int .i64 a0_5, .int .i64 a0_6, .int .i64 a0_7, .int .i64 a0_8], .int .i64 x4_1] ?_; (with_reducible refine (spec_l10Can.calls _ _ l0_0 _ _ l0_1 _ _ l0_2 _ _ l0_3 _ _ l0_4 a0_5 a0_6 a0_7 a0_8 x4_1 true _ ?side1 ?side2 ?side3 ?side4 ?side5 ?side6 ?side7 ?side8 ?side9 ?side10 A4.out).mono ?_); (case side1 => exact cA (Kd.C_below HR0_0.out HB.out)); (case side2 => exact HC0_0.out); (case side3 => exact cA (Kd.C_below HR0_1.out HB.out)); (case side4 => exact HC0_1.out); (case side5 => exact cA (Kd.C_below HR0_2.out HB.out)); (case side6 => exact HC0_2.out); (case side7 => exact cA (Kd.C_below HR0_3.out HB.out)); (case side8 => exact HC0_3.out); (case side9 => exact cA (Kd.C_below HR0_4.out HB.out)); (case side10 => exact HC0_4.out); rintro e w7 ⟨rfl, hb⟩; refine ⟨_, rfl, ?_⟩; replace BK171 := Aside0.mk (blk_below (kA BK171.out) hb); replace HB := Aside0.mk (below_step (bA HB.out) hb); (try clear hb)))
     go_roundg k1
     case measure => have := HK1.out; omega
     case rel => exact ⟨(wrap64 (x3_1 + 1)), (wrap64 (x4_1 + 1)), (by first | rfl | (simp; done) | (simp [*]; done)), (by first | rfl | (simp; done) | (simp [*]; done)), H', ⟨by have := HK1.out; omega⟩, ⟨by (with_reducible repeat (first | refine blk_drewN ?_ _ | refine blk_drew ?_ | refine blk_alloc ?_ _)); exact BK171.out⟩, ⟨bA HB.out⟩⟩
    ·replace c5 := Bool.eq_false_iff.mpr c5
     subst c5
     rw [if_neg (show ¬ (false = true) by decide)] at H
     try dsimp only at H
     have H' := Aside0.mk H
     clear H
     obtain ⟨hcz8_0, hcz8_1, hcz8_2, hcz8_3, hcz8_4, hcz8_5, hcz8_6, hcz8_7, hcz8_8, hfz8_0, hfz8_1, hfz8_2, hfz8_3, hfz8_4, hfz8_5, hfz8_6, hfz8_7, hfz8_8⟩ := cz9 BK171.out
     go_wp2_with (first | ((with_reducible refine gate_callee (f := 97) rfl ?_); refine gL (some 14) Try.func97 #[.agg #[.slice A0_0 l0_0.length c0_0, .slice A0_1 l0_1.length c0_1, .slice A0_2 l0_2.length c0_2, .slice A0_3 l0_3.length c0_3, .slice A0_4 l0_4.length c0_4, .int .i64 a0_5, .int .i64 a0_6, .int .i64 a0_7, .int .i64 a0_8], .int .i64 x4_1] ?_; (with_reducible refine (spec_l10Can.calls _ _ l0_0 _ _ l0_1 _ _ l0_2 _ _ l0_3 _ _ l0_4 a0_5 a0_6 a0_7 a0_8 x4_1 false _ ?side1 ?side2 ?side3 ?side4 ?side5 ?side6 ?side7 ?side8 ?side9 ?side10 A4.out).mono ?_); (case side1 => exact cA (Kd.C_below HR0_0.out HB.out)); (case side2 => exact HC0_0.out); (case side3 => exact cA (Kd.C_below HR0_1.out HB.out)); (case side4 => exact HC0_1.out); (case side5 => exact cA (Kd.C_below HR0_2.out HB.out)); (case side6 => exact HC0_2.out); (case side7 => exact cA (Kd.C_below HR0_3.out HB.out)); (case side8 => exact HC0_3.out); (case side9 => exact cA (Kd.C_below HR0_4.out HB.out)); (case side10 => exact HC0_4.out); rintro e w9 ⟨rfl, hb⟩; refine ⟨_, rfl, ?_⟩; replace BK171 := Aside0.mk (blk_below (kA BK171.out) hb); replace HB := Aside0.mk (below_step (bA HB.out) hb); (try clear hb)))
     go_roundg k1
     case measure => have := HK1.out; omega
     case rel => exact ⟨(x3_1), (wrap64 (x4_1 + 1)), (by first | rfl | (simp; done) | (simp [*]; done)), (by first | rfl | (simp; done) | (simp [*]; done)), H', ⟨by have := HK1.out; omega⟩, ⟨by (with_reducible repeat (first | refine blk_drewN ?_ _ | refine blk_drew ?_ | refine blk_alloc ?_ _)); exact BK171.out⟩, ⟨bA HB.out⟩⟩
   ·rw [if_neg c3] at H
    have c3b0 : decide (x4_1 < (l0_0.length : Int)) = false := decide_eq_false c3
    clear c3
    obtain rfl := Option.some.inj H
    obtain ⟨hcz10_0, hcz10_1, hcz10_2, hcz10_3, hcz10_4, hcz10_5, hcz10_6, hcz10_7, hcz10_8, hfz10_0, hfz10_1, hfz10_2, hfz10_3, hfz10_4, hfz10_5, hfz10_6, hfz10_7, hfz10_8⟩ := cz9 BK171.out
    go_wp2
    go_ret
    exact ⟨by first | rfl | (simp [errW_none, errW_some] <;> rfl) | (simp [*, errW_none, errW_some] <;> rfl), bA HB.out⟩
end Go.Proofs.Ytmcobmphmmgdmaa.QFnExactFirstRound
