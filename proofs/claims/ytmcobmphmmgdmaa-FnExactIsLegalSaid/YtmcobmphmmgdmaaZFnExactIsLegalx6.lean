import Derived.Test.YtmcobmphmmgdmaaZFnExactIsLegalx0
import Derived.Test.YtmcobmphmmgdmaaZFnExactIsLegalx2
import Derived.Test.YtmcobmphmmgdmaaZFnExactIsLegalx4
namespace Go.Proofs.Ytmcobmphmmgdmaa.QFnExactIsLegal
open Go.RowKit Go.Proofs.YtmcobmphmmgdmaaW.PrintWords Go.Proofs.YtmcobmphmmgdmaaW.PrintLast Go.Proofs.YtmcobmphmmgdmaaW.PrintMore
attribute [local go_sem] max2_int min2_int max_two min_two max_three min_three max_four min_four
set_option linter.unusedVariables false
set_option linter.unusedSimpArgs false
def spec_l10Choices.j0 : Nat → Int → Int → Int → Bool → List Int → List Int → List Int → List Bool → List Bool → Int → Int → Int → Int → Bool → Int → Int → Int → Option (Bool × Int × Int × Int)
 | 0, _, _, _, _, _, _, _, _, _, _, _, _, _, _, _, _, _ => none
 | k + 1, x3, x4, x5, x57, x181000, x181001, x181002, x181003, x181004, x181005, x181006, x181007, x181008, x186000, x186001, x186002, x186003 => if x57 = true then (some (x186000, x186001, x186002, x186003)) else (if x181008 = 1 then ((spec_l10Pot.f k x181000 x181001 x181002 x181003 x181004 x181005 x181006 x181007 x181008).bind fun t188 => (some (x186000, x186001, mn (mn (wrap64 (x3 + x4)) (wrap64 ((wrap64 ((wrap64 (x5 + t188)) + x5)) - x3))) (wrap64 (x5 + x181006)), mn (wrap64 (x3 + x4)) (wrap64 ((wrap64 ((wrap64 (x5 + t188)) + x5)) - x3))))) else (if x181008 = 2 then (some (x186000, x186001, mn (mn (wrap64 (x3 + x4)) (wrap64 (x5 + x181006))) (wrap64 (x5 + x181006)), mn (wrap64 (x3 + x4)) (wrap64 (x5 + x181006)))) else (some (x186000, x186001, mn (wrap64 (x3 + x4)) (wrap64 (x5 + x181006)), wrap64 (x3 + x4)))))
def spec_l10Choices.f (k : Nat) (l0_0 : List Int) (l0_1 : List Int) (l0_2 : List Int) (l0_3 : List Bool) (l0_4 : List Bool) (a0_5 : Int) (a0_6 : Int) (a0_7 : Int) (a0_8 : Int) : Option (Bool × Int × Int × Int) := if 0 ≤ a0_5 then (if a0_5 < (l0_1.length : Int) then (if a0_5 < (l0_0.length : Int) then ((spec_l10Match.f k l0_0 l0_1 l0_2 l0_3 l0_4 a0_5 a0_6 a0_7 a0_8).bind fun t184 => (if a0_5 < (l0_4.length : Int) then (if rdOf false l0_4 a0_5 = true then (spec_l10Choices.j0 k (rd l0_1 a0_5) (rd l0_0 a0_5) t184 true l0_0 l0_1 l0_2 l0_3 l0_4 a0_5 a0_6 a0_7 a0_8 ((rd l0_1 a0_5) == t184) (mn (wrap64 (t184 - (rd l0_1 a0_5))) (rd l0_0 a0_5)) 0 0) else (if (rd l0_0 a0_5) ≤ (wrap64 (t184 - (rd l0_1 a0_5))) then (spec_l10Choices.j0 k (rd l0_1 a0_5) (rd l0_0 a0_5) t184 true l0_0 l0_1 l0_2 l0_3 l0_4 a0_5 a0_6 a0_7 a0_8 ((rd l0_1 a0_5) == t184) (mn (wrap64 (t184 - (rd l0_1 a0_5))) (rd l0_0 a0_5)) 0 0) else ((spec_l10Count.f k l0_0 l0_1 l0_2 l0_3 l0_4 a0_5 a0_6 a0_7 a0_8).bind fun t187 => (if t187 < 2 then (spec_l10Choices.j0 k (rd l0_1 a0_5) (rd l0_0 a0_5) t184 true l0_0 l0_1 l0_2 l0_3 l0_4 a0_5 a0_6 a0_7 a0_8 ((rd l0_1 a0_5) == t184) (mn (wrap64 (t184 - (rd l0_1 a0_5))) (rd l0_0 a0_5)) 0 0) else (if a0_8 = 2 then (spec_l10Choices.j0 k (rd l0_1 a0_5) (rd l0_0 a0_5) t184 (decide (a0_7 ≥ 4)) l0_0 l0_1 l0_2 l0_3 l0_4 a0_5 a0_6 a0_7 a0_8 ((rd l0_1 a0_5) == t184) (mn (wrap64 (t184 - (rd l0_1 a0_5))) (rd l0_0 a0_5)) 0 0) else (spec_l10Choices.j0 k (rd l0_1 a0_5) (rd l0_0 a0_5) t184 false l0_0 l0_1 l0_2 l0_3 l0_4 a0_5 a0_6 a0_7 a0_8 ((rd l0_1 a0_5) == t184) (mn (wrap64 (t184 - (rd l0_1 a0_5))) (rd l0_0 a0_5)) 0 0)))))) else (none))) else (none)) else (none)) else (none)
theorem spec_l10Choices.mono_l : ∀ k, (∀ y0 y1 y2 y3 y4 y5 y6 y7 y8 y9 y10 y11 y12 y13 y14 y15 y16, LeO (spec_l10Choices.j0 k y0 y1 y2 y3 y4 y5 y6 y7 y8 y9 y10 y11 y12 y13 y14 y15 y16) (spec_l10Choices.j0 (k + 1) y0 y1 y2 y3 y4 y5 y6 y7 y8 y9 y10 y11 y12 y13 y14 y15 y16))
 | 0 => fun _ _ _ _ _ _ _ _ _ _ _ _ _ _ _ _ _ r h => by simp [spec_l10Choices.j0] at h
 | k + 1 => by
  have ih0 := spec_l10Choices.mono_l k
  ·intro y0 y1 y2 y3 y4 y5 y6 y7 y8 y9 y10 y11 y12 y13 y14 y15 y16
   unfold spec_l10Choices.j0
   repeat' first
   | (with_reducible exact ih0 _ _ _ _ _ _ _ _ _ _ _ _ _ _ _ _ _)
   | (with_reducible exact spec_l10Count.mono _ _ _ _ _ _ _ _ _ _)
   | (with_reducible exact spec_l10Match.mono _ _ _ _ _ _ _ _ _ _)
   | (with_reducible exact spec_l10Pot.mono _ _ _ _ _ _ _ _ _ _)
   | (with_reducible exact LeO.refl _)
   | (with_reducible exact LeO.none _)
   | (with_reducible refine LeO.ite ?_ ?_)
   | (with_reducible refine LeO.bind ?_ (fun _ => ?_))
   | exact ih0 _ _ _ _ _ _ _ _ _ _ _ _ _ _ _ _ _
   | exact spec_l10Count.mono _ _ _ _ _ _ _ _ _ _
   | exact spec_l10Match.mono _ _ _ _ _ _ _ _ _ _
   | exact spec_l10Pot.mono _ _ _ _ _ _ _ _ _ _
   | exact LeO.none _
   | refine LeO.ite ?_ ?_
   | refine LeO.bind ?_ (fun _ => ?_)
theorem spec_l10Choices.mono : ∀ a0 a1 a2 a3 a4 a5 a6 a7 a8 k, LeO (spec_l10Choices.f k a0 a1 a2 a3 a4 a5 a6 a7 a8) (spec_l10Choices.f (k + 1) a0 a1 a2 a3 a4 a5 a6 a7 a8) := by
 intro a0 a1 a2 a3 a4 a5 a6 a7 a8 k
 have ih0 := spec_l10Choices.mono_l k
 unfold spec_l10Choices.f
 repeat' first
   | (with_reducible exact ih0 _ _ _ _ _ _ _ _ _ _ _ _ _ _ _ _ _)
   | (with_reducible exact spec_l10Count.mono _ _ _ _ _ _ _ _ _ _)
   | (with_reducible exact spec_l10Match.mono _ _ _ _ _ _ _ _ _ _)
   | (with_reducible exact spec_l10Pot.mono _ _ _ _ _ _ _ _ _ _)
   | (with_reducible exact LeO.refl _)
   | (with_reducible exact LeO.none _)
   | (with_reducible refine LeO.ite ?_ ?_)
   | (with_reducible refine LeO.bind ?_ (fun _ => ?_))
   | exact ih0 _ _ _ _ _ _ _ _ _ _ _ _ _ _ _ _ _
   | exact spec_l10Count.mono _ _ _ _ _ _ _ _ _ _
   | exact spec_l10Match.mono _ _ _ _ _ _ _ _ _ _
   | exact spec_l10Pot.mono _ _ _ _ _ _ _ _ _ _
   | exact LeO.none _
   | refine LeO.ite ?_ ?_
   | refine LeO.bind ?_ (fun _ => ?_)
def spec_l10Choices.T1 : Bool × List (List Nat × List Nat) := (true, [([], []), ([0], [0]), ([], []), ([2], [2]), ([1, 3], [1, 3]), ([4], [4]), ([], []), ([6], [6]), ([], []), ([8], [8]), ([7, 9], [7, 9]), ([10], [10]), ([], []), ([12], [12]), ([5, 13, 0, 1, 2, 3, 4, 5], [5]), ([11, 14, 0, 1, 2, 3, 4, 5, 6, 7, 8, 9, 10, 11, 14], [11]), ([13, 15, 0, 1, 2, 3, 4, 5, 6, 7, 8, 9, 10, 11, 12, 13, 14, 15], [13])])
def spec_l10Choices.B1 : List Nat := [0, 1, 0, 4, 15, 31, 0, 64, 0, 256, 960, 1984, 0, 4096, 12351, 32767, 65535]
theorem spec_l10Choices.tab1 : rtab .any (opsOf Try.f79 1) = spec_l10Choices.T1 := by kernel_rfl
theorem spec_l10Choices.bits1 : waitsOk spec_l10Choices.T1.2 spec_l10Choices.B1 = true := by kernel_rfl
def spec_l10Choices.T8 : Bool × List (List Nat × List Nat) := (true, [([], []), ([0], [0]), ([], []), ([], []), ([3], [3]), ([2, 4], [2, 4]), ([], []), ([5, 6], [5, 6]), ([], []), ([7, 8], [7, 8]), ([1, 9], [1, 9]), ([0, 1, 2, 3, 4, 5, 6, 7, 8, 9, 10], []), ([11, 10, 4, 0, 1, 2, 3, 4, 5, 6, 7, 8, 9, 10], [10, 11])])
def spec_l10Choices.B8 : List Nat := [0, 1, 0, 0, 8, 28, 0, 124, 0, 508, 1023, 2047, 4095]
theorem spec_l10Choices.tab8 : rtab .any (opsOf Try.f79 8) = spec_l10Choices.T8 := by kernel_rfl
theorem spec_l10Choices.bits8 : waitsOk spec_l10Choices.T8.2 spec_l10Choices.B8 = true := by kernel_rfl
set_option maxHeartbeats 8000000 in
set_option maxRecDepth 100000 in
theorem spec_l10Choices.calls (k : Nat) (A0_0 : Option Addr) (c0_0 : Nat) (l0_0 : List Int) (A0_1 : Option Addr) (c0_1 : Nat) (l0_1 : List Int) (A0_2 : Option Addr) (c0_2 : Nat) (l0_2 : List Int) (A0_3 : Option Addr) (c0_3 : Nat) (l0_3 : List Bool) (A0_4 : Option Addr) (c0_4 : Nat) (l0_4 : List Bool) (a0_5 : Int) (a0_6 : Int) (a0_7 : Int) (a0_8 : Int) (r1 : Bool) (r2 : Int) (r3 : Int) (r4 : Int) (w : World) (hr0_0 : Kd.C (Kd.int .i64) w A0_0 l0_0.length l0_0) (hc0_0 : l0_0.length ≤ c0_0) (hr0_1 : Kd.C (Kd.int .i64) w A0_1 l0_1.length l0_1) (hc0_1 : l0_1.length ≤ c0_1) (hr0_2 : Kd.C (Kd.int .i64) w A0_2 l0_2.length l0_2) (hc0_2 : l0_2.length ≤ c0_2) (hr0_3 : Kd.C Kd.bool w A0_3 l0_3.length l0_3) (hc0_3 : l0_3.length ≤ c0_3) (hr0_4 : Kd.C Kd.bool w A0_4 l0_4.length l0_4) (hc0_4 : l0_4.length ≤ c0_4) (h : spec_l10Choices.f k l0_0 l0_1 l0_2 l0_3 l0_4 a0_5 a0_6 a0_7 a0_8 = some (r1, r2, r3, r4)) :
  Calls Try.prog 79 #[.agg #[.slice A0_0 l0_0.length c0_0, .slice A0_1 l0_1.length c0_1, .slice A0_2 l0_2.length c0_2, .slice A0_3 l0_3.length c0_3, .slice A0_4 l0_4.length c0_4, .int .i64 a0_5, .int .i64 a0_6, .int .i64 a0_7, .int .i64 a0_8]] w fun e w' => e = .returned (.agg #[.bool r1, .int .i64 r2, .int .i64 r3, .int .i64 r4]) ∧ Below w.heap.size w w' := by
 have hu28 := Try.underlying28
 have hu40 := Try.underlying40
 have HR0_0 := Aside0.mk hr0_0
 have HC0_0 := Aside0.mk hc0_0
 clear hr0_0 hc0_0
 have HR0_1 := Aside0.mk hr0_1
 have HC0_1 := Aside0.mk hc0_1
 clear hr0_1 hc0_1
 have HR0_2 := Aside0.mk hr0_2
 have HC0_2 := Aside0.mk hc0_2
 clear hr0_2 hc0_2
 have HR0_3 := Aside0.mk hr0_3
 have HC0_3 := Aside0.mk hc0_3
 clear hr0_3 hc0_3
 have HR0_4 := Aside0.mk hr0_4
 have HC0_4 := Aside0.mk hc0_4
 clear hr0_4 hc0_4
 have HB := Aside0.mk (Below.refl w.heap.size w)
 have H : (if 0 ≤ a0_5 then (if a0_5 < (l0_1.length : Int) then (if a0_5 < (l0_0.length : Int) then ((spec_l10Match.f k l0_0 l0_1 l0_2 l0_3 l0_4 a0_5 a0_6 a0_7 a0_8).bind fun t184 => (if a0_5 < (l0_4.length : Int) then (if rdOf false l0_4 a0_5 = true then (spec_l10Choices.j0 k (rd l0_1 a0_5) (rd l0_0 a0_5) t184 true l0_0 l0_1 l0_2 l0_3 l0_4 a0_5 a0_6 a0_7 a0_8 ((rd l0_1 a0_5) == t184) (mn (wrap64 (t184 - (rd l0_1 a0_5))) (rd l0_0 a0_5)) 0 0) else (if (rd l0_0 a0_5) ≤ (wrap64 (t184 - (rd l0_1 a0_5))) then (spec_l10Choices.j0 k (rd l0_1 a0_5) (rd l0_0 a0_5) t184 true l0_0 l0_1 l0_2 l0_3 l0_4 a0_5 a0_6 a0_7 a0_8 ((rd l0_1 a0_5) == t184) (mn (wrap64 (t184 - (rd l0_1 a0_5))) (rd l0_0 a0_5)) 0 0) else ((spec_l10Count.f k l0_0 l0_1 l0_2 l0_3 l0_4 a0_5 a0_6 a0_7 a0_8).bind fun t187 => (if t187 < 2 then (spec_l10Choices.j0 k (rd l0_1 a0_5) (rd l0_0 a0_5) t184 true l0_0 l0_1 l0_2 l0_3 l0_4 a0_5 a0_6 a0_7 a0_8 ((rd l0_1 a0_5) == t184) (mn (wrap64 (t184 - (rd l0_1 a0_5))) (rd l0_0 a0_5)) 0 0) else (if a0_8 = 2 then (spec_l10Choices.j0 k (rd l0_1 a0_5) (rd l0_0 a0_5) t184 (decide (a0_7 ≥ 4)) l0_0 l0_1 l0_2 l0_3 l0_4 a0_5 a0_6 a0_7 a0_8 ((rd l0_1 a0_5) == t184) (mn (wrap64 (t184 - (rd l0_1 a0_5))) (rd l0_0 a0_5)) 0 0) else (spec_l10Choices.j0 k (rd l0_1 a0_5) (rd l0_0 a0_5) t184 false l0_0 l0_1 l0_2 l0_3 l0_4 a0_5 a0_6 a0_7 a0_8 ((rd l0_1 a0_5) == t184) (mn (wrap64 (t184 - (rd l0_1 a0_5))) (rd l0_0 a0_5)) 0 0)))))) else (none))) else (none)) else (none)) else (none)) = some (r1, r2, r3, r4) := h
 clear h
 by_cases c2 : 0 ≤ a0_5
 ·rw [if_pos c2] at H
  have c2b0 : decide (0 ≤ a0_5) = true := decide_eq_true c2
  clear c2
  by_cases c3 : a0_5 < (l0_1.length : Int)
  ·rw [if_pos c3] at H
   have c3b0 : decide (a0_5 < (l0_1.length : Int)) = true := decide_eq_true c3
   clear c3
   by_cases c4 : a0_5 < (l0_0.length : Int)
   ·rw [if_pos c4] at H
    have c4b0 : decide (a0_5 < (l0_0.length : Int)) = true := decide_eq_true c4
    clear c4
    obtain ⟨t184, A50, H⟩ := Option.bind_eq_some_iff.mp H
    try dsimp only at H
    have A5 := Aside0.mk A50
    clear A50
    obtain ⟨ji6, hji6⟩ : ∃ j_ : Int, (mn (wrap64 (t184 - (rd l0_1 a0_5))) (rd l0_0 a0_5)) = j_ := ⟨_, rfl⟩
    replace H : (if a0_5 < (l0_4.length : Int) then (if rdOf false l0_4 a0_5 = true then (spec_l10Choices.j0 k (rd l0_1 a0_5) (rd l0_0 a0_5) t184 true l0_0 l0_1 l0_2 l0_3 l0_4 a0_5 a0_6 a0_7 a0_8 ((rd l0_1 a0_5) == t184) ji6 0 0) else (if (rd l0_0 a0_5) ≤ (wrap64 (t184 - (rd l0_1 a0_5))) then (spec_l10Choices.j0 k (rd l0_1 a0_5) (rd l0_0 a0_5) t184 true l0_0 l0_1 l0_2 l0_3 l0_4 a0_5 a0_6 a0_7 a0_8 ((rd l0_1 a0_5) == t184) ji6 0 0) else ((spec_l10Count.f k l0_0 l0_1 l0_2 l0_3 l0_4 a0_5 a0_6 a0_7 a0_8).bind fun t187 => (if t187 < 2 then (spec_l10Choices.j0 k (rd l0_1 a0_5) (rd l0_0 a0_5) t184 true l0_0 l0_1 l0_2 l0_3 l0_4 a0_5 a0_6 a0_7 a0_8 ((rd l0_1 a0_5) == t184) ji6 0 0) else (if a0_8 = 2 then (spec_l10Choices.j0 k (rd l0_1 a0_5) (rd l0_0 a0_5) t184 (decide (a0_7 ≥ 4)) l0_0 l0_1 l0_2 l0_3 l0_4 a0_5 a0_6 a0_7 a0_8 ((rd l0_1 a0_5) == t184) ji6 0 0) else (spec_l10Choices.j0 k (rd l0_1 a0_5) (rd l0_0 a0_5) t184 false l0_0 l0_1 l0_2 l0_3 l0_4 a0_5 a0_6 a0_7 a0_8 ((rd l0_1 a0_5) == t184) ji6 0 0)))))) else (none)) = some (r1, r2, r3, r4) := by first | (rw [hji6] at H; exact H) | (simp only [hji6] at H ⊢; exact H)
    (try rw [hji6] at A5)
    have hji6_ : (if (rd l0_0 a0_5) < (wrap64 (t184 - (rd l0_1 a0_5))) then (rd l0_0 a0_5) else (wrap64 (t184 - (rd l0_1 a0_5)))) = ji6 := hji6
    have HC7 := Aside0.mk H
    clear H
    go_enter Try.func79, Try.ntmps79
    try go_wp2_with (first | ((with_reducible refine gate_dst (N := 1) rfl ?_); refine bE 1 #[.slice A0_0 l0_0.length c0_0, .slice A0_1 l0_1.length c0_1, .slice A0_2 l0_2.length c0_2, .slice A0_3 l0_3.length c0_3, .slice A0_4 l0_4.length c0_4, .int .i64 a0_5, .int .i64 a0_6, .int .i64 a0_7, .int .i64 a0_8] 28 ?_; intro gb180 hg w8 hbox hb; have BK180 := Aside0.mk (hbox); have GW180 := Aside0.mk (gE hg (bA HB.out)); have GE180 := Aside0.mk (gE hg (bA HB.out)); replace HB := Aside0.mk (below_step (bA HB.out) hb); clear hb hbox hg) | ((with_reducible refine gate_dst (N := 2) rfl ?_); refine bE 2 #[.bool false, .int .i64 0, .int .i64 0, .int .i64 0] 40 ?_; intro gb181 hg w9 hbox hb; have BK181 := Aside0.mk (hbox); have GW181 := Aside0.mk (gE hg (bA HB.out)); have GE181 := Aside0.mk (gE hg (bA HB.out)); replace HB := Aside0.mk (below_step (bA HB.out) hb); have NB180_181 := Aside0.mk ((by rw [hg]; exact Nat.ne_of_lt (blk_lt (kA BK180.out)) : gb180 ≠ gb181)); have NB181_180 := Aside0.mk ((by rw [hg]; exact Nat.ne_of_gt (blk_lt (kA BK180.out)) : gb181 ≠ gb180)); replace BK180 := Aside0.mk (blk_below (kA BK180.out) hb); clear hb hbox hg))
    replace BK180 := Aside0.mk (blk_drew BK180.out)
    replace BK181 := Aside0.mk (blk_drew BK181.out)
    replace HB := Aside0.mk (below_drew1 HB.out)
    have p182 : 0 ≤ (a0_5 : Int) := of_decide_eq_true (by first | (with_reducible assumption) | assumption)
    have q182 : a0_5 < (l0_1.length : Int) := of_decide_eq_true (by first | (with_reducible assumption) | assumption)
    obtain ⟨ad182, e182, hx182_0⟩ := Kd.at_int HR0_1.out a0_5 p182 q182
    have hw182_0 := hx182_0
    cases e182
    replace hx182_0 := (HB.out.cell (World.block_lt_of_cell? w _ hx182_0)).trans hx182_0
    replace p182 := eq_true p182
    replace q182 := eq_true q182
    have p183 : 0 ≤ (a0_5 : Int) := of_decide_eq_true (by first | (with_reducible assumption) | assumption)
    have q183 : a0_5 < (l0_0.length : Int) := of_decide_eq_true (by first | (with_reducible assumption) | assumption)
    obtain ⟨ad183, e183, hx183_0⟩ := Kd.at_int HR0_0.out a0_5 p183 q183
    have hw183_0 := hx183_0
    cases e183
    replace hx183_0 := (HB.out.cell (World.block_lt_of_cell? w _ hx183_0)).trans hx183_0
    replace p183 := eq_true p183
    replace q183 := eq_true q183
    refine start_ (n := 17) (S := fun w' => w'.cell? ⟨gb180, 0, none⟩ = some (.slice (some ad183) l0_0.length c0_0) ∧ w'.cell? ⟨gb180, 1, none⟩ = some (.slice (some ad182) l0_1.length c0_1) ∧ w'.cell? ⟨gb180, 2, none⟩ = some (.slice A0_2 l0_2.length c0_2) ∧ w'.cell? ⟨gb180, 3, none⟩ = some (.slice A0_3 l0_3.length c0_3) ∧ w'.cell? ⟨gb180, 4, none⟩ = some (.slice A0_4 l0_4.length c0_4) ∧ w'.cell? ⟨gb180, 5, none⟩ = some (.int .i64 a0_5) ∧ w'.cell? ⟨gb180, 6, none⟩ = some (.int .i64 a0_6) ∧ w'.cell? ⟨gb180, 7, none⟩ = some (.int .i64 a0_7) ∧ w'.cell? ⟨gb180, 8, none⟩ = some (.int .i64 a0_8) ∧ w'.cell? (ad182.add (a0_5).toNat) = some (.int .i64 (rd l0_1 a0_5)) ∧ w'.cell? (ad183.add (a0_5).toNat) = some (.int .i64 (rd l0_0 a0_5))) (ds := []) #[false, false, false, false, false, false, false, false, false, false, false, false, false, false, false, false, false] (by kernel_rfl) rfl rfl ⟨(blk_cell BK180.out 0).trans rfl, (blk_cell BK180.out 1).trans rfl, (blk_cell BK180.out 2).trans rfl, (blk_cell BK180.out 3).trans rfl, (blk_cell BK180.out 4).trans rfl, (blk_cell BK180.out 5).trans rfl, (blk_cell BK180.out 6).trans rfl, (blk_cell BK180.out 7).trans rfl, (blk_cell BK180.out 8).trans rfl, ((HB.out.cell (World.block_lt_of_cell? w _ hw182_0)).trans hw182_0), ((HB.out.cell (World.block_lt_of_cell? w _ hw183_0)).trans hw183_0)⟩ (fun hHeld => ?_); refine with_tabW spec_l10Choices.tab1 spec_l10Choices.bits1 (fun HT_ HW_ => ?_)
    generalize w9.drew = w10 at BK180 BK181 HB hx182_0 hx183_0 hHeld ⊢
    refine pI 0 (some 7) #[true, false, false, false, false, false, false, false, false, false, false, false, false, false, false, false, false] HT_.out ?_
    refine pI 2 (some 9) #[true, false, true, false, false, false, false, false, false, false, false, false, false, false, false, false, false] HT_.out ?_
    refine pI 6 (some 13) #[true, false, true, false, false, false, true, false, false, false, false, false, false, false, false, false, false] HT_.out ?_
    refine pI 8 (some 15) #[true, false, true, false, false, false, true, false, true, false, false, false, false, false, false, false, false] HT_.out ?_
    refine tI 1 (some 8) #[true, true, true, false, false, false, true, false, true, false, false, false, false, false, false, false, false] HT_.out HW_.out hHeld ?_
    refine tI 3 (some 10) #[true, true, true, true, false, false, true, false, true, false, false, false, false, false, false, false, false] HT_.out HW_.out hHeld ?_
    refine pI 4 (some 11) #[true, true, true, true, true, false, true, false, true, false, false, false, false, false, false, false, false] HT_.out ?_
    refine tI 5 (some 12) #[true, true, true, true, true, true, true, false, true, false, false, false, false, false, false, false, false] HT_.out HW_.out hHeld ?_
    refine tI 7 (some 14) #[true, true, true, true, true, true, true, true, true, false, false, false, false, false, false, false, false] HT_.out HW_.out hHeld ?_
    refine tI 9 (some 16) #[true, true, true, true, true, true, true, true, true, true, false, false, false, false, false, false, false] HT_.out HW_.out hHeld ?_
    refine pI 10 (some 17) #[true, true, true, true, true, true, true, true, true, true, true, false, false, false, false, false, false] HT_.out ?_
    refine tI 11 (some 18) #[true, true, true, true, true, true, true, true, true, true, true, true, false, false, false, false, false] HT_.out HW_.out hHeld ?_
    refine tI 12 (some 19) #[true, true, true, true, true, true, true, true, true, true, true, true, true, false, false, false, false] HT_.out HW_.out hHeld ?_
    refine one_ (i := 13) (N := some 20) #[true, true, true, true, true, true, true, true, true, true, true, true, true, true, false, false, false] rfl rfl (one_of HT_.out (by kernel_rfl)) (by decide) (fun K hK => ?_)
    refine gO Try.func96 #[.agg #[.slice (some ad183) l0_0.length c0_0, .slice (some ad182) l0_1.length c0_1, .slice A0_2 l0_2.length c0_2, .slice A0_3 l0_3.length c0_3, .slice A0_4 l0_4.length c0_4, .int .i64 a0_5, .int .i64 a0_6, .int .i64 a0_7, .int .i64 a0_8]] ?_
    with_reducible refine (spec_l10Match.calls k _ _ l0_0 _ _ l0_1 _ _ l0_2 _ _ l0_3 _ _ l0_4 a0_5 a0_6 a0_7 a0_8 t184 _ ?side1 ?side2 ?side3 ?side4 ?side5 ?side6 ?side7 ?side8 ?side9 ?side10 A5.out).mono ?_
    (case side1 => exact cA (Kd.C_below HR0_0.out HB.out))
    (case side2 => exact HC0_0.out)
    (case side3 => exact cA (Kd.C_below HR0_1.out HB.out))
    (case side4 => exact HC0_1.out)
    (case side5 => exact cA (Kd.C_below HR0_2.out HB.out))
    (case side6 => exact HC0_2.out)
    (case side7 => exact cA (Kd.C_below HR0_3.out HB.out))
    (case side8 => exact HC0_3.out)
    (case side9 => exact cA (Kd.C_below HR0_4.out HB.out))
    (case side10 => exact HC0_4.out)
    rintro e w11 ⟨rfl, hb⟩
    refine ⟨_, rfl, ?_⟩
    replace BK180 := Aside0.mk (blk_below (kA BK180.out) hb)
    replace BK181 := Aside0.mk (blk_below (kA BK181.out) hb)
    replace HB := Aside0.mk (below_step (bA HB.out) hb)
    (try clear hb)
    refine hK.out _ _ ⟨(blk_cell BK180.out 0).trans rfl, (blk_cell BK180.out 1).trans rfl, (blk_cell BK180.out 2).trans rfl, (blk_cell BK180.out 3).trans rfl, (blk_cell BK180.out 4).trans rfl, (blk_cell BK180.out 5).trans rfl, (blk_cell BK180.out 6).trans rfl, (blk_cell BK180.out 7).trans rfl, (blk_cell BK180.out 8).trans rfl, ((HB.out.cell (World.block_lt_of_cell? w _ hw182_0)).trans hw182_0), ((HB.out.cell (World.block_lt_of_cell? w _ hw183_0)).trans hw183_0)⟩ (fun hHeld => ?_)
    clear hK K
    refine nO 20 ?_
    refine pI 14 (some 3) #[true, true, true, true, true, true, true, true, true, true, true, true, true, true, true, false, false] HT_.out ?_
    refine pI 15 (some 4) #[true, true, true, true, true, true, true, true, true, true, true, true, true, true, true, true, false] HT_.out ?_
    refine pI 16 (some 5) #[true, true, true, true, true, true, true, true, true, true, true, true, true, true, true, true, true] HT_.out ?_
    refine done_ (done_of HT_.out (by kernel_rfl)) ?_
    go_upto_region 3 with (first | ((with_reducible refine gate_dst (N := 6) rfl ?_); refine bE 6 #[.bool false, .int .i64 0, .int .i64 0, .int .i64 0] 40 ?_; intro gb185 hg w12 hbox hb; have BK185 := Aside0.mk (hbox); have GW185 := Aside0.mk (gE hg (bA HB.out)); have GE185 := Aside0.mk (gE hg (bA HB.out)); replace HB := Aside0.mk (below_step (bA HB.out) hb); have NB180_185 := Aside0.mk ((by rw [hg]; exact Nat.ne_of_lt (blk_lt (kA BK180.out)) : gb180 ≠ gb185)); have NB185_180 := Aside0.mk ((by rw [hg]; exact Nat.ne_of_gt (blk_lt (kA BK180.out)) : gb185 ≠ gb180)); replace BK180 := Aside0.mk (blk_below (kA BK180.out) hb); have NB181_185 := Aside0.mk ((by rw [hg]; exact Nat.ne_of_lt (blk_lt (kA BK181.out)) : gb181 ≠ gb185)); have NB185_181 := Aside0.mk ((by rw [hg]; exact Nat.ne_of_gt (blk_lt (kA BK181.out)) : gb185 ≠ gb181)); replace BK181 := Aside0.mk (blk_below (kA BK181.out) hb); clear hb hbox hg; have hnb13 := NB185_180.out; have hnc13 := NB180_185.out; have hnb14 := NB185_181.out; have hnc14 := NB181_185.out; obtain ⟨hcz15_0, hcz15_1, hcz15_2, hcz15_3, hfz15_0, hfz15_1, hfz15_2, hfz15_3⟩ := cz4 BK185.out))
    (try simp only [Act.put, List.setIfInBounds_toArray, List.set_cons_zero, List.set_cons_succ])
    go_cut [57] (fun v57 wc => ∃ (kq : Nat) (x57_6 : Bool), v57 = .bool x57_6 ∧ Aside0 (spec_l10Choices.j0 kq (rd l0_1 a0_5) (rd l0_0 a0_5) t184 x57_6 l0_0 l0_1 l0_2 l0_3 l0_4 a0_5 a0_6 a0_7 a0_8 ((rd l0_1 a0_5) == t184) ji6 0 0 = some (r1, r2, r3, r4)) ∧ Aside0 (kq ≤ k) ∧ Aside0 (wc.heap[gb180]? = some (.cells #[(.slice (some ad183) l0_0.length c0_0), (.slice (some ad182) l0_1.length c0_1), (.slice A0_2 l0_2.length c0_2), (.slice A0_3 l0_3.length c0_3), (.slice A0_4 l0_4.length c0_4), .int .i64 a0_5, .int .i64 a0_6, .int .i64 a0_7, .int .i64 a0_8] 28 (0, 0))) ∧ Aside0 (wc.heap[gb181]? = some (.cells #[.bool false, .int .i64 0, .int .i64 0, .int .i64 0] 40 (0, 0))) ∧ Aside0 (wc.heap[gb185]? = some (.cells #[.bool ((rd l0_1 a0_5) == t184), .int .i64 ji6, .int .i64 0, .int .i64 0] 40 (0, 0))) ∧ Aside0 (Below w.heap.size w wc))
    case first =>
     have H := HC7.out
     clear HC7
     by_cases c16 : a0_5 < (l0_4.length : Int)
     ·rw [if_pos c16] at H
      have c16b0 : decide (a0_5 < (l0_4.length : Int)) = true := decide_eq_true c16
      clear c16
      (first | rw [c16b0] | (simp only [i64_w, i32_w]; rw [c16b0]) | skip)
      obtain ⟨bq17, hbq17⟩ : ∃ b_ : Bool, b_ = (rdOf false l0_4 a0_5) := ⟨_, rfl⟩
      replace H : (if bq17 = true then (spec_l10Choices.j0 k (rd l0_1 a0_5) (rd l0_0 a0_5) t184 true l0_0 l0_1 l0_2 l0_3 l0_4 a0_5 a0_6 a0_7 a0_8 ((rd l0_1 a0_5) == t184) ji6 0 0) else (if (rd l0_0 a0_5) ≤ (wrap64 (t184 - (rd l0_1 a0_5))) then (spec_l10Choices.j0 k (rd l0_1 a0_5) (rd l0_0 a0_5) t184 true l0_0 l0_1 l0_2 l0_3 l0_4 a0_5 a0_6 a0_7 a0_8 ((rd l0_1 a0_5) == t184) ji6 0 0) else ((spec_l10Count.f k l0_0 l0_1 l0_2 l0_3 l0_4 a0_5 a0_6 a0_7 a0_8).bind fun t187 => (if t187 < 2 then (spec_l10Choices.j0 k (rd l0_1 a0_5) (rd l0_0 a0_5) t184 true l0_0 l0_1 l0_2 l0_3 l0_4 a0_5 a0_6 a0_7 a0_8 ((rd l0_1 a0_5) == t184) ji6 0 0) else (if a0_8 = 2 then (spec_l10Choices.j0 k (rd l0_1 a0_5) (rd l0_0 a0_5) t184 (decide (a0_7 ≥ 4)) l0_0 l0_1 l0_2 l0_3 l0_4 a0_5 a0_6 a0_7 a0_8 ((rd l0_1 a0_5) == t184) ji6 0 0) else (spec_l10Choices.j0 k (rd l0_1 a0_5) (rd l0_0 a0_5) t184 false l0_0 l0_1 l0_2 l0_3 l0_4 a0_5 a0_6 a0_7 a0_8 ((rd l0_1 a0_5) == t184) ji6 0 0)))))) = some (r1, r2, r3, r4) := by rw [← hbq17] at H; exact H
      have Nbq17 := Aside0.mk hbq17
      clear hbq17
      by_cases c18 : bq17 = true
      ·subst c18
       rw [if_pos rfl] at H
       try dsimp only at H
       have H' := Aside0.mk H
       clear H
       have hnb19 := NB180_181.out
       have hnc19 := NB181_180.out
       have hnb20 := NB180_185.out
       have hnc20 := NB185_180.out
       obtain ⟨hcz21_0, hcz21_1, hcz21_2, hcz21_3, hcz21_4, hcz21_5, hcz21_6, hcz21_7, hcz21_8, hfz21_0, hfz21_1, hfz21_2, hfz21_3, hfz21_4, hfz21_5, hfz21_6, hfz21_7, hfz21_8⟩ := cz9 BK180.out
       have p186 : 0 ≤ (a0_5 : Int) := of_decide_eq_true (by first | (with_reducible assumption) | assumption)
       have q186 : a0_5 < (l0_4.length : Int) := of_decide_eq_true (by first | (with_reducible assumption) | assumption)
       obtain ⟨ad186, e186, hx186_0⟩ := Kd.at_bool HR0_4.out a0_5 p186 q186
       (try rw [← Nbq17.out] at hx186_0)
       cases e186
       have hn186_0 : ad186.block ≠ gb185 := Nat.ne_of_lt (Nat.lt_of_lt_of_le (by have := World.block_lt_of_cell? _ _ hx186_0; first | rwa [add_block] at this | exact this) GW185.out)
       have hn186_1 : ad186.block ≠ gb185 := Nat.ne_of_lt (Nat.lt_of_lt_of_le (by have := World.block_lt_of_cell? _ _ hx186_0; first | rwa [add_block] at this | exact this) GW185.out)
       have hn186_2 : ad186.block ≠ gb185 := Nat.ne_of_lt (Nat.lt_of_lt_of_le (by have := World.block_lt_of_cell? _ _ hx186_0; first | rwa [add_block] at this | exact this) GW185.out)
       have hn186_3 : ad186.block ≠ gb185 := Nat.ne_of_lt (Nat.lt_of_lt_of_le (by have := World.block_lt_of_cell? _ _ hx186_0; first | rwa [add_block] at this | exact this) GW185.out)
       replace hx186_0 := (HB.out.cell (World.block_lt_of_cell? w _ hx186_0)).trans hx186_0
       replace hx186_0 := (cell_far (p := ⟨gb185, 0, none⟩) (by first | (rw [add_block]; exact hn186_0) | (show (Addr.add _ _).block ≠ _; rw [add_block]; exact hn186_0) | exact hn186_0) (.bool ((rd l0_1 a0_5) == t184))).trans hx186_0
       replace hx186_0 := (cell_far (p := ⟨gb185, 1, none⟩) (by first | (rw [add_block]; exact hn186_1) | (show (Addr.add _ _).block ≠ _; rw [add_block]; exact hn186_1) | exact hn186_1) (.int .i64 ji6)).trans hx186_0
       replace hx186_0 := (cell_far (p := ⟨gb185, 2, none⟩) (by first | (rw [add_block]; exact hn186_2) | (show (Addr.add _ _).block ≠ _; rw [add_block]; exact hn186_2) | exact hn186_2) (.int .i64 0)).trans hx186_0
       replace hx186_0 := (cell_far (p := ⟨gb185, 3, none⟩) (by first | (rw [add_block]; exact hn186_3) | (show (Addr.add _ _).block ≠ _; rw [add_block]; exact hn186_3) | exact hn186_3) (.int .i64 0)).trans hx186_0
       clear hn186_0
       clear hn186_1
       clear hn186_2
       clear hn186_3
       replace p186 := eq_true p186
       replace q186 := eq_true q186
       go_wp2
       go_meet
       case rel => exact ⟨_, (true), (by first | rfl | (simp; done) | (simp [*]; done)), H', ⟨by first | omega | exact Nat.le_refl _⟩, ⟨by (with_reducible repeat (first | refine blk_drewN ?_ _ | refine blk_drew ?_ | refine blk_alloc ?_ _)); refine blk_far ?_ NB180_185.out _; (with_reducible repeat (first | refine blk_drewN ?_ _ | refine blk_drew ?_ | refine blk_alloc ?_ _)); refine blk_far ?_ NB180_185.out _; (with_reducible repeat (first | refine blk_drewN ?_ _ | refine blk_drew ?_ | refine blk_alloc ?_ _)); refine blk_far ?_ NB180_185.out _; (with_reducible repeat (first | refine blk_drewN ?_ _ | refine blk_drew ?_ | refine blk_alloc ?_ _)); refine blk_far ?_ NB180_185.out _; (with_reducible repeat (first | refine blk_drewN ?_ _ | refine blk_drew ?_ | refine blk_alloc ?_ _)); exact BK180.out⟩, ⟨by (with_reducible repeat (first | refine blk_drewN ?_ _ | refine blk_drew ?_ | refine blk_alloc ?_ _)); refine blk_far ?_ NB181_185.out _; (with_reducible repeat (first | refine blk_drewN ?_ _ | refine blk_drew ?_ | refine blk_alloc ?_ _)); refine blk_far ?_ NB181_185.out _; (with_reducible repeat (first | refine blk_drewN ?_ _ | refine blk_drew ?_ | refine blk_alloc ?_ _)); refine blk_far ?_ NB181_185.out _; (with_reducible repeat (first | refine blk_drewN ?_ _ | refine blk_drew ?_ | refine blk_alloc ?_ _)); refine blk_far ?_ NB181_185.out _; (with_reducible repeat (first | refine blk_drewN ?_ _ | refine blk_drew ?_ | refine blk_alloc ?_ _)); exact BK181.out⟩, ⟨by (with_reducible repeat (first | refine blk_drewN ?_ _ | refine blk_drew ?_ | refine blk_alloc ?_ _)); refine blk_put (cs := #[.bool ((rd l0_1 a0_5) == t184), .int .i64 ji6, .int .i64 0, .int .i64 0]) ?_ 3 _ rfl; (with_reducible repeat (first | refine blk_drewN ?_ _ | refine blk_drew ?_ | refine blk_alloc ?_ _)); refine blk_put (cs := #[.bool ((rd l0_1 a0_5) == t184), .int .i64 ji6, .int .i64 0, .int .i64 0]) ?_ 2 _ rfl; (with_reducible repeat (first | refine blk_drewN ?_ _ | refine blk_drew ?_ | refine blk_alloc ?_ _)); refine blk_put (cs := #[.bool ((rd l0_1 a0_5) == t184), .int .i64 0, .int .i64 0, .int .i64 0]) ?_ 1 _ rfl; (with_reducible repeat (first | refine blk_drewN ?_ _ | refine blk_drew ?_ | refine blk_alloc ?_ _)); refine blk_put (cs := #[.bool false, .int .i64 0, .int .i64 0, .int .i64 0]) ?_ 0 _ rfl; (with_reducible repeat (first | refine blk_drewN ?_ _ | refine blk_drew ?_ | refine blk_alloc ?_ _)); exact BK185.out⟩, ⟨bA HB.out⟩⟩
      ·replace c18 := Bool.eq_false_iff.mpr c18
       subst c18
       rw [if_neg (show ¬ (false = true) by decide)] at H
       try dsimp only at H
       by_cases c22 : (rd l0_0 a0_5) ≤ (wrap64 (t184 - (rd l0_1 a0_5)))
       ·rw [if_pos c22] at H
        have c22b0 : decide ((rd l0_0 a0_5) ≤ (wrap64 (t184 - (rd l0_1 a0_5)))) = true := decide_eq_true c22
        clear c22
        have H' := Aside0.mk H
        clear H
        have hnb23 := NB180_181.out
        have hnc23 := NB181_180.out
        have hnb24 := NB180_185.out
        have hnc24 := NB185_180.out
        obtain ⟨hcz25_0, hcz25_1, hcz25_2, hcz25_3, hcz25_4, hcz25_5, hcz25_6, hcz25_7, hcz25_8, hfz25_0, hfz25_1, hfz25_2, hfz25_3, hfz25_4, hfz25_5, hfz25_6, hfz25_7, hfz25_8⟩ := cz9 BK180.out
        have p186 : 0 ≤ (a0_5 : Int) := of_decide_eq_true (by first | (with_reducible assumption) | assumption)
        have q186 : a0_5 < (l0_4.length : Int) := of_decide_eq_true (by first | (with_reducible assumption) | assumption)
        obtain ⟨ad186, e186, hx186_0⟩ := Kd.at_bool HR0_4.out a0_5 p186 q186
        (try rw [← Nbq17.out] at hx186_0)
        cases e186
        have hn186_0 : ad186.block ≠ gb185 := Nat.ne_of_lt (Nat.lt_of_lt_of_le (by have := World.block_lt_of_cell? _ _ hx186_0; first | rwa [add_block] at this | exact this) GW185.out)
        have hn186_1 : ad186.block ≠ gb185 := Nat.ne_of_lt (Nat.lt_of_lt_of_le (by have := World.block_lt_of_cell? _ _ hx186_0; first | rwa [add_block] at this | exact this) GW185.out)
        have hn186_2 : ad186.block ≠ gb185 := Nat.ne_of_lt (Nat.lt_of_lt_of_le (by have := World.block_lt_of_cell? _ _ hx186_0; first | rwa [add_block] at this | exact this) GW185.out)
        have hn186_3 : ad186.block ≠ gb185 := Nat.ne_of_lt (Nat.lt_of_lt_of_le (by have := World.block_lt_of_cell? _ _ hx186_0; first | rwa [add_block] at this | exact this) GW185.out)
        replace hx186_0 := (HB.out.cell (World.block_lt_of_cell? w _ hx186_0)).trans hx186_0
        replace hx186_0 := (cell_far (p := ⟨gb185, 0, none⟩) (by first | (rw [add_block]; exact hn186_0) | (show (Addr.add _ _).block ≠ _; rw [add_block]; exact hn186_0) | exact hn186_0) (.bool ((rd l0_1 a0_5) == t184))).trans hx186_0
        replace hx186_0 := (cell_far (p := ⟨gb185, 1, none⟩) (by first | (rw [add_block]; exact hn186_1) | (show (Addr.add _ _).block ≠ _; rw [add_block]; exact hn186_1) | exact hn186_1) (.int .i64 ji6)).trans hx186_0
        replace hx186_0 := (cell_far (p := ⟨gb185, 2, none⟩) (by first | (rw [add_block]; exact hn186_2) | (show (Addr.add _ _).block ≠ _; rw [add_block]; exact hn186_2) | exact hn186_2) (.int .i64 0)).trans hx186_0
        replace hx186_0 := (cell_far (p := ⟨gb185, 3, none⟩) (by first | (rw [add_block]; exact hn186_3) | (show (Addr.add _ _).block ≠ _; rw [add_block]; exact hn186_3) | exact hn186_3) (.int .i64 0)).trans hx186_0
        clear hn186_0
        clear hn186_1
        clear hn186_2
        clear hn186_3
        replace p186 := eq_true p186
        replace q186 := eq_true q186
        go_wp2
        go_meet
        case rel => exact ⟨_, (true), (by first | rfl | (simp; done) | (simp [*]; done)), H', ⟨by first | omega | exact Nat.le_refl _⟩, ⟨by (with_reducible repeat (first | refine blk_drewN ?_ _ | refine blk_drew ?_ | refine blk_alloc ?_ _)); refine blk_far ?_ NB180_185.out _; (with_reducible repeat (first | refine blk_drewN ?_ _ | refine blk_drew ?_ | refine blk_alloc ?_ _)); refine blk_far ?_ NB180_185.out _; (with_reducible repeat (first | refine blk_drewN ?_ _ | refine blk_drew ?_ | refine blk_alloc ?_ _)); refine blk_far ?_ NB180_185.out _; (with_reducible repeat (first | refine blk_drewN ?_ _ | refine blk_drew ?_ | refine blk_alloc ?_ _)); refine blk_far ?_ NB180_185.out _; (with_reducible repeat (first | refine blk_drewN ?_ _ | refine blk_drew ?_ | refine blk_alloc ?_ _)); exact BK180.out⟩, ⟨by (with_reducible repeat (first | refine blk_drewN ?_ _ | refine blk_drew ?_ | refine blk_alloc ?_ _)); refine blk_far ?_ NB181_185.out _; (with_reducible repeat (first | refine blk_drewN ?_ _ | refine blk_drew ?_ | refine blk_alloc ?_ _)); refine blk_far ?_ NB181_185.out _; (with_reducible repeat (first | refine blk_drewN ?_ _ | refine blk_drew ?_ | refine blk_alloc ?_ _)); refine blk_far ?_ NB181_185.out _; (with_reducible repeat (first | refine blk_drewN ?_ _ | refine blk_drew ?_ | refine blk_alloc ?_ _)); refine blk_far ?_ NB181_185.out _; (with_reducible repeat (first | refine blk_drewN ?_ _ | refine blk_drew ?_ | refine blk_alloc ?_ _)); exact BK181.out⟩, ⟨by (with_reducible repeat (first | refine blk_drewN ?_ _ | refine blk_drew ?_ | refine blk_alloc ?_ _)); refine blk_put (cs := #[.bool ((rd l0_1 a0_5) == t184), .int .i64 ji6, .int .i64 0, .int .i64 0]) ?_ 3 _ rfl; (with_reducible repeat (first | refine blk_drewN ?_ _ | refine blk_drew ?_ | refine blk_alloc ?_ _)); refine blk_put (cs := #[.bool ((rd l0_1 a0_5) == t184), .int .i64 ji6, .int .i64 0, .int .i64 0]) ?_ 2 _ rfl; (with_reducible repeat (first | refine blk_drewN ?_ _ | refine blk_drew ?_ | refine blk_alloc ?_ _)); refine blk_put (cs := #[.bool ((rd l0_1 a0_5) == t184), .int .i64 0, .int .i64 0, .int .i64 0]) ?_ 1 _ rfl; (with_reducible repeat (first | refine blk_drewN ?_ _ | refine blk_drew ?_ | refine blk_alloc ?_ _)); refine blk_put (cs := #[.bool false, .int .i64 0, .int .i64 0, .int .i64 0]) ?_ 0 _ rfl; (with_reducible repeat (first | refine blk_drewN ?_ _ | refine blk_drew ?_ | refine blk_alloc ?_ _)); exact BK185.out⟩, ⟨bA HB.out⟩⟩
       ·rw [if_neg c22] at H
        have c22b0 : decide ((rd l0_0 a0_5) ≤ (wrap64 (t184 - (rd l0_1 a0_5)))) = false := decide_eq_false c22
        clear c22
        obtain ⟨t187, A260, H⟩ := Option.bind_eq_some_iff.mp H
        try dsimp only at H
        have A26 := Aside0.mk A260
        clear A260
        by_cases c27 : t187 < 2
        ·rw [if_pos c27] at H
         have c27b0 : decide (t187 < 2) = true := decide_eq_true c27
         clear c27
         have H' := Aside0.mk H
         clear H
         have hnb28 := NB180_181.out
         have hnc28 := NB181_180.out
         have hnb29 := NB180_185.out
         have hnc29 := NB185_180.out
         obtain ⟨hcz30_0, hcz30_1, hcz30_2, hcz30_3, hcz30_4, hcz30_5, hcz30_6, hcz30_7, hcz30_8, hfz30_0, hfz30_1, hfz30_2, hfz30_3, hfz30_4, hfz30_5, hfz30_6, hfz30_7, hfz30_8⟩ := cz9 BK180.out
         have p186 : 0 ≤ (a0_5 : Int) := of_decide_eq_true (by first | (with_reducible assumption) | assumption)
         have q186 : a0_5 < (l0_4.length : Int) := of_decide_eq_true (by first | (with_reducible assumption) | assumption)
         obtain ⟨ad186, e186, hx186_0⟩ := Kd.at_bool HR0_4.out a0_5 p186 q186
         (try rw [← Nbq17.out] at hx186_0)
         cases e186
         have hn186_0 : ad186.block ≠ gb185 := Nat.ne_of_lt (Nat.lt_of_lt_of_le (by have := World.block_lt_of_cell? _ _ hx186_0; first | rwa [add_block] at this | exact this) GW185.out)
         have hn186_1 : ad186.block ≠ gb185 := Nat.ne_of_lt (Nat.lt_of_lt_of_le (by have := World.block_lt_of_cell? _ _ hx186_0; first | rwa [add_block] at this | exact this) GW185.out)
         have hn186_2 : ad186.block ≠ gb185 := Nat.ne_of_lt (Nat.lt_of_lt_of_le (by have := World.block_lt_of_cell? _ _ hx186_0; first | rwa [add_block] at this | exact this) GW185.out)
         have hn186_3 : ad186.block ≠ gb185 := Nat.ne_of_lt (Nat.lt_of_lt_of_le (by have := World.block_lt_of_cell? _ _ hx186_0; first | rwa [add_block] at this | exact this) GW185.out)
         replace hx186_0 := (HB.out.cell (World.block_lt_of_cell? w _ hx186_0)).trans hx186_0
         replace hx186_0 := (cell_far (p := ⟨gb185, 0, none⟩) (by first | (rw [add_block]; exact hn186_0) | (show (Addr.add _ _).block ≠ _; rw [add_block]; exact hn186_0) | exact hn186_0) (.bool ((rd l0_1 a0_5) == t184))).trans hx186_0
         replace hx186_0 := (cell_far (p := ⟨gb185, 1, none⟩) (by first | (rw [add_block]; exact hn186_1) | (show (Addr.add _ _).block ≠ _; rw [add_block]; exact hn186_1) | exact hn186_1) (.int .i64 ji6)).trans hx186_0
         replace hx186_0 := (cell_far (p := ⟨gb185, 2, none⟩) (by first | (rw [add_block]; exact hn186_2) | (show (Addr.add _ _).block ≠ _; rw [add_block]; exact hn186_2) | exact hn186_2) (.int .i64 0)).trans hx186_0
         replace hx186_0 := (cell_far (p := ⟨gb185, 3, none⟩) (by first | (rw [add_block]; exact hn186_3) | (show (Addr.add _ _).block ≠ _; rw [add_block]; exact hn186_3) | exact hn186_3) (.int .i64 0)).trans hx186_0
         clear hn186_0
         clear hn186_1
         clear hn186_2
         clear hn186_3
         replace p186 := eq_true p186
         replace q186 := eq_true q186
         go_wp2_with (first | (go_at_call 76; (with_reducible refine (spec_l10Count.calls k _ _ l0_0 _ _ l0_1 _ _ l0_2 _ _ l0_3 _ _ l0_4 a0_5 a0_6 a0_7 a0_8 t187 _ ?side1 ?side2 ?side3 ?side4 ?side5 ?side6 ?side7 ?side8 ?side9 ?side10 A26.out).mono ?_); (case side1 => exact Kd.C_below HR0_0.out (bA HB.out)); (case side2 => exact HC0_0.out); (case side3 => exact Kd.C_below HR0_1.out (bA HB.out)); (case side4 => exact HC0_1.out); (case side5 => exact Kd.C_below HR0_2.out (bA HB.out)); (case side6 => exact HC0_2.out); (case side7 => exact Kd.C_below HR0_3.out (bA HB.out)); (case side8 => exact HC0_3.out); (case side9 => exact Kd.C_below HR0_4.out (bA HB.out)); (case side10 => exact HC0_4.out); rintro e w31 ⟨rfl, hb⟩; replace BK180 := Aside0.mk (blk_below (g := gb180) (o := .cells #[.slice (some ad183) l0_0.length c0_0, .slice (some ad182) l0_1.length c0_1, .slice A0_2 l0_2.length c0_2, .slice A0_3 l0_3.length c0_3, .slice (some ad186) l0_4.length c0_4, .int .i64 a0_5, .int .i64 a0_6, .int .i64 a0_7, .int .i64 a0_8] 28 (0, 0)) (by (with_reducible repeat (first | refine blk_drewN ?_ _ | refine blk_drew ?_ | refine blk_alloc ?_ _)); refine blk_far ?_ NB180_185.out _; (with_reducible repeat (first | refine blk_drewN ?_ _ | refine blk_drew ?_ | refine blk_alloc ?_ _)); refine blk_far ?_ NB180_185.out _; (with_reducible repeat (first | refine blk_drewN ?_ _ | refine blk_drew ?_ | refine blk_alloc ?_ _)); refine blk_far ?_ NB180_185.out _; (with_reducible repeat (first | refine blk_drewN ?_ _ | refine blk_drew ?_ | refine blk_alloc ?_ _)); refine blk_far ?_ NB180_185.out _; (with_reducible repeat (first | refine blk_drewN ?_ _ | refine blk_drew ?_ | refine blk_alloc ?_ _)); exact BK180.out) hb); replace BK181 := Aside0.mk (blk_below (g := gb181) (o := .cells #[.bool false, .int .i64 0, .int .i64 0, .int .i64 0] 40 (0, 0)) (by (with_reducible repeat (first | refine blk_drewN ?_ _ | refine blk_drew ?_ | refine blk_alloc ?_ _)); refine blk_far ?_ NB181_185.out _; (with_reducible repeat (first | refine blk_drewN ?_ _ | refine blk_drew ?_ | refine blk_alloc ?_ _)); refine blk_far ?_ NB181_185.out _; (with_reducible repeat (first | refine blk_drewN ?_ _ | refine blk_drew ?_ | refine blk_alloc ?_ _)); refine blk_far ?_ NB181_185.out _; (with_reducible repeat (first | refine blk_drewN ?_ _ | refine blk_drew ?_ | refine blk_alloc ?_ _)); refine blk_far ?_ NB181_185.out _; (with_reducible repeat (first | refine blk_drewN ?_ _ | refine blk_drew ?_ | refine blk_alloc ?_ _)); exact BK181.out) hb); replace BK185 := Aside0.mk (blk_below (g := gb185) (o := .cells #[.bool ((rd l0_1 a0_5) == t184), .int .i64 ji6, .int .i64 0, .int .i64 0] 40 (0, 0)) (by (with_reducible repeat (first | refine blk_drewN ?_ _ | refine blk_drew ?_ | refine blk_alloc ?_ _)); refine blk_put (cs := #[.bool ((rd l0_1 a0_5) == t184), .int .i64 ji6, .int .i64 0, .int .i64 0]) ?_ 3 _ rfl; (with_reducible repeat (first | refine blk_drewN ?_ _ | refine blk_drew ?_ | refine blk_alloc ?_ _)); refine blk_put (cs := #[.bool ((rd l0_1 a0_5) == t184), .int .i64 ji6, .int .i64 0, .int .i64 0]) ?_ 2 _ rfl; (with_reducible repeat (first | refine blk_drewN ?_ _ | refine blk_drew ?_ | refine blk_alloc ?_ _)); refine blk_put (cs := #[.bool ((rd l0_1 a0_5) == t184), .int .i64 0, .int .i64 0, .int .i64 0]) ?_ 1 _ rfl; (with_reducible repeat (first | refine blk_drewN ?_ _ | refine blk_drew ?_ | refine blk_alloc ?_ _)); refine blk_put (cs := #[.bool false, .int .i64 0, .int .i64 0, .int .i64 0]) ?_ 0 _ rfl; (with_reducible repeat (first | refine blk_drewN ?_ _ | refine blk_drew ?_ | refine blk_alloc ?_ _)); exact BK185.out) hb); replace HB := Aside0.mk (below_step (bA HB.out) hb); (try clear hb)))
         go_meet
         case rel => exact ⟨_, (true), (by first | rfl | (simp; done) | (simp [*]; done)), H', ⟨by first | omega | exact Nat.le_refl _⟩, ⟨by (with_reducible repeat (first | refine blk_drewN ?_ _ | refine blk_drew ?_ | refine blk_alloc ?_ _)); exact BK180.out⟩, ⟨by (with_reducible repeat (first | refine blk_drewN ?_ _ | refine blk_drew ?_ | refine blk_alloc ?_ _)); exact BK181.out⟩, ⟨by (with_reducible repeat (first | refine blk_drewN ?_ _ | refine blk_drew ?_ | refine blk_alloc ?_ _)); exact BK185.out⟩, ⟨bA HB.out⟩⟩
        ·rw [if_neg c27] at H
         have c27b0 : decide (t187 < 2) = false := decide_eq_false c27
         clear c27
         by_cases c32 : a0_8 = 2
         ·rw [if_pos c32] at H
          have c32b0 : (a0_8 == 2) = true := beq_iff_eq.mpr c32
          have c32b1 : (a0_8 != 2) = false := bne_eq_false_iff_eq.mpr c32
          clear c32
          have H' := Aside0.mk H
          clear H
          have hnb33 := NB180_181.out
          have hnc33 := NB181_180.out
          have hnb34 := NB180_185.out
          have hnc34 := NB185_180.out
          obtain ⟨hcz35_0, hcz35_1, hcz35_2, hcz35_3, hcz35_4, hcz35_5, hcz35_6, hcz35_7, hcz35_8, hfz35_0, hfz35_1, hfz35_2, hfz35_3, hfz35_4, hfz35_5, hfz35_6, hfz35_7, hfz35_8⟩ := cz9 BK180.out
          have p186 : 0 ≤ (a0_5 : Int) := of_decide_eq_true (by first | (with_reducible assumption) | assumption)
          have q186 : a0_5 < (l0_4.length : Int) := of_decide_eq_true (by first | (with_reducible assumption) | assumption)
          obtain ⟨ad186, e186, hx186_0⟩ := Kd.at_bool HR0_4.out a0_5 p186 q186
          (try rw [← Nbq17.out] at hx186_0)
          cases e186
          have hn186_0 : ad186.block ≠ gb185 := Nat.ne_of_lt (Nat.lt_of_lt_of_le (by have := World.block_lt_of_cell? _ _ hx186_0; first | rwa [add_block] at this | exact this) GW185.out)
          have hn186_1 : ad186.block ≠ gb185 := Nat.ne_of_lt (Nat.lt_of_lt_of_le (by have := World.block_lt_of_cell? _ _ hx186_0; first | rwa [add_block] at this | exact this) GW185.out)
          have hn186_2 : ad186.block ≠ gb185 := Nat.ne_of_lt (Nat.lt_of_lt_of_le (by have := World.block_lt_of_cell? _ _ hx186_0; first | rwa [add_block] at this | exact this) GW185.out)
          have hn186_3 : ad186.block ≠ gb185 := Nat.ne_of_lt (Nat.lt_of_lt_of_le (by have := World.block_lt_of_cell? _ _ hx186_0; first | rwa [add_block] at this | exact this) GW185.out)
          replace hx186_0 := (HB.out.cell (World.block_lt_of_cell? w _ hx186_0)).trans hx186_0
          replace hx186_0 := (cell_far (p := ⟨gb185, 0, none⟩) (by first | (rw [add_block]; exact hn186_0) | (show (Addr.add _ _).block ≠ _; rw [add_block]; exact hn186_0) | exact hn186_0) (.bool ((rd l0_1 a0_5) == t184))).trans hx186_0
          replace hx186_0 := (cell_far (p := ⟨gb185, 1, none⟩) (by first | (rw [add_block]; exact hn186_1) | (show (Addr.add _ _).block ≠ _; rw [add_block]; exact hn186_1) | exact hn186_1) (.int .i64 ji6)).trans hx186_0
          replace hx186_0 := (cell_far (p := ⟨gb185, 2, none⟩) (by first | (rw [add_block]; exact hn186_2) | (show (Addr.add _ _).block ≠ _; rw [add_block]; exact hn186_2) | exact hn186_2) (.int .i64 0)).trans hx186_0
          replace hx186_0 := (cell_far (p := ⟨gb185, 3, none⟩) (by first | (rw [add_block]; exact hn186_3) | (show (Addr.add _ _).block ≠ _; rw [add_block]; exact hn186_3) | exact hn186_3) (.int .i64 0)).trans hx186_0
          clear hn186_0
          clear hn186_1
          clear hn186_2
          clear hn186_3
          replace p186 := eq_true p186
          replace q186 := eq_true q186
          go_wp2_with (first | (go_at_call 76; (with_reducible refine (spec_l10Count.calls k _ _ l0_0 _ _ l0_1 _ _ l0_2 _ _ l0_3 _ _ l0_4 a0_5 a0_6 a0_7 a0_8 t187 _ ?side1 ?side2 ?side3 ?side4 ?side5 ?side6 ?side7 ?side8 ?side9 ?side10 A26.out).mono ?_); (case side1 => exact Kd.C_below HR0_0.out (bA HB.out)); (case side2 => exact HC0_0.out); (case side3 => exact Kd.C_below HR0_1.out (bA HB.out)); (case side4 => exact HC0_1.out); (case side5 => exact Kd.C_below HR0_2.out (bA HB.out)); (case side6 => exact HC0_2.out); (case side7 => exact Kd.C_below HR0_3.out (bA HB.out)); (case side8 => exact HC0_3.out); (case side9 => exact Kd.C_below HR0_4.out (bA HB.out)); (case side10 => exact HC0_4.out); rintro e w36 ⟨rfl, hb⟩; replace BK180 := Aside0.mk (blk_below (g := gb180) (o := .cells #[.slice (some ad183) l0_0.length c0_0, .slice (some ad182) l0_1.length c0_1, .slice A0_2 l0_2.length c0_2, .slice A0_3 l0_3.length c0_3, .slice (some ad186) l0_4.length c0_4, .int .i64 a0_5, .int .i64 a0_6, .int .i64 a0_7, .int .i64 a0_8] 28 (0, 0)) (by (with_reducible repeat (first | refine blk_drewN ?_ _ | refine blk_drew ?_ | refine blk_alloc ?_ _)); refine blk_far ?_ NB180_185.out _; (with_reducible repeat (first | refine blk_drewN ?_ _ | refine blk_drew ?_ | refine blk_alloc ?_ _)); refine blk_far ?_ NB180_185.out _; (with_reducible repeat (first | refine blk_drewN ?_ _ | refine blk_drew ?_ | refine blk_alloc ?_ _)); refine blk_far ?_ NB180_185.out _; (with_reducible repeat (first | refine blk_drewN ?_ _ | refine blk_drew ?_ | refine blk_alloc ?_ _)); refine blk_far ?_ NB180_185.out _; (with_reducible repeat (first | refine blk_drewN ?_ _ | refine blk_drew ?_ | refine blk_alloc ?_ _)); exact BK180.out) hb); replace BK181 := Aside0.mk (blk_below (g := gb181) (o := .cells #[.bool false, .int .i64 0, .int .i64 0, .int .i64 0] 40 (0, 0)) (by (with_reducible repeat (first | refine blk_drewN ?_ _ | refine blk_drew ?_ | refine blk_alloc ?_ _)); refine blk_far ?_ NB181_185.out _; (with_reducible repeat (first | refine blk_drewN ?_ _ | refine blk_drew ?_ | refine blk_alloc ?_ _)); refine blk_far ?_ NB181_185.out _; (with_reducible repeat (first | refine blk_drewN ?_ _ | refine blk_drew ?_ | refine blk_alloc ?_ _)); refine blk_far ?_ NB181_185.out _; (with_reducible repeat (first | refine blk_drewN ?_ _ | refine blk_drew ?_ | refine blk_alloc ?_ _)); refine blk_far ?_ NB181_185.out _; (with_reducible repeat (first | refine blk_drewN ?_ _ | refine blk_drew ?_ | refine blk_alloc ?_ _)); exact BK181.out) hb); replace BK185 := Aside0.mk (blk_below (g := gb185) (o := .cells #[.bool ((rd l0_1 a0_5) == t184), .int .i64 ji6, .int .i64 0, .int .i64 0] 40 (0, 0)) (by (with_reducible repeat (first | refine blk_drewN ?_ _ | refine blk_drew ?_ | refine blk_alloc ?_ _)); refine blk_put (cs := #[.bool ((rd l0_1 a0_5) == t184), .int .i64 ji6, .int .i64 0, .int .i64 0]) ?_ 3 _ rfl; (with_reducible repeat (first | refine blk_drewN ?_ _ | refine blk_drew ?_ | refine blk_alloc ?_ _)); refine blk_put (cs := #[.bool ((rd l0_1 a0_5) == t184), .int .i64 ji6, .int .i64 0, .int .i64 0]) ?_ 2 _ rfl; (with_reducible repeat (first | refine blk_drewN ?_ _ | refine blk_drew ?_ | refine blk_alloc ?_ _)); refine blk_put (cs := #[.bool ((rd l0_1 a0_5) == t184), .int .i64 0, .int .i64 0, .int .i64 0]) ?_ 1 _ rfl; (with_reducible repeat (first | refine blk_drewN ?_ _ | refine blk_drew ?_ | refine blk_alloc ?_ _)); refine blk_put (cs := #[.bool false, .int .i64 0, .int .i64 0, .int .i64 0]) ?_ 0 _ rfl; (with_reducible repeat (first | refine blk_drewN ?_ _ | refine blk_drew ?_ | refine blk_alloc ?_ _)); exact BK185.out) hb); replace HB := Aside0.mk (below_step (bA HB.out) hb); (try clear hb); obtain ⟨hcz37_0, hcz37_1, hcz37_2, hcz37_3, hcz37_4, hcz37_5, hcz37_6, hcz37_7, hcz37_8, hfz37_0, hfz37_1, hfz37_2, hfz37_3, hfz37_4, hfz37_5, hfz37_6, hfz37_7, hfz37_8⟩ := cz9 BK180.out))
          go_meet
          case rel => exact ⟨_, (decide (a0_7 ≥ 4)), (by first | rfl | (simp; done) | (simp [*]; done)), H', ⟨by first | omega | exact Nat.le_refl _⟩, ⟨by (with_reducible repeat (first | refine blk_drewN ?_ _ | refine blk_drew ?_ | refine blk_alloc ?_ _)); exact BK180.out⟩, ⟨by (with_reducible repeat (first | refine blk_drewN ?_ _ | refine blk_drew ?_ | refine blk_alloc ?_ _)); exact BK181.out⟩, ⟨by (with_reducible repeat (first | refine blk_drewN ?_ _ | refine blk_drew ?_ | refine blk_alloc ?_ _)); exact BK185.out⟩, ⟨bA HB.out⟩⟩
         ·rw [if_neg c32] at H
          have c32b0 : (a0_8 == 2) = false := beq_eq_false_iff_ne.mpr c32
          have c32b1 : (a0_8 != 2) = true := bne_iff_ne.mpr c32
          have H' := Aside0.mk H
          clear H
          have hnb38 := NB180_181.out
          have hnc38 := NB181_180.out
          have hnb39 := NB180_185.out
          have hnc39 := NB185_180.out
          obtain ⟨hcz40_0, hcz40_1, hcz40_2, hcz40_3, hcz40_4, hcz40_5, hcz40_6, hcz40_7, hcz40_8, hfz40_0, hfz40_1, hfz40_2, hfz40_3, hfz40_4, hfz40_5, hfz40_6, hfz40_7, hfz40_8⟩ := cz9 BK180.out
          have p186 : 0 ≤ (a0_5 : Int) := of_decide_eq_true (by first | (with_reducible assumption) | assumption)
          have q186 : a0_5 < (l0_4.length : Int) := of_decide_eq_true (by first | (with_reducible assumption) | assumption)
          obtain ⟨ad186, e186, hx186_0⟩ := Kd.at_bool HR0_4.out a0_5 p186 q186
          (try rw [← Nbq17.out] at hx186_0)
          cases e186
          have hn186_0 : ad186.block ≠ gb185 := Nat.ne_of_lt (Nat.lt_of_lt_of_le (by have := World.block_lt_of_cell? _ _ hx186_0; first | rwa [add_block] at this | exact this) GW185.out)
          have hn186_1 : ad186.block ≠ gb185 := Nat.ne_of_lt (Nat.lt_of_lt_of_le (by have := World.block_lt_of_cell? _ _ hx186_0; first | rwa [add_block] at this | exact this) GW185.out)
          have hn186_2 : ad186.block ≠ gb185 := Nat.ne_of_lt (Nat.lt_of_lt_of_le (by have := World.block_lt_of_cell? _ _ hx186_0; first | rwa [add_block] at this | exact this) GW185.out)
          have hn186_3 : ad186.block ≠ gb185 := Nat.ne_of_lt (Nat.lt_of_lt_of_le (by have := World.block_lt_of_cell? _ _ hx186_0; first | rwa [add_block] at this | exact this) GW185.out)
          replace hx186_0 := (HB.out.cell (World.block_lt_of_cell? w _ hx186_0)).trans hx186_0
          replace hx186_0 := (cell_far (p := ⟨gb185, 0, none⟩) (by first | (rw [add_block]; exact hn186_0) | (show (Addr.add _ _).block ≠ _; rw [add_block]; exact hn186_0) | exact hn186_0) (.bool ((rd l0_1 a0_5) == t184))).trans hx186_0
          replace hx186_0 := (cell_far (p := ⟨gb185, 1, none⟩) (by first | (rw [add_block]; exact hn186_1) | (show (Addr.add _ _).block ≠ _; rw [add_block]; exact hn186_1) | exact hn186_1) (.int .i64 ji6)).trans hx186_0
          replace hx186_0 := (cell_far (p := ⟨gb185, 2, none⟩) (by first | (rw [add_block]; exact hn186_2) | (show (Addr.add _ _).block ≠ _; rw [add_block]; exact hn186_2) | exact hn186_2) (.int .i64 0)).trans hx186_0
          replace hx186_0 := (cell_far (p := ⟨gb185, 3, none⟩) (by first | (rw [add_block]; exact hn186_3) | (show (Addr.add _ _).block ≠ _; rw [add_block]; exact hn186_3) | exact hn186_3) (.int .i64 0)).trans hx186_0
          clear hn186_0
          clear hn186_1
          clear hn186_2
          clear hn186_3
          replace p186 := eq_true p186
          replace q186 := eq_true q186
          go_wp2_with (first | (go_at_call 76; (with_reducible refine (spec_l10Count.calls k _ _ l0_0 _ _ l0_1 _ _ l0_2 _ _ l0_3 _ _ l0_4 a0_5 a0_6 a0_7 a0_8 t187 _ ?side1 ?side2 ?side3 ?side4 ?side5 ?side6 ?side7 ?side8 ?side9 ?side10 A26.out).mono ?_); (case side1 => exact Kd.C_below HR0_0.out (bA HB.out)); (case side2 => exact HC0_0.out); (case side3 => exact Kd.C_below HR0_1.out (bA HB.out)); (case side4 => exact HC0_1.out); (case side5 => exact Kd.C_below HR0_2.out (bA HB.out)); (case side6 => exact HC0_2.out); (case side7 => exact Kd.C_below HR0_3.out (bA HB.out)); (case side8 => exact HC0_3.out); (case side9 => exact Kd.C_below HR0_4.out (bA HB.out)); (case side10 => exact HC0_4.out); rintro e w41 ⟨rfl, hb⟩; replace BK180 := Aside0.mk (blk_below (g := gb180) (o := .cells #[.slice (some ad183) l0_0.length c0_0, .slice (some ad182) l0_1.length c0_1, .slice A0_2 l0_2.length c0_2, .slice A0_3 l0_3.length c0_3, .slice (some ad186) l0_4.length c0_4, .int .i64 a0_5, .int .i64 a0_6, .int .i64 a0_7, .int .i64 a0_8] 28 (0, 0)) (by (with_reducible repeat (first | refine blk_drewN ?_ _ | refine blk_drew ?_ | refine blk_alloc ?_ _)); refine blk_far ?_ NB180_185.out _; (with_reducible repeat (first | refine blk_drewN ?_ _ | refine blk_drew ?_ | refine blk_alloc ?_ _)); refine blk_far ?_ NB180_185.out _; (with_reducible repeat (first | refine blk_drewN ?_ _ | refine blk_drew ?_ | refine blk_alloc ?_ _)); refine blk_far ?_ NB180_185.out _; (with_reducible repeat (first | refine blk_drewN ?_ _ | refine blk_drew ?_ | refine blk_alloc ?_ _)); refine blk_far ?_ NB180_185.out _; (with_reducible repeat (first | refine blk_drewN ?_ _ | refine blk_drew ?_ | refine blk_alloc ?_ _)); exact BK180.out) hb); replace BK181 := Aside0.mk (blk_below (g := gb181) (o := .cells #[.bool false, .int .i64 0, .int .i64 0, .int .i64 0] 40 (0, 0)) (by (with_reducible repeat (first | refine blk_drewN ?_ _ | refine blk_drew ?_ | refine blk_alloc ?_ _)); refine blk_far ?_ NB181_185.out _; (with_reducible repeat (first | refine blk_drewN ?_ _ | refine blk_drew ?_ | refine blk_alloc ?_ _)); refine blk_far ?_ NB181_185.out _; (with_reducible repeat (first | refine blk_drewN ?_ _ | refine blk_drew ?_ | refine blk_alloc ?_ _)); refine blk_far ?_ NB181_185.out _; (with_reducible repeat (first | refine blk_drewN ?_ _ | refine blk_drew ?_ | refine blk_alloc ?_ _)); refine blk_far ?_ NB181_185.out _; (with_reducible repeat (first | refine blk_drewN ?_ _ | refine blk_drew ?_ | refine blk_alloc ?_ _)); exact BK181.out) hb); replace BK185 := Aside0.mk (blk_below (g := gb185) (o := .cells #[.bool ((rd l0_1 a0_5) == t184), .int .i64 ji6, .int .i64 0, .int .i64 0] 40 (0, 0)) (by (with_reducible repeat (first | refine blk_drewN ?_ _ | refine blk_drew ?_ | refine blk_alloc ?_ _)); refine blk_put (cs := #[.bool ((rd l0_1 a0_5) == t184), .int .i64 ji6, .int .i64 0, .int .i64 0]) ?_ 3 _ rfl; (with_reducible repeat (first | refine blk_drewN ?_ _ | refine blk_drew ?_ | refine blk_alloc ?_ _)); refine blk_put (cs := #[.bool ((rd l0_1 a0_5) == t184), .int .i64 ji6, .int .i64 0, .int .i64 0]) ?_ 2 _ rfl; (with_reducible repeat (first | refine blk_drewN ?_ _ | refine blk_drew ?_ | refine blk_alloc ?_ _)); refine blk_put (cs := #[.bool ((rd l0_1 a0_5) == t184), .int .i64 0, .int .i64 0, .int .i64 0]) ?_ 1 _ rfl; (with_reducible repeat (first | refine blk_drewN ?_ _ | refine blk_drew ?_ | refine blk_alloc ?_ _)); refine blk_put (cs := #[.bool false, .int .i64 0, .int .i64 0, .int .i64 0]) ?_ 0 _ rfl; (with_reducible repeat (first | refine blk_drewN ?_ _ | refine blk_drew ?_ | refine blk_alloc ?_ _)); exact BK185.out) hb); replace HB := Aside0.mk (below_step (bA HB.out) hb); (try clear hb); obtain ⟨hcz42_0, hcz42_1, hcz42_2, hcz42_3, hcz42_4, hcz42_5, hcz42_6, hcz42_7, hcz42_8, hfz42_0, hfz42_1, hfz42_2, hfz42_3, hfz42_4, hfz42_5, hfz42_6, hfz42_7, hfz42_8⟩ := cz9 BK180.out))
          go_meet
          case rel => exact ⟨_, (false), (by first | rfl | (simp; done) | (simp [*]; done)), H', ⟨by first | omega | exact Nat.le_refl _⟩, ⟨by (with_reducible repeat (first | refine blk_drewN ?_ _ | refine blk_drew ?_ | refine blk_alloc ?_ _)); exact BK180.out⟩, ⟨by (with_reducible repeat (first | refine blk_drewN ?_ _ | refine blk_drew ?_ | refine blk_alloc ?_ _)); exact BK181.out⟩, ⟨by (with_reducible repeat (first | refine blk_drewN ?_ _ | refine blk_drew ?_ | refine blk_alloc ?_ _)); exact BK185.out⟩, ⟨bA HB.out⟩⟩
     ·rw [if_neg c16] at H
      exact absurd H (by simp)
    case rest =>
     clear HC7
     try clear c1
     try clear p1
     try clear q1
     try clear hx1
     try clear c2
     try clear c2b0
     try clear p2
     try clear c3
     try clear c3b0
     try clear c4
     try clear c4b0
     try clear p6
     try clear c7
     try clear c9
     try clear c13
     try clear c14
     try clear c16
     try clear c16b0
     try clear q17
     try clear c18
     try clear p18
     try clear q18
     try clear hx18
     try clear c19
     try clear c20
     try clear c22
     try clear c22b0
     try clear c23
     try clear c24
     try clear c27
     try clear c27b0
     try clear c28
     try clear c29
     try clear c32
     try clear c32b0
     try clear c32b1
     try clear c33
     try clear c34
     try clear c38
     try clear c39
     try clear hcz15_0 hcz15_1 hcz15_2 hcz15_3
     try clear hcz21_0 hcz21_1 hcz21_2 hcz21_3 hcz21_4 hcz21_5 hcz21_6 hcz21_7 hcz21_8
     try clear hcz25_0 hcz25_1 hcz25_2 hcz25_3 hcz25_4 hcz25_5 hcz25_6 hcz25_7 hcz25_8
     try clear hcz30_0 hcz30_1 hcz30_2 hcz30_3 hcz30_4 hcz30_5 hcz30_6 hcz30_7 hcz30_8
     try clear hcz35_0 hcz35_1 hcz35_2 hcz35_3 hcz35_4 hcz35_5 hcz35_6 hcz35_7 hcz35_8
     try clear hcz37_0 hcz37_1 hcz37_2 hcz37_3 hcz37_4 hcz37_5 hcz37_6 hcz37_7 hcz37_8
     try clear hcz40_0 hcz40_1 hcz40_2 hcz40_3 hcz40_4 hcz40_5 hcz40_6 hcz40_7 hcz40_8
     try clear hcz42_0 hcz42_1 hcz42_2 hcz42_3 hcz42_4 hcz42_5 hcz42_6 hcz42_7 hcz42_8
     try clear hfz15_0 hfz15_1 hfz15_2 hfz15_3
     try clear hfz21_0 hfz21_1 hfz21_2 hfz21_3 hfz21_4 hfz21_5 hfz21_6 hfz21_7 hfz21_8
     try clear hfz25_0 hfz25_1 hfz25_2 hfz25_3 hfz25_4 hfz25_5 hfz25_6 hfz25_7 hfz25_8
     try clear hfz30_0 hfz30_1 hfz30_2 hfz30_3 hfz30_4 hfz30_5 hfz30_6 hfz30_7 hfz30_8
     try clear hfz35_0 hfz35_1 hfz35_2 hfz35_3 hfz35_4 hfz35_5 hfz35_6 hfz35_7 hfz35_8
     try clear hfz37_0 hfz37_1 hfz37_2 hfz37_3 hfz37_4 hfz37_5 hfz37_6 hfz37_7 hfz37_8
     try clear hfz40_0 hfz40_1 hfz40_2 hfz40_3 hfz40_4 hfz40_5 hfz40_6 hfz40_7 hfz40_8
     try clear hfz42_0 hfz42_1 hfz42_2 hfz42_3 hfz42_4 hfz42_5 hfz42_6 hfz42_7 hfz42_8
     try clear hx182_0
     try clear hx183_0
     try clear hx186_0
     try clear p182
     try clear p183
     try clear p186
     try clear q182
     try clear q183
     try clear q186
     obtain ⟨kq, x57_6, rfl, HA, HJ6, BK180, BK181, BK185, HB⟩ := hcut
     cases kq with
     | zero => exact absurd HA.out (by simp [spec_l10Choices.j0])
     | succ kj6 =>
      have H := HA.out
      clear HA
      simp only [spec_l10Choices.j0] at H
      by_cases c43 : x57_6 = true
      ·subst c43
       rw [if_pos rfl] at H
       try dsimp only at H
       simp only [Option.some.injEq, Prod.mk.injEq] at H
       obtain ⟨rfl, rfl, rfl, rfl⟩ := H
       have hnb44 := NB185_180.out
       have hnc44 := NB180_185.out
       have hnb45 := NB185_181.out
       have hnc45 := NB181_185.out
       obtain ⟨hcz46_0, hcz46_1, hcz46_2, hcz46_3, hfz46_0, hfz46_1, hfz46_2, hfz46_3⟩ := cz4 BK185.out
       have hnb47 := NB181_180.out
       have hnc47 := NB180_181.out
       obtain ⟨hcz48_0, hcz48_1, hcz48_2, hcz48_3, hfz48_0, hfz48_1, hfz48_2, hfz48_3⟩ := cz4 BK181.out
       go_wp2
       refine bodyPost_ret (results_cell_row rfl _ _ gb181 40 #[.bool ((rd l0_1 a0_5) == t184), .int .i64 ji6, .int .i64 0, .int .i64 0] (0, 0) _ rfl (by (with_reducible repeat (first | refine blk_drewN ?_ _ | refine blk_drew ?_ | refine blk_alloc ?_ _)); refine blk_put (cs := #[.bool ((rd l0_1 a0_5) == t184), .int .i64 ji6, .int .i64 0, .int .i64 0]) ?_ 3 _ rfl; (with_reducible repeat (first | refine blk_drewN ?_ _ | refine blk_drew ?_ | refine blk_alloc ?_ _)); refine blk_put (cs := #[.bool ((rd l0_1 a0_5) == t184), .int .i64 ji6, .int .i64 0, .int .i64 0]) ?_ 2 _ rfl; (with_reducible repeat (first | refine blk_drewN ?_ _ | refine blk_drew ?_ | refine blk_alloc ?_ _)); refine blk_put (cs := #[.bool ((rd l0_1 a0_5) == t184), .int .i64 0, .int .i64 0, .int .i64 0]) ?_ 1 _ rfl; (with_reducible repeat (first | refine blk_drewN ?_ _ | refine blk_drew ?_ | refine blk_alloc ?_ _)); refine blk_put (cs := #[.bool false, .int .i64 0, .int .i64 0, .int .i64 0]) ?_ 0 _ rfl; (with_reducible repeat (first | refine blk_drewN ?_ _ | refine blk_drew ?_ | refine blk_alloc ?_ _)); exact BK181.out) Try.underlying40 rfl (by kernel_rfl)) rfl ?_
       exact ⟨by first | rfl | (simp [errW_none, errW_some] <;> rfl) | (simp only [← hji6]; first | rfl | (simp [errW_none, errW_some] <;> rfl)) | (simp [*, errW_none, errW_some] <;> rfl), bA HB.out⟩
      ·replace c43 := Bool.eq_false_iff.mpr c43
       subst c43
       rw [if_neg (show ¬ (false = true) by decide)] at H
       try dsimp only at H
       by_cases c49 : a0_8 = 1
       ·rw [if_pos c49] at H
        have c49b0 : (a0_8 == 1) = true := beq_iff_eq.mpr c49
        have c49b1 : (a0_8 != 1) = false := bne_eq_false_iff_eq.mpr c49
        clear c49
        obtain ⟨t188, A500, H⟩ := Option.bind_eq_some_iff.mp H
        try dsimp only at H
        have A50 := Aside0.mk A500
        clear A500
        obtain ⟨ji51, hji51⟩ : ∃ j_ : Int, (mn (wrap64 ((rd l0_1 a0_5) + (rd l0_0 a0_5))) (wrap64 ((wrap64 ((wrap64 (t184 + t188)) + t184)) - (rd l0_1 a0_5)))) = j_ := ⟨_, rfl⟩
        replace H : (some (((rd l0_1 a0_5) == t184), ji6, mn (ji51) (wrap64 (t184 + a0_6)), ji51)) = some (r1, r2, r3, r4) := by first | (rw [hji51] at H; exact H) | (simp only [hji51] at H ⊢; exact H)
        (try rw [hji51] at A50)
        have hji51_ : (if (wrap64 ((wrap64 ((wrap64 (t184 + t188)) + t184)) - (rd l0_1 a0_5))) < (wrap64 ((rd l0_1 a0_5) + (rd l0_0 a0_5))) then (wrap64 ((wrap64 ((wrap64 (t184 + t188)) + t184)) - (rd l0_1 a0_5))) else (wrap64 ((rd l0_1 a0_5) + (rd l0_0 a0_5)))) = ji51 := hji51
        obtain ⟨ji52, hji52⟩ : ∃ j_ : Int, (mn (ji51) (wrap64 (t184 + a0_6))) = j_ := ⟨_, rfl⟩
        replace H : (some (((rd l0_1 a0_5) == t184), ji6, ji52, ji51)) = some (r1, r2, r3, r4) := by first | (rw [hji52] at H; exact H) | (simp only [hji52] at H ⊢; exact H)
        (try rw [hji52] at A50)
        have hji52_ : (if (wrap64 (t184 + a0_6)) < (ji51) then (wrap64 (t184 + a0_6)) else (ji51)) = ji52 := hji52
        simp only [Option.some.injEq, Prod.mk.injEq] at H
        obtain ⟨rfl, rfl, rfl, rfl⟩ := H
        have hnb53 := NB185_180.out
        have hnc53 := NB180_185.out
        have hnb54 := NB185_181.out
        have hnc54 := NB181_185.out
        obtain ⟨hcz55_0, hcz55_1, hcz55_2, hcz55_3, hfz55_0, hfz55_1, hfz55_2, hfz55_3⟩ := cz4 BK185.out
        have hnb56 := NB180_181.out
        have hnc56 := NB181_180.out
        obtain ⟨hcz57_0, hcz57_1, hcz57_2, hcz57_3, hcz57_4, hcz57_5, hcz57_6, hcz57_7, hcz57_8, hfz57_0, hfz57_1, hfz57_2, hfz57_3, hfz57_4, hfz57_5, hfz57_6, hfz57_7, hfz57_8⟩ := cz9 BK180.out
        try go_wp2
        have n0_ : Aside0 ((wc.setCell ⟨gb185, 3, none⟩ (.int .i64 (wrap64 ((rd l0_1 a0_5) + (rd l0_0 a0_5))))).heap[gb180]? = some (.cells #[.slice (some ad183) l0_0.length c0_0, .slice (some ad182) l0_1.length c0_1, .slice A0_2 l0_2.length c0_2, .slice A0_3 l0_3.length c0_3, .slice A0_4 l0_4.length c0_4, .int .i64 a0_5, .int .i64 a0_6, .int .i64 a0_7, .int .i64 a0_8] 28 (0, 0))) := ⟨by (with_reducible repeat (first | refine blk_drewN ?_ _ | refine blk_drew ?_ | refine blk_alloc ?_ _)); refine blk_far ?_ NB180_185.out _; (with_reducible repeat (first | refine blk_drewN ?_ _ | refine blk_drew ?_ | refine blk_alloc ?_ _)); exact BK180.out⟩
        have n1_ : Aside0 ((wc.setCell ⟨gb185, 3, none⟩ (.int .i64 (wrap64 ((rd l0_1 a0_5) + (rd l0_0 a0_5))))).heap[gb181]? = some (.cells #[.bool false, .int .i64 0, .int .i64 0, .int .i64 0] 40 (0, 0))) := ⟨by (with_reducible repeat (first | refine blk_drewN ?_ _ | refine blk_drew ?_ | refine blk_alloc ?_ _)); refine blk_far ?_ NB181_185.out _; (with_reducible repeat (first | refine blk_drewN ?_ _ | refine blk_drew ?_ | refine blk_alloc ?_ _)); exact BK181.out⟩
        have n2_ : Aside0 ((wc.setCell ⟨gb185, 3, none⟩ (.int .i64 (wrap64 ((rd l0_1 a0_5) + (rd l0_0 a0_5))))).heap[gb185]? = some (.cells #[.bool ((rd l0_1 a0_5) == t184), .int .i64 ji6, .int .i64 0, .int .i64 (wrap64 ((rd l0_1 a0_5) + (rd l0_0 a0_5)))] 40 (0, 0))) := ⟨by (with_reducible repeat (first | refine blk_drewN ?_ _ | refine blk_drew ?_ | refine blk_alloc ?_ _)); refine blk_put (cs := #[.bool ((rd l0_1 a0_5) == t184), .int .i64 ji6, .int .i64 0, .int .i64 0]) ?_ 3 _ rfl; (with_reducible repeat (first | refine blk_drewN ?_ _ | refine blk_drew ?_ | refine blk_alloc ?_ _)); exact BK185.out⟩
        have n3_ : Aside0 (Below w.heap.size w (wc.setCell ⟨gb185, 3, none⟩ (.int .i64 (wrap64 ((rd l0_1 a0_5) + (rd l0_0 a0_5)))))) := ⟨bA HB.out⟩
        (try clear BK180)
        (try clear BK181)
        (try clear BK185)
        (try clear HB)
        generalize (wc.setCell ⟨gb185, 3, none⟩ (.int .i64 (wrap64 ((rd l0_1 a0_5) + (rd l0_0 a0_5))))) = w58 at n0_ n1_ n2_ n3_ ⊢
        have BK180 := n0_
        have BK181 := n1_
        have BK185 := n2_
        have HB := n3_
        clear n0_ n1_ n2_ n3_
        replace BK180 := Aside0.mk (blk_drew BK180.out)
        replace BK181 := Aside0.mk (blk_drew BK181.out)
        replace BK185 := Aside0.mk (blk_drew BK185.out)
        replace HB := Aside0.mk (below_drew1 HB.out)
        refine start_ (n := 13) (S := fun w' => w'.cell? ⟨gb185, 0, none⟩ = some (.bool ((rd l0_1 a0_5) == t184)) ∧ w'.cell? ⟨gb185, 1, none⟩ = some (.int .i64 ji6) ∧ w'.cell? ⟨gb185, 2, none⟩ = some (.int .i64 0) ∧ w'.cell? ⟨gb185, 3, none⟩ = some (.int .i64 (wrap64 ((rd l0_1 a0_5) + (rd l0_0 a0_5)))) ∧ w'.cell? ⟨gb180, 0, none⟩ = some (.slice (some ad183) l0_0.length c0_0) ∧ w'.cell? ⟨gb180, 1, none⟩ = some (.slice (some ad182) l0_1.length c0_1) ∧ w'.cell? ⟨gb180, 2, none⟩ = some (.slice A0_2 l0_2.length c0_2) ∧ w'.cell? ⟨gb180, 3, none⟩ = some (.slice A0_3 l0_3.length c0_3) ∧ w'.cell? ⟨gb180, 4, none⟩ = some (.slice A0_4 l0_4.length c0_4) ∧ w'.cell? ⟨gb180, 5, none⟩ = some (.int .i64 a0_5) ∧ w'.cell? ⟨gb180, 6, none⟩ = some (.int .i64 a0_6) ∧ w'.cell? ⟨gb180, 7, none⟩ = some (.int .i64 a0_7) ∧ w'.cell? ⟨gb180, 8, none⟩ = some (.int .i64 a0_8)) (ds := [12]) #[false, false, false, false, false, false, false, false, false, false, false, false, false] (by kernel_rfl) rfl rfl ⟨(blk_cell BK185.out 0).trans rfl, (blk_cell BK185.out 1).trans rfl, (blk_cell BK185.out 2).trans rfl, (blk_cell BK185.out 3).trans rfl, (blk_cell BK180.out 0).trans rfl, (blk_cell BK180.out 1).trans rfl, (blk_cell BK180.out 2).trans rfl, (blk_cell BK180.out 3).trans rfl, (blk_cell BK180.out 4).trans rfl, (blk_cell BK180.out 5).trans rfl, (blk_cell BK180.out 6).trans rfl, (blk_cell BK180.out 7).trans rfl, (blk_cell BK180.out 8).trans rfl⟩ (fun hHeld => ?_); refine with_tabW spec_l10Choices.tab8 spec_l10Choices.bits8 (fun HT_ HW_ => ?_)
        generalize w58.drew = w59 at BK180 BK181 BK185 HB hHeld ⊢
        refine pI 0 (some 67) #[true, false, false, false, false, false, false, false, false, false, false, false, false] HT_.out ?_
        refine pI 2 (some 69) #[true, false, true, false, false, false, false, false, false, false, false, false, false] HT_.out ?_
        refine pI 6 (some 73) #[true, false, true, false, false, false, true, false, false, false, false, false, false] HT_.out ?_
        refine pI 8 (some 75) #[true, false, true, false, false, false, true, false, true, false, false, false, false] HT_.out ?_
        refine tI 1 (some 68) #[true, true, true, false, false, false, true, false, true, false, false, false, false] HT_.out HW_.out hHeld ?_
        refine tI 3 (some 70) #[true, true, true, true, false, false, true, false, true, false, false, false, false] HT_.out HW_.out hHeld ?_
        refine one_ (i := 4) (N := some 71) #[true, true, true, true, true, false, true, false, true, false, false, false, false] rfl rfl (one_of HT_.out (by kernel_rfl)) (by decide) (fun K hK => ?_)
        refine gO Try.func59 #[.agg #[.slice (some ad183) l0_0.length c0_0, .slice (some ad182) l0_1.length c0_1, .slice A0_2 l0_2.length c0_2, .slice A0_3 l0_3.length c0_3, .slice A0_4 l0_4.length c0_4, .int .i64 a0_5, .int .i64 a0_6, .int .i64 a0_7, .int .i64 a0_8]] ?_
        with_reducible refine (spec_l10Pot.calls kj6 _ _ l0_0 _ _ l0_1 _ _ l0_2 _ _ l0_3 _ _ l0_4 a0_5 a0_6 a0_7 a0_8 t188 _ ?side1 ?side2 ?side3 ?side4 ?side5 ?side6 ?side7 ?side8 ?side9 ?side10 A50.out).mono ?_
        (case side1 => exact cA (Kd.C_below HR0_0.out HB.out))
        (case side2 => exact HC0_0.out)
        (case side3 => exact cA (Kd.C_below HR0_1.out HB.out))
        (case side4 => exact HC0_1.out)
        (case side5 => exact cA (Kd.C_below HR0_2.out HB.out))
        (case side6 => exact HC0_2.out)
        (case side7 => exact cA (Kd.C_below HR0_3.out HB.out))
        (case side8 => exact HC0_3.out)
        (case side9 => exact cA (Kd.C_below HR0_4.out HB.out))
        (case side10 => exact HC0_4.out)
        rintro e w60 ⟨rfl, hb⟩
        refine ⟨_, rfl, ?_⟩
        replace BK180 := Aside0.mk (blk_below (kA BK180.out) hb)
        replace BK181 := Aside0.mk (blk_below (kA BK181.out) hb)
        replace BK185 := Aside0.mk (blk_below (kA BK185.out) hb)
        replace HB := Aside0.mk (below_step (bA HB.out) hb)
        (try clear hb)
        refine hK.out _ _ ⟨(blk_cell BK185.out 0).trans rfl, (blk_cell BK185.out 1).trans rfl, (blk_cell BK185.out 2).trans rfl, (blk_cell BK185.out 3).trans rfl, (blk_cell BK180.out 0).trans rfl, (blk_cell BK180.out 1).trans rfl, (blk_cell BK180.out 2).trans rfl, (blk_cell BK180.out 3).trans rfl, (blk_cell BK180.out 4).trans rfl, (blk_cell BK180.out 5).trans rfl, (blk_cell BK180.out 6).trans rfl, (blk_cell BK180.out 7).trans rfl, (blk_cell BK180.out 8).trans rfl⟩ (fun hHeld => ?_)
        clear hK K
        refine nO 71 ?_
        refine pI 5 (some 72) #[true, true, true, true, true, true, true, false, true, false, false, false, false] HT_.out ?_
        refine pI 7 (some 74) #[true, true, true, true, true, true, true, true, true, false, false, false, false] HT_.out ?_
        refine pI 9 (some 76) #[true, true, true, true, true, true, true, true, true, true, false, false, false] HT_.out ?_
        refine pI 10 (some 77) #[true, true, true, true, true, true, true, true, true, true, true, false, false] HT_.out ?_
        refine pI 11 (some 78) #[true, true, true, true, true, true, true, true, true, true, true, true, false] HT_.out ?_
        refine last_ (i := 12) (N := none) #[true, true, true, true, true, true, true, true, true, true, true, true, true] rfl rfl (one_of HT_.out (by kernel_rfl)) (by decide) (fun K hK => ?_)
        have hs61 : w60.cell? ⟨gb185, 3, none⟩ = some (.int .i64 (wrap64 ((rd l0_1 a0_5) + (rd l0_0 a0_5)))) := (blk_cell BK185.out 3).trans rfl
        have hfs61 := blk_frozen BK185.out 3
        have hns61_0 := NB180_185.out
        have hns61_1 := NB181_185.out
        have hms61_0 := NB185_180.out
        have hms61_1 := NB185_181.out
        refine skip_ (w1 := ?_) (by rfl) rfl ?_ ?_
        rotate_left
        ·go_simp
         rfl
        refine hK.out _ _ ?_
        clear hK K
        refine done_ (done_of HT_.out (by kernel_rfl)) ?_
        obtain ⟨hcz62_0, hcz62_1, hcz62_2, hcz62_3, hfz62_0, hfz62_1, hfz62_2, hfz62_3⟩ := cz4 BK185.out
        obtain ⟨hcz63_0, hcz63_1, hcz63_2, hcz63_3, hcz63_4, hcz63_5, hcz63_6, hcz63_7, hcz63_8, hfz63_0, hfz63_1, hfz63_2, hfz63_3, hfz63_4, hfz63_5, hfz63_6, hfz63_7, hfz63_8⟩ := cz9 BK180.out
        obtain ⟨hcz64_0, hcz64_1, hcz64_2, hcz64_3, hfz64_0, hfz64_1, hfz64_2, hfz64_3⟩ := cz4 BK181.out
        try go_wp2
        refine bodyPost_ret (results_cell_row rfl _ _ gb181 40 #[.bool ((rd l0_1 a0_5) == t184), .int .i64 ji6, .int .i64 ji52, .int .i64 ji51] (0, 0) _ rfl (by (with_reducible repeat (first | refine blk_drewN ?_ _ | refine blk_drew ?_ | refine blk_alloc ?_ _)); refine blk_put (cs := #[.bool ((rd l0_1 a0_5) == t184), .int .i64 ji6, .int .i64 ji52, .int .i64 0]) ?_ 3 _ rfl; (with_reducible repeat (first | refine blk_drewN ?_ _ | refine blk_drew ?_ | refine blk_alloc ?_ _)); refine blk_put (cs := #[.bool ((rd l0_1 a0_5) == t184), .int .i64 ji6, .int .i64 0, .int .i64 0]) ?_ 2 _ rfl; (with_reducible repeat (first | refine blk_drewN ?_ _ | refine blk_drew ?_ | refine blk_alloc ?_ _)); refine blk_put (cs := #[.bool ((rd l0_1 a0_5) == t184), .int .i64 0, .int .i64 0, .int .i64 0]) ?_ 1 _ rfl; (with_reducible repeat (first | refine blk_drewN ?_ _ | refine blk_drew ?_ | refine blk_alloc ?_ _)); refine blk_put (cs := #[.bool false, .int .i64 0, .int .i64 0, .int .i64 0]) ?_ 0 _ rfl; (with_reducible repeat (first | refine blk_drewN ?_ _ | refine blk_drew ?_ | refine blk_alloc ?_ _)); refine blk_far ?_ NB181_185.out _; (with_reducible repeat (first | refine blk_drewN ?_ _ | refine blk_drew ?_ | refine blk_alloc ?_ _)); refine blk_far ?_ NB181_185.out _; (with_reducible repeat (first | refine blk_drewN ?_ _ | refine blk_drew ?_ | refine blk_alloc ?_ _)); exact BK181.out) Try.underlying40 rfl (by kernel_rfl)) rfl ?_
        exact ⟨by first | rfl | (simp [errW_none, errW_some] <;> rfl) | (simp only [← hji6, ← hji51, ← hji52]; first | rfl | (simp [errW_none, errW_some] <;> rfl)) | (simp [*, errW_none, errW_some] <;> rfl), bA HB.out⟩
       ·rw [if_neg c49] at H
        have c49b0 : (a0_8 == 1) = false := beq_eq_false_iff_ne.mpr c49
        have c49b1 : (a0_8 != 1) = true := bne_iff_ne.mpr c49
        by_cases c65 : a0_8 = 2
        ·rw [if_pos c65] at H
         have c65b0 : (a0_8 == 2) = true := beq_iff_eq.mpr c65
         have c65b1 : (a0_8 != 2) = false := bne_eq_false_iff_eq.mpr c65
         clear c65
         obtain ⟨ji66, hji66⟩ : ∃ j_ : Int, (mn (wrap64 ((rd l0_1 a0_5) + (rd l0_0 a0_5))) (wrap64 (t184 + a0_6))) = j_ := ⟨_, rfl⟩
         replace H : (some (((rd l0_1 a0_5) == t184), ji6, mn (ji66) (wrap64 (t184 + a0_6)), ji66)) = some (r1, r2, r3, r4) := by first | (rw [hji66] at H; exact H) | (simp only [hji66] at H ⊢; exact H)
         have hji66_ : (if (wrap64 (t184 + a0_6)) < (wrap64 ((rd l0_1 a0_5) + (rd l0_0 a0_5))) then (wrap64 (t184 + a0_6)) else (wrap64 ((rd l0_1 a0_5) + (rd l0_0 a0_5)))) = ji66 := hji66
         obtain ⟨ji67, hji67⟩ : ∃ j_ : Int, (mn (ji66) (wrap64 (t184 + a0_6))) = j_ := ⟨_, rfl⟩
         replace H : (some (((rd l0_1 a0_5) == t184), ji6, ji67, ji66)) = some (r1, r2, r3, r4) := by first | (rw [hji67] at H; exact H) | (simp only [hji67] at H ⊢; exact H)
         have hji67_ : (if (wrap64 (t184 + a0_6)) < (ji66) then (wrap64 (t184 + a0_6)) else (ji66)) = ji67 := hji67
         have hq_ : ji67 = ji66 := by omega
         rw [hq_] at H
         clear hq_ hji67 hji67_
         simp only [Option.some.injEq, Prod.mk.injEq] at H
         obtain ⟨rfl, rfl, rfl, rfl⟩ := H
         have hnb68 := NB185_180.out
         have hnc68 := NB180_185.out
         have hnb69 := NB185_181.out
         have hnc69 := NB181_185.out
         obtain ⟨hcz70_0, hcz70_1, hcz70_2, hcz70_3, hfz70_0, hfz70_1, hfz70_2, hfz70_3⟩ := cz4 BK185.out
         have hnb71 := NB180_181.out
         have hnc71 := NB181_180.out
         obtain ⟨hcz72_0, hcz72_1, hcz72_2, hcz72_3, hcz72_4, hcz72_5, hcz72_6, hcz72_7, hcz72_8, hfz72_0, hfz72_1, hfz72_2, hfz72_3, hfz72_4, hfz72_5, hfz72_6, hfz72_7, hfz72_8⟩ := cz9 BK180.out
         obtain ⟨hcz73_0, hcz73_1, hcz73_2, hcz73_3, hfz73_0, hfz73_1, hfz73_2, hfz73_3⟩ := cz4 BK181.out
         go_wp2
         refine bodyPost_ret (results_cell_row rfl _ _ gb181 40 #[.bool ((rd l0_1 a0_5) == t184), .int .i64 ji6, .int .i64 ji66, .int .i64 ji66] (0, 0) _ rfl (by (with_reducible repeat (first | refine blk_drewN ?_ _ | refine blk_drew ?_ | refine blk_alloc ?_ _)); refine blk_put (cs := #[.bool ((rd l0_1 a0_5) == t184), .int .i64 ji6, .int .i64 ji66, .int .i64 0]) ?_ 3 _ rfl; (with_reducible repeat (first | refine blk_drewN ?_ _ | refine blk_drew ?_ | refine blk_alloc ?_ _)); refine blk_put (cs := #[.bool ((rd l0_1 a0_5) == t184), .int .i64 ji6, .int .i64 0, .int .i64 0]) ?_ 2 _ rfl; (with_reducible repeat (first | refine blk_drewN ?_ _ | refine blk_drew ?_ | refine blk_alloc ?_ _)); refine blk_put (cs := #[.bool ((rd l0_1 a0_5) == t184), .int .i64 0, .int .i64 0, .int .i64 0]) ?_ 1 _ rfl; (with_reducible repeat (first | refine blk_drewN ?_ _ | refine blk_drew ?_ | refine blk_alloc ?_ _)); refine blk_put (cs := #[.bool false, .int .i64 0, .int .i64 0, .int .i64 0]) ?_ 0 _ rfl; (with_reducible repeat (first | refine blk_drewN ?_ _ | refine blk_drew ?_ | refine blk_alloc ?_ _)); refine blk_far ?_ NB181_185.out _; (with_reducible repeat (first | refine blk_drewN ?_ _ | refine blk_drew ?_ | refine blk_alloc ?_ _)); refine blk_far ?_ NB181_185.out _; (with_reducible repeat (first | refine blk_drewN ?_ _ | refine blk_drew ?_ | refine blk_alloc ?_ _)); refine blk_far ?_ NB181_185.out _; (with_reducible repeat (first | refine blk_drewN ?_ _ | refine blk_drew ?_ | refine blk_alloc ?_ _)); exact BK181.out) Try.underlying40 rfl (by kernel_rfl)) rfl ?_
         exact ⟨by first | rfl | (simp [errW_none, errW_some] <;> rfl) | (simp only [← hji6, ← hji66, ← hji67]; first | rfl | (simp [errW_none, errW_some] <;> rfl)) | (simp [*, errW_none, errW_some] <;> rfl), bA HB.out⟩
        ·rw [if_neg c65] at H
         have c65b0 : (a0_8 == 2) = false := beq_eq_false_iff_ne.mpr c65
         have c65b1 : (a0_8 != 2) = true := bne_iff_ne.mpr c65
         obtain ⟨ji74, hji74⟩ : ∃ j_ : Int, (mn (wrap64 ((rd l0_1 a0_5) + (rd l0_0 a0_5))) (wrap64 (t184 + a0_6))) = j_ := ⟨_, rfl⟩
         replace H : (some (((rd l0_1 a0_5) == t184), ji6, ji74, wrap64 ((rd l0_1 a0_5) + (rd l0_0 a0_5)))) = some (r1, r2, r3, r4) := by first | (rw [hji74] at H; exact H) | (simp only [hji74] at H ⊢; exact H)
         have hji74_ : (if (wrap64 (t184 + a0_6)) < (wrap64 ((rd l0_1 a0_5) + (rd l0_0 a0_5))) then (wrap64 (t184 + a0_6)) else (wrap64 ((rd l0_1 a0_5) + (rd l0_0 a0_5)))) = ji74 := hji74
         simp only [Option.some.injEq, Prod.mk.injEq] at H
         obtain ⟨rfl, rfl, rfl, rfl⟩ := H
         have hnb75 := NB185_180.out
         have hnc75 := NB180_185.out
         have hnb76 := NB185_181.out
         have hnc76 := NB181_185.out
         obtain ⟨hcz77_0, hcz77_1, hcz77_2, hcz77_3, hfz77_0, hfz77_1, hfz77_2, hfz77_3⟩ := cz4 BK185.out
         have hnb78 := NB180_181.out
         have hnc78 := NB181_180.out
         obtain ⟨hcz79_0, hcz79_1, hcz79_2, hcz79_3, hcz79_4, hcz79_5, hcz79_6, hcz79_7, hcz79_8, hfz79_0, hfz79_1, hfz79_2, hfz79_3, hfz79_4, hfz79_5, hfz79_6, hfz79_7, hfz79_8⟩ := cz9 BK180.out
         obtain ⟨hcz80_0, hcz80_1, hcz80_2, hcz80_3, hfz80_0, hfz80_1, hfz80_2, hfz80_3⟩ := cz4 BK181.out
         go_wp2
         refine bodyPost_ret (results_cell_row rfl _ _ gb181 40 #[.bool ((rd l0_1 a0_5) == t184), .int .i64 ji6, .int .i64 ji74, .int .i64 (wrap64 ((rd l0_1 a0_5) + (rd l0_0 a0_5)))] (0, 0) _ rfl (by (with_reducible repeat (first | refine blk_drewN ?_ _ | refine blk_drew ?_ | refine blk_alloc ?_ _)); refine blk_put (cs := #[.bool ((rd l0_1 a0_5) == t184), .int .i64 ji6, .int .i64 ji74, .int .i64 0]) ?_ 3 _ rfl; (with_reducible repeat (first | refine blk_drewN ?_ _ | refine blk_drew ?_ | refine blk_alloc ?_ _)); refine blk_put (cs := #[.bool ((rd l0_1 a0_5) == t184), .int .i64 ji6, .int .i64 0, .int .i64 0]) ?_ 2 _ rfl; (with_reducible repeat (first | refine blk_drewN ?_ _ | refine blk_drew ?_ | refine blk_alloc ?_ _)); refine blk_put (cs := #[.bool ((rd l0_1 a0_5) == t184), .int .i64 0, .int .i64 0, .int .i64 0]) ?_ 1 _ rfl; (with_reducible repeat (first | refine blk_drewN ?_ _ | refine blk_drew ?_ | refine blk_alloc ?_ _)); refine blk_put (cs := #[.bool false, .int .i64 0, .int .i64 0, .int .i64 0]) ?_ 0 _ rfl; (with_reducible repeat (first | refine blk_drewN ?_ _ | refine blk_drew ?_ | refine blk_alloc ?_ _)); refine blk_far ?_ NB181_185.out _; (with_reducible repeat (first | refine blk_drewN ?_ _ | refine blk_drew ?_ | refine blk_alloc ?_ _)); refine blk_far ?_ NB181_185.out _; (with_reducible repeat (first | refine blk_drewN ?_ _ | refine blk_drew ?_ | refine blk_alloc ?_ _)); exact BK181.out) Try.underlying40 rfl (by kernel_rfl)) rfl ?_
         exact ⟨by first | rfl | (simp [errW_none, errW_some] <;> rfl) | (simp only [← hji6, ← hji74]; first | rfl | (simp [errW_none, errW_some] <;> rfl)) | (simp [*, errW_none, errW_some] <;> rfl), bA HB.out⟩
   ·rw [if_neg c4] at H
    exact absurd H (by simp)
  ·rw [if_neg c3] at H
   exact absurd H (by simp)
 ·rw [if_neg c2] at H
  exact absurd H (by simp)
end Go.Proofs.Ytmcobmphmmgdmaa.QFnExactIsLegal
