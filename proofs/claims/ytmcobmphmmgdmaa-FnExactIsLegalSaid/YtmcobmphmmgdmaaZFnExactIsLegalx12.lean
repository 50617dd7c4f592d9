import Derived.Test.YtmcobmphmmgdmaaZFnExactIsLegalx0
import Derived.Test.YtmcobmphmmgdmaaZFnExactIsLegalx7
import Derived.Test.YtmcobmphmmgdmaaZFnExactIsLegalx8
import Derived.Test.YtmcobmphmmgdmaaZFnExactIsLegalx9
namespace Go.Proofs.Ytmcobmphmmgdmaa.QFnExactIsLegal
open Go.RowKit Go.Proofs.YtmcobmphmmgdmaaW.PrintWords Go.Proofs.YtmcobmphmmgdmaaW.PrintLast Go.Proofs.YtmcobmphmmgdmaaW.PrintMore
attribute [local go_sem] max2_int min2_int max_two min_two max_three min_three max_four min_four
set_option linter.unusedVariables false
set_option linter.unusedSimpArgs false
def impl_choicesIn.j0 : Nat → Int → Int → Int → Bool → List Int → List Int → List Int → List Bool → List Bool → Int → Int → Int → Int → Bool → Int → Int → Int → Option (Bool × Int × Int × Int)
 | 0, _, _, _, _, _, _, _, _, _, _, _, _, _, _, _, _, _ => none
 | k + 1, x4, x5, x6, x59, x241000, x241001, x241002, x241003, x241004, x241005, x241006, x241007, x241008, x246000, x246001, x246002, x246003 => if x59 = true then (some (x246000, x246001, x246002, x246003)) else (if x241008 = 1 then ((impl_sumOf.f k x241001).bind fun t248 => ((impl_sumOf.f k x241002).bind fun t249 => (some (x246000, x246001, mn (mn (wrap64 (x4 + x5)) (wrap64 ((wrap64 ((wrap64 ((wrap64 (x6 + t248)) + t249)) + x6)) - x4))) (wrap64 (x6 + x241006)), mn (wrap64 (x4 + x5)) (wrap64 ((wrap64 ((wrap64 ((wrap64 (x6 + t248)) + t249)) + x6)) - x4)))))) else (if x241008 = 2 then (some (x246000, x246001, mn (mn (wrap64 (x4 + x5)) (wrap64 (x6 + x241006))) (wrap64 (x6 + x241006)), mn (wrap64 (x4 + x5)) (wrap64 (x6 + x241006)))) else (some (x246000, x246001, mn (wrap64 (x4 + x5)) (wrap64 (x6 + x241006)), wrap64 (x4 + x5)))))
def impl_choicesIn.f (k : Nat) (l0_0 : List Int) (l0_1 : List Int) (l0_2 : List Int) (l0_3 : List Bool) (l0_4 : List Bool) (a0_5 : Int) (a0_6 : Int) (a0_7 : Int) (a0_8 : Int) : Option (Bool × Int × Int × Int) := if 0 ≤ a0_5 then (if a0_5 < (l0_1.length : Int) then (if a0_5 < (l0_0.length : Int) then ((slices_Max_int64_int64.f k l0_1).bind fun t244 => (if a0_5 < (l0_4.length : Int) then (if rdOf false l0_4 a0_5 = true then (impl_choicesIn.j0 k (rd l0_1 a0_5) (rd l0_0 a0_5) t244 true l0_0 l0_1 l0_2 l0_3 l0_4 a0_5 a0_6 a0_7 a0_8 ((rd l0_1 a0_5) == t244) (mn (wrap64 (t244 - (rd l0_1 a0_5))) (rd l0_0 a0_5)) 0 0) else (if (rd l0_0 a0_5) ≤ (wrap64 (t244 - (rd l0_1 a0_5))) then (impl_choicesIn.j0 k (rd l0_1 a0_5) (rd l0_0 a0_5) t244 true l0_0 l0_1 l0_2 l0_3 l0_4 a0_5 a0_6 a0_7 a0_8 ((rd l0_1 a0_5) == t244) (mn (wrap64 (t244 - (rd l0_1 a0_5))) (rd l0_0 a0_5)) 0 0) else ((impl_othersCanAct.f k l0_0 l0_1 l0_2 l0_3 l0_4 a0_5 a0_6 a0_7 a0_8 a0_5).bind fun t247 => (if t247 = true then (if a0_8 = 2 then (impl_choicesIn.j0 k (rd l0_1 a0_5) (rd l0_0 a0_5) t244 (decide (a0_7 ≥ 4)) l0_0 l0_1 l0_2 l0_3 l0_4 a0_5 a0_6 a0_7 a0_8 ((rd l0_1 a0_5) == t244) (mn (wrap64 (t244 - (rd l0_1 a0_5))) (rd l0_0 a0_5)) 0 0) else (impl_choicesIn.j0 k (rd l0_1 a0_5) (rd l0_0 a0_5) t244 false l0_0 l0_1 l0_2 l0_3 l0_4 a0_5 a0_6 a0_7 a0_8 ((rd l0_1 a0_5) == t244) (mn (wrap64 (t244 - (rd l0_1 a0_5))) (rd l0_0 a0_5)) 0 0)) else (impl_choicesIn.j0 k (rd l0_1 a0_5) (rd l0_0 a0_5) t244 true l0_0 l0_1 l0_2 l0_3 l0_4 a0_5 a0_6 a0_7 a0_8 ((rd l0_1 a0_5) == t244) (mn (wrap64 (t244 - (rd l0_1 a0_5))) (rd l0_0 a0_5)) 0 0))))) else (none))) else (none)) else (none)) else (none)
theorem impl_choicesIn.mono_l : ∀ k, (∀ y0 y1 y2 y3 y4 y5 y6 y7 y8 y9 y10 y11 y12 y13 y14 y15 y16, LeO (impl_choicesIn.j0 k y0 y1 y2 y3 y4 y5 y6 y7 y8 y9 y10 y11 y12 y13 y14 y15 y16) (impl_choicesIn.j0 (k + 1) y0 y1 y2 y3 y4 y5 y6 y7 y8 y9 y10 y11 y12 y13 y14 y15 y16))
 | 0 => fun _ _ _ _ _ _ _ _ _ _ _ _ _ _ _ _ _ r h => by simp [impl_choicesIn.j0] at h
 | k + 1 => by
  have ih0 := impl_choicesIn.mono_l k
  ·intro y0 y1 y2 y3 y4 y5 y6 y7 y8 y9 y10 y11 y12 y13 y14 y15 y16
   unfold impl_choicesIn.j0
   repeat' first
   | (with_reducible exact ih0 _ _ _ _ _ _ _ _ _ _ _ _ _ _ _ _ _)
   | (with_reducible exact impl_othersCanAct.mono _ _ _ _ _ _ _ _ _ _ _)
   | (with_reducible exact impl_sumOf.mono _ _)
   | (with_reducible exact slices_Max_int64_int64.mono _ _)
   | (with_reducible exact LeO.refl _)
   | (with_reducible exact LeO.none _)
   | (with_reducible refine LeO.ite ?_ ?_)
   | (with_reducible refine LeO.bind ?_ (fun _ => ?_))
   | exact ih0 _ _ _ _ _ _ _ _ _ _ _ _ _ _ _ _ _
   | exact impl_othersCanAct.mono _ _ _ _ _ _ _ _ _ _ _
   | exact impl_sumOf.mono _ _
   | exact slices_Max_int64_int64.mono _ _
   | exact LeO.none _
   | refine LeO.ite ?_ ?_
   | refine LeO.bind ?_ (fun _ => ?_)
theorem impl_choicesIn.mono : ∀ a0 a1 a2 a3 a4 a5 a6 a7 a8 k, LeO (impl_choicesIn.f k a0 a1 a2 a3 a4 a5 a6 a7 a8) (impl_choicesIn.f (k + 1) a0 a1 a2 a3 a4 a5 a6 a7 a8) := by
 intro a0 a1 a2 a3 a4 a5 a6 a7 a8 k
 have ih0 := impl_choicesIn.mono_l k
 unfold impl_choicesIn.f
 repeat' first
   | (with_reducible exact ih0 _ _ _ _ _ _ _ _ _ _ _ _ _ _ _ _ _)
   | (with_reducible exact impl_othersCanAct.mono _ _ _ _ _ _ _ _ _ _ _)
   | (with_reducible exact impl_sumOf.mono _ _)
   | (with_reducible exact slices_Max_int64_int64.mono _ _)
   | (with_reducible exact LeO.refl _)
   | (with_reducible exact LeO.none _)
   | (with_reducible refine LeO.ite ?_ ?_)
   | (with_reducible refine LeO.bind ?_ (fun _ => ?_))
   | exact ih0 _ _ _ _ _ _ _ _ _ _ _ _ _ _ _ _ _
   | exact impl_othersCanAct.mono _ _ _ _ _ _ _ _ _ _ _
   | exact impl_sumOf.mono _ _
   | exact slices_Max_int64_int64.mono _ _
   | exact LeO.none _
   | refine LeO.ite ?_ ?_
   | refine LeO.bind ?_ (fun _ => ?_)
def impl_choicesIn.T2 : Bool × List (List Nat × List Nat) := (true, [([], []), ([0], [0]), ([], []), ([1, 2], [1, 2]), ([3], [3]), ([], []), ([5], [5]), ([], []), ([6, 7], [6, 7]), ([8], [8]), ([], []), ([10], [10]), ([11], [11]), ([4, 12, 0, 1, 2, 3, 4], [4]), ([9, 13, 0, 1, 2, 3, 4, 5, 6, 7, 8, 9, 13], [9]), ([12, 14, 0, 1, 2, 3, 4, 5, 6, 7, 8, 9, 10, 11, 12, 13, 14], [12])])
def impl_choicesIn.B2 : List Nat := [0, 1, 0, 7, 15, 0, 32, 0, 224, 480, 0, 1024, 3072, 7199, 16383, 32767]
theorem impl_choicesIn.tab2 : rtab .any (opsOf Try.f81 2) = impl_choicesIn.T2 := by kernel_rfl
theorem impl_choicesIn.bits2 : waitsOk impl_choicesIn.T2.2 impl_choicesIn.B2 = true := by kernel_rfl
def impl_choicesIn.T9 : Bool × List (List Nat × List Nat) := (true, [([], []), ([0], [0]), ([], []), ([], []), ([3], [3]), ([4], [4]), ([2, 5], [2, 5]), ([], []), ([7], [7]), ([8, 5], [8]), ([6, 9], [6, 9]), ([], []), ([10, 11], [10, 11]), ([], []), ([12, 13], [12, 13]), ([1, 14], [1, 14]), ([0, 1, 2, 3, 4, 5, 6, 7, 8, 9, 10, 11, 12, 13, 14, 15], []), ([16, 15, 9, 0, 1, 2, 3, 4, 5, 6, 7, 8, 9, 10, 11, 12, 13, 14, 15], [15, 16])])
def impl_choicesIn.B9 : List Nat := [0, 1, 0, 0, 8, 24, 60, 0, 128, 440, 1020, 0, 4092, 0, 16380, 32767, 65535, 131071]
theorem impl_choicesIn.tab9 : rtab .any (opsOf Try.f81 9) = impl_choicesIn.T9 := by kernel_rfl
theorem impl_choicesIn.bits9 : waitsOk impl_choicesIn.T9.2 impl_choicesIn.B9 = true := by kernel_rfl
set_option maxHeartbeats 8000000 in
set_option maxRecDepth 100000 in
theorem impl_choicesIn.calls (k : Nat) (A0_0 : Option Addr) (c0_0 : Nat) (l0_0 : List Int) (A0_1 : Option Addr) (c0_1 : Nat) (l0_1 : List Int) (A0_2 : Option Addr) (c0_2 : Nat) (l0_2 : List Int) (A0_3 : Option Addr) (c0_3 : Nat) (l0_3 : List Bool) (A0_4 : Option Addr) (c0_4 : Nat) (l0_4 : List Bool) (a0_5 : Int) (a0_6 : Int) (a0_7 : Int) (a0_8 : Int) (r1 : Bool) (r2 : Int) (r3 : Int) (r4 : Int) (w : World) (hr0_0 : Kd.C (Kd.int .i64) w A0_0 l0_0.length l0_0) (hc0_0 : l0_0.length ≤ c0_0) (hr0_1 : Kd.C (Kd.int .i64) w A0_1 l0_1.length l0_1) (hc0_1 : l0_1.length ≤ c0_1) (hr0_2 : Kd.C (Kd.int .i64) w A0_2 l0_2.length l0_2) (hc0_2 : l0_2.length ≤ c0_2) (hr0_3 : Kd.C Kd.bool w A0_3 l0_3.length l0_3) (hc0_3 : l0_3.length ≤ c0_3) (hr0_4 : Kd.C Kd.bool w A0_4 l0_4.length l0_4) (hc0_4 : l0_4.length ≤ c0_4) (h : impl_choicesIn.f k l0_0 l0_1 l0_2 l0_3 l0_4 a0_5 a0_6 a0_7 a0_8 = some (r1, r2, r3, r4)) :
  Calls Try.prog 81 #[.agg #[.slice A0_0 l0_0.length c0_0, .slice A0_1 l0_1.length c0_1, .slice A0_2 l0_2.length c0_2, .slice A0_3 l0_3.length c0_3, .slice A0_4 l0_4.length c0_4, .int .i64 a0_5, .int .i64 a0_6, .int .i64 a0_7, .int .i64 a0_8]] w fun e w' => e = .returned (.agg #[.bool r1, .int .i64 r2, .int .i64 r3, .int .i64 r4]) ∧ Below w.heap.size w w' := by
 have hu28 := Try.underlying28
 have hu40 := Try.underlying40
 have HR0_0 := Aside0.mk hr0_0
 have HC0_0 := Aside0.mk hc0_0
 clear hr0_0 hc0_0
 have HR0_1 := Aside0.mk hr0_1
 have HC0_1 := Aside0.mk hc0_1
 clear hr0_1 hc0_1
 have HR0_2 := Aside0.mk hr0_2
 have HC0_2 := Aside0.mk hc0_2
 clear hr0_2 hc0_2
 have HR0_3 := Aside0.mk hr0_3
 have HC0_3 := Aside0.mk hc0_3
 clear hr0_3 hc0_3
 have HR0_4 := Aside0.mk hr0_4
 have HC0_4 := Aside0.mk hc0_4
 clear hr0_4 hc0_4
 have HB := Aside0.mk (Below.refl w.heap.size w)
 have H : (if 0 ≤ a0_5 then (if a0_5 < (l0_1.length : Int) then (if a0_5 < (l0_0.length : Int) then ((slices_Max_int64_int64.f k l0_1).bind fun t244 => (if a0_5 < (l0_4.length : Int) then (if rdOf false l0_4 a0_5 = true then (impl_choicesIn.j0 k (rd l0_1 a0_5) (rd l0_0 a0_5) t244 true l0_0 l0_1 l0_2 l0_3 l0_4 a0_5 a0_6 a0_7 a0_8 ((rd l0_1 a0_5) == t244) (mn (wrap64 (t244 - (rd l0_1 a0_5))) (rd l0_0 a0_5)) 0 0) else (if (rd l0_0 a0_5) ≤ (wrap64 (t244 - (rd l0_1 a0_5))) then (impl_choicesIn.j0 k (rd l0_1 a0_5) (rd l0_0 a0_5) t244 true l0_0 l0_1 l0_2 l0_3 l0_4 a0_5 a0_6 a0_7 a0_8 ((rd l0_1 a0_5) == t244) (mn (wrap64 (t244 - (rd l0_1 a0_5))) (rd l0_0 a0_5)) 0 0) else ((impl_othersCanAct.f k l0_0 l0_1 l0_2 l0_3 l0_4 a0_5 a0_6 a0_7 a0_8 a0_5).bind fun t247 => (if t247 = true then (if a0_8 = 2 then (impl_choicesIn.j0 k (rd l0_1 a0_5) (rd l0_0 a0_5) t244 (decide (a0_7 ≥ 4)) l0_0 l0_1 l0_2 l0_3 l0_4 a0_5 a0_6 a0_7 a0_8 ((rd l0_1 a0_5) == t244) (mn (wrap64 (t244 - (rd l0_1 a0_5))) (rd l0_0 a0_5)) 0 0) else (impl_choicesIn.j0 k (rd l0_1 a0_5) (rd l0_0 a0_5) t244 false l0_0 l0_1 l0_2 l0_3 l0_4 a0_5 a0_6 a0_7 a0_8 ((rd l0_1 a0_5) == t244) (mn (wrap64 (t244 - (rd l0_1 a0_5))) (rd l0_0 a0_5)) 0 0)) else (impl_choicesIn.j0 k (rd l0_1 a0_5) (rd l0_0 a0_5) t244 true l0_0 l0_1 l0_2 l0_3 l0_4 a0_5 a0_6 a0_7 a0_8 ((rd l0_1 a0_5) == t244) (mn (wrap64 (t244 - (rd l0_1 a0_5))) (rd l0_0 a0_5)) 0 0))))) else (none))) else (none)) else (none)) else (none)) = some (r1, r2, r3, r4) := h
 clear h
 by_cases c2 : 0 ≤ a0_5
 ·rw [if_pos c2] at H
  have c2b0 : decide (0 ≤ a0_5) = true := decide_eq_true c2
  clear c2
  by_cases c3 : a0_5 < (l0_1.length : Int)
  ·rw [if_pos c3] at H
   have c3b0 : decide (a0_5 < (l0_1.length : Int)) = true := decide_eq_true c3
   clear c3
   by_cases c4 : a0_5 < (l0_0.length : Int)
   ·rw [if_pos c4] at H
    have c4b0 : decide (a0_5 < (l0_0.length : Int)) = true := decide_eq_true c4
    clear c4
    obtain ⟨t244, A50, H⟩ := Option.bind_eq_some_iff.mp H
    try dsimp only at H
    have A5 := Aside0.mk A50
    clear A50
    obtain ⟨ji6, hji6⟩ : ∃ j_ : Int, (mn (wrap64 (t244 - (rd l0_1 a0_5))) (rd l0_0 a0_5)) = j_ := ⟨_, rfl⟩
    replace H : (if a0_5 < (l0_4.length : Int) then (if rdOf false l0_4 a0_5 = true then (impl_choicesIn.j0 k (rd l0_1 a0_5) (rd l0_0 a0_5) t244 true l0_0 l0_1 l0_2 l0_3 l0_4 a0_5 a0_6 a0_7 a0_8 ((rd l0_1 a0_5) == t244) ji6 0 0) else (if (rd l0_0 a0_5) ≤ (wrap64 (t244 - (rd l0_1 a0_5))) then (impl_choicesIn.j0 k (rd l0_1 a0_5) (rd l0_0 a0_5) t244 true l0_0 l0_1 l0_2 l0_3 l0_4 a0_5 a0_6 a0_7 a0_8 ((rd l0_1 a0_5) == t244) ji6 0 0) else ((impl_othersCanAct.f k l0_0 l0_1 l0_2 l0_3 l0_4 a0_5 a0_6 a0_7 a0_8 a0_5).bind fun t247 => (if t247 = true then (if a0_8 = 2 then (impl_choicesIn.j0 k (rd l0_1 a0_5) (rd l0_0 a0_5) t244 (decide (a0_7 ≥ 4)) l0_0 l0_1 l0_2 l0_3 l0_4 a0_5 a0_6 a0_7 a0_8 ((rd l0_1 a0_5) == t244) ji6 0 0) else (impl_choicesIn.j0 k (rd l0_1 a0_5) (rd l0_0 a0_5) t244 false l0_0 l0_1 l0_2 l0_3 l0_4 a0_5 a0_6 a0_7 a0_8 ((rd l0_1 a0_5) == t244) ji6 0 0)) else (impl_choicesIn.j0 k (rd l0_1 a0_5) (rd l0_0 a0_5) t244 true l0_0 l0_1 l0_2 l0_3 l0_4 a0_5 a0_6 a0_7 a0_8 ((rd l0_1 a0_5) == t244) ji6 0 0))))) else (none)) = some (r1, r2, r3, r4) := by first | (rw [hji6] at H; exact H) | (simp only [hji6] at H ⊢; exact H)
    (try rw [hji6] at A5)
    have hji6_ : (if (rd l0_0 a0_5) < (wrap64 (t244 - (rd l0_1 a0_5))) then (rd l0_0 a0_5) else (wrap64 (t244 - (rd l0_1 a0_5)))) = ji6 := hji6
    have HC7 := Aside0.mk H
    clear H
    go_enter Try.func81, Try.ntmps81
    try go_wp2_with (first | ((with_reducible refine gate_dst (N := 1) rfl ?_); refine bE 1 #[.slice A0_0 l0_0.length c0_0, .slice A0_1 l0_1.length c0_1, .slice A0_2 l0_2.length c0_2, .slice A0_3 l0_3.length c0_3, .slice A0_4 l0_4.length c0_4, .int .i64 a0_5, .int .i64 a0_6, .int .i64 a0_7, .int .i64 a0_8] 28 ?_; intro gb240 hg w8 hbox hb; have BK240 := Aside0.mk (hbox); have GW240 := Aside0.mk (gE hg (bA HB.out)); have GE240 := Aside0.mk (gE hg (bA HB.out)); replace HB := Aside0.mk (below_step (bA HB.out) hb); clear hb hbox hg) | ((with_reducible refine gate_dst (N := 2) rfl ?_); refine bE 2 #[.bool false, .int .i64 0, .int .i64 0, .int .i64 0] 40 ?_; intro gb241 hg w9 hbox hb; have BK241 := Aside0.mk (hbox); have GW241 := Aside0.mk (gE hg (bA HB.out)); have GE241 := Aside0.mk (gE hg (bA HB.out)); replace HB := Aside0.mk (below_step (bA HB.out) hb); have NB240_241 := Aside0.mk ((by rw [hg]; exact Nat.ne_of_lt (blk_lt (kA BK240.out)) : gb240 ≠ gb241)); have NB241_240 := Aside0.mk ((by rw [hg]; exact Nat.ne_of_gt (blk_lt (kA BK240.out)) : gb241 ≠ gb240)); replace BK240 := Aside0.mk (blk_below (kA BK240.out) hb); clear hb hbox hg; have hnb10 := NB240_241.out; have hnc10 := NB241_240.out; obtain ⟨hcz11_0, hcz11_1, hcz11_2, hcz11_3, hcz11_4, hcz11_5, hcz11_6, hcz11_7, hcz11_8, hfz11_0, hfz11_1, hfz11_2, hfz11_3, hfz11_4, hfz11_5, hfz11_6, hfz11_7, hfz11_8⟩ := cz9 BK240.out))
    replace BK240 := Aside0.mk (blk_drew BK240.out)
    replace BK241 := Aside0.mk (blk_drew BK241.out)
    replace HB := Aside0.mk (below_drew1 HB.out)
    have p242 : 0 ≤ (a0_5 : Int) := of_decide_eq_true (by first | (with_reducible assumption) | assumption)
    have q242 : a0_5 < (l0_1.length : Int) := of_decide_eq_true (by first | (with_reducible assumption) | assumption)
    obtain ⟨ad242, e242, hx242_0⟩ := Kd.at_int HR0_1.out a0_5 p242 q242
    have hw242_0 := hx242_0
    cases e242
    replace hx242_0 := (HB.out.cell (World.block_lt_of_cell? w _ hx242_0)).trans hx242_0
    replace p242 := eq_true p242
    replace q242 := eq_true q242
    have p243 : 0 ≤ (a0_5 : Int) := of_decide_eq_true (by first | (with_reducible assumption) | assumption)
    have q243 : a0_5 < (l0_0.length : Int) := of_decide_eq_true (by first | (with_reducible assumption) | assumption)
    obtain ⟨ad243, e243, hx243_0⟩ := Kd.at_int HR0_0.out a0_5 p243 q243
    have hw243_0 := hx243_0
    cases e243
    replace hx243_0 := (HB.out.cell (World.block_lt_of_cell? w _ hx243_0)).trans hx243_0
    replace p243 := eq_true p243
    replace q243 := eq_true q243
    refine start_ (n := 16) (S := fun w' => w'.cell? ⟨gb240, 0, none⟩ = some (.slice (some ad243) l0_0.length c0_0) ∧ w'.cell? ⟨gb240, 1, none⟩ = some (.slice (some ad242) l0_1.length c0_1) ∧ w'.cell? ⟨gb240, 2, none⟩ = some (.slice A0_2 l0_2.length c0_2) ∧ w'.cell? ⟨gb240, 3, none⟩ = some (.slice A0_3 l0_3.length c0_3) ∧ w'.cell? ⟨gb240, 4, none⟩ = some (.slice A0_4 l0_4.length c0_4) ∧ w'.cell? ⟨gb240, 5, none⟩ = some (.int .i64 a0_5) ∧ w'.cell? ⟨gb240, 6, none⟩ = some (.int .i64 a0_6) ∧ w'.cell? ⟨gb240, 7, none⟩ = some (.int .i64 a0_7) ∧ w'.cell? ⟨gb240, 8, none⟩ = some (.int .i64 a0_8) ∧ w'.cell? (ad242.add (a0_5).toNat) = some (.int .i64 (rd l0_1 a0_5)) ∧ w'.cell? (ad243.add (a0_5).toNat) = some (.int .i64 (rd l0_0 a0_5))) (ds := []) #[false, false, false, false, false, false, false, false, false, false, false, false, false, false, false, false] (by kernel_rfl) rfl rfl ⟨(blk_cell BK240.out 0).trans rfl, (blk_cell BK240.out 1).trans rfl, (blk_cell BK240.out 2).trans rfl, (blk_cell BK240.out 3).trans rfl, (blk_cell BK240.out 4).trans rfl, (blk_cell BK240.out 5).trans rfl, (blk_cell BK240.out 6).trans rfl, (blk_cell BK240.out 7).trans rfl, (blk_cell BK240.out 8).trans rfl, ((HB.out.cell (World.block_lt_of_cell? w _ hw242_0)).trans hw242_0), ((HB.out.cell (World.block_lt_of_cell? w _ hw243_0)).trans hw243_0)⟩ (fun hHeld => ?_); refine with_tabW impl_choicesIn.tab2 impl_choicesIn.bits2 (fun HT_ HW_ => ?_)
    generalize w9.drew = w12 at BK240 BK241 HB hx242_0 hx243_0 hHeld ⊢
    refine pI 0 (some 10) #[true, false, false, false, false, false, false, false, false, false, false, false, false, false, false, false] HT_.out ?_
    refine pI 2 (some 12) #[true, false, true, false, false, false, false, false, false, false, false, false, false, false, false, false] HT_.out ?_
    refine pI 5 (some 15) #[true, false, true, false, false, true, false, false, false, false, false, false, false, false, false, false] HT_.out ?_
    refine pI 7 (some 17) #[true, false, true, false, false, true, false, true, false, false, false, false, false, false, false, false] HT_.out ?_
    refine pI 10 (some 20) #[true, false, true, false, false, true, false, true, false, false, true, false, false, false, false, false] HT_.out ?_
    refine tI 1 (some 11) #[true, true, true, false, false, true, false, true, false, false, true, false, false, false, false, false] HT_.out HW_.out hHeld ?_
    refine pI 3 (some 13) #[true, true, true, true, false, true, false, true, false, false, true, false, false, false, false, false] HT_.out ?_
    refine tI 4 (some 14) #[true, true, true, true, true, true, false, true, false, false, true, false, false, false, false, false] HT_.out HW_.out hHeld ?_
    refine tI 6 (some 16) #[true, true, true, true, true, true, true, true, false, false, true, false, false, false, false, false] HT_.out HW_.out hHeld ?_
    refine pI 8 (some 18) #[true, true, true, true, true, true, true, true, true, false, true, false, false, false, false, false] HT_.out ?_
    refine tI 9 (some 19) #[true, true, true, true, true, true, true, true, true, true, true, false, false, false, false, false] HT_.out HW_.out hHeld ?_
    refine tI 11 (some 21) #[true, true, true, true, true, true, true, true, true, true, true, true, false, false, false, false] HT_.out HW_.out hHeld ?_
    refine one_ (i := 12) (N := some 22) #[true, true, true, true, true, true, true, true, true, true, true, true, true, false, false, false] rfl rfl (one_of HT_.out (by kernel_rfl)) (by decide) (fun K hK => ?_)
    refine gO Try.func98 #[.slice (some ad242) l0_1.length c0_1] ?_
    with_reducible refine (slices_Max_int64_int64.calls k _ _ l0_1 t244 _ ?side1 ?side2 A5.out).mono ?_
    (case side1 => exact cA (Kd.C_below HR0_1.out HB.out))
    (case side2 => exact HC0_1.out)
    rintro e w13 ⟨rfl, hb⟩
    refine ⟨_, rfl, ?_⟩
    replace BK240 := Aside0.mk (blk_below (kA BK240.out) hb)
    replace BK241 := Aside0.mk (blk_below (kA BK241.out) hb)
    replace HB := Aside0.mk (below_step (bA HB.out) hb)
    (try clear hb)
    refine hK.out _ _ ⟨(blk_cell BK240.out 0).trans rfl, (blk_cell BK240.out 1).trans rfl, (blk_cell BK240.out 2).trans rfl, (blk_cell BK240.out 3).trans rfl, (blk_cell BK240.out 4).trans rfl, (blk_cell BK240.out 5).trans rfl, (blk_cell BK240.out 6).trans rfl, (blk_cell BK240.out 7).trans rfl, (blk_cell BK240.out 8).trans rfl, ((HB.out.cell (World.block_lt_of_cell? w _ hw242_0)).trans hw242_0), ((HB.out.cell (World.block_lt_of_cell? w _ hw243_0)).trans hw243_0)⟩ (fun hHeld => ?_)
    clear hK K
    refine nO 22 ?_
    refine pI 13 (some 4) #[true, true, true, true, true, true, true, true, true, true, true, true, true, true, false, false] HT_.out ?_
    refine pI 14 (some 5) #[true, true, true, true, true, true, true, true, true, true, true, true, true, true, true, false] HT_.out ?_
    refine pI 15 (some 6) #[true, true, true, true, true, true, true, true, true, true, true, true, true, true, true, true] HT_.out ?_
    refine done_ (done_of HT_.out (by kernel_rfl)) ?_
    go_upto_region 4 with (first | ((with_reducible refine gate_dst (N := 7) rfl ?_); refine bE 7 #[.bool false, .int .i64 0, .int .i64 0, .int .i64 0] 40 ?_; intro gb245 hg w14 hbox hb; have BK245 := Aside0.mk (hbox); have GW245 := Aside0.mk (gE hg (bA HB.out)); have GE245 := Aside0.mk (gE hg (bA HB.out)); replace HB := Aside0.mk (below_step (bA HB.out) hb); have NB240_245 := Aside0.mk ((by rw [hg]; exact Nat.ne_of_lt (blk_lt (kA BK240.out)) : gb240 ≠ gb245)); have NB245_240 := Aside0.mk ((by rw [hg]; exact Nat.ne_of_gt (blk_lt (kA BK240.out)) : gb245 ≠ gb240)); replace BK240 := Aside0.mk (blk_below (kA BK240.out) hb); have NB241_245 := Aside0.mk ((by rw [hg]; exact Nat.ne_of_lt (blk_lt (kA BK241.out)) : gb241 ≠ gb245)); have NB245_241 := Aside0.mk ((by rw [hg]; exact Nat.ne_of_gt (blk_lt (kA BK241.out)) : gb245 ≠ gb241)); replace BK241 := Aside0.mk (blk_below (kA BK241.out) hb); clear hb hbox hg; have hnb15 := NB245_240.out; have hnc15 := NB240_245.out; have hnb16 := NB245_241.out; have hnc16 := NB241_245.out; obtain ⟨hcz17_0, hcz17_1, hcz17_2, hcz17_3, hfz17_0, hfz17_1, hfz17_2, hfz17_3⟩ := cz4 BK245.out))
    (try simp only [Act.put, List.setIfInBounds_toArray, List.set_cons_zero, List.set_cons_succ])
    go_cut [59] (fun v59 wc => ∃ (kq : Nat) (x59_6 : Bool), v59 = .bool x59_6 ∧ Aside0 (impl_choicesIn.j0 kq (rd l0_1 a0_5) (rd l0_0 a0_5) t244 x59_6 l0_0 l0_1 l0_2 l0_3 l0_4 a0_5 a0_6 a0_7 a0_8 ((rd l0_1 a0_5) == t244) ji6 0 0 = some (r1, r2, r3, r4)) ∧ Aside0 (kq ≤ k) ∧ Aside0 (wc.heap[gb240]? = some (.cells #[(.slice (some ad243) l0_0.length c0_0), (.slice (some ad242) l0_1.length c0_1), (.slice A0_2 l0_2.length c0_2), (.slice A0_3 l0_3.length c0_3), (.slice A0_4 l0_4.length c0_4), .int .i64 a0_5, .int .i64 a0_6, .int .i64 a0_7, .int .i64 a0_8] 28 (0, 0))) ∧ Aside0 (wc.heap[gb241]? = some (.cells #[.bool false, .int .i64 0, .int .i64 0, .int .i64 0] 40 (0, 0))) ∧ Aside0 (wc.heap[gb245]? = some (.cells #[.bool ((rd l0_1 a0_5) == t244), .int .i64 ji6, .int .i64 0, .int .i64 0] 40 (0, 0))) ∧ Aside0 (Below w.heap.size w wc))
    case first =>
     have H := HC7.out
     clear HC7
     by_cases c18 : a0_5 < (l0_4.length : Int)
     ·rw [if_pos c18] at H
      have c18b0 : decide (a0_5 < (l0_4.length : Int)) = true := decide_eq_true c18
      clear c18
      (first | rw [c18b0] | (simp only [i64_w, i32_w]; rw [c18b0]) | skip)
      obtain ⟨bq19, hbq19⟩ : ∃ b_ : Bool, b_ = (rdOf false l0_4 a0_5) := ⟨_, rfl⟩
      replace H : (if bq19 = true then (impl_choicesIn.j0 k (rd l0_1 a0_5) (rd l0_0 a0_5) t244 true l0_0 l0_1 l0_2 l0_3 l0_4 a0_5 a0_6 a0_7 a0_8 ((rd l0_1 a0_5) == t244) ji6 0 0) else (if (rd l0_0 a0_5) ≤ (wrap64 (t244 - (rd l0_1 a0_5))) then (impl_choicesIn.j0 k (rd l0_1 a0_5) (rd l0_0 a0_5) t244 true l0_0 l0_1 l0_2 l0_3 l0_4 a0_5 a0_6 a0_7 a0_8 ((rd l0_1 a0_5) == t244) ji6 0 0) else ((impl_othersCanAct.f k l0_0 l0_1 l0_2 l0_3 l0_4 a0_5 a0_6 a0_7 a0_8 a0_5).bind fun t247 => (if t247 = true then (if a0_8 = 2 then (impl_choicesIn.j0 k (rd l0_1 a0_5) (rd l0_0 a0_5) t244 (decide (a0_7 ≥ 4)) l0_0 l0_1 l0_2 l0_3 l0_4 a0_5 a0_6 a0_7 a0_8 ((rd l0_1 a0_5) == t244) ji6 0 0) else (impl_choicesIn.j0 k (rd l0_1 a0_5) (rd l0_0 a0_5) t244 false l0_0 l0_1 l0_2 l0_3 l0_4 a0_5 a0_6 a0_7 a0_8 ((rd l0_1 a0_5) == t244) ji6 0 0)) else (impl_choicesIn.j0 k (rd l0_1 a0_5) (rd l0_0 a0_5) t244 true l0_0 l0_1 l0_2 l0_3 l0_4 a0_5 a0_6 a0_7 a0_8 ((rd l0_1 a0_5) == t244) ji6 0 0))))) = some (r1, r2, r3, r4) := by rw [← hbq19] at H; exact H
      have Nbq19 := Aside0.mk hbq19
      clear hbq19
      by_cases c20 : bq19 = true
      ·subst c20
       rw [if_pos rfl] at H
       try dsimp only at H
       have H' := Aside0.mk H
       clear H
       have hnb21 := NB240_241.out
       have hnc21 := NB241_240.out
       have hnb22 := NB240_245.out
       have hnc22 := NB245_240.out
       obtain ⟨hcz23_0, hcz23_1, hcz23_2, hcz23_3, hcz23_4, hcz23_5, hcz23_6, hcz23_7, hcz23_8, hfz23_0, hfz23_1, hfz23_2, hfz23_3, hfz23_4, hfz23_5, hfz23_6, hfz23_7, hfz23_8⟩ := cz9 BK240.out
       have p246 : 0 ≤ (a0_5 : Int) := of_decide_eq_true (by first | (with_reducible assumption) | assumption)
       have q246 : a0_5 < (l0_4.length : Int) := of_decide_eq_true (by first | (with_reducible assumption) | assumption)
       obtain ⟨ad246, e246, hx246_0⟩ := Kd.at_bool HR0_4.out a0_5 p246 q246
       (try rw [← Nbq19.out] at hx246_0)
       cases e246
       have hn246_0 : ad246.block ≠ gb245 := Nat.ne_of_lt (Nat.lt_of_lt_of_le (by have := World.block_lt_of_cell? _ _ hx246_0; first | rwa [add_block] at this | exact this) GW245.out)
       have hn246_1 : ad246.block ≠ gb245 := Nat.ne_of_lt (Nat.lt_of_lt_of_le (by have := World.block_lt_of_cell? _ _ hx246_0; first | rwa [add_block] at this | exact this) GW245.out)
       have hn246_2 : ad246.block ≠ gb245 := Nat.ne_of_lt (Nat.lt_of_lt_of_le (by have := World.block_lt_of_cell? _ _ hx246_0; first | rwa [add_block] at this | exact this) GW245.out)
       have hn246_3 : ad246.block ≠ gb245 := Nat.ne_of_lt (Nat.lt_of_lt_of_le (by have := World.block_lt_of_cell? _ _ hx246_0; first | rwa [add_block] at this | exact this) GW245.out)
       replace hx246_0 := (HB.out.cell (World.block_lt_of_cell? w _ hx246_0)).trans hx246_0
       replace hx246_0 := (cell_far (p := ⟨gb245, 0, none⟩) (by first | (rw [add_block]; exact hn246_0) | (show (Addr.add _ _).block ≠ _; rw [add_block]; exact hn246_0) | exact hn246_0) (.bool ((rd l0_1 a0_5) == t244))).trans hx246_0
       replace hx246_0 := (cell_far (p := ⟨gb245, 1, none⟩) (by first | (rw [add_block]; exact hn246_1) | (show (Addr.add _ _).block ≠ _; rw [add_block]; exact hn246_1) | exact hn246_1) (.int .i64 ji6)).trans hx246_0
       replace hx246_0 := (cell_far (p := ⟨gb245, 2, none⟩) (by first | (rw [add_block]; exact hn246_2) | (show (Addr.add _ _).block ≠ _; rw [add_block]; exact hn246_2) | exact hn246_2) (.int .i64 0)).trans hx246_0
       replace hx246_0 := (cell_far (p := ⟨gb245, 3, none⟩) (by first | (rw [add_block]; exact hn246_3) | (show (Addr.add _ _).block ≠ _; rw [add_block]; exact hn246_3) | exact hn246_3) (.int .i64 0)).trans hx246_0
       clear hn246_0
       clear hn246_1
       clear hn246_2
       clear hn246_3
       replace p246 := eq_true p246
       replace q246 := eq_true q246
       go_wp2
       go_meet
       case rel => exact ⟨_, (true), (by first | rfl | (simp; done) | (simp [*]; done)), H', ⟨by first | omega | exact Nat.le_refl _⟩, ⟨by (with_reducible repeat (first | refine blk_drewN ?_ _ | refine blk_drew ?_ | refine blk_alloc ?_ _)); refine blk_far ?_ NB240_245.out _; (with_reducible repeat (first | refine blk_drewN ?_ _ | refine blk_drew ?_ | refine blk_alloc ?_ _)); refine blk_far ?_ NB240_245.out _; (with_reducible repeat (first | refine blk_drewN ?_ _ | refine blk_drew ?_ | refine blk_alloc ?_ _)); refine blk_far ?_ NB240_245.out _; (with_reducible repeat (first | refine blk_drewN ?_ _ | refine blk_drew ?_ | refine blk_alloc ?_ _)); refine blk_far ?_ NB240_245.out _; (with_reducible repeat (first | refine blk_drewN ?_ _ | refine blk_drew ?_ | refine blk_alloc ?_ _)); exact BK240.out⟩, ⟨by (with_reducible repeat (first | refine blk_drewN ?_ _ | refine blk_drew ?_ | refine blk_alloc ?_ _)); refine blk_far ?_ NB241_245.out _; (with_reducible repeat (first | refine blk_drewN ?_ _ | refine blk_drew ?_ | refine blk_alloc ?_ _)); refine blk_far ?_ NB241_245.out _; (with_reducible repeat (first | refine blk_drewN ?_ _ | refine blk_drew ?_ | refine blk_alloc ?_ _)); refine blk_far ?_ NB241_245.out _; (with_reducible repeat (first | refine blk_drewN ?_ _ | refine blk_drew ?_ | refine blk_alloc ?_ _)); refine blk_far ?_ NB241_245.out _; (with_reducible repeat (first | refine blk_drewN ?_ _ | refine blk_drew ?_ | refine blk_alloc ?_ _)); exact BK241.out⟩, ⟨by (with_reducible repeat (first | refine blk_drewN ?_ _ | refine blk_drew ?_ | refine blk_alloc ?_ _)); refine blk_put (cs := #[.bool ((rd l0_1 a0_5) == t244), .int .i64 ji6, .int .i64 0, .int .i64 0]) ?_ 3 _ rfl; (with_reducible repeat (first | refine blk_drewN ?_ _ | refine blk_drew ?_ | refine blk_alloc ?_ _)); refine blk_put (cs := #[.bool ((rd l0_1 a0_5) == t244), .int .i64 ji6, .int .i64 0, .int .i64 0]) ?_ 2 _ rfl; (with_reducible repeat (first | refine blk_drewN ?_ _ | refine blk_drew ?_ | refine blk_alloc ?_ _)); refine blk_put (cs := #[.bool ((rd l0_1 a0_5) == t244), .int .i64 0, .int .i64 0, .int .i64 0]) ?_ 1 _ rfl; (with_reducible repeat (first | refine blk_drewN ?_ _ | refine blk_drew ?_ | refine blk_alloc ?_ _)); refine blk_put (cs := #[.bool false, .int .i64 0, .int .i64 0, .int .i64 0]) ?_ 0 _ rfl; (with_reducible repeat (first | refine blk_drewN ?_ _ | refine blk_drew ?_ | refine blk_alloc ?_ _)); exact BK245.out⟩, ⟨bA HB.out⟩⟩
      ·replace c20 := Bool.eq_false_iff.mpr c20
       subst c20
       rw [if_neg (show ¬ (false = true) by decide)] at H
       try dsimp only at H
       by_cases c24 : (rd l0_0 a0_5) ≤ (wrap64 (t244 - (rd l0_1 a0_5)))
       ·rw [if_pos c24] at H
        have c24b0 : decide ((rd l0_0 a0_5) ≤ (wrap64 (t244 - (rd l0_1 a0_5)))) = true := decide_eq_true c24
        clear c24
        have H' := Aside0.mk H
        clear H
        have hnb25 := NB240_241.out
        have hnc25 := NB241_240.out
        have hnb26 := NB240_245.out
        have hnc26 := NB245_240.out
        obtain ⟨hcz27_0, hcz27_1, hcz27_2, hcz27_3, hcz27_4, hcz27_5, hcz27_6, hcz27_7, hcz27_8, hfz27_0, hfz27_1, hfz27_2, hfz27_3, hfz27_4, hfz27_5, hfz27_6, hfz27_7, hfz27_8⟩ := cz9 BK240.out
        have p246 : 0 ≤ (a0_5 : Int) := of_decide_eq_true (by first | (with_reducible assumption) | assumption)
        have q246 : a0_5 < (l0_4.length : Int) := of_decide_eq_true (by first | (with_reducible assumption) | assumption)
        obtain ⟨ad246, e246, hx246_0⟩ := Kd.at_bool HR0_4.out a0_5 p246 q246
        (try rw [← Nbq19.out] at hx246_0)
        cases e246
        have hn246_0 : ad246.block ≠ gb245 := Nat.ne_of_lt (Nat.lt_of_lt_of_le (by have := World.block_lt_of_cell? _ _ hx246_0; first | rwa [add_block] at this | exact this) GW245.out)
        have hn246_1 : ad246.block ≠ gb245 := Nat.ne_of_lt (Nat.lt_of_lt_of_le (by have := World.block_lt_of_cell? _ _ hx246_0; first | rwa [add_block] at this | exact this) GW245.out)
        have hn246_2 : ad246.block ≠ gb245 := Nat.ne_of_lt (Nat.lt_of_lt_of_le (by have := World.block_lt_of_cell? _ _ hx246_0; first | rwa [add_block] at this | exact this) GW245.out)
        have hn246_3 : ad246.block ≠ gb245 := Nat.ne_of_lt (Nat.lt_of_lt_of_le (by have := World.block_lt_of_cell? _ _ hx246_0; first | rwa [add_block] at this | exact this) GW245.out)
        replace hx246_0 := (HB.out.cell (World.block_lt_of_cell? w _ hx246_0)).trans hx246_0
        replace hx246_0 := (cell_far (p := ⟨gb245, 0, none⟩) (by first | (rw [add_block]; exact hn246_0) | (show (Addr.add _ _).block ≠ _; rw [add_block]; exact hn246_0) | exact hn246_0) (.bool ((rd l0_1 a0_5) == t244))).trans hx246_0
        replace hx246_0 := (cell_far (p := ⟨gb245, 1, none⟩) (by first | (rw [add_block]; exact hn246_1) | (show (Addr.add _ _).block ≠ _; rw [add_block]; exact hn246_1) | exact hn246_1) (.int .i64 ji6)).trans hx246_0
        replace hx246_0 := (cell_far (p := ⟨gb245, 2, none⟩) (by first | (rw [add_block]; exact hn246_2) | (show (Addr.add _ _).block ≠ _; rw [add_block]; exact hn246_2) | exact hn246_2) (.int .i64 0)).trans hx246_0
        replace hx246_0 := (cell_far (p := ⟨gb245, 3, none⟩) (by first | (rw [add_block]; exact hn246_3) | (show (Addr.add _ _).block ≠ _; rw [add_block]; exact hn246_3) | exact hn246_3) (.int .i64 0)).trans hx246_0
        clear hn246_0
        clear hn246_1
        clear hn246_2
        clear hn246_3
        replace p246 := eq_true p246
        replace q246 := eq_true q246
        go_wp2
        go_meet
        case rel => exact ⟨_, (true), (by first | rfl | (simp; done) | (simp [*]; done)), H', ⟨by first | omega | exact Nat.le_refl _⟩, ⟨by (with_reducible repeat (first | refine blk_drewN ?_ _ | refine blk_drew ?_ | refine blk_alloc ?_ _)); refine blk_far ?_ NB240_245.out _; (with_reducible repeat (first | refine blk_drewN ?_ _ | refine blk_drew ?_ | refine blk_alloc ?_ _)); refine blk_far ?_ NB240_245.out _; (with_reducible repeat (first | refine blk_drewN ?_ _ | refine blk_drew ?_ | refine blk_alloc ?_ _)); refine blk_far ?_ NB240_245.out _; (with_reducible repeat (first | refine blk_drewN ?_ _ | refine blk_drew ?_ | refine blk_alloc ?_ _)); refine blk_far ?_ NB240_245.out _; (with_reducible repeat (first | refine blk_drewN ?_ _ | refine blk_drew ?_ | refine blk_alloc ?_ _)); exact BK240.out⟩, ⟨by (with_reducible repeat (first | refine blk_drewN ?_ _ | refine blk_drew ?_ | refine blk_alloc ?_ _)); refine blk_far ?_ NB241_245.out _; (with_reducible repeat (first | refine blk_drewN ?_ _ | refine blk_drew ?_ | refine blk_alloc ?_ _)); refine blk_far ?_ NB241_245.out _; (with_reducible repeat (first | refine blk_drewN ?_ _ | refine blk_drew ?_ | refine blk_alloc ?_ _)); refine blk_far ?_ NB241_245.out _; (with_reducible repeat (first | refine blk_drewN ?_ _ | refine blk_drew ?_ | refine blk_alloc ?_ _)); refine blk_far ?_ NB241_245.out _; (with_reducible repeat (first | refine blk_drewN ?_ _ | refine blk_drew ?_ | refine blk_alloc ?_ _)); exact BK241.out⟩, ⟨by (with_reducible repeat (first | refine blk_drewN ?_ _ | refine blk_drew ?_ | refine blk_alloc ?_ _)); refine blk_put (cs := #[.bool ((rd l0_1 a0_5) == t244), .int .i64 ji6, .int .i64 0, .int .i64 0]) ?_ 3 _ rfl; (with_reducible repeat (first | refine blk_drewN ?_ _ | refine blk_drew ?_ | refine blk_alloc ?_ _)); refine blk_put (cs := #[.bool ((rd l0_1 a0_5) == t244), .int .i64 ji6, .int .i64 0, .int .i64 0]) ?_ 2 _ rfl; (with_reducible repeat (first | refine blk_drewN ?_ _ | refine blk_drew ?_ | refine blk_alloc ?_ _)); refine blk_put (cs := #[.bool ((rd l0_1 a0_5) == t244), .int .i64 0, .int .i64 0, .int .i64 0]) ?_ 1 _ rfl; (with_reducible repeat (first | refine blk_drewN ?_ _ | refine blk_drew ?_ | refine blk_alloc ?_ _)); refine blk_put (cs := #[.bool false, .int .i64 0, .int .i64 0, .int .i64 0]) ?_ 0 _ rfl; (with_reducible repeat (first | refine blk_drewN ?_ _ | refine blk_drew ?_ | refine blk_alloc ?_ _)); exact BK245.out⟩, ⟨bA HB.out⟩⟩
       ·rw [if_neg c24] at H
        have c24b0 : decide ((rd l0_0 a0_5) ≤ (wrap64 (t244 - (rd l0_1 a0_5)))) = false := decide_eq_false c24
        clear c24
        obtain ⟨t247, A280, H⟩ := Option.bind_eq_some_iff.mp H
        try dsimp only at H
        have A28 := Aside0.mk A280
        clear A280
        by_cases c29 : t247 = true
        ·subst c29
         rw [if_pos rfl] at H
         try dsimp only at H
         by_cases c30 : a0_8 = 2
         ·rw [if_pos c30] at H
          have c30b0 : (a0_8 == 2) = true := beq_iff_eq.mpr c30
          have c30b1 : (a0_8 != 2) = false := bne_eq_false_iff_eq.mpr c30
          clear c30
          have H' := Aside0.mk H
          clear H
          have hnb31 := NB240_241.out
          have hnc31 := NB241_240.out
          have hnb32 := NB240_245.out
          have hnc32 := NB245_240.out
          obtain ⟨hcz33_0, hcz33_1, hcz33_2, hcz33_3, hcz33_4, hcz33_5, hcz33_6, hcz33_7, hcz33_8, hfz33_0, hfz33_1, hfz33_2, hfz33_3, hfz33_4, hfz33_5, hfz33_6, hfz33_7, hfz33_8⟩ := cz9 BK240.out
          have p246 : 0 ≤ (a0_5 : Int) := of_decide_eq_true (by first | (with_reducible assumption) | assumption)
          have q246 : a0_5 < (l0_4.length : Int) := of_decide_eq_true (by first | (with_reducible assumption) | assumption)
          obtain ⟨ad246, e246, hx246_0⟩ := Kd.at_bool HR0_4.out a0_5 p246 q246
          (try rw [← Nbq19.out] at hx246_0)
          cases e246
          have hn246_0 : ad246.block ≠ gb245 := Nat.ne_of_lt (Nat.lt_of_lt_of_le (by have := World.block_lt_of_cell? _ _ hx246_0; first | rwa [add_block] at this | exact this) GW245.out)
          have hn246_1 : ad246.block ≠ gb245 := Nat.ne_of_lt (Nat.lt_of_lt_of_le (by have := World.block_lt_of_cell? _ _ hx246_0; first | rwa [add_block] at this | exact this) GW245.out)
          have hn246_2 : ad246.block ≠ gb245 := Nat.ne_of_lt (Nat.lt_of_lt_of_le (by have := World.block_lt_of_cell? _ _ hx246_0; first | rwa [add_block] at this | exact this) GW245.out)
          have hn246_3 : ad246.block ≠ gb245 := Nat.ne_of_lt (Nat.lt_of_lt_of_le (by have := World.block_lt_of_cell? _ _ hx246_0; first | rwa [add_block] at this | exact this) GW245.out)
          replace hx246_0 := (HB.out.cell (World.block_lt_of_cell? w _ hx246_0)).trans hx246_0
          replace hx246_0 := (cell_far (p := ⟨gb245, 0, none⟩) (by first | (rw [add_block]; exact hn246_0) | (show (Addr.add _ _).block ≠ _; rw [add_block]; exact hn246_0) | exact hn246_0) (.bool ((rd l0_1 a0_5) == t244))).trans hx246_0
          replace hx246_0 := (cell_far (p := ⟨gb245, 1, none⟩) (by first | (rw [add_block]; exact hn246_1) | (show (Addr.add _ _).block ≠ _; rw [add_block]; exact hn246_1) | exact hn246_1) (.int .i64 ji6)).trans hx246_0
          replace hx246_0 := (cell_far (p := ⟨gb245, 2, none⟩) (by first | (rw [add_block]; exact hn246_2) | (show (Addr.add _ _).block ≠ _; rw [add_block]; exact hn246_2) | exact hn246_2) (.int .i64 0)).trans hx246_0
          replace hx246_0 := (cell_far (p := ⟨gb245, 3, none⟩) (by first | (rw [add_block]; exact hn246_3) | (show (Addr.add _ _).block ≠ _; rw [add_block]; exact hn246_3) | exact hn246_3) (.int .i64 0)).trans hx246_0
          clear hn246_0
          clear hn246_1
          clear hn246_2
          clear hn246_3
          replace p246 := eq_true p246
          replace q246 := eq_true q246
          go_wp2_with (first | (go_at_call 99; (with_reducible refine (impl_othersCanAct.calls k _ _ l0_0 _ _ l0_1 _ _ l0_2 _ _ l0_3 _ _ l0_4 a0_5 a0_6 a0_7 a0_8 a0_5 true _ ?side1 ?side2 ?side3 ?side4 ?side5 ?side6 ?side7 ?side8 ?side9 ?side10 A28.out).mono ?_); (case side1 => exact Kd.C_below HR0_0.out (bA HB.out)); (case side2 => exact HC0_0.out); (case side3 => exact Kd.C_below HR0_1.out (bA HB.out)); (case side4 => exact HC0_1.out); (case side5 => exact Kd.C_below HR0_2.out (bA HB.out)); (case side6 => exact HC0_2.out); (case side7 => exact Kd.C_below HR0_3.out (bA HB.out)); (case side8 => exact HC0_3.out); (case side9 => exact Kd.C_below HR0_4.out (bA HB.out)); (case side10 => exact HC0_4.out); rintro e w34 ⟨rfl, hb⟩; replace BK240 := Aside0.mk (blk_below (g := gb240) (o := .cells #[.slice (some ad243) l0_0.length c0_0, .slice (some ad242) l0_1.length c0_1, .slice A0_2 l0_2.length c0_2, .slice A0_3 l0_3.length c0_3, .slice (some ad246) l0_4.length c0_4, .int .i64 a0_5, .int .i64 a0_6, .int .i64 a0_7, .int .i64 a0_8] 28 (0, 0)) (by (with_reducible repeat (first | refine blk_drewN ?_ _ | refine blk_drew ?_ | refine blk_alloc ?_ _)); refine blk_far ?_ NB240_245.out _; (with_reducible repeat (first | refine blk_drewN ?_ _ | refine blk_drew ?_ | refine blk_alloc ?_ _)); refine blk_far ?_ NB240_245.out _; (with_reducible repeat (first | refine blk_drewN ?_ _ | refine blk_drew ?_ | refine blk_alloc ?_ _)); refine blk_far ?_ NB240_245.out _; (with_reducible repeat (first | refine blk_drewN ?_ _ | refine blk_drew ?_ | refine blk_alloc ?_ _)); refine blk_far ?_ NB240_245.out _; (with_reducible repeat (first | refine blk_drewN ?_ _ | refine blk_drew ?_ | refine blk_alloc ?_ _)); exact BK240.out) hb); replace BK241 := Aside0.mk (blk_below (g := gb241) (o := .cells #[.bool false, .int .i64 0, .int .i64 0, .int .i64 0] 40 (0, 0)) (by (with_reducible repeat (first | refine blk_drewN ?_ _ | refine blk_drew ?_ | refine blk_alloc ?_ _)); refine blk_far ?_ NB241_245.out _; (with_reducible repeat (first | refine blk_drewN ?_ _ | refine blk_drew ?_ | refine blk_alloc ?_ _)); refine blk_far ?_ NB241_245.out _; (with_reducible repeat (first | refine blk_drewN ?_ _ | refine blk_drew ?_ | refine blk_alloc ?_ _)); refine blk_far ?_ NB241_245.out _; (with_reducible repeat (first | refine blk_drewN ?_ _ | refine blk_drew ?_ | refine blk_alloc ?_ _)); refine blk_far ?_ NB241_245.out _; (with_reducible repeat (first | refine blk_drewN ?_ _ | refine blk_drew ?_ | refine blk_alloc ?_ _)); exact BK241.out) hb); replace BK245 := Aside0.mk (blk_below (g := gb245) (o := .cells #[.bool ((rd l0_1 a0_5) == t244), .int .i64 ji6, .int .i64 0, .int .i64 0] 40 (0, 0)) (by (with_reducible repeat (first | refine blk_drewN ?_ _ | refine blk_drew ?_ | refine blk_alloc ?_ _)); refine blk_put (cs := #[.bool ((rd l0_1 a0_5) == t244), .int .i64 ji6, .int .i64 0, .int .i64 0]) ?_ 3 _ rfl; (with_reducible repeat (first | refine blk_drewN ?_ _ | refine blk_drew ?_ | refine blk_alloc ?_ _)); refine blk_put (cs := #[.bool ((rd l0_1 a0_5) == t244), .int .i64 ji6, .int .i64 0, .int .i64 0]) ?_ 2 _ rfl; (with_reducible repeat (first | refine blk_drewN ?_ _ | refine blk_drew ?_ | refine blk_alloc ?_ _)); refine blk_put (cs := #[.bool ((rd l0_1 a0_5) == t244), .int .i64 0, .int .i64 0, .int .i64 0]) ?_ 1 _ rfl; (with_reducible repeat (first | refine blk_drewN ?_ _ | refine blk_drew ?_ | refine blk_alloc ?_ _)); refine blk_put (cs := #[.bool false, .int .i64 0, .int .i64 0, .int .i64 0]) ?_ 0 _ rfl; (with_reducible repeat (first | refine blk_drewN ?_ _ | refine blk_drew ?_ | refine blk_alloc ?_ _)); exact BK245.out) hb); replace HB := Aside0.mk (below_step (bA HB.out) hb); (try clear hb); obtain ⟨hcz35_0, hcz35_1, hcz35_2, hcz35_3, hcz35_4, hcz35_5, hcz35_6, hcz35_7, hcz35_8, hfz35_0, hfz35_1, hfz35_2, hfz35_3, hfz35_4, hfz35_5, hfz35_6, hfz35_7, hfz35_8⟩ := cz9 BK240.out))
          go_meet
          case rel => exact ⟨_, (decide (a0_7 ≥ 4)), (by first | rfl | (simp; done) | (simp [*]; done)), H', ⟨by first | omega | exact Nat.le_refl _⟩, ⟨by (with_reducible repeat (first | refine blk_drewN ?_ _ | refine blk_drew ?_ | refine blk_alloc ?_ _)); exact BK240.out⟩, ⟨by (with_reducible repeat (first | refine blk_drewN ?_ _ | refine blk_drew ?_ | refine blk_alloc ?_ _)); exact BK241.out⟩, ⟨by (with_reducible repeat (first | refine blk_drewN ?_ _ | refine blk_drew ?_ | refine blk_alloc ?_ _)); exact BK245.out⟩, ⟨bA HB.out⟩⟩
         ·rw [if_neg c30] at H
          have c30b0 : (a0_8 == 2) = false := beq_eq_false_iff_ne.mpr c30
          have c30b1 : (a0_8 != 2) = true := bne_iff_ne.mpr c30
          have H' := Aside0.mk H
          clear H
          have hnb36 := NB240_241.out
          have hnc36 := NB241_240.out
          have hnb37 := NB240_245.out
          have hnc37 := NB245_240.out
          obtain ⟨hcz38_0, hcz38_1, hcz38_2, hcz38_3, hcz38_4, hcz38_5, hcz38_6, hcz38_7, hcz38_8, hfz38_0, hfz38_1, hfz38_2, hfz38_3, hfz38_4, hfz38_5, hfz38_6, hfz38_7, hfz38_8⟩ := cz9 BK240.out
          have p246 : 0 ≤ (a0_5 : Int) := of_decide_eq_true (by first | (with_reducible assumption) | assumption)
          have q246 : a0_5 < (l0_4.length : Int) := of_decide_eq_true (by first | (with_reducible assumption) | assumption)
          obtain ⟨ad246, e246, hx246_0⟩ := Kd.at_bool HR0_4.out a0_5 p246 q246
          (try rw [← Nbq19.out] at hx246_0)
          cases e246
          have hn246_0 : ad246.block ≠ gb245 := Nat.ne_of_lt (Nat.lt_of_lt_of_le (by have := World.block_lt_of_cell? _ _ hx246_0; first | rwa [add_block] at this | exact this) GW245.out)
          have hn246_1 : ad246.block ≠ gb245 := Nat.ne_of_lt (Nat.lt_of_lt_of_le (by have := World.block_lt_of_cell? _ _ hx246_0; first | rwa [add_block] at this | exact this) GW245.out)
          have hn246_2 : ad246.block ≠ gb245 := Nat.ne_of_lt (Nat.lt_of_lt_of_le (by have := World.block_lt_of_cell? _ _ hx246_0; first | rwa [add_block] at this | exact this) GW245.out)
          have hn246_3 : ad246.block ≠ gb245 := Nat.ne_of_lt (Nat.lt_of_lt_of_le (by have := World.block_lt_of_cell? _ _ hx246_0; first | rwa [add_block] at this | exact this) GW245.out)
          replace hx246_0 := (HB.out.cell (World.block_lt_of_cell? w _ hx246_0)).trans hx246_0
          replace hx246_0 := (cell_far (p := ⟨gb245, 0, none⟩) (by first | (rw [add_block]; exact hn246_0) | (show (Addr.add _ _).block ≠ _; rw [add_block]; exact hn246_0) | exact hn246_0) (.bool ((rd l0_1 a0_5) == t244))).trans hx246_0
          replace hx246_0 := (cell_far (p := ⟨gb245, 1, none⟩) (by first | (rw [add_block]; exact hn246_1) | (show (Addr.add _ _).block ≠ _; rw [add_block]; exact hn246_1) | exact hn246_1) (.int .i64 ji6)).trans hx246_0
          replace hx246_0 := (cell_far (p := ⟨gb245, 2, none⟩) (by first | (rw [add_block]; exact hn246_2) | (show (Addr.add _ _).block ≠ _; rw [add_block]; exact hn246_2) | exact hn246_2) (.int .i64 0)).trans hx246_0
          replace hx246_0 := (cell_far (p := ⟨gb245, 3, none⟩) (by first | (rw [add_block]; exact hn246_3) | (show (Addr.add _ _).block ≠ _; rw [add_block]; exact hn246_3) | exact hn246_3) (.int .i64 0)).trans hx246_0
          clear hn246_0
          clear hn246_1
          clear hn246_2
          clear hn246_3
          replace p246 := eq_true p246
          replace q246 := eq_true q246
          go_wp2_with (first | (go_at_call 99; (with_reducible refine (impl_othersCanAct.calls k _ _ l0_0 _ _ l0_1 _ _ l0_2 _ _ l0_3 _ _ l0_4 a0_5 a0_6 a0_7 a0_8 a0_5 true _ ?side1 ?side2 ?side3 ?side4 ?side5 ?side6 ?side7 ?side8 ?side9 ?side10 A28.out).mono ?_); (case side1 => exact Kd.C_below HR0_0.out (bA HB.out)); (case side2 => exact HC0_0.out); (case side3 => exact Kd.C_below HR0_1.out (bA HB.out)); (case side4 => exact HC0_1.out); (case side5 => exact Kd.C_below HR0_2.out (bA HB.out)); (case side6 => exact HC0_2.out); (case side7 => exact Kd.C_below HR0_3.out (bA HB.out)); (case side8 => exact HC0_3.out); (case side9 => exact Kd.C_below HR0_4.out (bA HB.out)); (case side10 => exact HC0_4.out); rintro e w39 ⟨rfl, hb⟩; replace BK240 := Aside0.mk (blk_below (g := gb240) (o := .cells #[.slice (some ad243) l0_0.length c0_0, .slice (some ad242) l0_1.length c0_1, .slice A0_2 l0_2.length c0_2, .slice A0_3 l0_3.length c0_3, .slice (some ad246) l0_4.length c0_4, .int .i64 a0_5, .int .i64 a0_6, .int .i64 a0_7, .int .i64 a0_8] 28 (0, 0)) (by (with_reducible repeat (first | refine blk_drewN ?_ _ | refine blk_drew ?_ | refine blk_alloc ?_ _)); refine blk_far ?_ NB240_245.out _; (with_reducible repeat (first | refine blk_drewN ?_ _ | refine blk_drew ?_ | refine blk_alloc ?_ _)); refine blk_far ?_ NB240_245.out _; (with_reducible repeat (first | refine blk_drewN ?_ _ | refine blk_drew ?_ | refine blk_alloc ?_ _)); refine blk_far ?_ NB240_245.out _; (with_reducible repeat (first | refine blk_drewN ?_ _ | refine blk_drew ?_ | refine blk_alloc ?_ _)); refine blk_far ?_ NB240_245.out _; (with_reducible repeat (first | refine blk_drewN ?_ _ | refine blk_drew ?_ | refine blk_alloc ?_ _)); exact BK240.out) hb); replace BK241 := Aside0.mk (blk_below (g := gb241) (o := .cells #[.bool false, .int .i64 0, .int .i64 0, .int .i64 0] 40 (0, 0)) (by (with_reducible repeat (first | refine blk_drewN ?_ _ | refine blk_drew ?_ | refine blk_alloc ?_ _)); refine blk_far ?_ NB241_245.out _; (with_reducible repeat (first | refine blk_drewN ?_ _ | refine blk_drew ?_ | refine blk_alloc ?_ _)); refine blk_far ?_ NB241_245.out _; (with_reducible repeat (first | refine blk_drewN ?_ _ | refine blk_drew ?_ | refine blk_alloc ?_ _)); refine blk_far ?_ NB241_245.out _; (with_reducible repeat (first | refine blk_drewN ?_ _ | refine blk_drew ?_ | refine blk_alloc ?_ _)); refine blk_far ?_ NB241_245.out _; (with_reducible repeat (first | refine blk_drewN ?_ _ | refine blk_drew ?_ | refine blk_alloc ?_ _)); exact BK241.out) hb); replace BK245 := Aside0.mk (blk_below (g := gb245) (o := .cells #[.bool ((rd l0_1 a0_5) == t244), .int .i64 ji6, .int .i64 0, .int .i64 0] 40 (0, 0)) (by (with_reducible repeat (first | refine blk_drewN ?_ _ | refine blk_drew ?_ | refine blk_alloc ?_ _)); refine blk_put (cs := #[.bool ((rd l0_1 a0_5) == t244), .int .i64 ji6, .int .i64 0, .int .i64 0]) ?_ 3 _ rfl; (with_reducible repeat (first | refine blk_drewN ?_ _ | refine blk_drew ?_ | refine blk_alloc ?_ _)); refine blk_put (cs := #[.bool ((rd l0_1 a0_5) == t244), .int .i64 ji6, .int .i64 0, .int .i64 0]) ?_ 2 _ rfl; (with_reducible repeat (first | refine blk_drewN ?_ _ | refine blk_drew ?_ | refine blk_alloc ?_ _)); refine blk_put (cs := #[.bool ((rd l0_1 a0_5) == t244), .int .i64 0, .int .i64 0, .int .i64 0]) ?_ 1 _ rfl; (with_reducible repeat (first | refine blk_drewN ?_ _ | refine blk_drew ?_ | refine blk_alloc ?_ _)); refine blk_put (cs := #[.bool false, .int .i64 0, .int .i64 0, .int .i64 0]) ?_ 0 _ rfl; (with_reducible repeat (first | refine blk_drewN ?_ _ | refine blk_drew ?_ | refine blk_alloc ?_ _)); exact BK245.out) hb); replace HB := Aside0.mk (below_step (bA HB.out) hb); (try clear hb); obtain ⟨hcz40_0, hcz40_1, hcz40_2, hcz40_3, hcz40_4, hcz40_5, hcz40_6, hcz40_7, hcz40_8, hfz40_0, hfz40_1, hfz40_2, hfz40_3, hfz40_4, hfz40_5, hfz40_6, hfz40_7, hfz40_8⟩ := cz9 BK240.out))
          go_meet
          case rel => exact ⟨_, (false), (by first | rfl | (simp; done) | (simp [*]; done)), H', ⟨by first | omega | exact Nat.le_refl _⟩, ⟨by (with_reducible repeat (first | refine blk_drewN ?_ _ | refine blk_drew ?_ | refine blk_alloc ?_ _)); exact BK240.out⟩, ⟨by (with_reducible repeat (first | refine blk_drewN ?_ _ | refine blk_drew ?_ | refine blk_alloc ?_ _)); exact BK241.out⟩, ⟨by (with_reducible repeat (first | refine blk_drewN ?_ _ | refine blk_drew ?_ | refine blk_alloc ?_ _)); exact BK245.out⟩, ⟨bA HB.out⟩⟩
        ·replace c29 := Bool.eq_false_iff.mpr c29
         subst c29
         rw [if_neg (show ¬ (false = true) by decide)] at H
         try dsimp only at H
         have H' := Aside0.mk H
         clear H
         have hnb41 := NB240_241.out
         have hnc41 := NB241_240.out
         have hnb42 := NB240_245.out
         have hnc42 := NB245_240.out
         obtain ⟨hcz43_0, hcz43_1, hcz43_2, hcz43_3, hcz43_4, hcz43_5, hcz43_6, hcz43_7, hcz43_8, hfz43_0, hfz43_1, hfz43_2, hfz43_3, hfz43_4, hfz43_5, hfz43_6, hfz43_7, hfz43_8⟩ := cz9 BK240.out
         have p246 : 0 ≤ (a0_5 : Int) := of_decide_eq_true (by first | (with_reducible assumption) | assumption)
         have q246 : a0_5 < (l0_4.length : Int) := of_decide_eq_true (by first | (with_reducible assumption) | assumption)
         obtain ⟨ad246, e246, hx246_0⟩ := Kd.at_bool HR0_4.out a0_5 p246 q246
         (try rw [← Nbq19.out] at hx246_0)
         cases e246
         have hn246_0 : ad246.block ≠ gb245 := Nat.ne_of_lt (Nat.lt_of_lt_of_le (by have := World.block_lt_of_cell? _ _ hx246_0; first | rwa [add_block] at this | exact this) GW245.out)
         have hn246_1 : ad246.block ≠ gb245 := Nat.ne_of_lt (Nat.lt_of_lt_of_le (by have := World.block_lt_of_cell? _ _ hx246_0; first | rwa [add_block] at this | exact this) GW245.out)
         have hn246_2 : ad246.block ≠ gb245 := Nat.ne_of_lt (Nat.lt_of_lt_of_le (by have := World.block_lt_of_cell? _ _ hx246_0; first | rwa [add_block] at this | exact this) GW245.out)
         have hn246_3 : ad246.block ≠ gb245 := Nat.ne_of_lt (Nat.lt_of_lt_of_le (by have := World.block_lt_of_cell? _ _ hx246_0; first | rwa [add_block] at this | exact this) GW245.out)
         replace hx246_0 := (HB.out.cell (World.block_lt_of_cell? w _ hx246_0)).trans hx246_0
         replace hx246_0 := (cell_far (p := ⟨gb245, 0, none⟩) (by first | (rw [add_block]; exact hn246_0) | (show (Addr.add _ _).block ≠ _; rw [add_block]; exact hn246_0) | exact hn246_0) (.bool ((rd l0_1 a0_5) == t244))).trans hx246_0
         replace hx246_0 := (cell_far (p := ⟨gb245, 1, none⟩) (by first | (rw [add_block]; exact hn246_1) | (show (Addr.add _ _).block ≠ _; rw [add_block]; exact hn246_1) | exact hn246_1) (.int .i64 ji6)).trans hx246_0
         replace hx246_0 := (cell_far (p := ⟨gb245, 2, none⟩) (by first | (rw [add_block]; exact hn246_2) | (show (Addr.add _ _).block ≠ _; rw [add_block]; exact hn246_2) | exact hn246_2) (.int .i64 0)).trans hx246_0
         replace hx246_0 := (cell_far (p := ⟨gb245, 3, none⟩) (by first | (rw [add_block]; exact hn246_3) | (show (Addr.add _ _).block ≠ _; rw [add_block]; exact hn246_3) | exact hn246_3) (.int .i64 0)).trans hx246_0
         clear hn246_0
         clear hn246_1
         clear hn246_2
         clear hn246_3
         replace p246 := eq_true p246
         replace q246 := eq_true q246
         go_wp2_with (first | (go_at_call 99; (with_reducible refine (impl_othersCanAct.calls k _ _ l0_0 _ _ l0_1 _ _ l0_2 _ _ l0_3 _ _ l0_4 a0_5 a0_6 a0_7 a0_8 a0_5 false _ ?side1 ?side2 ?side3 ?side4 ?side5 ?side6 ?side7 ?side8 ?side9 ?side10 A28.out).mono ?_); (case side1 => exact Kd.C_below HR0_0.out (bA HB.out)); (case side2 => exact HC0_0.out); (case side3 => exact Kd.C_below HR0_1.out (bA HB.out)); (case side4 => exact HC0_1.out); (case side5 => exact Kd.C_below HR0_2.out (bA HB.out)); (case side6 => exact HC0_2.out); (case side7 => exact Kd.C_below HR0_3.out (bA HB.out)); (case side8 => exact HC0_3.out); (case side9 => exact Kd.C_below HR0_4.out (bA HB.out)); (case side10 => exact HC0_4.out); rintro e w44 ⟨rfl, hb⟩; replace BK240 := Aside0.mk (blk_below (g := gb240) (o := .cells #[.slice (some ad243) l0_0.length c0_0, .slice (some ad242) l0_1.length c0_1, .slice A0_2 l0_2.length c0_2, .slice A0_3 l0_3.length c0_3, .slice (some ad246) l0_4.length c0_4, .int .i64 a0_5, .int .i64 a0_6, .int .i64 a0_7, .int .i64 a0_8] 28 (0, 0)) (by (with_reducible repeat (first | refine blk_drewN ?_ _ | refine blk_drew ?_ | refine blk_alloc ?_ _)); refine blk_far ?_ NB240_245.out _; (with_reducible repeat (first | refine blk_drewN ?_ _ | refine blk_drew ?_ | refine blk_alloc ?_ _)); refine blk_far ?_ NB240_245.out _; (with_reducible repeat (first | refine blk_drewN ?_ _ | refine blk_drew ?_ | refine blk_alloc ?_ _)); refine blk_far ?_ NB240_245.out _; (with_reducible repeat (first | refine blk_drewN ?_ _ | refine blk_drew ?_ | refine blk_alloc ?_ _)); refine blk_far ?_ NB240_245.out _; (with_reducible repeat (first | refine blk_drewN ?_ _ | refine blk_drew ?_ | refine blk_alloc ?_ _)); exact BK240.out) hb); replace BK241 := Aside0.mk (blk_below (g := gb241) (o := .cells #[.bool false, .int .i64 0, .int .i64 0, .int .i64 0] 40 (0, 0)) (by (with_reducible repeat (first | refine blk_drewN ?_ _ | refine blk_drew ?_ | refine blk_alloc ?_ _)); refine blk_far ?_ NB241_245.out _; (with_reducible repeat (first | refine blk_drewN ?_ _ | refine blk_drew ?_ | refine blk_alloc ?_ _)); refine blk_far ?_ NB241_245.out _; (with_reducible repeat (first | refine blk_drewN ?_ _ | refine blk_drew ?_ | refine blk_alloc ?_ _)); refine blk_far ?_ NB241_245.out _; (with_reducible repeat (first | refine blk_drewN ?_ _ | refine blk_drew ?_ | refine blk_alloc ?_ _)); refine blk_far ?_ NB241_245.out _; (with_reducible repeat (first | refine blk_drewN ?_ _ | refine blk_drew ?_ | refine blk_alloc ?_ _)); exact BK241.out) hb); replace BK245 := Aside0.mk (blk_below (g := gb245) (o := .cells #[.bool ((rd l0_1 a0_5) == t244), .int .i64 ji6, .int .i64 0, .int .i64 0] 40 (0, 0)) (by (with_reducible repeat (first | refine blk_drewN ?_ _ | refine blk_drew ?_ | refine blk_alloc ?_ _)); refine blk_put (cs := #[.bool ((rd l0_1 a0_5) == t244), .int .i64 ji6, .int .i64 0, .int .i64 0]) ?_ 3 _ rfl; (with_reducible repeat (first | refine blk_drewN ?_ _ | refine blk_drew ?_ | refine blk_alloc ?_ _)); refine blk_put (cs := #[.bool ((rd l0_1 a0_5) == t244), .int .i64 ji6, .int .i64 0, .int .i64 0]) ?_ 2 _ rfl; (with_reducible repeat (first | refine blk_drewN ?_ _ | refine blk_drew ?_ | refine blk_alloc ?_ _)); refine blk_put (cs := #[.bool ((rd l0_1 a0_5) == t244), .int .i64 0, .int .i64 0, .int .i64 0]) ?_ 1 _ rfl; (with_reducible repeat (first | refine blk_drewN ?_ _ | refine blk_drew ?_ | refine blk_alloc ?_ _)); refine blk_put (cs := #[.bool false, .int .i64 0, .int .i64 0, .int .i64 0]) ?_ 0 _ rfl; (with_reducible repeat (first | refine blk_drewN ?_ _ | refine blk_drew ?_ | refine blk_alloc ?_ _)); exact BK245.out) hb); replace HB := Aside0.mk (below_step (bA HB.out) hb); (try clear hb)))
         go_meet
         case rel => exact ⟨_, (true), (by first | rfl | (simp; done) | (simp [*]; done)), H', ⟨by first | omega | exact Nat.le_refl _⟩, ⟨by (with_reducible repeat (first | refine blk_drewN ?_ _ | refine blk_drew ?_ | refine blk_alloc ?_ _)); exact BK240.out⟩, ⟨by (with_reducible repeat (first | refine blk_drewN ?_ _ | refine blk_drew ?_ | refine blk_alloc ?_ _)); exact BK241.out⟩, ⟨by (with_reducible repeat (first | refine blk_drewN ?_ _ | refine blk_drew ?_ | refine blk_alloc ?_ _)); exact BK245.out⟩, ⟨bA HB.out⟩⟩
     ·rw [if_neg c18] at H
      exact absurd H (by simp)
    case rest =>
     clear HC7
     try clear c1
     try clear q1
     try clear c2
     try clear c2b0
     try clear p2
     try clear q2
     try clear hx2
     try clear c3
     try clear c3b0
     try clear c4
     try clear c4b0
     try clear p6
     try clear c8
     try clear c9
     try clear c10
     try clear c15
     try clear c16
     try clear c18
     try clear c18b0
     try clear q19
     try clear c20
     try clear c21
     try clear c22
     try clear c24
     try clear c24b0
     try clear p24
     try clear q24
     try clear hx24
     try clear c25
     try clear c26
     try clear c29
     try clear c30
     try clear c30b0
     try clear c30b1
     try clear c31
     try clear c32
     try clear c36
     try clear c37
     try clear c41
     try clear c42
     try clear hcz11_0 hcz11_1 hcz11_2 hcz11_3 hcz11_4 hcz11_5 hcz11_6 hcz11_7 hcz11_8
     try clear hcz17_0 hcz17_1 hcz17_2 hcz17_3
     try clear hcz23_0 hcz23_1 hcz23_2 hcz23_3 hcz23_4 hcz23_5 hcz23_6 hcz23_7 hcz23_8
     try clear hcz27_0 hcz27_1 hcz27_2 hcz27_3 hcz27_4 hcz27_5 hcz27_6 hcz27_7 hcz27_8
     try clear hcz33_0 hcz33_1 hcz33_2 hcz33_3 hcz33_4 hcz33_5 hcz33_6 hcz33_7 hcz33_8
     try clear hcz35_0 hcz35_1 hcz35_2 hcz35_3 hcz35_4 hcz35_5 hcz35_6 hcz35_7 hcz35_8
     try clear hcz38_0 hcz38_1 hcz38_2 hcz38_3 hcz38_4 hcz38_5 hcz38_6 hcz38_7 hcz38_8
     try clear hcz40_0 hcz40_1 hcz40_2 hcz40_3 hcz40_4 hcz40_5 hcz40_6 hcz40_7 hcz40_8
     try clear hcz43_0 hcz43_1 hcz43_2 hcz43_3 hcz43_4 hcz43_5 hcz43_6 hcz43_7 hcz43_8
     try clear hfz11_0 hfz11_1 hfz11_2 hfz11_3 hfz11_4 hfz11_5 hfz11_6 hfz11_7 hfz11_8
     try clear hfz17_0 hfz17_1 hfz17_2 hfz17_3
     try clear hfz23_0 hfz23_1 hfz23_2 hfz23_3 hfz23_4 hfz23_5 hfz23_6 hfz23_7 hfz23_8
     try clear hfz27_0 hfz27_1 hfz27_2 hfz27_3 hfz27_4 hfz27_5 hfz27_6 hfz27_7 hfz27_8
     try clear hfz33_0 hfz33_1 hfz33_2 hfz33_3 hfz33_4 hfz33_5 hfz33_6 hfz33_7 hfz33_8
     try clear hfz35_0 hfz35_1 hfz35_2 hfz35_3 hfz35_4 hfz35_5 hfz35_6 hfz35_7 hfz35_8
     try clear hfz38_0 hfz38_1 hfz38_2 hfz38_3 hfz38_4 hfz38_5 hfz38_6 hfz38_7 hfz38_8
     try clear hfz40_0 hfz40_1 hfz40_2 hfz40_3 hfz40_4 hfz40_5 hfz40_6 hfz40_7 hfz40_8
     try clear hfz43_0 hfz43_1 hfz43_2 hfz43_3 hfz43_4 hfz43_5 hfz43_6 hfz43_7 hfz43_8
     try clear hx242_0
     try clear hx243_0
     try clear hx246_0
     try clear p242
     try clear p243
     try clear p246
     try clear q242
     try clear q243
     try clear q246
     obtain ⟨kq, x59_6, rfl, HA, HJ6, BK240, BK241, BK245, HB⟩ := hcut
     cases kq with
     | zero => exact absurd HA.out (by simp [impl_choicesIn.j0])
     | succ kj6 =>
      have H := HA.out
      clear HA
      simp only [impl_choicesIn.j0] at H
      by_cases c45 : x59_6 = true
      ·subst c45
       rw [if_pos rfl] at H
       try dsimp only at H
       simp only [Option.some.injEq, Prod.mk.injEq] at H
       obtain ⟨rfl, rfl, rfl, rfl⟩ := H
       have hnb46 := NB245_240.out
       have hnc46 := NB240_245.out
       have hnb47 := NB245_241.out
       have hnc47 := NB241_245.out
       obtain ⟨hcz48_0, hcz48_1, hcz48_2, hcz48_3, hfz48_0, hfz48_1, hfz48_2, hfz48_3⟩ := cz4 BK245.out
       have hnb49 := NB241_240.out
       have hnc49 := NB240_241.out
       obtain ⟨hcz50_0, hcz50_1, hcz50_2, hcz50_3, hfz50_0, hfz50_1, hfz50_2, hfz50_3⟩ := cz4 BK241.out
       go_wp2
       refine bodyPost_ret (results_cell_row rfl _ _ gb241 40 #[.bool ((rd l0_1 a0_5) == t244), .int .i64 ji6, .int .i64 0, .int .i64 0] (0, 0) _ rfl (by (with_reducible repeat (first | refine blk_drewN ?_ _ | refine blk_drew ?_ | refine blk_alloc ?_ _)); refine blk_put (cs := #[.bool ((rd l0_1 a0_5) == t244), .int .i64 ji6, .int .i64 0, .int .i64 0]) ?_ 3 _ rfl; (with_reducible repeat (first | refine blk_drewN ?_ _ | refine blk_drew ?_ | refine blk_alloc ?_ _)); refine blk_put (cs := #[.bool ((rd l0_1 a0_5) == t244), .int .i64 ji6, .int .i64 0, .int .i64 0]) ?_ 2 _ rfl; (with_reducible repeat (first | refine blk_drewN ?_ _ | refine blk_drew ?_ | refine blk_alloc ?_ _)); refine blk_put (cs := #[.bool ((rd l0_1 a0_5) == t244), .int .i64 0, .int .i64 0, .int .i64 0]) ?_ 1 _ rfl; (with_reducible repeat (first | refine blk_drewN ?_ _ | refine blk_drew ?_ | refine blk_alloc ?_ _)); refine blk_put (cs := #[.bool false, .int .i64 0, .int .i64 0, .int .i64 0]) ?_ 0 _ rfl; (with_reducible repeat (first | refine blk_drewN ?_ _ | refine blk_drew ?_ | refine blk_alloc ?_ _)); exact BK241.out) Try.underlying40 rfl (by kernel_rfl)) rfl ?_
       exact ⟨by first | rfl | (simp [errW_none, errW_some] <;> rfl) | (simp only [← hji6]; first | rfl | (simp [errW_none, errW_some] <;> rfl)) | (simp [*, errW_none, errW_some] <;> rfl), bA HB.out⟩
      ·replace c45 := Bool.eq_false_iff.mpr c45
       subst c45
       rw [if_neg (show ¬ (false = true) by decide)] at H
       try dsimp only at H
       by_cases c51 : a0_8 = 1
       ·rw [if_pos c51] at H
        have c51b0 : (a0_8 == 1) = true := beq_iff_eq.mpr c51
        have c51b1 : (a0_8 != 1) = false := bne_eq_false_iff_eq.mpr c51
        clear c51
        obtain ⟨t248, A520, H⟩ := Option.bind_eq_some_iff.mp H
        try dsimp only at H
        have A52 := Aside0.mk A520
        clear A520
        obtain ⟨t249, A530, H⟩ := Option.bind_eq_some_iff.mp H
        try dsimp only at H
        have A53 := Aside0.mk A530
        clear A530
        obtain ⟨ji54, hji54⟩ : ∃ j_ : Int, (mn (wrap64 ((rd l0_1 a0_5) + (rd l0_0 a0_5))) (wrap64 ((wrap64 ((wrap64 ((wrap64 (t244 + t248)) + t249)) + t244)) - (rd l0_1 a0_5)))) = j_ := ⟨_, rfl⟩
        replace H : (some (((rd l0_1 a0_5) == t244), ji6, mn (ji54) (wrap64 (t244 + a0_6)), ji54)) = some (r1, r2, r3, r4) := by first | (rw [hji54] at H; exact H) | (simp only [hji54] at H ⊢; exact H)
        (try rw [hji54] at A52)
        (try rw [hji54] at A53)
        have hji54_ : (if (wrap64 ((wrap64 ((wrap64 ((wrap64 (t244 + t248)) + t249)) + t244)) - (rd l0_1 a0_5))) < (wrap64 ((rd l0_1 a0_5) + (rd l0_0 a0_5))) then (wrap64 ((wrap64 ((wrap64 ((wrap64 (t244 + t248)) + t249)) + t244)) - (rd l0_1 a0_5))) else (wrap64 ((rd l0_1 a0_5) + (rd l0_0 a0_5)))) = ji54 := hji54
        obtain ⟨ji55, hji55⟩ : ∃ j_ : Int, (mn (ji54) (wrap64 (t244 + a0_6))) = j_ := ⟨_, rfl⟩
        replace H : (some (((rd l0_1 a0_5) == t244), ji6, ji55, ji54)) = some (r1, r2, r3, r4) := by first | (rw [hji55] at H; exact H) | (simp only [hji55] at H ⊢; exact H)
        (try rw [hji55] at A52)
        (try rw [hji55] at A53)
        have hji55_ : (if (wrap64 (t244 + a0_6)) < (ji54) then (wrap64 (t244 + a0_6)) else (ji54)) = ji55 := hji55
        simp only [Option.some.injEq, Prod.mk.injEq] at H
        obtain ⟨rfl, rfl, rfl, rfl⟩ := H
        have hnb56 := NB245_240.out
        have hnc56 := NB240_245.out
        have hnb57 := NB245_241.out
        have hnc57 := NB241_245.out
        obtain ⟨hcz58_0, hcz58_1, hcz58_2, hcz58_3, hfz58_0, hfz58_1, hfz58_2, hfz58_3⟩ := cz4 BK245.out
        have hnb59 := NB240_241.out
        have hnc59 := NB241_240.out
        obtain ⟨hcz60_0, hcz60_1, hcz60_2, hcz60_3, hcz60_4, hcz60_5, hcz60_6, hcz60_7, hcz60_8, hfz60_0, hfz60_1, hfz60_2, hfz60_3, hfz60_4, hfz60_5, hfz60_6, hfz60_7, hfz60_8⟩ := cz9 BK240.out
        try go_wp2
        have n0_ : Aside0 ((wc.setCell ⟨gb245, 3, none⟩ (.int .i64 (wrap64 ((rd l0_1 a0_5) + (rd l0_0 a0_5))))).heap[gb240]? = some (.cells #[.slice (some ad243) l0_0.length c0_0, .slice (some ad242) l0_1.length c0_1, .slice A0_2 l0_2.length c0_2, .slice A0_3 l0_3.length c0_3, .slice A0_4 l0_4.length c0_4, .int .i64 a0_5, .int .i64 a0_6, .int .i64 a0_7, .int .i64 a0_8] 28 (0, 0))) := ⟨by (with_reducible repeat (first | refine blk_drewN ?_ _ | refine blk_drew ?_ | refine blk_alloc ?_ _)); refine blk_far ?_ NB240_245.out _; (with_reducible repeat (first | refine blk_drewN ?_ _ | refine blk_drew ?_ | refine blk_alloc ?_ _)); exact BK240.out⟩
        have n1_ : Aside0 ((wc.setCell ⟨gb245, 3, none⟩ (.int .i64 (wrap64 ((rd l0_1 a0_5) + (rd l0_0 a0_5))))).heap[gb241]? = some (.cells #[.bool false, .int .i64 0, .int .i64 0, .int .i64 0] 40 (0, 0))) := ⟨by (with_reducible repeat (first | refine blk_drewN ?_ _ | refine blk_drew ?_ | refine blk_alloc ?_ _)); refine blk_far ?_ NB241_245.out _; (with_reducible repeat (first | refine blk_drewN ?_ _ | refine blk_drew ?_ | refine blk_alloc ?_ _)); exact BK241.out⟩
        have n2_ : Aside0 ((wc.setCell ⟨gb245, 3, none⟩ (.int .i64 (wrap64 ((rd l0_1 a0_5) + (rd l0_0 a0_5))))).heap[gb245]? = some (.cells #[.bool ((rd l0_1 a0_5) == t244), .int .i64 ji6, .int .i64 0, .int .i64 (wrap64 ((rd l0_1 a0_5) + (rd l0_0 a0_5)))] 40 (0, 0))) := ⟨by (with_reducible repeat (first | refine blk_drewN ?_ _ | refine blk_drew ?_ | refine blk_alloc ?_ _)); refine blk_put (cs := #[.bool ((rd l0_1 a0_5) == t244), .int .i64 ji6, .int .i64 0, .int .i64 0]) ?_ 3 _ rfl; (with_reducible repeat (first | refine blk_drewN ?_ _ | refine blk_drew ?_ | refine blk_alloc ?_ _)); exact BK245.out⟩
        have n3_ : Aside0 (Below w.heap.size w (wc.setCell ⟨gb245, 3, none⟩ (.int .i64 (wrap64 ((rd l0_1 a0_5) + (rd l0_0 a0_5)))))) := ⟨bA HB.out⟩
        (try clear BK240)
        (try clear BK241)
        (try clear BK245)
        (try clear HB)
        generalize (wc.setCell ⟨gb245, 3, none⟩ (.int .i64 (wrap64 ((rd l0_1 a0_5) + (rd l0_0 a0_5))))) = w61 at n0_ n1_ n2_ n3_ ⊢
        have BK240 := n0_
        have BK241 := n1_
        have BK245 := n2_
        have HB := n3_
        clear n0_ n1_ n2_ n3_
        replace BK240 := Aside0.mk (blk_drew BK240.out)
        replace BK241 := Aside0.mk (blk_drew BK241.out)
        replace BK245 := Aside0.mk (blk_drew BK245.out)
        replace HB := Aside0.mk (below_drew1 HB.out)
        refine start_ (n := 18) (S := fun w' => w'.cell? ⟨gb245, 0, none⟩ = some (.bool ((rd l0_1 a0_5) == t244)) ∧ w'.cell? ⟨gb245, 1, none⟩ = some (.int .i64 ji6) ∧ w'.cell? ⟨gb245, 2, none⟩ = some (.int .i64 0) ∧ w'.cell? ⟨gb245, 3, none⟩ = some (.int .i64 (wrap64 ((rd l0_1 a0_5) + (rd l0_0 a0_5)))) ∧ w'.cell? ⟨gb240, 0, none⟩ = some (.slice (some ad243) l0_0.length c0_0) ∧ w'.cell? ⟨gb240, 1, none⟩ = some (.slice (some ad242) l0_1.length c0_1) ∧ w'.cell? ⟨gb240, 2, none⟩ = some (.slice A0_2 l0_2.length c0_2) ∧ w'.cell? ⟨gb240, 3, none⟩ = some (.slice A0_3 l0_3.length c0_3) ∧ w'.cell? ⟨gb240, 4, none⟩ = some (.slice A0_4 l0_4.length c0_4) ∧ w'.cell? ⟨gb240, 5, none⟩ = some (.int .i64 a0_5) ∧ w'.cell? ⟨gb240, 6, none⟩ = some (.int .i64 a0_6) ∧ w'.cell? ⟨gb240, 7, none⟩ = some (.int .i64 a0_7) ∧ w'.cell? ⟨gb240, 8, none⟩ = some (.int .i64 a0_8)) (ds := [17]) #[false, false, false, false, false, false, false, false, false, false, false, false, false, false, false, false, false, false] (by kernel_rfl) rfl rfl ⟨(blk_cell BK245.out 0).trans rfl, (blk_cell BK245.out 1).trans rfl, (blk_cell BK245.out 2).trans rfl, (blk_cell BK245.out 3).trans rfl, (blk_cell BK240.out 0).trans rfl, (blk_cell BK240.out 1).trans rfl, (blk_cell BK240.out 2).trans rfl, (blk_cell BK240.out 3).trans rfl, (blk_cell BK240.out 4).trans rfl, (blk_cell BK240.out 5).trans rfl, (blk_cell BK240.out 6).trans rfl, (blk_cell BK240.out 7).trans rfl, (blk_cell BK240.out 8).trans rfl⟩ (fun hHeld => ?_); refine with_tabW impl_choicesIn.tab9 impl_choicesIn.bits9 (fun HT_ HW_ => ?_)
        generalize w61.drew = w62 at BK240 BK241 BK245 HB hHeld ⊢
        refine pI 0 (some 69) #[true, false, false, false, false, false, false, false, false, false, false, false, false, false, false, false, false, false] HT_.out ?_
        refine pI 2 (some 71) #[true, false, true, false, false, false, false, false, false, false, false, false, false, false, false, false, false, false] HT_.out ?_
        refine pI 3 (some 72) #[true, false, true, true, false, false, false, false, false, false, false, false, false, false, false, false, false, false] HT_.out ?_
        refine pI 7 (some 76) #[true, false, true, true, false, false, false, true, false, false, false, false, false, false, false, false, false, false] HT_.out ?_
        refine pI 11 (some 80) #[true, false, true, true, false, false, false, true, false, false, false, true, false, false, false, false, false, false] HT_.out ?_
        refine pI 13 (some 82) #[true, false, true, true, false, false, false, true, false, false, false, true, false, true, false, false, false, false] HT_.out ?_
        refine tI 1 (some 70) #[true, true, true, true, false, false, false, true, false, false, false, true, false, true, false, false, false, false] HT_.out HW_.out hHeld ?_
        refine tI 4 (some 73) #[true, true, true, true, true, false, false, true, false, false, false, true, false, true, false, false, false, false] HT_.out HW_.out hHeld ?_
        refine tI 8 (some 77) #[true, true, true, true, true, false, false, true, true, false, false, true, false, true, false, false, false, false] HT_.out HW_.out hHeld ?_
        refine one_ (i := 5) (N := some 74) #[true, true, true, true, true, true, false, true, true, false, false, true, false, true, false, false, false, false] rfl rfl (one_of HT_.out (by kernel_rfl)) (by decide) (fun K hK => ?_)
        refine gO Try.func68 #[.slice (some ad242) l0_1.length c0_1] ?_
        with_reducible refine (impl_sumOf.calls kj6 _ _ l0_1 t248 _ ?side1 ?side2 A52.out).mono ?_
        (case side1 => exact cA (Kd.C_below HR0_1.out HB.out))
        (case side2 => exact HC0_1.out)
        rintro e w' ⟨rfl, ⟨nd, rfl⟩⟩
        refine ⟨_, rfl, ?_⟩
        refine hK.out _ _ ⟨(blk_cell BK245.out 0).trans rfl, (blk_cell BK245.out 1).trans rfl, (blk_cell BK245.out 2).trans rfl, (blk_cell BK245.out 3).trans rfl, (blk_cell BK240.out 0).trans rfl, (blk_cell BK240.out 1).trans rfl, (blk_cell BK240.out 2).trans rfl, (blk_cell BK240.out 3).trans rfl, (blk_cell BK240.out 4).trans rfl, (blk_cell BK240.out 5).trans rfl, (blk_cell BK240.out 6).trans rfl, (blk_cell BK240.out 7).trans rfl, (blk_cell BK240.out 8).trans rfl⟩ (fun hHeld => ?_)
        clear hK K
        refine nO 74 ?_
        refine pI 6 (some 75) #[true, true, true, true, true, true, true, true, true, false, false, true, false, true, false, false, false, false] HT_.out ?_
        refine one_ (i := 9) (N := some 78) #[true, true, true, true, true, true, true, true, true, true, false, true, false, true, false, false, false, false] rfl rfl (one_of HT_.out (by kernel_rfl)) (by decide) (fun K hK => ?_)
        refine gO Try.func68 #[.slice A0_2 l0_2.length c0_2] ?_
        with_reducible refine (impl_sumOf.calls kj6 _ _ l0_2 t249 _ ?side1 ?side2 A53.out).mono ?_
        (case side1 => exact cA (Kd.C_below HR0_2.out (bA HB.out)))
        (case side2 => exact HC0_2.out)
        rintro e w' ⟨rfl, ⟨nd, rfl⟩⟩
        refine ⟨_, rfl, ?_⟩
        refine hK.out _ _ ⟨(blk_cell BK245.out 0).trans rfl, (blk_cell BK245.out 1).trans rfl, (blk_cell BK245.out 2).trans rfl, (blk_cell BK245.out 3).trans rfl, (blk_cell BK240.out 0).trans rfl, (blk_cell BK240.out 1).trans rfl, (blk_cell BK240.out 2).trans rfl, (blk_cell BK240.out 3).trans rfl, (blk_cell BK240.out 4).trans rfl, (blk_cell BK240.out 5).trans rfl, (blk_cell BK240.out 6).trans rfl, (blk_cell BK240.out 7).trans rfl, (blk_cell BK240.out 8).trans rfl⟩ (fun hHeld => ?_)
        clear hK K
        refine nO 78 ?_
        refine pI 10 (some 79) #[true, true, true, true, true, true, true, true, true, true, true, true, false, true, false, false, false, false] HT_.out ?_
        refine pI 12 (some 81) #[true, true, true, true, true, true, true, true, true, true, true, true, true, true, false, false, false, false] HT_.out ?_
        refine pI 14 (some 83) #[true, true, true, true, true, true, true, true, true, true, true, true, true, true, true, false, false, false] HT_.out ?_
        refine pI 15 (some 84) #[true, true, true, true, true, true, true, true, true, true, true, true, true, true, true, true, false, false] HT_.out ?_
        refine pI 16 (some 85) #[true, true, true, true, true, true, true, true, true, true, true, true, true, true, true, true, true, false] HT_.out ?_
        refine last_ (i := 17) (N := none) #[true, true, true, true, true, true, true, true, true, true, true, true, true, true, true, true, true, true] rfl rfl (one_of HT_.out (by kernel_rfl)) (by decide) (fun K hK => ?_)
        have hs63 : w62.cell? ⟨gb245, 3, none⟩ = some (.int .i64 (wrap64 ((rd l0_1 a0_5) + (rd l0_0 a0_5)))) := (blk_cell BK245.out 3).trans rfl
        have hfs63 := blk_frozen BK245.out 3
        have hns63_0 := NB240_245.out
        have hns63_1 := NB241_245.out
        have hms63_0 := NB245_240.out
        have hms63_1 := NB245_241.out
        refine skip_ (w1 := ?_) (by rfl) rfl ?_ ?_
        rotate_left
        ·go_simp
         rfl
        refine hK.out _ _ ?_
        clear hK K
        refine done_ (done_of HT_.out (by kernel_rfl)) ?_
        obtain ⟨hcz64_0, hcz64_1, hcz64_2, hcz64_3, hfz64_0, hfz64_1, hfz64_2, hfz64_3⟩ := cz4 BK245.out
        obtain ⟨hcz65_0, hcz65_1, hcz65_2, hcz65_3, hcz65_4, hcz65_5, hcz65_6, hcz65_7, hcz65_8, hfz65_0, hfz65_1, hfz65_2, hfz65_3, hfz65_4, hfz65_5, hfz65_6, hfz65_7, hfz65_8⟩ := cz9 BK240.out
        obtain ⟨hcz66_0, hcz66_1, hcz66_2, hcz66_3, hfz66_0, hfz66_1, hfz66_2, hfz66_3⟩ := cz4 BK241.out
        try go_wp2
        refine bodyPost_ret (results_cell_row rfl _ _ gb241 40 #[.bool ((rd l0_1 a0_5) == t244), .int .i64 ji6, .int .i64 ji55, .int .i64 ji54] (0, 0) _ rfl (by (with_reducible repeat (first | refine blk_drewN ?_ _ | refine blk_drew ?_ | refine blk_alloc ?_ _)); refine blk_put (cs := #[.bool ((rd l0_1 a0_5) == t244), .int .i64 ji6, .int .i64 ji55, .int .i64 0]) ?_ 3 _ rfl; (with_reducible repeat (first | refine blk_drewN ?_ _ | refine blk_drew ?_ | refine blk_alloc ?_ _)); refine blk_put (cs := #[.bool ((rd l0_1 a0_5) == t244), .int .i64 ji6, .int .i64 0, .int .i64 0]) ?_ 2 _ rfl; (with_reducible repeat (first | refine blk_drewN ?_ _ | refine blk_drew ?_ | refine blk_alloc ?_ _)); refine blk_put (cs := #[.bool ((rd l0_1 a0_5) == t244), .int .i64 0, .int .i64 0, .int .i64 0]) ?_ 1 _ rfl; (with_reducible repeat (first | refine blk_drewN ?_ _ | refine blk_drew ?_ | refine blk_alloc ?_ _)); refine blk_put (cs := #[.bool false, .int .i64 0, .int .i64 0, .int .i64 0]) ?_ 0 _ rfl; (with_reducible repeat (first | refine blk_drewN ?_ _ | refine blk_drew ?_ | refine blk_alloc ?_ _)); refine blk_far ?_ NB241_245.out _; (with_reducible repeat (first | refine blk_drewN ?_ _ | refine blk_drew ?_ | refine blk_alloc ?_ _)); refine blk_far ?_ NB241_245.out _; (with_reducible repeat (first | refine blk_drewN ?_ _ | refine blk_drew ?_ | refine blk_alloc ?_ _)); exact BK241.out) Try.underlying40 rfl (by kernel_rfl)) rfl ?_
        exact ⟨by first | rfl | (simp [errW_none, errW_some] <;> rfl) | (simp only [← hji6, ← hji54, ← hji55]; first | rfl | (simp [errW_none, errW_some] <;> rfl)) | (simp [*, errW_none, errW_some] <;> rfl), bA HB.out⟩
       ·rw [if_neg c51] at H
        have c51b0 : (a0_8 == 1) = false := beq_eq_false_iff_ne.mpr c51
        have c51b1 : (a0_8 != 1) = true := bne_iff_ne.mpr c51
        by_cases c67 : a0_8 = 2
        ·rw [if_pos c67] at H
         have c67b0 : (a0_8 == 2) = true := beq_iff_eq.mpr c67
         have c67b1 : (a0_8 != 2) = false := bne_eq_false_iff_eq.mpr c67
         clear c67
         obtain ⟨ji68, hji68⟩ : ∃ j_ : Int, (mn (wrap64 ((rd l0_1 a0_5) + (rd l0_0 a0_5))) (wrap64 (t244 + a0_6))) = j_ := ⟨_, rfl⟩
         replace H : (some (((rd l0_1 a0_5) == t244), ji6, mn (ji68) (wrap64 (t244 + a0_6)), ji68)) = some (r1, r2, r3, r4) := by first | (rw [hji68] at H; exact H) | (simp only [hji68] at H ⊢; exact H)
         have hji68_ : (if (wrap64 (t244 + a0_6)) < (wrap64 ((rd l0_1 a0_5) + (rd l0_0 a0_5))) then (wrap64 (t244 + a0_6)) else (wrap64 ((rd l0_1 a0_5) + (rd l0_0 a0_5)))) = ji68 := hji68
         obtain ⟨ji69, hji69⟩ : ∃ j_ : Int, (mn (ji68) (wrap64 (t244 + a0_6))) = j_ := ⟨_, rfl⟩
         replace H : (some (((rd l0_1 a0_5) == t244), ji6, ji69, ji68)) = some (r1, r2, r3, r4) := by first | (rw [hji69] at H; exact H) | (simp only [hji69] at H ⊢; exact H)
         have hji69_ : (if (wrap64 (t244 + a0_6)) < (ji68) then (wrap64 (t244 + a0_6)) else (ji68)) = ji69 := hji69
         have hq_ : ji69 = ji68 := by omega
         rw [hq_] at H
         clear hq_ hji69 hji69_
         simp only [Option.some.injEq, Prod.mk.injEq] at H
         obtain ⟨rfl, rfl, rfl, rfl⟩ := H
         have hnb70 := NB245_240.out
         have hnc70 := NB240_245.out
         have hnb71 := NB245_241.out
         have hnc71 := NB241_245.out
         obtain ⟨hcz72_0, hcz72_1, hcz72_2, hcz72_3, hfz72_0, hfz72_1, hfz72_2, hfz72_3⟩ := cz4 BK245.out
         have hnb73 := NB240_241.out
         have hnc73 := NB241_240.out
         obtain ⟨hcz74_0, hcz74_1, hcz74_2, hcz74_3, hcz74_4, hcz74_5, hcz74_6, hcz74_7, hcz74_8, hfz74_0, hfz74_1, hfz74_2, hfz74_3, hfz74_4, hfz74_5, hfz74_6, hfz74_7, hfz74_8⟩ := cz9 BK240.out
         obtain ⟨hcz75_0, hcz75_1, hcz75_2, hcz75_3, hfz75_0, hfz75_1, hfz75_2, hfz75_3⟩ := cz4 BK241.out
         go_wp2
         refine bodyPost_ret (results_cell_row rfl _ _ gb241 40 #[.bool ((rd l0_1 a0_5) == t244), .int .i64 ji6, .int .i64 ji68, .int .i64 ji68] (0, 0) _ rfl (by (with_reducible repeat (first | refine blk_drewN ?_ _ | refine blk_drew ?_ | refine blk_alloc ?_ _)); refine blk_put (cs := #[.bool ((rd l0_1 a0_5) == t244), .int .i64 ji6, .int .i64 ji68, .int .i64 0]) ?_ 3 _ rfl; (with_reducible repeat (first | refine blk_drewN ?_ _ | refine blk_drew ?_ | refine blk_alloc ?_ _)); refine blk_put (cs := #[.bool ((rd l0_1 a0_5) == t244), .int .i64 ji6, .int .i64 0, .int .i64 0]) ?_ 2 _ rfl; (with_reducible repeat (first | refine blk_drewN ?_ _ | refine blk_drew ?_ | refine blk_alloc ?_ _)); refine blk_put (cs := #[.bool ((rd l0_1 a0_5) == t244), .int .i64 0, .int .i64 0, .int .i64 0]) ?_ 1 _ rfl; (with_reducible repeat (first | refine blk_drewN ?_ _ | refine blk_drew ?_ | refine blk_alloc ?_ _)); refine blk_put (cs := #[.bool false, .int .i64 0, .int .i64 0, .int .i64 0]) ?_ 0 _ rfl; (with_reducible repeat (first | refine blk_drewN ?_ _ | refine blk_drew ?_ | refine blk_alloc ?_ _)); refine blk_far ?_ NB241_245.out _; (with_reducible repeat (first | refine blk_drewN ?_ _ | refine blk_drew ?_ | refine blk_alloc ?_ _)); refine blk_far ?_ NB241_245.out _; (with_reducible repeat (first | refine blk_drewN ?_ _ | refine blk_drew ?_ | refine blk_alloc ?_ _)); refine blk_far ?_ NB241_245.out _; (with_reducible repeat (first | refine blk_drewN ?_ _ | refine blk_drew ?_ | refine blk_alloc ?_ _)); exact BK241.out) Try.underlying40 rfl (by kernel_rfl)) rfl ?_
         exact ⟨by first | rfl | (simp [errW_none, errW_some] <;> rfl) | (simp only [← hji6, ← hji68, ← hji69]; first | rfl | (simp [errW_none, errW_some] <;> rfl)) | (simp [*, errW_none, errW_some] <;> rfl), bA HB.out⟩
        ·rw [if_neg c67] at H
         have c67b0 : (a0_8 == 2) = false := beq_eq_false_iff_ne.mpr c67
         have c67b1 : (a0_8 != 2) = true := bne_iff_ne.mpr c67
         obtain ⟨ji76, hji76⟩ : ∃ j_ : Int, (mn (wrap64 ((rd l0_1 a0_5) + (rd l0_0 a0_5))) (wrap64 (t244 + a0_6))) = j_ := ⟨_, rfl⟩
         replace H : (some (((rd l0_1 a0_5) == t244), ji6, ji76, wrap64 ((rd l0_1 a0_5) + (rd l0_0 a0_5)))) = some (r1, r2, r3, r4) := by first | (rw [hji76] at H; exact H) | (simp only [hji76] at H ⊢; exact H)
         have hji76_ : (if (wrap64 (t244 + a0_6)) < (wrap64 ((rd l0_1 a0_5) + (rd l0_0 a0_5))) then (wrap64 (t244 + a0_6)) else (wrap64 ((rd l0_1 a0_5) + (rd l0_0 a0_5)))) = ji76 := hji76
         simp only [Option.some.injEq, Prod.mk.injEq] at H
         obtain ⟨rfl, rfl, rfl, rfl⟩ := H
         have hnb77 := NB245_240.out
         have hnc77 := NB240_245.out
         have hnb78 := NB245_241.out
         have hnc78 := NB241_245.out
         obtain ⟨hcz79_0, hcz79_1, hcz79_2, hcz79_3, hfz79_0, hfz79_1, hfz79_2, hfz79_3⟩ := cz4 BK245.out
         have hnb80 := NB240_241.out
         have hnc80 := NB241_240.out
         obtain ⟨hcz81_0, hcz81_1, hcz81_2, hcz81_3, hcz81_4, hcz81_5, hcz81_6, hcz81_7, hcz81_8, hfz81_0, hfz81_1, hfz81_2, hfz81_3, hfz81_4, hfz81_5, hfz81_6, hfz81_7, hfz81_8⟩ := cz9 BK240.out
         obtain ⟨hcz82_0, hcz82_1, hcz82_2, hcz82_3, hfz82_0, hfz82_1, hfz82_2, hfz82_3⟩ := cz4 BK241.out
         go_wp2
         refine bodyPost_ret (results_cell_row rfl _ _ gb241 40 #[.bool ((rd l0_1 a0_5) == t244), .int .i64 ji6, .int .i64 ji76, .int .i64 (wrap64 ((rd l0_1 a0_5) + (rd l0_0 a0_5)))] (0, 0) _ rfl (by (with_reducible repeat (first | refine blk_drewN ?_ _ | refine blk_drew ?_ | refine blk_alloc ?_ _)); refine blk_put (cs := #[.bool ((rd l0_1 a0_5) == t244), .int .i64 ji6, .int .i64 ji76, .int .i64 0]) ?_ 3 _ rfl; (with_reducible repeat (first | refine blk_drewN ?_ _ | refine blk_drew ?_ | refine blk_alloc ?_ _)); refine blk_put (cs := #[.bool ((rd l0_1 a0_5) == t244), .int .i64 ji6, .int .i64 0, .int .i64 0]) ?_ 2 _ rfl; (with_reducible repeat (first | refine blk_drewN ?_ _ | refine blk_drew ?_ | refine blk_alloc ?_ _)); refine blk_put (cs := #[.bool ((rd l0_1 a0_5) == t244), .int .i64 0, .int .i64 0, .int .i64 0]) ?_ 1 _ rfl; (with_reducible repeat (first | refine blk_drewN ?_ _ | refine blk_drew ?_ | refine blk_alloc ?_ _)); refine blk_put (cs := #[.bool false, .int .i64 0, .int .i64 0, .int .i64 0]) ?_ 0 _ rfl; (with_reducible repeat (first | refine blk_drewN ?_ _ | refine blk_drew ?_ | refine blk_alloc ?_ _)); refine blk_far ?_ NB241_245.out _; (with_reducible repeat (first | refine blk_drewN ?_ _ | refine blk_drew ?_ | refine blk_alloc ?_ _)); refine blk_far ?_ NB241_245.out _; (with_reducible repeat (first | refine blk_drewN ?_ _ | refine blk_drew ?_ | refine blk_alloc ?_ _)); exact BK241.out) Try.underlying40 rfl (by kernel_rfl)) rfl ?_
         exact ⟨by first | rfl | (simp [errW_none, errW_some] <;> rfl) | (simp only [← hji6, ← hji76]; first | rfl | (simp [errW_none, errW_some] <;> rfl)) | (simp [*, errW_none, errW_some] <;> rfl), bA HB.out⟩
   ·rw [if_neg c4] at H
    exact absurd H (by simp)
  ·rw [if_neg c3] at H
   exact absurd H (by simp)
 ·rw [if_neg c2] at H
  exact absurd H (by simp)
end Go.Proofs.Ytmcobmphmmgdmaa.QFnExactIsLegal
