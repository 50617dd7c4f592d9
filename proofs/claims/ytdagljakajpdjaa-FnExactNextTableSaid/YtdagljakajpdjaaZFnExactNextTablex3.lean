import Derived.Test.YtdagljakajpdjaaZFnExactNextTablex0
import Derived.Test.YtdagljakajpdjaaZFnExactNextTablex1
import Derived.Test.YtdagljakajpdjaaZFnExactNextTablex2
namespace Go.Proofs.Ytdagljakajpdjaa.QFnExactNextTable
open Go.RowKit Go.Proofs.YtdagljakajpdjaaW.PrintWords Go.Proofs.YtdagljakajpdjaaW.PrintLast Go.Proofs.YtdagljakajpdjaaW.PrintMore
attribute [local go_sem] max2_int min2_int max_two min_two max_three min_three max_four min_four
set_option linter.unusedVariables false
set_option linter.unusedSimpArgs false
mutual
def spec_NextTable.l0 : Nat → List Int → List Int → List Int → Int → List Int → Int → Int → Int → Int → Int → Option (List Int × Int × Int × Int × Int × Int × Int)
 | 0, _, _, _, _, _, _, _, _, _, _ => none
 | k + 1, x1, x6, x7, x8, x133000, x133001, x133002, x133003, x133004, x133005 => if x8 < (x1.length : Int) then (if 0 ≤ x8 then ((spec_l01In.f (rd x1 x8) 0 100000).bind fun t142 => (if t142 = true then (if x7.length < 17592186044416 then ((some (x7 ++ [(x6.length : Int)] : List Int)).bind fun y143 => (if (rd x1 x8) > 0 then (if x6.length < 17592186044416 then (spec_NextTable.l0 k x1 (x6 ++ [rd x1 x8]) y143 (wrap64 (x8 + 1)) x133000 x133001 x133002 x133003 x133004 x133005) else (none)) else (spec_NextTable.l0 k x1 x6 y143 (wrap64 (x8 + 1)) x133000 x133001 x133002 x133003 x133004 x133005))) else (none)) else (some (([] : List Int), 0, 0, 0, 0, 0, 2)))) else (none)) else (if (x6.length : Int) < 2 then (some (([] : List Int), 0, 0, 0, 0, 0, 5)) else ((spec_l09Left.f x133001 (x1.length : Int)).bind fun t151 => (spec_NextTable.l1 k x1 x6 x7 t151 x133000 x133001 x133002 x133003 x133004 x133005)))
def spec_NextTable.l1 : Nat → List Int → List Int → List Int → Int → List Int → Int → Int → Int → Int → Int → Option (List Int × Int × Int × Int × Int × Int × Int)
 | 0, _, _, _, _, _, _, _, _, _, _ => none
 | k + 1, x1, x6, x7, x9, x133000, x133001, x133002, x133003, x133004, x133005 => if 0 ≤ x9 then (if x9 < (x1.length : Int) then (if (rd x1 x9) = 0 then ((spec_l09Left.f x9 (x1.length : Int)).bind fun t153 => (spec_NextTable.l1 k x1 x6 x7 t153 x133000 x133001 x133002 x133003 x133004 x133005)) else (if x9 < (x7.length : Int) then (some (x6, rd x7 x9, x133002, x133003, x133004, x133005, 0)) else (none))) else (none)) else (none)
end
def spec_NextTable.f (k : Nat) (l0_0 : List Int) (a0_1 : Int) (a0_2 : Int) (a0_3 : Int) (a0_4 : Int) (a0_5 : Int) (l1 : List Int) : Option (List Int × Int × Int × Int × Int × Int × Int) := (spec_IsTable.f k l0_0 a0_1 a0_2 a0_3 a0_4 a0_5).bind fun t134 => (if t134 = true then (if (l1.length : Int) = (l0_0.length : Int) then (spec_NextTable.l0 k l1 (([] : List Int)) (([] : List Int)) 0 l0_0 a0_1 a0_2 a0_3 a0_4 a0_5) else (some (([] : List Int), 0, 0, 0, 0, 0, 2))) else (some (([] : List Int), 0, 0, 0, 0, 0, 1)))
theorem spec_NextTable.mono_l : ∀ k, (∀ y0 y1 y2 y3 y4 y5 y6 y7 y8 y9, LeO (spec_NextTable.l0 k y0 y1 y2 y3 y4 y5 y6 y7 y8 y9) (spec_NextTable.l0 (k + 1) y0 y1 y2 y3 y4 y5 y6 y7 y8 y9)) ∧ (∀ y0 y1 y2 y3 y4 y5 y6 y7 y8 y9, LeO (spec_NextTable.l1 k y0 y1 y2 y3 y4 y5 y6 y7 y8 y9) (spec_NextTable.l1 (k + 1) y0 y1 y2 y3 y4 y5 y6 y7 y8 y9))
 | 0 => ⟨fun _ _ _ _ _ _ _ _ _ _ r h => by simp [spec_NextTable.l0] at h, fun _ _ _ _ _ _ _ _ _ _ r h => by simp [spec_NextTable.l1] at h⟩
 | k + 1 => by
  obtain ⟨ih0, ih1⟩ := spec_NextTable.mono_l k
  refine ⟨?_, ?_⟩
  ·intro y0 y1 y2 y3 y4 y5 y6 y7 y8 y9
   unfold spec_NextTable.l0
   repeat' first
   | (with_reducible exact ih0 _ _ _ _ _ _ _ _ _ _)
   | (with_reducible exact ih1 _ _ _ _ _ _ _ _ _ _)
   | (with_reducible exact spec_IsTable.mono _ _ _ _ _ _ _)
   | (with_reducible exact LeO.refl _)
   | (with_reducible exact LeO.none _)
   | (with_reducible refine LeO.ite ?_ ?_)
   | (with_reducible refine LeO.bind ?_ (fun _ => ?_))
   | exact ih0 _ _ _ _ _ _ _ _ _ _
   | exact ih1 _ _ _ _ _ _ _ _ _ _
   | exact spec_IsTable.mono _ _ _ _ _ _ _
   | exact LeO.none _
   | refine LeO.ite ?_ ?_
   | refine LeO.bind ?_ (fun _ => ?_)
  ·intro y0 y1 y2 y3 y4 y5 y6 y7 y8 y9
   unfold spec_NextTable.l1
   repeat' first
   | (with_reducible exact ih0 _ _ _ _ _ _ _ _ _ _)
   | (with_reducible exact ih1 _ _ _ _ _ _ _ _ _ _)
   | (with_reducible exact spec_IsTable.mono _ _ _ _ _ _ _)
   | (with_reducible exact LeO.refl _)
   | (with_reducible exact LeO.none _)
   | (with_reducible refine LeO.ite ?_ ?_)
   | (with_reducible refine LeO.bind ?_ (fun _ => ?_))
   | exact ih0 _ _ _ _ _ _ _ _ _ _
   | exact ih1 _ _ _ _ _ _ _ _ _ _
   | exact spec_IsTable.mono _ _ _ _ _ _ _
   | exact LeO.none _
   | refine LeO.ite ?_ ?_
   | refine LeO.bind ?_ (fun _ => ?_)
theorem spec_NextTable.mono : ∀ a0 a1 a2 a3 a4 a5 a6 k, LeO (spec_NextTable.f k a0 a1 a2 a3 a4 a5 a6) (spec_NextTable.f (k + 1) a0 a1 a2 a3 a4 a5 a6) := by
 intro a0 a1 a2 a3 a4 a5 a6 k
 obtain ⟨ih0, ih1⟩ := spec_NextTable.mono_l k
 unfold spec_NextTable.f
 repeat' first
   | (with_reducible exact ih0 _ _ _ _ _ _ _ _ _ _)
   | (with_reducible exact ih1 _ _ _ _ _ _ _ _ _ _)
   | (with_reducible exact spec_IsTable.mono _ _ _ _ _ _ _)
   | (with_reducible exact LeO.refl _)
   | (with_reducible exact LeO.none _)
   | (with_reducible refine LeO.ite ?_ ?_)
   | (with_reducible refine LeO.bind ?_ (fun _ => ?_))
   | exact ih0 _ _ _ _ _ _ _ _ _ _
   | exact ih1 _ _ _ _ _ _ _ _ _ _
   | exact spec_IsTable.mono _ _ _ _ _ _ _
   | exact LeO.none _
   | refine LeO.ite ?_ ?_
   | refine LeO.bind ?_ (fun _ => ?_)
def spec_NextTable.T20 : Bool × List (List Nat × List Nat) := (true, [([], []), ([], []), ([], []), ([1, 2], [1, 2]), ([3], [3]), ([], []), ([5], [5]), ([], []), ([7], [7]), ([], []), ([9], [9]), ([], []), ([11], [11]), ([0, 4, 6, 8, 10, 12], [0, 4, 6, 8, 10, 12]), ([13, 0, 1, 2, 3, 4, 5, 6, 7, 8, 9, 10, 11, 12, 13], [13]), ([14, 0, 1, 2, 3, 4, 5, 6, 7, 8, 9, 10, 11, 12, 13, 14], [])])
def spec_NextTable.B20 : List Nat := [0, 0, 0, 6, 14, 0, 32, 0, 128, 0, 512, 0, 2048, 8191, 16383, 32767]
theorem spec_NextTable.tab20 : rtab .any (opsOf Try.f35 20) = spec_NextTable.T20 := by kernel_rfl
theorem spec_NextTable.bits20 : waitsOk spec_NextTable.T20.2 spec_NextTable.B20 = true := by kernel_rfl
set_option maxHeartbeats 8000000 in
set_option maxRecDepth 100000 in
theorem spec_NextTable.calls (k : Nat) (A0_0 : Option Addr) (c0_0 : Nat) (l0_0 : List Int) (a0_1 : Int) (a0_2 : Int) (a0_3 : Int) (a0_4 : Int) (a0_5 : Int) (A1 : Option Addr) (c1 : Nat) (l1 : List Int) (r1 : List Int) (r2 : Int) (r3 : Int) (r4 : Int) (r5 : Int) (r6 : Int) (r7 : Int) (w : World) (hr0_0 : Kd.C (Kd.int .i64) w A0_0 l0_0.length l0_0) (hc0_0 : l0_0.length ≤ c0_0) (hr1 : Kd.C (Kd.int .i64) w A1 l1.length l1) (hc1 : l1.length ≤ c1) (h : spec_NextTable.f k l0_0 a0_1 a0_2 a0_3 a0_4 a0_5 l1 = some (r1, r2, r3, r4, r5, r6, r7)) :
  Calls Try.prog 35 #[.agg #[.slice A0_0 l0_0.length c0_0, .int .i64 a0_1, .int .i64 a0_2, .int .i64 a0_3, .int .i64 a0_4, .int .i64 a0_5], .slice A1 l1.length c1] w fun e w' => ∃ v0_ : Value, e = .returned (.tuple #[.agg #[v0_, .int .i64 r2, .int .i64 r3, .int .i64 r4, .int .i64 r5, .int .i64 r6], .int .i64 r7]) ∧ Kd.R (Kd.int .i64) 2 w' w.heap.size (fun _ => True) v0_ r1 ∧ Below w.heap.size w w' := by
 have hu27 := Try.underlying27
 have HR0_0 := Aside0.mk hr0_0
 have HC0_0 := Aside0.mk hc0_0
 clear hr0_0 hc0_0
 have HR1 := Aside0.mk hr1
 have HC1 := Aside0.mk hc1
 clear hr1 hc1
 have HB := Aside0.mk (Below.refl w.heap.size w)
 have H : ((spec_IsTable.f k l0_0 a0_1 a0_2 a0_3 a0_4 a0_5).bind fun t134 => (if t134 = true then (if (l1.length : Int) = (l0_0.length : Int) then (spec_NextTable.l0 k l1 (([] : List Int)) (([] : List Int)) 0 l0_0 a0_1 a0_2 a0_3 a0_4 a0_5) else (some (([] : List Int), 0, 0, 0, 0, 0, 2))) else (some (([] : List Int), 0, 0, 0, 0, 0, 1)))) = some (r1, r2, r3, r4, r5, r6, r7) := h
 clear h
 obtain ⟨t134, A30, H⟩ := Option.bind_eq_some_iff.mp H
 try dsimp only at H
 have A3 := Aside0.mk A30
 clear A30
 by_cases c4 : t134 = true
 ·subst c4
  rw [if_pos rfl] at H
  try dsimp only at H
  by_cases c5 : (l1.length : Int) = (l0_0.length : Int)
  ·rw [if_pos c5] at H
   have c5b0 : ((l1.length : Int) == (l0_0.length : Int)) = true := beq_iff_eq.mpr c5
   have c5b1 : ((l1.length : Int) != (l0_0.length : Int)) = false := bne_eq_false_iff_eq.mpr c5
   have c5b2 : (l1.length == l0_0.length) = true := by first | simpa using c5 | (simp at c5 ⊢; omega)
   clear c5
   obtain ⟨y135, hy135⟩ : ∃ y_ : List Int, y_ = (([] : List Int)) := ⟨_, rfl⟩
   replace H : (spec_NextTable.l0 k l1 y135 (([] : List Int)) 0 l0_0 a0_1 a0_2 a0_3 a0_4 a0_5) = some (r1, r2, r3, r4, r5, r6, r7) := by first | (rw [hy135]; with_reducible exact H) | (have H2_ := (Option.bind_some _ _).symm.trans H; rw [hy135]; with_reducible exact H2_) | (have H2_ := (Option.bind_some _ _).symm.trans H; with_reducible exact H2_) | with_reducible exact H | (rw [hy135]; exact H) | exact H
   have Ny135 := Aside0.mk hy135
   clear hy135
   obtain ⟨y138, hy138⟩ : ∃ y_ : List Int, y_ = (([] : List Int)) := ⟨_, rfl⟩
   replace H : (spec_NextTable.l0 k l1 y135 y138 0 l0_0 a0_1 a0_2 a0_3 a0_4 a0_5) = some (r1, r2, r3, r4, r5, r6, r7) := by first | (rw [hy138]; with_reducible exact H) | (have H2_ := (Option.bind_some _ _).symm.trans H; rw [hy138]; with_reducible exact H2_) | (have H2_ := (Option.bind_some _ _).symm.trans H; with_reducible exact H2_) | with_reducible exact H | (rw [hy138]; exact H) | exact H
   have Ny138 := Aside0.mk hy138
   clear hy138
   have H' := Aside0.mk H
   clear H
   go_enter Try.func35, Try.ntmps35
   go_wp2_with (first | ((with_reducible refine gate_dst (N := 2) rfl ?_); refine bE 2 #[.slice A0_0 l0_0.length c0_0, .int .i64 a0_1, .int .i64 a0_2, .int .i64 a0_3, .int .i64 a0_4, .int .i64 a0_5] 27 ?_; intro gb132 hg w6 hbox hb; have BK132 := Aside0.mk (hbox); have GW132 := Aside0.mk (gE hg (bA HB.out)); have GE132 := Aside0.mk (gE hg (bA HB.out)); replace HB := Aside0.mk (below_step (bA HB.out) hb); clear hb hbox hg) | ((with_reducible refine gate_dst (N := 4) rfl ?_); refine bE 4 #[.slice none 0 0, .int .i64 0, .int .i64 0, .int .i64 0, .int .i64 0, .int .i64 0] 27 ?_; intro gb133 hg w7 hbox hb; have BK133 := Aside0.mk (hbox); have GW133 := Aside0.mk (gE hg (bA HB.out)); have GE133 := Aside0.mk (gE hg (bA HB.out)); replace HB := Aside0.mk (below_step (bA HB.out) hb); have NB132_133 := Aside0.mk ((by rw [hg]; exact Nat.ne_of_lt (blk_lt (kA BK132.out)) : gb132 ≠ gb133)); have NB133_132 := Aside0.mk ((by rw [hg]; exact Nat.ne_of_gt (blk_lt (kA BK132.out)) : gb133 ≠ gb132)); replace BK132 := Aside0.mk (blk_below (kA BK132.out) hb); clear hb hbox hg; have hnb8 := NB132_133.out; have hnc8 := NB133_132.out; obtain ⟨hcz9_0, hcz9_1, hcz9_2, hcz9_3, hcz9_4, hcz9_5, hfz9_0, hfz9_1, hfz9_2, hfz9_3, hfz9_4, hfz9_5⟩ := cz6 BK132.out) | ((with_reducible refine gate_callee (f := 15) rfl ?_); refine gL (some 11) Try.func15 #[.agg #[.slice A0_0 l0_0.length c0_0, .int .i64 a0_1, .int .i64 a0_2, .int .i64 a0_3, .int .i64 a0_4, .int .i64 a0_5]] ?_; (with_reducible refine (spec_IsTable.calls k _ _ l0_0 a0_1 a0_2 a0_3 a0_4 a0_5 true _ ?side1 ?side2 A3.out).mono ?_); (case side1 => exact cA (Kd.C_below HR0_0.out HB.out)); (case side2 => exact HC0_0.out); rintro e w10 ⟨rfl, hb⟩; refine ⟨_, rfl, ?_⟩; replace BK132 := Aside0.mk (blk_below (kA BK132.out) hb); replace BK133 := Aside0.mk (blk_below (kA BK133.out) hb); replace HB := Aside0.mk (below_step (bA HB.out) hb); (try clear hb); obtain ⟨hcz11_0, hcz11_1, hcz11_2, hcz11_3, hcz11_4, hcz11_5, hfz11_0, hfz11_1, hfz11_2, hfz11_3, hfz11_4, hfz11_5⟩ := cz6 BK132.out) | ((with_reducible refine gate_dst (N := 21) rfl ?_); refine Kd.R_lit (Kd.int .i64) _ 2 ?hg (N := 21) ?hd (xs := ([] : List Int)) (inner := []) (ok := fun _ => True) (okp := fun _ => True) ?hr ?hp (fun _ hk => hk) trivial (Below.refl _ _) (Nat.le_refl _) (by simp) ?_; (case hd => rfl); (case hg => rfl); (case hr => first | (go_simp; done) | (go_simp; rfl)); (case hp => exact (Reps.none _ _)); intro v136 w12 ho13 hb hg_ hnew_; clear hg_ hnew_; (first | rw [← Ny135.out] at ho13 | (simp only [Int.reduceToNat] at ho13; rw [← Ny135.out] at ho13)); have HO137 := Aside0.mk (Kd.R_lower ho13 (below_size (bA HB.out))); replace BK132 := Aside0.mk (blk_below (kA BK132.out) hb); replace BK133 := Aside0.mk (blk_below (kA BK133.out) hb); replace HB := Aside0.mk (below_step (bA HB.out) hb); clear hb ho13) | ((with_reducible refine gate_dst (N := 22) rfl ?_); refine Kd.R_lit (Kd.int .i64) _ 2 ?hg (N := 22) ?hd (xs := ([] : List Int)) (inner := []) (ok := fun _ => True) (okp := fun _ => True) ?hr ?hp (fun _ hk => hk) trivial (Below.refl _ _) (Nat.le_refl _) (by simp) ?_; (case hd => rfl); (case hg => rfl); (case hr => first | (go_simp; done) | (go_simp; rfl)); (case hp => exact (Reps.none _ _)); intro v139 w14 ho15 hb hg_ hnew_; clear hg_ hnew_; (first | rw [← Ny138.out] at ho15 | (simp only [Int.reduceToNat] at ho15; rw [← Ny138.out] at ho15)); have HO140 := Aside0.mk (Kd.R_lower (Kd.R_new' ho15 (Kd.R_lt (rA HO137.out))) (below_size (bA HB.out))); replace HO137 := Aside0.mk (Kd.R_elder' (rA HO137.out) (Kd.R_base ho15) hb); replace BK132 := Aside0.mk (blk_below (kA BK132.out) hb); replace BK133 := Aside0.mk (blk_below (kA BK133.out) hb); replace HB := Aside0.mk (below_step (bA HB.out) hb); clear hb ho15))
   go_loopg [6, 7, 8] k (fun kq v6 v7 v8 w' => ∃ (x6_1 : List Int) (x7_1 : List Int) (x8_1 : Int) (x134001_1 : Int) (x134002_1 : Int) (x134003_1 : Int) (x134004_1 : Int) (x134005_1 : Int), v8 = .int .i64 x8_1 ∧ Aside0 (spec_NextTable.l0 kq l1 x6_1 x7_1 x8_1 l0_0 a0_1 a0_2 a0_3 a0_4 a0_5 = some (r1, r2, r3, r4, r5, r6, r7)) ∧ Aside0 (kq ≤ k) ∧ Aside0 (Kd.R (Kd.int .i64) 2 w' w.heap.size (fun k_ => some k_ ≠ (v7 : Value).ownBlock) v6 x6_1) ∧ Aside0 (Kd.R (Kd.int .i64) 2 w' w.heap.size (fun k_ => some k_ ≠ (v6 : Value).ownBlock) v7 x7_1) ∧ Aside0 (w'.heap[gb132]? = some (.cells #[(.slice A0_0 l0_0.length c0_0), .int .i64 a0_1, .int .i64 a0_2, .int .i64 a0_3, .int .i64 a0_4, .int .i64 a0_5] 27 (0, 0))) ∧ Aside0 (w'.heap[gb133]? = some (.cells #[(.slice none 0 0), .int .i64 x134001_1, .int .i64 x134002_1, .int .i64 x134003_1, .int .i64 x134004_1, .int .i64 x134005_1] 27 (0, 0))) ∧ Aside0 (Below w.heap.size w w'))
   case atStart => exact ⟨(y135), (y138), (0), (0), (0), (0), (0), (0), (by first | rfl | (simp; done) | (simp [*]; done)), H', ⟨Nat.le_refl _⟩, ⟨by (with_reducible repeat (first | apply Kd.R_alloc | apply Kd.R_drewN | apply Kd.R_drew)); exact Kd.R_mono HO137.out (fun _ hk => hk.2)⟩, ⟨by (with_reducible repeat (first | apply Kd.R_alloc | apply Kd.R_drewN | apply Kd.R_drew)); exact Kd.R_mono HO140.out (fun _ hk => hk.2)⟩, ⟨by (with_reducible repeat (first | refine blk_drewN ?_ _ | refine blk_drew ?_ | refine blk_alloc ?_ _)); exact BK132.out⟩, ⟨by (with_reducible repeat (first | refine blk_drewN ?_ _ | refine blk_drew ?_ | refine blk_alloc ?_ _)); exact BK133.out⟩, ⟨bA HB.out⟩⟩
   case round =>
    clear H'
    try clear c1
    try clear p2
    try clear c3
    try clear c4
    try clear c5
    try clear c5b0
    try clear c5b1
    try clear c5b2
    try clear c8
    try clear c15
    try clear hcz11_0 hcz11_1 hcz11_2 hcz11_3 hcz11_4 hcz11_5
    try clear hcz9_0 hcz9_1 hcz9_2 hcz9_3 hcz9_4 hcz9_5
    try clear hfz11_0 hfz11_1 hfz11_2 hfz11_3 hfz11_4 hfz11_5
    try clear hfz9_0 hfz9_1 hfz9_2 hfz9_3 hfz9_4 hfz9_5
    obtain ⟨x6_1, x7_1, x8_1, x134001_1, x134002_1, x134003_1, x134004_1, x134005_1, rfl, HA, HK1, HO_6, HO_7, BK132, BK133, HB⟩ := hrel
    cases gk with
    | zero => exact absurd HA.out (by simp [spec_NextTable.l0])
    | succ k1 =>
     have H := HA.out
     clear HA
     simp only [spec_NextTable.l0] at H
     by_cases c16 : x8_1 < (l1.length : Int)
     ·rw [if_pos c16] at H
      have c16b0 : decide (x8_1 < (l1.length : Int)) = true := decide_eq_true c16
      clear c16
      by_cases c17 : 0 ≤ x8_1
      rotate_left
      ·rw [if_neg c17] at H
       exact absurd H (by simp)
      rw [if_pos c17] at H
      have c17b0 : decide (0 ≤ x8_1) = true := decide_eq_true c17
      clear c17
      obtain ⟨t142, A180, H⟩ := Option.bind_eq_some_iff.mp H
      try dsimp only at H
      have A18 := Aside0.mk A180
      clear A180
      by_cases c19 : t142 = true
      ·subst c19
       rw [if_pos rfl] at H
       try dsimp only at H
       by_cases c20 : x7_1.length < 17592186044416
       rotate_left
       ·rw [if_neg c20] at H
        exact absurd H (by simp)
       rw [if_pos c20] at H
       have LMc20 := Aside0.mk c20
       clear c20
       obtain ⟨y143, hy143⟩ : ∃ y_ : List Int, y_ = (x7_1 ++ [(x6_1.length : Int)]) := ⟨_, rfl⟩
       replace H : (if (rd l1 x8_1) > 0 then (if x6_1.length < 17592186044416 then (spec_NextTable.l0 k1 l1 (x6_1 ++ [rd l1 x8_1]) y143 (wrap64 (x8_1 + 1)) l0_0 a0_1 a0_2 a0_3 a0_4 a0_5) else (none)) else (spec_NextTable.l0 k1 l1 x6_1 y143 (wrap64 (x8_1 + 1)) l0_0 a0_1 a0_2 a0_3 a0_4 a0_5)) = some (r1, r2, r3, r4, r5, r6, r7) := by first | (rw [hy143]; with_reducible exact H) | (have H2_ := (Option.bind_some _ _).symm.trans H; rw [hy143]; with_reducible exact H2_) | (have H2_ := (Option.bind_some _ _).symm.trans H; with_reducible exact H2_) | with_reducible exact H | (rw [hy143]; exact H) | exact H
       have Ny143 := Aside0.mk hy143
       clear hy143
       by_cases c21 : (rd l1 x8_1) > 0
       ·rw [if_pos c21] at H
        have c21b0 : decide (0 < (rd l1 x8_1)) = true := decide_eq_true c21
        clear c21
        by_cases c22 : x6_1.length < 17592186044416
        rotate_left
        ·rw [if_neg c22] at H
         exact absurd H (by simp)
        rw [if_pos c22] at H
        have LMc22 := Aside0.mk c22
        clear c22
        obtain ⟨y148, hy148⟩ : ∃ y_ : List Int, y_ = (x6_1 ++ [rd l1 x8_1]) := ⟨_, rfl⟩
        replace H : (spec_NextTable.l0 k1 l1 y148 y143 (wrap64 (x8_1 + 1)) l0_0 a0_1 a0_2 a0_3 a0_4 a0_5) = some (r1, r2, r3, r4, r5, r6, r7) := by first | (rw [hy148]; with_reducible exact H) | (have H2_ := (Option.bind_some _ _).symm.trans H; rw [hy148]; with_reducible exact H2_) | (have H2_ := (Option.bind_some _ _).symm.trans H; with_reducible exact H2_) | with_reducible exact H | (rw [hy148]; exact H) | exact H
        have Ny148 := Aside0.mk hy148
        clear hy148
        have H' := Aside0.mk H
        clear H
        have p141 : 0 ≤ (x8_1 : Int) := dA
        have q141 : x8_1 < (l1.length : Int) := dA
        obtain ⟨ad141, e141, hx141_0⟩ := Kd.at_int HR1.out x8_1 p141 q141
        cases e141
        replace hx141_0 := (HB.out.cell (World.block_lt_of_cell? w _ hx141_0)).trans hx141_0
        replace p141 := eq_true p141
        replace q141 := eq_true q141
        go_wp2_with (first | ((with_reducible refine gate_callee (f := 49) rfl ?_); refine gL (some 33) Try.func49 #[.int .i64 (rd l1 x8_1), .int .i64 0, .int .i64 100000] ?_; (with_reducible refine (spec_l01In.calls (rd l1 x8_1) 0 100000 true _ A18.out).mono ?_); rintro e w' ⟨rfl, ⟨nd, rfl⟩⟩; refine ⟨_, rfl, ?_⟩; obtain ⟨Ao23, co23, eo23⟩ := Kd.R_slice HO_6.out; subst eo23) | ((with_reducible refine gate_builtin (b := .append) (xs := #[.tmp 36, .tmp 39]) rfl ?_); at_builtin; refine Kd.R_append (Kd.int .i64) (w0 := w) w.heap.size rfl (.tmp 36) (.tmp 39) 22 2 (.int .i64 0) 8 rfl Try.underlying22 info2 rfl (by decide) (by omega) u7 x7_1 (x6_1.length : Int) [.int .i64 (x6_1.length : Int)] (fun k_ => some k_ ≠ (.slice Ao23 x6_1.length co23 : Value).ownBlock) (fun _ => False) rfl rfl ?aP (fun _ hk => hk.elim) ?aF ?aO ?aB ?aS ?aL ?_; (case aP => exact rfl); (case aB => exact (bA HB.out)); (case aF => exact (fun k_ hk => Kd.fresh' (Kd.R_lt (rA HO_6.out)) k_ hk)); (case aO => exact (rA HO_7.out)); (case aS => exact (below_size (bA HB.out))); (case aL => have := LMc20.out; omega); intro v144 w24 ho hb hg hat; rw [← Ny143.out] at ho; replace HO_6 := Aside0.mk (Kd.R_after (ok := (fun _ => True)) (by (with_reducible repeat (first | apply Kd.R_alloc | apply Kd.R_drewN | apply Kd.R_drew)); exact Kd.R_mono HO_6.out (fun _ hk => ⟨trivial, hk⟩)) hg hat); replace BK132 := Aside0.mk (blk_grown (g := gb132) (o := .cells #[.slice A0_0 l0_0.length c0_0, .int .i64 a0_1, .int .i64 a0_2, .int .i64 a0_3, .int .i64 a0_4, .int .i64 a0_5] 27 (0, 0)) (kA BK132.out) hg (Kd.R_ne HO_7.out BK132.out (by decide))); replace BK133 := Aside0.mk (blk_grown (g := gb133) (o := .cells #[.slice none 0 0, .int .i64 x134001_1, .int .i64 x134002_1, .int .i64 x134003_1, .int .i64 x134004_1, .int .i64 x134005_1] 27 (0, 0)) (kA BK133.out) hg (Kd.R_ne HO_7.out BK133.out (by decide))); replace HB := Aside0.mk (hb); have HO145 := Aside0.mk (ho); clear HO_7; clear ho hb hg hat; have p146 : 0 ≤ (x8_1 : Int) := dA; have q146 : x8_1 < (l1.length : Int) := dA; obtain ⟨ad146, e146, hx146_0⟩ := Kd.at_int HR1.out x8_1 p146 q146; obtain rfl : ad141 = ad146 := (by injection e146); replace hx146_0 := (HB.out.cell (World.block_lt_of_cell? w _ hx146_0)).trans hx146_0; replace p146 := eq_true p146; replace q146 := eq_true q146; have p147 : 0 ≤ (x8_1 : Int) := dA; have q147 : x8_1 < (l1.length : Int) := dA; obtain ⟨ad147, e147, hx147_0⟩ := Kd.at_int HR1.out x8_1 p147 q147; obtain rfl : ad141 = ad147 := (by injection e147); replace hx147_0 := (HB.out.cell (World.block_lt_of_cell? w _ hx147_0)).trans hx147_0; replace p147 := eq_true p147; replace q147 := eq_true q147) | ((with_reducible refine gate_builtin (b := .append) (xs := #[.tmp 46, .tmp 51]) rfl ?_); at_builtin; refine Kd.R_append (Kd.int .i64) (w0 := w) w.heap.size rfl (.tmp 46) (.tmp 51) 22 2 (.int .i64 0) 8 rfl Try.underlying22 info2 rfl (by decide) (by omega) (.slice Ao23 x6_1.length co23) x6_1 (rd l1 x8_1) [.int .i64 (rd l1 x8_1)] (fun k_ => some k_ ≠ (v144 : Value).ownBlock) (fun _ => False) rfl rfl ?aP (fun _ hk => hk.elim) ?aF ?aO ?aB ?aS ?aL ?_; (case aP => exact rfl); (case aB => exact (bA HB.out)); (case aF => exact (fun k_ hk => Kd.fresh' (Kd.R_lt (rA HO145.out)) k_ hk)); (case aO => exact (by (with_reducible repeat (first | apply Kd.R_alloc | apply Kd.R_drewN | apply Kd.R_drew)); exact Kd.R_mono HO_6.out (fun _ hk => hk.2))); (case aS => exact (below_size (bA HB.out))); (case aL => have := LMc22.out; omega); intro v149 w25 ho hb hg hat; rw [← Ny148.out] at ho; replace BK132 := Aside0.mk (blk_grown (g := gb132) (o := .cells #[.slice A0_0 l0_0.length c0_0, .int .i64 a0_1, .int .i64 a0_2, .int .i64 a0_3, .int .i64 a0_4, .int .i64 a0_5] 27 (0, 0)) (kA BK132.out) hg (Kd.R_ne HO_6.out BK132.out (by decide))); replace BK133 := Aside0.mk (blk_grown (g := gb133) (o := .cells #[.slice none 0 0, .int .i64 x134001_1, .int .i64 x134002_1, .int .i64 x134003_1, .int .i64 x134004_1, .int .i64 x134005_1] 27 (0, 0)) (kA BK133.out) hg (Kd.R_ne HO_6.out BK133.out (by decide))); replace HO145 := Aside0.mk (Kd.R_after (ok := (fun _ => True)) (by (with_reducible repeat (first | apply Kd.R_alloc | apply Kd.R_drewN | apply Kd.R_drew)); exact Kd.R_mono HO145.out (fun _ hk => ⟨trivial, hk⟩)) hg hat); replace HB := Aside0.mk (hb); have HO150 := Aside0.mk (ho); clear HO_6; clear ho hb hg hat))
        go_roundg k1
        case measure => have := HK1.out; omega
        case rel => exact ⟨(y148), (y143), (wrap64 (x8_1 + 1)), (x134001_1), (x134002_1), (x134003_1), (x134004_1), (x134005_1), (by first | rfl | (simp; done) | (simp [*]; done)), H', ⟨by have := HK1.out; omega⟩, ⟨by (with_reducible repeat (first | apply Kd.R_alloc | apply Kd.R_drewN | apply Kd.R_drew)); exact HO150.out⟩, ⟨by (with_reducible repeat (first | apply Kd.R_alloc | apply Kd.R_drewN | apply Kd.R_drew)); exact Kd.R_mono HO145.out (fun _ hk => hk.2)⟩, ⟨by (with_reducible repeat (first | refine blk_drewN ?_ _ | refine blk_drew ?_ | refine blk_alloc ?_ _)); exact BK132.out⟩, ⟨by (with_reducible repeat (first | refine blk_drewN ?_ _ | refine blk_drew ?_ | refine blk_alloc ?_ _)); exact BK133.out⟩, ⟨bA HB.out⟩⟩
       ·rw [if_neg c21] at H
        have c21b0 : decide (0 < (rd l1 x8_1)) = false := decide_eq_false c21
        clear c21
        have H' := Aside0.mk H
        clear H
        have p141 : 0 ≤ (x8_1 : Int) := dA
        have q141 : x8_1 < (l1.length : Int) := dA
        obtain ⟨ad141, e141, hx141_0⟩ := Kd.at_int HR1.out x8_1 p141 q141
        cases e141
        replace hx141_0 := (HB.out.cell (World.block_lt_of_cell? w _ hx141_0)).trans hx141_0
        replace p141 := eq_true p141
        replace q141 := eq_true q141
        go_wp2_with (first | ((with_reducible refine gate_callee (f := 49) rfl ?_); refine gL (some 33) Try.func49 #[.int .i64 (rd l1 x8_1), .int .i64 0, .int .i64 100000] ?_; (with_reducible refine (spec_l01In.calls (rd l1 x8_1) 0 100000 true _ A18.out).mono ?_); rintro e w' ⟨rfl, ⟨nd, rfl⟩⟩; refine ⟨_, rfl, ?_⟩; obtain ⟨Ao26, co26, eo26⟩ := Kd.R_slice HO_6.out; subst eo26) | ((with_reducible refine gate_builtin (b := .append) (xs := #[.tmp 36, .tmp 39]) rfl ?_); at_builtin; refine Kd.R_append (Kd.int .i64) (w0 := w) w.heap.size rfl (.tmp 36) (.tmp 39) 22 2 (.int .i64 0) 8 rfl Try.underlying22 info2 rfl (by decide) (by omega) u7 x7_1 (x6_1.length : Int) [.int .i64 (x6_1.length : Int)] (fun k_ => some k_ ≠ (.slice Ao26 x6_1.length co26 : Value).ownBlock) (fun _ => False) rfl rfl ?aP (fun _ hk => hk.elim) ?aF ?aO ?aB ?aS ?aL ?_; (case aP => exact rfl); (case aB => exact (bA HB.out)); (case aF => exact (fun k_ hk => Kd.fresh' (Kd.R_lt (rA HO_6.out)) k_ hk)); (case aO => exact (rA HO_7.out)); (case aS => exact (below_size (bA HB.out))); (case aL => have := LMc20.out; omega); intro v144 w27 ho hb hg hat; rw [← Ny143.out] at ho; replace HO_6 := Aside0.mk (Kd.R_after (ok := (fun _ => True)) (by (with_reducible repeat (first | apply Kd.R_alloc | apply Kd.R_drewN | apply Kd.R_drew)); exact Kd.R_mono HO_6.out (fun _ hk => ⟨trivial, hk⟩)) hg hat); replace BK132 := Aside0.mk (blk_grown (g := gb132) (o := .cells #[.slice A0_0 l0_0.length c0_0, .int .i64 a0_1, .int .i64 a0_2, .int .i64 a0_3, .int .i64 a0_4, .int .i64 a0_5] 27 (0, 0)) (kA BK132.out) hg (Kd.R_ne HO_7.out BK132.out (by decide))); replace BK133 := Aside0.mk (blk_grown (g := gb133) (o := .cells #[.slice none 0 0, .int .i64 x134001_1, .int .i64 x134002_1, .int .i64 x134003_1, .int .i64 x134004_1, .int .i64 x134005_1] 27 (0, 0)) (kA BK133.out) hg (Kd.R_ne HO_7.out BK133.out (by decide))); replace HB := Aside0.mk (hb); have HO145 := Aside0.mk (ho); clear HO_7; clear ho hb hg hat; have p146 : 0 ≤ (x8_1 : Int) := dA; have q146 : x8_1 < (l1.length : Int) := dA; obtain ⟨ad146, e146, hx146_0⟩ := Kd.at_int HR1.out x8_1 p146 q146; obtain rfl : ad141 = ad146 := (by injection e146); replace hx146_0 := (HB.out.cell (World.block_lt_of_cell? w _ hx146_0)).trans hx146_0; replace p146 := eq_true p146; replace q146 := eq_true q146))
        go_roundg k1
        case measure => have := HK1.out; omega
        case rel => exact ⟨(x6_1), (y143), (wrap64 (x8_1 + 1)), (x134001_1), (x134002_1), (x134003_1), (x134004_1), (x134005_1), (by first | rfl | (simp; done) | (simp [*]; done)), H', ⟨by have := HK1.out; omega⟩, ⟨by (with_reducible repeat (first | apply Kd.R_alloc | apply Kd.R_drewN | apply Kd.R_drew)); exact Kd.R_mono HO_6.out (fun _ hk => hk.2)⟩, ⟨by (with_reducible repeat (first | apply Kd.R_alloc | apply Kd.R_drewN | apply Kd.R_drew)); exact HO145.out⟩, ⟨by (with_reducible repeat (first | refine blk_drewN ?_ _ | refine blk_drew ?_ | refine blk_alloc ?_ _)); exact BK132.out⟩, ⟨by (with_reducible repeat (first | refine blk_drewN ?_ _ | refine blk_drew ?_ | refine blk_alloc ?_ _)); exact BK133.out⟩, ⟨bA HB.out⟩⟩
      ·replace c19 := Bool.eq_false_iff.mpr c19
       subst c19
       rw [if_neg (show ¬ (false = true) by decide)] at H
       try dsimp only at H
       simp only [Option.some.injEq, Prod.mk.injEq] at H
       obtain ⟨rfl, rfl, rfl, rfl, rfl, rfl, rfl⟩ := H
       have p141 : 0 ≤ (x8_1 : Int) := dA
       have q141 : x8_1 < (l1.length : Int) := dA
       obtain ⟨ad141, e141, hx141_0⟩ := Kd.at_int HR1.out x8_1 p141 q141
       cases e141
       replace hx141_0 := (HB.out.cell (World.block_lt_of_cell? w _ hx141_0)).trans hx141_0
       replace p141 := eq_true p141
       replace q141 := eq_true q141
       go_wp2_with (first | ((with_reducible refine gate_callee (f := 49) rfl ?_); refine gL (some 33) Try.func49 #[.int .i64 (rd l1 x8_1), .int .i64 0, .int .i64 100000] ?_; (with_reducible refine (spec_l01In.calls (rd l1 x8_1) 0 100000 false _ A18.out).mono ?_); rintro e w' ⟨rfl, ⟨nd, rfl⟩⟩; refine ⟨_, rfl, ?_⟩; (try (rw [drewN_self wr]; generalize hq_ : World.drewN wr _ = wr; have n0_ : Aside0 (Kd.R (Kd.int .i64) 2 wr w.heap.size (fun k_ => some k_ ≠ (u7 : Value).ownBlock) u6 x6_1) := ⟨by rw [← hq_]; exact (rA HO_6.out)⟩; have n1_ : Aside0 (Kd.R (Kd.int .i64) 2 wr w.heap.size (fun k_ => some k_ ≠ (u6 : Value).ownBlock) u7 x7_1) := ⟨by rw [← hq_]; exact (rA HO_7.out)⟩; have n2_ : Aside0 (wr.heap[gb132]? = some (.cells #[.slice A0_0 l0_0.length c0_0, .int .i64 a0_1, .int .i64 a0_2, .int .i64 a0_3, .int .i64 a0_4, .int .i64 a0_5] 27 (0, 0))) := ⟨by rw [← hq_]; exact (kA BK132.out)⟩; have n3_ : Aside0 (wr.heap[gb133]? = some (.cells #[.slice none 0 0, .int .i64 x134001_1, .int .i64 x134002_1, .int .i64 x134003_1, .int .i64 x134004_1, .int .i64 x134005_1] 27 (0, 0))) := ⟨by rw [← hq_]; exact (kA BK133.out)⟩; have n4_ : Aside0 (Below w.heap.size w wr) := ⟨by rw [← hq_]; exact (bA HB.out)⟩; clear HO_6 HO_7 BK132 BK133 HB hq_; have HO_6 := n0_; have HO_7 := n1_; have BK132 := n2_; have BK133 := n3_; have HB := n4_; clear n0_ n1_ n2_ n3_ n4_)); have hnb28 := NB133_132.out; have hnc28 := NB132_133.out; obtain ⟨hcz29_0, hcz29_1, hcz29_2, hcz29_3, hcz29_4, hcz29_5, hfz29_0, hfz29_1, hfz29_2, hfz29_3, hfz29_4, hfz29_5⟩ := cz6 BK133.out))
       refine bodyPost_ret (results_ct rfl _ _ gb133 27 #[.slice none 0 0, .int .i64 0, .int .i64 0, .int .i64 0, .int .i64 0, .int .i64 0] (0, 0) _ rfl (by (with_reducible repeat (first | refine blk_drewN ?_ _ | refine blk_drew ?_ | refine blk_alloc ?_ _)); refine blk_put (cs := #[.slice none 0 0, .int .i64 0, .int .i64 0, .int .i64 0, .int .i64 0, .int .i64 x134005_1]) ?_ 5 _ rfl; (with_reducible repeat (first | refine blk_drewN ?_ _ | refine blk_drew ?_ | refine blk_alloc ?_ _)); refine blk_put (cs := #[.slice none 0 0, .int .i64 0, .int .i64 0, .int .i64 0, .int .i64 x134004_1, .int .i64 x134005_1]) ?_ 4 _ rfl; (with_reducible repeat (first | refine blk_drewN ?_ _ | refine blk_drew ?_ | refine blk_alloc ?_ _)); refine blk_put (cs := #[.slice none 0 0, .int .i64 0, .int .i64 0, .int .i64 x134003_1, .int .i64 x134004_1, .int .i64 x134005_1]) ?_ 3 _ rfl; (with_reducible repeat (first | refine blk_drewN ?_ _ | refine blk_drew ?_ | refine blk_alloc ?_ _)); refine blk_put (cs := #[.slice none 0 0, .int .i64 0, .int .i64 x134002_1, .int .i64 x134003_1, .int .i64 x134004_1, .int .i64 x134005_1]) ?_ 2 _ rfl; (with_reducible repeat (first | refine blk_drewN ?_ _ | refine blk_drew ?_ | refine blk_alloc ?_ _)); refine blk_put (cs := #[.slice none 0 0, .int .i64 x134001_1, .int .i64 x134002_1, .int .i64 x134003_1, .int .i64 x134004_1, .int .i64 x134005_1]) ?_ 1 _ rfl; (with_reducible repeat (first | refine blk_drewN ?_ _ | refine blk_drew ?_ | refine blk_alloc ?_ _)); refine blk_put (cs := #[.slice none 0 0, .int .i64 x134001_1, .int .i64 x134002_1, .int .i64 x134003_1, .int .i64 x134004_1, .int .i64 x134005_1]) ?_ 0 _ rfl; (with_reducible repeat (first | refine blk_drewN ?_ _ | refine blk_drew ?_ | refine blk_alloc ?_ _)); exact BK133.out) Try.underlying27 rfl (by kernel_rfl)) rfl ?_
       exact ⟨_, by first | rfl | (simp [errW_none, errW_some] <;> rfl) | (simp [*, errW_none, errW_some] <;> rfl), by first | exact Kd.R_nil _ _ _ _ _ | exact Kd.N_nil _ _ _ _ _ | exact Kd.V_nil _ _ _ _ _ | exact Kd.Q_nil _ _ _ _ _ | exact Kd.S_nil _ _ _ _ _, bA HB.out⟩
     ·rw [if_neg c16] at H
      have c16b0 : decide (x8_1 < (l1.length : Int)) = false := decide_eq_false c16
      clear c16
      by_cases c30 : (x6_1.length : Int) < 2
      ·rw [if_pos c30] at H
       have c30b0 : decide ((x6_1.length : Int) < 2) = true := decide_eq_true c30
       have c30b1 : decide (x6_1.length < 2) = true := decide_eq_true (by omega)
       clear c30
       simp only [Option.some.injEq, Prod.mk.injEq] at H
       obtain ⟨rfl, rfl, rfl, rfl, rfl, rfl, rfl⟩ := H
       obtain ⟨Ao31, co31, eo31⟩ := Kd.R_slice HO_6.out
       subst eo31
       have hnb32 := NB133_132.out
       have hnc32 := NB132_133.out
       obtain ⟨hcz33_0, hcz33_1, hcz33_2, hcz33_3, hcz33_4, hcz33_5, hfz33_0, hfz33_1, hfz33_2, hfz33_3, hfz33_4, hfz33_5⟩ := cz6 BK133.out
       go_wp2
       refine bodyPost_ret (results_ct rfl _ _ gb133 27 #[.slice none 0 0, .int .i64 0, .int .i64 0, .int .i64 0, .int .i64 0, .int .i64 0] (0, 0) _ rfl (by (with_reducible repeat (first | refine blk_drewN ?_ _ | refine blk_drew ?_ | refine blk_alloc ?_ _)); refine blk_put (cs := #[.slice none 0 0, .int .i64 0, .int .i64 0, .int .i64 0, .int .i64 0, .int .i64 x134005_1]) ?_ 5 _ rfl; (with_reducible repeat (first | refine blk_drewN ?_ _ | refine blk_drew ?_ | refine blk_alloc ?_ _)); refine blk_put (cs := #[.slice none 0 0, .int .i64 0, .int .i64 0, .int .i64 0, .int .i64 x134004_1, .int .i64 x134005_1]) ?_ 4 _ rfl; (with_reducible repeat (first | refine blk_drewN ?_ _ | refine blk_drew ?_ | refine blk_alloc ?_ _)); refine blk_put (cs := #[.slice none 0 0, .int .i64 0, .int .i64 0, .int .i64 x134003_1, .int .i64 x134004_1, .int .i64 x134005_1]) ?_ 3 _ rfl; (with_reducible repeat (first | refine blk_drewN ?_ _ | refine blk_drew ?_ | refine blk_alloc ?_ _)); refine blk_put (cs := #[.slice none 0 0, .int .i64 0, .int .i64 x134002_1, .int .i64 x134003_1, .int .i64 x134004_1, .int .i64 x134005_1]) ?_ 2 _ rfl; (with_reducible repeat (first | refine blk_drewN ?_ _ | refine blk_drew ?_ | refine blk_alloc ?_ _)); refine blk_put (cs := #[.slice none 0 0, .int .i64 x134001_1, .int .i64 x134002_1, .int .i64 x134003_1, .int .i64 x134004_1, .int .i64 x134005_1]) ?_ 1 _ rfl; (with_reducible repeat (first | refine blk_drewN ?_ _ | refine blk_drew ?_ | refine blk_alloc ?_ _)); refine blk_put (cs := #[.slice none 0 0, .int .i64 x134001_1, .int .i64 x134002_1, .int .i64 x134003_1, .int .i64 x134004_1, .int .i64 x134005_1]) ?_ 0 _ rfl; (with_reducible repeat (first | refine blk_drewN ?_ _ | refine blk_drew ?_ | refine blk_alloc ?_ _)); exact BK133.out) Try.underlying27 rfl (by kernel_rfl)) rfl ?_
       exact ⟨_, by first | rfl | (simp [errW_none, errW_some] <;> rfl) | (simp [*, errW_none, errW_some] <;> rfl), by first | exact Kd.R_nil _ _ _ _ _ | exact Kd.N_nil _ _ _ _ _ | exact Kd.V_nil _ _ _ _ _ | exact Kd.Q_nil _ _ _ _ _ | exact Kd.S_nil _ _ _ _ _, bA HB.out⟩
      ·rw [if_neg c30] at H
       have c30b0 : decide ((x6_1.length : Int) < 2) = false := decide_eq_false c30
       have c30b1 : decide (x6_1.length < 2) = false := decide_eq_false (by omega)
       clear c30
       obtain ⟨t151, A340, H⟩ := Option.bind_eq_some_iff.mp H
       try dsimp only at H
       have A34 := Aside0.mk A340
       clear A340
       have H' := Aside0.mk H
       clear H
       obtain ⟨Ao35, co35, eo35⟩ := Kd.R_slice HO_6.out
       subst eo35
       have hnb36 := NB132_133.out
       have hnc36 := NB133_132.out
       obtain ⟨hcz37_0, hcz37_1, hcz37_2, hcz37_3, hcz37_4, hcz37_5, hfz37_0, hfz37_1, hfz37_2, hfz37_3, hfz37_4, hfz37_5⟩ := cz6 BK132.out
       go_wp2_with (first | ((with_reducible refine gate_callee (f := 63) rfl ?_); refine gL (some 61) Try.func63 #[.int .i64 a0_1, .int .i64 (l1.length : Int)] ?_; (with_reducible refine (spec_l09Left.calls a0_1 (l1.length : Int) t151 _ A34.out).mono ?_); rintro e w' ⟨rfl, ⟨nd, rfl⟩⟩; refine ⟨_, rfl, ?_⟩))
       go_loopg [9] k1 (fun kq v9 w' => ∃ (x9_2 : Int), v9 = .int .i64 x9_2 ∧ Aside0 (spec_NextTable.l1 kq l1 x6_1 x7_1 x9_2 l0_0 a0_1 a0_2 a0_3 a0_4 a0_5 = some (r1, r2, r3, r4, r5, r6, r7)) ∧ Aside0 (kq ≤ k1) ∧ Aside0 (Kd.R (Kd.int .i64) 2 w' w.heap.size (fun k_ => some k_ ≠ (u7 : Value).ownBlock) (.slice Ao35 x6_1.length co35) x6_1) ∧ Aside0 (Kd.R (Kd.int .i64) 2 w' w.heap.size (fun k_ => some k_ ≠ ((.slice Ao35 x6_1.length co35) : Value).ownBlock) u7 x7_1) ∧ Aside0 (w'.heap[gb132]? = some (.cells #[(.slice A0_0 l0_0.length c0_0), .int .i64 a0_1, .int .i64 a0_2, .int .i64 a0_3, .int .i64 a0_4, .int .i64 a0_5] 27 (0, 0))) ∧ Aside0 (w'.heap[gb133]? = some (.cells #[(.slice none 0 0), .int .i64 x134001_1, .int .i64 x134002_1, .int .i64 x134003_1, .int .i64 x134004_1, .int .i64 x134005_1] 27 (0, 0))) ∧ Aside0 (Below w.heap.size w w'))
       case atStart => exact ⟨(t151), (by first | rfl | (simp; done) | (simp [*]; done)), H', ⟨Nat.le_refl _⟩, ⟨by (with_reducible repeat (first | apply Kd.R_alloc | apply Kd.R_drewN | apply Kd.R_drew)); exact HO_6.out⟩, ⟨by (with_reducible repeat (first | apply Kd.R_alloc | apply Kd.R_drewN | apply Kd.R_drew)); exact HO_7.out⟩, ⟨by (with_reducible repeat (first | refine blk_drewN ?_ _ | refine blk_drew ?_ | refine blk_alloc ?_ _)); exact BK132.out⟩, ⟨by (with_reducible repeat (first | refine blk_drewN ?_ _ | refine blk_drew ?_ | refine blk_alloc ?_ _)); exact BK133.out⟩, ⟨bA HB.out⟩⟩
       case round =>
        clear H'
        try clear c1
        try clear p1
        try clear q1
        try clear hx1
        try clear c2
        try clear p2
        try clear c3
        try clear c4
        try clear c5
        try clear c5b0
        try clear c5b1
        try clear c5b2
        try clear c6
        try clear p6
        try clear c8
        try clear p14
        try clear q14
        try clear hx14
        try clear c15
        try clear c16
        try clear c16b0
        try clear c17
        try clear c17b0
        try clear c19
        try clear c20
        try clear c21
        try clear c21b0
        try clear c22
        try clear c28
        try clear c30
        try clear c30b0
        try clear c30b1
        try clear c32
        try clear c35
        try clear c36
        try clear hcz11_0 hcz11_1 hcz11_2 hcz11_3 hcz11_4 hcz11_5
        try clear hcz29_0 hcz29_1 hcz29_2 hcz29_3 hcz29_4 hcz29_5
        try clear hcz33_0 hcz33_1 hcz33_2 hcz33_3 hcz33_4 hcz33_5
        try clear hcz37_0 hcz37_1 hcz37_2 hcz37_3 hcz37_4 hcz37_5
        try clear hcz9_0 hcz9_1 hcz9_2 hcz9_3 hcz9_4 hcz9_5
        try clear hfz11_0 hfz11_1 hfz11_2 hfz11_3 hfz11_4 hfz11_5
        try clear hfz29_0 hfz29_1 hfz29_2 hfz29_3 hfz29_4 hfz29_5
        try clear hfz33_0 hfz33_1 hfz33_2 hfz33_3 hfz33_4 hfz33_5
        try clear hfz37_0 hfz37_1 hfz37_2 hfz37_3 hfz37_4 hfz37_5
        try clear hfz9_0 hfz9_1 hfz9_2 hfz9_3 hfz9_4 hfz9_5
        try clear hx141_0
        try clear hx146_0
        try clear hx147_0
        try clear p141
        try clear p146
        try clear p147
        try clear p2
        try clear q141
        try clear q146
        try clear q147
        obtain ⟨x9_2, rfl, HA, HK2, HO_6, HO_7, BK132, BK133, HB⟩ := hrel
        cases gk with
        | zero => exact absurd HA.out (by simp [spec_NextTable.l1])
        | succ k2 =>
         have H := HA.out
         clear HA
         simp only [spec_NextTable.l1] at H
         by_cases c38 : 0 ≤ x9_2
         rotate_left
         ·rw [if_neg c38] at H
          exact absurd H (by simp)
         rw [if_pos c38] at H
         have c38b0 : decide (0 ≤ x9_2) = true := decide_eq_true c38
         clear c38
         by_cases c39 : x9_2 < (l1.length : Int)
         rotate_left
         ·rw [if_neg c39] at H
          exact absurd H (by simp)
         rw [if_pos c39] at H
         have c39b0 : decide (x9_2 < (l1.length : Int)) = true := decide_eq_true c39
         clear c39
         by_cases c40 : (rd l1 x9_2) = 0
         ·rw [if_pos c40] at H
          have c40b0 : ((rd l1 x9_2) == 0) = true := beq_iff_eq.mpr c40
          have c40b1 : ((rd l1 x9_2) != 0) = false := bne_eq_false_iff_eq.mpr c40
          clear c40
          obtain ⟨t153, A410, H⟩ := Option.bind_eq_some_iff.mp H
          try dsimp only at H
          have A41 := Aside0.mk A410
          clear A410
          have H' := Aside0.mk H
          clear H
          have p152 : 0 ≤ (x9_2 : Int) := dA
          have q152 : x9_2 < (l1.length : Int) := dA
          obtain ⟨ad152, e152, hx152_0⟩ := Kd.at_int HR1.out x9_2 p152 q152
          cases e152
          replace hx152_0 := (HB.out.cell (World.block_lt_of_cell? w _ hx152_0)).trans hx152_0
          replace p152 := eq_true p152
          replace q152 := eq_true q152
          go_wp2_with (first | ((with_reducible refine gate_callee (f := 63) rfl ?_); refine gL (some 70) Try.func63 #[.int .i64 x9_2, .int .i64 (l1.length : Int)] ?_; (with_reducible refine (spec_l09Left.calls x9_2 (l1.length : Int) t153 _ A41.out).mono ?_); rintro e w' ⟨rfl, ⟨nd, rfl⟩⟩; refine ⟨_, rfl, ?_⟩))
          go_roundg k2
          case measure => have := HK1.out; have := HK2.out; omega
          case rel => exact ⟨(t153), (by first | rfl | (simp; done) | (simp [*]; done)), H', ⟨by have := HK1.out; have := HK2.out; omega⟩, ⟨by (with_reducible repeat (first | apply Kd.R_alloc | apply Kd.R_drewN | apply Kd.R_drew)); exact HO_6.out⟩, ⟨by (with_reducible repeat (first | apply Kd.R_alloc | apply Kd.R_drewN | apply Kd.R_drew)); exact HO_7.out⟩, ⟨by (with_reducible repeat (first | refine blk_drewN ?_ _ | refine blk_drew ?_ | refine blk_alloc ?_ _)); exact BK132.out⟩, ⟨by (with_reducible repeat (first | refine blk_drewN ?_ _ | refine blk_drew ?_ | refine blk_alloc ?_ _)); exact BK133.out⟩, ⟨bA HB.out⟩⟩
         ·rw [if_neg c40] at H
          have c40b0 : ((rd l1 x9_2) == 0) = false := beq_eq_false_iff_ne.mpr c40
          have c40b1 : ((rd l1 x9_2) != 0) = true := bne_iff_ne.mpr c40
          by_cases c42 : x9_2 < (x7_1.length : Int)
          rotate_left
          ·rw [if_neg c42] at H
           exact absurd H (by simp)
          rw [if_pos c42] at H
          have c42b0 : decide (x9_2 < (x7_1.length : Int)) = true := decide_eq_true c42
          clear c42
          simp only [Option.some.injEq, Prod.mk.injEq] at H
          obtain ⟨rfl, rfl, rfl, rfl, rfl, rfl, rfl⟩ := H
          have p152 : 0 ≤ (x9_2 : Int) := dA
          have q152 : x9_2 < (l1.length : Int) := dA
          obtain ⟨ad152, e152, hx152_0⟩ := Kd.at_int HR1.out x9_2 p152 q152
          cases e152
          replace hx152_0 := (HB.out.cell (World.block_lt_of_cell? w _ hx152_0)).trans hx152_0
          replace p152 := eq_true p152
          replace q152 := eq_true q152
          try go_wp2
          replace HO_6 := Aside0.mk (Kd.R_drew HO_6.out)
          replace HO_7 := Aside0.mk (Kd.R_drew HO_7.out)
          replace BK132 := Aside0.mk (blk_drew BK132.out)
          replace BK133 := Aside0.mk (blk_drew BK133.out)
          replace HB := Aside0.mk (below_drew1 HB.out)
          obtain ⟨Ao44, co44, eo44⟩ := Kd.R_slice HO_7.out
          (first | subst eo44 | (injection eo44 with f1_ f2_ f3_; have f4_ := f1_.symm; have f5_ := f3_.symm; clear f1_ f2_ f3_; subst f4_; subst f5_))
          have p154 : 0 ≤ (x9_2 : Int) := dA
          have q154 : x9_2 < (x7_1.length : Int) := dA
          obtain ⟨ad154, e154, hx154_0⟩ := Kd.at_int (Kd.R_reads' HO_7.out).2.2 x9_2 p154 q154
          cases e154
          replace p154 := eq_true p154
          replace q154 := eq_true q154
          refine start_ (n := 16) (S := fun w' => w'.cell? ⟨gb132, 0, none⟩ = some (.slice A0_0 l0_0.length c0_0) ∧ w'.cell? ⟨gb132, 1, none⟩ = some (.int .i64 a0_1) ∧ w'.cell? ⟨gb132, 2, none⟩ = some (.int .i64 a0_2) ∧ w'.cell? ⟨gb132, 3, none⟩ = some (.int .i64 a0_3) ∧ w'.cell? ⟨gb132, 4, none⟩ = some (.int .i64 a0_4) ∧ w'.cell? ⟨gb132, 5, none⟩ = some (.int .i64 a0_5) ∧ w'.cell? (ad154.add (x9_2).toNat) = some (.int .i64 (rd x7_1 x9_2))) (ds := []) #[false, false, false, false, false, false, false, false, false, false, false, false, false, false, false, false] (by kernel_rfl) rfl rfl ⟨(blk_cell BK132.out 0).trans rfl, (blk_cell BK132.out 1).trans rfl, (blk_cell BK132.out 2).trans rfl, (blk_cell BK132.out 3).trans rfl, (blk_cell BK132.out 4).trans rfl, (blk_cell BK132.out 5).trans rfl, hx154_0⟩ (fun hHeld => ?_); refine with_tabW spec_NextTable.tab20 spec_NextTable.bits20 (fun HT_ HW_ => ?_)
          generalize wr.drew = w43 at HO_6 HO_7 BK132 BK133 HB hx154_0 hHeld ⊢
          refine pI 0 (some 71) #[true, false, false, false, false, false, false, false, false, false, false, false, false, false, false, false] HT_.out ?_
          refine pI 1 (some 72) #[true, true, false, false, false, false, false, false, false, false, false, false, false, false, false, false] HT_.out ?_
          refine pI 2 (some 73) #[true, true, true, false, false, false, false, false, false, false, false, false, false, false, false, false] HT_.out ?_
          refine pI 3 (some 74) #[true, true, true, true, false, false, false, false, false, false, false, false, false, false, false, false] HT_.out ?_
          refine pI 5 (some 76) #[true, true, true, true, false, true, false, false, false, false, false, false, false, false, false, false] HT_.out ?_
          refine pI 7 (some 78) #[true, true, true, true, false, true, false, true, false, false, false, false, false, false, false, false] HT_.out ?_
          refine pI 9 (some 80) #[true, true, true, true, false, true, false, true, false, true, false, false, false, false, false, false] HT_.out ?_
          refine pI 11 (some 82) #[true, true, true, true, false, true, false, true, false, true, false, true, false, false, false, false] HT_.out ?_
          refine tI 4 (some 75) #[true, true, true, true, true, true, false, true, false, true, false, true, false, false, false, false] HT_.out HW_.out hHeld ?_
          refine tI 6 (some 77) #[true, true, true, true, true, true, true, true, false, true, false, true, false, false, false, false] HT_.out HW_.out hHeld ?_
          refine tI 8 (some 79) #[true, true, true, true, true, true, true, true, true, true, false, true, false, false, false, false] HT_.out HW_.out hHeld ?_
          refine tI 10 (some 81) #[true, true, true, true, true, true, true, true, true, true, true, true, false, false, false, false] HT_.out HW_.out hHeld ?_
          refine tI 12 (some 83) #[true, true, true, true, true, true, true, true, true, true, true, true, true, false, false, false] HT_.out HW_.out hHeld ?_
          refine pI 13 (some 84) #[true, true, true, true, true, true, true, true, true, true, true, true, true, true, false, false] HT_.out ?_
          refine one_ (i := 14) (N := none) #[true, true, true, true, true, true, true, true, true, true, true, true, true, true, true, false] rfl rfl (one_of HT_.out (by kernel_rfl)) (by decide) (fun K hK => ?_)
          have hs45 : w43.cell? ⟨gb133, 0, none⟩ = some (.slice none 0 0) := (blk_cell BK133.out 0).trans rfl
          have hfs45 := blk_frozen BK133.out 0
          have hns45_0 := NB132_133.out
          have hms45_0 := NB133_132.out
          have hs46 : w43.cell? ⟨gb133, 1, none⟩ = some (.int .i64 x134001_1) := (blk_cell BK133.out 1).trans rfl
          have hfs46 := blk_frozen BK133.out 1
          have hns46_0 := NB132_133.out
          have hms46_0 := NB133_132.out
          have hs47 : w43.cell? ⟨gb133, 2, none⟩ = some (.int .i64 x134002_1) := (blk_cell BK133.out 2).trans rfl
          have hfs47 := blk_frozen BK133.out 2
          have hns47_0 := NB132_133.out
          have hms47_0 := NB133_132.out
          have hs48 : w43.cell? ⟨gb133, 3, none⟩ = some (.int .i64 x134003_1) := (blk_cell BK133.out 3).trans rfl
          have hfs48 := blk_frozen BK133.out 3
          have hns48_0 := NB132_133.out
          have hms48_0 := NB133_132.out
          have hs49 : w43.cell? ⟨gb133, 4, none⟩ = some (.int .i64 x134004_1) := (blk_cell BK133.out 4).trans rfl
          have hfs49 := blk_frozen BK133.out 4
          have hns49_0 := NB132_133.out
          have hms49_0 := NB133_132.out
          have hs50 : w43.cell? ⟨gb133, 5, none⟩ = some (.int .i64 x134005_1) := (blk_cell BK133.out 5).trans rfl
          have hfs50 := blk_frozen BK133.out 5
          have hns50_0 := NB132_133.out
          have hms50_0 := NB133_132.out
          refine skip_ (w1 := ?_) (by rfl) rfl ?_ ?_
          rotate_left
          ·go_simp
           rfl
          refine hK.out _ _ ⟨((cell_far (p := ⟨gb133, _, none⟩) NB132_133.out _).trans (((cell_far (p := ⟨gb133, _, none⟩) NB132_133.out _).trans (((cell_far (p := ⟨gb133, _, none⟩) NB132_133.out _).trans (((cell_far (p := ⟨gb133, _, none⟩) NB132_133.out _).trans (((cell_far (p := ⟨gb133, _, none⟩) NB132_133.out _).trans (((cell_far (p := ⟨gb133, _, none⟩) NB132_133.out _).trans (hHeld.1)))))))))))), ((cell_far (p := ⟨gb133, _, none⟩) NB132_133.out _).trans (((cell_far (p := ⟨gb133, _, none⟩) NB132_133.out _).trans (((cell_far (p := ⟨gb133, _, none⟩) NB132_133.out _).trans (((cell_far (p := ⟨gb133, _, none⟩) NB132_133.out _).trans (((cell_far (p := ⟨gb133, _, none⟩) NB132_133.out _).trans (((cell_far (p := ⟨gb133, _, none⟩) NB132_133.out _).trans (hHeld.2.1)))))))))))), ((cell_far (p := ⟨gb133, _, none⟩) NB132_133.out _).trans (((cell_far (p := ⟨gb133, _, none⟩) NB132_133.out _).trans (((cell_far (p := ⟨gb133, _, none⟩) NB132_133.out _).trans (((cell_far (p := ⟨gb133, _, none⟩) NB132_133.out _).trans (((cell_far (p := ⟨gb133, _, none⟩) NB132_133.out _).trans (((cell_far (p := ⟨gb133, _, none⟩) NB132_133.out _).trans (hHeld.2.2.1)))))))))))), ((cell_far (p := ⟨gb133, _, none⟩) NB132_133.out _).trans (((cell_far (p := ⟨gb133, _, none⟩) NB132_133.out _).trans (((cell_far (p := ⟨gb133, _, none⟩) NB132_133.out _).trans (((cell_far (p := ⟨gb133, _, none⟩) NB132_133.out _).trans (((cell_far (p := ⟨gb133, _, none⟩) NB132_133.out _).trans (((cell_far (p := ⟨gb133, _, none⟩) NB132_133.out _).trans (hHeld.2.2.2.1)))))))))))), ((cell_far (p := ⟨gb133, _, none⟩) NB132_133.out _).trans (((cell_far (p := ⟨gb133, _, none⟩) NB132_133.out _).trans (((cell_far (p := ⟨gb133, _, none⟩) NB132_133.out _).trans (((cell_far (p := ⟨gb133, _, none⟩) NB132_133.out _).trans (((cell_far (p := ⟨gb133, _, none⟩) NB132_133.out _).trans (((cell_far (p := ⟨gb133, _, none⟩) NB132_133.out _).trans (hHeld.2.2.2.2.1)))))))))))), ((cell_far (p := ⟨gb133, _, none⟩) NB132_133.out _).trans (((cell_far (p := ⟨gb133, _, none⟩) NB132_133.out _).trans (((cell_far (p := ⟨gb133, _, none⟩) NB132_133.out _).trans (((cell_far (p := ⟨gb133, _, none⟩) NB132_133.out _).trans (((cell_far (p := ⟨gb133, _, none⟩) NB132_133.out _).trans (((cell_far (p := ⟨gb133, _, none⟩) NB132_133.out _).trans (hHeld.2.2.2.2.2.1)))))))))))), ((cell_far (p := ⟨gb133, _, none⟩) (by first | exact Kd.own_blk (Kd.R_ne HO_7.out BK133.out (by decide)) | (rw [add_block]; exact Kd.own_blk (Kd.R_ne HO_7.out BK133.out (by decide))) | (show (Addr.add _ _).block ≠ _; rw [add_block]; exact Kd.own_blk (Kd.R_ne HO_7.out BK133.out (by decide))) | (dsimp only; exact Kd.own_blk (Kd.R_ne HO_7.out BK133.out (by decide)))) _).trans (((cell_far (p := ⟨gb133, _, none⟩) (by first | exact Kd.own_blk (Kd.R_ne HO_7.out BK133.out (by decide)) | (rw [add_block]; exact Kd.own_blk (Kd.R_ne HO_7.out BK133.out (by decide))) | (show (Addr.add _ _).block ≠ _; rw [add_block]; exact Kd.own_blk (Kd.R_ne HO_7.out BK133.out (by decide))) | (dsimp only; exact Kd.own_blk (Kd.R_ne HO_7.out BK133.out (by decide)))) _).trans (((cell_far (p := ⟨gb133, _, none⟩) (by first | exact Kd.own_blk (Kd.R_ne HO_7.out BK133.out (by decide)) | (rw [add_block]; exact Kd.own_blk (Kd.R_ne HO_7.out BK133.out (by decide))) | (show (Addr.add _ _).block ≠ _; rw [add_block]; exact Kd.own_blk (Kd.R_ne HO_7.out BK133.out (by decide))) | (dsimp only; exact Kd.own_blk (Kd.R_ne HO_7.out BK133.out (by decide)))) _).trans (((cell_far (p := ⟨gb133, _, none⟩) (by first | exact Kd.own_blk (Kd.R_ne HO_7.out BK133.out (by decide)) | (rw [add_block]; exact Kd.own_blk (Kd.R_ne HO_7.out BK133.out (by decide))) | (show (Addr.add _ _).block ≠ _; rw [add_block]; exact Kd.own_blk (Kd.R_ne HO_7.out BK133.out (by decide))) | (dsimp only; exact Kd.own_blk (Kd.R_ne HO_7.out BK133.out (by decide)))) _).trans (((cell_far (p := ⟨gb133, _, none⟩) (by first | exact Kd.own_blk (Kd.R_ne HO_7.out BK133.out (by decide)) | (rw [add_block]; exact Kd.own_blk (Kd.R_ne HO_7.out BK133.out (by decide))) | (show (Addr.add _ _).block ≠ _; rw [add_block]; exact Kd.own_blk (Kd.R_ne HO_7.out BK133.out (by decide))) | (dsimp only; exact Kd.own_blk (Kd.R_ne HO_7.out BK133.out (by decide)))) _).trans (((cell_far (p := ⟨gb133, _, none⟩) (by first | exact Kd.own_blk (Kd.R_ne HO_7.out BK133.out (by decide)) | (rw [add_block]; exact Kd.own_blk (Kd.R_ne HO_7.out BK133.out (by decide))) | (show (Addr.add _ _).block ≠ _; rw [add_block]; exact Kd.own_blk (Kd.R_ne HO_7.out BK133.out (by decide))) | (dsimp only; exact Kd.own_blk (Kd.R_ne HO_7.out BK133.out (by decide)))) _).trans (hHeld.2.2.2.2.2.2))))))))))))⟩ (fun hHeld => ?_)
          clear hK K
          refine pI 15 (some 5) #[true, true, true, true, true, true, true, true, true, true, true, true, true, true, true, true] HT_.out ?_
          refine done_ (done_of HT_.out (by kernel_rfl)) ?_
          try go_wp2
          refine bodyPost_ret (results_ct rfl _ _ gb133 27 #[.slice Ao35 x6_1.length co35, .int .i64 (rd x7_1 x9_2), .int .i64 a0_2, .int .i64 a0_3, .int .i64 a0_4, .int .i64 a0_5] (0, 0) _ rfl (by (with_reducible repeat (first | refine blk_drewN ?_ _ | refine blk_drew ?_ | refine blk_alloc ?_ _)); refine blk_put (cs := #[.slice Ao35 x6_1.length co35, .int .i64 (rd x7_1 x9_2), .int .i64 a0_2, .int .i64 a0_3, .int .i64 a0_4, .int .i64 x134005_1]) ?_ 5 _ rfl; (with_reducible repeat (first | refine blk_drewN ?_ _ | refine blk_drew ?_ | refine blk_alloc ?_ _)); refine blk_put (cs := #[.slice Ao35 x6_1.length co35, .int .i64 (rd x7_1 x9_2), .int .i64 a0_2, .int .i64 a0_3, .int .i64 x134004_1, .int .i64 x134005_1]) ?_ 4 _ rfl; (with_reducible repeat (first | refine blk_drewN ?_ _ | refine blk_drew ?_ | refine blk_alloc ?_ _)); refine blk_put (cs := #[.slice Ao35 x6_1.length co35, .int .i64 (rd x7_1 x9_2), .int .i64 a0_2, .int .i64 x134003_1, .int .i64 x134004_1, .int .i64 x134005_1]) ?_ 3 _ rfl; (with_reducible repeat (first | refine blk_drewN ?_ _ | refine blk_drew ?_ | refine blk_alloc ?_ _)); refine blk_put (cs := #[.slice Ao35 x6_1.length co35, .int .i64 (rd x7_1 x9_2), .int .i64 x134002_1, .int .i64 x134003_1, .int .i64 x134004_1, .int .i64 x134005_1]) ?_ 2 _ rfl; (with_reducible repeat (first | refine blk_drewN ?_ _ | refine blk_drew ?_ | refine blk_alloc ?_ _)); refine blk_put (cs := #[.slice Ao35 x6_1.length co35, .int .i64 x134001_1, .int .i64 x134002_1, .int .i64 x134003_1, .int .i64 x134004_1, .int .i64 x134005_1]) ?_ 1 _ rfl; (with_reducible repeat (first | refine blk_drewN ?_ _ | refine blk_drew ?_ | refine blk_alloc ?_ _)); refine blk_put (cs := #[.slice none 0 0, .int .i64 x134001_1, .int .i64 x134002_1, .int .i64 x134003_1, .int .i64 x134004_1, .int .i64 x134005_1]) ?_ 0 _ rfl; (with_reducible repeat (first | refine blk_drewN ?_ _ | refine blk_drew ?_ | refine blk_alloc ?_ _)); exact BK133.out) Try.underlying27 rfl (by kernel_rfl)) rfl ?_
          exact ⟨_, by first | rfl | (simp [errW_none, errW_some] <;> rfl) | (simp [*, errW_none, errW_some] <;> rfl), by (with_reducible repeat (first | apply Kd.R_alloc | apply Kd.R_drewN | apply Kd.R_drew)); exact Kd.R_mono (Kd.R_far (p := ⟨gb133, 5, none⟩) (Kd.R_far (p := ⟨gb133, 4, none⟩) (Kd.R_far (p := ⟨gb133, 3, none⟩) (Kd.R_far (p := ⟨gb133, 2, none⟩) (Kd.R_far (p := ⟨gb133, 1, none⟩) (Kd.R_far (p := ⟨gb133, 0, none⟩) (Kd.R_types HO_6.out BK133.out (by decide)) (fun _ hk => hk.2) (.slice Ao35 x6_1.length co35)) (fun _ hk => hk.2) (.int .i64 (rd x7_1 x9_2))) (fun _ hk => hk.2) (.int .i64 a0_2)) (fun _ hk => hk.2) (.int .i64 a0_3)) (fun _ hk => hk.2) (.int .i64 a0_4)) (fun _ hk => hk.2) (.int .i64 a0_5)) (fun _ hk => trivial), bA HB.out⟩
  ·rw [if_neg c5] at H
   have c5b0 : ((l1.length : Int) == (l0_0.length : Int)) = false := beq_eq_false_iff_ne.mpr c5
   have c5b1 : ((l1.length : Int) != (l0_0.length : Int)) = true := bne_iff_ne.mpr c5
   have c5b2 : (l1.length == l0_0.length) = false := by first | simpa using c5 | (simp at c5 ⊢; omega)
   simp only [Option.some.injEq, Prod.mk.injEq] at H
   obtain ⟨rfl, rfl, rfl, rfl, rfl, rfl, rfl⟩ := H
   go_enter Try.func35, Try.ntmps35
   go_wp2_with (first | ((with_reducible refine gate_dst (N := 2) rfl ?_); refine bE 2 #[.slice A0_0 l0_0.length c0_0, .int .i64 a0_1, .int .i64 a0_2, .int .i64 a0_3, .int .i64 a0_4, .int .i64 a0_5] 27 ?_; intro gb132 hg w51 hbox hb; have BK132 := Aside0.mk (hbox); have GW132 := Aside0.mk (gE hg (bA HB.out)); have GE132 := Aside0.mk (gE hg (bA HB.out)); replace HB := Aside0.mk (below_step (bA HB.out) hb); clear hb hbox hg) | ((with_reducible refine gate_dst (N := 4) rfl ?_); refine bE 4 #[.slice none 0 0, .int .i64 0, .int .i64 0, .int .i64 0, .int .i64 0, .int .i64 0] 27 ?_; intro gb133 hg w52 hbox hb; have BK133 := Aside0.mk (hbox); have GW133 := Aside0.mk (gE hg (bA HB.out)); have GE133 := Aside0.mk (gE hg (bA HB.out)); replace HB := Aside0.mk (below_step (bA HB.out) hb); have NB132_133 := Aside0.mk ((by rw [hg]; exact Nat.ne_of_lt (blk_lt (kA BK132.out)) : gb132 ≠ gb133)); have NB133_132 := Aside0.mk ((by rw [hg]; exact Nat.ne_of_gt (blk_lt (kA BK132.out)) : gb133 ≠ gb132)); replace BK132 := Aside0.mk (blk_below (kA BK132.out) hb); clear hb hbox hg; have hnb53 := NB132_133.out; have hnc53 := NB133_132.out; obtain ⟨hcz54_0, hcz54_1, hcz54_2, hcz54_3, hcz54_4, hcz54_5, hfz54_0, hfz54_1, hfz54_2, hfz54_3, hfz54_4, hfz54_5⟩ := cz6 BK132.out) | ((with_reducible refine gate_callee (f := 15) rfl ?_); refine gL (some 11) Try.func15 #[.agg #[.slice A0_0 l0_0.length c0_0, .int .i64 a0_1, .int .i64 a0_2, .int .i64 a0_3, .int .i64 a0_4, .int .i64 a0_5]] ?_; (with_reducible refine (spec_IsTable.calls k _ _ l0_0 a0_1 a0_2 a0_3 a0_4 a0_5 true _ ?side1 ?side2 A3.out).mono ?_); (case side1 => exact cA (Kd.C_below HR0_0.out HB.out)); (case side2 => exact HC0_0.out); rintro e w55 ⟨rfl, hb⟩; refine ⟨_, rfl, ?_⟩; replace BK132 := Aside0.mk (blk_below (kA BK132.out) hb); replace BK133 := Aside0.mk (blk_below (kA BK133.out) hb); replace HB := Aside0.mk (below_step (bA HB.out) hb); (try clear hb); obtain ⟨hcz56_0, hcz56_1, hcz56_2, hcz56_3, hcz56_4, hcz56_5, hfz56_0, hfz56_1, hfz56_2, hfz56_3, hfz56_4, hfz56_5⟩ := cz6 BK132.out; obtain ⟨hcz57_0, hcz57_1, hcz57_2, hcz57_3, hcz57_4, hcz57_5, hfz57_0, hfz57_1, hfz57_2, hfz57_3, hfz57_4, hfz57_5⟩ := cz6 BK133.out))
   refine bodyPost_ret (results_ct rfl _ _ gb133 27 #[.slice none 0 0, .int .i64 0, .int .i64 0, .int .i64 0, .int .i64 0, .int .i64 0] (0, 0) _ rfl (by (with_reducible repeat (first | refine blk_drewN ?_ _ | refine blk_drew ?_ | refine blk_alloc ?_ _)); refine blk_put (cs := #[.slice none 0 0, .int .i64 0, .int .i64 0, .int .i64 0, .int .i64 0, .int .i64 0]) ?_ 5 _ rfl; (with_reducible repeat (first | refine blk_drewN ?_ _ | refine blk_drew ?_ | refine blk_alloc ?_ _)); refine blk_put (cs := #[.slice none 0 0, .int .i64 0, .int .i64 0, .int .i64 0, .int .i64 0, .int .i64 0]) ?_ 4 _ rfl; (with_reducible repeat (first | refine blk_drewN ?_ _ | refine blk_drew ?_ | refine blk_alloc ?_ _)); refine blk_put (cs := #[.slice none 0 0, .int .i64 0, .int .i64 0, .int .i64 0, .int .i64 0, .int .i64 0]) ?_ 3 _ rfl; (with_reducible repeat (first | refine blk_drewN ?_ _ | refine blk_drew ?_ | refine blk_alloc ?_ _)); refine blk_put (cs := #[.slice none 0 0, .int .i64 0, .int .i64 0, .int .i64 0, .int .i64 0, .int .i64 0]) ?_ 2 _ rfl; (with_reducible repeat (first | refine blk_drewN ?_ _ | refine blk_drew ?_ | refine blk_alloc ?_ _)); refine blk_put (cs := #[.slice none 0 0, .int .i64 0, .int .i64 0, .int .i64 0, .int .i64 0, .int .i64 0]) ?_ 1 _ rfl; (with_reducible repeat (first | refine blk_drewN ?_ _ | refine blk_drew ?_ | refine blk_alloc ?_ _)); refine blk_put (cs := #[.slice none 0 0, .int .i64 0, .int .i64 0, .int .i64 0, .int .i64 0, .int .i64 0]) ?_ 0 _ rfl; (with_reducible repeat (first | refine blk_drewN ?_ _ | refine blk_drew ?_ | refine blk_alloc ?_ _)); exact BK133.out) Try.underlying27 rfl (by kernel_rfl)) rfl ?_
   exact ⟨_, by first | rfl | (simp [errW_none, errW_some] <;> rfl) | (simp [*, errW_none, errW_some] <;> rfl), by first | exact Kd.R_nil _ _ _ _ _ | exact Kd.N_nil _ _ _ _ _ | exact Kd.V_nil _ _ _ _ _ | exact Kd.Q_nil _ _ _ _ _ | exact Kd.S_nil _ _ _ _ _, bA HB.out⟩
 ·replace c4 := Bool.eq_false_iff.mpr c4
  subst c4
  rw [if_neg (show ¬ (false = true) by decide)] at H
  try dsimp only at H
  simp only [Option.some.injEq, Prod.mk.injEq] at H
  obtain ⟨rfl, rfl, rfl, rfl, rfl, rfl, rfl⟩ := H
  go_enter Try.func35, Try.ntmps35
  go_wp2_with (first | ((with_reducible refine gate_dst (N := 2) rfl ?_); refine bE 2 #[.slice A0_0 l0_0.length c0_0, .int .i64 a0_1, .int .i64 a0_2, .int .i64 a0_3, .int .i64 a0_4, .int .i64 a0_5] 27 ?_; intro gb132 hg w58 hbox hb; have BK132 := Aside0.mk (hbox); have GW132 := Aside0.mk (gE hg (bA HB.out)); have GE132 := Aside0.mk (gE hg (bA HB.out)); replace HB := Aside0.mk (below_step (bA HB.out) hb); clear hb hbox hg) | ((with_reducible refine gate_dst (N := 4) rfl ?_); refine bE 4 #[.slice none 0 0, .int .i64 0, .int .i64 0, .int .i64 0, .int .i64 0, .int .i64 0] 27 ?_; intro gb133 hg w59 hbox hb; have BK133 := Aside0.mk (hbox); have GW133 := Aside0.mk (gE hg (bA HB.out)); have GE133 := Aside0.mk (gE hg (bA HB.out)); replace HB := Aside0.mk (below_step (bA HB.out) hb); have NB132_133 := Aside0.mk ((by rw [hg]; exact Nat.ne_of_lt (blk_lt (kA BK132.out)) : gb132 ≠ gb133)); have NB133_132 := Aside0.mk ((by rw [hg]; exact Nat.ne_of_gt (blk_lt (kA BK132.out)) : gb133 ≠ gb132)); replace BK132 := Aside0.mk (blk_below (kA BK132.out) hb); clear hb hbox hg; have hnb60 := NB132_133.out; have hnc60 := NB133_132.out; obtain ⟨hcz61_0, hcz61_1, hcz61_2, hcz61_3, hcz61_4, hcz61_5, hfz61_0, hfz61_1, hfz61_2, hfz61_3, hfz61_4, hfz61_5⟩ := cz6 BK132.out) | ((with_reducible refine gate_callee (f := 15) rfl ?_); refine gL (some 11) Try.func15 #[.agg #[.slice A0_0 l0_0.length c0_0, .int .i64 a0_1, .int .i64 a0_2, .int .i64 a0_3, .int .i64 a0_4, .int .i64 a0_5]] ?_; (with_reducible refine (spec_IsTable.calls k _ _ l0_0 a0_1 a0_2 a0_3 a0_4 a0_5 false _ ?side1 ?side2 A3.out).mono ?_); (case side1 => exact cA (Kd.C_below HR0_0.out HB.out)); (case side2 => exact HC0_0.out); rintro e w62 ⟨rfl, hb⟩; refine ⟨_, rfl, ?_⟩; replace BK132 := Aside0.mk (blk_below (kA BK132.out) hb); replace BK133 := Aside0.mk (blk_below (kA BK133.out) hb); replace HB := Aside0.mk (below_step (bA HB.out) hb); (try clear hb); obtain ⟨hcz63_0, hcz63_1, hcz63_2, hcz63_3, hcz63_4, hcz63_5, hfz63_0, hfz63_1, hfz63_2, hfz63_3, hfz63_4, hfz63_5⟩ := cz6 BK133.out))
  refine bodyPost_ret (results_ct rfl _ _ gb133 27 #[.slice none 0 0, .int .i64 0, .int .i64 0, .int .i64 0, .int .i64 0, .int .i64 0] (0, 0) _ rfl (by (with_reducible repeat (first | refine blk_drewN ?_ _ | refine blk_drew ?_ | refine blk_alloc ?_ _)); refine blk_put (cs := #[.slice none 0 0, .int .i64 0, .int .i64 0, .int .i64 0, .int .i64 0, .int .i64 0]) ?_ 5 _ rfl; (with_reducible repeat (first | refine blk_drewN ?_ _ | refine blk_drew ?_ | refine blk_alloc ?_ _)); refine blk_put (cs := #[.slice none 0 0, .int .i64 0, .int .i64 0, .int .i64 0, .int .i64 0, .int .i64 0]) ?_ 4 _ rfl; (with_reducible repeat (first | refine blk_drewN ?_ _ | refine blk_drew ?_ | refine blk_alloc ?_ _)); refine blk_put (cs := #[.slice none 0 0, .int .i64 0, .int .i64 0, .int .i64 0, .int .i64 0, .int .i64 0]) ?_ 3 _ rfl; (with_reducible repeat (first | refine blk_drewN ?_ _ | refine blk_drew ?_ | refine blk_alloc ?_ _)); refine blk_put (cs := #[.slice none 0 0, .int .i64 0, .int .i64 0, .int .i64 0, .int .i64 0, .int .i64 0]) ?_ 2 _ rfl; (with_reducible repeat (first | refine blk_drewN ?_ _ | refine blk_drew ?_ | refine blk_alloc ?_ _)); refine blk_put (cs := #[.slice none 0 0, .int .i64 0, .int .i64 0, .int .i64 0, .int .i64 0, .int .i64 0]) ?_ 1 _ rfl; (with_reducible repeat (first | refine blk_drewN ?_ _ | refine blk_drew ?_ | refine blk_alloc ?_ _)); refine blk_put (cs := #[.slice none 0 0, .int .i64 0, .int .i64 0, .int .i64 0, .int .i64 0, .int .i64 0]) ?_ 0 _ rfl; (with_reducible repeat (first | refine blk_drewN ?_ _ | refine blk_drew ?_ | refine blk_alloc ?_ _)); exact BK133.out) Try.underlying27 rfl (by kernel_rfl)) rfl ?_
  exact ⟨_, by first | rfl | (simp [errW_none, errW_some] <;> rfl) | (simp [*, errW_none, errW_some] <;> rfl), by first | exact Kd.R_nil _ _ _ _ _ | exact Kd.N_nil _ _ _ _ _ | exact Kd.V_nil _ _ _ _ _ | exact Kd.Q_nil _ _ _ _ _ | exact Kd.S_nil _ _ _ _ _, bA HB.out⟩
def impl_within.f (a0 : Int) (a1 : Int) (a2 : Int) : Option (Bool) := if a0 ≥ a1 then (some (decide (a0 ≤ a2))) else (some false)
set_option maxHeartbeats 8000000 in
set_option maxRecDepth 100000 in
theorem impl_within.calls (a0 : Int) (a1 : Int) (a2 : Int) (r : Bool) (w : World) (h : impl_within.f a0 a1 a2 = some r) :
  Calls Try.prog 50 #[.int .i64 a0, .int .i64 a1, .int .i64 a2] w fun e w' => e = .returned (.bool r) ∧ Drawn0 w w' := by
 have H : (if a0 ≥ a1 then (some (decide (a0 ≤ a2))) else (some false)) = some r := h
 clear h
 by_cases c4 : a0 ≥ a1
 ·rw [if_pos c4] at H
  have c4b0 : decide (a1 ≤ a0) = true := decide_eq_true c4
  clear c4
  obtain rfl := Option.some.inj H
  go_enter Try.func50, Try.ntmps50
  go_wp2
  go_ret
  exact ⟨by first | rfl | (simp; done) | (simp [*]; done), by repeat (first | exact Drawn0.refl _ | apply Drawn0.step)⟩
 ·rw [if_neg c4] at H
  have c4b0 : decide (a1 ≤ a0) = false := decide_eq_false c4
  clear c4
  obtain rfl := Option.some.inj H
  go_enter Try.func50, Try.ntmps50
  go_wp2
  go_ret
  exact ⟨by first | rfl | (simp; done) | (simp [*]; done), by repeat (first | exact Drawn0.refl _ | apply Drawn0.step)⟩
def impl_allWithin.l0 : Nat → Int → Int → List Int → Int → Int → Option (Bool)
 | 0, _, _, _, _, _ => none
 | k + 1, x1, x2, x9, x10, x11 => if x11 < x10 then (if 0 ≤ x11 then (if x11 < (x9.length : Int) then ((impl_within.f (rd x9 x11) x1 x2).bind fun t156 => (if t156 = true then (impl_allWithin.l0 k x1 x2 x9 x10 (wrap64 (x11 + 1))) else (some false))) else (none)) else (none)) else (some true)
def impl_allWithin.f (k : Nat) (l0 : List Int) (a1 : Int) (a2 : Int) : Option (Bool) := impl_allWithin.l0 k a1 a2 l0 (l0.length : Int) 0
theorem impl_allWithin.mono_l : ∀ k, (∀ y0 y1 y2 y3 y4, LeO (impl_allWithin.l0 k y0 y1 y2 y3 y4) (impl_allWithin.l0 (k + 1) y0 y1 y2 y3 y4))
 | 0 => fun _ _ _ _ _ r h => by simp [impl_allWithin.l0] at h
 | k + 1 => by
  have ih0 := impl_allWithin.mono_l k
  ·intro y0 y1 y2 y3 y4
   unfold impl_allWithin.l0
   repeat' first
   | (with_reducible exact ih0 _ _ _ _ _)
   | (with_reducible exact LeO.refl _)
   | (with_reducible exact LeO.none _)
   | (with_reducible refine LeO.ite ?_ ?_)
   | (with_reducible refine LeO.bind ?_ (fun _ => ?_))
   | exact ih0 _ _ _ _ _
   | exact LeO.none _
   | refine LeO.ite ?_ ?_
   | refine LeO.bind ?_ (fun _ => ?_)
theorem impl_allWithin.mono : ∀ a0 a1 a2 k, LeO (impl_allWithin.f k a0 a1 a2) (impl_allWithin.f (k + 1) a0 a1 a2) := by
 intro a0 a1 a2 k
 have ih0 := impl_allWithin.mono_l k
 unfold impl_allWithin.f
 repeat' first
   | (with_reducible exact ih0 _ _ _ _ _)
   | (with_reducible exact LeO.refl _)
   | (with_reducible exact LeO.none _)
   | (with_reducible refine LeO.ite ?_ ?_)
   | (with_reducible refine LeO.bind ?_ (fun _ => ?_))
   | exact ih0 _ _ _ _ _
   | exact LeO.none _
   | refine LeO.ite ?_ ?_
   | refine LeO.bind ?_ (fun _ => ?_)
set_option maxHeartbeats 8000000 in
set_option maxRecDepth 100000 in
theorem impl_allWithin.calls (k : Nat) (A0 : Option Addr) (c0 : Nat) (l0 : List Int) (a1 : Int) (a2 : Int) (r : Bool) (w : World) (hr0 : Kd.C (Kd.int .i64) w A0 l0.length l0) (hc0 : l0.length ≤ c0) (h : impl_allWithin.f k l0 a1 a2 = some r) :
  Calls Try.prog 51 #[.slice A0 l0.length c0, .int .i64 a1, .int .i64 a2] w fun e w' => e = .returned (.bool r) ∧ Drawn0 w w' := by
 have HR0 := Aside0.mk hr0
 have HC0 := Aside0.mk hc0
 clear hr0 hc0
 have H : (impl_allWithin.l0 k a1 a2 l0 (l0.length : Int) 0) = some r := h
 clear h
 have H' := Aside0.mk H
 clear H
 go_enter Try.func51, Try.ntmps51
 go_wp2
 go_loopg [11] k (fun kq v11 w' => ∃ (x11_1 : Int), v11 = .int .i64 x11_1 ∧ Aside0 (impl_allWithin.l0 kq a1 a2 l0 (l0.length : Int) x11_1 = some r) ∧ Aside0 (kq ≤ k) ∧ Drawn0 w w')
 case atStart => exact ⟨(0), (by first | rfl | (simp; done) | (simp [*]; done)), H', ⟨Nat.le_refl _⟩, by repeat (first | exact Drawn0.refl _ | apply Drawn0.step)⟩
 case round =>
  clear H'
  try clear p2
  obtain ⟨x11_1, rfl, HA, HK1, ⟨m1, rfl⟩⟩ := hrel
  cases gk with
  | zero => exact absurd HA.out (by simp [impl_allWithin.l0])
  | succ k1 =>
   have H := HA.out
   clear HA
   simp only [impl_allWithin.l0] at H
   by_cases c4 : x11_1 < (l0.length : Int)
   ·rw [if_pos c4] at H
    have c4b0 : decide (x11_1 < (l0.length : Int)) = true := decide_eq_true c4
    clear c4
    by_cases c5 : 0 ≤ x11_1
    rotate_left
    ·rw [if_neg c5] at H
     exact absurd H (by simp)
    rw [if_pos c5] at H
    have c5b0 : decide (0 ≤ x11_1) = true := decide_eq_true c5
    clear c5
    by_cases c6 : x11_1 < (l0.length : Int)
    rotate_left
    ·rw [if_neg c6] at H
     exact absurd H (by simp)
    rw [if_pos c6] at H
    have c6b0 : decide (x11_1 < (l0.length : Int)) = true := decide_eq_true c6
    clear c6
    obtain ⟨t156, A70, H⟩ := Option.bind_eq_some_iff.mp H
    try dsimp only at H
    have A7 := Aside0.mk A70
    clear A70
    by_cases c8 : t156 = true
    ·subst c8
     rw [if_pos rfl] at H
     try dsimp only at H
     have H' := Aside0.mk H
     clear H
     have p155 : 0 ≤ (x11_1 : Int) := dA
     have q155 : x11_1 < (l0.length : Int) := dA
     obtain ⟨ad155, e155, hx155_0⟩ := Kd.at_int HR0.out x11_1 p155 q155
     cases e155
     replace p155 := eq_true p155
     replace q155 := eq_true q155
     go_wp2_with (first | ((with_reducible refine gate_callee (f := 50) rfl ?_); refine gL (some 18) Try.func50 #[.int .i64 (rd l0 x11_1), .int .i64 a1, .int .i64 a2] ?_; (with_reducible refine (impl_within.calls (rd l0 x11_1) a1 a2 true _ A7.out).mono ?_); rintro e w' ⟨rfl, ⟨nd, rfl⟩⟩; refine ⟨_, rfl, ?_⟩))
     go_roundg k1
     case measure => have := HK1.out; omega
     case rel => exact ⟨(wrap64 (x11_1 + 1)), (by first | rfl | (simp; done) | (simp [*]; done)), H', ⟨by have := HK1.out; omega⟩, by repeat (first | exact Drawn0.refl _ | apply Drawn0.step)⟩
    ·replace c8 := Bool.eq_false_iff.mpr c8
     subst c8
     rw [if_neg (show ¬ (false = true) by decide)] at H
     try dsimp only at H
     obtain rfl := Option.some.inj H
     have p155 : 0 ≤ (x11_1 : Int) := dA
     have q155 : x11_1 < (l0.length : Int) := dA
     obtain ⟨ad155, e155, hx155_0⟩ := Kd.at_int HR0.out x11_1 p155 q155
     cases e155
     replace p155 := eq_true p155
     replace q155 := eq_true q155
     go_wp2_with (first | ((with_reducible refine gate_callee (f := 50) rfl ?_); refine gL (some 18) Try.func50 #[.int .i64 (rd l0 x11_1), .int .i64 a1, .int .i64 a2] ?_; (with_reducible refine (impl_within.calls (rd l0 x11_1) a1 a2 false _ A7.out).mono ?_); rintro e w' ⟨rfl, ⟨nd, rfl⟩⟩; refine ⟨_, rfl, ?_⟩))
     go_ret
     exact ⟨by first | rfl | (simp; done) | (simp [*]; done), by repeat (first | exact Drawn0.refl _ | apply Drawn0.step)⟩
   ·rw [if_neg c4] at H
    have c4b0 : decide (x11_1 < (l0.length : Int)) = false := decide_eq_false c4
    clear c4
    obtain rfl := Option.some.inj H
    go_wp2
    go_ret
    exact ⟨by first | rfl | (simp; done) | (simp [*]; done), by repeat (first | exact Drawn0.refl _ | apply Drawn0.step)⟩
end Go.Proofs.Ytdagljakajpdjaa.QFnExactNextTable
