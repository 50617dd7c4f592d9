import Derived.Test.YtmcobmphmmgdmaaZFnExactFirstRoundx0
import Derived.Test.YtmcobmphmmgdmaaZFnExactFirstRoundx7
import Derived.Test.YtmcobmphmmgdmaaZFnExactFirstRoundx8
import Derived.Test.YtmcobmphmmgdmaaZFnExactFirstRoundx11
namespace Go.Proofs.Ytmcobmphmmgdmaa.QFnExactFirstRound
open Go.RowKit Go.Proofs.YtmcobmphmmgdmaaW.PrintWords Go.Proofs.YtmcobmphmmgdmaaW.PrintLast Go.Proofs.YtmcobmphmmgdmaaW.PrintMore
attribute [local go_sem] max2_int min2_int max_two min_two max_three min_three max_four min_four
set_option linter.unusedVariables false
set_option linter.unusedSimpArgs false
def impl_FirstRound.l0 : Nat → Int → Int → List Int → Int → Int → Int → Int → Int → List Int → List Int → List Int → List Bool → List Bool → Int → Int → Int → Int → Option (List Int × List Int × List Int × List Bool × List Bool × Int × Int × Int × Int × Int)
 | 0, _, _, _, _, _, _, _, _, _, _, _, _, _, _, _, _, _ => none
 | k + 1, x33, x34, x305000, x305001, x305002, x305003, x305004, x305005, x323000, x323001, x323002, x323003, x323004, x323005, x323006, x323007, x323008 => if x34 < x33 then (if 0 ≤ x34 then (if x34 < (x323000.length : Int) then (if x34 < (x323001.length : Int) then (if x34 < (x323002.length : Int) then (impl_FirstRound.l0 k x33 (wrap64 (x34 + 1)) x305000 x305001 x305002 x305003 x305004 x305005 (x323000.set (x34 : Int).toNat (wrap64 ((rd x323000 x34) - (wrap64 ((rd x323001 x34) + (rd x323002 x34)))))) x323001 x323002 x323003 x323004 x323005 x323006 x323007 x323008) else (none)) else (none)) else (none)) else (none)) else ((impl_firstSeat.f x305000 x305001 x305002 x305003 x305004 x305005 0).bind fun t327 => ((impl_turnFrom.f k x323000 x323001 x323002 x323003 x323004 x323005 x323006 x323007 x323008 t327 t327).bind fun t328 => (some (x323000, x323001, x323002, x323003, x323004, t328, x323006, x323007, x323008, 0))))
def impl_FirstRound.f (k : Nat) (l0_0 : List Int) (a0_1 : Int) (a0_2 : Int) (a0_3 : Int) (a0_4 : Int) (a0_5 : Int) : Option (List Int × List Int × List Int × List Bool × List Bool × Int × Int × Int × Int × Int) := (impl_IsTable.f k l0_0 a0_1 a0_2 a0_3 a0_4 a0_5).bind fun t306 => (if t306 = true then ((slices_Clone_int64_int64.f l0_0).bind fun t307 => ((impl_blindsOf.f k l0_0 a0_1 a0_2 a0_3 a0_4 a0_5).bind fun t310 => ((impl_antesOf.f k l0_0 a0_1 a0_2 a0_3 a0_4 a0_5).bind fun t313 => (if 0 ≤ (l0_0.length : Int) then (if ((l0_0.length : Int) : Int).toNat ≤ 281474976710656 then (impl_FirstRound.l0 k (t307.length : Int) 0 l0_0 a0_1 a0_2 a0_3 a0_4 a0_5 t307 t310 t313 (List.replicate ((l0_0.length : Int) : Int).toNat false) (List.replicate ((l0_0.length : Int) : Int).toNat false) 0 a0_3 0 a0_5) else (none)) else (none))))) else (some (([] : List Int), ([] : List Int), ([] : List Int), ([] : List Bool), ([] : List Bool), 0, 0, 0, 0, 1)))
theorem impl_FirstRound.mono_l : ∀ k, (∀ y0 y1 y2 y3 y4 y5 y6 y7 y8 y9 y10 y11 y12 y13 y14 y15 y16, LeO (impl_FirstRound.l0 k y0 y1 y2 y3 y4 y5 y6 y7 y8 y9 y10 y11 y12 y13 y14 y15 y16) (impl_FirstRound.l0 (k + 1) y0 y1 y2 y3 y4 y5 y6 y7 y8 y9 y10 y11 y12 y13 y14 y15 y16))
 | 0 => fun _ _ _ _ _ _ _ _ _ _ _ _ _ _ _ _ _ r h => by simp [impl_FirstRound.l0] at h
 | k + 1 => by
  have ih0 := impl_FirstRound.mono_l k
  ·intro y0 y1 y2 y3 y4 y5 y6 y7 y8 y9 y10 y11 y12 y13 y14 y15 y16
   unfold impl_FirstRound.l0
   repeat' first
   | (with_reducible exact ih0 _ _ _ _ _ _ _ _ _ _ _ _ _ _ _ _ _)
   | (with_reducible exact impl_IsTable.mono _ _ _ _ _ _ _)
   | (with_reducible exact impl_antesOf.mono _ _ _ _ _ _ _)
   | (with_reducible exact impl_blindsOf.mono _ _ _ _ _ _ _)
   | (with_reducible exact impl_turnFrom.mono _ _ _ _ _ _ _ _ _ _ _ _)
   | (with_reducible exact LeO.refl _)
   | (with_reducible exact LeO.none _)
   | (with_reducible refine LeO.ite ?_ ?_)
   | (with_reducible refine LeO.bind ?_ (fun _ => ?_))
   | exact ih0 _ _ _ _ _ _ _ _ _ _ _ _ _ _ _ _ _
   | exact impl_IsTable.mono _ _ _ _ _ _ _
   | exact impl_antesOf.mono _ _ _ _ _ _ _
   | exact impl_blindsOf.mono _ _ _ _ _ _ _
   | exact impl_turnFrom.mono _ _ _ _ _ _ _ _ _ _ _ _
   | exact LeO.none _
   | refine LeO.ite ?_ ?_
   | refine LeO.bind ?_ (fun _ => ?_)
theorem impl_FirstRound.mono : ∀ a0 a1 a2 a3 a4 a5 k, LeO (impl_FirstRound.f k a0 a1 a2 a3 a4 a5) (impl_FirstRound.f (k + 1) a0 a1 a2 a3 a4 a5) := by
 intro a0 a1 a2 a3 a4 a5 k
 have ih0 := impl_FirstRound.mono_l k
 unfold impl_FirstRound.f
 repeat' first
   | (with_reducible exact ih0 _ _ _ _ _ _ _ _ _ _ _ _ _ _ _ _ _)
   | (with_reducible exact impl_IsTable.mono _ _ _ _ _ _ _)
   | (with_reducible exact impl_antesOf.mono _ _ _ _ _ _ _)
   | (with_reducible exact impl_blindsOf.mono _ _ _ _ _ _ _)
   | (with_reducible exact impl_turnFrom.mono _ _ _ _ _ _ _ _ _ _ _ _)
   | (with_reducible exact LeO.refl _)
   | (with_reducible exact LeO.none _)
   | (with_reducible refine LeO.ite ?_ ?_)
   | (with_reducible refine LeO.bind ?_ (fun _ => ?_))
   | exact ih0 _ _ _ _ _ _ _ _ _ _ _ _ _ _ _ _ _
   | exact impl_IsTable.mono _ _ _ _ _ _ _
   | exact impl_antesOf.mono _ _ _ _ _ _ _
   | exact impl_blindsOf.mono _ _ _ _ _ _ _
   | exact impl_turnFrom.mono _ _ _ _ _ _ _ _ _ _ _ _
   | exact LeO.none _
   | refine LeO.ite ?_ ?_
   | refine LeO.bind ?_ (fun _ => ?_)
def impl_FirstRound.T4 : Bool × List (List Nat × List Nat) := (true, [([], []), ([0], [0]), ([1], [1]), ([], []), ([3, 2], [3]), ([], []), ([5, 4], [5]), ([], []), ([7, 7], [7]), ([], []), ([9, 9], [9]), ([], []), ([11], [11]), ([], []), ([13], [13]), ([2, 4, 6, 8, 10, 12, 14], [2, 4, 6, 8, 10, 12, 14]), ([], []), ([16, 15, 6, 0, 1, 2, 3, 4, 5, 6, 7, 8, 9, 10, 11, 12, 13, 14, 15, 16], [15, 16])])
def impl_FirstRound.B4 : List Nat := [0, 1, 3, 0, 15, 0, 63, 0, 128, 0, 512, 0, 2048, 0, 8192, 32767, 0, 131071]
theorem impl_FirstRound.tab4 : rtab .any (opsOf Try.f51 4) = impl_FirstRound.T4 := by kernel_rfl
theorem impl_FirstRound.bits4 : waitsOk impl_FirstRound.T4.2 impl_FirstRound.B4 = true := by kernel_rfl
def impl_FirstRound.T8 : Bool × List (List Nat × List Nat) := (true, [([], []), ([0], [0]), ([], []), ([1, 2], [1, 2]), ([3], [3]), ([], []), ([5], [5]), ([], []), ([6, 7], [6, 7]), ([8], [8]), ([], []), ([10], [10]), ([], []), ([11, 12], [11, 12]), ([13], [13]), ([9, 14], [9, 14]), ([4, 15], [4, 15]), ([1, 2, 0, 1, 2, 3, 4, 5, 6, 7, 8, 9, 10, 11, 12, 13, 14, 15, 16], [1, 2]), ([17, 16, 0, 1, 2, 3, 4, 5, 6, 7, 8, 9, 10, 11, 12, 13, 14, 15, 16], [16, 17])])
def impl_FirstRound.B8 : List Nat := [0, 1, 0, 7, 15, 0, 32, 0, 224, 480, 0, 1024, 0, 7168, 15360, 32736, 65535, 131071, 262143]
theorem impl_FirstRound.tab8 : rtab .any (opsOf Try.f51 8) = impl_FirstRound.T8 := by kernel_rfl
theorem impl_FirstRound.bits8 : waitsOk impl_FirstRound.T8.2 impl_FirstRound.B8 = true := by kernel_rfl
set_option maxHeartbeats 8000000 in
set_option maxRecDepth 100000 in
theorem impl_FirstRound.calls (k : Nat) (A0_0 : Option Addr) (c0_0 : Nat) (l0_0 : List Int) (a0_1 : Int) (a0_2 : Int) (a0_3 : Int) (a0_4 : Int) (a0_5 : Int) (r1 : List Int) (r2 : List Int) (r3 : List Int) (r4 : List Bool) (r5 : List Bool) (r6 : Int) (r7 : Int) (r8 : Int) (r9 : Int) (r10 : Int) (w : World) (hr0_0 : Kd.C (Kd.int .i64) w A0_0 l0_0.length l0_0) (hc0_0 : l0_0.length ≤ c0_0) (h : impl_FirstRound.f k l0_0 a0_1 a0_2 a0_3 a0_4 a0_5 = some (r1, r2, r3, r4, r5, r6, r7, r8, r9, r10)) :
  Calls Try.prog 51 #[.agg #[.slice A0_0 l0_0.length c0_0, .int .i64 a0_1, .int .i64 a0_2, .int .i64 a0_3, .int .i64 a0_4, .int .i64 a0_5]] w fun e w' => ∃ v0_ v1_ v2_ v3_ v4_ : Value, e = .returned (.tuple #[.agg #[v0_, v1_, v2_, v3_, v4_, .int .i64 r6, .int .i64 r7, .int .i64 r8, .int .i64 r9], .int .i64 r10]) ∧ Kd.R (Kd.int .i64) 2 w' w.heap.size (fun k_ => some k_ ≠ (v1_ : Value).ownBlock ∧ some k_ ≠ (v2_ : Value).ownBlock) v0_ r1 ∧ Kd.R (Kd.int .i64) 2 w' w.heap.size (fun k_ => some k_ ≠ (v0_ : Value).ownBlock ∧ some k_ ≠ (v2_ : Value).ownBlock) v1_ r2 ∧ Kd.R (Kd.int .i64) 2 w' w.heap.size (fun k_ => some k_ ≠ (v0_ : Value).ownBlock ∧ some k_ ≠ (v1_ : Value).ownBlock) v2_ r3 ∧ Kd.R Kd.bool 4 w' w.heap.size (fun k_ => some k_ ≠ (v4_ : Value).ownBlock) v3_ r4 ∧ Kd.R Kd.bool 4 w' w.heap.size (fun k_ => some k_ ≠ (v3_ : Value).ownBlock) v4_ r5 ∧ Below w.heap.size w w' := by
 have hu59 := Try.underlying59
 have hu28 := Try.underlying28
 have HR0_0 := Aside0.mk hr0_0
 have HC0_0 := Aside0.mk hc0_0
 clear hr0_0 hc0_0
 have HB := Aside0.mk (Below.refl w.heap.size w)
 have H : ((impl_IsTable.f k l0_0 a0_1 a0_2 a0_3 a0_4 a0_5).bind fun t306 => (if t306 = true then ((slices_Clone_int64_int64.f l0_0).bind fun t307 => ((impl_blindsOf.f k l0_0 a0_1 a0_2 a0_3 a0_4 a0_5).bind fun t310 => ((impl_antesOf.f k l0_0 a0_1 a0_2 a0_3 a0_4 a0_5).bind fun t313 => (if 0 ≤ (l0_0.length : Int) then (if ((l0_0.length : Int) : Int).toNat ≤ 281474976710656 then (impl_FirstRound.l0 k (t307.length : Int) 0 l0_0 a0_1 a0_2 a0_3 a0_4 a0_5 t307 t310 t313 (List.replicate ((l0_0.length : Int) : Int).toNat false) (List.replicate ((l0_0.length : Int) : Int).toNat false) 0 a0_3 0 a0_5) else (none)) else (none))))) else (some (([] : List Int), ([] : List Int), ([] : List Int), ([] : List Bool), ([] : List Bool), 0, 0, 0, 0, 1)))) = some (r1, r2, r3, r4, r5, r6, r7, r8, r9, r10) := h
 clear h
 obtain ⟨t306, A20, H⟩ := Option.bind_eq_some_iff.mp H
 try dsimp only at H
 have A2 := Aside0.mk A20
 clear A20
 by_cases c3 : t306 = true
 ·subst c3
  rw [if_pos rfl] at H
  try dsimp only at H
  obtain ⟨t307, A40, H⟩ := Option.bind_eq_some_iff.mp H
  try dsimp only at H
  have A4 := Aside0.mk A40
  clear A40
  obtain ⟨t310, A50, H⟩ := Option.bind_eq_some_iff.mp H
  try dsimp only at H
  have A5 := Aside0.mk A50
  clear A50
  obtain ⟨t313, A60, H⟩ := Option.bind_eq_some_iff.mp H
  try dsimp only at H
  have A6 := Aside0.mk A60
  clear A60
  by_cases c7 : 0 ≤ (l0_0.length : Int)
  rotate_left
  ·rw [if_neg c7] at H
   exact absurd H (by simp)
  rw [if_pos c7] at H
  have c7b0 := eq_true c7
  have c7b1 : decide (0 ≤ (l0_0.length : Int)) = true := decide_eq_true c7
  clear c7
  by_cases c8 : ((l0_0.length : Int) : Int).toNat ≤ 281474976710656
  rotate_left
  ·rw [if_neg c8] at H
   exact absurd H (by simp)
  rw [if_pos c8] at H
  have c8b0 := eq_true c8
  have c8b1 : decide (((l0_0.length : Int) : Int).toNat ≤ 281474976710656) = true := decide_eq_true c8
  clear c8
  obtain ⟨y316, hy316⟩ : ∃ y_ : List Bool, y_ = (List.replicate ((l0_0.length : Int) : Int).toNat false) := ⟨_, rfl⟩
  replace H : (impl_FirstRound.l0 k (t307.length : Int) 0 l0_0 a0_1 a0_2 a0_3 a0_4 a0_5 t307 t310 t313 y316 (List.replicate ((l0_0.length : Int) : Int).toNat false) 0 a0_3 0 a0_5) = some (r1, r2, r3, r4, r5, r6, r7, r8, r9, r10) := by first | (rw [hy316]; with_reducible exact H) | (have H2_ := (Option.bind_some _ _).symm.trans H; rw [hy316]; with_reducible exact H2_) | (have H2_ := (Option.bind_some _ _).symm.trans H; with_reducible exact H2_) | with_reducible exact H | (rw [hy316]; exact H) | exact H
  have Ny316 := Aside0.mk hy316
  clear hy316
  obtain ⟨y319, hy319⟩ : ∃ y_ : List Bool, y_ = (List.replicate ((l0_0.length : Int) : Int).toNat false) := ⟨_, rfl⟩
  replace H : (impl_FirstRound.l0 k (t307.length : Int) 0 l0_0 a0_1 a0_2 a0_3 a0_4 a0_5 t307 t310 t313 y316 y319 0 a0_3 0 a0_5) = some (r1, r2, r3, r4, r5, r6, r7, r8, r9, r10) := by first | (rw [hy319]; with_reducible exact H) | (have H2_ := (Option.bind_some _ _).symm.trans H; rw [hy319]; with_reducible exact H2_) | (have H2_ := (Option.bind_some _ _).symm.trans H; with_reducible exact H2_) | with_reducible exact H | (rw [hy319]; exact H) | exact H
  have Ny319 := Aside0.mk hy319
  clear hy319
  have H' := Aside0.mk H
  clear H
  go_enter Try.func51, Try.ntmps51
  try go_wp2_with (first | ((with_reducible refine gate_dst (N := 1) rfl ?_); refine bE 1 #[.slice A0_0 l0_0.length c0_0, .int .i64 a0_1, .int .i64 a0_2, .int .i64 a0_3, .int .i64 a0_4, .int .i64 a0_5] 59 ?_; intro gb304 hg w9 hbox hb; have BK304 := Aside0.mk (hbox); have GW304 := Aside0.mk (gE hg (bA HB.out)); have GE304 := Aside0.mk (gE hg (bA HB.out)); replace HB := Aside0.mk (below_step (bA HB.out) hb); clear hb hbox hg) | ((with_reducible refine gate_dst (N := 2) rfl ?_); refine bE 2 #[.slice none 0 0, .slice none 0 0, .slice none 0 0, .slice none 0 0, .slice none 0 0, .int .i64 0, .int .i64 0, .int .i64 0, .int .i64 0] 28 ?_; intro gb305 hg w10 hbox hb; have BK305 := Aside0.mk (hbox); have GW305 := Aside0.mk (gE hg (bA HB.out)); have GE305 := Aside0.mk (gE hg (bA HB.out)); replace HB := Aside0.mk (below_step (bA HB.out) hb); have NB304_305 := Aside0.mk ((by rw [hg]; exact Nat.ne_of_lt (blk_lt (kA BK304.out)) : gb304 ≠ gb305)); have NB305_304 := Aside0.mk ((by rw [hg]; exact Nat.ne_of_gt (blk_lt (kA BK304.out)) : gb305 ≠ gb304)); replace BK304 := Aside0.mk (blk_below (kA BK304.out) hb); clear hb hbox hg; have hnb11 := NB304_305.out; have hnc11 := NB305_304.out; obtain ⟨hcz12_0, hcz12_1, hcz12_2, hcz12_3, hcz12_4, hcz12_5, hfz12_0, hfz12_1, hfz12_2, hfz12_3, hfz12_4, hfz12_5⟩ := cz6 BK304.out) | ((with_reducible refine gate_callee (f := 88) rfl ?_); refine gL (some 9) Try.func88 #[.agg #[.slice A0_0 l0_0.length c0_0, .int .i64 a0_1, .int .i64 a0_2, .int .i64 a0_3, .int .i64 a0_4, .int .i64 a0_5]] ?_; (with_reducible refine (impl_IsTable.calls k _ _ l0_0 a0_1 a0_2 a0_3 a0_4 a0_5 true _ ?side1 ?side2 A2.out).mono ?_); (case side1 => exact cA (Kd.C_below HR0_0.out HB.out)); (case side2 => exact HC0_0.out); rintro e w13 ⟨rfl, hb⟩; refine ⟨_, rfl, ?_⟩; replace BK304 := Aside0.mk (blk_below (kA BK304.out) hb); replace BK305 := Aside0.mk (blk_below (kA BK305.out) hb); replace HB := Aside0.mk (below_step (bA HB.out) hb); (try clear hb); obtain ⟨hcz14_0, hcz14_1, hcz14_2, hcz14_3, hcz14_4, hcz14_5, hfz14_0, hfz14_1, hfz14_2, hfz14_3, hfz14_4, hfz14_5⟩ := cz6 BK304.out))
  replace BK304 := Aside0.mk (blk_drew BK304.out)
  replace BK305 := Aside0.mk (blk_drew BK305.out)
  replace HB := Aside0.mk (below_drew1 HB.out)
  refine start_ (n := 18) (S := fun w' => w'.cell? ⟨gb304, 0, none⟩ = some (.slice A0_0 l0_0.length c0_0) ∧ w'.cell? ⟨gb304, 1, none⟩ = some (.int .i64 a0_1) ∧ w'.cell? ⟨gb304, 2, none⟩ = some (.int .i64 a0_2) ∧ w'.cell? ⟨gb304, 3, none⟩ = some (.int .i64 a0_3) ∧ w'.cell? ⟨gb304, 4, none⟩ = some (.int .i64 a0_4) ∧ w'.cell? ⟨gb304, 5, none⟩ = some (.int .i64 a0_5)) (ds := []) #[false, false, false, false, false, false, false, false, false, false, false, false, false, false, false, false, false, false] (by kernel_rfl) rfl rfl (cy6 BK304.out) (fun hHeld => ?_); refine with_tabW impl_FirstRound.tab4 impl_FirstRound.bits4 (fun HT_ HW_ => ?_)
  generalize w13.drew = w15 at BK304 BK305 HB hHeld ⊢
  refine pI 0 (some 15) #[true, false, false, false, false, false, false, false, false, false, false, false, false, false, false, false, false, false] HT_.out ?_
  refine pI 7 (some 22) #[true, false, false, false, false, false, false, true, false, false, false, false, false, false, false, false, false, false] HT_.out ?_
  refine pI 9 (some 24) #[true, false, false, false, false, false, false, true, false, true, false, false, false, false, false, false, false, false] HT_.out ?_
  refine pI 11 (some 26) #[true, false, false, false, false, false, false, true, false, true, false, true, false, false, false, false, false, false] HT_.out ?_
  refine pI 13 (some 28) #[true, false, false, false, false, false, false, true, false, true, false, true, false, true, false, false, false, false] HT_.out ?_
  refine tI 1 (some 16) #[true, true, false, false, false, false, false, true, false, true, false, true, false, true, false, false, false, false] HT_.out HW_.out hHeld ?_
  refine tI 3 (some 18) #[true, true, false, true, false, false, false, true, false, true, false, true, false, true, false, false, false, false] HT_.out HW_.out hHeld ?_
  refine tI 5 (some 20) #[true, true, false, true, false, true, false, true, false, true, false, true, false, true, false, false, false, false] HT_.out HW_.out hHeld ?_
  refine tI 12 (some 27) #[true, true, false, true, false, true, false, true, false, true, false, true, true, true, false, false, false, false] HT_.out HW_.out hHeld ?_
  refine tI 14 (some 29) #[true, true, false, true, false, true, false, true, false, true, false, true, true, true, true, false, false, false] HT_.out HW_.out hHeld ?_
  refine join_ (σ := Value × Value × Value × Value × Value × Nat) 1 #[true, true, true, true, true, true, true, true, true, true, true, true, true, true, true, true, true, false] (fun s_ => [(17, s_.1), (19, s_.2.1), (21, s_.2.2.1), (23, s_.2.2.2.1), (25, s_.2.2.2.2.1), (5, .pointer (some ⟨s_.2.2.2.2.2, 0, none⟩)), (30, .agg #[s_.1, s_.2.1, s_.2.2.1, s_.2.2.2.1, s_.2.2.2.2.1, .int .i64 0, .int .i64 a0_3, .int .i64 0, .int .i64 a0_5])]) (fun s_ w' => (w'.cell? ⟨gb304, 0, none⟩ = some (.slice A0_0 l0_0.length c0_0) ∧ w'.cell? ⟨gb304, 1, none⟩ = some (.int .i64 a0_1) ∧ w'.cell? ⟨gb304, 2, none⟩ = some (.int .i64 a0_2) ∧ w'.cell? ⟨gb304, 3, none⟩ = some (.int .i64 a0_3) ∧ w'.cell? ⟨gb304, 4, none⟩ = some (.int .i64 a0_4) ∧ w'.cell? ⟨gb304, 5, none⟩ = some (.int .i64 a0_5)) ∧ (Kd.R (Kd.int .i64) 2 w' w.heap.size (fun k_ => some k_ ≠ (s_.2.1 : Value).ownBlock ∧ some k_ ≠ (s_.2.2.1 : Value).ownBlock) s_.1 t307) ∧ (Kd.R (Kd.int .i64) 2 w' w.heap.size (fun k_ => some k_ ≠ (s_.1 : Value).ownBlock ∧ some k_ ≠ (s_.2.2.1 : Value).ownBlock) s_.2.1 t310) ∧ (Kd.R (Kd.int .i64) 2 w' w.heap.size (fun k_ => some k_ ≠ (s_.1 : Value).ownBlock ∧ some k_ ≠ (s_.2.1 : Value).ownBlock) s_.2.2.1 t313) ∧ (Kd.R Kd.bool 4 w' w.heap.size (fun k_ => some k_ ≠ (s_.2.2.2.2.1 : Value).ownBlock) s_.2.2.2.1 y316) ∧ (Kd.R Kd.bool 4 w' w.heap.size (fun k_ => some k_ ≠ (s_.2.2.2.1 : Value).ownBlock) s_.2.2.2.2.1 y319) ∧ (w'.heap[gb304]? = some (.cells #[.slice A0_0 l0_0.length c0_0, .int .i64 a0_1, .int .i64 a0_2, .int .i64 a0_3, .int .i64 a0_4, .int .i64 a0_5] 59 (0, 0))) ∧ (w'.heap[gb305]? = some (.cells #[.slice none 0 0, .slice none 0 0, .slice none 0 0, .slice none 0 0, .slice none 0 0, .int .i64 0, .int .i64 0, .int .i64 0, .int .i64 0] 28 (0, 0))) ∧ (w'.heap[s_.2.2.2.2.2]? = some (.cells #[.slice none 0 0, .slice none 0 0, .slice none 0 0, .slice none 0 0, .slice none 0 0, .int .i64 0, .int .i64 0, .int .i64 0, .int .i64 0] 28 (0, 0))) ∧ (w.heap.size ≤ s_.2.2.2.2.2) ∧ (w.heap.size ≤ s_.2.2.2.2.2) ∧ (gb304 ≠ s_.2.2.2.2.2) ∧ (s_.2.2.2.2.2 ≠ gb304) ∧ (gb305 ≠ s_.2.2.2.2.2) ∧ (s_.2.2.2.2.2 ≠ gb305) ∧ (Below w.heap.size w w')) ?_ ?_
  rotate_left
  ·intro hJ2_4_6_8_10_16
   refine join_ (σ := Value × Value × Value × Value × Value) 2 #[true, true, true, true, true, true, true, true, true, true, true, true, true, true, true, true, false, false] (fun s_ => [(17, s_.1), (19, s_.2.1), (21, s_.2.2.1), (23, s_.2.2.2.1), (25, s_.2.2.2.2), (30, .agg #[s_.1, s_.2.1, s_.2.2.1, s_.2.2.2.1, s_.2.2.2.2, .int .i64 0, .int .i64 a0_3, .int .i64 0, .int .i64 a0_5])]) (fun s_ w' => (w'.cell? ⟨gb304, 0, none⟩ = some (.slice A0_0 l0_0.length c0_0) ∧ w'.cell? ⟨gb304, 1, none⟩ = some (.int .i64 a0_1) ∧ w'.cell? ⟨gb304, 2, none⟩ = some (.int .i64 a0_2) ∧ w'.cell? ⟨gb304, 3, none⟩ = some (.int .i64 a0_3) ∧ w'.cell? ⟨gb304, 4, none⟩ = some (.int .i64 a0_4) ∧ w'.cell? ⟨gb304, 5, none⟩ = some (.int .i64 a0_5)) ∧ (Kd.R (Kd.int .i64) 2 w' w.heap.size (fun k_ => some k_ ≠ (s_.2.1 : Value).ownBlock ∧ some k_ ≠ (s_.2.2.1 : Value).ownBlock) s_.1 t307) ∧ (Kd.R (Kd.int .i64) 2 w' w.heap.size (fun k_ => some k_ ≠ (s_.1 : Value).ownBlock ∧ some k_ ≠ (s_.2.2.1 : Value).ownBlock) s_.2.1 t310) ∧ (Kd.R (Kd.int .i64) 2 w' w.heap.size (fun k_ => some k_ ≠ (s_.1 : Value).ownBlock ∧ some k_ ≠ (s_.2.1 : Value).ownBlock) s_.2.2.1 t313) ∧ (Kd.R Kd.bool 4 w' w.heap.size (fun k_ => some k_ ≠ (s_.2.2.2.2 : Value).ownBlock) s_.2.2.2.1 y316) ∧ (Kd.R Kd.bool 4 w' w.heap.size (fun k_ => some k_ ≠ (s_.2.2.2.1 : Value).ownBlock) s_.2.2.2.2 y319) ∧ (w'.heap[gb304]? = some (.cells #[.slice A0_0 l0_0.length c0_0, .int .i64 a0_1, .int .i64 a0_2, .int .i64 a0_3, .int .i64 a0_4, .int .i64 a0_5] 59 (0, 0))) ∧ (w'.heap[gb305]? = some (.cells #[.slice none 0 0, .slice none 0 0, .slice none 0 0, .slice none 0 0, .slice none 0 0, .int .i64 0, .int .i64 0, .int .i64 0, .int .i64 0] 28 (0, 0))) ∧ (Below w.heap.size w w')) ?_ ?_
   rotate_left
   ·intro hJ2_4_6_8_10
    refine join_ (σ := Value × Value × Value × Value × Nat) 3 #[true, true, true, true, true, true, true, true, true, true, false, true, true, true, true, false, true, false] (fun s_ => [(17, s_.1), (19, s_.2.1), (21, s_.2.2.1), (23, s_.2.2.2.1), (5, .pointer (some ⟨s_.2.2.2.2, 0, none⟩))]) (fun s_ w' => (w'.cell? ⟨gb304, 0, none⟩ = some (.slice A0_0 l0_0.length c0_0) ∧ w'.cell? ⟨gb304, 1, none⟩ = some (.int .i64 a0_1) ∧ w'.cell? ⟨gb304, 2, none⟩ = some (.int .i64 a0_2) ∧ w'.cell? ⟨gb304, 3, none⟩ = some (.int .i64 a0_3) ∧ w'.cell? ⟨gb304, 4, none⟩ = some (.int .i64 a0_4) ∧ w'.cell? ⟨gb304, 5, none⟩ = some (.int .i64 a0_5)) ∧ (Kd.R (Kd.int .i64) 2 w' w.heap.size (fun k_ => some k_ ≠ (s_.2.1 : Value).ownBlock ∧ some k_ ≠ (s_.2.2.1 : Value).ownBlock) s_.1 t307) ∧ (Kd.R (Kd.int .i64) 2 w' w.heap.size (fun k_ => some k_ ≠ (s_.1 : Value).ownBlock ∧ some k_ ≠ (s_.2.2.1 : Value).ownBlock) s_.2.1 t310) ∧ (Kd.R (Kd.int .i64) 2 w' w.heap.size (fun k_ => some k_ ≠ (s_.1 : Value).ownBlock ∧ some k_ ≠ (s_.2.1 : Value).ownBlock) s_.2.2.1 t313) ∧ (Kd.R Kd.bool 4 w' w.heap.size (fun _ => True) s_.2.2.2.1 y316) ∧ (w'.heap[gb304]? = some (.cells #[.slice A0_0 l0_0.length c0_0, .int .i64 a0_1, .int .i64 a0_2, .int .i64 a0_3, .int .i64 a0_4, .int .i64 a0_5] 59 (0, 0))) ∧ (w'.heap[gb305]? = some (.cells #[.slice none 0 0, .slice none 0 0, .slice none 0 0, .slice none 0 0, .slice none 0 0, .int .i64 0, .int .i64 0, .int .i64 0, .int .i64 0] 28 (0, 0))) ∧ (w'.heap[s_.2.2.2.2]? = some (.cells #[.slice none 0 0, .slice none 0 0, .slice none 0 0, .slice none 0 0, .slice none 0 0, .int .i64 0, .int .i64 0, .int .i64 0, .int .i64 0] 28 (0, 0))) ∧ (w.heap.size ≤ s_.2.2.2.2) ∧ (w.heap.size ≤ s_.2.2.2.2) ∧ (gb304 ≠ s_.2.2.2.2) ∧ (s_.2.2.2.2 ≠ gb304) ∧ (gb305 ≠ s_.2.2.2.2) ∧ (s_.2.2.2.2 ≠ gb305) ∧ (Below w.heap.size w w')) ?_ ?_
    rotate_left
    ·intro hJ2_4_6_8_16
     refine join_ (σ := Value × Value × Value × Value × Nat) 3 #[true, true, true, true, true, true, true, true, false, true, true, true, true, true, true, false, true, false] (fun s_ => [(17, s_.1), (19, s_.2.1), (21, s_.2.2.1), (25, s_.2.2.2.1), (5, .pointer (some ⟨s_.2.2.2.2, 0, none⟩))]) (fun s_ w' => (w'.cell? ⟨gb304, 0, none⟩ = some (.slice A0_0 l0_0.length c0_0) ∧ w'.cell? ⟨gb304, 1, none⟩ = some (.int .i64 a0_1) ∧ w'.cell? ⟨gb304, 2, none⟩ = some (.int .i64 a0_2) ∧ w'.cell? ⟨gb304, 3, none⟩ = some (.int .i64 a0_3) ∧ w'.cell? ⟨gb304, 4, none⟩ = some (.int .i64 a0_4) ∧ w'.cell? ⟨gb304, 5, none⟩ = some (.int .i64 a0_5)) ∧ (Kd.R (Kd.int .i64) 2 w' w.heap.size (fun k_ => some k_ ≠ (s_.2.1 : Value).ownBlock ∧ some k_ ≠ (s_.2.2.1 : Value).ownBlock) s_.1 t307) ∧ (Kd.R (Kd.int .i64) 2 w' w.heap.size (fun k_ => some k_ ≠ (s_.1 : Value).ownBlock ∧ some k_ ≠ (s_.2.2.1 : Value).ownBlock) s_.2.1 t310) ∧ (Kd.R (Kd.int .i64) 2 w' w.heap.size (fun k_ => some k_ ≠ (s_.1 : Value).ownBlock ∧ some k_ ≠ (s_.2.1 : Value).ownBlock) s_.2.2.1 t313) ∧ (Kd.R Kd.bool 4 w' w.heap.size (fun _ => True) s_.2.2.2.1 y319) ∧ (w'.heap[gb304]? = some (.cells #[.slice A0_0 l0_0.length c0_0, .int .i64 a0_1, .int .i64 a0_2, .int .i64 a0_3, .int .i64 a0_4, .int .i64 a0_5] 59 (0, 0))) ∧ (w'.heap[gb305]? = some (.cells #[.slice none 0 0, .slice none 0 0, .slice none 0 0, .slice none 0 0, .slice none 0 0, .int .i64 0, .int .i64 0, .int .i64 0, .int .i64 0] 28 (0, 0))) ∧ (w'.heap[s_.2.2.2.2]? = some (.cells #[.slice none 0 0, .slice none 0 0, .slice none 0 0, .slice none 0 0, .slice none 0 0, .int .i64 0, .int .i64 0, .int .i64 0, .int .i64 0] 28 (0, 0))) ∧ (w.heap.size ≤ s_.2.2.2.2) ∧ (w.heap.size ≤ s_.2.2.2.2) ∧ (gb304 ≠ s_.2.2.2.2) ∧ (s_.2.2.2.2 ≠ gb304) ∧ (gb305 ≠ s_.2.2.2.2) ∧ (s_.2.2.2.2 ≠ gb305) ∧ (Below w.heap.size w w')) ?_ ?_
     rotate_left
     ·intro hJ2_4_6_10_16
      refine join_ (σ := Value × Value × Value × Value × Nat) 3 #[true, true, true, true, true, true, false, true, true, true, true, true, true, true, true, false, true, false] (fun s_ => [(17, s_.1), (19, s_.2.1), (23, s_.2.2.1), (25, s_.2.2.2.1), (5, .pointer (some ⟨s_.2.2.2.2, 0, none⟩))]) (fun s_ w' => (w'.cell? ⟨gb304, 0, none⟩ = some (.slice A0_0 l0_0.length c0_0) ∧ w'.cell? ⟨gb304, 1, none⟩ = some (.int .i64 a0_1) ∧ w'.cell? ⟨gb304, 2, none⟩ = some (.int .i64 a0_2) ∧ w'.cell? ⟨gb304, 3, none⟩ = some (.int .i64 a0_3) ∧ w'.cell? ⟨gb304, 4, none⟩ = some (.int .i64 a0_4) ∧ w'.cell? ⟨gb304, 5, none⟩ = some (.int .i64 a0_5)) ∧ (Kd.R (Kd.int .i64) 2 w' w.heap.size (fun k_ => some k_ ≠ (s_.2.1 : Value).ownBlock) s_.1 t307) ∧ (Kd.R (Kd.int .i64) 2 w' w.heap.size (fun k_ => some k_ ≠ (s_.1 : Value).ownBlock) s_.2.1 t310) ∧ (Kd.R Kd.bool 4 w' w.heap.size (fun k_ => some k_ ≠ (s_.2.2.2.1 : Value).ownBlock) s_.2.2.1 y316) ∧ (Kd.R Kd.bool 4 w' w.heap.size (fun k_ => some k_ ≠ (s_.2.2.1 : Value).ownBlock) s_.2.2.2.1 y319) ∧ (w'.heap[gb304]? = some (.cells #[.slice A0_0 l0_0.length c0_0, .int .i64 a0_1, .int .i64 a0_2, .int .i64 a0_3, .int .i64 a0_4, .int .i64 a0_5] 59 (0, 0))) ∧ (w'.heap[gb305]? = some (.cells #[.slice none 0 0, .slice none 0 0, .slice none 0 0, .slice none 0 0, .slice none 0 0, .int .i64 0, .int .i64 0, .int .i64 0, .int .i64 0] 28 (0, 0))) ∧ (w'.heap[s_.2.2.2.2]? = some (.cells #[.slice none 0 0, .slice none 0 0, .slice none 0 0, .slice none 0 0, .slice none 0 0, .int .i64 0, .int .i64 0, .int .i64 0, .int .i64 0] 28 (0, 0))) ∧ (w.heap.size ≤ s_.2.2.2.2) ∧ (w.heap.size ≤ s_.2.2.2.2) ∧ (gb304 ≠ s_.2.2.2.2) ∧ (s_.2.2.2.2 ≠ gb304) ∧ (gb305 ≠ s_.2.2.2.2) ∧ (s_.2.2.2.2 ≠ gb305) ∧ (Below w.heap.size w w')) ?_ ?_
      rotate_left
      ·intro hJ2_4_8_10_16
       refine join_ (σ := Value × Value × Value × Value) 4 #[true, true, true, true, true, true, true, true, true, true, false, true, true, true, true, false, false, false] (fun s_ => [(17, s_.1), (19, s_.2.1), (21, s_.2.2.1), (23, s_.2.2.2)]) (fun s_ w' => (w'.cell? ⟨gb304, 0, none⟩ = some (.slice A0_0 l0_0.length c0_0) ∧ w'.cell? ⟨gb304, 1, none⟩ = some (.int .i64 a0_1) ∧ w'.cell? ⟨gb304, 2, none⟩ = some (.int .i64 a0_2) ∧ w'.cell? ⟨gb304, 3, none⟩ = some (.int .i64 a0_3) ∧ w'.cell? ⟨gb304, 4, none⟩ = some (.int .i64 a0_4) ∧ w'.cell? ⟨gb304, 5, none⟩ = some (.int .i64 a0_5)) ∧ (Kd.R (Kd.int .i64) 2 w' w.heap.size (fun k_ => some k_ ≠ (s_.2.1 : Value).ownBlock ∧ some k_ ≠ (s_.2.2.1 : Value).ownBlock) s_.1 t307) ∧ (Kd.R (Kd.int .i64) 2 w' w.heap.size (fun k_ => some k_ ≠ (s_.1 : Value).ownBlock ∧ some k_ ≠ (s_.2.2.1 : Value).ownBlock) s_.2.1 t310) ∧ (Kd.R (Kd.int .i64) 2 w' w.heap.size (fun k_ => some k_ ≠ (s_.1 : Value).ownBlock ∧ some k_ ≠ (s_.2.1 : Value).ownBlock) s_.2.2.1 t313) ∧ (Kd.R Kd.bool 4 w' w.heap.size (fun _ => True) s_.2.2.2 y316) ∧ (w'.heap[gb304]? = some (.cells #[.slice A0_0 l0_0.length c0_0, .int .i64 a0_1, .int .i64 a0_2, .int .i64 a0_3, .int .i64 a0_4, .int .i64 a0_5] 59 (0, 0))) ∧ (w'.heap[gb305]? = some (.cells #[.slice none 0 0, .slice none 0 0, .slice none 0 0, .slice none 0 0, .slice none 0 0, .int .i64 0, .int .i64 0, .int .i64 0, .int .i64 0] 28 (0, 0))) ∧ (Below w.heap.size w w')) ?_ ?_
       rotate_left
       ·intro hJ2_4_6_8
        refine join_ (σ := Value × Value × Value × Value) 4 #[true, true, true, true, true, true, true, true, false, true, true, true, true, true, true, false, false, false] (fun s_ => [(17, s_.1), (19, s_.2.1), (21, s_.2.2.1), (25, s_.2.2.2)]) (fun s_ w' => (w'.cell? ⟨gb304, 0, none⟩ = some (.slice A0_0 l0_0.length c0_0) ∧ w'.cell? ⟨gb304, 1, none⟩ = some (.int .i64 a0_1) ∧ w'.cell? ⟨gb304, 2, none⟩ = some (.int .i64 a0_2) ∧ w'.cell? ⟨gb304, 3, none⟩ = some (.int .i64 a0_3) ∧ w'.cell? ⟨gb304, 4, none⟩ = some (.int .i64 a0_4) ∧ w'.cell? ⟨gb304, 5, none⟩ = some (.int .i64 a0_5)) ∧ (Kd.R (Kd.int .i64) 2 w' w.heap.size (fun k_ => some k_ ≠ (s_.2.1 : Value).ownBlock ∧ some k_ ≠ (s_.2.2.1 : Value).ownBlock) s_.1 t307) ∧ (Kd.R (Kd.int .i64) 2 w' w.heap.size (fun k_ => some k_ ≠ (s_.1 : Value).ownBlock ∧ some k_ ≠ (s_.2.2.1 : Value).ownBlock) s_.2.1 t310) ∧ (Kd.R (Kd.int .i64) 2 w' w.heap.size (fun k_ => some k_ ≠ (s_.1 : Value).ownBlock ∧ some k_ ≠ (s_.2.1 : Value).ownBlock) s_.2.2.1 t313) ∧ (Kd.R Kd.bool 4 w' w.heap.size (fun _ => True) s_.2.2.2 y319) ∧ (w'.heap[gb304]? = some (.cells #[.slice A0_0 l0_0.length c0_0, .int .i64 a0_1, .int .i64 a0_2, .int .i64 a0_3, .int .i64 a0_4, .int .i64 a0_5] 59 (0, 0))) ∧ (w'.heap[gb305]? = some (.cells #[.slice none 0 0, .slice none 0 0, .slice none 0 0, .slice none 0 0, .slice none 0 0, .int .i64 0, .int .i64 0, .int .i64 0, .int .i64 0] 28 (0, 0))) ∧ (Below w.heap.size w w')) ?_ ?_
        rotate_left
        ·intro hJ2_4_6_10
         refine join_ (σ := Value × Value × Value × Nat) 4 #[true, true, true, true, true, true, true, true, false, true, false, true, true, true, true, false, true, false] (fun s_ => [(17, s_.1), (19, s_.2.1), (21, s_.2.2.1), (5, .pointer (some ⟨s_.2.2.2, 0, none⟩))]) (fun s_ w' => (w'.cell? ⟨gb304, 0, none⟩ = some (.slice A0_0 l0_0.length c0_0) ∧ w'.cell? ⟨gb304, 1, none⟩ = some (.int .i64 a0_1) ∧ w'.cell? ⟨gb304, 2, none⟩ = some (.int .i64 a0_2) ∧ w'.cell? ⟨gb304, 3, none⟩ = some (.int .i64 a0_3) ∧ w'.cell? ⟨gb304, 4, none⟩ = some (.int .i64 a0_4) ∧ w'.cell? ⟨gb304, 5, none⟩ = some (.int .i64 a0_5)) ∧ (Kd.R (Kd.int .i64) 2 w' w.heap.size (fun k_ => some k_ ≠ (s_.2.1 : Value).ownBlock ∧ some k_ ≠ (s_.2.2.1 : Value).ownBlock) s_.1 t307) ∧ (Kd.R (Kd.int .i64) 2 w' w.heap.size (fun k_ => some k_ ≠ (s_.1 : Value).ownBlock ∧ some k_ ≠ (s_.2.2.1 : Value).ownBlock) s_.2.1 t310) ∧ (Kd.R (Kd.int .i64) 2 w' w.heap.size (fun k_ => some k_ ≠ (s_.1 : Value).ownBlock ∧ some k_ ≠ (s_.2.1 : Value).ownBlock) s_.2.2.1 t313) ∧ (w'.heap[gb304]? = some (.cells #[.slice A0_0 l0_0.length c0_0, .int .i64 a0_1, .int .i64 a0_2, .int .i64 a0_3, .int .i64 a0_4, .int .i64 a0_5] 59 (0, 0))) ∧ (w'.heap[gb305]? = some (.cells #[.slice none 0 0, .slice none 0 0, .slice none 0 0, .slice none 0 0, .slice none 0 0, .int .i64 0, .int .i64 0, .int .i64 0, .int .i64 0] 28 (0, 0))) ∧ (w'.heap[s_.2.2.2]? = some (.cells #[.slice none 0 0, .slice none 0 0, .slice none 0 0, .slice none 0 0, .slice none 0 0, .int .i64 0, .int .i64 0, .int .i64 0, .int .i64 0] 28 (0, 0))) ∧ (w.heap.size ≤ s_.2.2.2) ∧ (w.heap.size ≤ s_.2.2.2) ∧ (gb304 ≠ s_.2.2.2) ∧ (s_.2.2.2 ≠ gb304) ∧ (gb305 ≠ s_.2.2.2) ∧ (s_.2.2.2 ≠ gb305) ∧ (Below w.heap.size w w')) ?_ ?_
         rotate_left
         ·intro hJ2_4_6_16
          refine join_ (σ := Value × Value × Value × Value) 4 #[true, true, true, true, true, true, false, true, true, true, true, true, true, true, true, false, false, false] (fun s_ => [(17, s_.1), (19, s_.2.1), (23, s_.2.2.1), (25, s_.2.2.2)]) (fun s_ w' => (w'.cell? ⟨gb304, 0, none⟩ = some (.slice A0_0 l0_0.length c0_0) ∧ w'.cell? ⟨gb304, 1, none⟩ = some (.int .i64 a0_1) ∧ w'.cell? ⟨gb304, 2, none⟩ = some (.int .i64 a0_2) ∧ w'.cell? ⟨gb304, 3, none⟩ = some (.int .i64 a0_3) ∧ w'.cell? ⟨gb304, 4, none⟩ = some (.int .i64 a0_4) ∧ w'.cell? ⟨gb304, 5, none⟩ = some (.int .i64 a0_5)) ∧ (Kd.R (Kd.int .i64) 2 w' w.heap.size (fun k_ => some k_ ≠ (s_.2.1 : Value).ownBlock) s_.1 t307) ∧ (Kd.R (Kd.int .i64) 2 w' w.heap.size (fun k_ => some k_ ≠ (s_.1 : Value).ownBlock) s_.2.1 t310) ∧ (Kd.R Kd.bool 4 w' w.heap.size (fun k_ => some k_ ≠ (s_.2.2.2 : Value).ownBlock) s_.2.2.1 y316) ∧ (Kd.R Kd.bool 4 w' w.heap.size (fun k_ => some k_ ≠ (s_.2.2.1 : Value).ownBlock) s_.2.2.2 y319) ∧ (w'.heap[gb304]? = some (.cells #[.slice A0_0 l0_0.length c0_0, .int .i64 a0_1, .int .i64 a0_2, .int .i64 a0_3, .int .i64 a0_4, .int .i64 a0_5] 59 (0, 0))) ∧ (w'.heap[gb305]? = some (.cells #[.slice none 0 0, .slice none 0 0, .slice none 0 0, .slice none 0 0, .slice none 0 0, .int .i64 0, .int .i64 0, .int .i64 0, .int .i64 0] 28 (0, 0))) ∧ (Below w.heap.size w w')) ?_ ?_
          rotate_left
          ·intro hJ2_4_8_10
           refine join_ (σ := Value × Value × Value × Nat) 4 #[true, true, true, true, true, true, false, true, true, true, false, true, true, true, true, false, true, false] (fun s_ => [(17, s_.1), (19, s_.2.1), (23, s_.2.2.1), (5, .pointer (some ⟨s_.2.2.2, 0, none⟩))]) (fun s_ w' => (w'.cell? ⟨gb304, 0, none⟩ = some (.slice A0_0 l0_0.length c0_0) ∧ w'.cell? ⟨gb304, 1, none⟩ = some (.int .i64 a0_1) ∧ w'.cell? ⟨gb304, 2, none⟩ = some (.int .i64 a0_2) ∧ w'.cell? ⟨gb304, 3, none⟩ = some (.int .i64 a0_3) ∧ w'.cell? ⟨gb304, 4, none⟩ = some (.int .i64 a0_4) ∧ w'.cell? ⟨gb304, 5, none⟩ = some (.int .i64 a0_5)) ∧ (Kd.R (Kd.int .i64) 2 w' w.heap.size (fun k_ => some k_ ≠ (s_.2.1 : Value).ownBlock) s_.1 t307) ∧ (Kd.R (Kd.int .i64) 2 w' w.heap.size (fun k_ => some k_ ≠ (s_.1 : Value).ownBlock) s_.2.1 t310) ∧ (Kd.R Kd.bool 4 w' w.heap.size (fun _ => True) s_.2.2.1 y316) ∧ (w'.heap[gb304]? = some (.cells #[.slice A0_0 l0_0.length c0_0, .int .i64 a0_1, .int .i64 a0_2, .int .i64 a0_3, .int .i64 a0_4, .int .i64 a0_5] 59 (0, 0))) ∧ (w'.heap[gb305]? = some (.cells #[.slice none 0 0, .slice none 0 0, .slice none 0 0, .slice none 0 0, .slice none 0 0, .int .i64 0, .int .i64 0, .int .i64 0, .int .i64 0] 28 (0, 0))) ∧ (w'.heap[s_.2.2.2]? = some (.cells #[.slice none 0 0, .slice none 0 0, .slice none 0 0, .slice none 0 0, .slice none 0 0, .int .i64 0, .int .i64 0, .int .i64 0, .int .i64 0] 28 (0, 0))) ∧ (w.heap.size ≤ s_.2.2.2) ∧ (w.heap.size ≤ s_.2.2.2) ∧ (gb304 ≠ s_.2.2.2) ∧ (s_.2.2.2 ≠ gb304) ∧ (gb305 ≠ s_.2.2.2) ∧ (s_.2.2.2 ≠ gb305) ∧ (Below w.heap.size w w')) ?_ ?_
           rotate_left
           ·intro hJ2_4_8_16
            refine join_ (σ := Value × Value × Value × Nat) 4 #[true, true, true, true, true, true, false, true, false, true, true, true, true, true, true, false, true, false] (fun s_ => [(17, s_.1), (19, s_.2.1), (25, s_.2.2.1), (5, .pointer (some ⟨s_.2.2.2, 0, none⟩))]) (fun s_ w' => (w'.cell? ⟨gb304, 0, none⟩ = some (.slice A0_0 l0_0.length c0_0) ∧ w'.cell? ⟨gb304, 1, none⟩ = some (.int .i64 a0_1) ∧ w'.cell? ⟨gb304, 2, none⟩ = some (.int .i64 a0_2) ∧ w'.cell? ⟨gb304, 3, none⟩ = some (.int .i64 a0_3) ∧ w'.cell? ⟨gb304, 4, none⟩ = some (.int .i64 a0_4) ∧ w'.cell? ⟨gb304, 5, none⟩ = some (.int .i64 a0_5)) ∧ (Kd.R (Kd.int .i64) 2 w' w.heap.size (fun k_ => some k_ ≠ (s_.2.1 : Value).ownBlock) s_.1 t307) ∧ (Kd.R (Kd.int .i64) 2 w' w.heap.size (fun k_ => some k_ ≠ (s_.1 : Value).ownBlock) s_.2.1 t310) ∧ (Kd.R Kd.bool 4 w' w.heap.size (fun _ => True) s_.2.2.1 y319) ∧ (w'.heap[gb304]? = some (.cells #[.slice A0_0 l0_0.length c0_0, .int .i64 a0_1, .int .i64 a0_2, .int .i64 a0_3, .int .i64 a0_4, .int .i64 a0_5] 59 (0, 0))) ∧ (w'.heap[gb305]? = some (.cells #[.slice none 0 0, .slice none 0 0, .slice none 0 0, .slice none 0 0, .slice none 0 0, .int .i64 0, .int .i64 0, .int .i64 0, .int .i64 0] 28 (0, 0))) ∧ (w'.heap[s_.2.2.2]? = some (.cells #[.slice none 0 0, .slice none 0 0, .slice none 0 0, .slice none 0 0, .slice none 0 0, .int .i64 0, .int .i64 0, .int .i64 0, .int .i64 0] 28 (0, 0))) ∧ (w.heap.size ≤ s_.2.2.2) ∧ (w.heap.size ≤ s_.2.2.2) ∧ (gb304 ≠ s_.2.2.2) ∧ (s_.2.2.2 ≠ gb304) ∧ (gb305 ≠ s_.2.2.2) ∧ (s_.2.2.2 ≠ gb305) ∧ (Below w.heap.size w w')) ?_ ?_
            rotate_left
            ·intro hJ2_4_10_16
             refine join_ (σ := Value × Value × Value × Nat) 4 #[true, true, true, true, false, true, false, true, true, true, true, true, true, true, true, false, true, false] (fun s_ => [(17, s_.1), (23, s_.2.1), (25, s_.2.2.1), (5, .pointer (some ⟨s_.2.2.2, 0, none⟩))]) (fun s_ w' => (w'.cell? ⟨gb304, 0, none⟩ = some (.slice A0_0 l0_0.length c0_0) ∧ w'.cell? ⟨gb304, 1, none⟩ = some (.int .i64 a0_1) ∧ w'.cell? ⟨gb304, 2, none⟩ = some (.int .i64 a0_2) ∧ w'.cell? ⟨gb304, 3, none⟩ = some (.int .i64 a0_3) ∧ w'.cell? ⟨gb304, 4, none⟩ = some (.int .i64 a0_4) ∧ w'.cell? ⟨gb304, 5, none⟩ = some (.int .i64 a0_5)) ∧ (Kd.R (Kd.int .i64) 2 w' w.heap.size (fun _ => True) s_.1 t307) ∧ (Kd.R Kd.bool 4 w' w.heap.size (fun k_ => some k_ ≠ (s_.2.2.1 : Value).ownBlock) s_.2.1 y316) ∧ (Kd.R Kd.bool 4 w' w.heap.size (fun k_ => some k_ ≠ (s_.2.1 : Value).ownBlock) s_.2.2.1 y319) ∧ (w'.heap[gb304]? = some (.cells #[.slice A0_0 l0_0.length c0_0, .int .i64 a0_1, .int .i64 a0_2, .int .i64 a0_3, .int .i64 a0_4, .int .i64 a0_5] 59 (0, 0))) ∧ (w'.heap[gb305]? = some (.cells #[.slice none 0 0, .slice none 0 0, .slice none 0 0, .slice none 0 0, .slice none 0 0, .int .i64 0, .int .i64 0, .int .i64 0, .int .i64 0] 28 (0, 0))) ∧ (w'.heap[s_.2.2.2]? = some (.cells #[.slice none 0 0, .slice none 0 0, .slice none 0 0, .slice none 0 0, .slice none 0 0, .int .i64 0, .int .i64 0, .int .i64 0, .int .i64 0] 28 (0, 0))) ∧ (w.heap.size ≤ s_.2.2.2) ∧ (w.heap.size ≤ s_.2.2.2) ∧ (gb304 ≠ s_.2.2.2) ∧ (s_.2.2.2 ≠ gb304) ∧ (gb305 ≠ s_.2.2.2) ∧ (s_.2.2.2 ≠ gb305) ∧ (Below w.heap.size w w')) ?_ ?_
             rotate_left
             ·intro hJ2_8_10_16
              refine join_ (σ := Value × Value × Value) 5 #[true, true, true, true, true, true, true, true, false, true, false, true, true, true, true, false, false, false] (fun s_ => [(17, s_.1), (19, s_.2.1), (21, s_.2.2)]) (fun s_ w' => (w'.cell? ⟨gb304, 0, none⟩ = some (.slice A0_0 l0_0.length c0_0) ∧ w'.cell? ⟨gb304, 1, none⟩ = some (.int .i64 a0_1) ∧ w'.cell? ⟨gb304, 2, none⟩ = some (.int .i64 a0_2) ∧ w'.cell? ⟨gb304, 3, none⟩ = some (.int .i64 a0_3) ∧ w'.cell? ⟨gb304, 4, none⟩ = some (.int .i64 a0_4) ∧ w'.cell? ⟨gb304, 5, none⟩ = some (.int .i64 a0_5)) ∧ (Kd.R (Kd.int .i64) 2 w' w.heap.size (fun k_ => some k_ ≠ (s_.2.1 : Value).ownBlock ∧ some k_ ≠ (s_.2.2 : Value).ownBlock) s_.1 t307) ∧ (Kd.R (Kd.int .i64) 2 w' w.heap.size (fun k_ => some k_ ≠ (s_.1 : Value).ownBlock ∧ some k_ ≠ (s_.2.2 : Value).ownBlock) s_.2.1 t310) ∧ (Kd.R (Kd.int .i64) 2 w' w.heap.size (fun k_ => some k_ ≠ (s_.1 : Value).ownBlock ∧ some k_ ≠ (s_.2.1 : Value).ownBlock) s_.2.2 t313) ∧ (w'.heap[gb304]? = some (.cells #[.slice A0_0 l0_0.length c0_0, .int .i64 a0_1, .int .i64 a0_2, .int .i64 a0_3, .int .i64 a0_4, .int .i64 a0_5] 59 (0, 0))) ∧ (w'.heap[gb305]? = some (.cells #[.slice none 0 0, .slice none 0 0, .slice none 0 0, .slice none 0 0, .slice none 0 0, .int .i64 0, .int .i64 0, .int .i64 0, .int .i64 0] 28 (0, 0))) ∧ (Below w.heap.size w w')) ?_ ?_
              rotate_left
              ·intro hJ2_4_6
               refine join_ (σ := Value × Value × Value) 5 #[true, true, true, true, true, true, false, true, true, true, false, true, true, true, true, false, false, false] (fun s_ => [(17, s_.1), (19, s_.2.1), (23, s_.2.2)]) (fun s_ w' => (w'.cell? ⟨gb304, 0, none⟩ = some (.slice A0_0 l0_0.length c0_0) ∧ w'.cell? ⟨gb304, 1, none⟩ = some (.int .i64 a0_1) ∧ w'.cell? ⟨gb304, 2, none⟩ = some (.int .i64 a0_2) ∧ w'.cell? ⟨gb304, 3, none⟩ = some (.int .i64 a0_3) ∧ w'.cell? ⟨gb304, 4, none⟩ = some (.int .i64 a0_4) ∧ w'.cell? ⟨gb304, 5, none⟩ = some (.int .i64 a0_5)) ∧ (Kd.R (Kd.int .i64) 2 w' w.heap.size (fun k_ => some k_ ≠ (s_.2.1 : Value).ownBlock) s_.1 t307) ∧ (Kd.R (Kd.int .i64) 2 w' w.heap.size (fun k_ => some k_ ≠ (s_.1 : Value).ownBlock) s_.2.1 t310) ∧ (Kd.R Kd.bool 4 w' w.heap.size (fun _ => True) s_.2.2 y316) ∧ (w'.heap[gb304]? = some (.cells #[.slice A0_0 l0_0.length c0_0, .int .i64 a0_1, .int .i64 a0_2, .int .i64 a0_3, .int .i64 a0_4, .int .i64 a0_5] 59 (0, 0))) ∧ (w'.heap[gb305]? = some (.cells #[.slice none 0 0, .slice none 0 0, .slice none 0 0, .slice none 0 0, .slice none 0 0, .int .i64 0, .int .i64 0, .int .i64 0, .int .i64 0] 28 (0, 0))) ∧ (Below w.heap.size w w')) ?_ ?_
               rotate_left
               ·intro hJ2_4_8
                refine join_ (σ := Value × Value × Value) 5 #[true, true, true, true, true, true, false, true, false, true, true, true, true, true, true, false, false, false] (fun s_ => [(17, s_.1), (19, s_.2.1), (25, s_.2.2)]) (fun s_ w' => (w'.cell? ⟨gb304, 0, none⟩ = some (.slice A0_0 l0_0.length c0_0) ∧ w'.cell? ⟨gb304, 1, none⟩ = some (.int .i64 a0_1) ∧ w'.cell? ⟨gb304, 2, none⟩ = some (.int .i64 a0_2) ∧ w'.cell? ⟨gb304, 3, none⟩ = some (.int .i64 a0_3) ∧ w'.cell? ⟨gb304, 4, none⟩ = some (.int .i64 a0_4) ∧ w'.cell? ⟨gb304, 5, none⟩ = some (.int .i64 a0_5)) ∧ (Kd.R (Kd.int .i64) 2 w' w.heap.size (fun k_ => some k_ ≠ (s_.2.1 : Value).ownBlock) s_.1 t307) ∧ (Kd.R (Kd.int .i64) 2 w' w.heap.size (fun k_ => some k_ ≠ (s_.1 : Value).ownBlock) s_.2.1 t310) ∧ (Kd.R Kd.bool 4 w' w.heap.size (fun _ => True) s_.2.2 y319) ∧ (w'.heap[gb304]? = some (.cells #[.slice A0_0 l0_0.length c0_0, .int .i64 a0_1, .int .i64 a0_2, .int .i64 a0_3, .int .i64 a0_4, .int .i64 a0_5] 59 (0, 0))) ∧ (w'.heap[gb305]? = some (.cells #[.slice none 0 0, .slice none 0 0, .slice none 0 0, .slice none 0 0, .slice none 0 0, .int .i64 0, .int .i64 0, .int .i64 0, .int .i64 0] 28 (0, 0))) ∧ (Below w.heap.size w w')) ?_ ?_
                rotate_left
                ·intro hJ2_4_10
                 refine join_ (σ := Value × Value × Nat) 5 #[true, true, true, true, true, true, false, true, false, true, false, true, true, true, true, false, true, false] (fun s_ => [(17, s_.1), (19, s_.2.1), (5, .pointer (some ⟨s_.2.2, 0, none⟩))]) (fun s_ w' => (w'.cell? ⟨gb304, 0, none⟩ = some (.slice A0_0 l0_0.length c0_0) ∧ w'.cell? ⟨gb304, 1, none⟩ = some (.int .i64 a0_1) ∧ w'.cell? ⟨gb304, 2, none⟩ = some (.int .i64 a0_2) ∧ w'.cell? ⟨gb304, 3, none⟩ = some (.int .i64 a0_3) ∧ w'.cell? ⟨gb304, 4, none⟩ = some (.int .i64 a0_4) ∧ w'.cell? ⟨gb304, 5, none⟩ = some (.int .i64 a0_5)) ∧ (Kd.R (Kd.int .i64) 2 w' w.heap.size (fun k_ => some k_ ≠ (s_.2.1 : Value).ownBlock) s_.1 t307) ∧ (Kd.R (Kd.int .i64) 2 w' w.heap.size (fun k_ => some k_ ≠ (s_.1 : Value).ownBlock) s_.2.1 t310) ∧ (w'.heap[gb304]? = some (.cells #[.slice A0_0 l0_0.length c0_0, .int .i64 a0_1, .int .i64 a0_2, .int .i64 a0_3, .int .i64 a0_4, .int .i64 a0_5] 59 (0, 0))) ∧ (w'.heap[gb305]? = some (.cells #[.slice none 0 0, .slice none 0 0, .slice none 0 0, .slice none 0 0, .slice none 0 0, .int .i64 0, .int .i64 0, .int .i64 0, .int .i64 0] 28 (0, 0))) ∧ (w'.heap[s_.2.2]? = some (.cells #[.slice none 0 0, .slice none 0 0, .slice none 0 0, .slice none 0 0, .slice none 0 0, .int .i64 0, .int .i64 0, .int .i64 0, .int .i64 0] 28 (0, 0))) ∧ (w.heap.size ≤ s_.2.2) ∧ (w.heap.size ≤ s_.2.2) ∧ (gb304 ≠ s_.2.2) ∧ (s_.2.2 ≠ gb304) ∧ (gb305 ≠ s_.2.2) ∧ (s_.2.2 ≠ gb305) ∧ (Below w.heap.size w w')) ?_ ?_
                 rotate_left
                 ·intro hJ2_4_16
                  refine join_ (σ := Value × Value × Value) 5 #[true, true, true, true, false, true, false, true, true, true, true, true, true, true, true, false, false, false] (fun s_ => [(17, s_.1), (23, s_.2.1), (25, s_.2.2)]) (fun s_ w' => (w'.cell? ⟨gb304, 0, none⟩ = some (.slice A0_0 l0_0.length c0_0) ∧ w'.cell? ⟨gb304, 1, none⟩ = some (.int .i64 a0_1) ∧ w'.cell? ⟨gb304, 2, none⟩ = some (.int .i64 a0_2) ∧ w'.cell? ⟨gb304, 3, none⟩ = some (.int .i64 a0_3) ∧ w'.cell? ⟨gb304, 4, none⟩ = some (.int .i64 a0_4) ∧ w'.cell? ⟨gb304, 5, none⟩ = some (.int .i64 a0_5)) ∧ (Kd.R (Kd.int .i64) 2 w' w.heap.size (fun _ => True) s_.1 t307) ∧ (Kd.R Kd.bool 4 w' w.heap.size (fun k_ => some k_ ≠ (s_.2.2 : Value).ownBlock) s_.2.1 y316) ∧ (Kd.R Kd.bool 4 w' w.heap.size (fun k_ => some k_ ≠ (s_.2.1 : Value).ownBlock) s_.2.2 y319) ∧ (w'.heap[gb304]? = some (.cells #[.slice A0_0 l0_0.length c0_0, .int .i64 a0_1, .int .i64 a0_2, .int .i64 a0_3, .int .i64 a0_4, .int .i64 a0_5] 59 (0, 0))) ∧ (w'.heap[gb305]? = some (.cells #[.slice none 0 0, .slice none 0 0, .slice none 0 0, .slice none 0 0, .slice none 0 0, .int .i64 0, .int .i64 0, .int .i64 0, .int .i64 0] 28 (0, 0))) ∧ (Below w.heap.size w w')) ?_ ?_
                  rotate_left
                  ·intro hJ2_8_10
                   refine join_ (σ := Value × Value × Nat) 5 #[true, true, true, true, false, true, false, true, true, true, false, true, true, true, true, false, true, false] (fun s_ => [(17, s_.1), (23, s_.2.1), (5, .pointer (some ⟨s_.2.2, 0, none⟩))]) (fun s_ w' => (w'.cell? ⟨gb304, 0, none⟩ = some (.slice A0_0 l0_0.length c0_0) ∧ w'.cell? ⟨gb304, 1, none⟩ = some (.int .i64 a0_1) ∧ w'.cell? ⟨gb304, 2, none⟩ = some (.int .i64 a0_2) ∧ w'.cell? ⟨gb304, 3, none⟩ = some (.int .i64 a0_3) ∧ w'.cell? ⟨gb304, 4, none⟩ = some (.int .i64 a0_4) ∧ w'.cell? ⟨gb304, 5, none⟩ = some (.int .i64 a0_5)) ∧ (Kd.R (Kd.int .i64) 2 w' w.heap.size (fun _ => True) s_.1 t307) ∧ (Kd.R Kd.bool 4 w' w.heap.size (fun _ => True) s_.2.1 y316) ∧ (w'.heap[gb304]? = some (.cells #[.slice A0_0 l0_0.length c0_0, .int .i64 a0_1, .int .i64 a0_2, .int .i64 a0_3, .int .i64 a0_4, .int .i64 a0_5] 59 (0, 0))) ∧ (w'.heap[gb305]? = some (.cells #[.slice none 0 0, .slice none 0 0, .slice none 0 0, .slice none 0 0, .slice none 0 0, .int .i64 0, .int .i64 0, .int .i64 0, .int .i64 0] 28 (0, 0))) ∧ (w'.heap[s_.2.2]? = some (.cells #[.slice none 0 0, .slice none 0 0, .slice none 0 0, .slice none 0 0, .slice none 0 0, .int .i64 0, .int .i64 0, .int .i64 0, .int .i64 0] 28 (0, 0))) ∧ (w.heap.size ≤ s_.2.2) ∧ (w.heap.size ≤ s_.2.2) ∧ (gb304 ≠ s_.2.2) ∧ (s_.2.2 ≠ gb304) ∧ (gb305 ≠ s_.2.2) ∧ (s_.2.2 ≠ gb305) ∧ (Below w.heap.size w w')) ?_ ?_
                   rotate_left
                   ·intro hJ2_8_16
                    refine join_ (σ := Value × Value × Nat) 5 #[true, true, true, true, false, true, false, true, false, true, true, true, true, true, true, false, true, false] (fun s_ => [(17, s_.1), (25, s_.2.1), (5, .pointer (some ⟨s_.2.2, 0, none⟩))]) (fun s_ w' => (w'.cell? ⟨gb304, 0, none⟩ = some (.slice A0_0 l0_0.length c0_0) ∧ w'.cell? ⟨gb304, 1, none⟩ = some (.int .i64 a0_1) ∧ w'.cell? ⟨gb304, 2, none⟩ = some (.int .i64 a0_2) ∧ w'.cell? ⟨gb304, 3, none⟩ = some (.int .i64 a0_3) ∧ w'.cell? ⟨gb304, 4, none⟩ = some (.int .i64 a0_4) ∧ w'.cell? ⟨gb304, 5, none⟩ = some (.int .i64 a0_5)) ∧ (Kd.R (Kd.int .i64) 2 w' w.heap.size (fun _ => True) s_.1 t307) ∧ (Kd.R Kd.bool 4 w' w.heap.size (fun _ => True) s_.2.1 y319) ∧ (w'.heap[gb304]? = some (.cells #[.slice A0_0 l0_0.length c0_0, .int .i64 a0_1, .int .i64 a0_2, .int .i64 a0_3, .int .i64 a0_4, .int .i64 a0_5] 59 (0, 0))) ∧ (w'.heap[gb305]? = some (.cells #[.slice none 0 0, .slice none 0 0, .slice none 0 0, .slice none 0 0, .slice none 0 0, .int .i64 0, .int .i64 0, .int .i64 0, .int .i64 0] 28 (0, 0))) ∧ (w'.heap[s_.2.2]? = some (.cells #[.slice none 0 0, .slice none 0 0, .slice none 0 0, .slice none 0 0, .slice none 0 0, .int .i64 0, .int .i64 0, .int .i64 0, .int .i64 0] 28 (0, 0))) ∧ (w.heap.size ≤ s_.2.2) ∧ (w.heap.size ≤ s_.2.2) ∧ (gb304 ≠ s_.2.2) ∧ (s_.2.2 ≠ gb304) ∧ (gb305 ≠ s_.2.2) ∧ (s_.2.2 ≠ gb305) ∧ (Below w.heap.size w w')) ?_ ?_
                    rotate_left
                    ·intro hJ2_10_16
                     refine join_ (σ := Value × Value × Nat) 5 #[true, true, false, true, false, true, false, true, true, true, true, true, true, true, true, false, true, false] (fun s_ => [(23, s_.1), (25, s_.2.1), (5, .pointer (some ⟨s_.2.2, 0, none⟩))]) (fun s_ w' => (w'.cell? ⟨gb304, 0, none⟩ = some (.slice A0_0 l0_0.length c0_0) ∧ w'.cell? ⟨gb304, 1, none⟩ = some (.int .i64 a0_1) ∧ w'.cell? ⟨gb304, 2, none⟩ = some (.int .i64 a0_2) ∧ w'.cell? ⟨gb304, 3, none⟩ = some (.int .i64 a0_3) ∧ w'.cell? ⟨gb304, 4, none⟩ = some (.int .i64 a0_4) ∧ w'.cell? ⟨gb304, 5, none⟩ = some (.int .i64 a0_5)) ∧ (Kd.R Kd.bool 4 w' w.heap.size (fun k_ => some k_ ≠ (s_.2.1 : Value).ownBlock) s_.1 y316) ∧ (Kd.R Kd.bool 4 w' w.heap.size (fun k_ => some k_ ≠ (s_.1 : Value).ownBlock) s_.2.1 y319) ∧ (w'.heap[gb304]? = some (.cells #[.slice A0_0 l0_0.length c0_0, .int .i64 a0_1, .int .i64 a0_2, .int .i64 a0_3, .int .i64 a0_4, .int .i64 a0_5] 59 (0, 0))) ∧ (w'.heap[gb305]? = some (.cells #[.slice none 0 0, .slice none 0 0, .slice none 0 0, .slice none 0 0, .slice none 0 0, .int .i64 0, .int .i64 0, .int .i64 0, .int .i64 0] 28 (0, 0))) ∧ (w'.heap[s_.2.2]? = some (.cells #[.slice none 0 0, .slice none 0 0, .slice none 0 0, .slice none 0 0, .slice none 0 0, .int .i64 0, .int .i64 0, .int .i64 0, .int .i64 0] 28 (0, 0))) ∧ (w.heap.size ≤ s_.2.2) ∧ (w.heap.size ≤ s_.2.2) ∧ (gb304 ≠ s_.2.2) ∧ (s_.2.2 ≠ gb304) ∧ (gb305 ≠ s_.2.2) ∧ (s_.2.2 ≠ gb305) ∧ (Below w.heap.size w w')) ?_ ?_
                     rotate_left
                     ·intro hJ8_10_16
                      refine join_ (σ := Value × Value) 6 #[true, true, true, true, true, true, false, true, false, true, false, true, true, true, true, false, false, false] (fun s_ => [(17, s_.1), (19, s_.2)]) (fun s_ w' => (w'.cell? ⟨gb304, 0, none⟩ = some (.slice A0_0 l0_0.length c0_0) ∧ w'.cell? ⟨gb304, 1, none⟩ = some (.int .i64 a0_1) ∧ w'.cell? ⟨gb304, 2, none⟩ = some (.int .i64 a0_2) ∧ w'.cell? ⟨gb304, 3, none⟩ = some (.int .i64 a0_3) ∧ w'.cell? ⟨gb304, 4, none⟩ = some (.int .i64 a0_4) ∧ w'.cell? ⟨gb304, 5, none⟩ = some (.int .i64 a0_5)) ∧ (Kd.R (Kd.int .i64) 2 w' w.heap.size (fun k_ => some k_ ≠ (s_.2 : Value).ownBlock) s_.1 t307) ∧ (Kd.R (Kd.int .i64) 2 w' w.heap.size (fun k_ => some k_ ≠ (s_.1 : Value).ownBlock) s_.2 t310) ∧ (w'.heap[gb304]? = some (.cells #[.slice A0_0 l0_0.length c0_0, .int .i64 a0_1, .int .i64 a0_2, .int .i64 a0_3, .int .i64 a0_4, .int .i64 a0_5] 59 (0, 0))) ∧ (w'.heap[gb305]? = some (.cells #[.slice none 0 0, .slice none 0 0, .slice none 0 0, .slice none 0 0, .slice none 0 0, .int .i64 0, .int .i64 0, .int .i64 0, .int .i64 0] 28 (0, 0))) ∧ (Below w.heap.size w w')) ?_ ?_
                      rotate_left
                      ·intro hJ2_4
                       refine join_ (σ := Value × Value) 6 #[true, true, true, true, false, true, false, true, true, true, false, true, true, true, true, false, false, false] (fun s_ => [(17, s_.1), (23, s_.2)]) (fun s_ w' => (w'.cell? ⟨gb304, 0, none⟩ = some (.slice A0_0 l0_0.length c0_0) ∧ w'.cell? ⟨gb304, 1, none⟩ = some (.int .i64 a0_1) ∧ w'.cell? ⟨gb304, 2, none⟩ = some (.int .i64 a0_2) ∧ w'.cell? ⟨gb304, 3, none⟩ = some (.int .i64 a0_3) ∧ w'.cell? ⟨gb304, 4, none⟩ = some (.int .i64 a0_4) ∧ w'.cell? ⟨gb304, 5, none⟩ = some (.int .i64 a0_5)) ∧ (Kd.R (Kd.int .i64) 2 w' w.heap.size (fun _ => True) s_.1 t307) ∧ (Kd.R Kd.bool 4 w' w.heap.size (fun _ => True) s_.2 y316) ∧ (w'.heap[gb304]? = some (.cells #[.slice A0_0 l0_0.length c0_0, .int .i64 a0_1, .int .i64 a0_2, .int .i64 a0_3, .int .i64 a0_4, .int .i64 a0_5] 59 (0, 0))) ∧ (w'.heap[gb305]? = some (.cells #[.slice none 0 0, .slice none 0 0, .slice none 0 0, .slice none 0 0, .slice none 0 0, .int .i64 0, .int .i64 0, .int .i64 0, .int .i64 0] 28 (0, 0))) ∧ (Below w.heap.size w w')) ?_ ?_
                       rotate_left
                       ·intro hJ2_8
                        refine join_ (σ := Value × Value) 6 #[true, true, true, true, false, true, false, true, false, true, true, true, true, true, true, false, false, false] (fun s_ => [(17, s_.1), (25, s_.2)]) (fun s_ w' => (w'.cell? ⟨gb304, 0, none⟩ = some (.slice A0_0 l0_0.length c0_0) ∧ w'.cell? ⟨gb304, 1, none⟩ = some (.int .i64 a0_1) ∧ w'.cell? ⟨gb304, 2, none⟩ = some (.int .i64 a0_2) ∧ w'.cell? ⟨gb304, 3, none⟩ = some (.int .i64 a0_3) ∧ w'.cell? ⟨gb304, 4, none⟩ = some (.int .i64 a0_4) ∧ w'.cell? ⟨gb304, 5, none⟩ = some (.int .i64 a0_5)) ∧ (Kd.R (Kd.int .i64) 2 w' w.heap.size (fun _ => True) s_.1 t307) ∧ (Kd.R Kd.bool 4 w' w.heap.size (fun _ => True) s_.2 y319) ∧ (w'.heap[gb304]? = some (.cells #[.slice A0_0 l0_0.length c0_0, .int .i64 a0_1, .int .i64 a0_2, .int .i64 a0_3, .int .i64 a0_4, .int .i64 a0_5] 59 (0, 0))) ∧ (w'.heap[gb305]? = some (.cells #[.slice none 0 0, .slice none 0 0, .slice none 0 0, .slice none 0 0, .slice none 0 0, .int .i64 0, .int .i64 0, .int .i64 0, .int .i64 0] 28 (0, 0))) ∧ (Below w.heap.size w w')) ?_ ?_
                        rotate_left
                        ·intro hJ2_10
                         refine join_ (σ := Value × Nat) 6 #[true, true, true, true, false, true, false, true, false, true, false, true, true, true, true, false, true, false] (fun s_ => [(17, s_.1), (5, .pointer (some ⟨s_.2, 0, none⟩))]) (fun s_ w' => (w'.cell? ⟨gb304, 0, none⟩ = some (.slice A0_0 l0_0.length c0_0) ∧ w'.cell? ⟨gb304, 1, none⟩ = some (.int .i64 a0_1) ∧ w'.cell? ⟨gb304, 2, none⟩ = some (.int .i64 a0_2) ∧ w'.cell? ⟨gb304, 3, none⟩ = some (.int .i64 a0_3) ∧ w'.cell? ⟨gb304, 4, none⟩ = some (.int .i64 a0_4) ∧ w'.cell? ⟨gb304, 5, none⟩ = some (.int .i64 a0_5)) ∧ (Kd.R (Kd.int .i64) 2 w' w.heap.size (fun _ => True) s_.1 t307) ∧ (w'.heap[gb304]? = some (.cells #[.slice A0_0 l0_0.length c0_0, .int .i64 a0_1, .int .i64 a0_2, .int .i64 a0_3, .int .i64 a0_4, .int .i64 a0_5] 59 (0, 0))) ∧ (w'.heap[gb305]? = some (.cells #[.slice none 0 0, .slice none 0 0, .slice none 0 0, .slice none 0 0, .slice none 0 0, .int .i64 0, .int .i64 0, .int .i64 0, .int .i64 0] 28 (0, 0))) ∧ (w'.heap[s_.2]? = some (.cells #[.slice none 0 0, .slice none 0 0, .slice none 0 0, .slice none 0 0, .slice none 0 0, .int .i64 0, .int .i64 0, .int .i64 0, .int .i64 0] 28 (0, 0))) ∧ (w.heap.size ≤ s_.2) ∧ (w.heap.size ≤ s_.2) ∧ (gb304 ≠ s_.2) ∧ (s_.2 ≠ gb304) ∧ (gb305 ≠ s_.2) ∧ (s_.2 ≠ gb305) ∧ (Below w.heap.size w w')) ?_ ?_
                         rotate_left
                         ·intro hJ2_16
                          refine join_ (σ := Value × Value) 6 #[true, true, false, true, false, true, false, true, true, true, true, true, true, true, true, false, false, false] (fun s_ => [(23, s_.1), (25, s_.2)]) (fun s_ w' => (w'.cell? ⟨gb304, 0, none⟩ = some (.slice A0_0 l0_0.length c0_0) ∧ w'.cell? ⟨gb304, 1, none⟩ = some (.int .i64 a0_1) ∧ w'.cell? ⟨gb304, 2, none⟩ = some (.int .i64 a0_2) ∧ w'.cell? ⟨gb304, 3, none⟩ = some (.int .i64 a0_3) ∧ w'.cell? ⟨gb304, 4, none⟩ = some (.int .i64 a0_4) ∧ w'.cell? ⟨gb304, 5, none⟩ = some (.int .i64 a0_5)) ∧ (Kd.R Kd.bool 4 w' w.heap.size (fun k_ => some k_ ≠ (s_.2 : Value).ownBlock) s_.1 y316) ∧ (Kd.R Kd.bool 4 w' w.heap.size (fun k_ => some k_ ≠ (s_.1 : Value).ownBlock) s_.2 y319) ∧ (w'.heap[gb304]? = some (.cells #[.slice A0_0 l0_0.length c0_0, .int .i64 a0_1, .int .i64 a0_2, .int .i64 a0_3, .int .i64 a0_4, .int .i64 a0_5] 59 (0, 0))) ∧ (w'.heap[gb305]? = some (.cells #[.slice none 0 0, .slice none 0 0, .slice none 0 0, .slice none 0 0, .slice none 0 0, .int .i64 0, .int .i64 0, .int .i64 0, .int .i64 0] 28 (0, 0))) ∧ (Below w.heap.size w w')) ?_ ?_
                          rotate_left
                          ·intro hJ8_10
                           refine join_ (σ := Value × Nat) 6 #[true, true, false, true, false, true, false, true, true, true, false, true, true, true, true, false, true, false] (fun s_ => [(23, s_.1), (5, .pointer (some ⟨s_.2, 0, none⟩))]) (fun s_ w' => (w'.cell? ⟨gb304, 0, none⟩ = some (.slice A0_0 l0_0.length c0_0) ∧ w'.cell? ⟨gb304, 1, none⟩ = some (.int .i64 a0_1) ∧ w'.cell? ⟨gb304, 2, none⟩ = some (.int .i64 a0_2) ∧ w'.cell? ⟨gb304, 3, none⟩ = some (.int .i64 a0_3) ∧ w'.cell? ⟨gb304, 4, none⟩ = some (.int .i64 a0_4) ∧ w'.cell? ⟨gb304, 5, none⟩ = some (.int .i64 a0_5)) ∧ (Kd.R Kd.bool 4 w' w.heap.size (fun _ => True) s_.1 y316) ∧ (w'.heap[gb304]? = some (.cells #[.slice A0_0 l0_0.length c0_0, .int .i64 a0_1, .int .i64 a0_2, .int .i64 a0_3, .int .i64 a0_4, .int .i64 a0_5] 59 (0, 0))) ∧ (w'.heap[gb305]? = some (.cells #[.slice none 0 0, .slice none 0 0, .slice none 0 0, .slice none 0 0, .slice none 0 0, .int .i64 0, .int .i64 0, .int .i64 0, .int .i64 0] 28 (0, 0))) ∧ (w'.heap[s_.2]? = some (.cells #[.slice none 0 0, .slice none 0 0, .slice none 0 0, .slice none 0 0, .slice none 0 0, .int .i64 0, .int .i64 0, .int .i64 0, .int .i64 0] 28 (0, 0))) ∧ (w.heap.size ≤ s_.2) ∧ (w.heap.size ≤ s_.2) ∧ (gb304 ≠ s_.2) ∧ (s_.2 ≠ gb304) ∧ (gb305 ≠ s_.2) ∧ (s_.2 ≠ gb305) ∧ (Below w.heap.size w w')) ?_ ?_
                           rotate_left
                           ·intro hJ8_16
                            refine join_ (σ := Value × Nat) 6 #[true, true, false, true, false, true, false, true, false, true, true, true, true, true, true, false, true, false] (fun s_ => [(25, s_.1), (5, .pointer (some ⟨s_.2, 0, none⟩))]) (fun s_ w' => (w'.cell? ⟨gb304, 0, none⟩ = some (.slice A0_0 l0_0.length c0_0) ∧ w'.cell? ⟨gb304, 1, none⟩ = some (.int .i64 a0_1) ∧ w'.cell? ⟨gb304, 2, none⟩ = some (.int .i64 a0_2) ∧ w'.cell? ⟨gb304, 3, none⟩ = some (.int .i64 a0_3) ∧ w'.cell? ⟨gb304, 4, none⟩ = some (.int .i64 a0_4) ∧ w'.cell? ⟨gb304, 5, none⟩ = some (.int .i64 a0_5)) ∧ (Kd.R Kd.bool 4 w' w.heap.size (fun _ => True) s_.1 y319) ∧ (w'.heap[gb304]? = some (.cells #[.slice A0_0 l0_0.length c0_0, .int .i64 a0_1, .int .i64 a0_2, .int .i64 a0_3, .int .i64 a0_4, .int .i64 a0_5] 59 (0, 0))) ∧ (w'.heap[gb305]? = some (.cells #[.slice none 0 0, .slice none 0 0, .slice none 0 0, .slice none 0 0, .slice none 0 0, .int .i64 0, .int .i64 0, .int .i64 0, .int .i64 0] 28 (0, 0))) ∧ (w'.heap[s_.2]? = some (.cells #[.slice none 0 0, .slice none 0 0, .slice none 0 0, .slice none 0 0, .slice none 0 0, .int .i64 0, .int .i64 0, .int .i64 0, .int .i64 0] 28 (0, 0))) ∧ (w.heap.size ≤ s_.2) ∧ (w.heap.size ≤ s_.2) ∧ (gb304 ≠ s_.2) ∧ (s_.2 ≠ gb304) ∧ (gb305 ≠ s_.2) ∧ (s_.2 ≠ gb305) ∧ (Below w.heap.size w w')) ?_ ?_
                            rotate_left
                            ·intro hJ10_16
                             refine join_ (σ := Value) 7 #[true, true, true, true, false, true, false, true, false, true, false, true, true, true, true, false, false, false] (fun s_ => [(17, s_)]) (fun s_ w' => (w'.cell? ⟨gb304, 0, none⟩ = some (.slice A0_0 l0_0.length c0_0) ∧ w'.cell? ⟨gb304, 1, none⟩ = some (.int .i64 a0_1) ∧ w'.cell? ⟨gb304, 2, none⟩ = some (.int .i64 a0_2) ∧ w'.cell? ⟨gb304, 3, none⟩ = some (.int .i64 a0_3) ∧ w'.cell? ⟨gb304, 4, none⟩ = some (.int .i64 a0_4) ∧ w'.cell? ⟨gb304, 5, none⟩ = some (.int .i64 a0_5)) ∧ (Kd.R (Kd.int .i64) 2 w' w.heap.size (fun _ => True) s_ t307) ∧ (w'.heap[gb304]? = some (.cells #[.slice A0_0 l0_0.length c0_0, .int .i64 a0_1, .int .i64 a0_2, .int .i64 a0_3, .int .i64 a0_4, .int .i64 a0_5] 59 (0, 0))) ∧ (w'.heap[gb305]? = some (.cells #[.slice none 0 0, .slice none 0 0, .slice none 0 0, .slice none 0 0, .slice none 0 0, .int .i64 0, .int .i64 0, .int .i64 0, .int .i64 0] 28 (0, 0))) ∧ (Below w.heap.size w w')) ?_ ?_
                             rotate_left
                             ·intro hJ2
                              refine join_ (σ := Value) 7 #[true, true, false, true, false, true, false, true, true, true, false, true, true, true, true, false, false, false] (fun s_ => [(23, s_)]) (fun s_ w' => (w'.cell? ⟨gb304, 0, none⟩ = some (.slice A0_0 l0_0.length c0_0) ∧ w'.cell? ⟨gb304, 1, none⟩ = some (.int .i64 a0_1) ∧ w'.cell? ⟨gb304, 2, none⟩ = some (.int .i64 a0_2) ∧ w'.cell? ⟨gb304, 3, none⟩ = some (.int .i64 a0_3) ∧ w'.cell? ⟨gb304, 4, none⟩ = some (.int .i64 a0_4) ∧ w'.cell? ⟨gb304, 5, none⟩ = some (.int .i64 a0_5)) ∧ (Kd.R Kd.bool 4 w' w.heap.size (fun _ => True) s_ y316) ∧ (w'.heap[gb304]? = some (.cells #[.slice A0_0 l0_0.length c0_0, .int .i64 a0_1, .int .i64 a0_2, .int .i64 a0_3, .int .i64 a0_4, .int .i64 a0_5] 59 (0, 0))) ∧ (w'.heap[gb305]? = some (.cells #[.slice none 0 0, .slice none 0 0, .slice none 0 0, .slice none 0 0, .slice none 0 0, .int .i64 0, .int .i64 0, .int .i64 0, .int .i64 0] 28 (0, 0))) ∧ (Below w.heap.size w w')) ?_ ?_
                              rotate_left
                              ·intro hJ8
                               refine join_ (σ := Value) 7 #[true, true, false, true, false, true, false, true, false, true, true, true, true, true, true, false, false, false] (fun s_ => [(25, s_)]) (fun s_ w' => (w'.cell? ⟨gb304, 0, none⟩ = some (.slice A0_0 l0_0.length c0_0) ∧ w'.cell? ⟨gb304, 1, none⟩ = some (.int .i64 a0_1) ∧ w'.cell? ⟨gb304, 2, none⟩ = some (.int .i64 a0_2) ∧ w'.cell? ⟨gb304, 3, none⟩ = some (.int .i64 a0_3) ∧ w'.cell? ⟨gb304, 4, none⟩ = some (.int .i64 a0_4) ∧ w'.cell? ⟨gb304, 5, none⟩ = some (.int .i64 a0_5)) ∧ (Kd.R Kd.bool 4 w' w.heap.size (fun _ => True) s_ y319) ∧ (w'.heap[gb304]? = some (.cells #[.slice A0_0 l0_0.length c0_0, .int .i64 a0_1, .int .i64 a0_2, .int .i64 a0_3, .int .i64 a0_4, .int .i64 a0_5] 59 (0, 0))) ∧ (w'.heap[gb305]? = some (.cells #[.slice none 0 0, .slice none 0 0, .slice none 0 0, .slice none 0 0, .slice none 0 0, .int .i64 0, .int .i64 0, .int .i64 0, .int .i64 0] 28 (0, 0))) ∧ (Below w.heap.size w w')) ?_ ?_
                               rotate_left
                               ·intro hJ10
                                refine join_ (σ := Nat) 7 #[true, true, false, true, false, true, false, true, false, true, false, true, true, true, true, false, true, false] (fun s_ => [(5, .pointer (some ⟨s_, 0, none⟩))]) (fun s_ w' => (w'.cell? ⟨gb304, 0, none⟩ = some (.slice A0_0 l0_0.length c0_0) ∧ w'.cell? ⟨gb304, 1, none⟩ = some (.int .i64 a0_1) ∧ w'.cell? ⟨gb304, 2, none⟩ = some (.int .i64 a0_2) ∧ w'.cell? ⟨gb304, 3, none⟩ = some (.int .i64 a0_3) ∧ w'.cell? ⟨gb304, 4, none⟩ = some (.int .i64 a0_4) ∧ w'.cell? ⟨gb304, 5, none⟩ = some (.int .i64 a0_5)) ∧ (w'.heap[gb304]? = some (.cells #[.slice A0_0 l0_0.length c0_0, .int .i64 a0_1, .int .i64 a0_2, .int .i64 a0_3, .int .i64 a0_4, .int .i64 a0_5] 59 (0, 0))) ∧ (w'.heap[gb305]? = some (.cells #[.slice none 0 0, .slice none 0 0, .slice none 0 0, .slice none 0 0, .slice none 0 0, .int .i64 0, .int .i64 0, .int .i64 0, .int .i64 0] 28 (0, 0))) ∧ (w'.heap[s_]? = some (.cells #[.slice none 0 0, .slice none 0 0, .slice none 0 0, .slice none 0 0, .slice none 0 0, .int .i64 0, .int .i64 0, .int .i64 0, .int .i64 0] 28 (0, 0))) ∧ (w.heap.size ≤ s_) ∧ (w.heap.size ≤ s_) ∧ (gb304 ≠ s_) ∧ (s_ ≠ gb304) ∧ (gb305 ≠ s_) ∧ (s_ ≠ gb305) ∧ (Below w.heap.size w w')) ?_ ?_
                                rotate_left
                                ·intro hJ16
                                 refine four_ (i := 2) (j := 8) (k := 10) (m := 16) (Ni := some 17) (Nj := some 23) (Nk := some 25) (Nm := some 5) #[true, true, true, true, false, true, false, true, false, true, false, true, true, true, true, false, false, false] #[true, true, false, true, false, true, false, true, true, true, false, true, true, true, true, false, false, false] #[true, true, false, true, false, true, false, true, false, true, true, true, true, true, true, false, false, false] #[true, true, false, true, false, true, false, true, false, true, false, true, true, true, true, false, true, false] rfl rfl rfl rfl rfl rfl rfl rfl (four_of HT_.out (by kernel_rfl)) (by decide) (by decide) (by decide) (by decide) (fun K hK => ?_) (fun K hK => ?_) (fun K hK => ?_) (fun K hK => ?_)
                                 ·skip
                                  refine gO Try.func89 #[.slice A0_0 l0_0.length c0_0] ?_
                                  with_reducible refine (slices_Clone_int64_int64.calls _ _ l0_0 t307 _ ?side1 ?side2 A4.out).mono ?_
                                  (case side1 => exact cA (Kd.C_below HR0_0.out HB.out))
                                  (case side2 => exact HC0_0.out)
                                  rintro e w16 ⟨v308, rfl, ho0, hb⟩
                                  refine ⟨_, rfl, ?_⟩
                                  have HO309 := Aside0.mk (Kd.R_lower ho0 (below_size (bA HB.out)))
                                  replace BK304 := Aside0.mk (blk_below (kA BK304.out) hb)
                                  replace BK305 := Aside0.mk (blk_below (kA BK305.out) hb)
                                  replace HB := Aside0.mk (below_step (bA HB.out) hb)
                                  (try clear hb)
                                  (try clear ho0)
                                  refine hK.out _ _ (cy6 BK304.out) (fun hHeld => ?_)
                                  clear hK K
                                  refine nO 17 ?_
                                  exact nP (hJ2 (v308) _ ⟨hHeld, (rA HO309.out), (kA BK304.out), (kA BK305.out), (bA HB.out)⟩)
                                 ·skip
                                  refine Kd.R_make_step Kd.bool _ 4 (by rfl) (N := 23) rfl 23 _ _ rfl (l0_0.length : Int) rfl rfl Try.underlying23 (.bool false) 1 info4 rfl (by decide) (by omega) false (ok := fun _ => True) (okp := fun _ => True) rfl (fun _ hk => hk) trivial (dA) (Nat.le_trans (Nat.mul_le_mul_right _ (dA : (l0_0.length : Int).toNat ≤ 281474976710656)) (by omega)) (Below.refl _ _) (Nat.le_refl _) ?_
                                  intro v317 w16 ho17 hb hg_ hnew_
                                  clear hg_ hnew_
                                  (first | rw [← Ny316.out] at ho17 | (simp only [Int.reduceToNat] at ho17; rw [← Ny316.out] at ho17))
                                  have HO318 := Aside0.mk (Kd.R_lower ho17 (below_size (bA HB.out)))
                                  replace BK304 := Aside0.mk (blk_below (kA BK304.out) hb)
                                  replace BK305 := Aside0.mk (blk_below (kA BK305.out) hb)
                                  replace HB := Aside0.mk (below_step (bA HB.out) hb)
                                  clear hb ho17
                                  refine hK.out _ _ (cy6 BK304.out) (fun hHeld => ?_)
                                  clear hK K
                                  refine nO 23 ?_
                                  exact nP (hJ8 (v317) _ ⟨hHeld, (rA HO318.out), (kA BK304.out), (kA BK305.out), (bA HB.out)⟩)
                                 ·skip
                                  refine Kd.R_make_step Kd.bool _ 4 (by rfl) (N := 25) rfl 23 _ _ rfl (l0_0.length : Int) rfl rfl Try.underlying23 (.bool false) 1 info4 rfl (by decide) (by omega) false (ok := fun _ => True) (okp := fun _ => True) rfl (fun _ hk => hk) trivial (dA) (Nat.le_trans (Nat.mul_le_mul_right _ (dA : (l0_0.length : Int).toNat ≤ 281474976710656)) (by omega)) (Below.refl _ _) (Nat.le_refl _) ?_
                                  intro v320 w16 ho17 hb hg_ hnew_
                                  clear hg_ hnew_
                                  (first | rw [← Ny319.out] at ho17 | (simp only [Int.reduceToNat] at ho17; rw [← Ny319.out] at ho17))
                                  have HO321 := Aside0.mk (Kd.R_lower ho17 (below_size (bA HB.out)))
                                  replace BK304 := Aside0.mk (blk_below (kA BK304.out) hb)
                                  replace BK305 := Aside0.mk (blk_below (kA BK305.out) hb)
                                  replace HB := Aside0.mk (below_step (bA HB.out) hb)
                                  clear hb ho17
                                  refine hK.out _ _ (cy6 BK304.out) (fun hHeld => ?_)
                                  clear hK K
                                  refine nO 25 ?_
                                  exact nP (hJ10 (v320) _ ⟨hHeld, (rA HO321.out), (kA BK304.out), (kA BK305.out), (bA HB.out)⟩)
                                 ·skip
                                  refine box_step ?hg (N := 5) ?hd (cs := #[.slice none 0 0, .slice none 0 0, .slice none 0 0, .slice none 0 0, .slice none 0 0, .int .i64 0, .int .i64 0, .int .i64 0, .int .i64 0]) (t := 28) ?hr ?_; (case hd => rfl); (case hg => rfl); (case hr => first | (go_simp; done) | (go_simp; rfl))
                                  intro gb322 hg w16 hbox hb
                                  have BK322 := Aside0.mk (hbox)
                                  have GW322 := Aside0.mk (gE hg (bA HB.out))
                                  have GE322 := Aside0.mk (gE hg (bA HB.out))
                                  replace HB := Aside0.mk (below_step (bA HB.out) hb)
                                  have NB304_322 := Aside0.mk ((by rw [hg]; exact Nat.ne_of_lt (blk_lt (kA BK304.out)) : gb304 ≠ gb322))
                                  have NB322_304 := Aside0.mk ((by rw [hg]; exact Nat.ne_of_gt (blk_lt (kA BK304.out)) : gb322 ≠ gb304))
                                  replace BK304 := Aside0.mk (blk_below (kA BK304.out) hb)
                                  have NB305_322 := Aside0.mk ((by rw [hg]; exact Nat.ne_of_lt (blk_lt (kA BK305.out)) : gb305 ≠ gb322))
                                  have NB322_305 := Aside0.mk ((by rw [hg]; exact Nat.ne_of_gt (blk_lt (kA BK305.out)) : gb322 ≠ gb305))
                                  replace BK305 := Aside0.mk (blk_below (kA BK305.out) hb)
                                  clear hb hbox hg
                                  refine hK.out _ _ (cy6 BK304.out) (fun hHeld => ?_)
                                  clear hK K
                                  refine nO 5 ?_
                                  exact nP (hJ16 (gb322) _ ⟨hHeld, (kA BK304.out), (kA BK305.out), (kA BK322.out), GW322.out, GE322.out, NB304_322.out, NB322_304.out, NB305_322.out, NB322_305.out, (bA HB.out)⟩)
                                ·skip
                                 rintro gb322 w17 ⟨hS_, h0_, h1_, h2_, h3_, h4_, h5_, h6_, h7_, h8_, h9_⟩
                                 try dsimp only at hS_ h0_ h1_ h2_ h3_ h4_ h5_ h6_ h7_ h8_ h9_
                                 clear BK304 BK305 HB
                                 have BK304 := Aside0.mk h0_
                                 have BK305 := Aside0.mk h1_
                                 have BK322 := Aside0.mk h2_
                                 have GW322 := Aside0.mk h3_
                                 have GE322 := Aside0.mk h4_
                                 have NB304_322 := Aside0.mk h5_
                                 have NB322_304 := Aside0.mk h6_
                                 have NB305_322 := Aside0.mk h7_
                                 have NB322_305 := Aside0.mk h8_
                                 have HB := Aside0.mk h9_
                                 clear h0_ h1_ h2_ h3_ h4_ h5_ h6_ h7_ h8_ h9_
                                 have hHeld := hS_
                                 refine nQ ?_
                                 refine three_ (i := 2) (j := 8) (k := 10) (Ni := some 17) (Nj := some 23) (Nk := some 25) #[true, true, true, true, false, true, false, true, false, true, false, true, true, true, true, false, true, false] #[true, true, false, true, false, true, false, true, true, true, false, true, true, true, true, false, true, false] #[true, true, false, true, false, true, false, true, false, true, true, true, true, true, true, false, true, false] rfl rfl rfl rfl rfl rfl (three_of HT_.out (by kernel_rfl)) (by decide) (by decide) (by decide) (fun K hK => ?_) (fun K hK => ?_) (fun K hK => ?_)
                                 ·skip
                                  refine gO Try.func89 #[.slice A0_0 l0_0.length c0_0] ?_
                                  with_reducible refine (slices_Clone_int64_int64.calls _ _ l0_0 t307 _ ?side1 ?side2 A4.out).mono ?_
                                  (case side1 => exact cA (Kd.C_below HR0_0.out HB.out))
                                  (case side2 => exact HC0_0.out)
                                  rintro e w18 ⟨v308, rfl, ho0, hb⟩
                                  refine ⟨_, rfl, ?_⟩
                                  have HO309 := Aside0.mk (Kd.R_lower ho0 (below_size (bA HB.out)))
                                  replace BK304 := Aside0.mk (blk_below (kA BK304.out) hb)
                                  replace BK305 := Aside0.mk (blk_below (kA BK305.out) hb)
                                  replace BK322 := Aside0.mk (blk_below (kA BK322.out) hb)
                                  replace HB := Aside0.mk (below_step (bA HB.out) hb)
                                  (try clear hb)
                                  (try clear ho0)
                                  refine hK.out _ _ (cy6 BK304.out) (fun hHeld => ?_)
                                  clear hK K
                                  refine nO 17 ?_
                                  exact nP (hJ2_16 (v308, gb322) _ ⟨hHeld, (rA HO309.out), (kA BK304.out), (kA BK305.out), (kA BK322.out), GW322.out, GE322.out, NB304_322.out, NB322_304.out, NB305_322.out, NB322_305.out, (bA HB.out)⟩)
                                 ·skip
                                  refine Kd.R_make_step Kd.bool _ 4 (by rfl) (N := 23) rfl 23 _ _ rfl (l0_0.length : Int) rfl rfl Try.underlying23 (.bool false) 1 info4 rfl (by decide) (by omega) false (ok := fun _ => True) (okp := fun _ => True) rfl (fun _ hk => hk) trivial (dA) (Nat.le_trans (Nat.mul_le_mul_right _ (dA : (l0_0.length : Int).toNat ≤ 281474976710656)) (by omega)) (Below.refl _ _) (Nat.le_refl _) ?_
                                  intro v317 w18 ho19 hb hg_ hnew_
                                  clear hg_ hnew_
                                  (first | rw [← Ny316.out] at ho19 | (simp only [Int.reduceToNat] at ho19; rw [← Ny316.out] at ho19))
                                  have HO318 := Aside0.mk (Kd.R_lower ho19 (below_size (bA HB.out)))
                                  replace BK304 := Aside0.mk (blk_below (kA BK304.out) hb)
                                  replace BK305 := Aside0.mk (blk_below (kA BK305.out) hb)
                                  replace BK322 := Aside0.mk (blk_below (kA BK322.out) hb)
                                  replace HB := Aside0.mk (below_step (bA HB.out) hb)
                                  clear hb ho19
                                  refine hK.out _ _ (cy6 BK304.out) (fun hHeld => ?_)
                                  clear hK K
                                  refine nO 23 ?_
                                  exact nP (hJ8_16 (v317, gb322) _ ⟨hHeld, (rA HO318.out), (kA BK304.out), (kA BK305.out), (kA BK322.out), GW322.out, GE322.out, NB304_322.out, NB322_304.out, NB305_322.out, NB322_305.out, (bA HB.out)⟩)
                                 ·skip
                                  refine Kd.R_make_step Kd.bool _ 4 (by rfl) (N := 25) rfl 23 _ _ rfl (l0_0.length : Int) rfl rfl Try.underlying23 (.bool false) 1 info4 rfl (by decide) (by omega) false (ok := fun _ => True) (okp := fun _ => True) rfl (fun _ hk => hk) trivial (dA) (Nat.le_trans (Nat.mul_le_mul_right _ (dA : (l0_0.length : Int).toNat ≤ 281474976710656)) (by omega)) (Below.refl _ _) (Nat.le_refl _) ?_
                                  intro v320 w18 ho19 hb hg_ hnew_
                                  clear hg_ hnew_
                                  (first | rw [← Ny319.out] at ho19 | (simp only [Int.reduceToNat] at ho19; rw [← Ny319.out] at ho19))
                                  have HO321 := Aside0.mk (Kd.R_lower ho19 (below_size (bA HB.out)))
                                  replace BK304 := Aside0.mk (blk_below (kA BK304.out) hb)
                                  replace BK305 := Aside0.mk (blk_below (kA BK305.out) hb)
                                  replace BK322 := Aside0.mk (blk_below (kA BK322.out) hb)
                                  replace HB := Aside0.mk (below_step (bA HB.out) hb)
                                  clear hb ho19
                                  refine hK.out _ _ (cy6 BK304.out) (fun hHeld => ?_)
                                  clear hK K
                                  refine nO 25 ?_
                                  exact nP (hJ10_16 (v320, gb322) _ ⟨hHeld, (rA HO321.out), (kA BK304.out), (kA BK305.out), (kA BK322.out), GW322.out, GE322.out, NB304_322.out, NB322_304.out, NB305_322.out, NB322_305.out, (bA HB.out)⟩)
                               ·skip
                                rintro v320 w18 ⟨hS_, h0_, h1_, h2_, h3_⟩
                                try dsimp only at hS_ h0_ h1_ h2_ h3_
                                clear BK304 BK305 HB
                                have HO321 := Aside0.mk h0_
                                have BK304 := Aside0.mk h1_
                                have BK305 := Aside0.mk h2_
                                have HB := Aside0.mk h3_
                                clear h0_ h1_ h2_ h3_
                                have hHeld := hS_
                                refine nQ ?_
                                refine three_ (i := 2) (j := 8) (k := 16) (Ni := some 17) (Nj := some 23) (Nk := some 5) #[true, true, true, true, false, true, false, true, false, true, true, true, true, true, true, false, false, false] #[true, true, false, true, false, true, false, true, true, true, true, true, true, true, true, false, false, false] #[true, true, false, true, false, true, false, true, false, true, true, true, true, true, true, false, true, false] rfl rfl rfl rfl rfl rfl (three_of HT_.out (by kernel_rfl)) (by decide) (by decide) (by decide) (fun K hK => ?_) (fun K hK => ?_) (fun K hK => ?_)
                                ·skip
                                 refine gO Try.func89 #[.slice A0_0 l0_0.length c0_0] ?_
                                 with_reducible refine (slices_Clone_int64_int64.calls _ _ l0_0 t307 _ ?side1 ?side2 A4.out).mono ?_
                                 (case side1 => exact cA (Kd.C_below HR0_0.out HB.out))
                                 (case side2 => exact HC0_0.out)
                                 rintro e w19 ⟨v308, rfl, ho0, hb⟩
                                 refine ⟨_, rfl, ?_⟩
                                 replace HO321 := Aside0.mk (Kd.R_below (rA HO321.out) hb)
                                 have HO309 := Aside0.mk (Kd.R_lower ho0 (below_size (bA HB.out)))
                                 replace BK304 := Aside0.mk (blk_below (kA BK304.out) hb)
                                 replace BK305 := Aside0.mk (blk_below (kA BK305.out) hb)
                                 replace HB := Aside0.mk (below_step (bA HB.out) hb)
                                 (try clear hb)
                                 (try clear ho0)
                                 refine hK.out _ _ (cy6 BK304.out) (fun hHeld => ?_)
                                 clear hK K
                                 refine nO 17 ?_
                                 exact nP (hJ2_10 (v308, v320) _ ⟨hHeld, (rA HO309.out), (rA HO321.out), (kA BK304.out), (kA BK305.out), (bA HB.out)⟩)
                                ·skip
                                 refine Kd.R_make_step Kd.bool _ 4 (by rfl) (N := 23) rfl 23 _ _ rfl (l0_0.length : Int) rfl rfl Try.underlying23 (.bool false) 1 info4 rfl (by decide) (by omega) false (ok := fun _ => True) (okp := fun _ => True) rfl (fun _ hk => hk) trivial (dA) (Nat.le_trans (Nat.mul_le_mul_right _ (dA : (l0_0.length : Int).toNat ≤ 281474976710656)) (by omega)) (Below.refl _ _) (Nat.le_refl _) ?_
                                 intro v317 w19 ho20 hb hg_ hnew_
                                 clear hg_ hnew_
                                 (first | rw [← Ny316.out] at ho20 | (simp only [Int.reduceToNat] at ho20; rw [← Ny316.out] at ho20))
                                 have HO318 := Aside0.mk (Kd.R_lower (Kd.R_new' ho20 (Kd.R_lt (rA HO321.out))) (below_size (bA HB.out)))
                                 replace HO321 := Aside0.mk (Kd.R_elder' (rA HO321.out) (Kd.R_base ho20) hb)
                                 replace BK304 := Aside0.mk (blk_below (kA BK304.out) hb)
                                 replace BK305 := Aside0.mk (blk_below (kA BK305.out) hb)
                                 replace HB := Aside0.mk (below_step (bA HB.out) hb)
                                 clear hb ho20
                                 refine hK.out _ _ (cy6 BK304.out) (fun hHeld => ?_)
                                 clear hK K
                                 refine nO 23 ?_
                                 exact nP (hJ8_10 (v317, v320) _ ⟨hHeld, (by (with_reducible repeat (first | apply Kd.R_alloc | apply Kd.R_drewN | apply Kd.R_drew)); exact Kd.R_mono HO318.out (fun _ hk => hk.2)), (by (with_reducible repeat (first | apply Kd.R_alloc | apply Kd.R_drewN | apply Kd.R_drew)); exact Kd.R_mono HO321.out (fun _ hk => hk.2)), (kA BK304.out), (kA BK305.out), (bA HB.out)⟩)
                                ·skip
                                 refine box_step ?hg (N := 5) ?hd (cs := #[.slice none 0 0, .slice none 0 0, .slice none 0 0, .slice none 0 0, .slice none 0 0, .int .i64 0, .int .i64 0, .int .i64 0, .int .i64 0]) (t := 28) ?hr ?_; (case hd => rfl); (case hg => rfl); (case hr => first | (go_simp; done) | (go_simp; rfl))
                                 intro gb322 hg w19 hbox hb
                                 replace HO321 := Aside0.mk (Kd.R_below (rA HO321.out) hb)
                                 have BK322 := Aside0.mk (hbox)
                                 have GW322 := Aside0.mk (gE hg (bA HB.out))
                                 have GE322 := Aside0.mk (gE hg (bA HB.out))
                                 replace HB := Aside0.mk (below_step (bA HB.out) hb)
                                 have NB304_322 := Aside0.mk ((by rw [hg]; exact Nat.ne_of_lt (blk_lt (kA BK304.out)) : gb304 ≠ gb322))
                                 have NB322_304 := Aside0.mk ((by rw [hg]; exact Nat.ne_of_gt (blk_lt (kA BK304.out)) : gb322 ≠ gb304))
                                 replace BK304 := Aside0.mk (blk_below (kA BK304.out) hb)
                                 have NB305_322 := Aside0.mk ((by rw [hg]; exact Nat.ne_of_lt (blk_lt (kA BK305.out)) : gb305 ≠ gb322))
                                 have NB322_305 := Aside0.mk ((by rw [hg]; exact Nat.ne_of_gt (blk_lt (kA BK305.out)) : gb322 ≠ gb305))
                                 replace BK305 := Aside0.mk (blk_below (kA BK305.out) hb)
                                 clear hb hbox hg
                                 refine hK.out _ _ (cy6 BK304.out) (fun hHeld => ?_)
                                 clear hK K
                                 refine nO 5 ?_
                                 exact nP (hJ10_16 (v320, gb322) _ ⟨hHeld, (rA HO321.out), (kA BK304.out), (kA BK305.out), (kA BK322.out), GW322.out, GE322.out, NB304_322.out, NB322_304.out, NB305_322.out, NB322_305.out, (bA HB.out)⟩)
                              ·skip
                               rintro v317 w18 ⟨hS_, h0_, h1_, h2_, h3_⟩
                               try dsimp only at hS_ h0_ h1_ h2_ h3_
                               clear BK304 BK305 HB
                               have HO318 := Aside0.mk h0_
                               have BK304 := Aside0.mk h1_
                               have BK305 := Aside0.mk h2_
                               have HB := Aside0.mk h3_
                               clear h0_ h1_ h2_ h3_
                               have hHeld := hS_
                               refine nQ ?_
                               refine three_ (i := 2) (j := 10) (k := 16) (Ni := some 17) (Nj := some 25) (Nk := some 5) #[true, true, true, true, false, true, false, true, true, true, false, true, true, true, true, false, false, false] #[true, true, false, true, false, true, false, true, true, true, true, true, true, true, true, false, false, false] #[true, true, false, true, false, true, false, true, true, true, false, true, true, true, true, false, true, false] rfl rfl rfl rfl rfl rfl (three_of HT_.out (by kernel_rfl)) (by decide) (by decide) (by decide) (fun K hK => ?_) (fun K hK => ?_) (fun K hK => ?_)
                               ·skip
                                refine gO Try.func89 #[.slice A0_0 l0_0.length c0_0] ?_
                                with_reducible refine (slices_Clone_int64_int64.calls _ _ l0_0 t307 _ ?side1 ?side2 A4.out).mono ?_
                                (case side1 => exact cA (Kd.C_below HR0_0.out HB.out))
                                (case side2 => exact HC0_0.out)
                                rintro e w19 ⟨v308, rfl, ho0, hb⟩
                                refine ⟨_, rfl, ?_⟩
                                replace HO318 := Aside0.mk (Kd.R_below (rA HO318.out) hb)
                                have HO309 := Aside0.mk (Kd.R_lower ho0 (below_size (bA HB.out)))
                                replace BK304 := Aside0.mk (blk_below (kA BK304.out) hb)
                                replace BK305 := Aside0.mk (blk_below (kA BK305.out) hb)
                                replace HB := Aside0.mk (below_step (bA HB.out) hb)
                                (try clear hb)
                                (try clear ho0)
                                refine hK.out _ _ (cy6 BK304.out) (fun hHeld => ?_)
                                clear hK K
                                refine nO 17 ?_
                                exact nP (hJ2_8 (v308, v317) _ ⟨hHeld, (rA HO309.out), (rA HO318.out), (kA BK304.out), (kA BK305.out), (bA HB.out)⟩)
                               ·skip
                                refine Kd.R_make_step Kd.bool _ 4 (by rfl) (N := 25) rfl 23 _ _ rfl (l0_0.length : Int) rfl rfl Try.underlying23 (.bool false) 1 info4 rfl (by decide) (by omega) false (ok := fun _ => True) (okp := fun _ => True) rfl (fun _ hk => hk) trivial (dA) (Nat.le_trans (Nat.mul_le_mul_right _ (dA : (l0_0.length : Int).toNat ≤ 281474976710656)) (by omega)) (Below.refl _ _) (Nat.le_refl _) ?_
                                intro v320 w19 ho20 hb hg_ hnew_
                                clear hg_ hnew_
                                (first | rw [← Ny319.out] at ho20 | (simp only [Int.reduceToNat] at ho20; rw [← Ny319.out] at ho20))
                                have HO321 := Aside0.mk (Kd.R_lower (Kd.R_new' ho20 (Kd.R_lt (rA HO318.out))) (below_size (bA HB.out)))
                                replace HO318 := Aside0.mk (Kd.R_elder' (rA HO318.out) (Kd.R_base ho20) hb)
                                replace BK304 := Aside0.mk (blk_below (kA BK304.out) hb)
                                replace BK305 := Aside0.mk (blk_below (kA BK305.out) hb)
                                replace HB := Aside0.mk (below_step (bA HB.out) hb)
                                clear hb ho20
                                refine hK.out _ _ (cy6 BK304.out) (fun hHeld => ?_)
                                clear hK K
                                refine nO 25 ?_
                                exact nP (hJ8_10 (v317, v320) _ ⟨hHeld, (by (with_reducible repeat (first | apply Kd.R_alloc | apply Kd.R_drewN | apply Kd.R_drew)); exact Kd.R_mono HO318.out (fun _ hk => hk.2)), (by (with_reducible repeat (first | apply Kd.R_alloc | apply Kd.R_drewN | apply Kd.R_drew)); exact Kd.R_mono HO321.out (fun _ hk => hk.2)), (kA BK304.out), (kA BK305.out), (bA HB.out)⟩)
                               ·skip
                                refine box_step ?hg (N := 5) ?hd (cs := #[.slice none 0 0, .slice none 0 0, .slice none 0 0, .slice none 0 0, .slice none 0 0, .int .i64 0, .int .i64 0, .int .i64 0, .int .i64 0]) (t := 28) ?hr ?_; (case hd => rfl); (case hg => rfl); (case hr => first | (go_simp; done) | (go_simp; rfl))
                                intro gb322 hg w19 hbox hb
                                replace HO318 := Aside0.mk (Kd.R_below (rA HO318.out) hb)
                                have BK322 := Aside0.mk (hbox)
                                have GW322 := Aside0.mk (gE hg (bA HB.out))
                                have GE322 := Aside0.mk (gE hg (bA HB.out))
                                replace HB := Aside0.mk (below_step (bA HB.out) hb)
                                have NB304_322 := Aside0.mk ((by rw [hg]; exact Nat.ne_of_lt (blk_lt (kA BK304.out)) : gb304 ≠ gb322))
                                have NB322_304 := Aside0.mk ((by rw [hg]; exact Nat.ne_of_gt (blk_lt (kA BK304.out)) : gb322 ≠ gb304))
                                replace BK304 := Aside0.mk (blk_below (kA BK304.out) hb)
                                have NB305_322 := Aside0.mk ((by rw [hg]; exact Nat.ne_of_lt (blk_lt (kA BK305.out)) : gb305 ≠ gb322))
                                have NB322_305 := Aside0.mk ((by rw [hg]; exact Nat.ne_of_gt (blk_lt (kA BK305.out)) : gb322 ≠ gb305))
                                replace BK305 := Aside0.mk (blk_below (kA BK305.out) hb)
                                clear hb hbox hg
                                refine hK.out _ _ (cy6 BK304.out) (fun hHeld => ?_)
                                clear hK K
                                refine nO 5 ?_
                                exact nP (hJ8_16 (v317, gb322) _ ⟨hHeld, (rA HO318.out), (kA BK304.out), (kA BK305.out), (kA BK322.out), GW322.out, GE322.out, NB304_322.out, NB322_304.out, NB305_322.out, NB322_305.out, (bA HB.out)⟩)
                             ·skip
                              rintro v308 w17 ⟨hS_, h0_, h1_, h2_, h3_⟩
                              try dsimp only at hS_ h0_ h1_ h2_ h3_
                              clear BK304 BK305 HB
                              have HO309 := Aside0.mk h0_
                              have BK304 := Aside0.mk h1_
                              have BK305 := Aside0.mk h2_
                              have HB := Aside0.mk h3_
                              clear h0_ h1_ h2_ h3_
                              have hHeld := hS_
                              refine nQ ?_
                              refine four_ (i := 4) (j := 8) (k := 10) (m := 16) (Ni := some 19) (Nj := some 23) (Nk := some 25) (Nm := some 5) #[true, true, true, true, true, true, false, true, false, true, false, true, true, true, true, false, false, false] #[true, true, true, true, false, true, false, true, true, true, false, true, true, true, true, false, false, false] #[true, true, true, true, false, true, false, true, false, true, true, true, true, true, true, false, false, false] #[true, true, true, true, false, true, false, true, false, true, false, true, true, true, true, false, true, false] rfl rfl rfl rfl rfl rfl rfl rfl (four_of HT_.out (by kernel_rfl)) (by decide) (by decide) (by decide) (by decide) (fun K hK => ?_) (fun K hK => ?_) (fun K hK => ?_) (fun K hK => ?_)
                              ·skip
                               refine gO Try.func90 #[.agg #[.slice A0_0 l0_0.length c0_0, .int .i64 a0_1, .int .i64 a0_2, .int .i64 a0_3, .int .i64 a0_4, .int .i64 a0_5]] ?_
                               with_reducible refine (impl_blindsOf.calls k _ _ l0_0 a0_1 a0_2 a0_3 a0_4 a0_5 t310 _ ?side1 ?side2 A5.out).mono ?_
                               (case side1 => exact cA (Kd.C_below HR0_0.out HB.out))
                               (case side2 => exact HC0_0.out)
                               rintro e w18 ⟨v311, rfl, ho0, hb⟩
                               refine ⟨_, rfl, ?_⟩
                               have HO312 := Aside0.mk (Kd.R_lower (Kd.R_new' ho0 (Kd.R_lt (rA HO309.out))) (below_size (bA HB.out)))
                               replace HO309 := Aside0.mk (Kd.R_elder' (rA HO309.out) (Kd.R_base ho0) hb)
                               replace BK304 := Aside0.mk (blk_below (kA BK304.out) hb)
                               replace BK305 := Aside0.mk (blk_below (kA BK305.out) hb)
                               replace HB := Aside0.mk (below_step (bA HB.out) hb)
                               (try clear hb)
                               (try clear ho0)
                               refine hK.out _ _ (cy6 BK304.out) (fun hHeld => ?_)
                               clear hK K
                               refine nO 19 ?_
                               exact nP (hJ2_4 (v308, v311) _ ⟨hHeld, (by (with_reducible repeat (first | apply Kd.R_alloc | apply Kd.R_drewN | apply Kd.R_drew)); exact Kd.R_mono HO309.out (fun _ hk => hk.2)), (by (with_reducible repeat (first | apply Kd.R_alloc | apply Kd.R_drewN | apply Kd.R_drew)); exact Kd.R_mono HO312.out (fun _ hk => hk.2)), (kA BK304.out), (kA BK305.out), (bA HB.out)⟩)
                              ·skip
                               refine Kd.R_make_step Kd.bool _ 4 (by rfl) (N := 23) rfl 23 _ _ rfl (l0_0.length : Int) rfl rfl Try.underlying23 (.bool false) 1 info4 rfl (by decide) (by omega) false (ok := fun _ => True) (okp := fun _ => True) rfl (fun _ hk => hk) trivial (dA) (Nat.le_trans (Nat.mul_le_mul_right _ (dA : (l0_0.length : Int).toNat ≤ 281474976710656)) (by omega)) (Below.refl _ _) (Nat.le_refl _) ?_
                               intro v317 w18 ho19 hb hg_ hnew_
                               clear hg_ hnew_
                               (first | rw [← Ny316.out] at ho19 | (simp only [Int.reduceToNat] at ho19; rw [← Ny316.out] at ho19))
                               replace HO309 := Aside0.mk (Kd.R_below (rA HO309.out) hb)
                               have HO318 := Aside0.mk (Kd.R_lower ho19 (below_size (bA HB.out)))
                               replace BK304 := Aside0.mk (blk_below (kA BK304.out) hb)
                               replace BK305 := Aside0.mk (blk_below (kA BK305.out) hb)
                               replace HB := Aside0.mk (below_step (bA HB.out) hb)
                               clear hb ho19
                               refine hK.out _ _ (cy6 BK304.out) (fun hHeld => ?_)
                               clear hK K
                               refine nO 23 ?_
                               exact nP (hJ2_8 (v308, v317) _ ⟨hHeld, (rA HO309.out), (rA HO318.out), (kA BK304.out), (kA BK305.out), (bA HB.out)⟩)
                              ·skip
                               refine Kd.R_make_step Kd.bool _ 4 (by rfl) (N := 25) rfl 23 _ _ rfl (l0_0.length : Int) rfl rfl Try.underlying23 (.bool false) 1 info4 rfl (by decide) (by omega) false (ok := fun _ => True) (okp := fun _ => True) rfl (fun _ hk => hk) trivial (dA) (Nat.le_trans (Nat.mul_le_mul_right _ (dA : (l0_0.length : Int).toNat ≤ 281474976710656)) (by omega)) (Below.refl _ _) (Nat.le_refl _) ?_
                               intro v320 w18 ho19 hb hg_ hnew_
                               clear hg_ hnew_
                               (first | rw [← Ny319.out] at ho19 | (simp only [Int.reduceToNat] at ho19; rw [← Ny319.out] at ho19))
                               replace HO309 := Aside0.mk (Kd.R_below (rA HO309.out) hb)
                               have HO321 := Aside0.mk (Kd.R_lower ho19 (below_size (bA HB.out)))
                               replace BK304 := Aside0.mk (blk_below (kA BK304.out) hb)
                               replace BK305 := Aside0.mk (blk_below (kA BK305.out) hb)
                               replace HB := Aside0.mk (below_step (bA HB.out) hb)
                               clear hb ho19
                               refine hK.out _ _ (cy6 BK304.out) (fun hHeld => ?_)
                               clear hK K
                               refine nO 25 ?_
                               exact nP (hJ2_10 (v308, v320) _ ⟨hHeld, (rA HO309.out), (rA HO321.out), (kA BK304.out), (kA BK305.out), (bA HB.out)⟩)
                              ·skip
                               refine box_step ?hg (N := 5) ?hd (cs := #[.slice none 0 0, .slice none 0 0, .slice none 0 0, .slice none 0 0, .slice none 0 0, .int .i64 0, .int .i64 0, .int .i64 0, .int .i64 0]) (t := 28) ?hr ?_; (case hd => rfl); (case hg => rfl); (case hr => first | (go_simp; done) | (go_simp; rfl))
                               intro gb322 hg w18 hbox hb
                               replace HO309 := Aside0.mk (Kd.R_below (rA HO309.out) hb)
                               have BK322 := Aside0.mk (hbox)
                               have GW322 := Aside0.mk (gE hg (bA HB.out))
                               have GE322 := Aside0.mk (gE hg (bA HB.out))
                               replace HB := Aside0.mk (below_step (bA HB.out) hb)
                               have NB304_322 := Aside0.mk ((by rw [hg]; exact Nat.ne_of_lt (blk_lt (kA BK304.out)) : gb304 ≠ gb322))
                               have NB322_304 := Aside0.mk ((by rw [hg]; exact Nat.ne_of_gt (blk_lt (kA BK304.out)) : gb322 ≠ gb304))
                               replace BK304 := Aside0.mk (blk_below (kA BK304.out) hb)
                               have NB305_322 := Aside0.mk ((by rw [hg]; exact Nat.ne_of_lt (blk_lt (kA BK305.out)) : gb305 ≠ gb322))
                               have NB322_305 := Aside0.mk ((by rw [hg]; exact Nat.ne_of_gt (blk_lt (kA BK305.out)) : gb322 ≠ gb305))
                               replace BK305 := Aside0.mk (blk_below (kA BK305.out) hb)
                               clear hb hbox hg
                               refine hK.out _ _ (cy6 BK304.out) (fun hHeld => ?_)
                               clear hK K
                               refine nO 5 ?_
                               exact nP (hJ2_16 (v308, gb322) _ ⟨hHeld, (rA HO309.out), (kA BK304.out), (kA BK305.out), (kA BK322.out), GW322.out, GE322.out, NB304_322.out, NB322_304.out, NB305_322.out, NB322_305.out, (bA HB.out)⟩)
                            ·skip
                             rintro ⟨v320, gb322⟩ w19 ⟨hS_, h0_, h1_, h2_, h3_, h4_, h5_, h6_, h7_, h8_, h9_, h10_⟩
                             try dsimp only at hS_ h0_ h1_ h2_ h3_ h4_ h5_ h6_ h7_ h8_ h9_ h10_
                             clear BK304 BK305 HB
                             have HO321 := Aside0.mk h0_
                             have BK304 := Aside0.mk h1_
                             have BK305 := Aside0.mk h2_
                             have BK322 := Aside0.mk h3_
                             have GW322 := Aside0.mk h4_
                             have GE322 := Aside0.mk h5_
                             have NB304_322 := Aside0.mk h6_
                             have NB322_304 := Aside0.mk h7_
                             have NB305_322 := Aside0.mk h8_
                             have NB322_305 := Aside0.mk h9_
                             have HB := Aside0.mk h10_
                             clear h0_ h1_ h2_ h3_ h4_ h5_ h6_ h7_ h8_ h9_ h10_
                             have hHeld := hS_
                             refine nQ ?_
                             refine two_ (i := 2) (j := 8) (Ni := some 17) (Nj := some 23) #[true, true, true, true, false, true, false, true, false, true, true, true, true, true, true, false, true, false] #[true, true, false, true, false, true, false, true, true, true, true, true, true, true, true, false, true, false] rfl rfl rfl rfl (two_of HT_.out (by kernel_rfl)) (by decide) (by decide) (fun K hK => ?_) (fun K hK => ?_)
                             ·skip
                              refine gO Try.func89 #[.slice A0_0 l0_0.length c0_0] ?_
                              with_reducible refine (slices_Clone_int64_int64.calls _ _ l0_0 t307 _ ?side1 ?side2 A4.out).mono ?_
                              (case side1 => exact cA (Kd.C_below HR0_0.out HB.out))
                              (case side2 => exact HC0_0.out)
                              rintro e w20 ⟨v308, rfl, ho0, hb⟩
                              refine ⟨_, rfl, ?_⟩
                              replace HO321 := Aside0.mk (Kd.R_below (rA HO321.out) hb)
                              have HO309 := Aside0.mk (Kd.R_lower ho0 (below_size (bA HB.out)))
                              replace BK304 := Aside0.mk (blk_below (kA BK304.out) hb)
                              replace BK305 := Aside0.mk (blk_below (kA BK305.out) hb)
                              replace BK322 := Aside0.mk (blk_below (kA BK322.out) hb)
                              replace HB := Aside0.mk (below_step (bA HB.out) hb)
                              (try clear hb)
                              (try clear ho0)
                              refine hK.out _ _ (cy6 BK304.out) (fun hHeld => ?_)
                              clear hK K
                              refine nO 17 ?_
                              exact nP (hJ2_10_16 (v308, v320, gb322) _ ⟨hHeld, (rA HO309.out), (rA HO321.out), (kA BK304.out), (kA BK305.out), (kA BK322.out), GW322.out, GE322.out, NB304_322.out, NB322_304.out, NB305_322.out, NB322_305.out, (bA HB.out)⟩)
                             ·skip
                              refine Kd.R_make_step Kd.bool _ 4 (by rfl) (N := 23) rfl 23 _ _ rfl (l0_0.length : Int) rfl rfl Try.underlying23 (.bool false) 1 info4 rfl (by decide) (by omega) false (ok := fun _ => True) (okp := fun _ => True) rfl (fun _ hk => hk) trivial (dA) (Nat.le_trans (Nat.mul_le_mul_right _ (dA : (l0_0.length : Int).toNat ≤ 281474976710656)) (by omega)) (Below.refl _ _) (Nat.le_refl _) ?_
                              intro v317 w20 ho21 hb hg_ hnew_
                              clear hg_ hnew_
                              (first | rw [← Ny316.out] at ho21 | (simp only [Int.reduceToNat] at ho21; rw [← Ny316.out] at ho21))
                              have HO318 := Aside0.mk (Kd.R_lower (Kd.R_new' ho21 (Kd.R_lt (rA HO321.out))) (below_size (bA HB.out)))
                              replace HO321 := Aside0.mk (Kd.R_elder' (rA HO321.out) (Kd.R_base ho21) hb)
                              replace BK304 := Aside0.mk (blk_below (kA BK304.out) hb)
                              replace BK305 := Aside0.mk (blk_below (kA BK305.out) hb)
                              replace BK322 := Aside0.mk (blk_below (kA BK322.out) hb)
                              replace HB := Aside0.mk (below_step (bA HB.out) hb)
                              clear hb ho21
                              refine hK.out _ _ (cy6 BK304.out) (fun hHeld => ?_)
                              clear hK K
                              refine nO 23 ?_
                              exact nP (hJ8_10_16 (v317, v320, gb322) _ ⟨hHeld, (by (with_reducible repeat (first | apply Kd.R_alloc | apply Kd.R_drewN | apply Kd.R_drew)); exact Kd.R_mono HO318.out (fun _ hk => hk.2)), (by (with_reducible repeat (first | apply Kd.R_alloc | apply Kd.R_drewN | apply Kd.R_drew)); exact Kd.R_mono HO321.out (fun _ hk => hk.2)), (kA BK304.out), (kA BK305.out), (kA BK322.out), GW322.out, GE322.out, NB304_322.out, NB322_304.out, NB305_322.out, NB322_305.out, (bA HB.out)⟩)
                           ·skip
                            rintro ⟨v317, gb322⟩ w19 ⟨hS_, h0_, h1_, h2_, h3_, h4_, h5_, h6_, h7_, h8_, h9_, h10_⟩
                            try dsimp only at hS_ h0_ h1_ h2_ h3_ h4_ h5_ h6_ h7_ h8_ h9_ h10_
                            clear BK304 BK305 HB
                            have HO318 := Aside0.mk h0_
                            have BK304 := Aside0.mk h1_
                            have BK305 := Aside0.mk h2_
                            have BK322 := Aside0.mk h3_
                            have GW322 := Aside0.mk h4_
                            have GE322 := Aside0.mk h5_
                            have NB304_322 := Aside0.mk h6_
                            have NB322_304 := Aside0.mk h7_
                            have NB305_322 := Aside0.mk h8_
                            have NB322_305 := Aside0.mk h9_
                            have HB := Aside0.mk h10_
                            clear h0_ h1_ h2_ h3_ h4_ h5_ h6_ h7_ h8_ h9_ h10_
                            have hHeld := hS_
                            refine nQ ?_
                            refine two_ (i := 2) (j := 10) (Ni := some 17) (Nj := some 25) #[true, true, true, true, false, true, false, true, true, true, false, true, true, true, true, false, true, false] #[true, true, false, true, false, true, false, true, true, true, true, true, true, true, true, false, true, false] rfl rfl rfl rfl (two_of HT_.out (by kernel_rfl)) (by decide) (by decide) (fun K hK => ?_) (fun K hK => ?_)
                            ·skip
                             refine gO Try.func89 #[.slice A0_0 l0_0.length c0_0] ?_
                             with_reducible refine (slices_Clone_int64_int64.calls _ _ l0_0 t307 _ ?side1 ?side2 A4.out).mono ?_
                             (case side1 => exact cA (Kd.C_below HR0_0.out HB.out))
                             (case side2 => exact HC0_0.out)
                             rintro e w20 ⟨v308, rfl, ho0, hb⟩
                             refine ⟨_, rfl, ?_⟩
                             replace HO318 := Aside0.mk (Kd.R_below (rA HO318.out) hb)
                             have HO309 := Aside0.mk (Kd.R_lower ho0 (below_size (bA HB.out)))
                             replace BK304 := Aside0.mk (blk_below (kA BK304.out) hb)
                             replace BK305 := Aside0.mk (blk_below (kA BK305.out) hb)
                             replace BK322 := Aside0.mk (blk_below (kA BK322.out) hb)
                             replace HB := Aside0.mk (below_step (bA HB.out) hb)
                             (try clear hb)
                             (try clear ho0)
                             refine hK.out _ _ (cy6 BK304.out) (fun hHeld => ?_)
                             clear hK K
                             refine nO 17 ?_
                             exact nP (hJ2_8_16 (v308, v317, gb322) _ ⟨hHeld, (rA HO309.out), (rA HO318.out), (kA BK304.out), (kA BK305.out), (kA BK322.out), GW322.out, GE322.out, NB304_322.out, NB322_304.out, NB305_322.out, NB322_305.out, (bA HB.out)⟩)
                            ·skip
                             refine Kd.R_make_step Kd.bool _ 4 (by rfl) (N := 25) rfl 23 _ _ rfl (l0_0.length : Int) rfl rfl Try.underlying23 (.bool false) 1 info4 rfl (by decide) (by omega) false (ok := fun _ => True) (okp := fun _ => True) rfl (fun _ hk => hk) trivial (dA) (Nat.le_trans (Nat.mul_le_mul_right _ (dA : (l0_0.length : Int).toNat ≤ 281474976710656)) (by omega)) (Below.refl _ _) (Nat.le_refl _) ?_
                             intro v320 w20 ho21 hb hg_ hnew_
                             clear hg_ hnew_
                             (first | rw [← Ny319.out] at ho21 | (simp only [Int.reduceToNat] at ho21; rw [← Ny319.out] at ho21))
                             have HO321 := Aside0.mk (Kd.R_lower (Kd.R_new' ho21 (Kd.R_lt (rA HO318.out))) (below_size (bA HB.out)))
                             replace HO318 := Aside0.mk (Kd.R_elder' (rA HO318.out) (Kd.R_base ho21) hb)
                             replace BK304 := Aside0.mk (blk_below (kA BK304.out) hb)
                             replace BK305 := Aside0.mk (blk_below (kA BK305.out) hb)
                             replace BK322 := Aside0.mk (blk_below (kA BK322.out) hb)
                             replace HB := Aside0.mk (below_step (bA HB.out) hb)
                             clear hb ho21
                             refine hK.out _ _ (cy6 BK304.out) (fun hHeld => ?_)
                             clear hK K
                             refine nO 25 ?_
                             exact nP (hJ8_10_16 (v317, v320, gb322) _ ⟨hHeld, (by (with_reducible repeat (first | apply Kd.R_alloc | apply Kd.R_drewN | apply Kd.R_drew)); exact Kd.R_mono HO318.out (fun _ hk => hk.2)), (by (with_reducible repeat (first | apply Kd.R_alloc | apply Kd.R_drewN | apply Kd.R_drew)); exact Kd.R_mono HO321.out (fun _ hk => hk.2)), (kA BK304.out), (kA BK305.out), (kA BK322.out), GW322.out, GE322.out, NB304_322.out, NB322_304.out, NB305_322.out, NB322_305.out, (bA HB.out)⟩)
                          ·skip
                           rintro ⟨v317, v320⟩ w20 ⟨hS_, h0_, h1_, h2_, h3_, h4_⟩
                           try dsimp only at hS_ h0_ h1_ h2_ h3_ h4_
                           clear BK304 BK305 HB
                           have HO318 := Aside0.mk h0_
                           have HO321 := Aside0.mk h1_
                           have BK304 := Aside0.mk h2_
                           have BK305 := Aside0.mk h3_
                           have HB := Aside0.mk h4_
                           clear h0_ h1_ h2_ h3_ h4_
                           have hHeld := hS_
                           refine nQ ?_
                           refine two_ (i := 2) (j := 16) (Ni := some 17) (Nj := some 5) #[true, true, true, true, false, true, false, true, true, true, true, true, true, true, true, false, false, false] #[true, true, false, true, false, true, false, true, true, true, true, true, true, true, true, false, true, false] rfl rfl rfl rfl (two_of HT_.out (by kernel_rfl)) (by decide) (by decide) (fun K hK => ?_) (fun K hK => ?_)
                           ·skip
                            refine gO Try.func89 #[.slice A0_0 l0_0.length c0_0] ?_
                            with_reducible refine (slices_Clone_int64_int64.calls _ _ l0_0 t307 _ ?side1 ?side2 A4.out).mono ?_
                            (case side1 => exact cA (Kd.C_below HR0_0.out HB.out))
                            (case side2 => exact HC0_0.out)
                            rintro e w21 ⟨v308, rfl, ho0, hb⟩
                            refine ⟨_, rfl, ?_⟩
                            replace HO318 := Aside0.mk (Kd.R_below (rA HO318.out) hb)
                            replace HO321 := Aside0.mk (Kd.R_below (rA HO321.out) hb)
                            have HO309 := Aside0.mk (Kd.R_lower ho0 (below_size (bA HB.out)))
                            replace BK304 := Aside0.mk (blk_below (kA BK304.out) hb)
                            replace BK305 := Aside0.mk (blk_below (kA BK305.out) hb)
                            replace HB := Aside0.mk (below_step (bA HB.out) hb)
                            (try clear hb)
                            (try clear ho0)
                            refine hK.out _ _ (cy6 BK304.out) (fun hHeld => ?_)
                            clear hK K
                            refine nO 17 ?_
                            exact nP (hJ2_8_10 (v308, v317, v320) _ ⟨hHeld, (rA HO309.out), (rA HO318.out), (rA HO321.out), (kA BK304.out), (kA BK305.out), (bA HB.out)⟩)
                           ·skip
                            refine box_step ?hg (N := 5) ?hd (cs := #[.slice none 0 0, .slice none 0 0, .slice none 0 0, .slice none 0 0, .slice none 0 0, .int .i64 0, .int .i64 0, .int .i64 0, .int .i64 0]) (t := 28) ?hr ?_; (case hd => rfl); (case hg => rfl); (case hr => first | (go_simp; done) | (go_simp; rfl))
                            intro gb322 hg w21 hbox hb
                            replace HO318 := Aside0.mk (Kd.R_below (rA HO318.out) hb)
                            replace HO321 := Aside0.mk (Kd.R_below (rA HO321.out) hb)
                            have BK322 := Aside0.mk (hbox)
                            have GW322 := Aside0.mk (gE hg (bA HB.out))
                            have GE322 := Aside0.mk (gE hg (bA HB.out))
                            replace HB := Aside0.mk (below_step (bA HB.out) hb)
                            have NB304_322 := Aside0.mk ((by rw [hg]; exact Nat.ne_of_lt (blk_lt (kA BK304.out)) : gb304 ≠ gb322))
                            have NB322_304 := Aside0.mk ((by rw [hg]; exact Nat.ne_of_gt (blk_lt (kA BK304.out)) : gb322 ≠ gb304))
                            replace BK304 := Aside0.mk (blk_below (kA BK304.out) hb)
                            have NB305_322 := Aside0.mk ((by rw [hg]; exact Nat.ne_of_lt (blk_lt (kA BK305.out)) : gb305 ≠ gb322))
                            have NB322_305 := Aside0.mk ((by rw [hg]; exact Nat.ne_of_gt (blk_lt (kA BK305.out)) : gb322 ≠ gb305))
                            replace BK305 := Aside0.mk (blk_below (kA BK305.out) hb)
                            clear hb hbox hg
                            refine hK.out _ _ (cy6 BK304.out) (fun hHeld => ?_)
                            clear hK K
                            refine nO 5 ?_
                            exact nP (hJ8_10_16 (v317, v320, gb322) _ ⟨hHeld, (rA HO318.out), (rA HO321.out), (kA BK304.out), (kA BK305.out), (kA BK322.out), GW322.out, GE322.out, NB304_322.out, NB322_304.out, NB305_322.out, NB322_305.out, (bA HB.out)⟩)
                         ·skip
                          rintro ⟨v308, gb322⟩ w18 ⟨hS_, h0_, h1_, h2_, h3_, h4_, h5_, h6_, h7_, h8_, h9_, h10_⟩
                          try dsimp only at hS_ h0_ h1_ h2_ h3_ h4_ h5_ h6_ h7_ h8_ h9_ h10_
                          clear BK304 BK305 HB
                          have HO309 := Aside0.mk h0_
                          have BK304 := Aside0.mk h1_
                          have BK305 := Aside0.mk h2_
                          have BK322 := Aside0.mk h3_
                          have GW322 := Aside0.mk h4_
                          have GE322 := Aside0.mk h5_
                          have NB304_322 := Aside0.mk h6_
                          have NB322_304 := Aside0.mk h7_
                          have NB305_322 := Aside0.mk h8_
                          have NB322_305 := Aside0.mk h9_
                          have HB := Aside0.mk h10_
                          clear h0_ h1_ h2_ h3_ h4_ h5_ h6_ h7_ h8_ h9_ h10_
                          have hHeld := hS_
                          refine nQ ?_
                          refine three_ (i := 4) (j := 8) (k := 10) (Ni := some 19) (Nj := some 23) (Nk := some 25) #[true, true, true, true, true, true, false, true, false, true, false, true, true, true, true, false, true, false] #[true, true, true, true, false, true, false, true, true, true, false, true, true, true, true, false, true, false] #[true, true, true, true, false, true, false, true, false, true, true, true, true, true, true, false, true, false] rfl rfl rfl rfl rfl rfl (three_of HT_.out (by kernel_rfl)) (by decide) (by decide) (by decide) (fun K hK => ?_) (fun K hK => ?_) (fun K hK => ?_)
                          ·skip
                           refine gO Try.func90 #[.agg #[.slice A0_0 l0_0.length c0_0, .int .i64 a0_1, .int .i64 a0_2, .int .i64 a0_3, .int .i64 a0_4, .int .i64 a0_5]] ?_
                           with_reducible refine (impl_blindsOf.calls k _ _ l0_0 a0_1 a0_2 a0_3 a0_4 a0_5 t310 _ ?side1 ?side2 A5.out).mono ?_
                           (case side1 => exact cA (Kd.C_below HR0_0.out HB.out))
                           (case side2 => exact HC0_0.out)
                           rintro e w19 ⟨v311, rfl, ho0, hb⟩
                           refine ⟨_, rfl, ?_⟩
                           have HO312 := Aside0.mk (Kd.R_lower (Kd.R_new' ho0 (Kd.R_lt (rA HO309.out))) (below_size (bA HB.out)))
                           replace HO309 := Aside0.mk (Kd.R_elder' (rA HO309.out) (Kd.R_base ho0) hb)
                           replace BK304 := Aside0.mk (blk_below (kA BK304.out) hb)
                           replace BK305 := Aside0.mk (blk_below (kA BK305.out) hb)
                           replace BK322 := Aside0.mk (blk_below (kA BK322.out) hb)
                           replace HB := Aside0.mk (below_step (bA HB.out) hb)
                           (try clear hb)
                           (try clear ho0)
                           refine hK.out _ _ (cy6 BK304.out) (fun hHeld => ?_)
                           clear hK K
                           refine nO 19 ?_
                           exact nP (hJ2_4_16 (v308, v311, gb322) _ ⟨hHeld, (by (with_reducible repeat (first | apply Kd.R_alloc | apply Kd.R_drewN | apply Kd.R_drew)); exact Kd.R_mono HO309.out (fun _ hk => hk.2)), (by (with_reducible repeat (first | apply Kd.R_alloc | apply Kd.R_drewN | apply Kd.R_drew)); exact Kd.R_mono HO312.out (fun _ hk => hk.2)), (kA BK304.out), (kA BK305.out), (kA BK322.out), GW322.out, GE322.out, NB304_322.out, NB322_304.out, NB305_322.out, NB322_305.out, (bA HB.out)⟩)
                          ·skip
                           refine Kd.R_make_step Kd.bool _ 4 (by rfl) (N := 23) rfl 23 _ _ rfl (l0_0.length : Int) rfl rfl Try.underlying23 (.bool false) 1 info4 rfl (by decide) (by omega) false (ok := fun _ => True) (okp := fun _ => True) rfl (fun _ hk => hk) trivial (dA) (Nat.le_trans (Nat.mul_le_mul_right _ (dA : (l0_0.length : Int).toNat ≤ 281474976710656)) (by omega)) (Below.refl _ _) (Nat.le_refl _) ?_
                           intro v317 w19 ho20 hb hg_ hnew_
                           clear hg_ hnew_
                           (first | rw [← Ny316.out] at ho20 | (simp only [Int.reduceToNat] at ho20; rw [← Ny316.out] at ho20))
                           replace HO309 := Aside0.mk (Kd.R_below (rA HO309.out) hb)
                           have HO318 := Aside0.mk (Kd.R_lower ho20 (below_size (bA HB.out)))
                           replace BK304 := Aside0.mk (blk_below (kA BK304.out) hb)
                           replace BK305 := Aside0.mk (blk_below (kA BK305.out) hb)
                           replace BK322 := Aside0.mk (blk_below (kA BK322.out) hb)
                           replace HB := Aside0.mk (below_step (bA HB.out) hb)
                           clear hb ho20
                           refine hK.out _ _ (cy6 BK304.out) (fun hHeld => ?_)
                           clear hK K
                           refine nO 23 ?_
                           exact nP (hJ2_8_16 (v308, v317, gb322) _ ⟨hHeld, (rA HO309.out), (rA HO318.out), (kA BK304.out), (kA BK305.out), (kA BK322.out), GW322.out, GE322.out, NB304_322.out, NB322_304.out, NB305_322.out, NB322_305.out, (bA HB.out)⟩)
                          ·skip
                           refine Kd.R_make_step Kd.bool _ 4 (by rfl) (N := 25) rfl 23 _ _ rfl (l0_0.length : Int) rfl rfl Try.underlying23 (.bool false) 1 info4 rfl (by decide) (by omega) false (ok := fun _ => True) (okp := fun _ => True) rfl (fun _ hk => hk) trivial (dA) (Nat.le_trans (Nat.mul_le_mul_right _ (dA : (l0_0.length : Int).toNat ≤ 281474976710656)) (by omega)) (Below.refl _ _) (Nat.le_refl _) ?_
                           intro v320 w19 ho20 hb hg_ hnew_
                           clear hg_ hnew_
                           (first | rw [← Ny319.out] at ho20 | (simp only [Int.reduceToNat] at ho20; rw [← Ny319.out] at ho20))
                           replace HO309 := Aside0.mk (Kd.R_below (rA HO309.out) hb)
                           have HO321 := Aside0.mk (Kd.R_lower ho20 (below_size (bA HB.out)))
                           replace BK304 := Aside0.mk (blk_below (kA BK304.out) hb)
                           replace BK305 := Aside0.mk (blk_below (kA BK305.out) hb)
                           replace BK322 := Aside0.mk (blk_below (kA BK322.out) hb)
                           replace HB := Aside0.mk (below_step (bA HB.out) hb)
                           clear hb ho20
                           refine hK.out _ _ (cy6 BK304.out) (fun hHeld => ?_)
                           clear hK K
                           refine nO 25 ?_
                           exact nP (hJ2_10_16 (v308, v320, gb322) _ ⟨hHeld, (rA HO309.out), (rA HO321.out), (kA BK304.out), (kA BK305.out), (kA BK322.out), GW322.out, GE322.out, NB304_322.out, NB322_304.out, NB305_322.out, NB322_305.out, (bA HB.out)⟩)
                        ·skip
                         rintro ⟨v308, v320⟩ w19 ⟨hS_, h0_, h1_, h2_, h3_, h4_⟩
                         try dsimp only at hS_ h0_ h1_ h2_ h3_ h4_
                         clear BK304 BK305 HB
                         have HO309 := Aside0.mk h0_
                         have HO321 := Aside0.mk h1_
                         have BK304 := Aside0.mk h2_
                         have BK305 := Aside0.mk h3_
                         have HB := Aside0.mk h4_
                         clear h0_ h1_ h2_ h3_ h4_
                         have hHeld := hS_
                         refine nQ ?_
                         refine three_ (i := 4) (j := 8) (k := 16) (Ni := some 19) (Nj := some 23) (Nk := some 5) #[true, true, true, true, true, true, false, true, false, true, true, true, true, true, true, false, false, false] #[true, true, true, true, false, true, false, true, true, true, true, true, true, true, true, false, false, false] #[true, true, true, true, false, true, false, true, false, true, true, true, true, true, true, false, true, false] rfl rfl rfl rfl rfl rfl (three_of HT_.out (by kernel_rfl)) (by decide) (by decide) (by decide) (fun K hK => ?_) (fun K hK => ?_) (fun K hK => ?_)
                         ·skip
                          refine gO Try.func90 #[.agg #[.slice A0_0 l0_0.length c0_0, .int .i64 a0_1, .int .i64 a0_2, .int .i64 a0_3, .int .i64 a0_4, .int .i64 a0_5]] ?_
                          with_reducible refine (impl_blindsOf.calls k _ _ l0_0 a0_1 a0_2 a0_3 a0_4 a0_5 t310 _ ?side1 ?side2 A5.out).mono ?_
                          (case side1 => exact cA (Kd.C_below HR0_0.out HB.out))
                          (case side2 => exact HC0_0.out)
                          rintro e w20 ⟨v311, rfl, ho0, hb⟩
                          refine ⟨_, rfl, ?_⟩
                          replace HO321 := Aside0.mk (Kd.R_below (rA HO321.out) hb)
                          have HO312 := Aside0.mk (Kd.R_lower (Kd.R_new' ho0 (Kd.R_lt (rA HO309.out))) (below_size (bA HB.out)))
                          replace HO309 := Aside0.mk (Kd.R_elder' (rA HO309.out) (Kd.R_base ho0) hb)
                          replace BK304 := Aside0.mk (blk_below (kA BK304.out) hb)
                          replace BK305 := Aside0.mk (blk_below (kA BK305.out) hb)
                          replace HB := Aside0.mk (below_step (bA HB.out) hb)
                          (try clear hb)
                          (try clear ho0)
                          refine hK.out _ _ (cy6 BK304.out) (fun hHeld => ?_)
                          clear hK K
                          refine nO 19 ?_
                          exact nP (hJ2_4_10 (v308, v311, v320) _ ⟨hHeld, (by (with_reducible repeat (first | apply Kd.R_alloc | apply Kd.R_drewN | apply Kd.R_drew)); exact Kd.R_mono HO309.out (fun _ hk => hk.2)), (by (with_reducible repeat (first | apply Kd.R_alloc | apply Kd.R_drewN | apply Kd.R_drew)); exact Kd.R_mono HO312.out (fun _ hk => hk.2)), (rA HO321.out), (kA BK304.out), (kA BK305.out), (bA HB.out)⟩)
                         ·skip
                          refine Kd.R_make_step Kd.bool _ 4 (by rfl) (N := 23) rfl 23 _ _ rfl (l0_0.length : Int) rfl rfl Try.underlying23 (.bool false) 1 info4 rfl (by decide) (by omega) false (ok := fun _ => True) (okp := fun _ => True) rfl (fun _ hk => hk) trivial (dA) (Nat.le_trans (Nat.mul_le_mul_right _ (dA : (l0_0.length : Int).toNat ≤ 281474976710656)) (by omega)) (Below.refl _ _) (Nat.le_refl _) ?_
                          intro v317 w20 ho21 hb hg_ hnew_
                          clear hg_ hnew_
                          (first | rw [← Ny316.out] at ho21 | (simp only [Int.reduceToNat] at ho21; rw [← Ny316.out] at ho21))
                          replace HO309 := Aside0.mk (Kd.R_below (rA HO309.out) hb)
                          have HO318 := Aside0.mk (Kd.R_lower (Kd.R_new' ho21 (Kd.R_lt (rA HO321.out))) (below_size (bA HB.out)))
                          replace HO321 := Aside0.mk (Kd.R_elder' (rA HO321.out) (Kd.R_base ho21) hb)
                          replace BK304 := Aside0.mk (blk_below (kA BK304.out) hb)
                          replace BK305 := Aside0.mk (blk_below (kA BK305.out) hb)
                          replace HB := Aside0.mk (below_step (bA HB.out) hb)
                          clear hb ho21
                          refine hK.out _ _ (cy6 BK304.out) (fun hHeld => ?_)
                          clear hK K
                          refine nO 23 ?_
                          exact nP (hJ2_8_10 (v308, v317, v320) _ ⟨hHeld, (rA HO309.out), (by (with_reducible repeat (first | apply Kd.R_alloc | apply Kd.R_drewN | apply Kd.R_drew)); exact Kd.R_mono HO318.out (fun _ hk => hk.2)), (by (with_reducible repeat (first | apply Kd.R_alloc | apply Kd.R_drewN | apply Kd.R_drew)); exact Kd.R_mono HO321.out (fun _ hk => hk.2)), (kA BK304.out), (kA BK305.out), (bA HB.out)⟩)
                         ·skip
                          refine box_step ?hg (N := 5) ?hd (cs := #[.slice none 0 0, .slice none 0 0, .slice none 0 0, .slice none 0 0, .slice none 0 0, .int .i64 0, .int .i64 0, .int .i64 0, .int .i64 0]) (t := 28) ?hr ?_; (case hd => rfl); (case hg => rfl); (case hr => first | (go_simp; done) | (go_simp; rfl))
                          intro gb322 hg w20 hbox hb
                          replace HO309 := Aside0.mk (Kd.R_below (rA HO309.out) hb)
                          replace HO321 := Aside0.mk (Kd.R_below (rA HO321.out) hb)
                          have BK322 := Aside0.mk (hbox)
                          have GW322 := Aside0.mk (gE hg (bA HB.out))
                          have GE322 := Aside0.mk (gE hg (bA HB.out))
                          replace HB := Aside0.mk (below_step (bA HB.out) hb)
                          have NB304_322 := Aside0.mk ((by rw [hg]; exact Nat.ne_of_lt (blk_lt (kA BK304.out)) : gb304 ≠ gb322))
                          have NB322_304 := Aside0.mk ((by rw [hg]; exact Nat.ne_of_gt (blk_lt (kA BK304.out)) : gb322 ≠ gb304))
                          replace BK304 := Aside0.mk (blk_below (kA BK304.out) hb)
                          have NB305_322 := Aside0.mk ((by rw [hg]; exact Nat.ne_of_lt (blk_lt (kA BK305.out)) : gb305 ≠ gb322))
                          have NB322_305 := Aside0.mk ((by rw [hg]; exact Nat.ne_of_gt (blk_lt (kA BK305.out)) : gb322 ≠ gb305))
                          replace BK305 := Aside0.mk (blk_below (kA BK305.out) hb)
                          clear hb hbox hg
                          refine hK.out _ _ (cy6 BK304.out) (fun hHeld => ?_)
                          clear hK K
                          refine nO 5 ?_
                          exact nP (hJ2_10_16 (v308, v320, gb322) _ ⟨hHeld, (rA HO309.out), (rA HO321.out), (kA BK304.out), (kA BK305.out), (kA BK322.out), GW322.out, GE322.out, NB304_322.out, NB322_304.out, NB305_322.out, NB322_305.out, (bA HB.out)⟩)
                       ·skip
                        rintro ⟨v308, v317⟩ w19 ⟨hS_, h0_, h1_, h2_, h3_, h4_⟩
                        try dsimp only at hS_ h0_ h1_ h2_ h3_ h4_
                        clear BK304 BK305 HB
                        have HO309 := Aside0.mk h0_
                        have HO318 := Aside0.mk h1_
                        have BK304 := Aside0.mk h2_
                        have BK305 := Aside0.mk h3_
                        have HB := Aside0.mk h4_
                        clear h0_ h1_ h2_ h3_ h4_
                        have hHeld := hS_
                        refine nQ ?_
                        refine three_ (i := 4) (j := 10) (k := 16) (Ni := some 19) (Nj := some 25) (Nk := some 5) #[true, true, true, true, true, true, false, true, true, true, false, true, true, true, true, false, false, false] #[true, true, true, true, false, true, false, true, true, true, true, true, true, true, true, false, false, false] #[true, true, true, true, false, true, false, true, true, true, false, true, true, true, true, false, true, false] rfl rfl rfl rfl rfl rfl (three_of HT_.out (by kernel_rfl)) (by decide) (by decide) (by decide) (fun K hK => ?_) (fun K hK => ?_) (fun K hK => ?_)
                        ·skip
                         refine gO Try.func90 #[.agg #[.slice A0_0 l0_0.length c0_0, .int .i64 a0_1, .int .i64 a0_2, .int .i64 a0_3, .int .i64 a0_4, .int .i64 a0_5]] ?_
                         with_reducible refine (impl_blindsOf.calls k _ _ l0_0 a0_1 a0_2 a0_3 a0_4 a0_5 t310 _ ?side1 ?side2 A5.out).mono ?_
                         (case side1 => exact cA (Kd.C_below HR0_0.out HB.out))
                         (case side2 => exact HC0_0.out)
                         rintro e w20 ⟨v311, rfl, ho0, hb⟩
                         refine ⟨_, rfl, ?_⟩
                         replace HO318 := Aside0.mk (Kd.R_below (rA HO318.out) hb)
                         have HO312 := Aside0.mk (Kd.R_lower (Kd.R_new' ho0 (Kd.R_lt (rA HO309.out))) (below_size (bA HB.out)))
                         replace HO309 := Aside0.mk (Kd.R_elder' (rA HO309.out) (Kd.R_base ho0) hb)
                         replace BK304 := Aside0.mk (blk_below (kA BK304.out) hb)
                         replace BK305 := Aside0.mk (blk_below (kA BK305.out) hb)
                         replace HB := Aside0.mk (below_step (bA HB.out) hb)
                         (try clear hb)
                         (try clear ho0)
                         refine hK.out _ _ (cy6 BK304.out) (fun hHeld => ?_)
                         clear hK K
                         refine nO 19 ?_
                         exact nP (hJ2_4_8 (v308, v311, v317) _ ⟨hHeld, (by (with_reducible repeat (first | apply Kd.R_alloc | apply Kd.R_drewN | apply Kd.R_drew)); exact Kd.R_mono HO309.out (fun _ hk => hk.2)), (by (with_reducible repeat (first | apply Kd.R_alloc | apply Kd.R_drewN | apply Kd.R_drew)); exact Kd.R_mono HO312.out (fun _ hk => hk.2)), (rA HO318.out), (kA BK304.out), (kA BK305.out), (bA HB.out)⟩)
                        ·skip
                         refine Kd.R_make_step Kd.bool _ 4 (by rfl) (N := 25) rfl 23 _ _ rfl (l0_0.length : Int) rfl rfl Try.underlying23 (.bool false) 1 info4 rfl (by decide) (by omega) false (ok := fun _ => True) (okp := fun _ => True) rfl (fun _ hk => hk) trivial (dA) (Nat.le_trans (Nat.mul_le_mul_right _ (dA : (l0_0.length : Int).toNat ≤ 281474976710656)) (by omega)) (Below.refl _ _) (Nat.le_refl _) ?_
                         intro v320 w20 ho21 hb hg_ hnew_
                         clear hg_ hnew_
                         (first | rw [← Ny319.out] at ho21 | (simp only [Int.reduceToNat] at ho21; rw [← Ny319.out] at ho21))
                         replace HO309 := Aside0.mk (Kd.R_below (rA HO309.out) hb)
                         have HO321 := Aside0.mk (Kd.R_lower (Kd.R_new' ho21 (Kd.R_lt (rA HO318.out))) (below_size (bA HB.out)))
                         replace HO318 := Aside0.mk (Kd.R_elder' (rA HO318.out) (Kd.R_base ho21) hb)
                         replace BK304 := Aside0.mk (blk_below (kA BK304.out) hb)
                         replace BK305 := Aside0.mk (blk_below (kA BK305.out) hb)
                         replace HB := Aside0.mk (below_step (bA HB.out) hb)
                         clear hb ho21
                         refine hK.out _ _ (cy6 BK304.out) (fun hHeld => ?_)
                         clear hK K
                         refine nO 25 ?_
                         exact nP (hJ2_8_10 (v308, v317, v320) _ ⟨hHeld, (rA HO309.out), (by (with_reducible repeat (first | apply Kd.R_alloc | apply Kd.R_drewN | apply Kd.R_drew)); exact Kd.R_mono HO318.out (fun _ hk => hk.2)), (by (with_reducible repeat (first | apply Kd.R_alloc | apply Kd.R_drewN | apply Kd.R_drew)); exact Kd.R_mono HO321.out (fun _ hk => hk.2)), (kA BK304.out), (kA BK305.out), (bA HB.out)⟩)
                        ·skip
                         refine box_step ?hg (N := 5) ?hd (cs := #[.slice none 0 0, .slice none 0 0, .slice none 0 0, .slice none 0 0, .slice none 0 0, .int .i64 0, .int .i64 0, .int .i64 0, .int .i64 0]) (t := 28) ?hr ?_; (case hd => rfl); (case hg => rfl); (case hr => first | (go_simp; done) | (go_simp; rfl))
                         intro gb322 hg w20 hbox hb
                         replace HO309 := Aside0.mk (Kd.R_below (rA HO309.out) hb)
                         replace HO318 := Aside0.mk (Kd.R_below (rA HO318.out) hb)
                         have BK322 := Aside0.mk (hbox)
                         have GW322 := Aside0.mk (gE hg (bA HB.out))
                         have GE322 := Aside0.mk (gE hg (bA HB.out))
                         replace HB := Aside0.mk (below_step (bA HB.out) hb)
                         have NB304_322 := Aside0.mk ((by rw [hg]; exact Nat.ne_of_lt (blk_lt (kA BK304.out)) : gb304 ≠ gb322))
                         have NB322_304 := Aside0.mk ((by rw [hg]; exact Nat.ne_of_gt (blk_lt (kA BK304.out)) : gb322 ≠ gb304))
                         replace BK304 := Aside0.mk (blk_below (kA BK304.out) hb)
                         have NB305_322 := Aside0.mk ((by rw [hg]; exact Nat.ne_of_lt (blk_lt (kA BK305.out)) : gb305 ≠ gb322))
                         have NB322_305 := Aside0.mk ((by rw [hg]; exact Nat.ne_of_gt (blk_lt (kA BK305.out)) : gb322 ≠ gb305))
                         replace BK305 := Aside0.mk (blk_below (kA BK305.out) hb)
                         clear hb hbox hg
                         refine hK.out _ _ (cy6 BK304.out) (fun hHeld => ?_)
                         clear hK K
                         refine nO 5 ?_
                         exact nP (hJ2_8_16 (v308, v317, gb322) _ ⟨hHeld, (rA HO309.out), (rA HO318.out), (kA BK304.out), (kA BK305.out), (kA BK322.out), GW322.out, GE322.out, NB304_322.out, NB322_304.out, NB305_322.out, NB322_305.out, (bA HB.out)⟩)
                      ·skip
                       rintro ⟨v308, v311⟩ w18 ⟨hS_, h0_, h1_, h2_, h3_, h4_⟩
                       try dsimp only at hS_ h0_ h1_ h2_ h3_ h4_
                       clear BK304 BK305 HB
                       have HO309 := Aside0.mk h0_
                       have HO312 := Aside0.mk h1_
                       have BK304 := Aside0.mk h2_
                       have BK305 := Aside0.mk h3_
                       have HB := Aside0.mk h4_
                       clear h0_ h1_ h2_ h3_ h4_
                       have hHeld := hS_
                       refine nQ ?_
                       refine four_ (i := 6) (j := 8) (k := 10) (m := 16) (Ni := some 21) (Nj := some 23) (Nk := some 25) (Nm := some 5) #[true, true, true, true, true, true, true, true, false, true, false, true, true, true, true, false, false, false] #[true, true, true, true, true, true, false, true, true, true, false, true, true, true, true, false, false, false] #[true, true, true, true, true, true, false, true, false, true, true, true, true, true, true, false, false, false] #[true, true, true, true, true, true, false, true, false, true, false, true, true, true, true, false, true, false] rfl rfl rfl rfl rfl rfl rfl rfl (four_of HT_.out (by kernel_rfl)) (by decide) (by decide) (by decide) (by decide) (fun K hK => ?_) (fun K hK => ?_) (fun K hK => ?_) (fun K hK => ?_)
                       ·skip
                        refine gO Try.func91 #[.agg #[.slice A0_0 l0_0.length c0_0, .int .i64 a0_1, .int .i64 a0_2, .int .i64 a0_3, .int .i64 a0_4, .int .i64 a0_5]] ?_
                        with_reducible refine (impl_antesOf.calls k _ _ l0_0 a0_1 a0_2 a0_3 a0_4 a0_5 t313 _ ?side1 ?side2 A6.out).mono ?_
                        (case side1 => exact cA (Kd.C_below HR0_0.out HB.out))
                        (case side2 => exact HC0_0.out)
                        rintro e w19 ⟨v314, rfl, ho0, hb⟩
                        refine ⟨_, rfl, ?_⟩
                        have HO315 := Aside0.mk (Kd.R_lower (Kd.R_new' (Kd.R_new' ho0 (Kd.R_lt (rA HO309.out))) (Kd.R_lt (rA HO312.out))) (below_size (bA HB.out)))
                        replace HO309 := Aside0.mk (Kd.R_elder' (rA HO309.out) (Kd.R_base ho0) hb)
                        replace HO312 := Aside0.mk (Kd.R_elder' (rA HO312.out) (Kd.R_base ho0) hb)
                        replace BK304 := Aside0.mk (blk_below (kA BK304.out) hb)
                        replace BK305 := Aside0.mk (blk_below (kA BK305.out) hb)
                        replace HB := Aside0.mk (below_step (bA HB.out) hb)
                        (try clear hb)
                        (try clear ho0)
                        refine hK.out _ _ (cy6 BK304.out) (fun hHeld => ?_)
                        clear hK K
                        refine nO 21 ?_
                        exact nP (hJ2_4_6 (v308, v311, v314) _ ⟨hHeld, (rA HO309.out), (rA HO312.out), (by (with_reducible repeat (first | apply Kd.R_alloc | apply Kd.R_drewN | apply Kd.R_drew)); exact Kd.R_mono HO315.out (fun _ hk => ⟨hk.1.2, hk.2⟩)), (kA BK304.out), (kA BK305.out), (bA HB.out)⟩)
                       ·skip
                        refine Kd.R_make_step Kd.bool _ 4 (by rfl) (N := 23) rfl 23 _ _ rfl (l0_0.length : Int) rfl rfl Try.underlying23 (.bool false) 1 info4 rfl (by decide) (by omega) false (ok := fun _ => True) (okp := fun _ => True) rfl (fun _ hk => hk) trivial (dA) (Nat.le_trans (Nat.mul_le_mul_right _ (dA : (l0_0.length : Int).toNat ≤ 281474976710656)) (by omega)) (Below.refl _ _) (Nat.le_refl _) ?_
                        intro v317 w19 ho20 hb hg_ hnew_
                        clear hg_ hnew_
                        (first | rw [← Ny316.out] at ho20 | (simp only [Int.reduceToNat] at ho20; rw [← Ny316.out] at ho20))
                        replace HO309 := Aside0.mk (Kd.R_below (rA HO309.out) hb)
                        replace HO312 := Aside0.mk (Kd.R_below (rA HO312.out) hb)
                        have HO318 := Aside0.mk (Kd.R_lower ho20 (below_size (bA HB.out)))
                        replace BK304 := Aside0.mk (blk_below (kA BK304.out) hb)
                        replace BK305 := Aside0.mk (blk_below (kA BK305.out) hb)
                        replace HB := Aside0.mk (below_step (bA HB.out) hb)
                        clear hb ho20
                        refine hK.out _ _ (cy6 BK304.out) (fun hHeld => ?_)
                        clear hK K
                        refine nO 23 ?_
                        exact nP (hJ2_4_8 (v308, v311, v317) _ ⟨hHeld, (rA HO309.out), (rA HO312.out), (rA HO318.out), (kA BK304.out), (kA BK305.out), (bA HB.out)⟩)
                       ·skip
                        refine Kd.R_make_step Kd.bool _ 4 (by rfl) (N := 25) rfl 23 _ _ rfl (l0_0.length : Int) rfl rfl Try.underlying23 (.bool false) 1 info4 rfl (by decide) (by omega) false (ok := fun _ => True) (okp := fun _ => True) rfl (fun _ hk => hk) trivial (dA) (Nat.le_trans (Nat.mul_le_mul_right _ (dA : (l0_0.length : Int).toNat ≤ 281474976710656)) (by omega)) (Below.refl _ _) (Nat.le_refl _) ?_
                        intro v320 w19 ho20 hb hg_ hnew_
                        clear hg_ hnew_
                        (first | rw [← Ny319.out] at ho20 | (simp only [Int.reduceToNat] at ho20; rw [← Ny319.out] at ho20))
                        replace HO309 := Aside0.mk (Kd.R_below (rA HO309.out) hb)
                        replace HO312 := Aside0.mk (Kd.R_below (rA HO312.out) hb)
                        have HO321 := Aside0.mk (Kd.R_lower ho20 (below_size (bA HB.out)))
                        replace BK304 := Aside0.mk (blk_below (kA BK304.out) hb)
                        replace BK305 := Aside0.mk (blk_below (kA BK305.out) hb)
                        replace HB := Aside0.mk (below_step (bA HB.out) hb)
                        clear hb ho20
                        refine hK.out _ _ (cy6 BK304.out) (fun hHeld => ?_)
                        clear hK K
                        refine nO 25 ?_
                        exact nP (hJ2_4_10 (v308, v311, v320) _ ⟨hHeld, (rA HO309.out), (rA HO312.out), (rA HO321.out), (kA BK304.out), (kA BK305.out), (bA HB.out)⟩)
                       ·skip
                        refine box_step ?hg (N := 5) ?hd (cs := #[.slice none 0 0, .slice none 0 0, .slice none 0 0, .slice none 0 0, .slice none 0 0, .int .i64 0, .int .i64 0, .int .i64 0, .int .i64 0]) (t := 28) ?hr ?_; (case hd => rfl); (case hg => rfl); (case hr => first | (go_simp; done) | (go_simp; rfl))
                        intro gb322 hg w19 hbox hb
                        replace HO309 := Aside0.mk (Kd.R_below (rA HO309.out) hb)
                        replace HO312 := Aside0.mk (Kd.R_below (rA HO312.out) hb)
                        have BK322 := Aside0.mk (hbox)
                        have GW322 := Aside0.mk (gE hg (bA HB.out))
                        have GE322 := Aside0.mk (gE hg (bA HB.out))
                        replace HB := Aside0.mk (below_step (bA HB.out) hb)
                        have NB304_322 := Aside0.mk ((by rw [hg]; exact Nat.ne_of_lt (blk_lt (kA BK304.out)) : gb304 ≠ gb322))
                        have NB322_304 := Aside0.mk ((by rw [hg]; exact Nat.ne_of_gt (blk_lt (kA BK304.out)) : gb322 ≠ gb304))
                        replace BK304 := Aside0.mk (blk_below (kA BK304.out) hb)
                        have NB305_322 := Aside0.mk ((by rw [hg]; exact Nat.ne_of_lt (blk_lt (kA BK305.out)) : gb305 ≠ gb322))
                        have NB322_305 := Aside0.mk ((by rw [hg]; exact Nat.ne_of_gt (blk_lt (kA BK305.out)) : gb322 ≠ gb305))
                        replace BK305 := Aside0.mk (blk_below (kA BK305.out) hb)
                        clear hb hbox hg
                        refine hK.out _ _ (cy6 BK304.out) (fun hHeld => ?_)
                        clear hK K
                        refine nO 5 ?_
                        exact nP (hJ2_4_16 (v308, v311, gb322) _ ⟨hHeld, (rA HO309.out), (rA HO312.out), (kA BK304.out), (kA BK305.out), (kA BK322.out), GW322.out, GE322.out, NB304_322.out, NB322_304.out, NB305_322.out, NB322_305.out, (bA HB.out)⟩)
                     ·skip
                      rintro ⟨v317, v320, gb322⟩ w21 ⟨hS_, h0_, h1_, h2_, h3_, h4_, h5_, h6_, h7_, h8_, h9_, h10_, h11_⟩
                      try dsimp only at hS_ h0_ h1_ h2_ h3_ h4_ h5_ h6_ h7_ h8_ h9_ h10_ h11_
                      clear BK304 BK305 HB
                      have HO318 := Aside0.mk h0_
                      have HO321 := Aside0.mk h1_
                      have BK304 := Aside0.mk h2_
                      have BK305 := Aside0.mk h3_
                      have BK322 := Aside0.mk h4_
                      have GW322 := Aside0.mk h5_
                      have GE322 := Aside0.mk h6_
                      have NB304_322 := Aside0.mk h7_
                      have NB322_304 := Aside0.mk h8_
                      have NB305_322 := Aside0.mk h9_
                      have NB322_305 := Aside0.mk h10_
                      have HB := Aside0.mk h11_
                      clear h0_ h1_ h2_ h3_ h4_ h5_ h6_ h7_ h8_ h9_ h10_ h11_
                      have hHeld := hS_
                      refine nQ ?_
                      refine one_ (i := 2) (N := some 17) #[true, true, true, true, false, true, false, true, true, true, true, true, true, true, true, false, true, false] rfl rfl (one_of HT_.out (by kernel_rfl)) (by decide) (fun K hK => ?_)
                      refine gO Try.func89 #[.slice A0_0 l0_0.length c0_0] ?_
                      with_reducible refine (slices_Clone_int64_int64.calls _ _ l0_0 t307 _ ?side1 ?side2 A4.out).mono ?_
                      (case side1 => exact cA (Kd.C_below HR0_0.out HB.out))
                      (case side2 => exact HC0_0.out)
                      rintro e w22 ⟨v308, rfl, ho0, hb⟩
                      refine ⟨_, rfl, ?_⟩
                      replace HO318 := Aside0.mk (Kd.R_below (rA HO318.out) hb)
                      replace HO321 := Aside0.mk (Kd.R_below (rA HO321.out) hb)
                      have HO309 := Aside0.mk (Kd.R_lower ho0 (below_size (bA HB.out)))
                      replace BK304 := Aside0.mk (blk_below (kA BK304.out) hb)
                      replace BK305 := Aside0.mk (blk_below (kA BK305.out) hb)
                      replace BK322 := Aside0.mk (blk_below (kA BK322.out) hb)
                      replace HB := Aside0.mk (below_step (bA HB.out) hb)
                      (try clear hb)
                      (try clear ho0)
                      refine hK.out _ _ (cy6 BK304.out) (fun hHeld => ?_)
                      clear hK K
                      refine nO 17 ?_
                      exact nP (hJ2_8_10_16 (v308, v317, v320, gb322) _ ⟨hHeld, (rA HO309.out), (rA HO318.out), (rA HO321.out), (kA BK304.out), (kA BK305.out), (kA BK322.out), GW322.out, GE322.out, NB304_322.out, NB322_304.out, NB305_322.out, NB322_305.out, (bA HB.out)⟩)
                    ·skip
                     rintro ⟨v308, v320, gb322⟩ w20 ⟨hS_, h0_, h1_, h2_, h3_, h4_, h5_, h6_, h7_, h8_, h9_, h10_, h11_⟩
                     try dsimp only at hS_ h0_ h1_ h2_ h3_ h4_ h5_ h6_ h7_ h8_ h9_ h10_ h11_
                     clear BK304 BK305 HB
                     have HO309 := Aside0.mk h0_
                     have HO321 := Aside0.mk h1_
                     have BK304 := Aside0.mk h2_
                     have BK305 := Aside0.mk h3_
                     have BK322 := Aside0.mk h4_
                     have GW322 := Aside0.mk h5_
                     have GE322 := Aside0.mk h6_
                     have NB304_322 := Aside0.mk h7_
                     have NB322_304 := Aside0.mk h8_
                     have NB305_322 := Aside0.mk h9_
                     have NB322_305 := Aside0.mk h10_
                     have HB := Aside0.mk h11_
                     clear h0_ h1_ h2_ h3_ h4_ h5_ h6_ h7_ h8_ h9_ h10_ h11_
                     have hHeld := hS_
                     refine nQ ?_
                     refine two_ (i := 4) (j := 8) (Ni := some 19) (Nj := some 23) #[true, true, true, true, true, true, false, true, false, true, true, true, true, true, true, false, true, false] #[true, true, true, true, false, true, false, true, true, true, true, true, true, true, true, false, true, false] rfl rfl rfl rfl (two_of HT_.out (by kernel_rfl)) (by decide) (by decide) (fun K hK => ?_) (fun K hK => ?_)
                     ·skip
                      refine gO Try.func90 #[.agg #[.slice A0_0 l0_0.length c0_0, .int .i64 a0_1, .int .i64 a0_2, .int .i64 a0_3, .int .i64 a0_4, .int .i64 a0_5]] ?_
                      with_reducible refine (impl_blindsOf.calls k _ _ l0_0 a0_1 a0_2 a0_3 a0_4 a0_5 t310 _ ?side1 ?side2 A5.out).mono ?_
                      (case side1 => exact cA (Kd.C_below HR0_0.out HB.out))
                      (case side2 => exact HC0_0.out)
                      rintro e w21 ⟨v311, rfl, ho0, hb⟩
                      refine ⟨_, rfl, ?_⟩
                      replace HO321 := Aside0.mk (Kd.R_below (rA HO321.out) hb)
                      have HO312 := Aside0.mk (Kd.R_lower (Kd.R_new' ho0 (Kd.R_lt (rA HO309.out))) (below_size (bA HB.out)))
                      replace HO309 := Aside0.mk (Kd.R_elder' (rA HO309.out) (Kd.R_base ho0) hb)
                      replace BK304 := Aside0.mk (blk_below (kA BK304.out) hb)
                      replace BK305 := Aside0.mk (blk_below (kA BK305.out) hb)
                      replace BK322 := Aside0.mk (blk_below (kA BK322.out) hb)
                      replace HB := Aside0.mk (below_step (bA HB.out) hb)
                      (try clear hb)
                      (try clear ho0)
                      refine hK.out _ _ (cy6 BK304.out) (fun hHeld => ?_)
                      clear hK K
                      refine nO 19 ?_
                      exact nP (hJ2_4_10_16 (v308, v311, v320, gb322) _ ⟨hHeld, (by (with_reducible repeat (first | apply Kd.R_alloc | apply Kd.R_drewN | apply Kd.R_drew)); exact Kd.R_mono HO309.out (fun _ hk => hk.2)), (by (with_reducible repeat (first | apply Kd.R_alloc | apply Kd.R_drewN | apply Kd.R_drew)); exact Kd.R_mono HO312.out (fun _ hk => hk.2)), (rA HO321.out), (kA BK304.out), (kA BK305.out), (kA BK322.out), GW322.out, GE322.out, NB304_322.out, NB322_304.out, NB305_322.out, NB322_305.out, (bA HB.out)⟩)
                     ·skip
                      refine Kd.R_make_step Kd.bool _ 4 (by rfl) (N := 23) rfl 23 _ _ rfl (l0_0.length : Int) rfl rfl Try.underlying23 (.bool false) 1 info4 rfl (by decide) (by omega) false (ok := fun _ => True) (okp := fun _ => True) rfl (fun _ hk => hk) trivial (dA) (Nat.le_trans (Nat.mul_le_mul_right _ (dA : (l0_0.length : Int).toNat ≤ 281474976710656)) (by omega)) (Below.refl _ _) (Nat.le_refl _) ?_
                      intro v317 w21 ho22 hb hg_ hnew_
                      clear hg_ hnew_
                      (first | rw [← Ny316.out] at ho22 | (simp only [Int.reduceToNat] at ho22; rw [← Ny316.out] at ho22))
                      replace HO309 := Aside0.mk (Kd.R_below (rA HO309.out) hb)
                      have HO318 := Aside0.mk (Kd.R_lower (Kd.R_new' ho22 (Kd.R_lt (rA HO321.out))) (below_size (bA HB.out)))
                      replace HO321 := Aside0.mk (Kd.R_elder' (rA HO321.out) (Kd.R_base ho22) hb)
                      replace BK304 := Aside0.mk (blk_below (kA BK304.out) hb)
                      replace BK305 := Aside0.mk (blk_below (kA BK305.out) hb)
                      replace BK322 := Aside0.mk (blk_below (kA BK322.out) hb)
                      replace HB := Aside0.mk (below_step (bA HB.out) hb)
                      clear hb ho22
                      refine hK.out _ _ (cy6 BK304.out) (fun hHeld => ?_)
                      clear hK K
                      refine nO 23 ?_
                      exact nP (hJ2_8_10_16 (v308, v317, v320, gb322) _ ⟨hHeld, (rA HO309.out), (by (with_reducible repeat (first | apply Kd.R_alloc | apply Kd.R_drewN | apply Kd.R_drew)); exact Kd.R_mono HO318.out (fun _ hk => hk.2)), (by (with_reducible repeat (first | apply Kd.R_alloc | apply Kd.R_drewN | apply Kd.R_drew)); exact Kd.R_mono HO321.out (fun _ hk => hk.2)), (kA BK304.out), (kA BK305.out), (kA BK322.out), GW322.out, GE322.out, NB304_322.out, NB322_304.out, NB305_322.out, NB322_305.out, (bA HB.out)⟩)
                   ·skip
                    rintro ⟨v308, v317, gb322⟩ w20 ⟨hS_, h0_, h1_, h2_, h3_, h4_, h5_, h6_, h7_, h8_, h9_, h10_, h11_⟩
                    try dsimp only at hS_ h0_ h1_ h2_ h3_ h4_ h5_ h6_ h7_ h8_ h9_ h10_ h11_
                    clear BK304 BK305 HB
                    have HO309 := Aside0.mk h0_
                    have HO318 := Aside0.mk h1_
                    have BK304 := Aside0.mk h2_
                    have BK305 := Aside0.mk h3_
                    have BK322 := Aside0.mk h4_
                    have GW322 := Aside0.mk h5_
                    have GE322 := Aside0.mk h6_
                    have NB304_322 := Aside0.mk h7_
                    have NB322_304 := Aside0.mk h8_
                    have NB305_322 := Aside0.mk h9_
                    have NB322_305 := Aside0.mk h10_
                    have HB := Aside0.mk h11_
                    clear h0_ h1_ h2_ h3_ h4_ h5_ h6_ h7_ h8_ h9_ h10_ h11_
                    have hHeld := hS_
                    refine nQ ?_
                    refine two_ (i := 4) (j := 10) (Ni := some 19) (Nj := some 25) #[true, true, true, true, true, true, false, true, true, true, false, true, true, true, true, false, true, false] #[true, true, true, true, false, true, false, true, true, true, true, true, true, true, true, false, true, false] rfl rfl rfl rfl (two_of HT_.out (by kernel_rfl)) (by decide) (by decide) (fun K hK => ?_) (fun K hK => ?_)
                    ·skip
                     refine gO Try.func90 #[.agg #[.slice A0_0 l0_0.length c0_0, .int .i64 a0_1, .int .i64 a0_2, .int .i64 a0_3, .int .i64 a0_4, .int .i64 a0_5]] ?_
                     with_reducible refine (impl_blindsOf.calls k _ _ l0_0 a0_1 a0_2 a0_3 a0_4 a0_5 t310 _ ?side1 ?side2 A5.out).mono ?_
                     (case side1 => exact cA (Kd.C_below HR0_0.out HB.out))
                     (case side2 => exact HC0_0.out)
                     rintro e w21 ⟨v311, rfl, ho0, hb⟩
                     refine ⟨_, rfl, ?_⟩
                     replace HO318 := Aside0.mk (Kd.R_below (rA HO318.out) hb)
                     have HO312 := Aside0.mk (Kd.R_lower (Kd.R_new' ho0 (Kd.R_lt (rA HO309.out))) (below_size (bA HB.out)))
                     replace HO309 := Aside0.mk (Kd.R_elder' (rA HO309.out) (Kd.R_base ho0) hb)
                     replace BK304 := Aside0.mk (blk_below (kA BK304.out) hb)
                     replace BK305 := Aside0.mk (blk_below (kA BK305.out) hb)
                     replace BK322 := Aside0.mk (blk_below (kA BK322.out) hb)
                     replace HB := Aside0.mk (below_step (bA HB.out) hb)
                     (try clear hb)
                     (try clear ho0)
                     refine hK.out _ _ (cy6 BK304.out) (fun hHeld => ?_)
                     clear hK K
                     refine nO 19 ?_
                     exact nP (hJ2_4_8_16 (v308, v311, v317, gb322) _ ⟨hHeld, (by (with_reducible repeat (first | apply Kd.R_alloc | apply Kd.R_drewN | apply Kd.R_drew)); exact Kd.R_mono HO309.out (fun _ hk => hk.2)), (by (with_reducible repeat (first | apply Kd.R_alloc | apply Kd.R_drewN | apply Kd.R_drew)); exact Kd.R_mono HO312.out (fun _ hk => hk.2)), (rA HO318.out), (kA BK304.out), (kA BK305.out), (kA BK322.out), GW322.out, GE322.out, NB304_322.out, NB322_304.out, NB305_322.out, NB322_305.out, (bA HB.out)⟩)
                    ·skip
                     refine Kd.R_make_step Kd.bool _ 4 (by rfl) (N := 25) rfl 23 _ _ rfl (l0_0.length : Int) rfl rfl Try.underlying23 (.bool false) 1 info4 rfl (by decide) (by omega) false (ok := fun _ => True) (okp := fun _ => True) rfl (fun _ hk => hk) trivial (dA) (Nat.le_trans (Nat.mul_le_mul_right _ (dA : (l0_0.length : Int).toNat ≤ 281474976710656)) (by omega)) (Below.refl _ _) (Nat.le_refl _) ?_
                     intro v320 w21 ho22 hb hg_ hnew_
                     clear hg_ hnew_
                     (first | rw [← Ny319.out] at ho22 | (simp only [Int.reduceToNat] at ho22; rw [← Ny319.out] at ho22))
                     replace HO309 := Aside0.mk (Kd.R_below (rA HO309.out) hb)
                     have HO321 := Aside0.mk (Kd.R_lower (Kd.R_new' ho22 (Kd.R_lt (rA HO318.out))) (below_size (bA HB.out)))
                     replace HO318 := Aside0.mk (Kd.R_elder' (rA HO318.out) (Kd.R_base ho22) hb)
                     replace BK304 := Aside0.mk (blk_below (kA BK304.out) hb)
                     replace BK305 := Aside0.mk (blk_below (kA BK305.out) hb)
                     replace BK322 := Aside0.mk (blk_below (kA BK322.out) hb)
                     replace HB := Aside0.mk (below_step (bA HB.out) hb)
                     clear hb ho22
                     refine hK.out _ _ (cy6 BK304.out) (fun hHeld => ?_)
                     clear hK K
                     refine nO 25 ?_
                     exact nP (hJ2_8_10_16 (v308, v317, v320, gb322) _ ⟨hHeld, (rA HO309.out), (by (with_reducible repeat (first | apply Kd.R_alloc | apply Kd.R_drewN | apply Kd.R_drew)); exact Kd.R_mono HO318.out (fun _ hk => hk.2)), (by (with_reducible repeat (first | apply Kd.R_alloc | apply Kd.R_drewN | apply Kd.R_drew)); exact Kd.R_mono HO321.out (fun _ hk => hk.2)), (kA BK304.out), (kA BK305.out), (kA BK322.out), GW322.out, GE322.out, NB304_322.out, NB322_304.out, NB305_322.out, NB322_305.out, (bA HB.out)⟩)
                  ·skip
                   rintro ⟨v308, v317, v320⟩ w21 ⟨hS_, h0_, h1_, h2_, h3_, h4_, h5_⟩
                   try dsimp only at hS_ h0_ h1_ h2_ h3_ h4_ h5_
                   clear BK304 BK305 HB
                   have HO309 := Aside0.mk h0_
                   have HO318 := Aside0.mk h1_
                   have HO321 := Aside0.mk h2_
                   have BK304 := Aside0.mk h3_
                   have BK305 := Aside0.mk h4_
                   have HB := Aside0.mk h5_
                   clear h0_ h1_ h2_ h3_ h4_ h5_
                   have hHeld := hS_
                   refine nQ ?_
                   refine two_ (i := 4) (j := 16) (Ni := some 19) (Nj := some 5) #[true, true, true, true, true, true, false, true, true, true, true, true, true, true, true, false, false, false] #[true, true, true, true, false, true, false, true, true, true, true, true, true, true, true, false, true, false] rfl rfl rfl rfl (two_of HT_.out (by kernel_rfl)) (by decide) (by decide) (fun K hK => ?_) (fun K hK => ?_)
                   ·skip
                    refine gO Try.func90 #[.agg #[.slice A0_0 l0_0.length c0_0, .int .i64 a0_1, .int .i64 a0_2, .int .i64 a0_3, .int .i64 a0_4, .int .i64 a0_5]] ?_
                    with_reducible refine (impl_blindsOf.calls k _ _ l0_0 a0_1 a0_2 a0_3 a0_4 a0_5 t310 _ ?side1 ?side2 A5.out).mono ?_
                    (case side1 => exact cA (Kd.C_below HR0_0.out HB.out))
                    (case side2 => exact HC0_0.out)
                    rintro e w22 ⟨v311, rfl, ho0, hb⟩
                    refine ⟨_, rfl, ?_⟩
                    replace HO318 := Aside0.mk (Kd.R_below (rA HO318.out) hb)
                    replace HO321 := Aside0.mk (Kd.R_below (rA HO321.out) hb)
                    have HO312 := Aside0.mk (Kd.R_lower (Kd.R_new' ho0 (Kd.R_lt (rA HO309.out))) (below_size (bA HB.out)))
                    replace HO309 := Aside0.mk (Kd.R_elder' (rA HO309.out) (Kd.R_base ho0) hb)
                    replace BK304 := Aside0.mk (blk_below (kA BK304.out) hb)
                    replace BK305 := Aside0.mk (blk_below (kA BK305.out) hb)
                    replace HB := Aside0.mk (below_step (bA HB.out) hb)
                    (try clear hb)
                    (try clear ho0)
                    refine hK.out _ _ (cy6 BK304.out) (fun hHeld => ?_)
                    clear hK K
                    refine nO 19 ?_
                    exact nP (hJ2_4_8_10 (v308, v311, v317, v320) _ ⟨hHeld, (by (with_reducible repeat (first | apply Kd.R_alloc | apply Kd.R_drewN | apply Kd.R_drew)); exact Kd.R_mono HO309.out (fun _ hk => hk.2)), (by (with_reducible repeat (first | apply Kd.R_alloc | apply Kd.R_drewN | apply Kd.R_drew)); exact Kd.R_mono HO312.out (fun _ hk => hk.2)), (rA HO318.out), (rA HO321.out), (kA BK304.out), (kA BK305.out), (bA HB.out)⟩)
                   ·skip
                    refine box_step ?hg (N := 5) ?hd (cs := #[.slice none 0 0, .slice none 0 0, .slice none 0 0, .slice none 0 0, .slice none 0 0, .int .i64 0, .int .i64 0, .int .i64 0, .int .i64 0]) (t := 28) ?hr ?_; (case hd => rfl); (case hg => rfl); (case hr => first | (go_simp; done) | (go_simp; rfl))
                    intro gb322 hg w22 hbox hb
                    replace HO309 := Aside0.mk (Kd.R_below (rA HO309.out) hb)
                    replace HO318 := Aside0.mk (Kd.R_below (rA HO318.out) hb)
                    replace HO321 := Aside0.mk (Kd.R_below (rA HO321.out) hb)
                    have BK322 := Aside0.mk (hbox)
                    have GW322 := Aside0.mk (gE hg (bA HB.out))
                    have GE322 := Aside0.mk (gE hg (bA HB.out))
                    replace HB := Aside0.mk (below_step (bA HB.out) hb)
                    have NB304_322 := Aside0.mk ((by rw [hg]; exact Nat.ne_of_lt (blk_lt (kA BK304.out)) : gb304 ≠ gb322))
                    have NB322_304 := Aside0.mk ((by rw [hg]; exact Nat.ne_of_gt (blk_lt (kA BK304.out)) : gb322 ≠ gb304))
                    replace BK304 := Aside0.mk (blk_below (kA BK304.out) hb)
                    have NB305_322 := Aside0.mk ((by rw [hg]; exact Nat.ne_of_lt (blk_lt (kA BK305.out)) : gb305 ≠ gb322))
                    have NB322_305 := Aside0.mk ((by rw [hg]; exact Nat.ne_of_gt (blk_lt (kA BK305.out)) : gb322 ≠ gb305))
                    replace BK305 := Aside0.mk (blk_below (kA BK305.out) hb)
                    clear hb hbox hg
                    refine hK.out _ _ (cy6 BK304.out) (fun hHeld => ?_)
                    clear hK K
                    refine nO 5 ?_
                    exact nP (hJ2_8_10_16 (v308, v317, v320, gb322) _ ⟨hHeld, (rA HO309.out), (rA HO318.out), (rA HO321.out), (kA BK304.out), (kA BK305.out), (kA BK322.out), GW322.out, GE322.out, NB304_322.out, NB322_304.out, NB305_322.out, NB322_305.out, (bA HB.out)⟩)
                 ·skip
                  rintro ⟨v308, v311, gb322⟩ w19 ⟨hS_, h0_, h1_, h2_, h3_, h4_, h5_, h6_, h7_, h8_, h9_, h10_, h11_⟩
                  try dsimp only at hS_ h0_ h1_ h2_ h3_ h4_ h5_ h6_ h7_ h8_ h9_ h10_ h11_
                  clear BK304 BK305 HB
                  have HO309 := Aside0.mk h0_
                  have HO312 := Aside0.mk h1_
                  have BK304 := Aside0.mk h2_
                  have BK305 := Aside0.mk h3_
                  have BK322 := Aside0.mk h4_
                  have GW322 := Aside0.mk h5_
                  have GE322 := Aside0.mk h6_
                  have NB304_322 := Aside0.mk h7_
                  have NB322_304 := Aside0.mk h8_
                  have NB305_322 := Aside0.mk h9_
                  have NB322_305 := Aside0.mk h10_
                  have HB := Aside0.mk h11_
                  clear h0_ h1_ h2_ h3_ h4_ h5_ h6_ h7_ h8_ h9_ h10_ h11_
                  have hHeld := hS_
                  refine nQ ?_
                  refine three_ (i := 6) (j := 8) (k := 10) (Ni := some 21) (Nj := some 23) (Nk := some 25) #[true, true, true, true, true, true, true, true, false, true, false, true, true, true, true, false, true, false] #[true, true, true, true, true, true, false, true, true, true, false, true, true, true, true, false, true, false] #[true, true, true, true, true, true, false, true, false, true, true, true, true, true, true, false, true, false] rfl rfl rfl rfl rfl rfl (three_of HT_.out (by kernel_rfl)) (by decide) (by decide) (by decide) (fun K hK => ?_) (fun K hK => ?_) (fun K hK => ?_)
                  ·skip
                   refine gO Try.func91 #[.agg #[.slice A0_0 l0_0.length c0_0, .int .i64 a0_1, .int .i64 a0_2, .int .i64 a0_3, .int .i64 a0_4, .int .i64 a0_5]] ?_
                   with_reducible refine (impl_antesOf.calls k _ _ l0_0 a0_1 a0_2 a0_3 a0_4 a0_5 t313 _ ?side1 ?side2 A6.out).mono ?_
                   (case side1 => exact cA (Kd.C_below HR0_0.out HB.out))
                   (case side2 => exact HC0_0.out)
                   rintro e w20 ⟨v314, rfl, ho0, hb⟩
                   refine ⟨_, rfl, ?_⟩
                   have HO315 := Aside0.mk (Kd.R_lower (Kd.R_new' (Kd.R_new' ho0 (Kd.R_lt (rA HO309.out))) (Kd.R_lt (rA HO312.out))) (below_size (bA HB.out)))
                   replace HO309 := Aside0.mk (Kd.R_elder' (rA HO309.out) (Kd.R_base ho0) hb)
                   replace HO312 := Aside0.mk (Kd.R_elder' (rA HO312.out) (Kd.R_base ho0) hb)
                   replace BK304 := Aside0.mk (blk_below (kA BK304.out) hb)
                   replace BK305 := Aside0.mk (blk_below (kA BK305.out) hb)
                   replace BK322 := Aside0.mk (blk_below (kA BK322.out) hb)
                   replace HB := Aside0.mk (below_step (bA HB.out) hb)
                   (try clear hb)
                   (try clear ho0)
                   refine hK.out _ _ (cy6 BK304.out) (fun hHeld => ?_)
                   clear hK K
                   refine nO 21 ?_
                   exact nP (hJ2_4_6_16 (v308, v311, v314, gb322) _ ⟨hHeld, (rA HO309.out), (rA HO312.out), (by (with_reducible repeat (first | apply Kd.R_alloc | apply Kd.R_drewN | apply Kd.R_drew)); exact Kd.R_mono HO315.out (fun _ hk => ⟨hk.1.2, hk.2⟩)), (kA BK304.out), (kA BK305.out), (kA BK322.out), GW322.out, GE322.out, NB304_322.out, NB322_304.out, NB305_322.out, NB322_305.out, (bA HB.out)⟩)
                  ·skip
                   refine Kd.R_make_step Kd.bool _ 4 (by rfl) (N := 23) rfl 23 _ _ rfl (l0_0.length : Int) rfl rfl Try.underlying23 (.bool false) 1 info4 rfl (by decide) (by omega) false (ok := fun _ => True) (okp := fun _ => True) rfl (fun _ hk => hk) trivial (dA) (Nat.le_trans (Nat.mul_le_mul_right _ (dA : (l0_0.length : Int).toNat ≤ 281474976710656)) (by omega)) (Below.refl _ _) (Nat.le_refl _) ?_
                   intro v317 w20 ho21 hb hg_ hnew_
                   clear hg_ hnew_
                   (first | rw [← Ny316.out] at ho21 | (simp only [Int.reduceToNat] at ho21; rw [← Ny316.out] at ho21))
                   replace HO309 := Aside0.mk (Kd.R_below (rA HO309.out) hb)
                   replace HO312 := Aside0.mk (Kd.R_below (rA HO312.out) hb)
                   have HO318 := Aside0.mk (Kd.R_lower ho21 (below_size (bA HB.out)))
                   replace BK304 := Aside0.mk (blk_below (kA BK304.out) hb)
                   replace BK305 := Aside0.mk (blk_below (kA BK305.out) hb)
                   replace BK322 := Aside0.mk (blk_below (kA BK322.out) hb)
                   replace HB := Aside0.mk (below_step (bA HB.out) hb)
                   clear hb ho21
                   refine hK.out _ _ (cy6 BK304.out) (fun hHeld => ?_)
                   clear hK K
                   refine nO 23 ?_
                   exact nP (hJ2_4_8_16 (v308, v311, v317, gb322) _ ⟨hHeld, (rA HO309.out), (rA HO312.out), (rA HO318.out), (kA BK304.out), (kA BK305.out), (kA BK322.out), GW322.out, GE322.out, NB304_322.out, NB322_304.out, NB305_322.out, NB322_305.out, (bA HB.out)⟩)
                  ·skip
                   refine Kd.R_make_step Kd.bool _ 4 (by rfl) (N := 25) rfl 23 _ _ rfl (l0_0.length : Int) rfl rfl Try.underlying23 (.bool false) 1 info4 rfl (by decide) (by omega) false (ok := fun _ => True) (okp := fun _ => True) rfl (fun _ hk => hk) trivial (dA) (Nat.le_trans (Nat.mul_le_mul_right _ (dA : (l0_0.length : Int).toNat ≤ 281474976710656)) (by omega)) (Below.refl _ _) (Nat.le_refl _) ?_
                   intro v320 w20 ho21 hb hg_ hnew_
                   clear hg_ hnew_
                   (first | rw [← Ny319.out] at ho21 | (simp only [Int.reduceToNat] at ho21; rw [← Ny319.out] at ho21))
                   replace HO309 := Aside0.mk (Kd.R_below (rA HO309.out) hb)
                   replace HO312 := Aside0.mk (Kd.R_below (rA HO312.out) hb)
                   have HO321 := Aside0.mk (Kd.R_lower ho21 (below_size (bA HB.out)))
                   replace BK304 := Aside0.mk (blk_below (kA BK304.out) hb)
                   replace BK305 := Aside0.mk (blk_below (kA BK305.out) hb)
                   replace BK322 := Aside0.mk (blk_below (kA BK322.out) hb)
                   replace HB := Aside0.mk (below_step (bA HB.out) hb)
                   clear hb ho21
                   refine hK.out _ _ (cy6 BK304.out) (fun hHeld => ?_)
                   clear hK K
                   refine nO 25 ?_
                   exact nP (hJ2_4_10_16 (v308, v311, v320, gb322) _ ⟨hHeld, (rA HO309.out), (rA HO312.out), (rA HO321.out), (kA BK304.out), (kA BK305.out), (kA BK322.out), GW322.out, GE322.out, NB304_322.out, NB322_304.out, NB305_322.out, NB322_305.out, (bA HB.out)⟩)
                ·skip
                 rintro ⟨v308, v311, v320⟩ w20 ⟨hS_, h0_, h1_, h2_, h3_, h4_, h5_⟩
                 try dsimp only at hS_ h0_ h1_ h2_ h3_ h4_ h5_
                 clear BK304 BK305 HB
                 have HO309 := Aside0.mk h0_
                 have HO312 := Aside0.mk h1_
                 have HO321 := Aside0.mk h2_
                 have BK304 := Aside0.mk h3_
                 have BK305 := Aside0.mk h4_
                 have HB := Aside0.mk h5_
                 clear h0_ h1_ h2_ h3_ h4_ h5_
                 have hHeld := hS_
                 refine nQ ?_
                 refine three_ (i := 6) (j := 8) (k := 16) (Ni := some 21) (Nj := some 23) (Nk := some 5) #[true, true, true, true, true, true, true, true, false, true, true, true, true, true, true, false, false, false] #[true, true, true, true, true, true, false, true, true, true, true, true, true, true, true, false, false, false] #[true, true, true, true, true, true, false, true, false, true, true, true, true, true, true, false, true, false] rfl rfl rfl rfl rfl rfl (three_of HT_.out (by kernel_rfl)) (by decide) (by decide) (by decide) (fun K hK => ?_) (fun K hK => ?_) (fun K hK => ?_)
                 ·skip
                  refine gO Try.func91 #[.agg #[.slice A0_0 l0_0.length c0_0, .int .i64 a0_1, .int .i64 a0_2, .int .i64 a0_3, .int .i64 a0_4, .int .i64 a0_5]] ?_
                  with_reducible refine (impl_antesOf.calls k _ _ l0_0 a0_1 a0_2 a0_3 a0_4 a0_5 t313 _ ?side1 ?side2 A6.out).mono ?_
                  (case side1 => exact cA (Kd.C_below HR0_0.out HB.out))
                  (case side2 => exact HC0_0.out)
                  rintro e w21 ⟨v314, rfl, ho0, hb⟩
                  refine ⟨_, rfl, ?_⟩
                  replace HO321 := Aside0.mk (Kd.R_below (rA HO321.out) hb)
                  have HO315 := Aside0.mk (Kd.R_lower (Kd.R_new' (Kd.R_new' ho0 (Kd.R_lt (rA HO309.out))) (Kd.R_lt (rA HO312.out))) (below_size (bA HB.out)))
                  replace HO309 := Aside0.mk (Kd.R_elder' (rA HO309.out) (Kd.R_base ho0) hb)
                  replace HO312 := Aside0.mk (Kd.R_elder' (rA HO312.out) (Kd.R_base ho0) hb)
                  replace BK304 := Aside0.mk (blk_below (kA BK304.out) hb)
                  replace BK305 := Aside0.mk (blk_below (kA BK305.out) hb)
                  replace HB := Aside0.mk (below_step (bA HB.out) hb)
                  (try clear hb)
                  (try clear ho0)
                  refine hK.out _ _ (cy6 BK304.out) (fun hHeld => ?_)
                  clear hK K
                  refine nO 21 ?_
                  exact nP (hJ2_4_6_10 (v308, v311, v314, v320) _ ⟨hHeld, (rA HO309.out), (rA HO312.out), (by (with_reducible repeat (first | apply Kd.R_alloc | apply Kd.R_drewN | apply Kd.R_drew)); exact Kd.R_mono HO315.out (fun _ hk => ⟨hk.1.2, hk.2⟩)), (rA HO321.out), (kA BK304.out), (kA BK305.out), (bA HB.out)⟩)
                 ·skip
                  refine Kd.R_make_step Kd.bool _ 4 (by rfl) (N := 23) rfl 23 _ _ rfl (l0_0.length : Int) rfl rfl Try.underlying23 (.bool false) 1 info4 rfl (by decide) (by omega) false (ok := fun _ => True) (okp := fun _ => True) rfl (fun _ hk => hk) trivial (dA) (Nat.le_trans (Nat.mul_le_mul_right _ (dA : (l0_0.length : Int).toNat ≤ 281474976710656)) (by omega)) (Below.refl _ _) (Nat.le_refl _) ?_
                  intro v317 w21 ho22 hb hg_ hnew_
                  clear hg_ hnew_
                  (first | rw [← Ny316.out] at ho22 | (simp only [Int.reduceToNat] at ho22; rw [← Ny316.out] at ho22))
                  replace HO309 := Aside0.mk (Kd.R_below (rA HO309.out) hb)
                  replace HO312 := Aside0.mk (Kd.R_below (rA HO312.out) hb)
                  have HO318 := Aside0.mk (Kd.R_lower (Kd.R_new' ho22 (Kd.R_lt (rA HO321.out))) (below_size (bA HB.out)))
                  replace HO321 := Aside0.mk (Kd.R_elder' (rA HO321.out) (Kd.R_base ho22) hb)
                  replace BK304 := Aside0.mk (blk_below (kA BK304.out) hb)
                  replace BK305 := Aside0.mk (blk_below (kA BK305.out) hb)
                  replace HB := Aside0.mk (below_step (bA HB.out) hb)
                  clear hb ho22
                  refine hK.out _ _ (cy6 BK304.out) (fun hHeld => ?_)
                  clear hK K
                  refine nO 23 ?_
                  exact nP (hJ2_4_8_10 (v308, v311, v317, v320) _ ⟨hHeld, (rA HO309.out), (rA HO312.out), (by (with_reducible repeat (first | apply Kd.R_alloc | apply Kd.R_drewN | apply Kd.R_drew)); exact Kd.R_mono HO318.out (fun _ hk => hk.2)), (by (with_reducible repeat (first | apply Kd.R_alloc | apply Kd.R_drewN | apply Kd.R_drew)); exact Kd.R_mono HO321.out (fun _ hk => hk.2)), (kA BK304.out), (kA BK305.out), (bA HB.out)⟩)
                 ·skip
                  refine box_step ?hg (N := 5) ?hd (cs := #[.slice none 0 0, .slice none 0 0, .slice none 0 0, .slice none 0 0, .slice none 0 0, .int .i64 0, .int .i64 0, .int .i64 0, .int .i64 0]) (t := 28) ?hr ?_; (case hd => rfl); (case hg => rfl); (case hr => first | (go_simp; done) | (go_simp; rfl))
                  intro gb322 hg w21 hbox hb
                  replace HO309 := Aside0.mk (Kd.R_below (rA HO309.out) hb)
                  replace HO312 := Aside0.mk (Kd.R_below (rA HO312.out) hb)
                  replace HO321 := Aside0.mk (Kd.R_below (rA HO321.out) hb)
                  have BK322 := Aside0.mk (hbox)
                  have GW322 := Aside0.mk (gE hg (bA HB.out))
                  have GE322 := Aside0.mk (gE hg (bA HB.out))
                  replace HB := Aside0.mk (below_step (bA HB.out) hb)
                  have NB304_322 := Aside0.mk ((by rw [hg]; exact Nat.ne_of_lt (blk_lt (kA BK304.out)) : gb304 ≠ gb322))
                  have NB322_304 := Aside0.mk ((by rw [hg]; exact Nat.ne_of_gt (blk_lt (kA BK304.out)) : gb322 ≠ gb304))
                  replace BK304 := Aside0.mk (blk_below (kA BK304.out) hb)
                  have NB305_322 := Aside0.mk ((by rw [hg]; exact Nat.ne_of_lt (blk_lt (kA BK305.out)) : gb305 ≠ gb322))
                  have NB322_305 := Aside0.mk ((by rw [hg]; exact Nat.ne_of_gt (blk_lt (kA BK305.out)) : gb322 ≠ gb305))
                  replace BK305 := Aside0.mk (blk_below (kA BK305.out) hb)
                  clear hb hbox hg
                  refine hK.out _ _ (cy6 BK304.out) (fun hHeld => ?_)
                  clear hK K
                  refine nO 5 ?_
                  exact nP (hJ2_4_10_16 (v308, v311, v320, gb322) _ ⟨hHeld, (rA HO309.out), (rA HO312.out), (rA HO321.out), (kA BK304.out), (kA BK305.out), (kA BK322.out), GW322.out, GE322.out, NB304_322.out, NB322_304.out, NB305_322.out, NB322_305.out, (bA HB.out)⟩)
               ·skip
                rintro ⟨v308, v311, v317⟩ w20 ⟨hS_, h0_, h1_, h2_, h3_, h4_, h5_⟩
                try dsimp only at hS_ h0_ h1_ h2_ h3_ h4_ h5_
                clear BK304 BK305 HB
                have HO309 := Aside0.mk h0_
                have HO312 := Aside0.mk h1_
                have HO318 := Aside0.mk h2_
                have BK304 := Aside0.mk h3_
                have BK305 := Aside0.mk h4_
                have HB := Aside0.mk h5_
                clear h0_ h1_ h2_ h3_ h4_ h5_
                have hHeld := hS_
                refine nQ ?_
                refine three_ (i := 6) (j := 10) (k := 16) (Ni := some 21) (Nj := some 25) (Nk := some 5) #[true, true, true, true, true, true, true, true, true, true, false, true, true, true, true, false, false, false] #[true, true, true, true, true, true, false, true, true, true, true, true, true, true, true, false, false, false] #[true, true, true, true, true, true, false, true, true, true, false, true, true, true, true, false, true, false] rfl rfl rfl rfl rfl rfl (three_of HT_.out (by kernel_rfl)) (by decide) (by decide) (by decide) (fun K hK => ?_) (fun K hK => ?_) (fun K hK => ?_)
                ·skip
                 refine gO Try.func91 #[.agg #[.slice A0_0 l0_0.length c0_0, .int .i64 a0_1, .int .i64 a0_2, .int .i64 a0_3, .int .i64 a0_4, .int .i64 a0_5]] ?_
                 with_reducible refine (impl_antesOf.calls k _ _ l0_0 a0_1 a0_2 a0_3 a0_4 a0_5 t313 _ ?side1 ?side2 A6.out).mono ?_
                 (case side1 => exact cA (Kd.C_below HR0_0.out HB.out))
                 (case side2 => exact HC0_0.out)
                 rintro e w21 ⟨v314, rfl, ho0, hb⟩
                 refine ⟨_, rfl, ?_⟩
                 replace HO318 := Aside0.mk (Kd.R_below (rA HO318.out) hb)
                 have HO315 := Aside0.mk (Kd.R_lower (Kd.R_new' (Kd.R_new' ho0 (Kd.R_lt (rA HO309.out))) (Kd.R_lt (rA HO312.out))) (below_size (bA HB.out)))
                 replace HO309 := Aside0.mk (Kd.R_elder' (rA HO309.out) (Kd.R_base ho0) hb)
                 replace HO312 := Aside0.mk (Kd.R_elder' (rA HO312.out) (Kd.R_base ho0) hb)
                 replace BK304 := Aside0.mk (blk_below (kA BK304.out) hb)
                 replace BK305 := Aside0.mk (blk_below (kA BK305.out) hb)
                 replace HB := Aside0.mk (below_step (bA HB.out) hb)
                 (try clear hb)
                 (try clear ho0)
                 refine hK.out _ _ (cy6 BK304.out) (fun hHeld => ?_)
                 clear hK K
                 refine nO 21 ?_
                 exact nP (hJ2_4_6_8 (v308, v311, v314, v317) _ ⟨hHeld, (rA HO309.out), (rA HO312.out), (by (with_reducible repeat (first | apply Kd.R_alloc | apply Kd.R_drewN | apply Kd.R_drew)); exact Kd.R_mono HO315.out (fun _ hk => ⟨hk.1.2, hk.2⟩)), (rA HO318.out), (kA BK304.out), (kA BK305.out), (bA HB.out)⟩)
                ·skip
                 refine Kd.R_make_step Kd.bool _ 4 (by rfl) (N := 25) rfl 23 _ _ rfl (l0_0.length : Int) rfl rfl Try.underlying23 (.bool false) 1 info4 rfl (by decide) (by omega) false (ok := fun _ => True) (okp := fun _ => True) rfl (fun _ hk => hk) trivial (dA) (Nat.le_trans (Nat.mul_le_mul_right _ (dA : (l0_0.length : Int).toNat ≤ 281474976710656)) (by omega)) (Below.refl _ _) (Nat.le_refl _) ?_
                 intro v320 w21 ho22 hb hg_ hnew_
                 clear hg_ hnew_
                 (first | rw [← Ny319.out] at ho22 | (simp only [Int.reduceToNat] at ho22; rw [← Ny319.out] at ho22))
                 replace HO309 := Aside0.mk (Kd.R_below (rA HO309.out) hb)
                 replace HO312 := Aside0.mk (Kd.R_below (rA HO312.out) hb)
                 have HO321 := Aside0.mk (Kd.R_lower (Kd.R_new' ho22 (Kd.R_lt (rA HO318.out))) (below_size (bA HB.out)))
                 replace HO318 := Aside0.mk (Kd.R_elder' (rA HO318.out) (Kd.R_base ho22) hb)
                 replace BK304 := Aside0.mk (blk_below (kA BK304.out) hb)
                 replace BK305 := Aside0.mk (blk_below (kA BK305.out) hb)
                 replace HB := Aside0.mk (below_step (bA HB.out) hb)
                 clear hb ho22
                 refine hK.out _ _ (cy6 BK304.out) (fun hHeld => ?_)
                 clear hK K
                 refine nO 25 ?_
                 exact nP (hJ2_4_8_10 (v308, v311, v317, v320) _ ⟨hHeld, (rA HO309.out), (rA HO312.out), (by (with_reducible repeat (first | apply Kd.R_alloc | apply Kd.R_drewN | apply Kd.R_drew)); exact Kd.R_mono HO318.out (fun _ hk => hk.2)), (by (with_reducible repeat (first | apply Kd.R_alloc | apply Kd.R_drewN | apply Kd.R_drew)); exact Kd.R_mono HO321.out (fun _ hk => hk.2)), (kA BK304.out), (kA BK305.out), (bA HB.out)⟩)
                ·skip
                 refine box_step ?hg (N := 5) ?hd (cs := #[.slice none 0 0, .slice none 0 0, .slice none 0 0, .slice none 0 0, .slice none 0 0, .int .i64 0, .int .i64 0, .int .i64 0, .int .i64 0]) (t := 28) ?hr ?_; (case hd => rfl); (case hg => rfl); (case hr => first | (go_simp; done) | (go_simp; rfl))
                 intro gb322 hg w21 hbox hb
                 replace HO309 := Aside0.mk (Kd.R_below (rA HO309.out) hb)
                 replace HO312 := Aside0.mk (Kd.R_below (rA HO312.out) hb)
                 replace HO318 := Aside0.mk (Kd.R_below (rA HO318.out) hb)
                 have BK322 := Aside0.mk (hbox)
                 have GW322 := Aside0.mk (gE hg (bA HB.out))
                 have GE322 := Aside0.mk (gE hg (bA HB.out))
                 replace HB := Aside0.mk (below_step (bA HB.out) hb)
                 have NB304_322 := Aside0.mk ((by rw [hg]; exact Nat.ne_of_lt (blk_lt (kA BK304.out)) : gb304 ≠ gb322))
                 have NB322_304 := Aside0.mk ((by rw [hg]; exact Nat.ne_of_gt (blk_lt (kA BK304.out)) : gb322 ≠ gb304))
                 replace BK304 := Aside0.mk (blk_below (kA BK304.out) hb)
                 have NB305_322 := Aside0.mk ((by rw [hg]; exact Nat.ne_of_lt (blk_lt (kA BK305.out)) : gb305 ≠ gb322))
                 have NB322_305 := Aside0.mk ((by rw [hg]; exact Nat.ne_of_gt (blk_lt (kA BK305.out)) : gb322 ≠ gb305))
                 replace BK305 := Aside0.mk (blk_below (kA BK305.out) hb)
                 clear hb hbox hg
                 refine hK.out _ _ (cy6 BK304.out) (fun hHeld => ?_)
                 clear hK K
                 refine nO 5 ?_
                 exact nP (hJ2_4_8_16 (v308, v311, v317, gb322) _ ⟨hHeld, (rA HO309.out), (rA HO312.out), (rA HO318.out), (kA BK304.out), (kA BK305.out), (kA BK322.out), GW322.out, GE322.out, NB304_322.out, NB322_304.out, NB305_322.out, NB322_305.out, (bA HB.out)⟩)
              ·skip
               rintro ⟨v308, v311, v314⟩ w19 ⟨hS_, h0_, h1_, h2_, h3_, h4_, h5_⟩
               try dsimp only at hS_ h0_ h1_ h2_ h3_ h4_ h5_
               clear BK304 BK305 HB
               have HO309 := Aside0.mk h0_
               have HO312 := Aside0.mk h1_
               have HO315 := Aside0.mk h2_
               have BK304 := Aside0.mk h3_
               have BK305 := Aside0.mk h4_
               have HB := Aside0.mk h5_
               clear h0_ h1_ h2_ h3_ h4_ h5_
               have hHeld := hS_
               refine nQ ?_
               refine three_ (i := 8) (j := 10) (k := 16) (Ni := some 23) (Nj := some 25) (Nk := some 5) #[true, true, true, true, true, true, true, true, true, true, false, true, true, true, true, false, false, false] #[true, true, true, true, true, true, true, true, false, true, true, true, true, true, true, false, false, false] #[true, true, true, true, true, true, true, true, false, true, false, true, true, true, true, false, true, false] rfl rfl rfl rfl rfl rfl (three_of HT_.out (by kernel_rfl)) (by decide) (by decide) (by decide) (fun K hK => ?_) (fun K hK => ?_) (fun K hK => ?_)
               ·skip
                refine Kd.R_make_step Kd.bool _ 4 (by rfl) (N := 23) rfl 23 _ _ rfl (l0_0.length : Int) rfl rfl Try.underlying23 (.bool false) 1 info4 rfl (by decide) (by omega) false (ok := fun _ => True) (okp := fun _ => True) rfl (fun _ hk => hk) trivial (dA) (Nat.le_trans (Nat.mul_le_mul_right _ (dA : (l0_0.length : Int).toNat ≤ 281474976710656)) (by omega)) (Below.refl _ _) (Nat.le_refl _) ?_
                intro v317 w20 ho21 hb hg_ hnew_
                clear hg_ hnew_
                (first | rw [← Ny316.out] at ho21 | (simp only [Int.reduceToNat] at ho21; rw [← Ny316.out] at ho21))
                replace HO309 := Aside0.mk (Kd.R_below (rA HO309.out) hb)
                replace HO312 := Aside0.mk (Kd.R_below (rA HO312.out) hb)
                replace HO315 := Aside0.mk (Kd.R_below (rA HO315.out) hb)
                have HO318 := Aside0.mk (Kd.R_lower ho21 (below_size (bA HB.out)))
                replace BK304 := Aside0.mk (blk_below (kA BK304.out) hb)
                replace BK305 := Aside0.mk (blk_below (kA BK305.out) hb)
                replace HB := Aside0.mk (below_step (bA HB.out) hb)
                clear hb ho21
                refine hK.out _ _ (cy6 BK304.out) (fun hHeld => ?_)
                clear hK K
                refine nO 23 ?_
                exact nP (hJ2_4_6_8 (v308, v311, v314, v317) _ ⟨hHeld, (rA HO309.out), (rA HO312.out), (rA HO315.out), (rA HO318.out), (kA BK304.out), (kA BK305.out), (bA HB.out)⟩)
               ·skip
                refine Kd.R_make_step Kd.bool _ 4 (by rfl) (N := 25) rfl 23 _ _ rfl (l0_0.length : Int) rfl rfl Try.underlying23 (.bool false) 1 info4 rfl (by decide) (by omega) false (ok := fun _ => True) (okp := fun _ => True) rfl (fun _ hk => hk) trivial (dA) (Nat.le_trans (Nat.mul_le_mul_right _ (dA : (l0_0.length : Int).toNat ≤ 281474976710656)) (by omega)) (Below.refl _ _) (Nat.le_refl _) ?_
                intro v320 w20 ho21 hb hg_ hnew_
                clear hg_ hnew_
                (first | rw [← Ny319.out] at ho21 | (simp only [Int.reduceToNat] at ho21; rw [← Ny319.out] at ho21))
                replace HO309 := Aside0.mk (Kd.R_below (rA HO309.out) hb)
                replace HO312 := Aside0.mk (Kd.R_below (rA HO312.out) hb)
                replace HO315 := Aside0.mk (Kd.R_below (rA HO315.out) hb)
                have HO321 := Aside0.mk (Kd.R_lower ho21 (below_size (bA HB.out)))
                replace BK304 := Aside0.mk (blk_below (kA BK304.out) hb)
                replace BK305 := Aside0.mk (blk_below (kA BK305.out) hb)
                replace HB := Aside0.mk (below_step (bA HB.out) hb)
                clear hb ho21
                refine hK.out _ _ (cy6 BK304.out) (fun hHeld => ?_)
                clear hK K
                refine nO 25 ?_
                exact nP (hJ2_4_6_10 (v308, v311, v314, v320) _ ⟨hHeld, (rA HO309.out), (rA HO312.out), (rA HO315.out), (rA HO321.out), (kA BK304.out), (kA BK305.out), (bA HB.out)⟩)
               ·skip
                refine box_step ?hg (N := 5) ?hd (cs := #[.slice none 0 0, .slice none 0 0, .slice none 0 0, .slice none 0 0, .slice none 0 0, .int .i64 0, .int .i64 0, .int .i64 0, .int .i64 0]) (t := 28) ?hr ?_; (case hd => rfl); (case hg => rfl); (case hr => first | (go_simp; done) | (go_simp; rfl))
                intro gb322 hg w20 hbox hb
                replace HO309 := Aside0.mk (Kd.R_below (rA HO309.out) hb)
                replace HO312 := Aside0.mk (Kd.R_below (rA HO312.out) hb)
                replace HO315 := Aside0.mk (Kd.R_below (rA HO315.out) hb)
                have BK322 := Aside0.mk (hbox)
                have GW322 := Aside0.mk (gE hg (bA HB.out))
                have GE322 := Aside0.mk (gE hg (bA HB.out))
                replace HB := Aside0.mk (below_step (bA HB.out) hb)
                have NB304_322 := Aside0.mk ((by rw [hg]; exact Nat.ne_of_lt (blk_lt (kA BK304.out)) : gb304 ≠ gb322))
                have NB322_304 := Aside0.mk ((by rw [hg]; exact Nat.ne_of_gt (blk_lt (kA BK304.out)) : gb322 ≠ gb304))
                replace BK304 := Aside0.mk (blk_below (kA BK304.out) hb)
                have NB305_322 := Aside0.mk ((by rw [hg]; exact Nat.ne_of_lt (blk_lt (kA BK305.out)) : gb305 ≠ gb322))
                have NB322_305 := Aside0.mk ((by rw [hg]; exact Nat.ne_of_gt (blk_lt (kA BK305.out)) : gb322 ≠ gb305))
                replace BK305 := Aside0.mk (blk_below (kA BK305.out) hb)
                clear hb hbox hg
                refine hK.out _ _ (cy6 BK304.out) (fun hHeld => ?_)
                clear hK K
                refine nO 5 ?_
                exact nP (hJ2_4_6_16 (v308, v311, v314, gb322) _ ⟨hHeld, (rA HO309.out), (rA HO312.out), (rA HO315.out), (kA BK304.out), (kA BK305.out), (kA BK322.out), GW322.out, GE322.out, NB304_322.out, NB322_304.out, NB305_322.out, NB322_305.out, (bA HB.out)⟩)
             ·skip
              rintro ⟨v308, v317, v320, gb322⟩ w22 ⟨hS_, h0_, h1_, h2_, h3_, h4_, h5_, h6_, h7_, h8_, h9_, h10_, h11_, h12_⟩
              try dsimp only at hS_ h0_ h1_ h2_ h3_ h4_ h5_ h6_ h7_ h8_ h9_ h10_ h11_ h12_
              clear BK304 BK305 HB
              have HO309 := Aside0.mk h0_
              have HO318 := Aside0.mk h1_
              have HO321 := Aside0.mk h2_
              have BK304 := Aside0.mk h3_
              have BK305 := Aside0.mk h4_
              have BK322 := Aside0.mk h5_
              have GW322 := Aside0.mk h6_
              have GE322 := Aside0.mk h7_
              have NB304_322 := Aside0.mk h8_
              have NB322_304 := Aside0.mk h9_
              have NB305_322 := Aside0.mk h10_
              have NB322_305 := Aside0.mk h11_
              have HB := Aside0.mk h12_
              clear h0_ h1_ h2_ h3_ h4_ h5_ h6_ h7_ h8_ h9_ h10_ h11_ h12_
              have hHeld := hS_
              refine nQ ?_
              refine one_ (i := 4) (N := some 19) #[true, true, true, true, true, true, false, true, true, true, true, true, true, true, true, false, true, false] rfl rfl (one_of HT_.out (by kernel_rfl)) (by decide) (fun K hK => ?_)
              refine gO Try.func90 #[.agg #[.slice A0_0 l0_0.length c0_0, .int .i64 a0_1, .int .i64 a0_2, .int .i64 a0_3, .int .i64 a0_4, .int .i64 a0_5]] ?_
              with_reducible refine (impl_blindsOf.calls k _ _ l0_0 a0_1 a0_2 a0_3 a0_4 a0_5 t310 _ ?side1 ?side2 A5.out).mono ?_
              (case side1 => exact cA (Kd.C_below HR0_0.out HB.out))
              (case side2 => exact HC0_0.out)
              rintro e w23 ⟨v311, rfl, ho0, hb⟩
              refine ⟨_, rfl, ?_⟩
              replace HO318 := Aside0.mk (Kd.R_below (rA HO318.out) hb)
              replace HO321 := Aside0.mk (Kd.R_below (rA HO321.out) hb)
              have HO312 := Aside0.mk (Kd.R_lower (Kd.R_new' ho0 (Kd.R_lt (rA HO309.out))) (below_size (bA HB.out)))
              replace HO309 := Aside0.mk (Kd.R_elder' (rA HO309.out) (Kd.R_base ho0) hb)
              replace BK304 := Aside0.mk (blk_below (kA BK304.out) hb)
              replace BK305 := Aside0.mk (blk_below (kA BK305.out) hb)
              replace BK322 := Aside0.mk (blk_below (kA BK322.out) hb)
              replace HB := Aside0.mk (below_step (bA HB.out) hb)
              (try clear hb)
              (try clear ho0)
              refine hK.out _ _ (cy6 BK304.out) (fun hHeld => ?_)
              clear hK K
              refine nO 19 ?_
              exact nP (hJ2_4_8_10_16 (v308, v311, v317, v320, gb322) _ ⟨hHeld, (by (with_reducible repeat (first | apply Kd.R_alloc | apply Kd.R_drewN | apply Kd.R_drew)); exact Kd.R_mono HO309.out (fun _ hk => hk.2)), (by (with_reducible repeat (first | apply Kd.R_alloc | apply Kd.R_drewN | apply Kd.R_drew)); exact Kd.R_mono HO312.out (fun _ hk => hk.2)), (rA HO318.out), (rA HO321.out), (kA BK304.out), (kA BK305.out), (kA BK322.out), GW322.out, GE322.out, NB304_322.out, NB322_304.out, NB305_322.out, NB322_305.out, (bA HB.out)⟩)
            ·skip
             rintro ⟨v308, v311, v320, gb322⟩ w21 ⟨hS_, h0_, h1_, h2_, h3_, h4_, h5_, h6_, h7_, h8_, h9_, h10_, h11_, h12_⟩
             try dsimp only at hS_ h0_ h1_ h2_ h3_ h4_ h5_ h6_ h7_ h8_ h9_ h10_ h11_ h12_
             clear BK304 BK305 HB
             have HO309 := Aside0.mk h0_
             have HO312 := Aside0.mk h1_
             have HO321 := Aside0.mk h2_
             have BK304 := Aside0.mk h3_
             have BK305 := Aside0.mk h4_
             have BK322 := Aside0.mk h5_
             have GW322 := Aside0.mk h6_
             have GE322 := Aside0.mk h7_
             have NB304_322 := Aside0.mk h8_
             have NB322_304 := Aside0.mk h9_
             have NB305_322 := Aside0.mk h10_
             have NB322_305 := Aside0.mk h11_
             have HB := Aside0.mk h12_
             clear h0_ h1_ h2_ h3_ h4_ h5_ h6_ h7_ h8_ h9_ h10_ h11_ h12_
             have hHeld := hS_
             refine nQ ?_
             refine two_ (i := 6) (j := 8) (Ni := some 21) (Nj := some 23) #[true, true, true, true, true, true, true, true, false, true, true, true, true, true, true, false, true, false] #[true, true, true, true, true, true, false, true, true, true, true, true, true, true, true, false, true, false] rfl rfl rfl rfl (two_of HT_.out (by kernel_rfl)) (by decide) (by decide) (fun K hK => ?_) (fun K hK => ?_)
             ·skip
              refine gO Try.func91 #[.agg #[.slice A0_0 l0_0.length c0_0, .int .i64 a0_1, .int .i64 a0_2, .int .i64 a0_3, .int .i64 a0_4, .int .i64 a0_5]] ?_
              with_reducible refine (impl_antesOf.calls k _ _ l0_0 a0_1 a0_2 a0_3 a0_4 a0_5 t313 _ ?side1 ?side2 A6.out).mono ?_
              (case side1 => exact cA (Kd.C_below HR0_0.out HB.out))
              (case side2 => exact HC0_0.out)
              rintro e w22 ⟨v314, rfl, ho0, hb⟩
              refine ⟨_, rfl, ?_⟩
              replace HO321 := Aside0.mk (Kd.R_below (rA HO321.out) hb)
              have HO315 := Aside0.mk (Kd.R_lower (Kd.R_new' (Kd.R_new' ho0 (Kd.R_lt (rA HO309.out))) (Kd.R_lt (rA HO312.out))) (below_size (bA HB.out)))
              replace HO309 := Aside0.mk (Kd.R_elder' (rA HO309.out) (Kd.R_base ho0) hb)
              replace HO312 := Aside0.mk (Kd.R_elder' (rA HO312.out) (Kd.R_base ho0) hb)
              replace BK304 := Aside0.mk (blk_below (kA BK304.out) hb)
              replace BK305 := Aside0.mk (blk_below (kA BK305.out) hb)
              replace BK322 := Aside0.mk (blk_below (kA BK322.out) hb)
              replace HB := Aside0.mk (below_step (bA HB.out) hb)
              (try clear hb)
              (try clear ho0)
              refine hK.out _ _ (cy6 BK304.out) (fun hHeld => ?_)
              clear hK K
              refine nO 21 ?_
              exact nP (hJ2_4_6_10_16 (v308, v311, v314, v320, gb322) _ ⟨hHeld, (rA HO309.out), (rA HO312.out), (by (with_reducible repeat (first | apply Kd.R_alloc | apply Kd.R_drewN | apply Kd.R_drew)); exact Kd.R_mono HO315.out (fun _ hk => ⟨hk.1.2, hk.2⟩)), (rA HO321.out), (kA BK304.out), (kA BK305.out), (kA BK322.out), GW322.out, GE322.out, NB304_322.out, NB322_304.out, NB305_322.out, NB322_305.out, (bA HB.out)⟩)
             ·skip
              refine Kd.R_make_step Kd.bool _ 4 (by rfl) (N := 23) rfl 23 _ _ rfl (l0_0.length : Int) rfl rfl Try.underlying23 (.bool false) 1 info4 rfl (by decide) (by omega) false (ok := fun _ => True) (okp := fun _ => True) rfl (fun _ hk => hk) trivial (dA) (Nat.le_trans (Nat.mul_le_mul_right _ (dA : (l0_0.length : Int).toNat ≤ 281474976710656)) (by omega)) (Below.refl _ _) (Nat.le_refl _) ?_
              intro v317 w22 ho23 hb hg_ hnew_
              clear hg_ hnew_
              (first | rw [← Ny316.out] at ho23 | (simp only [Int.reduceToNat] at ho23; rw [← Ny316.out] at ho23))
              replace HO309 := Aside0.mk (Kd.R_below (rA HO309.out) hb)
              replace HO312 := Aside0.mk (Kd.R_below (rA HO312.out) hb)
              have HO318 := Aside0.mk (Kd.R_lower (Kd.R_new' ho23 (Kd.R_lt (rA HO321.out))) (below_size (bA HB.out)))
              replace HO321 := Aside0.mk (Kd.R_elder' (rA HO321.out) (Kd.R_base ho23) hb)
              replace BK304 := Aside0.mk (blk_below (kA BK304.out) hb)
              replace BK305 := Aside0.mk (blk_below (kA BK305.out) hb)
              replace BK322 := Aside0.mk (blk_below (kA BK322.out) hb)
              replace HB := Aside0.mk (below_step (bA HB.out) hb)
              clear hb ho23
              refine hK.out _ _ (cy6 BK304.out) (fun hHeld => ?_)
              clear hK K
              refine nO 23 ?_
              exact nP (hJ2_4_8_10_16 (v308, v311, v317, v320, gb322) _ ⟨hHeld, (rA HO309.out), (rA HO312.out), (by (with_reducible repeat (first | apply Kd.R_alloc | apply Kd.R_drewN | apply Kd.R_drew)); exact Kd.R_mono HO318.out (fun _ hk => hk.2)), (by (with_reducible repeat (first | apply Kd.R_alloc | apply Kd.R_drewN | apply Kd.R_drew)); exact Kd.R_mono HO321.out (fun _ hk => hk.2)), (kA BK304.out), (kA BK305.out), (kA BK322.out), GW322.out, GE322.out, NB304_322.out, NB322_304.out, NB305_322.out, NB322_305.out, (bA HB.out)⟩)
           ·skip
            rintro ⟨v308, v311, v317, gb322⟩ w21 ⟨hS_, h0_, h1_, h2_, h3_, h4_, h5_, h6_, h7_, h8_, h9_, h10_, h11_, h12_⟩
            try dsimp only at hS_ h0_ h1_ h2_ h3_ h4_ h5_ h6_ h7_ h8_ h9_ h10_ h11_ h12_
            clear BK304 BK305 HB
            have HO309 := Aside0.mk h0_
            have HO312 := Aside0.mk h1_
            have HO318 := Aside0.mk h2_
            have BK304 := Aside0.mk h3_
            have BK305 := Aside0.mk h4_
            have BK322 := Aside0.mk h5_
            have GW322 := Aside0.mk h6_
            have GE322 := Aside0.mk h7_
            have NB304_322 := Aside0.mk h8_
            have NB322_304 := Aside0.mk h9_
            have NB305_322 := Aside0.mk h10_
            have NB322_305 := Aside0.mk h11_
            have HB := Aside0.mk h12_
            clear h0_ h1_ h2_ h3_ h4_ h5_ h6_ h7_ h8_ h9_ h10_ h11_ h12_
            have hHeld := hS_
            refine nQ ?_
            refine two_ (i := 6) (j := 10) (Ni := some 21) (Nj := some 25) #[true, true, true, true, true, true, true, true, true, true, false, true, true, true, true, false, true, false] #[true, true, true, true, true, true, false, true, true, true, true, true, true, true, true, false, true, false] rfl rfl rfl rfl (two_of HT_.out (by kernel_rfl)) (by decide) (by decide) (fun K hK => ?_) (fun K hK => ?_)
            ·skip
             refine gO Try.func91 #[.agg #[.slice A0_0 l0_0.length c0_0, .int .i64 a0_1, .int .i64 a0_2, .int .i64 a0_3, .int .i64 a0_4, .int .i64 a0_5]] ?_
             with_reducible refine (impl_antesOf.calls k _ _ l0_0 a0_1 a0_2 a0_3 a0_4 a0_5 t313 _ ?side1 ?side2 A6.out).mono ?_
             (case side1 => exact cA (Kd.C_below HR0_0.out HB.out))
             (case side2 => exact HC0_0.out)
             rintro e w22 ⟨v314, rfl, ho0, hb⟩
             refine ⟨_, rfl, ?_⟩
             replace HO318 := Aside0.mk (Kd.R_below (rA HO318.out) hb)
             have HO315 := Aside0.mk (Kd.R_lower (Kd.R_new' (Kd.R_new' ho0 (Kd.R_lt (rA HO309.out))) (Kd.R_lt (rA HO312.out))) (below_size (bA HB.out)))
             replace HO309 := Aside0.mk (Kd.R_elder' (rA HO309.out) (Kd.R_base ho0) hb)
             replace HO312 := Aside0.mk (Kd.R_elder' (rA HO312.out) (Kd.R_base ho0) hb)
             replace BK304 := Aside0.mk (blk_below (kA BK304.out) hb)
             replace BK305 := Aside0.mk (blk_below (kA BK305.out) hb)
             replace BK322 := Aside0.mk (blk_below (kA BK322.out) hb)
             replace HB := Aside0.mk (below_step (bA HB.out) hb)
             (try clear hb)
             (try clear ho0)
             refine hK.out _ _ (cy6 BK304.out) (fun hHeld => ?_)
             clear hK K
             refine nO 21 ?_
             exact nP (hJ2_4_6_8_16 (v308, v311, v314, v317, gb322) _ ⟨hHeld, (rA HO309.out), (rA HO312.out), (by (with_reducible repeat (first | apply Kd.R_alloc | apply Kd.R_drewN | apply Kd.R_drew)); exact Kd.R_mono HO315.out (fun _ hk => ⟨hk.1.2, hk.2⟩)), (rA HO318.out), (kA BK304.out), (kA BK305.out), (kA BK322.out), GW322.out, GE322.out, NB304_322.out, NB322_304.out, NB305_322.out, NB322_305.out, (bA HB.out)⟩)
            ·skip
             refine Kd.R_make_step Kd.bool _ 4 (by rfl) (N := 25) rfl 23 _ _ rfl (l0_0.length : Int) rfl rfl Try.underlying23 (.bool false) 1 info4 rfl (by decide) (by omega) false (ok := fun _ => True) (okp := fun _ => True) rfl (fun _ hk => hk) trivial (dA) (Nat.le_trans (Nat.mul_le_mul_right _ (dA : (l0_0.length : Int).toNat ≤ 281474976710656)) (by omega)) (Below.refl _ _) (Nat.le_refl _) ?_
             intro v320 w22 ho23 hb hg_ hnew_
             clear hg_ hnew_
             (first | rw [← Ny319.out] at ho23 | (simp only [Int.reduceToNat] at ho23; rw [← Ny319.out] at ho23))
             replace HO309 := Aside0.mk (Kd.R_below (rA HO309.out) hb)
             replace HO312 := Aside0.mk (Kd.R_below (rA HO312.out) hb)
             have HO321 := Aside0.mk (Kd.R_lower (Kd.R_new' ho23 (Kd.R_lt (rA HO318.out))) (below_size (bA HB.out)))
             replace HO318 := Aside0.mk (Kd.R_elder' (rA HO318.out) (Kd.R_base ho23) hb)
             replace BK304 := Aside0.mk (blk_below (kA BK304.out) hb)
             replace BK305 := Aside0.mk (blk_below (kA BK305.out) hb)
             replace BK322 := Aside0.mk (blk_below (kA BK322.out) hb)
             replace HB := Aside0.mk (below_step (bA HB.out) hb)
             clear hb ho23
             refine hK.out _ _ (cy6 BK304.out) (fun hHeld => ?_)
             clear hK K
             refine nO 25 ?_
             exact nP (hJ2_4_8_10_16 (v308, v311, v317, v320, gb322) _ ⟨hHeld, (rA HO309.out), (rA HO312.out), (by (with_reducible repeat (first | apply Kd.R_alloc | apply Kd.R_drewN | apply Kd.R_drew)); exact Kd.R_mono HO318.out (fun _ hk => hk.2)), (by (with_reducible repeat (first | apply Kd.R_alloc | apply Kd.R_drewN | apply Kd.R_drew)); exact Kd.R_mono HO321.out (fun _ hk => hk.2)), (kA BK304.out), (kA BK305.out), (kA BK322.out), GW322.out, GE322.out, NB304_322.out, NB322_304.out, NB305_322.out, NB322_305.out, (bA HB.out)⟩)
          ·skip
           rintro ⟨v308, v311, v317, v320⟩ w22 ⟨hS_, h0_, h1_, h2_, h3_, h4_, h5_, h6_⟩
           try dsimp only at hS_ h0_ h1_ h2_ h3_ h4_ h5_ h6_
           clear BK304 BK305 HB
           have HO309 := Aside0.mk h0_
           have HO312 := Aside0.mk h1_
           have HO318 := Aside0.mk h2_
           have HO321 := Aside0.mk h3_
           have BK304 := Aside0.mk h4_
           have BK305 := Aside0.mk h5_
           have HB := Aside0.mk h6_
           clear h0_ h1_ h2_ h3_ h4_ h5_ h6_
           have hHeld := hS_
           refine nQ ?_
           refine two_ (i := 6) (j := 16) (Ni := some 21) (Nj := some 5) #[true, true, true, true, true, true, true, true, true, true, true, true, true, true, true, false, false, false] #[true, true, true, true, true, true, false, true, true, true, true, true, true, true, true, false, true, false] rfl rfl rfl rfl (two_of HT_.out (by kernel_rfl)) (by decide) (by decide) (fun K hK => ?_) (fun K hK => ?_)
           ·skip
            refine gO Try.func91 #[.agg #[.slice A0_0 l0_0.length c0_0, .int .i64 a0_1, .int .i64 a0_2, .int .i64 a0_3, .int .i64 a0_4, .int .i64 a0_5]] ?_
            with_reducible refine (impl_antesOf.calls k _ _ l0_0 a0_1 a0_2 a0_3 a0_4 a0_5 t313 _ ?side1 ?side2 A6.out).mono ?_
            (case side1 => exact cA (Kd.C_below HR0_0.out HB.out))
            (case side2 => exact HC0_0.out)
            rintro e w23 ⟨v314, rfl, ho0, hb⟩
            refine ⟨_, rfl, ?_⟩
            replace HO318 := Aside0.mk (Kd.R_below (rA HO318.out) hb)
            replace HO321 := Aside0.mk (Kd.R_below (rA HO321.out) hb)
            have HO315 := Aside0.mk (Kd.R_lower (Kd.R_new' (Kd.R_new' ho0 (Kd.R_lt (rA HO309.out))) (Kd.R_lt (rA HO312.out))) (below_size (bA HB.out)))
            replace HO309 := Aside0.mk (Kd.R_elder' (rA HO309.out) (Kd.R_base ho0) hb)
            replace HO312 := Aside0.mk (Kd.R_elder' (rA HO312.out) (Kd.R_base ho0) hb)
            replace BK304 := Aside0.mk (blk_below (kA BK304.out) hb)
            replace BK305 := Aside0.mk (blk_below (kA BK305.out) hb)
            replace HB := Aside0.mk (below_step (bA HB.out) hb)
            (try clear hb)
            (try clear ho0)
            obtain ⟨Ao24, co24, eo24⟩ := Kd.R_slice HO321.out
            (first | subst eo24 | (injection eo24 with f1_ f2_ f3_; have f4_ := f1_.symm; have f5_ := f3_.symm; clear f1_ f2_ f3_; subst f4_; subst f5_))
            obtain ⟨Ao25, co25, eo25⟩ := Kd.R_slice HO318.out
            (first | subst eo25 | (injection eo25 with f1_ f2_ f3_; have f4_ := f1_.symm; have f5_ := f3_.symm; clear f1_ f2_ f3_; subst f4_; subst f5_))
            obtain ⟨Ao26, co26, eo26⟩ := Kd.R_slice HO315.out
            (first | subst eo26 | (injection eo26 with f1_ f2_ f3_; have f4_ := f1_.symm; have f5_ := f3_.symm; clear f1_ f2_ f3_; subst f4_; subst f5_))
            obtain ⟨Ao27, co27, eo27⟩ := Kd.R_slice HO312.out
            (first | subst eo27 | (injection eo27 with f1_ f2_ f3_; have f4_ := f1_.symm; have f5_ := f3_.symm; clear f1_ f2_ f3_; subst f4_; subst f5_))
            obtain ⟨Ao28, co28, eo28⟩ := Kd.R_slice HO309.out
            (first | subst eo28 | (injection eo28 with f1_ f2_ f3_; have f4_ := f1_.symm; have f5_ := f3_.symm; clear f1_ f2_ f3_; subst f4_; subst f5_))
            refine hK.out _ _ (cy6 BK304.out) (fun hHeld => ?_)
            clear hK K
            refine nO 21 ?_
            refine pI 15 (some 30) #[true, true, true, true, true, true, true, true, true, true, true, true, true, true, true, true, false, false] HT_.out ?_
            exact nP (hJ2_4_6_8_10 (.slice Ao28 t307.length co28, .slice Ao27 t310.length co27, .slice Ao26 t313.length co26, .slice Ao25 y316.length co25, .slice Ao24 y319.length co24) _ ⟨hHeld, (rA HO309.out), (rA HO312.out), (by (with_reducible repeat (first | apply Kd.R_alloc | apply Kd.R_drewN | apply Kd.R_drew)); exact Kd.R_mono HO315.out (fun _ hk => ⟨hk.1.2, hk.2⟩)), (rA HO318.out), (rA HO321.out), (kA BK304.out), (kA BK305.out), (bA HB.out)⟩)
           ·skip
            refine box_step ?hg (N := 5) ?hd (cs := #[.slice none 0 0, .slice none 0 0, .slice none 0 0, .slice none 0 0, .slice none 0 0, .int .i64 0, .int .i64 0, .int .i64 0, .int .i64 0]) (t := 28) ?hr ?_; (case hd => rfl); (case hg => rfl); (case hr => first | (go_simp; done) | (go_simp; rfl))
            intro gb322 hg w23 hbox hb
            replace HO309 := Aside0.mk (Kd.R_below (rA HO309.out) hb)
            replace HO312 := Aside0.mk (Kd.R_below (rA HO312.out) hb)
            replace HO318 := Aside0.mk (Kd.R_below (rA HO318.out) hb)
            replace HO321 := Aside0.mk (Kd.R_below (rA HO321.out) hb)
            have BK322 := Aside0.mk (hbox)
            have GW322 := Aside0.mk (gE hg (bA HB.out))
            have GE322 := Aside0.mk (gE hg (bA HB.out))
            replace HB := Aside0.mk (below_step (bA HB.out) hb)
            have NB304_322 := Aside0.mk ((by rw [hg]; exact Nat.ne_of_lt (blk_lt (kA BK304.out)) : gb304 ≠ gb322))
            have NB322_304 := Aside0.mk ((by rw [hg]; exact Nat.ne_of_gt (blk_lt (kA BK304.out)) : gb322 ≠ gb304))
            replace BK304 := Aside0.mk (blk_below (kA BK304.out) hb)
            have NB305_322 := Aside0.mk ((by rw [hg]; exact Nat.ne_of_lt (blk_lt (kA BK305.out)) : gb305 ≠ gb322))
            have NB322_305 := Aside0.mk ((by rw [hg]; exact Nat.ne_of_gt (blk_lt (kA BK305.out)) : gb322 ≠ gb305))
            replace BK305 := Aside0.mk (blk_below (kA BK305.out) hb)
            clear hb hbox hg
            refine hK.out _ _ (cy6 BK304.out) (fun hHeld => ?_)
            clear hK K
            refine nO 5 ?_
            exact nP (hJ2_4_8_10_16 (v308, v311, v317, v320, gb322) _ ⟨hHeld, (rA HO309.out), (rA HO312.out), (rA HO318.out), (rA HO321.out), (kA BK304.out), (kA BK305.out), (kA BK322.out), GW322.out, GE322.out, NB304_322.out, NB322_304.out, NB305_322.out, NB322_305.out, (bA HB.out)⟩)
         ·skip
          rintro ⟨v308, v311, v314, gb322⟩ w20 ⟨hS_, h0_, h1_, h2_, h3_, h4_, h5_, h6_, h7_, h8_, h9_, h10_, h11_, h12_⟩
          try dsimp only at hS_ h0_ h1_ h2_ h3_ h4_ h5_ h6_ h7_ h8_ h9_ h10_ h11_ h12_
          clear BK304 BK305 HB
          have HO309 := Aside0.mk h0_
          have HO312 := Aside0.mk h1_
          have HO315 := Aside0.mk h2_
          have BK304 := Aside0.mk h3_
          have BK305 := Aside0.mk h4_
          have BK322 := Aside0.mk h5_
          have GW322 := Aside0.mk h6_
          have GE322 := Aside0.mk h7_
          have NB304_322 := Aside0.mk h8_
          have NB322_304 := Aside0.mk h9_
          have NB305_322 := Aside0.mk h10_
          have NB322_305 := Aside0.mk h11_
          have HB := Aside0.mk h12_
          clear h0_ h1_ h2_ h3_ h4_ h5_ h6_ h7_ h8_ h9_ h10_ h11_ h12_
          have hHeld := hS_
          refine nQ ?_
          refine two_ (i := 8) (j := 10) (Ni := some 23) (Nj := some 25) #[true, true, true, true, true, true, true, true, true, true, false, true, true, true, true, false, true, false] #[true, true, true, true, true, true, true, true, false, true, true, true, true, true, true, false, true, false] rfl rfl rfl rfl (two_of HT_.out (by kernel_rfl)) (by decide) (by decide) (fun K hK => ?_) (fun K hK => ?_)
          ·skip
           refine Kd.R_make_step Kd.bool _ 4 (by rfl) (N := 23) rfl 23 _ _ rfl (l0_0.length : Int) rfl rfl Try.underlying23 (.bool false) 1 info4 rfl (by decide) (by omega) false (ok := fun _ => True) (okp := fun _ => True) rfl (fun _ hk => hk) trivial (dA) (Nat.le_trans (Nat.mul_le_mul_right _ (dA : (l0_0.length : Int).toNat ≤ 281474976710656)) (by omega)) (Below.refl _ _) (Nat.le_refl _) ?_
           intro v317 w21 ho22 hb hg_ hnew_
           clear hg_ hnew_
           (first | rw [← Ny316.out] at ho22 | (simp only [Int.reduceToNat] at ho22; rw [← Ny316.out] at ho22))
           replace HO309 := Aside0.mk (Kd.R_below (rA HO309.out) hb)
           replace HO312 := Aside0.mk (Kd.R_below (rA HO312.out) hb)
           replace HO315 := Aside0.mk (Kd.R_below (rA HO315.out) hb)
           have HO318 := Aside0.mk (Kd.R_lower ho22 (below_size (bA HB.out)))
           replace BK304 := Aside0.mk (blk_below (kA BK304.out) hb)
           replace BK305 := Aside0.mk (blk_below (kA BK305.out) hb)
           replace BK322 := Aside0.mk (blk_below (kA BK322.out) hb)
           replace HB := Aside0.mk (below_step (bA HB.out) hb)
           clear hb ho22
           refine hK.out _ _ (cy6 BK304.out) (fun hHeld => ?_)
           clear hK K
           refine nO 23 ?_
           exact nP (hJ2_4_6_8_16 (v308, v311, v314, v317, gb322) _ ⟨hHeld, (rA HO309.out), (rA HO312.out), (rA HO315.out), (rA HO318.out), (kA BK304.out), (kA BK305.out), (kA BK322.out), GW322.out, GE322.out, NB304_322.out, NB322_304.out, NB305_322.out, NB322_305.out, (bA HB.out)⟩)
          ·skip
           refine Kd.R_make_step Kd.bool _ 4 (by rfl) (N := 25) rfl 23 _ _ rfl (l0_0.length : Int) rfl rfl Try.underlying23 (.bool false) 1 info4 rfl (by decide) (by omega) false (ok := fun _ => True) (okp := fun _ => True) rfl (fun _ hk => hk) trivial (dA) (Nat.le_trans (Nat.mul_le_mul_right _ (dA : (l0_0.length : Int).toNat ≤ 281474976710656)) (by omega)) (Below.refl _ _) (Nat.le_refl _) ?_
           intro v320 w21 ho22 hb hg_ hnew_
           clear hg_ hnew_
           (first | rw [← Ny319.out] at ho22 | (simp only [Int.reduceToNat] at ho22; rw [← Ny319.out] at ho22))
           replace HO309 := Aside0.mk (Kd.R_below (rA HO309.out) hb)
           replace HO312 := Aside0.mk (Kd.R_below (rA HO312.out) hb)
           replace HO315 := Aside0.mk (Kd.R_below (rA HO315.out) hb)
           have HO321 := Aside0.mk (Kd.R_lower ho22 (below_size (bA HB.out)))
           replace BK304 := Aside0.mk (blk_below (kA BK304.out) hb)
           replace BK305 := Aside0.mk (blk_below (kA BK305.out) hb)
           replace BK322 := Aside0.mk (blk_below (kA BK322.out) hb)
           replace HB := Aside0.mk (below_step (bA HB.out) hb)
           clear hb ho22
           refine hK.out _ _ (cy6 BK304.out) (fun hHeld => ?_)
           clear hK K
           refine nO 25 ?_
           exact nP (hJ2_4_6_10_16 (v308, v311, v314, v320, gb322) _ ⟨hHeld, (rA HO309.out), (rA HO312.out), (rA HO315.out), (rA HO321.out), (kA BK304.out), (kA BK305.out), (kA BK322.out), GW322.out, GE322.out, NB304_322.out, NB322_304.out, NB305_322.out, NB322_305.out, (bA HB.out)⟩)
        ·skip
         rintro ⟨v308, v311, v314, v320⟩ w21 ⟨hS_, h0_, h1_, h2_, h3_, h4_, h5_, h6_⟩
         try dsimp only at hS_ h0_ h1_ h2_ h3_ h4_ h5_ h6_
         clear BK304 BK305 HB
         have HO309 := Aside0.mk h0_
         have HO312 := Aside0.mk h1_
         have HO315 := Aside0.mk h2_
         have HO321 := Aside0.mk h3_
         have BK304 := Aside0.mk h4_
         have BK305 := Aside0.mk h5_
         have HB := Aside0.mk h6_
         clear h0_ h1_ h2_ h3_ h4_ h5_ h6_
         have hHeld := hS_
         refine nQ ?_
         refine two_ (i := 8) (j := 16) (Ni := some 23) (Nj := some 5) #[true, true, true, true, true, true, true, true, true, true, true, true, true, true, true, false, false, false] #[true, true, true, true, true, true, true, true, false, true, true, true, true, true, true, false, true, false] rfl rfl rfl rfl (two_of HT_.out (by kernel_rfl)) (by decide) (by decide) (fun K hK => ?_) (fun K hK => ?_)
         ·skip
          refine Kd.R_make_step Kd.bool _ 4 (by rfl) (N := 23) rfl 23 _ _ rfl (l0_0.length : Int) rfl rfl Try.underlying23 (.bool false) 1 info4 rfl (by decide) (by omega) false (ok := fun _ => True) (okp := fun _ => True) rfl (fun _ hk => hk) trivial (dA) (Nat.le_trans (Nat.mul_le_mul_right _ (dA : (l0_0.length : Int).toNat ≤ 281474976710656)) (by omega)) (Below.refl _ _) (Nat.le_refl _) ?_
          intro v317 w22 ho23 hb hg_ hnew_
          clear hg_ hnew_
          (first | rw [← Ny316.out] at ho23 | (simp only [Int.reduceToNat] at ho23; rw [← Ny316.out] at ho23))
          replace HO309 := Aside0.mk (Kd.R_below (rA HO309.out) hb)
          replace HO312 := Aside0.mk (Kd.R_below (rA HO312.out) hb)
          replace HO315 := Aside0.mk (Kd.R_below (rA HO315.out) hb)
          have HO318 := Aside0.mk (Kd.R_lower (Kd.R_new' ho23 (Kd.R_lt (rA HO321.out))) (below_size (bA HB.out)))
          replace HO321 := Aside0.mk (Kd.R_elder' (rA HO321.out) (Kd.R_base ho23) hb)
          replace BK304 := Aside0.mk (blk_below (kA BK304.out) hb)
          replace BK305 := Aside0.mk (blk_below (kA BK305.out) hb)
          replace HB := Aside0.mk (below_step (bA HB.out) hb)
          clear hb ho23
          obtain ⟨Ao24, co24, eo24⟩ := Kd.R_slice HO321.out
          (first | subst eo24 | (injection eo24 with f1_ f2_ f3_; have f4_ := f1_.symm; have f5_ := f3_.symm; clear f1_ f2_ f3_; subst f4_; subst f5_))
          obtain ⟨Ao25, co25, eo25⟩ := Kd.R_slice HO318.out
          (first | subst eo25 | (injection eo25 with f1_ f2_ f3_; have f4_ := f1_.symm; have f5_ := f3_.symm; clear f1_ f2_ f3_; subst f4_; subst f5_))
          obtain ⟨Ao26, co26, eo26⟩ := Kd.R_slice HO315.out
          (first | subst eo26 | (injection eo26 with f1_ f2_ f3_; have f4_ := f1_.symm; have f5_ := f3_.symm; clear f1_ f2_ f3_; subst f4_; subst f5_))
          obtain ⟨Ao27, co27, eo27⟩ := Kd.R_slice HO312.out
          (first | subst eo27 | (injection eo27 with f1_ f2_ f3_; have f4_ := f1_.symm; have f5_ := f3_.symm; clear f1_ f2_ f3_; subst f4_; subst f5_))
          obtain ⟨Ao28, co28, eo28⟩ := Kd.R_slice HO309.out
          (first | subst eo28 | (injection eo28 with f1_ f2_ f3_; have f4_ := f1_.symm; have f5_ := f3_.symm; clear f1_ f2_ f3_; subst f4_; subst f5_))
          refine hK.out _ _ (cy6 BK304.out) (fun hHeld => ?_)
          clear hK K
          refine nO 23 ?_
          refine pI 15 (some 30) #[true, true, true, true, true, true, true, true, true, true, true, true, true, true, true, true, false, false] HT_.out ?_
          exact nP (hJ2_4_6_8_10 (.slice Ao28 t307.length co28, .slice Ao27 t310.length co27, .slice Ao26 t313.length co26, .slice Ao25 y316.length co25, .slice Ao24 y319.length co24) _ ⟨hHeld, (rA HO309.out), (rA HO312.out), (rA HO315.out), (by (with_reducible repeat (first | apply Kd.R_alloc | apply Kd.R_drewN | apply Kd.R_drew)); exact Kd.R_mono HO318.out (fun _ hk => hk.2)), (by (with_reducible repeat (first | apply Kd.R_alloc | apply Kd.R_drewN | apply Kd.R_drew)); exact Kd.R_mono HO321.out (fun _ hk => hk.2)), (kA BK304.out), (kA BK305.out), (bA HB.out)⟩)
         ·skip
          refine box_step ?hg (N := 5) ?hd (cs := #[.slice none 0 0, .slice none 0 0, .slice none 0 0, .slice none 0 0, .slice none 0 0, .int .i64 0, .int .i64 0, .int .i64 0, .int .i64 0]) (t := 28) ?hr ?_; (case hd => rfl); (case hg => rfl); (case hr => first | (go_simp; done) | (go_simp; rfl))
          intro gb322 hg w22 hbox hb
          replace HO309 := Aside0.mk (Kd.R_below (rA HO309.out) hb)
          replace HO312 := Aside0.mk (Kd.R_below (rA HO312.out) hb)
          replace HO315 := Aside0.mk (Kd.R_below (rA HO315.out) hb)
          replace HO321 := Aside0.mk (Kd.R_below (rA HO321.out) hb)
          have BK322 := Aside0.mk (hbox)
          have GW322 := Aside0.mk (gE hg (bA HB.out))
          have GE322 := Aside0.mk (gE hg (bA HB.out))
          replace HB := Aside0.mk (below_step (bA HB.out) hb)
          have NB304_322 := Aside0.mk ((by rw [hg]; exact Nat.ne_of_lt (blk_lt (kA BK304.out)) : gb304 ≠ gb322))
          have NB322_304 := Aside0.mk ((by rw [hg]; exact Nat.ne_of_gt (blk_lt (kA BK304.out)) : gb322 ≠ gb304))
          replace BK304 := Aside0.mk (blk_below (kA BK304.out) hb)
          have NB305_322 := Aside0.mk ((by rw [hg]; exact Nat.ne_of_lt (blk_lt (kA BK305.out)) : gb305 ≠ gb322))
          have NB322_305 := Aside0.mk ((by rw [hg]; exact Nat.ne_of_gt (blk_lt (kA BK305.out)) : gb322 ≠ gb305))
          replace BK305 := Aside0.mk (blk_below (kA BK305.out) hb)
          clear hb hbox hg
          refine hK.out _ _ (cy6 BK304.out) (fun hHeld => ?_)
          clear hK K
          refine nO 5 ?_
          exact nP (hJ2_4_6_10_16 (v308, v311, v314, v320, gb322) _ ⟨hHeld, (rA HO309.out), (rA HO312.out), (rA HO315.out), (rA HO321.out), (kA BK304.out), (kA BK305.out), (kA BK322.out), GW322.out, GE322.out, NB304_322.out, NB322_304.out, NB305_322.out, NB322_305.out, (bA HB.out)⟩)
       ·skip
        rintro ⟨v308, v311, v314, v317⟩ w21 ⟨hS_, h0_, h1_, h2_, h3_, h4_, h5_, h6_⟩
        try dsimp only at hS_ h0_ h1_ h2_ h3_ h4_ h5_ h6_
        clear BK304 BK305 HB
        have HO309 := Aside0.mk h0_
        have HO312 := Aside0.mk h1_
        have HO315 := Aside0.mk h2_
        have HO318 := Aside0.mk h3_
        have BK304 := Aside0.mk h4_
        have BK305 := Aside0.mk h5_
        have HB := Aside0.mk h6_
        clear h0_ h1_ h2_ h3_ h4_ h5_ h6_
        have hHeld := hS_
        refine nQ ?_
        refine two_ (i := 10) (j := 16) (Ni := some 25) (Nj := some 5) #[true, true, true, true, true, true, true, true, true, true, true, true, true, true, true, false, false, false] #[true, true, true, true, true, true, true, true, true, true, false, true, true, true, true, false, true, false] rfl rfl rfl rfl (two_of HT_.out (by kernel_rfl)) (by decide) (by decide) (fun K hK => ?_) (fun K hK => ?_)
        ·skip
         refine Kd.R_make_step Kd.bool _ 4 (by rfl) (N := 25) rfl 23 _ _ rfl (l0_0.length : Int) rfl rfl Try.underlying23 (.bool false) 1 info4 rfl (by decide) (by omega) false (ok := fun _ => True) (okp := fun _ => True) rfl (fun _ hk => hk) trivial (dA) (Nat.le_trans (Nat.mul_le_mul_right _ (dA : (l0_0.length : Int).toNat ≤ 281474976710656)) (by omega)) (Below.refl _ _) (Nat.le_refl _) ?_
         intro v320 w22 ho23 hb hg_ hnew_
         clear hg_ hnew_
         (first | rw [← Ny319.out] at ho23 | (simp only [Int.reduceToNat] at ho23; rw [← Ny319.out] at ho23))
         replace HO309 := Aside0.mk (Kd.R_below (rA HO309.out) hb)
         replace HO312 := Aside0.mk (Kd.R_below (rA HO312.out) hb)
         replace HO315 := Aside0.mk (Kd.R_below (rA HO315.out) hb)
         have HO321 := Aside0.mk (Kd.R_lower (Kd.R_new' ho23 (Kd.R_lt (rA HO318.out))) (below_size (bA HB.out)))
         replace HO318 := Aside0.mk (Kd.R_elder' (rA HO318.out) (Kd.R_base ho23) hb)
         replace BK304 := Aside0.mk (blk_below (kA BK304.out) hb)
         replace BK305 := Aside0.mk (blk_below (kA BK305.out) hb)
         replace HB := Aside0.mk (below_step (bA HB.out) hb)
         clear hb ho23
         obtain ⟨Ao24, co24, eo24⟩ := Kd.R_slice HO321.out
         (first | subst eo24 | (injection eo24 with f1_ f2_ f3_; have f4_ := f1_.symm; have f5_ := f3_.symm; clear f1_ f2_ f3_; subst f4_; subst f5_))
         obtain ⟨Ao25, co25, eo25⟩ := Kd.R_slice HO318.out
         (first | subst eo25 | (injection eo25 with f1_ f2_ f3_; have f4_ := f1_.symm; have f5_ := f3_.symm; clear f1_ f2_ f3_; subst f4_; subst f5_))
         obtain ⟨Ao26, co26, eo26⟩ := Kd.R_slice HO315.out
         (first | subst eo26 | (injection eo26 with f1_ f2_ f3_; have f4_ := f1_.symm; have f5_ := f3_.symm; clear f1_ f2_ f3_; subst f4_; subst f5_))
         obtain ⟨Ao27, co27, eo27⟩ := Kd.R_slice HO312.out
         (first | subst eo27 | (injection eo27 with f1_ f2_ f3_; have f4_ := f1_.symm; have f5_ := f3_.symm; clear f1_ f2_ f3_; subst f4_; subst f5_))
         obtain ⟨Ao28, co28, eo28⟩ := Kd.R_slice HO309.out
         (first | subst eo28 | (injection eo28 with f1_ f2_ f3_; have f4_ := f1_.symm; have f5_ := f3_.symm; clear f1_ f2_ f3_; subst f4_; subst f5_))
         refine hK.out _ _ (cy6 BK304.out) (fun hHeld => ?_)
         clear hK K
         refine nO 25 ?_
         refine pI 15 (some 30) #[true, true, true, true, true, true, true, true, true, true, true, true, true, true, true, true, false, false] HT_.out ?_
         exact nP (hJ2_4_6_8_10 (.slice Ao28 t307.length co28, .slice Ao27 t310.length co27, .slice Ao26 t313.length co26, .slice Ao25 y316.length co25, .slice Ao24 y319.length co24) _ ⟨hHeld, (rA HO309.out), (rA HO312.out), (rA HO315.out), (by (with_reducible repeat (first | apply Kd.R_alloc | apply Kd.R_drewN | apply Kd.R_drew)); exact Kd.R_mono HO318.out (fun _ hk => hk.2)), (by (with_reducible repeat (first | apply Kd.R_alloc | apply Kd.R_drewN | apply Kd.R_drew)); exact Kd.R_mono HO321.out (fun _ hk => hk.2)), (kA BK304.out), (kA BK305.out), (bA HB.out)⟩)
        ·skip
         refine box_step ?hg (N := 5) ?hd (cs := #[.slice none 0 0, .slice none 0 0, .slice none 0 0, .slice none 0 0, .slice none 0 0, .int .i64 0, .int .i64 0, .int .i64 0, .int .i64 0]) (t := 28) ?hr ?_; (case hd => rfl); (case hg => rfl); (case hr => first | (go_simp; done) | (go_simp; rfl))
         intro gb322 hg w22 hbox hb
         replace HO309 := Aside0.mk (Kd.R_below (rA HO309.out) hb)
         replace HO312 := Aside0.mk (Kd.R_below (rA HO312.out) hb)
         replace HO315 := Aside0.mk (Kd.R_below (rA HO315.out) hb)
         replace HO318 := Aside0.mk (Kd.R_below (rA HO318.out) hb)
         have BK322 := Aside0.mk (hbox)
         have GW322 := Aside0.mk (gE hg (bA HB.out))
         have GE322 := Aside0.mk (gE hg (bA HB.out))
         replace HB := Aside0.mk (below_step (bA HB.out) hb)
         have NB304_322 := Aside0.mk ((by rw [hg]; exact Nat.ne_of_lt (blk_lt (kA BK304.out)) : gb304 ≠ gb322))
         have NB322_304 := Aside0.mk ((by rw [hg]; exact Nat.ne_of_gt (blk_lt (kA BK304.out)) : gb322 ≠ gb304))
         replace BK304 := Aside0.mk (blk_below (kA BK304.out) hb)
         have NB305_322 := Aside0.mk ((by rw [hg]; exact Nat.ne_of_lt (blk_lt (kA BK305.out)) : gb305 ≠ gb322))
         have NB322_305 := Aside0.mk ((by rw [hg]; exact Nat.ne_of_gt (blk_lt (kA BK305.out)) : gb322 ≠ gb305))
         replace BK305 := Aside0.mk (blk_below (kA BK305.out) hb)
         clear hb hbox hg
         refine hK.out _ _ (cy6 BK304.out) (fun hHeld => ?_)
         clear hK K
         refine nO 5 ?_
         exact nP (hJ2_4_6_8_16 (v308, v311, v314, v317, gb322) _ ⟨hHeld, (rA HO309.out), (rA HO312.out), (rA HO315.out), (rA HO318.out), (kA BK304.out), (kA BK305.out), (kA BK322.out), GW322.out, GE322.out, NB304_322.out, NB322_304.out, NB305_322.out, NB322_305.out, (bA HB.out)⟩)
      ·skip
       rintro ⟨v308, v311, v317, v320, gb322⟩ w23 ⟨hS_, h0_, h1_, h2_, h3_, h4_, h5_, h6_, h7_, h8_, h9_, h10_, h11_, h12_, h13_⟩
       try dsimp only at hS_ h0_ h1_ h2_ h3_ h4_ h5_ h6_ h7_ h8_ h9_ h10_ h11_ h12_ h13_
       clear BK304 BK305 HB
       have HO309 := Aside0.mk h0_
       have HO312 := Aside0.mk h1_
       have HO318 := Aside0.mk h2_
       have HO321 := Aside0.mk h3_
       have BK304 := Aside0.mk h4_
       have BK305 := Aside0.mk h5_
       have BK322 := Aside0.mk h6_
       have GW322 := Aside0.mk h7_
       have GE322 := Aside0.mk h8_
       have NB304_322 := Aside0.mk h9_
       have NB322_304 := Aside0.mk h10_
       have NB305_322 := Aside0.mk h11_
       have NB322_305 := Aside0.mk h12_
       have HB := Aside0.mk h13_
       clear h0_ h1_ h2_ h3_ h4_ h5_ h6_ h7_ h8_ h9_ h10_ h11_ h12_ h13_
       have hHeld := hS_
       refine nQ ?_
       refine one_ (i := 6) (N := some 21) #[true, true, true, true, true, true, true, true, true, true, true, true, true, true, true, false, true, false] rfl rfl (one_of HT_.out (by kernel_rfl)) (by decide) (fun K hK => ?_)
       refine gO Try.func91 #[.agg #[.slice A0_0 l0_0.length c0_0, .int .i64 a0_1, .int .i64 a0_2, .int .i64 a0_3, .int .i64 a0_4, .int .i64 a0_5]] ?_
       with_reducible refine (impl_antesOf.calls k _ _ l0_0 a0_1 a0_2 a0_3 a0_4 a0_5 t313 _ ?side1 ?side2 A6.out).mono ?_
       (case side1 => exact cA (Kd.C_below HR0_0.out HB.out))
       (case side2 => exact HC0_0.out)
       rintro e w24 ⟨v314, rfl, ho0, hb⟩
       refine ⟨_, rfl, ?_⟩
       replace HO318 := Aside0.mk (Kd.R_below (rA HO318.out) hb)
       replace HO321 := Aside0.mk (Kd.R_below (rA HO321.out) hb)
       have HO315 := Aside0.mk (Kd.R_lower (Kd.R_new' (Kd.R_new' ho0 (Kd.R_lt (rA HO309.out))) (Kd.R_lt (rA HO312.out))) (below_size (bA HB.out)))
       replace HO309 := Aside0.mk (Kd.R_elder' (rA HO309.out) (Kd.R_base ho0) hb)
       replace HO312 := Aside0.mk (Kd.R_elder' (rA HO312.out) (Kd.R_base ho0) hb)
       replace BK304 := Aside0.mk (blk_below (kA BK304.out) hb)
       replace BK305 := Aside0.mk (blk_below (kA BK305.out) hb)
       replace BK322 := Aside0.mk (blk_below (kA BK322.out) hb)
       replace HB := Aside0.mk (below_step (bA HB.out) hb)
       (try clear hb)
       (try clear ho0)
       obtain ⟨Ao25, co25, eo25⟩ := Kd.R_slice HO321.out
       (first | subst eo25 | (injection eo25 with f1_ f2_ f3_; have f4_ := f1_.symm; have f5_ := f3_.symm; clear f1_ f2_ f3_; subst f4_; subst f5_))
       obtain ⟨Ao26, co26, eo26⟩ := Kd.R_slice HO318.out
       (first | subst eo26 | (injection eo26 with f1_ f2_ f3_; have f4_ := f1_.symm; have f5_ := f3_.symm; clear f1_ f2_ f3_; subst f4_; subst f5_))
       obtain ⟨Ao27, co27, eo27⟩ := Kd.R_slice HO315.out
       (first | subst eo27 | (injection eo27 with f1_ f2_ f3_; have f4_ := f1_.symm; have f5_ := f3_.symm; clear f1_ f2_ f3_; subst f4_; subst f5_))
       obtain ⟨Ao28, co28, eo28⟩ := Kd.R_slice HO312.out
       (first | subst eo28 | (injection eo28 with f1_ f2_ f3_; have f4_ := f1_.symm; have f5_ := f3_.symm; clear f1_ f2_ f3_; subst f4_; subst f5_))
       obtain ⟨Ao29, co29, eo29⟩ := Kd.R_slice HO309.out
       (first | subst eo29 | (injection eo29 with f1_ f2_ f3_; have f4_ := f1_.symm; have f5_ := f3_.symm; clear f1_ f2_ f3_; subst f4_; subst f5_))
       refine hK.out _ _ (cy6 BK304.out) (fun hHeld => ?_)
       clear hK K
       refine nO 21 ?_
       refine pI 15 (some 30) #[true, true, true, true, true, true, true, true, true, true, true, true, true, true, true, true, true, false] HT_.out ?_
       exact nP (hJ2_4_6_8_10_16 (.slice Ao29 t307.length co29, .slice Ao28 t310.length co28, .slice Ao27 t313.length co27, .slice Ao26 y316.length co26, .slice Ao25 y319.length co25, gb322) _ ⟨hHeld, (rA HO309.out), (rA HO312.out), (by (with_reducible repeat (first | apply Kd.R_alloc | apply Kd.R_drewN | apply Kd.R_drew)); exact Kd.R_mono HO315.out (fun _ hk => ⟨hk.1.2, hk.2⟩)), (rA HO318.out), (rA HO321.out), (kA BK304.out), (kA BK305.out), (kA BK322.out), GW322.out, GE322.out, NB304_322.out, NB322_304.out, NB305_322.out, NB322_305.out, (bA HB.out)⟩)
     ·skip
      rintro ⟨v308, v311, v314, v320, gb322⟩ w22 ⟨hS_, h0_, h1_, h2_, h3_, h4_, h5_, h6_, h7_, h8_, h9_, h10_, h11_, h12_, h13_⟩
      try dsimp only at hS_ h0_ h1_ h2_ h3_ h4_ h5_ h6_ h7_ h8_ h9_ h10_ h11_ h12_ h13_
      clear BK304 BK305 HB
      have HO309 := Aside0.mk h0_
      have HO312 := Aside0.mk h1_
      have HO315 := Aside0.mk h2_
      have HO321 := Aside0.mk h3_
      have BK304 := Aside0.mk h4_
      have BK305 := Aside0.mk h5_
      have BK322 := Aside0.mk h6_
      have GW322 := Aside0.mk h7_
      have GE322 := Aside0.mk h8_
      have NB304_322 := Aside0.mk h9_
      have NB322_304 := Aside0.mk h10_
      have NB305_322 := Aside0.mk h11_
      have NB322_305 := Aside0.mk h12_
      have HB := Aside0.mk h13_
      clear h0_ h1_ h2_ h3_ h4_ h5_ h6_ h7_ h8_ h9_ h10_ h11_ h12_ h13_
      have hHeld := hS_
      refine nQ ?_
      refine one_ (i := 8) (N := some 23) #[true, true, true, true, true, true, true, true, true, true, true, true, true, true, true, false, true, false] rfl rfl (one_of HT_.out (by kernel_rfl)) (by decide) (fun K hK => ?_)
      refine Kd.R_make_step Kd.bool _ 4 (by rfl) (N := 23) rfl 23 _ _ rfl (l0_0.length : Int) rfl rfl Try.underlying23 (.bool false) 1 info4 rfl (by decide) (by omega) false (ok := fun _ => True) (okp := fun _ => True) rfl (fun _ hk => hk) trivial (dA) (Nat.le_trans (Nat.mul_le_mul_right _ (dA : (l0_0.length : Int).toNat ≤ 281474976710656)) (by omega)) (Below.refl _ _) (Nat.le_refl _) ?_
      intro v317 w23 ho24 hb hg_ hnew_
      clear hg_ hnew_
      (first | rw [← Ny316.out] at ho24 | (simp only [Int.reduceToNat] at ho24; rw [← Ny316.out] at ho24))
      replace HO309 := Aside0.mk (Kd.R_below (rA HO309.out) hb)
      replace HO312 := Aside0.mk (Kd.R_below (rA HO312.out) hb)
      replace HO315 := Aside0.mk (Kd.R_below (rA HO315.out) hb)
      have HO318 := Aside0.mk (Kd.R_lower (Kd.R_new' ho24 (Kd.R_lt (rA HO321.out))) (below_size (bA HB.out)))
      replace HO321 := Aside0.mk (Kd.R_elder' (rA HO321.out) (Kd.R_base ho24) hb)
      replace BK304 := Aside0.mk (blk_below (kA BK304.out) hb)
      replace BK305 := Aside0.mk (blk_below (kA BK305.out) hb)
      replace BK322 := Aside0.mk (blk_below (kA BK322.out) hb)
      replace HB := Aside0.mk (below_step (bA HB.out) hb)
      clear hb ho24
      obtain ⟨Ao25, co25, eo25⟩ := Kd.R_slice HO321.out
      (first | subst eo25 | (injection eo25 with f1_ f2_ f3_; have f4_ := f1_.symm; have f5_ := f3_.symm; clear f1_ f2_ f3_; subst f4_; subst f5_))
      obtain ⟨Ao26, co26, eo26⟩ := Kd.R_slice HO318.out
      (first | subst eo26 | (injection eo26 with f1_ f2_ f3_; have f4_ := f1_.symm; have f5_ := f3_.symm; clear f1_ f2_ f3_; subst f4_; subst f5_))
      obtain ⟨Ao27, co27, eo27⟩ := Kd.R_slice HO315.out
      (first | subst eo27 | (injection eo27 with f1_ f2_ f3_; have f4_ := f1_.symm; have f5_ := f3_.symm; clear f1_ f2_ f3_; subst f4_; subst f5_))
      obtain ⟨Ao28, co28, eo28⟩ := Kd.R_slice HO312.out
      (first | subst eo28 | (injection eo28 with f1_ f2_ f3_; have f4_ := f1_.symm; have f5_ := f3_.symm; clear f1_ f2_ f3_; subst f4_; subst f5_))
      obtain ⟨Ao29, co29, eo29⟩ := Kd.R_slice HO309.out
      (first | subst eo29 | (injection eo29 with f1_ f2_ f3_; have f4_ := f1_.symm; have f5_ := f3_.symm; clear f1_ f2_ f3_; subst f4_; subst f5_))
      refine hK.out _ _ (cy6 BK304.out) (fun hHeld => ?_)
      clear hK K
      refine nO 23 ?_
      refine pI 15 (some 30) #[true, true, true, true, true, true, true, true, true, true, true, true, true, true, true, true, true, false] HT_.out ?_
      exact nP (hJ2_4_6_8_10_16 (.slice Ao29 t307.length co29, .slice Ao28 t310.length co28, .slice Ao27 t313.length co27, .slice Ao26 y316.length co26, .slice Ao25 y319.length co25, gb322) _ ⟨hHeld, (rA HO309.out), (rA HO312.out), (rA HO315.out), (by (with_reducible repeat (first | apply Kd.R_alloc | apply Kd.R_drewN | apply Kd.R_drew)); exact Kd.R_mono HO318.out (fun _ hk => hk.2)), (by (with_reducible repeat (first | apply Kd.R_alloc | apply Kd.R_drewN | apply Kd.R_drew)); exact Kd.R_mono HO321.out (fun _ hk => hk.2)), (kA BK304.out), (kA BK305.out), (kA BK322.out), GW322.out, GE322.out, NB304_322.out, NB322_304.out, NB305_322.out, NB322_305.out, (bA HB.out)⟩)
    ·skip
     rintro ⟨v308, v311, v314, v317, gb322⟩ w22 ⟨hS_, h0_, h1_, h2_, h3_, h4_, h5_, h6_, h7_, h8_, h9_, h10_, h11_, h12_, h13_⟩
     try dsimp only at hS_ h0_ h1_ h2_ h3_ h4_ h5_ h6_ h7_ h8_ h9_ h10_ h11_ h12_ h13_
     clear BK304 BK305 HB
     have HO309 := Aside0.mk h0_
     have HO312 := Aside0.mk h1_
     have HO315 := Aside0.mk h2_
     have HO318 := Aside0.mk h3_
     have BK304 := Aside0.mk h4_
     have BK305 := Aside0.mk h5_
     have BK322 := Aside0.mk h6_
     have GW322 := Aside0.mk h7_
     have GE322 := Aside0.mk h8_
     have NB304_322 := Aside0.mk h9_
     have NB322_304 := Aside0.mk h10_
     have NB305_322 := Aside0.mk h11_
     have NB322_305 := Aside0.mk h12_
     have HB := Aside0.mk h13_
     clear h0_ h1_ h2_ h3_ h4_ h5_ h6_ h7_ h8_ h9_ h10_ h11_ h12_ h13_
     have hHeld := hS_
     refine nQ ?_
     refine one_ (i := 10) (N := some 25) #[true, true, true, true, true, true, true, true, true, true, true, true, true, true, true, false, true, false] rfl rfl (one_of HT_.out (by kernel_rfl)) (by decide) (fun K hK => ?_)
     refine Kd.R_make_step Kd.bool _ 4 (by rfl) (N := 25) rfl 23 _ _ rfl (l0_0.length : Int) rfl rfl Try.underlying23 (.bool false) 1 info4 rfl (by decide) (by omega) false (ok := fun _ => True) (okp := fun _ => True) rfl (fun _ hk => hk) trivial (dA) (Nat.le_trans (Nat.mul_le_mul_right _ (dA : (l0_0.length : Int).toNat ≤ 281474976710656)) (by omega)) (Below.refl _ _) (Nat.le_refl _) ?_
     intro v320 w23 ho24 hb hg_ hnew_
     clear hg_ hnew_
     (first | rw [← Ny319.out] at ho24 | (simp only [Int.reduceToNat] at ho24; rw [← Ny319.out] at ho24))
     replace HO309 := Aside0.mk (Kd.R_below (rA HO309.out) hb)
     replace HO312 := Aside0.mk (Kd.R_below (rA HO312.out) hb)
     replace HO315 := Aside0.mk (Kd.R_below (rA HO315.out) hb)
     have HO321 := Aside0.mk (Kd.R_lower (Kd.R_new' ho24 (Kd.R_lt (rA HO318.out))) (below_size (bA HB.out)))
     replace HO318 := Aside0.mk (Kd.R_elder' (rA HO318.out) (Kd.R_base ho24) hb)
     replace BK304 := Aside0.mk (blk_below (kA BK304.out) hb)
     replace BK305 := Aside0.mk (blk_below (kA BK305.out) hb)
     replace BK322 := Aside0.mk (blk_below (kA BK322.out) hb)
     replace HB := Aside0.mk (below_step (bA HB.out) hb)
     clear hb ho24
     obtain ⟨Ao25, co25, eo25⟩ := Kd.R_slice HO321.out
     (first | subst eo25 | (injection eo25 with f1_ f2_ f3_; have f4_ := f1_.symm; have f5_ := f3_.symm; clear f1_ f2_ f3_; subst f4_; subst f5_))
     obtain ⟨Ao26, co26, eo26⟩ := Kd.R_slice HO318.out
     (first | subst eo26 | (injection eo26 with f1_ f2_ f3_; have f4_ := f1_.symm; have f5_ := f3_.symm; clear f1_ f2_ f3_; subst f4_; subst f5_))
     obtain ⟨Ao27, co27, eo27⟩ := Kd.R_slice HO315.out
     (first | subst eo27 | (injection eo27 with f1_ f2_ f3_; have f4_ := f1_.symm; have f5_ := f3_.symm; clear f1_ f2_ f3_; subst f4_; subst f5_))
     obtain ⟨Ao28, co28, eo28⟩ := Kd.R_slice HO312.out
     (first | subst eo28 | (injection eo28 with f1_ f2_ f3_; have f4_ := f1_.symm; have f5_ := f3_.symm; clear f1_ f2_ f3_; subst f4_; subst f5_))
     obtain ⟨Ao29, co29, eo29⟩ := Kd.R_slice HO309.out
     (first | subst eo29 | (injection eo29 with f1_ f2_ f3_; have f4_ := f1_.symm; have f5_ := f3_.symm; clear f1_ f2_ f3_; subst f4_; subst f5_))
     refine hK.out _ _ (cy6 BK304.out) (fun hHeld => ?_)
     clear hK K
     refine nO 25 ?_
     refine pI 15 (some 30) #[true, true, true, true, true, true, true, true, true, true, true, true, true, true, true, true, true, false] HT_.out ?_
     exact nP (hJ2_4_6_8_10_16 (.slice Ao29 t307.length co29, .slice Ao28 t310.length co28, .slice Ao27 t313.length co27, .slice Ao26 y316.length co26, .slice Ao25 y319.length co25, gb322) _ ⟨hHeld, (rA HO309.out), (rA HO312.out), (rA HO315.out), (by (with_reducible repeat (first | apply Kd.R_alloc | apply Kd.R_drewN | apply Kd.R_drew)); exact Kd.R_mono HO318.out (fun _ hk => hk.2)), (by (with_reducible repeat (first | apply Kd.R_alloc | apply Kd.R_drewN | apply Kd.R_drew)); exact Kd.R_mono HO321.out (fun _ hk => hk.2)), (kA BK304.out), (kA BK305.out), (kA BK322.out), GW322.out, GE322.out, NB304_322.out, NB322_304.out, NB305_322.out, NB322_305.out, (bA HB.out)⟩)
   ·skip
    rintro ⟨v308, v311, v314, v317, v320⟩ w28 ⟨hS_, h0_, h1_, h2_, h3_, h4_, h5_, h6_, h7_⟩
    try dsimp only at hS_ h0_ h1_ h2_ h3_ h4_ h5_ h6_ h7_
    clear BK304 BK305 HB
    have HO309 := Aside0.mk h0_
    have HO312 := Aside0.mk h1_
    have HO315 := Aside0.mk h2_
    have HO318 := Aside0.mk h3_
    have HO321 := Aside0.mk h4_
    have BK304 := Aside0.mk h5_
    have BK305 := Aside0.mk h6_
    have HB := Aside0.mk h7_
    clear h0_ h1_ h2_ h3_ h4_ h5_ h6_ h7_
    have hHeld := hS_
    obtain ⟨Ao29, co29, eo29⟩ := Kd.R_slice HO321.out
    (first | subst eo29 | (injection eo29 with f1_ f2_ f3_; have f4_ := f1_.symm; have f5_ := f3_.symm; clear f1_ f2_ f3_; subst f4_; subst f5_))
    obtain ⟨Ao30, co30, eo30⟩ := Kd.R_slice HO318.out
    (first | subst eo30 | (injection eo30 with f1_ f2_ f3_; have f4_ := f1_.symm; have f5_ := f3_.symm; clear f1_ f2_ f3_; subst f4_; subst f5_))
    obtain ⟨Ao31, co31, eo31⟩ := Kd.R_slice HO315.out
    (first | subst eo31 | (injection eo31 with f1_ f2_ f3_; have f4_ := f1_.symm; have f5_ := f3_.symm; clear f1_ f2_ f3_; subst f4_; subst f5_))
    obtain ⟨Ao32, co32, eo32⟩ := Kd.R_slice HO312.out
    (first | subst eo32 | (injection eo32 with f1_ f2_ f3_; have f4_ := f1_.symm; have f5_ := f3_.symm; clear f1_ f2_ f3_; subst f4_; subst f5_))
    obtain ⟨Ao33, co33, eo33⟩ := Kd.R_slice HO309.out
    (first | subst eo33 | (injection eo33 with f1_ f2_ f3_; have f4_ := f1_.symm; have f5_ := f3_.symm; clear f1_ f2_ f3_; subst f4_; subst f5_))
    refine nQ ?_
    refine one_ (i := 16) (N := some 5) #[true, true, true, true, true, true, true, true, true, true, true, true, true, true, true, true, true, false] rfl rfl (one_of HT_.out (by kernel_rfl)) (by decide) (fun K hK => ?_)
    refine box_step ?hg (N := 5) ?hd (cs := #[.slice none 0 0, .slice none 0 0, .slice none 0 0, .slice none 0 0, .slice none 0 0, .int .i64 0, .int .i64 0, .int .i64 0, .int .i64 0]) (t := 28) ?hr ?_; (case hd => rfl); (case hg => rfl); (case hr => first | (go_simp; done) | (go_simp; rfl))
    intro gb322 hg w34 hbox hb
    replace HO309 := Aside0.mk (Kd.R_below (rA HO309.out) hb)
    replace HO312 := Aside0.mk (Kd.R_below (rA HO312.out) hb)
    replace HO315 := Aside0.mk (Kd.R_below (rA HO315.out) hb)
    replace HO318 := Aside0.mk (Kd.R_below (rA HO318.out) hb)
    replace HO321 := Aside0.mk (Kd.R_below (rA HO321.out) hb)
    have BK322 := Aside0.mk (hbox)
    have GW322 := Aside0.mk (gE hg (bA HB.out))
    have GE322 := Aside0.mk (gE hg (bA HB.out))
    replace HB := Aside0.mk (below_step (bA HB.out) hb)
    have NB304_322 := Aside0.mk ((by rw [hg]; exact Nat.ne_of_lt (blk_lt (kA BK304.out)) : gb304 ≠ gb322))
    have NB322_304 := Aside0.mk ((by rw [hg]; exact Nat.ne_of_gt (blk_lt (kA BK304.out)) : gb322 ≠ gb304))
    replace BK304 := Aside0.mk (blk_below (kA BK304.out) hb)
    have NB305_322 := Aside0.mk ((by rw [hg]; exact Nat.ne_of_lt (blk_lt (kA BK305.out)) : gb305 ≠ gb322))
    have NB322_305 := Aside0.mk ((by rw [hg]; exact Nat.ne_of_gt (blk_lt (kA BK305.out)) : gb322 ≠ gb305))
    replace BK305 := Aside0.mk (blk_below (kA BK305.out) hb)
    clear hb hbox hg
    refine hK.out _ _ (cy6 BK304.out) (fun hHeld => ?_)
    clear hK K
    refine nO 5 ?_
    exact nP (hJ2_4_6_8_10_16 (.slice Ao33 t307.length co33, .slice Ao32 t310.length co32, .slice Ao31 t313.length co31, .slice Ao30 y316.length co30, .slice Ao29 y319.length co29, gb322) _ ⟨hHeld, (rA HO309.out), (rA HO312.out), (rA HO315.out), (rA HO318.out), (rA HO321.out), (kA BK304.out), (kA BK305.out), (kA BK322.out), GW322.out, GE322.out, NB304_322.out, NB322_304.out, NB305_322.out, NB322_305.out, (bA HB.out)⟩)
  rintro ⟨v308, v311, v314, v317, v320, gb322⟩ w29 ⟨hS_, h0_, h1_, h2_, h3_, h4_, h5_, h6_, h7_, h8_, h9_, h10_, h11_, h12_, h13_, h14_⟩
  try dsimp only at hS_ h0_ h1_ h2_ h3_ h4_ h5_ h6_ h7_ h8_ h9_ h10_ h11_ h12_ h13_ h14_
  clear BK304 BK305 HB
  have HO309 := Aside0.mk h0_
  have HO312 := Aside0.mk h1_
  have HO315 := Aside0.mk h2_
  have HO318 := Aside0.mk h3_
  have HO321 := Aside0.mk h4_
  have BK304 := Aside0.mk h5_
  have BK305 := Aside0.mk h6_
  have BK322 := Aside0.mk h7_
  have GW322 := Aside0.mk h8_
  have GE322 := Aside0.mk h9_
  have NB304_322 := Aside0.mk h10_
  have NB322_304 := Aside0.mk h11_
  have NB305_322 := Aside0.mk h12_
  have NB322_305 := Aside0.mk h13_
  have HB := Aside0.mk h14_
  clear h0_ h1_ h2_ h3_ h4_ h5_ h6_ h7_ h8_ h9_ h10_ h11_ h12_ h13_ h14_
  have hHeld := hS_
  obtain ⟨Ao30, co30, eo30⟩ := Kd.R_slice HO321.out
  (first | subst eo30 | (injection eo30 with f1_ f2_ f3_; have f4_ := f1_.symm; have f5_ := f3_.symm; clear f1_ f2_ f3_; subst f4_; subst f5_))
  obtain ⟨Ao31, co31, eo31⟩ := Kd.R_slice HO318.out
  (first | subst eo31 | (injection eo31 with f1_ f2_ f3_; have f4_ := f1_.symm; have f5_ := f3_.symm; clear f1_ f2_ f3_; subst f4_; subst f5_))
  obtain ⟨Ao32, co32, eo32⟩ := Kd.R_slice HO315.out
  (first | subst eo32 | (injection eo32 with f1_ f2_ f3_; have f4_ := f1_.symm; have f5_ := f3_.symm; clear f1_ f2_ f3_; subst f4_; subst f5_))
  obtain ⟨Ao33, co33, eo33⟩ := Kd.R_slice HO312.out
  (first | subst eo33 | (injection eo33 with f1_ f2_ f3_; have f4_ := f1_.symm; have f5_ := f3_.symm; clear f1_ f2_ f3_; subst f4_; subst f5_))
  obtain ⟨Ao34, co34, eo34⟩ := Kd.R_slice HO309.out
  (first | subst eo34 | (injection eo34 with f1_ f2_ f3_; have f4_ := f1_.symm; have f5_ := f3_.symm; clear f1_ f2_ f3_; subst f4_; subst f5_))
  refine nQ ?_
  refine one_ (i := 17) (N := none) #[true, true, true, true, true, true, true, true, true, true, true, true, true, true, true, true, true, true] rfl rfl (one_of HT_.out (by kernel_rfl)) (by decide) (fun K hK => ?_)
  have hs35 : w29.cell? ⟨gb322, 0, none⟩ = some (.slice none 0 0) := (blk_cell BK322.out 0).trans rfl
  have hfs35 := blk_frozen BK322.out 0
  have hns35_0 := NB304_322.out
  have hns35_1 := NB305_322.out
  have hms35_0 := NB322_304.out
  have hms35_1 := NB322_305.out
  have hs36 : w29.cell? ⟨gb322, 1, none⟩ = some (.slice none 0 0) := (blk_cell BK322.out 1).trans rfl
  have hfs36 := blk_frozen BK322.out 1
  have hns36_0 := NB304_322.out
  have hns36_1 := NB305_322.out
  have hms36_0 := NB322_304.out
  have hms36_1 := NB322_305.out
  have hs37 : w29.cell? ⟨gb322, 2, none⟩ = some (.slice none 0 0) := (blk_cell BK322.out 2).trans rfl
  have hfs37 := blk_frozen BK322.out 2
  have hns37_0 := NB304_322.out
  have hns37_1 := NB305_322.out
  have hms37_0 := NB322_304.out
  have hms37_1 := NB322_305.out
  have hs38 : w29.cell? ⟨gb322, 3, none⟩ = some (.slice none 0 0) := (blk_cell BK322.out 3).trans rfl
  have hfs38 := blk_frozen BK322.out 3
  have hns38_0 := NB304_322.out
  have hns38_1 := NB305_322.out
  have hms38_0 := NB322_304.out
  have hms38_1 := NB322_305.out
  have hs39 : w29.cell? ⟨gb322, 4, none⟩ = some (.slice none 0 0) := (blk_cell BK322.out 4).trans rfl
  have hfs39 := blk_frozen BK322.out 4
  have hns39_0 := NB304_322.out
  have hns39_1 := NB305_322.out
  have hms39_0 := NB322_304.out
  have hms39_1 := NB322_305.out
  have hs40 : w29.cell? ⟨gb322, 5, none⟩ = some (.int .i64 0) := (blk_cell BK322.out 5).trans rfl
  have hfs40 := blk_frozen BK322.out 5
  have hns40_0 := NB304_322.out
  have hns40_1 := NB305_322.out
  have hms40_0 := NB322_304.out
  have hms40_1 := NB322_305.out
  have hs41 : w29.cell? ⟨gb322, 6, none⟩ = some (.int .i64 0) := (blk_cell BK322.out 6).trans rfl
  have hfs41 := blk_frozen BK322.out 6
  have hns41_0 := NB304_322.out
  have hns41_1 := NB305_322.out
  have hms41_0 := NB322_304.out
  have hms41_1 := NB322_305.out
  have hs42 : w29.cell? ⟨gb322, 7, none⟩ = some (.int .i64 0) := (blk_cell BK322.out 7).trans rfl
  have hfs42 := blk_frozen BK322.out 7
  have hns42_0 := NB304_322.out
  have hns42_1 := NB305_322.out
  have hms42_0 := NB322_304.out
  have hms42_1 := NB322_305.out
  have hs43 : w29.cell? ⟨gb322, 8, none⟩ = some (.int .i64 0) := (blk_cell BK322.out 8).trans rfl
  have hfs43 := blk_frozen BK322.out 8
  have hns43_0 := NB304_322.out
  have hns43_1 := NB305_322.out
  have hms43_0 := NB322_304.out
  have hms43_1 := NB322_305.out
  refine skip_ (w1 := ?_) (by rfl) rfl ?_ ?_
  rotate_left
  ·go_simp
   rfl
  refine hK.out _ _ ⟨((cell_far (p := ⟨gb322, _, none⟩) NB304_322.out _).trans (((cell_far (p := ⟨gb322, _, none⟩) NB304_322.out _).trans (((cell_far (p := ⟨gb322, _, none⟩) NB304_322.out _).trans (((cell_far (p := ⟨gb322, _, none⟩) NB304_322.out _).trans (((cell_far (p := ⟨gb322, _, none⟩) NB304_322.out _).trans (((cell_far (p := ⟨gb322, _, none⟩) NB304_322.out _).trans (((cell_far (p := ⟨gb322, _, none⟩) NB304_322.out _).trans (((cell_far (p := ⟨gb322, _, none⟩) NB304_322.out _).trans (((cell_far (p := ⟨gb322, _, none⟩) NB304_322.out _).trans (hHeld.1)))))))))))))))))), ((cell_far (p := ⟨gb322, _, none⟩) NB304_322.out _).trans (((cell_far (p := ⟨gb322, _, none⟩) NB304_322.out _).trans (((cell_far (p := ⟨gb322, _, none⟩) NB304_322.out _).trans (((cell_far (p := ⟨gb322, _, none⟩) NB304_322.out _).trans (((cell_far (p := ⟨gb322, _, none⟩) NB304_322.out _).trans (((cell_far (p := ⟨gb322, _, none⟩) NB304_322.out _).trans (((cell_far (p := ⟨gb322, _, none⟩) NB304_322.out _).trans (((cell_far (p := ⟨gb322, _, none⟩) NB304_322.out _).trans (((cell_far (p := ⟨gb322, _, none⟩) NB304_322.out _).trans (hHeld.2.1)))))))))))))))))), ((cell_far (p := ⟨gb322, _, none⟩) NB304_322.out _).trans (((cell_far (p := ⟨gb322, _, none⟩) NB304_322.out _).trans (((cell_far (p := ⟨gb322, _, none⟩) NB304_322.out _).trans (((cell_far (p := ⟨gb322, _, none⟩) NB304_322.out _).trans (((cell_far (p := ⟨gb322, _, none⟩) NB304_322.out _).trans (((cell_far (p := ⟨gb322, _, none⟩) NB304_322.out _).trans (((cell_far (p := ⟨gb322, _, none⟩) NB304_322.out _).trans (((cell_far (p := ⟨gb322, _, none⟩) NB304_322.out _).trans (((cell_far (p := ⟨gb322, _, none⟩) NB304_322.out _).trans (hHeld.2.2.1)))))))))))))))))), ((cell_far (p := ⟨gb322, _, none⟩) NB304_322.out _).trans (((cell_far (p := ⟨gb322, _, none⟩) NB304_322.out _).trans (((cell_far (p := ⟨gb322, _, none⟩) NB304_322.out _).trans (((cell_far (p := ⟨gb322, _, none⟩) NB304_322.out _).trans (((cell_far (p := ⟨gb322, _, none⟩) NB304_322.out _).trans (((cell_far (p := ⟨gb322, _, none⟩) NB304_322.out _).trans (((cell_far (p := ⟨gb322, _, none⟩) NB304_322.out _).trans (((cell_far (p := ⟨gb322, _, none⟩) NB304_322.out _).trans (((cell_far (p := ⟨gb322, _, none⟩) NB304_322.out _).trans (hHeld.2.2.2.1)))))))))))))))))), ((cell_far (p := ⟨gb322, _, none⟩) NB304_322.out _).trans (((cell_far (p := ⟨gb322, _, none⟩) NB304_322.out _).trans (((cell_far (p := ⟨gb322, _, none⟩) NB304_322.out _).trans (((cell_far (p := ⟨gb322, _, none⟩) NB304_322.out _).trans (((cell_far (p := ⟨gb322, _, none⟩) NB304_322.out _).trans (((cell_far (p := ⟨gb322, _, none⟩) NB304_322.out _).trans (((cell_far (p := ⟨gb322, _, none⟩) NB304_322.out _).trans (((cell_far (p := ⟨gb322, _, none⟩) NB304_322.out _).trans (((cell_far (p := ⟨gb322, _, none⟩) NB304_322.out _).trans (hHeld.2.2.2.2.1)))))))))))))))))), ((cell_far (p := ⟨gb322, _, none⟩) NB304_322.out _).trans (((cell_far (p := ⟨gb322, _, none⟩) NB304_322.out _).trans (((cell_far (p := ⟨gb322, _, none⟩) NB304_322.out _).trans (((cell_far (p := ⟨gb322, _, none⟩) NB304_322.out _).trans (((cell_far (p := ⟨gb322, _, none⟩) NB304_322.out _).trans (((cell_far (p := ⟨gb322, _, none⟩) NB304_322.out _).trans (((cell_far (p := ⟨gb322, _, none⟩) NB304_322.out _).trans (((cell_far (p := ⟨gb322, _, none⟩) NB304_322.out _).trans (((cell_far (p := ⟨gb322, _, none⟩) NB304_322.out _).trans (hHeld.2.2.2.2.2))))))))))))))))))⟩ (fun hHeld => ?_)
  clear hK K
  refine done_ (done_of HT_.out (by kernel_rfl)) ?_
  have hnb44 := NB322_304.out
  have hnc44 := NB304_322.out
  have hnb45 := NB322_305.out
  have hnc45 := NB305_322.out
  obtain ⟨hcz46_0, hcz46_1, hcz46_2, hcz46_3, hcz46_4, hcz46_5, hcz46_6, hcz46_7, hcz46_8, hfz46_0, hfz46_1, hfz46_2, hfz46_3, hfz46_4, hfz46_5, hfz46_6, hfz46_7, hfz46_8⟩ := cz9 BK322.out
  try go_wp2
  go_loopg [34] k (fun kq v34 w' => ∃ (x34_1 : Int) (x323000_1 : List Int) (x323001_1 : List Int) (x323002_1 : List Int) (u323000 : Value) (u323001 : Value) (u323002 : Value), v34 = .int .i64 x34_1 ∧ Aside0 (impl_FirstRound.l0 kq (t307.length : Int) x34_1 l0_0 a0_1 a0_2 a0_3 a0_4 a0_5 x323000_1 x323001_1 x323002_1 y316 y319 0 a0_3 0 a0_5 = some (r1, r2, r3, r4, r5, r6, r7, r8, r9, r10)) ∧ Aside0 (kq ≤ k) ∧ Aside0 (Kd.R (Kd.int .i64) 2 w' w.heap.size (fun k_ => some k_ ≠ (u323001 : Value).ownBlock ∧ some k_ ≠ (u323002 : Value).ownBlock) u323000 x323000_1) ∧ Aside0 (Kd.R (Kd.int .i64) 2 w' w.heap.size (fun k_ => some k_ ≠ (u323000 : Value).ownBlock ∧ some k_ ≠ (u323002 : Value).ownBlock) u323001 x323001_1) ∧ Aside0 (Kd.R (Kd.int .i64) 2 w' w.heap.size (fun k_ => some k_ ≠ (u323000 : Value).ownBlock ∧ some k_ ≠ (u323001 : Value).ownBlock) u323002 x323002_1) ∧ Aside0 (Kd.R Kd.bool 4 w' w.heap.size (fun k_ => some k_ ≠ ((.slice Ao30 y319.length co30) : Value).ownBlock) (.slice Ao31 y316.length co31) y316) ∧ Aside0 (Kd.R Kd.bool 4 w' w.heap.size (fun k_ => some k_ ≠ ((.slice Ao31 y316.length co31) : Value).ownBlock) (.slice Ao30 y319.length co30) y319) ∧ Aside0 (w'.heap[gb304]? = some (.cells #[(.slice A0_0 l0_0.length c0_0), .int .i64 a0_1, .int .i64 a0_2, .int .i64 a0_3, .int .i64 a0_4, .int .i64 a0_5] 59 (0, 0))) ∧ Aside0 (w'.heap[gb305]? = some (.cells #[(.slice none 0 0), (.slice none 0 0), (.slice none 0 0), (.slice none 0 0), (.slice none 0 0), .int .i64 0, .int .i64 0, .int .i64 0, .int .i64 0] 28 (0, 0))) ∧ Aside0 (w'.heap[gb322]? = some (.cells #[u323000, u323001, u323002, (.slice Ao31 y316.length co31), (.slice Ao30 y319.length co30), .int .i64 0, .int .i64 a0_3, .int .i64 0, .int .i64 a0_5] 28 (0, 0))) ∧ Aside0 (Below w.heap.size w w'))
  case atStart => exact ⟨(0), (t307), (t310), (t313), (.slice Ao34 t307.length co34), (.slice Ao33 t310.length co33), (.slice Ao32 t313.length co32), (by first | rfl | (simp; done) | (simp [*]; done)), H', ⟨Nat.le_refl _⟩, ⟨by (with_reducible repeat (first | apply Kd.R_alloc | apply Kd.R_drewN | apply Kd.R_drew)); exact Kd.R_mono (Kd.R_far (p := ⟨gb322, 8, none⟩) (Kd.R_far (p := ⟨gb322, 7, none⟩) (Kd.R_far (p := ⟨gb322, 6, none⟩) (Kd.R_far (p := ⟨gb322, 5, none⟩) (Kd.R_far (p := ⟨gb322, 4, none⟩) (Kd.R_far (p := ⟨gb322, 3, none⟩) (Kd.R_far (p := ⟨gb322, 2, none⟩) (Kd.R_far (p := ⟨gb322, 1, none⟩) (Kd.R_far (p := ⟨gb322, 0, none⟩) (Kd.R_types HO309.out BK322.out (by decide)) (fun _ hk => hk.2) (.slice Ao34 t307.length co34)) (fun _ hk => hk.2) (.slice Ao33 t310.length co33)) (fun _ hk => hk.2) (.slice Ao32 t313.length co32)) (fun _ hk => hk.2) (.slice Ao31 y316.length co31)) (fun _ hk => hk.2) (.slice Ao30 y319.length co30)) (fun _ hk => hk.2) (.int .i64 0)) (fun _ hk => hk.2) (.int .i64 a0_3)) (fun _ hk => hk.2) (.int .i64 0)) (fun _ hk => hk.2) (.int .i64 a0_5)) (fun _ hk => ⟨hk.1.1, hk.1.2⟩)⟩, ⟨by (with_reducible repeat (first | apply Kd.R_alloc | apply Kd.R_drewN | apply Kd.R_drew)); exact Kd.R_mono (Kd.R_far (p := ⟨gb322, 8, none⟩) (Kd.R_far (p := ⟨gb322, 7, none⟩) (Kd.R_far (p := ⟨gb322, 6, none⟩) (Kd.R_far (p := ⟨gb322, 5, none⟩) (Kd.R_far (p := ⟨gb322, 4, none⟩) (Kd.R_far (p := ⟨gb322, 3, none⟩) (Kd.R_far (p := ⟨gb322, 2, none⟩) (Kd.R_far (p := ⟨gb322, 1, none⟩) (Kd.R_far (p := ⟨gb322, 0, none⟩) (Kd.R_types HO312.out BK322.out (by decide)) (fun _ hk => hk.2) (.slice Ao34 t307.length co34)) (fun _ hk => hk.2) (.slice Ao33 t310.length co33)) (fun _ hk => hk.2) (.slice Ao32 t313.length co32)) (fun _ hk => hk.2) (.slice Ao31 y316.length co31)) (fun _ hk => hk.2) (.slice Ao30 y319.length co30)) (fun _ hk => hk.2) (.int .i64 0)) (fun _ hk => hk.2) (.int .i64 a0_3)) (fun _ hk => hk.2) (.int .i64 0)) (fun _ hk => hk.2) (.int .i64 a0_5)) (fun _ hk => ⟨hk.1.1, hk.1.2⟩)⟩, ⟨by (with_reducible repeat (first | apply Kd.R_alloc | apply Kd.R_drewN | apply Kd.R_drew)); exact Kd.R_mono (Kd.R_far (p := ⟨gb322, 8, none⟩) (Kd.R_far (p := ⟨gb322, 7, none⟩) (Kd.R_far (p := ⟨gb322, 6, none⟩) (Kd.R_far (p := ⟨gb322, 5, none⟩) (Kd.R_far (p := ⟨gb322, 4, none⟩) (Kd.R_far (p := ⟨gb322, 3, none⟩) (Kd.R_far (p := ⟨gb322, 2, none⟩) (Kd.R_far (p := ⟨gb322, 1, none⟩) (Kd.R_far (p := ⟨gb322, 0, none⟩) (Kd.R_types HO315.out BK322.out (by decide)) (fun _ hk => hk.2) (.slice Ao34 t307.length co34)) (fun _ hk => hk.2) (.slice Ao33 t310.length co33)) (fun _ hk => hk.2) (.slice Ao32 t313.length co32)) (fun _ hk => hk.2) (.slice Ao31 y316.length co31)) (fun _ hk => hk.2) (.slice Ao30 y319.length co30)) (fun _ hk => hk.2) (.int .i64 0)) (fun _ hk => hk.2) (.int .i64 a0_3)) (fun _ hk => hk.2) (.int .i64 0)) (fun _ hk => hk.2) (.int .i64 a0_5)) (fun _ hk => ⟨hk.1.1, hk.1.2⟩)⟩, ⟨by (with_reducible repeat (first | apply Kd.R_alloc | apply Kd.R_drewN | apply Kd.R_drew)); exact Kd.R_mono (Kd.R_far (p := ⟨gb322, 8, none⟩) (Kd.R_far (p := ⟨gb322, 7, none⟩) (Kd.R_far (p := ⟨gb322, 6, none⟩) (Kd.R_far (p := ⟨gb322, 5, none⟩) (Kd.R_far (p := ⟨gb322, 4, none⟩) (Kd.R_far (p := ⟨gb322, 3, none⟩) (Kd.R_far (p := ⟨gb322, 2, none⟩) (Kd.R_far (p := ⟨gb322, 1, none⟩) (Kd.R_far (p := ⟨gb322, 0, none⟩) (Kd.R_types HO318.out BK322.out (by decide)) (fun _ hk => hk.2) (.slice Ao34 t307.length co34)) (fun _ hk => hk.2) (.slice Ao33 t310.length co33)) (fun _ hk => hk.2) (.slice Ao32 t313.length co32)) (fun _ hk => hk.2) (.slice Ao31 y316.length co31)) (fun _ hk => hk.2) (.slice Ao30 y319.length co30)) (fun _ hk => hk.2) (.int .i64 0)) (fun _ hk => hk.2) (.int .i64 a0_3)) (fun _ hk => hk.2) (.int .i64 0)) (fun _ hk => hk.2) (.int .i64 a0_5)) (fun _ hk => hk.1)⟩, ⟨by (with_reducible repeat (first | apply Kd.R_alloc | apply Kd.R_drewN | apply Kd.R_drew)); exact Kd.R_mono (Kd.R_far (p := ⟨gb322, 8, none⟩) (Kd.R_far (p := ⟨gb322, 7, none⟩) (Kd.R_far (p := ⟨gb322, 6, none⟩) (Kd.R_far (p := ⟨gb322, 5, none⟩) (Kd.R_far (p := ⟨gb322, 4, none⟩) (Kd.R_far (p := ⟨gb322, 3, none⟩) (Kd.R_far (p := ⟨gb322, 2, none⟩) (Kd.R_far (p := ⟨gb322, 1, none⟩) (Kd.R_far (p := ⟨gb322, 0, none⟩) (Kd.R_types HO321.out BK322.out (by decide)) (fun _ hk => hk.2) (.slice Ao34 t307.length co34)) (fun _ hk => hk.2) (.slice Ao33 t310.length co33)) (fun _ hk => hk.2) (.slice Ao32 t313.length co32)) (fun _ hk => hk.2) (.slice Ao31 y316.length co31)) (fun _ hk => hk.2) (.slice Ao30 y319.length co30)) (fun _ hk => hk.2) (.int .i64 0)) (fun _ hk => hk.2) (.int .i64 a0_3)) (fun _ hk => hk.2) (.int .i64 0)) (fun _ hk => hk.2) (.int .i64 a0_5)) (fun _ hk => hk.1)⟩, ⟨by (with_reducible repeat (first | refine blk_drewN ?_ _ | refine blk_drew ?_ | refine blk_alloc ?_ _)); refine blk_far ?_ NB304_322.out _; (with_reducible repeat (first | refine blk_drewN ?_ _ | refine blk_drew ?_ | refine blk_alloc ?_ _)); refine blk_far ?_ NB304_322.out _; (with_reducible repeat (first | refine blk_drewN ?_ _ | refine blk_drew ?_ | refine blk_alloc ?_ _)); refine blk_far ?_ NB304_322.out _; (with_reducible repeat (first | refine blk_drewN ?_ _ | refine blk_drew ?_ | refine blk_alloc ?_ _)); refine blk_far ?_ NB304_322.out _; (with_reducible repeat (first | refine blk_drewN ?_ _ | refine blk_drew ?_ | refine blk_alloc ?_ _)); refine blk_far ?_ NB304_322.out _; (with_reducible repeat (first | refine blk_drewN ?_ _ | refine blk_drew ?_ | refine blk_alloc ?_ _)); refine blk_far ?_ NB304_322.out _; (with_reducible repeat (first | refine blk_drewN ?_ _ | refine blk_drew ?_ | refine blk_alloc ?_ _)); refine blk_far ?_ NB304_322.out _; (with_reducible repeat (first | refine blk_drewN ?_ _ | refine blk_drew ?_ | refine blk_alloc ?_ _)); refine blk_far ?_ NB304_322.out _; (with_reducible repeat (first | refine blk_drewN ?_ _ | refine blk_drew ?_ | refine blk_alloc ?_ _)); refine blk_far ?_ NB304_322.out _; (with_reducible repeat (first | refine blk_drewN ?_ _ | refine blk_drew ?_ | refine blk_alloc ?_ _)); exact BK304.out⟩, ⟨by (with_reducible repeat (first | refine blk_drewN ?_ _ | refine blk_drew ?_ | refine blk_alloc ?_ _)); refine blk_far ?_ NB305_322.out _; (with_reducible repeat (first | refine blk_drewN ?_ _ | refine blk_drew ?_ | refine blk_alloc ?_ _)); refine blk_far ?_ NB305_322.out _; (with_reducible repeat (first | refine blk_drewN ?_ _ | refine blk_drew ?_ | refine blk_alloc ?_ _)); refine blk_far ?_ NB305_322.out _; (with_reducible repeat (first | refine blk_drewN ?_ _ | refine blk_drew ?_ | refine blk_alloc ?_ _)); refine blk_far ?_ NB305_322.out _; (with_reducible repeat (first | refine blk_drewN ?_ _ | refine blk_drew ?_ | refine blk_alloc ?_ _)); refine blk_far ?_ NB305_322.out _; (with_reducible repeat (first | refine blk_drewN ?_ _ | refine blk_drew ?_ | refine blk_alloc ?_ _)); refine blk_far ?_ NB305_322.out _; (with_reducible repeat (first | refine blk_drewN ?_ _ | refine blk_drew ?_ | refine blk_alloc ?_ _)); refine blk_far ?_ NB305_322.out _; (with_reducible repeat (first | refine blk_drewN ?_ _ | refine blk_drew ?_ | refine blk_alloc ?_ _)); refine blk_far ?_ NB305_322.out _; (with_reducible repeat (first | refine blk_drewN ?_ _ | refine blk_drew ?_ | refine blk_alloc ?_ _)); refine blk_far ?_ NB305_322.out _; (with_reducible repeat (first | refine blk_drewN ?_ _ | refine blk_drew ?_ | refine blk_alloc ?_ _)); exact BK305.out⟩, ⟨by (with_reducible repeat (first | refine blk_drewN ?_ _ | refine blk_drew ?_ | refine blk_alloc ?_ _)); refine blk_put (cs := #[.slice Ao34 t307.length co34, .slice Ao33 t310.length co33, .slice Ao32 t313.length co32, .slice Ao31 y316.length co31, .slice Ao30 y319.length co30, .int .i64 0, .int .i64 a0_3, .int .i64 0, .int .i64 0]) ?_ 8 _ rfl; (with_reducible repeat (first | refine blk_drewN ?_ _ | refine blk_drew ?_ | refine blk_alloc ?_ _)); refine blk_put (cs := #[.slice Ao34 t307.length co34, .slice Ao33 t310.length co33, .slice Ao32 t313.length co32, .slice Ao31 y316.length co31, .slice Ao30 y319.length co30, .int .i64 0, .int .i64 a0_3, .int .i64 0, .int .i64 0]) ?_ 7 _ rfl; (with_reducible repeat (first | refine blk_drewN ?_ _ | refine blk_drew ?_ | refine blk_alloc ?_ _)); refine blk_put (cs := #[.slice Ao34 t307.length co34, .slice Ao33 t310.length co33, .slice Ao32 t313.length co32, .slice Ao31 y316.length co31, .slice Ao30 y319.length co30, .int .i64 0, .int .i64 0, .int .i64 0, .int .i64 0]) ?_ 6 _ rfl; (with_reducible repeat (first | refine blk_drewN ?_ _ | refine blk_drew ?_ | refine blk_alloc ?_ _)); refine blk_put (cs := #[.slice Ao34 t307.length co34, .slice Ao33 t310.length co33, .slice Ao32 t313.length co32, .slice Ao31 y316.length co31, .slice Ao30 y319.length co30, .int .i64 0, .int .i64 0, .int .i64 0, .int .i64 0]) ?_ 5 _ rfl; (with_reducible repeat (first | refine blk_drewN ?_ _ | refine blk_drew ?_ | refine blk_alloc ?_ _)); refine blk_put (cs := #[.slice Ao34 t307.length co34, .slice Ao33 t310.length co33, .slice Ao32 t313.length co32, .slice Ao31 y316.length co31, .slice none 0 0, .int .i64 0, .int .i64 0, .int .i64 0, .int .i64 0]) ?_ 4 _ rfl; (with_reducible repeat (first | refine blk_drewN ?_ _ | refine blk_drew ?_ | refine blk_alloc ?_ _)); refine blk_put (cs := #[.slice Ao34 t307.length co34, .slice Ao33 t310.length co33, .slice Ao32 t313.length co32, .slice none 0 0, .slice none 0 0, .int .i64 0, .int .i64 0, .int .i64 0, .int .i64 0]) ?_ 3 _ rfl; (with_reducible repeat (first | refine blk_drewN ?_ _ | refine blk_drew ?_ | refine blk_alloc ?_ _)); refine blk_put (cs := #[.slice Ao34 t307.length co34, .slice Ao33 t310.length co33, .slice none 0 0, .slice none 0 0, .slice none 0 0, .int .i64 0, .int .i64 0, .int .i64 0, .int .i64 0]) ?_ 2 _ rfl; (with_reducible repeat (first | refine blk_drewN ?_ _ | refine blk_drew ?_ | refine blk_alloc ?_ _)); refine blk_put (cs := #[.slice Ao34 t307.length co34, .slice none 0 0, .slice none 0 0, .slice none 0 0, .slice none 0 0, .int .i64 0, .int .i64 0, .int .i64 0, .int .i64 0]) ?_ 1 _ rfl; (with_reducible repeat (first | refine blk_drewN ?_ _ | refine blk_drew ?_ | refine blk_alloc ?_ _)); refine blk_put (cs := #[.slice none 0 0, .slice none 0 0, .slice none 0 0, .slice none 0 0, .slice none 0 0, .int .i64 0, .int .i64 0, .int .i64 0, .int .i64 0]) ?_ 0 _ rfl; (with_reducible repeat (first | refine blk_drewN ?_ _ | refine blk_drew ?_ | refine blk_alloc ?_ _)); exact BK322.out⟩, ⟨bA HB.out⟩⟩
  case round =>
   clear H'
   try clear p2
   try clear c4
   try clear c9
   try clear c44
   try clear c45
   try clear hcz46_0 hcz46_1 hcz46_2 hcz46_3 hcz46_4 hcz46_5 hcz46_6 hcz46_7 hcz46_8 hfz46_0 hfz46_1 hfz46_2 hfz46_3 hfz46_4 hfz46_5 hfz46_6 hfz46_7 hfz46_8
   obtain ⟨x34_1, x323000_1, x323001_1, x323002_1, u323000, u323001, u323002, rfl, HA, HK1, HO_323000, HO_323001, HO_323002, HO_323003, HO_323004, BK304, BK305, BK322, HB⟩ := hrel
   cases gk with
   | zero => exact absurd HA.out (by simp [impl_FirstRound.l0])
   | succ k1 =>
    have H := HA.out
    clear HA
    simp only [impl_FirstRound.l0] at H
    by_cases c47 : x34_1 < (t307.length : Int)
    ·rw [if_pos c47] at H
     have c47b0 : decide (x34_1 < (t307.length : Int)) = true := decide_eq_true c47
     clear c47
     by_cases c48 : 0 ≤ x34_1
     rotate_left
     ·rw [if_neg c48] at H
      exact absurd H (by simp)
     rw [if_pos c48] at H
     have c48b0 : decide (0 ≤ x34_1) = true := decide_eq_true c48
     clear c48
     by_cases c49 : x34_1 < (x323000_1.length : Int)
     rotate_left
     ·rw [if_neg c49] at H
      exact absurd H (by simp)
     rw [if_pos c49] at H
     have c49b0 : decide (x34_1 < (x323000_1.length : Int)) = true := decide_eq_true c49
     clear c49
     by_cases c50 : x34_1 < (x323001_1.length : Int)
     rotate_left
     ·rw [if_neg c50] at H
      exact absurd H (by simp)
     rw [if_pos c50] at H
     have c50b0 : decide (x34_1 < (x323001_1.length : Int)) = true := decide_eq_true c50
     clear c50
     by_cases c51 : x34_1 < (x323002_1.length : Int)
     rotate_left
     ·rw [if_neg c51] at H
      exact absurd H (by simp)
     rw [if_pos c51] at H
     have c51b0 : decide (x34_1 < (x323002_1.length : Int)) = true := decide_eq_true c51
     clear c51
     obtain ⟨y326, hy326⟩ : ∃ y_ : List Int, y_ = (x323000_1.set (x34_1 : Int).toNat (wrap64 ((rd x323000_1 x34_1) - (wrap64 ((rd x323001_1 x34_1) + (rd x323002_1 x34_1)))))) := ⟨_, rfl⟩
     replace H : (impl_FirstRound.l0 k1 (t307.length : Int) (wrap64 (x34_1 + 1)) l0_0 a0_1 a0_2 a0_3 a0_4 a0_5 y326 x323001_1 x323002_1 y316 y319 0 a0_3 0 a0_5) = some (r1, r2, r3, r4, r5, r6, r7, r8, r9, r10) := by first | (rw [hy326]; with_reducible exact H) | (have H2_ := (Option.bind_some _ _).symm.trans H; rw [hy326]; with_reducible exact H2_) | (have H2_ := (Option.bind_some _ _).symm.trans H; with_reducible exact H2_) | with_reducible exact H | (rw [hy326]; exact H) | exact H
     have Ny326 := Aside0.mk hy326
     clear hy326
     have H' := Aside0.mk H
     clear H
     try go_wp2
     replace HO_323000 := Aside0.mk (Kd.R_drew HO_323000.out)
     replace HO_323001 := Aside0.mk (Kd.R_drew HO_323001.out)
     replace HO_323002 := Aside0.mk (Kd.R_drew HO_323002.out)
     replace HO_323003 := Aside0.mk (Kd.R_drew HO_323003.out)
     replace HO_323004 := Aside0.mk (Kd.R_drew HO_323004.out)
     replace BK304 := Aside0.mk (blk_drew BK304.out)
     replace BK305 := Aside0.mk (blk_drew BK305.out)
     replace BK322 := Aside0.mk (blk_drew BK322.out)
     replace HB := Aside0.mk (below_drew1 HB.out)
     obtain ⟨Ao54, co54, eo54⟩ := Kd.R_slice HO_323000.out
     (first | subst eo54 | (injection eo54 with f1_ f2_ f3_; have f4_ := f1_.symm; have f5_ := f3_.symm; clear f1_ f2_ f3_; subst f4_; subst f5_))
     have p323 : 0 ≤ (x34_1 : Int) := dA
     have q323 : x34_1 < (x323000_1.length : Int) := dA
     obtain ⟨ad323, e323, hx323_0⟩ := Kd.at_int (Kd.R_reads' HO_323000.out).2.2 x34_1 p323 q323
     cases e323
     replace p323 := eq_true p323
     replace q323 := eq_true q323
     obtain ⟨Ao55, co55, eo55⟩ := Kd.R_slice HO_323001.out
     (first | subst eo55 | (injection eo55 with f1_ f2_ f3_; have f4_ := f1_.symm; have f5_ := f3_.symm; clear f1_ f2_ f3_; subst f4_; subst f5_))
     have p324 : 0 ≤ (x34_1 : Int) := dA
     have q324 : x34_1 < (x323001_1.length : Int) := dA
     obtain ⟨ad324, e324, hx324_0⟩ := Kd.at_int (Kd.R_reads' HO_323001.out).2.2 x34_1 p324 q324
     cases e324
     replace p324 := eq_true p324
     replace q324 := eq_true q324
     obtain ⟨Ao56, co56, eo56⟩ := Kd.R_slice HO_323002.out
     (first | subst eo56 | (injection eo56 with f1_ f2_ f3_; have f4_ := f1_.symm; have f5_ := f3_.symm; clear f1_ f2_ f3_; subst f4_; subst f5_))
     have p325 : 0 ≤ (x34_1 : Int) := dA
     have q325 : x34_1 < (x323002_1.length : Int) := dA
     obtain ⟨ad325, e325, hx325_0⟩ := Kd.at_int (Kd.R_reads' HO_323002.out).2.2 x34_1 p325 q325
     cases e325
     replace p325 := eq_true p325
     replace q325 := eq_true q325
     have p52 : 0 ≤ (x34_1 : Int) := dA
     have q52 : (x34_1 : Int) < ((x323000_1.length : Int) : Int) := dA
     obtain ⟨go52, co52, eo52, gb52, gl52, cl52, HG52⟩ := Kd.R_form HO_323000.out (by omega)
     (first | cases eo52 | (injection eo52 with ea_ en_ ec_; (first | subst ea_ | (injection ea_ with ea_; subst ea_)); subst ec_; clear en_))
     have GB52 := Aside0.mk gb52
     have GG52 := Aside0.mk HG52
     clear gb52 gl52 HG52
     (first | simp only [add_plain] at hx323_0 | skip)
     obtain ⟨hx52_0, hf52_0⟩ := Kd.R_celln 0 HO_323000.out (x34_1 : Int) p52 q52
     replace p52 := eq_true p52
     replace q52 := eq_true q52
     have HP57 := Kd.R_putn HO_323000.out (x34_1 : Int) (wrap64 ((rd x323000_1 x34_1) - (wrap64 ((rd x323001_1 x34_1) + (rd x323002_1 x34_1)))))
     rw [← Ny326.out] at HP57
     have HQ57 := Aside0.mk HP57
     clear HP57
     refine start_ (n := 19) (S := fun w' => w'.cell? ⟨gb322, 0, none⟩ = some (.slice (some ⟨go52, 0, none⟩) x323000_1.length co54) ∧ w'.cell? ⟨gb322, 1, none⟩ = some (.slice (some ad324) x323001_1.length co55) ∧ w'.cell? ⟨gb322, 2, none⟩ = some (.slice (some ad325) x323002_1.length co56) ∧ w'.cell? ⟨gb322, 3, none⟩ = some (.slice Ao31 y316.length co31) ∧ w'.cell? ⟨gb322, 4, none⟩ = some (.slice Ao30 y319.length co30) ∧ w'.cell? ⟨gb322, 5, none⟩ = some (.int .i64 0) ∧ w'.cell? ⟨gb322, 6, none⟩ = some (.int .i64 a0_3) ∧ w'.cell? ⟨gb322, 7, none⟩ = some (.int .i64 0) ∧ w'.cell? ⟨gb322, 8, none⟩ = some (.int .i64 a0_5) ∧ w'.cell? ⟨go52, (x34_1).toNat, none⟩ = some (.int .i64 (rd x323000_1 x34_1)) ∧ w'.cell? (ad324.add (x34_1).toNat) = some (.int .i64 (rd x323001_1 x34_1)) ∧ w'.cell? (ad325.add (x34_1).toNat) = some (.int .i64 (rd x323002_1 x34_1))) (ds := [18]) #[false, false, false, false, false, false, false, false, false, false, false, false, false, false, false, false, false, false, false] (by kernel_rfl) rfl rfl ⟨(blk_cell BK322.out 0).trans rfl, (blk_cell BK322.out 1).trans rfl, (blk_cell BK322.out 2).trans rfl, (blk_cell BK322.out 3).trans rfl, (blk_cell BK322.out 4).trans rfl, (blk_cell BK322.out 5).trans rfl, (blk_cell BK322.out 6).trans rfl, (blk_cell BK322.out 7).trans rfl, (blk_cell BK322.out 8).trans rfl, hx323_0, hx324_0, hx325_0⟩ (fun hHeld => ?_); refine with_tabW impl_FirstRound.tab8 impl_FirstRound.bits8 (fun HT_ HW_ => ?_)
     generalize wr.drew = w53 at HO_323000 HO_323001 HO_323002 HO_323003 HO_323004 BK304 BK305 BK322 HB GG52 HQ57 hf52_0 hx323_0 hx324_0 hx325_0 hx52_0 hHeld ⊢
     refine pI 0 (some 37) #[true, false, false, false, false, false, false, false, false, false, false, false, false, false, false, false, false, false, false] HT_.out ?_
     refine pI 2 (some 39) #[true, false, true, false, false, false, false, false, false, false, false, false, false, false, false, false, false, false, false] HT_.out ?_
     refine pI 5 (some 42) #[true, false, true, false, false, true, false, false, false, false, false, false, false, false, false, false, false, false, false] HT_.out ?_
     refine pI 7 (some 44) #[true, false, true, false, false, true, false, true, false, false, false, false, false, false, false, false, false, false, false] HT_.out ?_
     refine pI 10 (some 47) #[true, false, true, false, false, true, false, true, false, false, true, false, false, false, false, false, false, false, false] HT_.out ?_
     refine pI 12 (some 49) #[true, false, true, false, false, true, false, true, false, false, true, false, true, false, false, false, false, false, false] HT_.out ?_
     refine tI 1 (some 38) #[true, true, true, false, false, true, false, true, false, false, true, false, true, false, false, false, false, false, false] HT_.out HW_.out hHeld ?_
     refine pI 3 (some 40) #[true, true, true, true, false, true, false, true, false, false, true, false, true, false, false, false, false, false, false] HT_.out ?_
     refine tI 4 (some 41) #[true, true, true, true, true, true, false, true, false, false, true, false, true, false, false, false, false, false, false] HT_.out HW_.out hHeld ?_
     refine tI 6 (some 43) #[true, true, true, true, true, true, true, true, false, false, true, false, true, false, false, false, false, false, false] HT_.out HW_.out hHeld ?_
     refine pI 8 (some 45) #[true, true, true, true, true, true, true, true, true, false, true, false, true, false, false, false, false, false, false] HT_.out ?_
     refine tI 9 (some 46) #[true, true, true, true, true, true, true, true, true, true, true, false, true, false, false, false, false, false, false] HT_.out HW_.out hHeld ?_
     refine tI 11 (some 48) #[true, true, true, true, true, true, true, true, true, true, true, true, true, false, false, false, false, false, false] HT_.out HW_.out hHeld ?_
     refine pI 13 (some 50) #[true, true, true, true, true, true, true, true, true, true, true, true, true, true, false, false, false, false, false] HT_.out ?_
     refine tI 14 (some 51) #[true, true, true, true, true, true, true, true, true, true, true, true, true, true, true, false, false, false, false] HT_.out HW_.out hHeld ?_
     refine pI 15 (some 52) #[true, true, true, true, true, true, true, true, true, true, true, true, true, true, true, true, false, false, false] HT_.out ?_
     refine pI 16 (some 53) #[true, true, true, true, true, true, true, true, true, true, true, true, true, true, true, true, true, false, false] HT_.out ?_
     refine pI 17 (some 54) #[true, true, true, true, true, true, true, true, true, true, true, true, true, true, true, true, true, true, false] HT_.out ?_
     refine last_ (i := 18) (N := none) #[true, true, true, true, true, true, true, true, true, true, true, true, true, true, true, true, true, true, true] rfl rfl (one_of HT_.out (by kernel_rfl)) (by decide) (fun K hK => ?_)
     refine skip_ (w1 := ?_) (by rfl) rfl ?_ ?_
     rotate_left
     ·go_simp
      rfl
     refine hK.out _ _ ?_
     clear hK K
     refine done_ (done_of HT_.out (by kernel_rfl)) ?_
     try go_wp2
     go_roundg k1
     case measure => have := HK1.out; omega
     case rel => exact ⟨(wrap64 (x34_1 + 1)), (y326), (x323001_1), (x323002_1), (.slice (some ⟨go52, 0, none⟩) x323000_1.length co54), (.slice (some ad324) x323001_1.length co55), (.slice (some ad325) x323002_1.length co56), (by first | rfl | (simp; done) | (simp [*]; done)), H', ⟨by have := HK1.out; omega⟩, ⟨by (with_reducible repeat (first | apply Kd.R_alloc | apply Kd.R_drewN | apply Kd.R_drew)); exact HQ57.out⟩, ⟨by (with_reducible repeat (first | apply Kd.R_alloc | apply Kd.R_drewN | apply Kd.R_drew)); exact Kd.R_mono (Kd.R_far (p := ⟨go52, (x34_1 : Int).toNat, none⟩) (Kd.R_mono HO_323001.out (fun k_ hk => (⟨hk, fun e_ => hk.1 (by rw [e_]; rfl)⟩ : _ ∧ k_ ≠ go52))) (fun _ hk => hk.2) (.int .i64 (wrap64 ((rd x323000_1 x34_1) - (wrap64 ((rd x323001_1 x34_1) + (rd x323002_1 x34_1))))))) (fun _ hk => ⟨hk.1.1, hk.1.2⟩)⟩, ⟨by (with_reducible repeat (first | apply Kd.R_alloc | apply Kd.R_drewN | apply Kd.R_drew)); exact Kd.R_mono (Kd.R_far (p := ⟨go52, (x34_1 : Int).toNat, none⟩) (Kd.R_mono HO_323002.out (fun k_ hk => (⟨hk, fun e_ => hk.1 (by rw [e_]; rfl)⟩ : _ ∧ k_ ≠ go52))) (fun _ hk => hk.2) (.int .i64 (wrap64 ((rd x323000_1 x34_1) - (wrap64 ((rd x323001_1 x34_1) + (rd x323002_1 x34_1))))))) (fun _ hk => ⟨hk.1.1, hk.1.2⟩)⟩, ⟨by (with_reducible repeat (first | apply Kd.R_alloc | apply Kd.R_drewN | apply Kd.R_drew)); exact Kd.R_mono (Kd.R_far (p := ⟨go52, (x34_1 : Int).toNat, none⟩) (Kd.R_types HO_323003.out GG52.out (by decide)) (fun _ hk => hk.2) (.int .i64 (wrap64 ((rd x323000_1 x34_1) - (wrap64 ((rd x323001_1 x34_1) + (rd x323002_1 x34_1))))))) (fun _ hk => hk.1)⟩, ⟨by (with_reducible repeat (first | apply Kd.R_alloc | apply Kd.R_drewN | apply Kd.R_drew)); exact Kd.R_mono (Kd.R_far (p := ⟨go52, (x34_1 : Int).toNat, none⟩) (Kd.R_types HO_323004.out GG52.out (by decide)) (fun _ hk => hk.2) (.int .i64 (wrap64 ((rd x323000_1 x34_1) - (wrap64 ((rd x323001_1 x34_1) + (rd x323002_1 x34_1))))))) (fun _ hk => hk.1)⟩, ⟨by (with_reducible repeat (first | refine blk_drewN ?_ _ | refine blk_drew ?_ | refine blk_alloc ?_ _)); refine blk_far ?_ (by have h_ := Kd.R_ne HO_323000.out BK304.out (by decide); intro e_; exact h_ (by rw [e_]; rfl)) _; (with_reducible repeat (first | refine blk_drewN ?_ _ | refine blk_drew ?_ | refine blk_alloc ?_ _)); exact BK304.out⟩, ⟨by (with_reducible repeat (first | refine blk_drewN ?_ _ | refine blk_drew ?_ | refine blk_alloc ?_ _)); refine blk_far ?_ (by have h_ := Kd.R_ne HO_323000.out BK305.out (by decide); intro e_; exact h_ (by rw [e_]; rfl)) _; (with_reducible repeat (first | refine blk_drewN ?_ _ | refine blk_drew ?_ | refine blk_alloc ?_ _)); exact BK305.out⟩, ⟨by (with_reducible repeat (first | refine blk_drewN ?_ _ | refine blk_drew ?_ | refine blk_alloc ?_ _)); refine blk_far ?_ (by have h_ := Kd.R_ne HO_323000.out BK322.out (by decide); intro e_; exact h_ (by rw [e_]; rfl)) _; (with_reducible repeat (first | refine blk_drewN ?_ _ | refine blk_drew ?_ | refine blk_alloc ?_ _)); exact BK322.out⟩, ⟨by repeat (first | (with_reducible first | exact HB.out | apply below_alloc | apply pw_below_drewN | apply below_drew1 | refine below_set ?_ GB52.out | refine below_set ?_ GE304.out | refine below_set ?_ GE305.out | refine below_set ?_ GE322.out) | exact HB.out)⟩⟩
    ·rw [if_neg c47] at H
     have c47b0 : decide (x34_1 < (t307.length : Int)) = false := decide_eq_false c47
     clear c47
     obtain ⟨t327, A580, H⟩ := Option.bind_eq_some_iff.mp H
     try dsimp only at H
     have A58 := Aside0.mk A580
     clear A580
     obtain ⟨t328, A590, H⟩ := Option.bind_eq_some_iff.mp H
     try dsimp only at H
     have A59 := Aside0.mk A590
     clear A590
     simp only [Option.some.injEq, Prod.mk.injEq] at H
     obtain ⟨rfl, rfl, rfl, rfl, rfl, rfl, rfl, rfl, rfl, rfl⟩ := H
     have hnb60 := NB304_305.out
     have hnc60 := NB305_304.out
     have hnb61 := NB304_322.out
     have hnc61 := NB322_304.out
     obtain ⟨hcz62_0, hcz62_1, hcz62_2, hcz62_3, hcz62_4, hcz62_5, hfz62_0, hfz62_1, hfz62_2, hfz62_3, hfz62_4, hfz62_5⟩ := cz6 BK304.out
     go_wp2_with (first | ((with_reducible refine gate_callee (f := 92) rfl ?_); refine gL (some 57) Try.func92 #[.agg #[.slice A0_0 l0_0.length c0_0, .int .i64 a0_1, .int .i64 a0_2, .int .i64 a0_3, .int .i64 a0_4, .int .i64 a0_5], .int .i64 0] ?_; (with_reducible refine (impl_firstSeat.calls _ _ l0_0 a0_1 a0_2 a0_3 a0_4 a0_5 0 t327 _ ?side1 ?side2 A58.out).mono ?_); (case side1 => exact cA (Kd.C_below HR0_0.out HB.out)); (case side2 => exact HC0_0.out); rintro e w63 ⟨rfl, hb⟩; refine ⟨_, rfl, ?_⟩; replace HO_323000 := Aside0.mk (Kd.R_below (rA HO_323000.out) hb); replace HO_323001 := Aside0.mk (Kd.R_below (rA HO_323001.out) hb); replace HO_323002 := Aside0.mk (Kd.R_below (rA HO_323002.out) hb); replace HO_323003 := Aside0.mk (Kd.R_below (rA HO_323003.out) hb); replace HO_323004 := Aside0.mk (Kd.R_below (rA HO_323004.out) hb); replace BK304 := Aside0.mk (blk_below (kA BK304.out) hb); replace BK305 := Aside0.mk (blk_below (kA BK305.out) hb); replace BK322 := Aside0.mk (blk_below (kA BK322.out) hb); replace HB := Aside0.mk (below_step (bA HB.out) hb); (try clear hb); have hnb64 := NB322_305.out; have hnc64 := NB305_322.out; obtain ⟨hcz65_0, hcz65_1, hcz65_2, hcz65_3, hcz65_4, hcz65_5, hcz65_6, hcz65_7, hcz65_8, hfz65_0, hfz65_1, hfz65_2, hfz65_3, hfz65_4, hfz65_5, hfz65_6, hfz65_7, hfz65_8⟩ := cz9 BK322.out; obtain ⟨Ao66, co66, eo66⟩ := Kd.R_slice HO_323000.out; subst eo66; obtain ⟨Ao67, co67, eo67⟩ := Kd.R_slice HO_323001.out; subst eo67; obtain ⟨Ao68, co68, eo68⟩ := Kd.R_slice HO_323002.out; subst eo68) | ((with_reducible refine gate_callee (f := 93) rfl ?_); refine gL (some 61) Try.func93 #[.agg #[.slice Ao66 x323000_1.length co66, .slice Ao67 x323001_1.length co67, .slice Ao68 x323002_1.length co68, .slice Ao31 y316.length co31, .slice Ao30 y319.length co30, .int .i64 0, .int .i64 a0_3, .int .i64 0, .int .i64 a0_5], .int .i64 t327, .int .i64 t327] ?_; (with_reducible refine (impl_turnFrom.calls k1 _ _ x323000_1 _ _ x323001_1 _ _ x323002_1 _ _ y316 _ _ y319 0 a0_3 0 a0_5 t327 t327 t328 _ ?side1 ?side2 ?side3 ?side4 ?side5 ?side6 ?side7 ?side8 ?side9 ?side10 A59.out).mono ?_); (case side1 => exact cA ((Kd.R_reads' HO_323000.out).2.2)); (case side2 => exact (Kd.R_reads' HO_323000.out).2.1); (case side3 => exact cA ((Kd.R_reads' HO_323001.out).2.2)); (case side4 => exact (Kd.R_reads' HO_323001.out).2.1); (case side5 => exact cA ((Kd.R_reads' HO_323002.out).2.2)); (case side6 => exact (Kd.R_reads' HO_323002.out).2.1); (case side7 => exact cA ((Kd.R_reads' HO_323003.out).2.2)); (case side8 => exact (Kd.R_reads' HO_323003.out).2.1); (case side9 => exact cA ((Kd.R_reads' HO_323004.out).2.2)); (case side10 => exact (Kd.R_reads' HO_323004.out).2.1); rintro e w69 ⟨rfl, hb⟩; refine ⟨_, rfl, ?_⟩; replace HO_323000 := Aside0.mk (Kd.R_below (rA HO_323000.out) hb); replace HO_323001 := Aside0.mk (Kd.R_below (rA HO_323001.out) hb); replace HO_323002 := Aside0.mk (Kd.R_below (rA HO_323002.out) hb); replace HO_323003 := Aside0.mk (Kd.R_below (rA HO_323003.out) hb); replace HO_323004 := Aside0.mk (Kd.R_below (rA HO_323004.out) hb); replace BK304 := Aside0.mk (blk_below (kA BK304.out) hb); replace BK305 := Aside0.mk (blk_below (kA BK305.out) hb); replace BK322 := Aside0.mk (blk_below (kA BK322.out) hb); replace HB := Aside0.mk (below_step (bA HB.out) hb); (try clear hb); obtain ⟨hcz70_0, hcz70_1, hcz70_2, hcz70_3, hcz70_4, hcz70_5, hcz70_6, hcz70_7, hcz70_8, hfz70_0, hfz70_1, hfz70_2, hfz70_3, hfz70_4, hfz70_5, hfz70_6, hfz70_7, hfz70_8⟩ := cz9 BK322.out; obtain ⟨hcz71_0, hcz71_1, hcz71_2, hcz71_3, hcz71_4, hcz71_5, hcz71_6, hcz71_7, hcz71_8, hfz71_0, hfz71_1, hfz71_2, hfz71_3, hfz71_4, hfz71_5, hfz71_6, hfz71_7, hfz71_8⟩ := cz9 BK305.out))
     refine bodyPost_ret (results_ct rfl _ _ gb305 28 #[.slice Ao66 x323000_1.length co66, .slice Ao67 x323001_1.length co67, .slice Ao68 x323002_1.length co68, .slice Ao31 y316.length co31, .slice Ao30 y319.length co30, .int .i64 t328, .int .i64 a0_3, .int .i64 0, .int .i64 a0_5] (0, 0) _ rfl (by (with_reducible repeat (first | refine blk_drewN ?_ _ | refine blk_drew ?_ | refine blk_alloc ?_ _)); refine blk_put (cs := #[.slice Ao66 x323000_1.length co66, .slice Ao67 x323001_1.length co67, .slice Ao68 x323002_1.length co68, .slice Ao31 y316.length co31, .slice Ao30 y319.length co30, .int .i64 t328, .int .i64 a0_3, .int .i64 0, .int .i64 0]) ?_ 8 _ rfl; (with_reducible repeat (first | refine blk_drewN ?_ _ | refine blk_drew ?_ | refine blk_alloc ?_ _)); refine blk_put (cs := #[.slice Ao66 x323000_1.length co66, .slice Ao67 x323001_1.length co67, .slice Ao68 x323002_1.length co68, .slice Ao31 y316.length co31, .slice Ao30 y319.length co30, .int .i64 t328, .int .i64 a0_3, .int .i64 0, .int .i64 0]) ?_ 7 _ rfl; (with_reducible repeat (first | refine blk_drewN ?_ _ | refine blk_drew ?_ | refine blk_alloc ?_ _)); refine blk_put (cs := #[.slice Ao66 x323000_1.length co66, .slice Ao67 x323001_1.length co67, .slice Ao68 x323002_1.length co68, .slice Ao31 y316.length co31, .slice Ao30 y319.length co30, .int .i64 t328, .int .i64 0, .int .i64 0, .int .i64 0]) ?_ 6 _ rfl; (with_reducible repeat (first | refine blk_drewN ?_ _ | refine blk_drew ?_ | refine blk_alloc ?_ _)); refine blk_put (cs := #[.slice Ao66 x323000_1.length co66, .slice Ao67 x323001_1.length co67, .slice Ao68 x323002_1.length co68, .slice Ao31 y316.length co31, .slice Ao30 y319.length co30, .int .i64 0, .int .i64 0, .int .i64 0, .int .i64 0]) ?_ 5 _ rfl; (with_reducible repeat (first | refine blk_drewN ?_ _ | refine blk_drew ?_ | refine blk_alloc ?_ _)); refine blk_put (cs := #[.slice Ao66 x323000_1.length co66, .slice Ao67 x323001_1.length co67, .slice Ao68 x323002_1.length co68, .slice Ao31 y316.length co31, .slice none 0 0, .int .i64 0, .int .i64 0, .int .i64 0, .int .i64 0]) ?_ 4 _ rfl; (with_reducible repeat (first | refine blk_drewN ?_ _ | refine blk_drew ?_ | refine blk_alloc ?_ _)); refine blk_put (cs := #[.slice Ao66 x323000_1.length co66, .slice Ao67 x323001_1.length co67, .slice Ao68 x323002_1.length co68, .slice none 0 0, .slice none 0 0, .int .i64 0, .int .i64 0, .int .i64 0, .int .i64 0]) ?_ 3 _ rfl; (with_reducible repeat (first | refine blk_drewN ?_ _ | refine blk_drew ?_ | refine blk_alloc ?_ _)); refine blk_put (cs := #[.slice Ao66 x323000_1.length co66, .slice Ao67 x323001_1.length co67, .slice none 0 0, .slice none 0 0, .slice none 0 0, .int .i64 0, .int .i64 0, .int .i64 0, .int .i64 0]) ?_ 2 _ rfl; (with_reducible repeat (first | refine blk_drewN ?_ _ | refine blk_drew ?_ | refine blk_alloc ?_ _)); refine blk_put (cs := #[.slice Ao66 x323000_1.length co66, .slice none 0 0, .slice none 0 0, .slice none 0 0, .slice none 0 0, .int .i64 0, .int .i64 0, .int .i64 0, .int .i64 0]) ?_ 1 _ rfl; (with_reducible repeat (first | refine blk_drewN ?_ _ | refine blk_drew ?_ | refine blk_alloc ?_ _)); refine blk_put (cs := #[.slice none 0 0, .slice none 0 0, .slice none 0 0, .slice none 0 0, .slice none 0 0, .int .i64 0, .int .i64 0, .int .i64 0, .int .i64 0]) ?_ 0 _ rfl; (with_reducible repeat (first | refine blk_drewN ?_ _ | refine blk_drew ?_ | refine blk_alloc ?_ _)); refine blk_far ?_ NB305_322.out _; (with_reducible repeat (first | refine blk_drewN ?_ _ | refine blk_drew ?_ | refine blk_alloc ?_ _)); exact BK305.out) Try.underlying28 rfl (by kernel_rfl)) rfl ?_
     exact ⟨_, _, _, _, _, by first | rfl | (simp [errW_none, errW_some] <;> rfl) | (simp [*, errW_none, errW_some] <;> rfl), by (with_reducible repeat (first | apply Kd.R_alloc | apply Kd.R_drewN | apply Kd.R_drew)); exact Kd.R_mono (Kd.R_far (p := ⟨gb305, 8, none⟩) (Kd.R_far (p := ⟨gb305, 7, none⟩) (Kd.R_far (p := ⟨gb305, 6, none⟩) (Kd.R_far (p := ⟨gb305, 5, none⟩) (Kd.R_far (p := ⟨gb305, 4, none⟩) (Kd.R_far (p := ⟨gb305, 3, none⟩) (Kd.R_far (p := ⟨gb305, 2, none⟩) (Kd.R_far (p := ⟨gb305, 1, none⟩) (Kd.R_far (p := ⟨gb305, 0, none⟩) (Kd.R_far (p := ⟨gb322, 5, none⟩) (Kd.R_types (Kd.R_types HO_323000.out BK322.out (by decide)) BK305.out (by decide)) (fun _ hk => hk.1.2) (.int .i64 t328)) (fun _ hk => hk.2) (.slice Ao66 x323000_1.length co66)) (fun _ hk => hk.2) (.slice Ao67 x323001_1.length co67)) (fun _ hk => hk.2) (.slice Ao68 x323002_1.length co68)) (fun _ hk => hk.2) (.slice Ao31 y316.length co31)) (fun _ hk => hk.2) (.slice Ao30 y319.length co30)) (fun _ hk => hk.2) (.int .i64 t328)) (fun _ hk => hk.2) (.int .i64 a0_3)) (fun _ hk => hk.2) (.int .i64 0)) (fun _ hk => hk.2) (.int .i64 a0_5)) (fun _ hk => ⟨hk.1.1.1, hk.1.1.2⟩), by (with_reducible repeat (first | apply Kd.R_alloc | apply Kd.R_drewN | apply Kd.R_drew)); exact Kd.R_mono (Kd.R_far (p := ⟨gb305, 8, none⟩) (Kd.R_far (p := ⟨gb305, 7, none⟩) (Kd.R_far (p := ⟨gb305, 6, none⟩) (Kd.R_far (p := ⟨gb305, 5, none⟩) (Kd.R_far (p := ⟨gb305, 4, none⟩) (Kd.R_far (p := ⟨gb305, 3, none⟩) (Kd.R_far (p := ⟨gb305, 2, none⟩) (Kd.R_far (p := ⟨gb305, 1, none⟩) (Kd.R_far (p := ⟨gb305, 0, none⟩) (Kd.R_far (p := ⟨gb322, 5, none⟩) (Kd.R_types (Kd.R_types HO_323001.out BK322.out (by decide)) BK305.out (by decide)) (fun _ hk => hk.1.2) (.int .i64 t328)) (fun _ hk => hk.2) (.slice Ao66 x323000_1.length co66)) (fun _ hk => hk.2) (.slice Ao67 x323001_1.length co67)) (fun _ hk => hk.2) (.slice Ao68 x323002_1.length co68)) (fun _ hk => hk.2) (.slice Ao31 y316.length co31)) (fun _ hk => hk.2) (.slice Ao30 y319.length co30)) (fun _ hk => hk.2) (.int .i64 t328)) (fun _ hk => hk.2) (.int .i64 a0_3)) (fun _ hk => hk.2) (.int .i64 0)) (fun _ hk => hk.2) (.int .i64 a0_5)) (fun _ hk => ⟨hk.1.1.1, hk.1.1.2⟩), by (with_reducible repeat (first | apply Kd.R_alloc | apply Kd.R_drewN | apply Kd.R_drew)); exact Kd.R_mono (Kd.R_far (p := ⟨gb305, 8, none⟩) (Kd.R_far (p := ⟨gb305, 7, none⟩) (Kd.R_far (p := ⟨gb305, 6, none⟩) (Kd.R_far (p := ⟨gb305, 5, none⟩) (Kd.R_far (p := ⟨gb305, 4, none⟩) (Kd.R_far (p := ⟨gb305, 3, none⟩) (Kd.R_far (p := ⟨gb305, 2, none⟩) (Kd.R_far (p := ⟨gb305, 1, none⟩) (Kd.R_far (p := ⟨gb305, 0, none⟩) (Kd.R_far (p := ⟨gb322, 5, none⟩) (Kd.R_types (Kd.R_types HO_323002.out BK322.out (by decide)) BK305.out (by decide)) (fun _ hk => hk.1.2) (.int .i64 t328)) (fun _ hk => hk.2) (.slice Ao66 x323000_1.length co66)) (fun _ hk => hk.2) (.slice Ao67 x323001_1.length co67)) (fun _ hk => hk.2) (.slice Ao68 x323002_1.length co68)) (fun _ hk => hk.2) (.slice Ao31 y316.length co31)) (fun _ hk => hk.2) (.slice Ao30 y319.length co30)) (fun _ hk => hk.2) (.int .i64 t328)) (fun _ hk => hk.2) (.int .i64 a0_3)) (fun _ hk => hk.2) (.int .i64 0)) (fun _ hk => hk.2) (.int .i64 a0_5)) (fun _ hk => ⟨hk.1.1.1, hk.1.1.2⟩), by (with_reducible repeat (first | apply Kd.R_alloc | apply Kd.R_drewN | apply Kd.R_drew)); exact Kd.R_mono (Kd.R_far (p := ⟨gb305, 8, none⟩) (Kd.R_far (p := ⟨gb305, 7, none⟩) (Kd.R_far (p := ⟨gb305, 6, none⟩) (Kd.R_far (p := ⟨gb305, 5, none⟩) (Kd.R_far (p := ⟨gb305, 4, none⟩) (Kd.R_far (p := ⟨gb305, 3, none⟩) (Kd.R_far (p := ⟨gb305, 2, none⟩) (Kd.R_far (p := ⟨gb305, 1, none⟩) (Kd.R_far (p := ⟨gb305, 0, none⟩) (Kd.R_far (p := ⟨gb322, 5, none⟩) (Kd.R_types (Kd.R_types HO_323003.out BK322.out (by decide)) BK305.out (by decide)) (fun _ hk => hk.1.2) (.int .i64 t328)) (fun _ hk => hk.2) (.slice Ao66 x323000_1.length co66)) (fun _ hk => hk.2) (.slice Ao67 x323001_1.length co67)) (fun _ hk => hk.2) (.slice Ao68 x323002_1.length co68)) (fun _ hk => hk.2) (.slice Ao31 y316.length co31)) (fun _ hk => hk.2) (.slice Ao30 y319.length co30)) (fun _ hk => hk.2) (.int .i64 t328)) (fun _ hk => hk.2) (.int .i64 a0_3)) (fun _ hk => hk.2) (.int .i64 0)) (fun _ hk => hk.2) (.int .i64 a0_5)) (fun _ hk => hk.1.1), by (with_reducible repeat (first | apply Kd.R_alloc | apply Kd.R_drewN | apply Kd.R_drew)); exact Kd.R_mono (Kd.R_far (p := ⟨gb305, 8, none⟩) (Kd.R_far (p := ⟨gb305, 7, none⟩) (Kd.R_far (p := ⟨gb305, 6, none⟩) (Kd.R_far (p := ⟨gb305, 5, none⟩) (Kd.R_far (p := ⟨gb305, 4, none⟩) (Kd.R_far (p := ⟨gb305, 3, none⟩) (Kd.R_far (p := ⟨gb305, 2, none⟩) (Kd.R_far (p := ⟨gb305, 1, none⟩) (Kd.R_far (p := ⟨gb305, 0, none⟩) (Kd.R_far (p := ⟨gb322, 5, none⟩) (Kd.R_types (Kd.R_types HO_323004.out BK322.out (by decide)) BK305.out (by decide)) (fun _ hk => hk.1.2) (.int .i64 t328)) (fun _ hk => hk.2) (.slice Ao66 x323000_1.length co66)) (fun _ hk => hk.2) (.slice Ao67 x323001_1.length co67)) (fun _ hk => hk.2) (.slice Ao68 x323002_1.length co68)) (fun _ hk => hk.2) (.slice Ao31 y316.length co31)) (fun _ hk => hk.2) (.slice Ao30 y319.length co30)) (fun _ hk => hk.2) (.int .i64 t328)) (fun _ hk => hk.2) (.int .i64 a0_3)) (fun _ hk => hk.2) (.int .i64 0)) (fun _ hk => hk.2) (.int .i64 a0_5)) (fun _ hk => hk.1.1), bA HB.out⟩
 ·replace c3 := Bool.eq_false_iff.mpr c3
  subst c3
  rw [if_neg (show ¬ (false = true) by decide)] at H
  try dsimp only at H
  simp only [Option.some.injEq, Prod.mk.injEq] at H
  obtain ⟨rfl, rfl, rfl, rfl, rfl, rfl, rfl, rfl, rfl, rfl⟩ := H
  go_enter Try.func51, Try.ntmps51
  go_wp2_with (first | ((with_reducible refine gate_dst (N := 1) rfl ?_); refine bE 1 #[.slice A0_0 l0_0.length c0_0, .int .i64 a0_1, .int .i64 a0_2, .int .i64 a0_3, .int .i64 a0_4, .int .i64 a0_5] 59 ?_; intro gb304 hg w72 hbox hb; have BK304 := Aside0.mk (hbox); have GW304 := Aside0.mk (gE hg (bA HB.out)); have GE304 := Aside0.mk (gE hg (bA HB.out)); replace HB := Aside0.mk (below_step (bA HB.out) hb); clear hb hbox hg) | ((with_reducible refine gate_dst (N := 2) rfl ?_); refine bE 2 #[.slice none 0 0, .slice none 0 0, .slice none 0 0, .slice none 0 0, .slice none 0 0, .int .i64 0, .int .i64 0, .int .i64 0, .int .i64 0] 28 ?_; intro gb305 hg w73 hbox hb; have BK305 := Aside0.mk (hbox); have GW305 := Aside0.mk (gE hg (bA HB.out)); have GE305 := Aside0.mk (gE hg (bA HB.out)); replace HB := Aside0.mk (below_step (bA HB.out) hb); have NB304_305 := Aside0.mk ((by rw [hg]; exact Nat.ne_of_lt (blk_lt (kA BK304.out)) : gb304 ≠ gb305)); have NB305_304 := Aside0.mk ((by rw [hg]; exact Nat.ne_of_gt (blk_lt (kA BK304.out)) : gb305 ≠ gb304)); replace BK304 := Aside0.mk (blk_below (kA BK304.out) hb); clear hb hbox hg; have hnb74 := NB304_305.out; have hnc74 := NB305_304.out; obtain ⟨hcz75_0, hcz75_1, hcz75_2, hcz75_3, hcz75_4, hcz75_5, hfz75_0, hfz75_1, hfz75_2, hfz75_3, hfz75_4, hfz75_5⟩ := cz6 BK304.out) | ((with_reducible refine gate_callee (f := 88) rfl ?_); refine gL (some 9) Try.func88 #[.agg #[.slice A0_0 l0_0.length c0_0, .int .i64 a0_1, .int .i64 a0_2, .int .i64 a0_3, .int .i64 a0_4, .int .i64 a0_5]] ?_; (with_reducible refine (impl_IsTable.calls k _ _ l0_0 a0_1 a0_2 a0_3 a0_4 a0_5 false _ ?side1 ?side2 A2.out).mono ?_); (case side1 => exact cA (Kd.C_below HR0_0.out HB.out)); (case side2 => exact HC0_0.out); rintro e w76 ⟨rfl, hb⟩; refine ⟨_, rfl, ?_⟩; replace BK304 := Aside0.mk (blk_below (kA BK304.out) hb); replace BK305 := Aside0.mk (blk_below (kA BK305.out) hb); replace HB := Aside0.mk (below_step (bA HB.out) hb); (try clear hb); obtain ⟨hcz77_0, hcz77_1, hcz77_2, hcz77_3, hcz77_4, hcz77_5, hcz77_6, hcz77_7, hcz77_8, hfz77_0, hfz77_1, hfz77_2, hfz77_3, hfz77_4, hfz77_5, hfz77_6, hfz77_7, hfz77_8⟩ := cz9 BK305.out))
  refine bodyPost_ret (results_ct rfl _ _ gb305 28 #[.slice none 0 0, .slice none 0 0, .slice none 0 0, .slice none 0 0, .slice none 0 0, .int .i64 0, .int .i64 0, .int .i64 0, .int .i64 0] (0, 0) _ rfl (by (with_reducible repeat (first | refine blk_drewN ?_ _ | refine blk_drew ?_ | refine blk_alloc ?_ _)); refine blk_put (cs := #[.slice none 0 0, .slice none 0 0, .slice none 0 0, .slice none 0 0, .slice none 0 0, .int .i64 0, .int .i64 0, .int .i64 0, .int .i64 0]) ?_ 8 _ rfl; (with_reducible repeat (first | refine blk_drewN ?_ _ | refine blk_drew ?_ | refine blk_alloc ?_ _)); refine blk_put (cs := #[.slice none 0 0, .slice none 0 0, .slice none 0 0, .slice none 0 0, .slice none 0 0, .int .i64 0, .int .i64 0, .int .i64 0, .int .i64 0]) ?_ 7 _ rfl; (with_reducible repeat (first | refine blk_drewN ?_ _ | refine blk_drew ?_ | refine blk_alloc ?_ _)); refine blk_put (cs := #[.slice none 0 0, .slice none 0 0, .slice none 0 0, .slice none 0 0, .slice none 0 0, .int .i64 0, .int .i64 0, .int .i64 0, .int .i64 0]) ?_ 6 _ rfl; (with_reducible repeat (first | refine blk_drewN ?_ _ | refine blk_drew ?_ | refine blk_alloc ?_ _)); refine blk_put (cs := #[.slice none 0 0, .slice none 0 0, .slice none 0 0, .slice none 0 0, .slice none 0 0, .int .i64 0, .int .i64 0, .int .i64 0, .int .i64 0]) ?_ 5 _ rfl; (with_reducible repeat (first | refine blk_drewN ?_ _ | refine blk_drew ?_ | refine blk_alloc ?_ _)); refine blk_put (cs := #[.slice none 0 0, .slice none 0 0, .slice none 0 0, .slice none 0 0, .slice none 0 0, .int .i64 0, .int .i64 0, .int .i64 0, .int .i64 0]) ?_ 4 _ rfl; (with_reducible repeat (first | refine blk_drewN ?_ _ | refine blk_drew ?_ | refine blk_alloc ?_ _)); refine blk_put (cs := #[.slice none 0 0, .slice none 0 0, .slice none 0 0, .slice none 0 0, .slice none 0 0, .int .i64 0, .int .i64 0, .int .i64 0, .int .i64 0]) ?_ 3 _ rfl; (with_reducible repeat (first | refine blk_drewN ?_ _ | refine blk_drew ?_ | refine blk_alloc ?_ _)); refine blk_put (cs := #[.slice none 0 0, .slice none 0 0, .slice none 0 0, .slice none 0 0, .slice none 0 0, .int .i64 0, .int .i64 0, .int .i64 0, .int .i64 0]) ?_ 2 _ rfl; (with_reducible repeat (first | refine blk_drewN ?_ _ | refine blk_drew ?_ | refine blk_alloc ?_ _)); refine blk_put (cs := #[.slice none 0 0, .slice none 0 0, .slice none 0 0, .slice none 0 0, .slice none 0 0, .int .i64 0, .int .i64 0, .int .i64 0, .int .i64 0]) ?_ 1 _ rfl; (with_reducible repeat (first | refine blk_drewN ?_ _ | refine blk_drew ?_ | refine blk_alloc ?_ _)); refine blk_put (cs := #[.slice none 0 0, .slice none 0 0, .slice none 0 0, .slice none 0 0, .slice none 0 0, .int .i64 0, .int .i64 0, .int .i64 0, .int .i64 0]) ?_ 0 _ rfl; (with_reducible repeat (first | refine blk_drewN ?_ _ | refine blk_drew ?_ | refine blk_alloc ?_ _)); exact BK305.out) Try.underlying28 rfl (by kernel_rfl)) rfl ?_
  exact ⟨_, _, _, _, _, by first | rfl | (simp [errW_none, errW_some] <;> rfl) | (simp [*, errW_none, errW_some] <;> rfl), by first | exact Kd.R_nil _ _ _ _ _ | exact Kd.N_nil _ _ _ _ _ | exact Kd.V_nil _ _ _ _ _ | exact Kd.Q_nil _ _ _ _ _ | exact Kd.S_nil _ _ _ _ _, by first | exact Kd.R_nil _ _ _ _ _ | exact Kd.N_nil _ _ _ _ _ | exact Kd.V_nil _ _ _ _ _ | exact Kd.Q_nil _ _ _ _ _ | exact Kd.S_nil _ _ _ _ _, by first | exact Kd.R_nil _ _ _ _ _ | exact Kd.N_nil _ _ _ _ _ | exact Kd.V_nil _ _ _ _ _ | exact Kd.Q_nil _ _ _ _ _ | exact Kd.S_nil _ _ _ _ _, by first | exact Kd.R_nil _ _ _ _ _ | exact Kd.N_nil _ _ _ _ _ | exact Kd.V_nil _ _ _ _ _ | exact Kd.Q_nil _ _ _ _ _ | exact Kd.S_nil _ _ _ _ _, by first | exact Kd.R_nil _ _ _ _ _ | exact Kd.N_nil _ _ _ _ _ | exact Kd.V_nil _ _ _ _ _ | exact Kd.Q_nil _ _ _ _ _ | exact Kd.S_nil _ _ _ _ _, bA HB.out⟩
end Go.Proofs.Ytmcobmphmmgdmaa.QFnExactFirstRound
